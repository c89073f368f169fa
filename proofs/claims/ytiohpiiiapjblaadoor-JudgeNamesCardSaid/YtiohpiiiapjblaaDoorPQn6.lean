/-
  Part 6 of the lemmas of these laws: OpNames, JudgeNames.
-/
import Derived.Test.YtiohpiiiapjblaaDoorPQn5
namespace Go.Proofs.YtiohpiiiapjblaaDoor.W
open Go.RowKit Go.Proofs.YtiohpiiiapjblaaDoor.G
set_option linter.unusedVariables false
set_option maxRecDepth 20000
set_option maxHeartbeats 8000000
attribute [local irreducible] RS RX
theorem E20 : Enters Tryd.prog 20 := .mk Tryd.func20 (by kernel_rfl) rfl
theorem E42 : Enters Tryd.prog 42 := .mk Tryd.func42 (by kernel_rfl) rfl
theorem E46 : Enters Tryd.prog 46 := .mk Tryd.func46 (by kernel_rfl) rfl
theorem messageO {S0 : Nat → Prop} (o : S.OpV) (ho : o.ok) (pa : Option Addr) (pc : Nat) (w : World) (D0 : WRow .u8 32 S0 w pa o.n o.ids) (hc : o.n ≤ pc) :
  Calls Tryd.prog 12 #[.agg ([.int .u32 o.au, .slice pa o.n pc, .int .u64 o.st, .int .u8 o.k, .string o.key, .int .u8 o.vk, .int .i64 o.num, .int .u64 o.bits, .string o.t, .int .u32 o.e, .int .u32 o.s] : List Value).toArray] w (Ret w fun v w' => ∃ a' n' c' xs, v = .tuple #[.slice a' n' c', .int .i64 (S.checkE o.bare)] ∧ IOwn w.heap.size w' 5 .u8 a' n' c' xs ∧ xs = if S.checkE o.bare = 0 then S.msgS o else []) := by
 replace D0 := D0.weaken (T := fun k => k < w.heap.size) (fun k hk _ => hk)
 have o1 := ho.au
 have o2 := ho.st
 have o3 := ho.k
 have o4 := ho.vk
 have o5 := ho.num
 have o6 := ho.bits
 have o7 := ho.e
 have o8 := ho.s
 have o9 := ho.n
 have o10 := ho.key
 have o11 := ho.t
 have e1 := S.numS_len o.au
 have e2 := S.numS_len o.st
 have e3 := S.numS_len (o.n : Int)
 have e4 := D0.len
 have e5 := S.numS_len (o.key.size : Int)
 have e6 := S.valS_len o.vk o.num o.bits o.t o11
 have e7 := S.numS_len o.e
 have e8 := S.numS_len o.s
 have hE := Ext.refl w
 refine enterU 70 Tryd.func12 rfl rfl ?_
 refine sq fun K1 hK1 => ?_
 refine RS.box rfl rfl (fun b2 w2 e2 s2 x2 B2 => ?_)
 refine RS.nm ?_
 replace hE := Ext.tr hE x2
 replace D0 := D0.ext x2
 have zw2 := x2.size
 refine RS.asS rfl ?_
 refine RS.asI rfl ?_
 refine nl hK1 ?_
 refine sq fun K3 hK3 => ?_
 refine RS.o (D.buildS T30 F30 (ps := []) rfl rfl) ?_
 refine RS.o (D.fieldL 9 rfl Tryd.underlying32 rfl C30 (by decide) rfl) ?_
 refine RS.storeAggB rfl rfl C30 (by decide) rfl rfl B2 rfl (fun w4 y4 N4 => ?_)
 replace hE := hE.trans (y4.belo)
 replace D0 := D0.sto y4
 have zw4 := y4.size
 replace B2 := N4
 refine nl hK3 ?_
 refine wp_seq_k (fun K5 hK5 => ?_)
 refine sq fun K6 hK6 => ?_
 refine RS.o (D.loadAgg rfl Tryd.underlying32 rfl C32 (by decide) rfl (B2.cellsN 11 rfl)) ?_
 refine RS.call E20 (checkO o.bare (S.OpV.bare_ok ho) _ _ _ D0 hc) rfl (fun v7 w7 x7 A7 => ?_)
 replace hE := Ext.tr hE x7
 replace D0 := D0.ext x7
 replace B2 := B2.ext x7
 have zw7 := x7.size
 subst A7
 refine RS.nm ?_
 refine RS.asI rfl ?_
 refine nl hK6 ?_
 refine sq fun K8 hK8 => ?_
 refine RS.mvI rfl ?_
 refine RS.o (D.ne rfl rfl) ?_
 refine nl hK8 ?_
 refine C.ifn rfl (fun c9 => ?_) (fun c9 => ?_)
 ·have hnz := c9
  refine sq fun K10 hK10 => ?_
  refine RS.mvI rfl ?_
  refine RS.asS rfl ?_
  refine RS.asI rfl ?_
  refine nl hK10 ?_
  refine wp_ret ?_
  refine ret (rs := [.tmp 2, .tmp 3]) (vs := [.slice _ _ _, .int _ _]) (v := (.tuple #[.slice _ _ _, .int _ _])) rfl ⟨rfl, rfl, trivial⟩ rfl ?_
  exact ⟨_, rfl, hE, none, 0, 0, [], rfl, IOwn.nil _ _ _ _, (if_neg hnz).symm⟩
 have hz := c9
 obtain ⟨q1, q2, q3⟩ := S.check_zero.1 hz
 have hfa := q3.2.2.2.2
 have q4 : o.n ≤ 4 := q1
 refine wp_skip ?_
 refine hK5 _ _ ?_
 refine sq fun K11 hK11 => ?_
 refine RS.o (D.fieldL 1 rfl Tryd.underlying32 rfl C23 (by decide) rfl) ?_
 refine RS.o (D.load rfl Tryd.underlying23 rfl (B2.cell rfl)) ?_
 refine RS.call E42 (idsW _ _ _ _ _ D0 hc (by have : o.n ≤ 4 := q1; omega) q2) rfl (fun v12 w12 x12 A12 => ?_)
 replace hE := Ext.tr hE x12
 replace D0 := D0.ext x12
 replace B2 := B2.ext x12
 have zw12 := x12.size
 obtain ⟨a12, n12, c12, rfl, OP⟩ := A12
 have hpc := OP.own.pre
 refine RS.nm ?_
 refine RS.move (v := .tuple _) rfl ?_
 refine RS.extract (v := .slice _ _ _) rfl rfl ?_
 refine RS.extract (v := .int _ _) rfl rfl ?_
 refine RS.asS rfl ?_
 refine RS.asI rfl ?_
 refine nl hK11 ?_
 refine wp_seq_k (fun K13 hK13 => ?_)
 refine regionM 13 [25, 26, 27, 28, 29, 30, 31, 32, 33, 34, 35, 36, 37] (fun i v w => match i with | 0 => ∃ a n c, v = .slice a n c ∧ IRow .u8 (fun _ => True) w a n [111] ∧ n ≤ c | 1 => v = .pointer (some ⟨b2, 0, none⟩) | 2 => v = .int .u32 o.au | 3 => v = .int .u64 o.au | 4 => ∃ a n c, v = .slice a n c ∧ IRow .u8 (fun _ => True) w a n (S.numS o.au) ∧ n ≤ c | 5 => v = .slice a12 n12 c12 | 6 => v = .pointer (some ⟨b2, 2, none⟩) | 7 => v = .int .u64 o.st | 8 => ∃ a n c, v = .slice a n c ∧ IRow .u8 (fun _ => True) w a n (S.numS o.st) ∧ n ≤ c | 9 => v = .pointer (some ⟨b2, 3, none⟩) | 10 => v = .pointer (some ⟨b2, 3, none⟩) | 11 => v = .int .u8 o.k | 12 => ∃ a n c, v = .slice a n c ∧ IRow .u8 (fun _ => True) w a n [o.k] ∧ n ≤ c | _ => True) [(13, .e), (14, .e), (15, .q)] mixed (by kernel_rfl) ?_ (fun w14 x14 => ?_) (fun f w15 x15 hF => ?_)
 ·intro i v w w2 h x
  match i, h with
  | 0, h => (obtain ⟨a, n, c, h1, h2, h3⟩ := h; exact ⟨a, n, c, h1, h2.ext x, h3⟩)
  | 1, h => exact h
  | 2, h => exact h
  | 3, h => exact h
  | 4, h => (obtain ⟨a, n, c, h1, h2, h3⟩ := h; exact ⟨a, n, c, h1, h2.ext x, h3⟩)
  | 5, h => exact h
  | 6, h => exact h
  | 7, h => exact h
  | 8, h => (obtain ⟨a, n, c, h1, h2, h3⟩ := h; exact ⟨a, n, c, h1, h2.ext x, h3⟩)
  | 9, h => exact h
  | 10, h => exact h
  | 11, h => exact h
  | 12, h => (obtain ⟨a, n, c, h1, h2, h3⟩ := h; exact ⟨a, n, c, h1, h2.ext x, h3⟩)
  | _ + 13, h => trivial
 ·replace hE := Ext.tr hE x14
  replace D0 := D0.ext x14
  replace B2 := B2.ext x14
  replace OP := OP.ext x14
  have zw14 := x14.size
  refine ⟨?_, ?_, ?_, ?_, ?_, ?_, ?_, ?_, ?_, ?_, ?_, ?_, ?_, trivial⟩
  ·intro f w16 x16 hd
   replace hE := Ext.tr hE x16
   replace D0 := D0.ext x16
   replace B2 := B2.ext x16
   replace OP := OP.ext x16
   have zw16 := x16.size
   refine RS.norm (by simp only [FF, upd, List.map_cons, List.map_nil, List.set_cons_succ, List.set_cons_zero, List.getD_cons_zero, List.getD_cons_succ]; exact rfl) ?_
   dsimp only [nth]
   refine RS.buildSlice (xs := [.const (.int .u8 111)]) (vs := [.int _ _]) (cs := [.int _ _]) Tryd.underlying35 T5 (by decide) rfl rfl rfl rfl rfl rfl (by intro v hv; simp only [List.mem_cons, List.not_mem_nil, or_false] at hv; subst hv; rfl) rfl (fun b17 w17 e17 s17 x17 B17 => ?_)
   refine RS.nm ?_
   replace hE := Ext.tr hE x17
   replace D0 := D0.ext x17
   replace B2 := B2.ext x17
   replace OP := OP.ext x17
   have zw17 := x17.size
   have Q1 : IRow .u8 (fun k => k = b17) w17 (some ⟨b17, 0, none⟩) 1 [_] := IRow.of_blk B17 rfl rfl rfl (.cons (by simp only [lim]; omega) (.nil _))
   refine RS.nil ?_
   refine ⟨.slice (some ⟨b17, 0, none⟩) 1 1, ?_, x17, ?_⟩
   ·first | (simp only [FF, upd, List.map_cons, List.map_nil, List.set_cons_succ, List.set_cons_zero, List.getD_cons_zero, List.getD_cons_succ]; done) | (simp only [FF, upd, List.map_cons, List.map_nil, List.set_cons_succ, List.set_cons_zero, List.getD_cons_zero, List.getD_cons_succ]; rfl)
   exact ⟨_, _, _, rfl, Q1.weaken (fun _ _ _ => trivial), Nat.le_refl _⟩
  ·intro f w18 x18 hd
   replace hE := Ext.tr hE x18
   replace D0 := D0.ext x18
   replace B2 := B2.ext x18
   replace OP := OP.ext x18
   have zw18 := x18.size
   refine RS.norm (by simp only [FF, upd, List.map_cons, List.map_nil, List.set_cons_succ, List.set_cons_zero, List.getD_cons_zero, List.getD_cons_succ]; exact rfl) ?_
   dsimp only [nth]
   refine RS.o (D.fieldL 0 rfl Tryd.underlying32 rfl C22 (by decide) rfl) ?_
   refine RS.nil ?_
   refine ⟨.pointer (some ⟨b2, 0, none⟩), ?_, (Ext.refl _), ?_⟩
   ·first | (simp only [FF, upd, List.map_cons, List.map_nil, List.set_cons_succ, List.set_cons_zero, List.getD_cons_zero, List.getD_cons_succ]; done) | (simp only [FF, upd, List.map_cons, List.map_nil, List.set_cons_succ, List.set_cons_zero, List.getD_cons_zero, List.getD_cons_succ]; rfl)
   rfl
  ·intro f w19 x19 hd
   replace hE := Ext.tr hE x19
   replace D0 := D0.ext x19
   replace B2 := B2.ext x19
   replace OP := OP.ext x19
   have zw19 := x19.size
   have h19_1 : (f 26) = .pointer (some ⟨b2, 0, none⟩) := hd 1 (by decide +kernel)
   refine RS.norm (by simp only [FF, upd, List.map_cons, List.map_nil, List.set_cons_succ, List.set_cons_zero, List.getD_cons_zero, List.getD_cons_succ]; exact rfl) ?_
   rw [h19_1]
   dsimp only [nth]
   refine RS.o (D.load rfl Tryd.underlying22 rfl (B2.cell rfl)) ?_
   refine RS.nil ?_
   refine ⟨.int .u32 o.au, ?_, (Ext.refl _), ?_⟩
   ·first | (simp only [FF, upd, List.map_cons, List.map_nil, List.set_cons_succ, List.set_cons_zero, List.getD_cons_zero, List.getD_cons_succ, h19_1]; done) | (simp only [FF, upd, List.map_cons, List.map_nil, List.set_cons_succ, List.set_cons_zero, List.getD_cons_zero, List.getD_cons_succ, h19_1]; rfl)
   rfl
  ·intro f w20 x20 hd
   replace hE := Ext.tr hE x20
   replace D0 := D0.ext x20
   replace B2 := B2.ext x20
   replace OP := OP.ext x20
   have zw20 := x20.size
   have h20_2 : (f 27) = .int .u32 o.au := hd 2 (by decide +kernel)
   refine RS.norm (by simp only [FF, upd, List.map_cons, List.map_nil, List.set_cons_succ, List.set_cons_zero, List.getD_cons_zero, List.getD_cons_succ]; exact rfl) ?_
   rw [h20_2]
   dsimp only [nth]
   refine RS.o (D.conv rfl Tryd.underlying22 Tryd.underlying24 (W.u64 (by omega))) ?_
   refine RS.nil ?_
   refine ⟨.int .u64 o.au, ?_, (Ext.refl _), ?_⟩
   ·first | (simp only [FF, upd, List.map_cons, List.map_nil, List.set_cons_succ, List.set_cons_zero, List.getD_cons_zero, List.getD_cons_succ, h20_2]; done) | (simp only [FF, upd, List.map_cons, List.map_nil, List.set_cons_succ, List.set_cons_zero, List.getD_cons_zero, List.getD_cons_succ, h20_2]; rfl)
   rfl
  ·intro f w21 x21 hd
   replace hE := Ext.tr hE x21
   replace D0 := D0.ext x21
   replace B2 := B2.ext x21
   replace OP := OP.ext x21
   have zw21 := x21.size
   have h21_3 : (f 28) = .int .u64 o.au := hd 3 (by decide +kernel)
   refine RS.norm (by simp only [FF, upd, List.map_cons, List.map_nil, List.set_cons_succ, List.set_cons_zero, List.getD_cons_zero, List.getD_cons_succ]; exact rfl) ?_
   rw [h21_3]
   dsimp only [nth]
   refine RS.call E44 (numW _ (by omega) _) rfl (fun v22 w22 x22 A22 => ?_)
   replace hE := Ext.tr hE x22
   replace D0 := D0.ext x22
   replace B2 := B2.ext x22
   replace OP := OP.ext x22
   have zw22 := x22.size
   obtain ⟨a22, n22, c22, rfl, O1⟩ := A22
   refine RS.nm ?_
   refine RS.nil ?_
   refine ⟨.slice a22 n22 c22, ?_, x22, ?_⟩
   ·first | (simp only [FF, upd, List.map_cons, List.map_nil, List.set_cons_succ, List.set_cons_zero, List.getD_cons_zero, List.getD_cons_succ, h21_3]; done) | (simp only [FF, upd, List.map_cons, List.map_nil, List.set_cons_succ, List.set_cons_zero, List.getD_cons_zero, List.getD_cons_succ, h21_3]; rfl)
   exact ⟨_, _, _, rfl, O1.row.weaken (fun _ _ _ => trivial), O1.own.pre⟩
  ·intro f w23 x23 hd
   replace hE := Ext.tr hE x23
   replace D0 := D0.ext x23
   replace B2 := B2.ext x23
   replace OP := OP.ext x23
   have zw23 := x23.size
   refine RS.norm (by simp only [FF, upd, List.map_cons, List.map_nil, List.set_cons_succ, List.set_cons_zero, List.getD_cons_zero, List.getD_cons_succ]; exact rfl) ?_
   dsimp only [nth]
   refine RS.mvS rfl ?_
   refine RS.nil ?_
   refine ⟨.slice a12 n12 c12, ?_, (Ext.refl _), ?_⟩
   ·first | (simp only [FF, upd, List.map_cons, List.map_nil, List.set_cons_succ, List.set_cons_zero, List.getD_cons_zero, List.getD_cons_succ]; done) | (simp only [FF, upd, List.map_cons, List.map_nil, List.set_cons_succ, List.set_cons_zero, List.getD_cons_zero, List.getD_cons_succ]; rfl)
   rfl
  ·intro f w24 x24 hd
   replace hE := Ext.tr hE x24
   replace D0 := D0.ext x24
   replace B2 := B2.ext x24
   replace OP := OP.ext x24
   have zw24 := x24.size
   refine RS.norm (by simp only [FF, upd, List.map_cons, List.map_nil, List.set_cons_succ, List.set_cons_zero, List.getD_cons_zero, List.getD_cons_succ]; exact rfl) ?_
   dsimp only [nth]
   refine RS.o (D.fieldL 2 rfl Tryd.underlying32 rfl C24 (by decide) rfl) ?_
   refine RS.nil ?_
   refine ⟨.pointer (some ⟨b2, 2, none⟩), ?_, (Ext.refl _), ?_⟩
   ·first | (simp only [FF, upd, List.map_cons, List.map_nil, List.set_cons_succ, List.set_cons_zero, List.getD_cons_zero, List.getD_cons_succ]; done) | (simp only [FF, upd, List.map_cons, List.map_nil, List.set_cons_succ, List.set_cons_zero, List.getD_cons_zero, List.getD_cons_succ]; rfl)
   rfl
  ·intro f w25 x25 hd
   replace hE := Ext.tr hE x25
   replace D0 := D0.ext x25
   replace B2 := B2.ext x25
   replace OP := OP.ext x25
   have zw25 := x25.size
   have h25_6 : (f 31) = .pointer (some ⟨b2, 2, none⟩) := hd 6 (by decide +kernel)
   refine RS.norm (by simp only [FF, upd, List.map_cons, List.map_nil, List.set_cons_succ, List.set_cons_zero, List.getD_cons_zero, List.getD_cons_succ]; exact rfl) ?_
   rw [h25_6]
   dsimp only [nth]
   refine RS.o (D.load rfl Tryd.underlying24 rfl (B2.cell rfl)) ?_
   refine RS.nil ?_
   refine ⟨.int .u64 o.st, ?_, (Ext.refl _), ?_⟩
   ·first | (simp only [FF, upd, List.map_cons, List.map_nil, List.set_cons_succ, List.set_cons_zero, List.getD_cons_zero, List.getD_cons_succ, h25_6]; done) | (simp only [FF, upd, List.map_cons, List.map_nil, List.set_cons_succ, List.set_cons_zero, List.getD_cons_zero, List.getD_cons_succ, h25_6]; rfl)
   rfl
  ·intro f w26 x26 hd
   replace hE := Ext.tr hE x26
   replace D0 := D0.ext x26
   replace B2 := B2.ext x26
   replace OP := OP.ext x26
   have zw26 := x26.size
   have h26_4 : ∃ a n c, (f 29) = .slice a n c ∧ IRow .u8 (fun _ => True) w26 a n (S.numS o.au) ∧ n ≤ c := hd 4 (by decide +kernel)
   have h26_7 : (f 32) = .int .u64 o.st := hd 7 (by decide +kernel)
   refine RS.norm (by simp only [FF, upd, List.map_cons, List.map_nil, List.set_cons_succ, List.set_cons_zero, List.getD_cons_zero, List.getD_cons_succ]; exact rfl) ?_
   rw [h26_7]
   dsimp only [nth]
   refine RS.call E44 (numW _ (by omega) _) rfl (fun v27 w27 x27 A27 => ?_)
   replace hE := Ext.tr hE x27
   replace D0 := D0.ext x27
   replace B2 := B2.ext x27
   replace OP := OP.ext x27
   have zw27 := x27.size
   obtain ⟨a27, n27, c27, rfl, O1⟩ := A27
   refine RS.nm ?_
   refine RS.nil ?_
   refine ⟨.slice a27 n27 c27, ?_, x27, ?_⟩
   ·first | (simp only [FF, upd, List.map_cons, List.map_nil, List.set_cons_succ, List.set_cons_zero, List.getD_cons_zero, List.getD_cons_succ, h26_7]; done) | (simp only [FF, upd, List.map_cons, List.map_nil, List.set_cons_succ, List.set_cons_zero, List.getD_cons_zero, List.getD_cons_succ, h26_7]; rfl)
   exact ⟨_, _, _, rfl, O1.row.weaken (fun _ _ _ => trivial), O1.own.pre⟩
  ·intro f w28 x28 hd
   replace hE := Ext.tr hE x28
   replace D0 := D0.ext x28
   replace B2 := B2.ext x28
   replace OP := OP.ext x28
   have zw28 := x28.size
   refine RS.norm (by simp only [FF, upd, List.map_cons, List.map_nil, List.set_cons_succ, List.set_cons_zero, List.getD_cons_zero, List.getD_cons_succ]; exact rfl) ?_
   dsimp only [nth]
   refine RS.o (D.fieldL 3 rfl Tryd.underlying32 rfl C28 (by decide) rfl) ?_
   refine RS.nil ?_
   refine ⟨.pointer (some ⟨b2, 3, none⟩), ?_, (Ext.refl _), ?_⟩
   ·first | (simp only [FF, upd, List.map_cons, List.map_nil, List.set_cons_succ, List.set_cons_zero, List.getD_cons_zero, List.getD_cons_succ]; done) | (simp only [FF, upd, List.map_cons, List.map_nil, List.set_cons_succ, List.set_cons_zero, List.getD_cons_zero, List.getD_cons_succ]; rfl)
   rfl
  ·intro f w29 x29 hd
   replace hE := Ext.tr hE x29
   replace D0 := D0.ext x29
   replace B2 := B2.ext x29
   replace OP := OP.ext x29
   have zw29 := x29.size
   have h29_9 : (f 34) = .pointer (some ⟨b2, 3, none⟩) := hd 9 (by decide +kernel)
   refine RS.norm (by simp only [FF, upd, List.map_cons, List.map_nil, List.set_cons_succ, List.set_cons_zero, List.getD_cons_zero, List.getD_cons_succ]; exact rfl) ?_
   rw [h29_9]
   dsimp only [nth]
   refine RS.o (D.fieldL 3 rfl Tryd.underlying28 rfl C5 (by decide) rfl) ?_
   refine RS.nil ?_
   refine ⟨.pointer (some ⟨b2, 3, none⟩), ?_, (Ext.refl _), ?_⟩
   ·first | (simp only [FF, upd, List.map_cons, List.map_nil, List.set_cons_succ, List.set_cons_zero, List.getD_cons_zero, List.getD_cons_succ, h29_9]; done) | (simp only [FF, upd, List.map_cons, List.map_nil, List.set_cons_succ, List.set_cons_zero, List.getD_cons_zero, List.getD_cons_succ, h29_9]; rfl)
   rfl
  ·intro f w30 x30 hd
   replace hE := Ext.tr hE x30
   replace D0 := D0.ext x30
   replace B2 := B2.ext x30
   replace OP := OP.ext x30
   have zw30 := x30.size
   have h30_10 : (f 35) = .pointer (some ⟨b2, 3, none⟩) := hd 10 (by decide +kernel)
   refine RS.norm (by simp only [FF, upd, List.map_cons, List.map_nil, List.set_cons_succ, List.set_cons_zero, List.getD_cons_zero, List.getD_cons_succ]; exact rfl) ?_
   rw [h30_10]
   dsimp only [nth]
   refine RS.o (D.load rfl Tryd.underlying5 rfl (B2.cell rfl)) ?_
   refine RS.nil ?_
   refine ⟨.int .u8 o.k, ?_, (Ext.refl _), ?_⟩
   ·first | (simp only [FF, upd, List.map_cons, List.map_nil, List.set_cons_succ, List.set_cons_zero, List.getD_cons_zero, List.getD_cons_succ, h30_10]; done) | (simp only [FF, upd, List.map_cons, List.map_nil, List.set_cons_succ, List.set_cons_zero, List.getD_cons_zero, List.getD_cons_succ, h30_10]; rfl)
   rfl
  intro f w31 x31 hd
  replace hE := Ext.tr hE x31
  replace D0 := D0.ext x31
  replace B2 := B2.ext x31
  replace OP := OP.ext x31
  have zw31 := x31.size
  have h31_11 : (f 36) = .int .u8 o.k := hd 11 (by decide +kernel)
  refine RS.norm (by simp only [FF, upd, List.map_cons, List.map_nil, List.set_cons_succ, List.set_cons_zero, List.getD_cons_zero, List.getD_cons_succ]; exact rfl) ?_
  rw [h31_11]
  dsimp only [nth]
  refine RS.buildSlice (xs := [.tmp 36]) (vs := [.int _ _]) (cs := [.int _ _]) Tryd.underlying35 T5 (by decide) rfl rfl rfl rfl rfl rfl (by intro v hv; simp only [List.mem_cons, List.not_mem_nil, or_false] at hv; subst hv; rfl) rfl (fun b32 w32 e32 s32 x32 B32 => ?_)
  refine RS.nm ?_
  replace hE := Ext.tr hE x32
  replace D0 := D0.ext x32
  replace B2 := B2.ext x32
  replace OP := OP.ext x32
  have zw32 := x32.size
  have Q1 : IRow .u8 (fun k => k = b32) w32 (some ⟨b32, 0, none⟩) 1 [_] := IRow.of_blk B32 rfl rfl rfl (.cons (by simp only [lim]; omega) (.nil _))
  refine RS.nil ?_
  refine ⟨.slice (some ⟨b32, 0, none⟩) 1 1, ?_, x32, ?_⟩
  ·first | (simp only [FF, upd, List.map_cons, List.map_nil, List.set_cons_succ, List.set_cons_zero, List.getD_cons_zero, List.getD_cons_succ, h31_11]; done) | (simp only [FF, upd, List.map_cons, List.map_nil, List.set_cons_succ, List.set_cons_zero, List.getD_cons_zero, List.getD_cons_succ, h31_11]; rfl)
  exact ⟨_, _, _, rfl, Q1.weaken (fun _ _ _ => trivial), Nat.le_refl _⟩
 replace hE := Ext.tr hE x15
 replace D0 := D0.ext x15
 replace B2 := B2.ext x15
 replace OP := OP.ext x15
 have zw15 := x15.size
 obtain ⟨g0, g1, g2, g3, g4, g5, g6, g7, g8, g9, g10, g11, g12, _⟩ := hF
 replace g0 : ∃ a n c, (f 25) = .slice a n c ∧ IRow .u8 (fun _ => True) w15 a n [111] ∧ n ≤ c := g0
 replace g1 : (f 26) = .pointer (some ⟨b2, 0, none⟩) := g1
 replace g2 : (f 27) = .int .u32 o.au := g2
 replace g3 : (f 28) = .int .u64 o.au := g3
 replace g4 : ∃ a n c, (f 29) = .slice a n c ∧ IRow .u8 (fun _ => True) w15 a n (S.numS o.au) ∧ n ≤ c := g4
 replace g5 : (f 30) = .slice a12 n12 c12 := g5
 replace g6 : (f 31) = .pointer (some ⟨b2, 2, none⟩) := g6
 replace g7 : (f 32) = .int .u64 o.st := g7
 replace g8 : ∃ a n c, (f 33) = .slice a n c ∧ IRow .u8 (fun _ => True) w15 a n (S.numS o.st) ∧ n ≤ c := g8
 replace g9 : (f 34) = .pointer (some ⟨b2, 3, none⟩) := g9
 replace g10 : (f 35) = .pointer (some ⟨b2, 3, none⟩) := g10
 replace g11 : (f 36) = .int .u8 o.k := g11
 replace g12 : ∃ a n c, (f 37) = .slice a n c ∧ IRow .u8 (fun _ => True) w15 a n [o.k] ∧ n ≤ c := g12
 obtain ⟨a25, n25, c25, g0, Q25, l25⟩ := g0
 obtain ⟨a29, n29, c29, g4, Q29, l29⟩ := g4
 obtain ⟨a33, n33, c33, g8, Q33, l33⟩ := g8
 obtain ⟨a37, n37, c37, g12, Q37, l37⟩ := g12
 refine RX.norm (by simp only [FF, upd, List.map_cons, List.map_nil, List.set_cons_succ, List.set_cons_zero]; exact rfl) ?_
 rw [g0, g1, g2, g3, g4, g5, g6, g7, g8, g9, g10, g11, g12]
 refine RX.eff ?_
 refine RS.buildSlice (xs := [.tmp 25, .tmp 29, .tmp 30, .tmp 33, .tmp 37]) (vs := [.slice _ _ _, .slice _ _ _, .slice _ _ _, .slice _ _ _, .slice _ _ _]) (cs := [.slice _ _ _, .slice _ _ _, .slice _ _ _, .slice _ _ _, .slice _ _ _]) Tryd.underlying70 T35 (by decide) rfl rfl rfl rfl rfl rfl (by intro v hv; simp only [List.mem_cons, List.not_mem_nil, or_false] at hv; rcases hv with rfl | rfl | rfl | rfl | rfl <;> rfl) rfl (fun b33 w33 e33 s33 x33 B33 => ?_)
 refine RS.nm ?_
 replace hE := Ext.tr hE x33
 replace D0 := D0.ext x33
 replace B2 := B2.ext x33
 replace OP := OP.ext x33
 replace Q25 := Q25.ext x33
 replace Q29 := Q29.ext x33
 replace Q33 := Q33.ext x33
 replace Q37 := Q37.ext x33
 have zw33 := x33.size
 refine RS.nil ⟨x33, ?_⟩
 refine RX.eff ?_
 refine RS.call E43 (concat [⟨a25, n25, c25, [111]⟩, ⟨a29, n29, c29, S.numS o.au⟩, ⟨a12, n12, c12, S.listS o.n o.ids⟩, ⟨a33, n33, c33, S.numS o.st⟩, ⟨a37, n37, c37, [o.k]⟩] _ _ _ _ (PRow.of_blkE B33 rfl rfl ⟨⟨_, Q25, l25⟩, ⟨_, Q29, l29⟩, ⟨_, OP.row, hpc⟩, ⟨_, Q33, l33⟩, ⟨_, Q37, l37⟩, trivial⟩) (show (5 : Nat) ≤ 1000 by decide) (by simp [cat, S.listS]; omega)) rfl (fun v34 w34 x34 A34 => ?_)
 replace hE := Ext.tr hE x34
 replace D0 := D0.ext x34
 replace B2 := B2.ext x34
 replace OP := OP.ext x34
 replace Q25 := Q25.ext x34
 replace Q29 := Q29.ext x34
 replace Q33 := Q33.ext x34
 replace Q37 := Q37.ext x34
 replace B33 := B33.ext x34
 have zw34 := x34.size
 obtain ⟨a34, n34, c34, rfl, O1⟩ := A34
 have ecat : cat [⟨a25, n25, c25, [111]⟩, ⟨a29, n29, c29, S.numS o.au⟩, ⟨a12, n12, c12, S.listS o.n o.ids⟩, ⟨a33, n33, c33, S.numS o.st⟩, ⟨a37, n37, c37, [o.k]⟩] = ([111] ++ S.numS o.au ++ S.listS o.n o.ids ++ S.numS o.st ++ [o.k]) := by simp [cat]
 rw [ecat] at O1
 replace O1 := O1.base (lo' := w2.heap.size) (fun k hk => by have := O1.lo k hk; omega)
 have hol0 := O1.len
 simp only [List.length_append, List.length_singleton, S.listS] at hol0
 refine RS.nm ?_
 refine RS.nil ⟨x34, ?_⟩
 refine RX.assign (v := .slice _ _ _) rfl ?_
 refine RX.nil (hK13 _ _ ?_)
 refine wp_seq_k (fun K35 hK35 => ?_)
 refine sq fun K36 hK36 => ?_
 refine RS.o (D.fieldL 3 rfl Tryd.underlying32 rfl C28 (by decide) rfl) ?_
 refine RS.o (D.fieldL 3 rfl Tryd.underlying28 rfl C5 (by decide) rfl) ?_
 refine RS.o (D.load rfl Tryd.underlying5 rfl (B2.cell rfl)) ?_
 refine RS.o (D.eq rfl rfl) ?_
 refine nl hK36 ?_
 refine C.ife rfl (fun c37 => ?_) (fun c37 => ?_)
 ·have hk := c37
  refine sq fun K38 hK38 => ?_
  refine RS.mvS rfl ?_
  refine RS.asS rfl ?_
  refine RS.asI rfl ?_
  refine nl hK38 ?_
  refine wp_ret ?_
  refine ret (rs := [.tmp 2, .tmp 3]) (vs := [.slice _ _ _, .int _ _]) (v := (.tuple #[.slice _ _ _, .int _ _])) rfl ⟨rfl, rfl, trivial⟩ rfl ?_
  have em : S.msgS o = ([111] ++ S.numS o.au ++ S.listS o.n o.ids ++ S.numS o.st ++ [o.k]) := by unfold S.msgS; rw [if_pos hk, List.append_nil]
  exact ⟨_, rfl, hE, _, _, _, _, by rw [hz], O1.base (fun k hk => by have := O1.lo k hk; omega), by rw [if_pos hz, em]⟩
 have hk := c37
 refine wp_skip ?_
 refine hK35 _ _ ?_
 refine sq fun K39 hK39 => ?_
 refine RS.o (D.fieldL 3 rfl Tryd.underlying32 rfl C28 (by decide) rfl) ?_
 refine RS.o (D.fieldL 4 rfl Tryd.underlying28 rfl C9 (by decide) rfl) ?_
 refine RS.o (D.load rfl Tryd.underlying9 rfl (B2.cell rfl)) ?_
 refine RS.convSB rfl Tryd.underlying9 Tryd.underlying35 Tryd.underlying5 (fun a40 c40 w40 x40 g40 s40 R40 => ?_)
 refine RS.nm ?_
 replace hE := Ext.tr hE x40
 replace D0 := D0.ext x40
 replace B2 := B2.ext x40
 replace O1 := O1.ext x40
 have zw40 := x40.size
 have RT := R40
 refine RS.call E45 (bytesW _ _ _ _ _ RT (by omega)) rfl (fun v41 w41 x41 A41 => ?_)
 replace hE := Ext.tr hE x41
 replace D0 := D0.ext x41
 replace B2 := B2.ext x41
 replace O1 := O1.ext x41
 replace RT := RT.ext x41
 have zw41 := x41.size
 obtain ⟨a41, n41, c41, rfl, O2⟩ := A41
 have hnl := O2.len
 rw [List.length_append, bys_len] at hnl
 refine RS.nm ?_
 refine RS.move (v := .tuple _) rfl ?_
 refine RS.extract (v := .slice _ _ _) rfl rfl ?_
 refine RS.extract (v := .int _ _) rfl rfl ?_
 refine RS.asS rfl ?_
 refine RS.asI rfl ?_
 refine nl hK39 ?_
 refine sq fun K42 hK42 => ?_
 refine RS.mvS rfl ?_
 refine RS.mvS rfl ?_
 refine RS.appendI O1 O2.row rfl rfl Tryd.underlying35 T5 rfl (by omega) (by decide) (by omega) (fun a43 c43 w43 N43 x43 => ?_)
 refine RS.nm ?_
 replace hE := hE.trans (x43.below (by intros; try (first | (intro _ _) | (intro _) | skip); first | omega | (have hq := O1.lo _ (by assumption); first | omega | (dsimp only at *; omega))) (by intros; try (first | (intro _ _) | (intro _) | skip); first | omega | (dsimp only at *; omega) | (simp_all; done) | (simp at *; omega)))
 replace D0 := D0.pr x43 (by intros; try (first | (intro _ _) | (intro _) | skip); first | omega | (have hq := O1.lo _ (by assumption); first | omega | (dsimp only at *; omega)))
 replace B2 := B2.pr x43 (by intros; try (first | (intro _ _) | (intro _) | skip); first | omega | (have hq := O1.lo _ (by assumption); first | omega | (dsimp only at *; omega)))
 have zw43 := x43.size
 replace O1 := N43
 refine RS.nm ?_
 have hol := O1.len
 refine RS.asS rfl ?_
 refine nl hK42 ?_
 refine wp_seq_k (fun K44 hK44 => ?_)
 refine sq fun K45 hK45 => ?_
 refine RS.o (D.fieldL 3 rfl Tryd.underlying32 rfl C28 (by decide) rfl) ?_
 refine RS.o (D.fieldL 3 rfl Tryd.underlying28 rfl C5 (by decide) rfl) ?_
 refine RS.o (D.load rfl Tryd.underlying5 rfl (B2.cell rfl)) ?_
 refine RS.o (D.eq rfl rfl) ?_
 refine nl hK45 ?_
 refine C.ife rfl (fun c46 => ?_) (fun c46 => ?_)
 ·have hk4 := c46
  refine sq fun K47 hK47 => ?_
  refine RS.o (D.fieldL 3 rfl Tryd.underlying32 rfl C28 (by decide) rfl) ?_
  refine RS.o (D.fieldL 5 rfl Tryd.underlying28 rfl C26 (by decide) rfl) ?_
  refine RS.o (D.loadAgg rfl Tryd.underlying26 rfl C26 (by decide) rfl (B2.cellsN 4 rfl)) ?_
  have hfv : S.FineV o.vk o.num o.bits o.t := by rcases hfa with h | h | h; exact absurd h.1 (by show o.bare.k ≠ 1; show o.k ≠ 1; omega); exact absurd h.1 (by show ¬ (o.k = 2 ∨ o.k = 3); omega); exact h.2.2
  refine RS.call E46 (encV _ _ _ _ o4 o5 o6 hfv (by omega) _) rfl (fun v48 w48 x48 A48 => ?_)
  replace hE := Ext.tr hE x48
  replace D0 := D0.ext x48
  replace B2 := B2.ext x48
  replace O1 := O1.ext x48
  have zw48 := x48.size
  obtain ⟨a48, n48, c48, rfl, O3⟩ := A48
  have hvl := O3.len
  refine RS.nm ?_
  refine RS.move (v := .tuple _) rfl ?_
  refine RS.extract (v := .slice _ _ _) rfl rfl ?_
  refine RS.extract (v := .int _ _) rfl rfl ?_
  refine RS.asS rfl ?_
  refine RS.asI rfl ?_
  refine nl hK47 ?_
  refine region ?_
  refine RS.mvS rfl ?_
  refine RS.mvS rfl ?_
  refine RS.appendI O1 O3.row rfl rfl Tryd.underlying35 T5 rfl (by omega) (by decide) (by omega) (fun a49 c49 w49 N49 x49 => ?_)
  refine RS.nm ?_
  replace hE := hE.trans (x49.below (by intros; try (first | (intro _ _) | (intro _) | skip); first | omega | (have hq := O1.lo _ (by assumption); first | omega | (dsimp only at *; omega))) (by intros; try (first | (intro _ _) | (intro _) | skip); first | omega | (dsimp only at *; omega) | (simp_all; done) | (simp at *; omega)))
  replace D0 := D0.pr x49 (by intros; try (first | (intro _ _) | (intro _) | skip); first | omega | (have hq := O1.lo _ (by assumption); first | omega | (dsimp only at *; omega)))
  replace B2 := B2.pr x49 (by intros; try (first | (intro _ _) | (intro _) | skip); first | omega | (have hq := O1.lo _ (by assumption); first | omega | (dsimp only at *; omega)))
  have zw49 := x49.size
  replace O1 := N49
  refine RS.asS rfl ?_
  refine nl hK44 ?_
  refine sq fun K50 hK50 => ?_
  refine RS.mvS rfl ?_
  refine RS.asS rfl ?_
  refine RS.asI rfl ?_
  refine nl hK50 ?_
  refine wp_ret ?_
  refine ret (rs := [.tmp 2, .tmp 3]) (vs := [.slice _ _ _, .int _ _]) (v := (.tuple #[.slice _ _ _, .int _ _])) rfl ⟨rfl, rfl, trivial⟩ rfl ?_
  have em : S.msgS o = ([111] ++ S.numS o.au ++ S.listS o.n o.ids ++ S.numS o.st ++ [o.k]) ++ (S.numS o.key.size ++ bys o.key) ++ S.valS o.vk o.num o.bits o.t := by unfold S.msgS; rw [if_neg hk, if_pos hk4, ← List.append_assoc]
  exact ⟨_, rfl, hE, _, _, _, _, by rw [hz], O1.base (fun k hk => by have := O1.lo k hk; omega), by rw [if_pos hz, em]⟩
 have hk4 := c46
 refine wp_skip ?_
 refine hK44 _ _ ?_
 refine sq fun K51 hK51 => ?_
 refine RS.mvS rfl ?_
 refine RS.asS rfl ?_
 refine RS.asI rfl ?_
 refine nl hK51 ?_
 refine wp_ret ?_
 refine ret (rs := [.tmp 2, .tmp 3]) (vs := [.slice _ _ _, .int _ _]) (v := (.tuple #[.slice _ _ _, .int _ _])) rfl ⟨rfl, rfl, trivial⟩ rfl ?_
 have em : S.msgS o = ([111] ++ S.numS o.au ++ S.listS o.n o.ids ++ S.numS o.st ++ [o.k]) ++ (S.numS o.key.size ++ bys o.key) := by unfold S.msgS; rw [if_neg hk, if_neg hk4, List.append_nil]
 exact ⟨_, rfl, hE, _, _, _, _, by rw [hz], O1.base (fun k hk => by have := O1.lo k hk; omega), by rw [if_pos hz, em]⟩
end Go.Proofs.YtiohpiiiapjblaaDoor.W
namespace Go.Proofs.YtiohpiiiapjblaaDoor.W
open Go.RowKit Go.Proofs.YtiohpiiiapjblaaDoor.G
set_option linter.unusedVariables false
set_option maxRecDepth 20000
set_option maxHeartbeats 8000000
attribute [local irreducible] RS RX
theorem E12 : Enters Tryd.prog 12 := .mk Tryd.func12 (by kernel_rfl) rfl
theorem E14 : Enters Tryd.prog 14 := .mk Tryd.func14 (by kernel_rfl) rfl
theorem E36 : Enters Tryd.prog 36 := .mk Tryd.func36 (by kernel_rfl) rfl
theorem encodeO {S0 : Nat → Prop} (o : S.OpV) (ho : o.ok) (pa : Option Addr) (pc : Nat) (w : World) (D0 : WRow .u8 32 S0 w pa o.n o.ids) (hc : o.n ≤ pc) :
  Calls Tryd.prog 14 #[.agg ([.int .u32 o.au, .slice pa o.n pc, .int .u64 o.st, .int .u8 o.k, .string o.key, .int .u8 o.vk, .int .i64 o.num, .int .u64 o.bits, .string o.t, .int .u32 o.e, .int .u32 o.s] : List Value).toArray] w (Ret w fun v w' => ∃ a' n' c' xs, v = .tuple #[.slice a' n' c', .int .i64 (S.checkE o)] ∧ IOwn w.heap.size w' 5 .u8 a' n' c' xs ∧ xs = if S.checkE o = 0 then S.encS o else []) := by
 replace D0 := D0.weaken (T := fun k => k < w.heap.size) (fun k hk _ => hk)
 have o1 := ho.au
 have o2 := ho.st
 have o3 := ho.k
 have o4 := ho.vk
 have o5 := ho.num
 have o6 := ho.bits
 have o7 := ho.e
 have o8 := ho.s
 have o9 := ho.n
 have o10 := ho.key
 have o11 := ho.t
 have e4 := D0.len
 have e7 := S.numS_len o.e
 have e8 := S.numS_len o.s
 have hE := Ext.refl w
 refine enterU 29 Tryd.func14 rfl rfl ?_
 refine sq fun K1 hK1 => ?_
 refine RS.box rfl rfl (fun b2 w2 e2 s2 x2 B2 => ?_)
 refine RS.nm ?_
 replace hE := Ext.tr hE x2
 replace D0 := D0.ext x2
 have zw2 := x2.size
 refine RS.asS rfl ?_
 refine RS.asI rfl ?_
 refine nl hK1 ?_
 refine wp_seq_k (fun K3 hK3 => ?_)
 refine sq fun K4 hK4 => ?_
 refine RS.o (D.loadAgg rfl Tryd.underlying32 rfl C32 (by decide) rfl (B2.cellsN 11 rfl)) ?_
 refine RS.call E20 (checkO o ho _ _ _ D0 hc) rfl (fun v5 w5 x5 A5 => ?_)
 replace hE := Ext.tr hE x5
 replace D0 := D0.ext x5
 replace B2 := B2.ext x5
 have zw5 := x5.size
 subst A5
 refine RS.nm ?_
 refine RS.asI rfl ?_
 refine nl hK4 ?_
 refine sq fun K6 hK6 => ?_
 refine RS.mvI rfl ?_
 refine RS.o (D.ne rfl rfl) ?_
 refine nl hK6 ?_
 refine C.ifn rfl (fun c7 => ?_) (fun c7 => ?_)
 ·have hnz := c7
  refine sq fun K8 hK8 => ?_
  refine RS.mvI rfl ?_
  refine RS.asS rfl ?_
  refine RS.asI rfl ?_
  refine nl hK8 ?_
  refine wp_ret ?_
  refine ret (rs := [.tmp 2, .tmp 3]) (vs := [.slice _ _ _, .int _ _]) (v := (.tuple #[.slice _ _ _, .int _ _])) rfl ⟨rfl, rfl, trivial⟩ rfl ?_
  exact ⟨_, rfl, hE, none, 0, 0, [], rfl, IOwn.nil _ _ _ _, (if_neg hnz).symm⟩
 have hz := c7
 obtain ⟨q1, q2, q3⟩ := S.check_zero.1 hz
 have hml := S.msg_len o ho q1 e4
 have hzb : S.checkE o.bare = 0 := S.check_zero.2 ⟨q1, q2, q3.1, q3.2.1, (by show (0 : Int) < 500000003; decide), (by show (0 : Int) < 500000003; decide), q3.2.2.2.2⟩
 refine wp_skip ?_
 refine hK3 _ _ ?_
 refine sq fun K9 hK9 => ?_
 refine RS.o (D.loadAgg rfl Tryd.underlying32 rfl C32 (by decide) rfl (B2.cellsN 11 rfl)) ?_
 refine RS.call E12 (messageO o ho _ _ _ D0 hc) rfl (fun v10 w10 x10 A10 => ?_)
 replace hE := Ext.tr hE x10
 replace D0 := D0.ext x10
 replace B2 := B2.ext x10
 have zw10 := x10.size
 obtain ⟨a10, n10, c10, xs, rfl, OM, hxs⟩ := A10
 rw [if_pos hzb] at hxs
 subst hxs
 have hOM := OM.len
 have pOM := OM.own.pre
 refine RS.nm ?_
 refine RS.move (v := .tuple _) rfl ?_
 refine RS.extract (v := .slice _ _ _) rfl rfl ?_
 refine RS.extract (v := .int _ _) rfl rfl ?_
 refine RS.asS rfl ?_
 refine RS.asI rfl ?_
 refine nl hK9 ?_
 refine wp_seq_k (fun K11 hK11 => ?_)
 refine regionX Ext [(0, .q), (1, .q), (2, .q), (3, .q), (4, .q), (6, .q), (7, .q), (8, .q), (9, .q), (5, .e), (10, .e), (11, .e), (12, .e), (13, .q), (14, .q)] mixed Ext.refl (fun h k => h.tr k) (by kernel_rfl) (fun w12 x12 => ?_)
 replace hE := Ext.tr hE x12
 replace D0 := D0.ext x12
 replace B2 := B2.ext x12
 replace OM := OM.ext x12
 have zw12 := x12.size
 refine RX.mvS rfl ?_
 refine RX.o (fun w' hw => D.fieldL 9 rfl Tryd.underlying32 rfl C30 (by decide) rfl) ?_
 refine RX.o (fun w' hw => D.fieldL 9 rfl Tryd.underlying30 rfl C22 (by decide) rfl) ?_
 refine RX.o (fun w' hw => D.load rfl Tryd.underlying22 rfl ((B2.ext hw).cell rfl)) ?_
 refine RX.o (fun w' hw => D.conv rfl Tryd.underlying22 Tryd.underlying24 (W.u64 (by omega))) ?_
 refine RX.o (fun w' hw => D.fieldL 9 rfl Tryd.underlying32 rfl C30 (by decide) rfl) ?_
 refine RX.o (fun w' hw => D.fieldL 10 rfl Tryd.underlying30 rfl C22 (by decide) rfl) ?_
 refine RX.o (fun w' hw => D.load rfl Tryd.underlying22 rfl ((B2.ext hw).cell rfl)) ?_
 refine RX.o (fun w' hw => D.conv rfl Tryd.underlying22 Tryd.underlying24 (W.u64 (by omega))) ?_
 refine RX.eff ?_
 refine RS.call E44 (numW _ (by omega) _) rfl (fun v13 w13 x13 A13 => ?_)
 replace hE := Ext.tr hE x13
 replace D0 := D0.ext x13
 replace B2 := B2.ext x13
 replace OM := OM.ext x13
 have zw13 := x13.size
 obtain ⟨a13, n13, c13, rfl, OA⟩ := A13
 have hOA := OA.len
 have pOA := OA.own.pre
 refine RS.nm ?_
 refine RS.nil ⟨x13, ?_⟩
 refine RX.eff ?_
 refine RS.call E44 (numW _ (by omega) _) rfl (fun v14 w14 x14 A14 => ?_)
 replace hE := Ext.tr hE x14
 replace D0 := D0.ext x14
 replace B2 := B2.ext x14
 replace OM := OM.ext x14
 replace OA := OA.ext x14
 have zw14 := x14.size
 obtain ⟨a14, n14, c14, rfl, OB⟩ := A14
 have hOB := OB.len
 have pOB := OB.own.pre
 refine RS.nm ?_
 refine RS.nil ⟨x14, ?_⟩
 refine RX.eff ?_
 refine RS.buildSlice (xs := [.tmp 17, .tmp 22, .tmp 27]) (vs := [.slice _ _ _, .slice _ _ _, .slice _ _ _]) (cs := [.slice _ _ _, .slice _ _ _, .slice _ _ _]) Tryd.underlying70 T35 (by decide) rfl rfl rfl rfl rfl rfl (by intro v hv; simp only [List.mem_cons, List.not_mem_nil, or_false] at hv; rcases hv with rfl | rfl | rfl <;> rfl) rfl (fun b15 w15 e15 s15 x15 B15 => ?_)
 refine RS.nm ?_
 replace hE := Ext.tr hE x15
 replace D0 := D0.ext x15
 replace B2 := B2.ext x15
 replace OM := OM.ext x15
 replace OA := OA.ext x15
 replace OB := OB.ext x15
 have zw15 := x15.size
 refine RS.nil ⟨x15, ?_⟩
 refine RX.eff ?_
 refine RS.call E43 (concat [⟨a10, n10, c10, S.msgS o⟩, ⟨a13, n13, c13, S.numS o.e⟩, ⟨a14, n14, c14, S.numS o.s⟩] _ _ _ _ (PRow.of_blkE B15 rfl rfl ⟨⟨_, OM.row, pOM⟩, ⟨_, OA.row, pOA⟩, ⟨_, OB.row, pOB⟩, trivial⟩) (show (3 : Nat) ≤ 1000 by decide) (by simp [cat]; omega)) rfl (fun v16 w16 x16 A16 => ?_)
 replace hE := Ext.tr hE x16
 replace D0 := D0.ext x16
 replace B2 := B2.ext x16
 replace OM := OM.ext x16
 replace OA := OA.ext x16
 replace OB := OB.ext x16
 replace B15 := B15.ext x16
 have zw16 := x16.size
 obtain ⟨a16, n16, c16, rfl, O1⟩ := A16
 have ecat : cat [⟨a10, n10, c10, S.msgS o⟩, ⟨a13, n13, c13, S.numS o.e⟩, ⟨a14, n14, c14, S.numS o.s⟩] = S.encS o := by simp [cat, S.encS]
 rw [ecat] at O1
 refine RS.nm ?_
 refine RS.nil ⟨x16, ?_⟩
 refine RX.assign (v := .slice _ _ _) rfl ?_
 refine RX.assign (v := .int .i64 0) rfl ?_
 refine RX.nil (hK11 _ _ ?_)
 refine wp_ret ?_
 refine ret (rs := [.tmp 2, .tmp 3]) (vs := [.slice _ _ _, .int _ _]) (v := (.tuple #[.slice _ _ _, .int _ _])) rfl ⟨rfl, rfl, trivial⟩ rfl ?_
 exact ⟨_, rfl, hE, _, _, _, _, by rw [hz], O1.base (fun k hk => by have := O1.lo k hk; omega), (if_pos hz).symm⟩
theorem idO {S0 : Nat → Prop} (o : S.OpV) (ho : o.ok) (pa : Option Addr) (pc : Nat) (TK : TypeId) (w : World) (K0 : Kst w TK) (D0 : WRow .u8 32 S0 w pa o.n o.ids) (hc : o.n ≤ pc) :
  Calls Tryd.prog 16 #[.agg ([.int .u32 o.au, .slice pa o.n pc, .int .u64 o.st, .int .u8 o.k, .string o.key, .int .u8 o.vk, .int .i64 o.num, .int .u64 o.bits, .string o.t, .int .u32 o.e, .int .u32 o.s] : List Value).toArray] w (Ret w fun v _ => v = .tuple #[.agg (ints .u8 (if S.checkE o = 0 then S.sha (S.encS o) else List.replicate 32 0)).toArray, .int .i64 (S.checkE o)]) := by
 replace D0 := D0.weaken (T := fun k => k < w.heap.size) (fun k hk _ => hk)
 have o1 := ho.au
 have o2 := ho.st
 have o3 := ho.k
 have o4 := ho.vk
 have o5 := ho.num
 have o6 := ho.bits
 have o7 := ho.e
 have o8 := ho.s
 have o9 := ho.n
 have o10 := ho.key
 have o11 := ho.t
 have e4 := D0.len
 have e7 := S.numS_len o.e
 have e8 := S.numS_len o.s
 have hz0 := Arr.zeros .u8 32
 have hKl := K0.lt
 have hE := Ext.refl w
 refine enterU 18 Tryd.func16 rfl rfl ?_
 refine sq fun K1 hK1 => ?_
 refine RS.box rfl rfl (fun b2 w2 e2 s2 x2 B2 => ?_)
 refine RS.nm ?_
 replace hE := Ext.tr hE x2
 replace K0 := K0.ext x2
 replace D0 := D0.ext x2
 have zw2 := x2.size
 refine RS.alloc T42 (fun b3 w3 e3 s3 x3 B3 => ?_)
 refine RS.nm ?_
 replace hE := Ext.tr hE x3
 replace K0 := K0.ext x3
 replace D0 := D0.ext x3
 replace B2 := B2.ext x3
 have zw3 := x3.size
 have A3 : IArr .u8 w3 b3 32 (List.replicate 32 0) [] 42 := IArr.zero B3
 clear B3
 refine RS.asI rfl ?_
 refine nl hK1 ?_
 refine sq fun K4 hK4 => ?_
 refine RS.o (D.loadAgg rfl Tryd.underlying32 rfl C32 (by decide) rfl (B2.cellsN 11 rfl)) ?_
 refine RS.call E14 (encodeO o ho _ _ _ D0 hc) rfl (fun v5 w5 x5 A5 => ?_)
 replace hE := Ext.tr hE x5
 replace K0 := K0.ext x5
 replace D0 := D0.ext x5
 replace B2 := B2.ext x5
 replace A3 := A3.ext x5
 have zw5 := x5.size
 obtain ⟨a5, n5, c5, xs, rfl, O1, hxs⟩ := A5
 refine RS.nm ?_
 refine RS.move (v := .tuple _) rfl ?_
 refine RS.extract (v := .slice _ _ _) rfl rfl ?_
 refine RS.extract (v := .int _ _) rfl rfl ?_
 refine RS.asS rfl ?_
 refine RS.asI rfl ?_
 refine nl hK4 ?_
 refine wp_seq_k (fun K6 hK6 => ?_)
 refine sq fun K7 hK7 => ?_
 refine RS.mvI rfl ?_
 refine RS.o (D.ne rfl rfl) ?_
 refine nl hK7 ?_
 refine C.ifn rfl (fun c8 => ?_) (fun c8 => ?_)
 ·have hnz := c8
  refine sq fun K9 hK9 => ?_
  refine RS.o (D.build0 Tryd.underlying42 T42 C5) ?_
  refine RS.mvI rfl ?_
  refine RS.storeArr A3 rfl rfl C42 (by decide) (by first | assumption | exact And.left (by assumption) | exact IArr.len (by assumption)) (by first | assumption | exact And.right (by assumption) | exact IArr.bd (by assumption)) (fun w10 y10 N10 => ?_)
  replace hE := hE.trans (y10.belo)
  replace K0 := K0.sto y10
  replace D0 := D0.sto y10
  replace B2 := B2.sto y10
  replace O1 := O1.st y10 (by intros; try (first | (intro _ _) | (intro _) | skip); first | omega | (have hq := O1.own.lo _ (by assumption); first | omega | (dsimp only at *; omega)))
  have zw10 := y10.size
  replace A3 := N10
  refine RS.asI rfl ?_
  refine nl hK9 ?_
  refine wp_ret ?_
  refine ret (rs := [.cell 2 42, .tmp 3]) (vs := [.agg _, .int _ _]) (v := (.tuple #[.agg _, .int _ _])) rfl ⟨⟨_, rfl, loadVar_agg Tryd.underlying42 rfl C42 (by decide) (by rw [ints_length, A3.len]) A3.cells⟩, rfl, trivial⟩ rfl ?_
  rw [if_neg hnz]
  exact ⟨_, rfl, hE, rfl⟩
 have hz := c8
 obtain ⟨q1, q2, q3⟩ := S.check_zero.1 hz
 have hml := S.msg_len o ho q1 e4
 have hel : (S.encS o).length ≤ 418 := by unfold S.encS; rw [List.length_append, List.length_append]; omega
 rw [if_pos hz] at hxs
 subst hxs
 refine wp_skip ?_
 refine hK6 _ _ ?_
 refine sq fun K11 hK11 => ?_
 refine RS.mvS rfl ?_
 refine RS.call E36 (sum _ _ _ _ _ _ K0 O1.row O1.own.pre (by have := O1.len; omega)) rfl (fun v12 w12 x12 A12 => ?_)
 replace hE := Ext.tr hE x12
 replace K0 := K0.ext x12
 replace D0 := D0.ext x12
 replace B2 := B2.ext x12
 replace A3 := A3.ext x12
 replace O1 := O1.ext x12
 have zw12 := x12.size
 subst A12
 have hsa := S.sha_arr (S.encS o)
 refine RS.nm ?_
 refine RS.extract (v := .agg _) rfl rfl ?_
 refine RS.extract (v := .int _ _) rfl rfl ?_
 refine RS.storeArr A3 rfl rfl C42 (by decide) (by first | assumption | exact And.left (by assumption) | exact IArr.len (by assumption)) (by first | assumption | exact And.right (by assumption) | exact IArr.bd (by assumption)) (fun w13 y13 N13 => ?_)
 replace hE := hE.trans (y13.belo)
 replace K0 := K0.sto y13
 replace D0 := D0.sto y13
 replace B2 := B2.sto y13
 replace O1 := O1.st y13 (by intros; try (first | (intro _ _) | (intro _) | skip); first | omega | (have hq := O1.own.lo _ (by assumption); first | omega | (dsimp only at *; omega)))
 have zw13 := y13.size
 replace A3 := N13
 refine RS.asI rfl ?_
 refine nl hK11 ?_
 refine wp_ret ?_
 refine ret (rs := [.cell 2 42, .tmp 3]) (vs := [.agg _, .int _ _]) (v := (.tuple #[.agg _, .int _ _])) rfl ⟨⟨_, rfl, loadVar_agg Tryd.underlying42 rfl C42 (by decide) (by rw [ints_length, A3.len]) A3.cells⟩, rfl, trivial⟩ rfl ?_
 rw [if_pos hz, hz]
 exact ⟨_, rfl, hE, rfl⟩
end Go.Proofs.YtiohpiiiapjblaaDoor.W
namespace Go.Proofs.YtiohpiiiapjblaaDoor.S
open G
/-- A number in four bytes. -/
def by4 (n : Int) : List Int := [n / 2 ^ (24 : Int).toNat % 256, n / 2 ^ (16 : Int).toNat % 256, n / 2 ^ (8 : Int).toNat % 256, n % 256]
def headS (kind : Int) (l : List Int) : List Int := kind :: l.flatMap by4
theorem by4_len (n : Int) : (by4 n).length = 4 := rfl
theorem head_snoc (kind : Int) (l : List Int) (i : Nat) (h : i < l.length) : headS kind (l.take (i + 1)) = headS kind (l.take i) ++ by4 (l.getD i 0) := by
  unfold headS
  rw [take_snoc l i h, List.flatMap_append, List.cons_append]
  simp
theorem head_len (kind : Int) : ∀ l : List Int, (headS kind l).length = 1 + 4 * l.length
  | [] => rfl
  | x :: l => by
    have := head_len kind l
    simp only [headS, List.length_cons, List.flatMap_cons, List.length_append, by4_len] at *
    omega
def hashS (kind : Int) (l m : List Int) : Int := be ((sha (headS kind l ++ m)).take 8)
theorem be_step (xs : List Int) (i : Nat) (hB : Bd .u8 xs) (hi : i < 8) (hl : 8 ≤ xs.length) : ior (be (xs.take i) * 2 ^ (8 : Int).toNat % 18446744073709551616) (xs.getD i 0) = be (xs.take (i + 1)) := by
  have hb := be_bd _ (hB.take i)
  have hx := hB.get i
  simp only [lim] at hx
  have hp : (256 : Int) ^ (xs.take i).length ≤ 256 ^ 7 := pow256 (by simp; omega)
  have h256 : (256 : Int) ^ 7 = 72057594037927936 := by decide
  have h8 : (2 : Int) ^ (8 : Int).toNat = 256 := by decide
  rw [take_snoc xs i (by omega), be_snoc, h8, Int.emod_eq_of_lt (by omega) (by omega)]
  exact ior_add _ _ hb.1 hx
theorem be8_lt (xs : List Int) (i : Nat) (hB : Bd .u8 xs) (hi : i ≤ 8) : 0 ≤ be (xs.take i) ∧ be (xs.take i) < 18446744073709551616 := by
  have hb := be_bd _ (hB.take i)
  have hp : (256 : Int) ^ (xs.take i).length ≤ 256 ^ 8 := pow256 (by simp; omega)
  have h256 : (256 : Int) ^ 8 = 18446744073709551616 := by decide
  omega
theorem hash_bd (kind : Int) (l m : List Int) : 0 ≤ hashS kind l m ∧ hashS kind l m < 18446744073709551616 := be8_lt _ 8 (sha_arr _).2 (Nat.le_refl _)
def nonceS (x : Int) (m : List Int) : Int := hashS 110 [x] m % 500000002 + 1
def chalS (r y : Int) (m : List Int) : Int := hashS 99 [r, y] m % 500000003
theorem nonce_bd (x : Int) (m : List Int) : 1 ≤ nonceS x m ∧ nonceS x m < 500000003 := by unfold nonceS; omega
theorem chal_bd (r y : Int) (m : List Int) : 0 ≤ chalS r y m ∧ chalS r y m < 500000003 := by unfold chalS; omega
/-- The public key of a secret. -/
def pubS (x : Int) : Int := pw 4 x 1000000007
def sigE (x : Int) (m : List Int) : Int := chalS (pubS (nonceS x m)) (pubS x) m
def sigS (x : Int) (m : List Int) : Int := (nonceS x m + sigE x m * x % 500000003) % 500000003
def secE (x : Int) : Int := if 0 < x ∧ x < 500000003 then 0 else 2
def verS (y : Int) (m : List Int) (e s : Int) : Int :=
  if isG y = false then 2 else if 9991 < m.length then 4 else if ¬ (e < 500000003 ∧ s < 500000003) then 22
  else if chalS (pubS s * pw y (500000003 - e) 1000000007 % 1000000007) y m = e then 0 else 22
/-- A fast power. -/
def fpw : Nat → Int → Int → Int → Int → Int
  | 0, _, _, r, m => r % m
  | f + 1, a, n, r, m => if n % 2 = 1 then fpw f (a * a % m) (n / 2) (r * a % m) m else fpw f (a * a % m) (n / 2) r m
theorem fpw_eq : ∀ (f : Nat) (a n r m : Int), 0 ≤ n → n < 2 ^ f → fpw f a n r m = r * a ^ n.toNat % m
  | 0, a, n, r, m, h0, h => by
    obtain rfl : n = 0 := by simp at h; omega
    simp [fpw]
  | f + 1, a, n, r, m, h0, h => by
    have h2 : n / 2 < 2 ^ f := by rw [Int.pow_succ] at h; omega
    rw [fpw]
    split
    · rename_i ho
      rw [fpw_eq f _ _ _ _ (by omega) h2, power_odd a r m n h0 ho]
    · rename_i ho
      rw [fpw_eq f _ _ _ _ (by omega) h2, power_even a r m n h0 ho]
theorem pw_fast (a n m : Int) (h0 : 0 ≤ n) (h : n < 1073741824) : pw a n m = fpw 30 a n 1 m := by
  rw [fpw_eq 30 a n 1 m h0 h, pw, Int.one_mul]
theorem pw_pw (a x n m : Int) (hx : 0 ≤ x) (hn : 0 ≤ n) : pw (pw a x m) n m = pw a (x * n) m := by
  unfold pw
  rw [mod_pow, ← Int.pow_mul, Int.toNat_mul hx hn]
theorem pw_add (a x n m : Int) (hx : 0 ≤ x) (hn : 0 ≤ n) : pw a x m * pw a n m % m = pw a (x + n) m := by
  unfold pw
  rw [← Int.mul_emod, ← Int.pow_add, Int.toNat_add hx hn]
theorem pw_zero (a m : Int) (hm : 1 < m) : pw a 0 m = 1 := by
  unfold pw
  rw [show (0 : Int).toNat = 0 from rfl, Int.pow_zero]
  exact Int.emod_eq_of_lt (by omega) hm
theorem pw_cyc (a q t m : Int) (hm : 1 < m) (hq : 0 ≤ q) (ht : 0 ≤ t) (h : pw a q m = 1) : pw a (q * t) m = 1 := by
  rw [← pw_pw a q t m hq ht, h, pw, Int.one_pow]
  exact Int.emod_eq_of_lt (by omega) hm
theorem pw_mod (a q n m : Int) (hm : 1 < m) (hq : 0 < q) (hn : 0 ≤ n) (h : pw a q m = 1) : pw a n m = pw a (n % q) m := by
  have h1 := Int.emod_nonneg n (show q ≠ 0 by omega)
  have h2 : 0 ≤ n / q := Int.ediv_nonneg hn (by omega)
  have h3 := pw_nonneg a (n % q) m (by omega)
  have h4 := pw_lt a (n % q) m (by omega)
  have e : n = q * (n / q) + n % q := (Int.mul_ediv_add_emod n q).symm
  conv => lhs; rw [e]
  rw [← pw_add a _ _ m (Int.mul_nonneg (by omega) h2) h1, pw_cyc a q _ m hm (by omega) h2 h, Int.one_mul]
  exact Int.emod_eq_of_lt h3 h4
theorem gen_one : pw 4 500000003 1000000007 = 1 := by
  rw [pw_fast _ _ _ (by decide) (by decide)]
  decide +kernel
theorem isG_of (a q : Int) (hq : q = 500000003) (h0 : 0 ≤ a) (h1 : a < 1000000007) (h : pw a q 1000000007 = 1) : isG a = true := by
  have h2 : 0 < a := by
    rcases Int.lt_or_eq_of_le h0 with h2 | h2
    · exact h2
    · rw [← h2] at h
      unfold pw at h
      rw [Int.zero_pow (by omega)] at h
      simp at h
  rw [isG_true h2 h1, ← hq, h]
  rfl
theorem isG_one {a : Int} (h : isG a = true) : pw a 500000003 1000000007 = 1 := by
  have hb := isG_bd h
  rw [isG_true hb.1 hb.2] at h
  exact eq_of_beq h
theorem isG_pw (a n q : Int) (hq : q = 500000003) (h1 : pw a q 1000000007 = 1) (hn : 0 ≤ n) : isG (pw a n 1000000007) = true := by
  refine isG_of _ q hq (pw_nonneg _ _ _ (by decide)) (pw_lt _ _ _ (by decide)) ?_
  rw [pw_pw a n q _ hn (by omega), Int.mul_comm, pw_cyc a q n _ (by decide) (by omega) hn h1]
theorem isG_pub (n : Int) (hn : 0 ≤ n) : isG (pubS n) = true := isG_pw 4 n _ rfl gen_one hn
theorem isG_back {a : Int} (n : Int) (h : isG a = true) (hn : 0 ≤ n) : isG (pw a n 1000000007) = true := isG_pw a n _ rfl (isG_one h) hn
theorem ver_go (k x e q : Int) (hq : 0 < q) (h1 : pw 4 q 1000000007 = 1) (hk : 0 ≤ k ∧ k < q) (hx : 0 ≤ x) (he : 0 ≤ e ∧ e ≤ q) :
    pubS ((k + e * x % q) % q) * pw (pubS x) (q - e) 1000000007 % 1000000007 = pubS k := by
  unfold pubS
  have hm := Int.emod_nonneg (k + e * x % q) (show q ≠ 0 by omega)
  have hxe : 0 ≤ x * (q - e) := Int.mul_nonneg hx (by omega)
  rw [pw_pw 4 x _ _ hx (by omega), pw_add 4 _ _ _ hm hxe, pw_mod 4 q _ _ (by decide) hq (by omega) h1, pw_mod 4 q k _ (by decide) hq hk.1 h1]
  congr 1
  have e1 : (k + e * x % q) % q = (k + e * x) % q := by rw [Int.add_emod, Int.emod_emod_of_dvd _ (Int.dvd_refl q), ← Int.add_emod]
  have e2 : k + e * x + x * (q - e) = k + x * q := by rw [Int.mul_sub, Int.mul_comm e x]; omega
  rw [e1, Int.emod_add_emod, e2, Int.add_mul_emod_self_right]
theorem ver_sig (x : Int) (m : List Int) (hx : 0 < x ∧ x < 500000003) (hm : m.length ≤ 9991) : verS (pubS x) m (sigE x m) (sigS x m) = 0 := by
  have h1 : sigE x m < 500000003 ∧ sigS x m < 500000003 := ⟨(chal_bd _ _ _).2, by unfold sigS; omega⟩
  unfold verS
  rw [if_neg (by rw [isG_pub x (by omega)]; simp), if_neg (by omega), if_neg (fun h => h h1), if_pos]
  have hk := nonce_bd x m
  have he := chal_bd (pubS (nonceS x m)) (pubS x) m
  have := ver_go (nonceS x m) x (sigE x m) _ (by decide) gen_one (by omega) (by omega) ⟨he.1, Int.le_of_lt he.2⟩
  unfold sigS
  rw [this]
  rfl
theorem sig_bd (x : Int) (m : List Int) : (0 ≤ sigE x m ∧ sigE x m < 500000003) ∧ 0 ≤ sigS x m ∧ sigS x m < 500000003 := ⟨chal_bd _ _ _, by unfold sigS; omega⟩
def OpV.zero : OpV := ⟨0, 0, 0, 0, 0, 0, 0, 0, 0, [], .empty, .empty⟩
theorem OpV.zero_ok : OpV.zero.ok := ⟨by decide, by decide, by decide, by decide, by decide, by decide, by decide, by decide, by decide, by decide, by decide⟩
/-- An operation with another author. -/
def OpV.wit (o : OpV) (x : Int) : OpV := { o with au := pubS x }
def signE (x : Int) (o : OpV) : Int := if secE x = 0 then checkE (o.wit x).bare else 2
def signS (x : Int) (o : OpV) : OpV := if signE x o = 0 then { o.wit x with e := sigE x (msgS (o.wit x)), s := sigS x (msgS (o.wit x)) } else OpV.zero
def verE (o : OpV) : Int := if checkE o = 0 then verS o.au (msgS o) o.e o.s else checkE o
theorem pub_bd (x : Int) : 0 ≤ pubS x ∧ pubS x < 1000000007 := ⟨pw_nonneg _ _ _ (by decide), pw_lt _ _ _ (by decide)⟩
theorem OpV.wit_ok {o : OpV} (x : Int) (h : o.ok) : (o.wit x).ok := ⟨by have := pub_bd x; show 0 ≤ pubS x ∧ pubS x < 4294967296; omega, h.st, h.k, h.vk, h.num, h.bits, h.e, h.s, h.n, h.key, h.t⟩
theorem secE_zero {x : Int} : secE x = 0 ↔ 0 < x ∧ x < 500000003 := by unfold secE; split <;> simp_all
theorem signE_zero {x : Int} {o : OpV} : signE x o = 0 ↔ (0 < x ∧ x < 500000003) ∧ checkE (o.wit x).bare = 0 := by
  unfold signE
  rw [← secE_zero]
  split <;> simp_all
theorem sign_good {x : Int} {o : OpV} (ho : o.ok) (hl : o.ids.length = 32 * o.n) (h : signE x o = 0) : (signS x o).au = pubS x ∧ (signS x o).st = o.st ∧ checkE (signS x o) = 0 ∧ checkE (signS x o).bare = 0 ∧ msgS (signS x o) = msgS (o.wit x) ∧ verS (pubS x) (msgS (o.wit x)) (signS x o).e (signS x o).s = 0 ∧ verE (signS x o) = 0 := by
  have e : signS x o = { o.wit x with e := sigE x (msgS (o.wit x)), s := sigS x (msgS (o.wit x)) } := by unfold signS; rw [if_pos h]
  obtain ⟨hx, hc⟩ := signE_zero.1 h
  have hb := sig_bd x (msgS (o.wit x))
  obtain ⟨c1, c2, c3⟩ := check_zero.1 hc
  have hz : checkE (signS x o) = 0 := by
    rw [e]
    exact check_zero.2 ⟨c1, c2, c3.1, c3.2.1, hb.1.2, hb.2.2, c3.2.2.2.2⟩
  have hz2 : checkE (signS x o).bare = 0 := by rw [e]; exact hc
  have hv : verS (pubS x) (msgS (o.wit x)) (sigE x (msgS (o.wit x))) (sigS x (msgS (o.wit x))) = 0 := ver_sig x _ hx (by have := msg_len (o.wit x) (OpV.wit_ok x ho) c1 hl; omega)
  have hm : msgS (signS x o) = msgS (o.wit x) := by rw [e]; rfl
  refine ⟨by rw [e]; rfl, by rw [e]; rfl, hz, hz2, hm, ?_, ?_⟩
  · rw [e]; exact hv
  · unfold verE
    rw [if_pos hz, hm, e]
    exact hv
theorem pub_eq (x : Int) : pw 4 x 1000000007 = pubS x := rfl
theorem nonce_eq (x : Int) (m : List Int) : hashS 110 [x] m % 500000002 + 1 = nonceS x m := rfl
theorem chal_eq (r y : Int) (m : List Int) : hashS 99 [r, y] m % 500000003 = chalS r y m := rfl
theorem hash_eq (kind : Int) (l m : List Int) : be ((sha (headS kind l ++ m)).take 8) = hashS kind l m := rfl
theorem sigE_eq (x : Int) (m : List Int) : chalS (pubS (nonceS x m)) (pubS x) m = sigE x m := rfl
theorem sigS_eq (x : Int) (m : List Int) : (nonceS x m + sigE x m * x % 500000003) % 500000003 = sigS x m := rfl
theorem secE_two {x : Int} (h : ¬ secE x = 0) : secE x = 2 := by
  unfold secE at *
  split <;> simp_all
theorem signS_eq {x : Int} {o : OpV} (h : signE x o = 0) : signS x o = { o.wit x with e := sigE x (msgS (o.wit x)), s := sigS x (msgS (o.wit x)) } := by unfold signS; rw [if_pos h]
theorem check_bare {o : OpV} (h : checkE o = 0) : checkE o.bare = 0 := by
  obtain ⟨q1, q2, q3⟩ := check_zero.1 h
  exact check_zero.2 ⟨q1, q2, q3.1, q3.2.1, (by show (0 : Int) < 500000003; decide), (by show (0 : Int) < 500000003; decide), q3.2.2.2.2⟩
theorem signS_ok (x : Int) (o : OpV) (ho : o.ok) : (signS x o).ok := by
  unfold signS
  split
  · have h := OpV.wit_ok x ho
    have hb := sig_bd x (msgS (o.wit x))
    refine ⟨h.au, h.st, h.k, h.vk, h.num, h.bits, ?_, ?_, h.n, h.key, h.t⟩
    · show 0 ≤ sigE x _ ∧ sigE x _ < 4294967296; omega
    · show 0 ≤ sigS x _ ∧ sigS x _ < 4294967296; omega
  · exact OpV.zero_ok
def Fit (o : OpV) : Prop := ¬ (20 < o.n ∨ 100 < o.key.size ∨ 100 < o.t.size) ∧ checkE o = 0
instance (o : OpV) : Decidable (Fit o) := by unfold Fit; infer_instance
/-- The operation of the examples. -/
def givenO : OpV := ⟨4, 7, 2, 0, 0, 0, 5, 6, 0, [], ⟨#[97]⟩, .empty⟩
def wrongO : OpV := { givenO with au := 5 }
theorem given_ok : givenO.ok := ⟨by decide, by decide, by decide, by decide, by decide, by decide, by decide, by decide, by decide, by decide, by decide⟩
theorem wrong_ok : wrongO.ok := ⟨by decide, by decide, by decide, by decide, by decide, by decide, by decide, by decide, by decide, by decide, by decide⟩
theorem isG_four : isG 4 = true := isG_of 4 _ rfl (by decide) (by decide) gen_one
theorem isG_five : isG 5 = false := by
  rw [isG_true (by decide) (by decide), pw_fast _ _ _ (by decide) (by decide)]
  decide +kernel
theorem pub_two : pubS 2 = 16 := by
  unfold pubS
  rw [pw_fast _ _ _ (by decide) (by decide)]
  decide +kernel
theorem rising_nil : Rising 0 [] := fun j hj => by omega
theorem act_a : FineAct 2 ⟨#[97]⟩ 0 0 0 .empty := .inr (.inl ⟨.inl rfl, by decide +kernel, rfl, rfl, rfl, rfl⟩)
theorem given_check : checkE givenO = 0 := check_zero.2 ⟨by decide, rising_nil, isG_four, by decide, by decide, by decide, act_a⟩
theorem given_bare : checkE givenO.bare = 0 := check_bare given_check
theorem wrong_check : checkE wrongO = 8 := (check8 (by decide) rising_nil (fun h => by have := h.1; rw [show wrongO.au = 5 from rfl, isG_five] at this; cases this)).symm
theorem given_sign : signE 2 givenO = 0 := signE_zero.2 ⟨by decide, check_zero.2 ⟨by decide, rising_nil, isG_pub 2 (by decide), by decide, by decide, by decide, act_a⟩⟩
theorem given_msg : msgS givenO = [111, 4, 0, 7, 2, 1, 97] := by decide +kernel
theorem given_enc : encS givenO = [111, 4, 0, 7, 2, 1, 97, 5, 6] := by decide +kernel
def hashE (m : List Int) : Int := if 9991 < m.length then 4 else 0
def nonceE (x : Int) (m : List Int) : Int := if secE x = 0 then hashE m else 2
theorem nonceE_zero {x : Int} {m : List Int} : nonceE x m = 0 ↔ secE x = 0 ∧ hashE m = 0 := by
  unfold nonceE
  split <;> simp_all
attribute [irreducible] hashS nonceS chalS pubS sigE sigS
end Go.Proofs.YtiohpiiiapjblaaDoor.S
namespace Go.Proofs.YtiohpiiiapjblaaDoor.W
open Go.RowKit Go.Proofs.YtiohpiiiapjblaaDoor.G
set_option linter.unusedVariables false
set_option maxRecDepth 20000
set_option maxHeartbeats 8000000
attribute [local irreducible] RS RX
theorem E16 : Enters Tryd.prog 16 := .mk Tryd.func16 (by kernel_rfl) rfl
theorem E22 : Enters Tryd.prog 22 := .mk Tryd.func22 (by kernel_rfl) rfl
theorem E23 : Enters Tryd.prog 23 := .mk Tryd.func23 (by kernel_rfl) rfl
theorem E26 : Enters Tryd.prog 26 := .mk Tryd.func26 (by kernel_rfl) rfl
theorem E65 : Enters Tryd.prog 65 := .mk Tryd.func65 (by kernel_rfl) rfl
theorem E66 : Enters Tryd.prog 66 := .mk Tryd.func66 (by kernel_rfl) rfl
theorem E67 : Enters Tryd.prog 67 := .mk Tryd.func67 (by kernel_rfl) rfl
theorem E68 : Enters Tryd.prog 68 := .mk Tryd.func68 (by kernel_rfl) rfl
theorem E69 : Enters Tryd.prog 69 := .mk Tryd.func69 (by kernel_rfl) rfl
theorem E99 : Enters Tryd.prog 99 := .mk Tryd.func99 (by kernel_rfl) rfl
theorem E100 : Enters Tryd.prog 100 := .mk Tryd.func100 (by kernel_rfl) rfl
theorem E101 : Enters Tryd.prog 101 := .mk Tryd.func101 (by kernel_rfl) rfl
theorem E104 : Enters Tryd.prog 104 := .mk Tryd.func104 (by kernel_rfl) rfl
theorem secCheck (x : Int) (hx : 0 ≤ x ∧ x < 4294967296) (w : World) :
  Calls Tryd.prog 65 #[.int .u32 x] w (Ret w fun v _ => v = .int .i64 (S.secE x)) := by
 have hE := Ext.refl w
 refine enterU 5 Tryd.func65 rfl rfl ?_
 refine sq fun K1 hK1 => ?_
 refine RS.asI rfl ?_
 refine nl hK1 ?_
 refine wp_seq_k (fun K2 hK2 => ?_)
 refine sq fun K3 hK3 => ?_
 refine RS.mvI rfl ?_
 refine RS.o (D.sub rfl rfl (W.u32m _)) ?_
 refine RS.o (D.ge rfl rfl) ?_
 refine nl hK3 ?_
 refine C.ifd rfl (fun c4 => ?_) (fun c4 => ?_)
 ·refine wp_seq_k (fun K5 hK5 => ?_)
  refine region ?_
  refine RS.asI rfl ?_
  refine nl hK5 ?_
  refine wp_ret ?_
  refine retI rfl rfl ?_
  refine ⟨_, rfl, hE, congrArg (Value.int .i64) ?_⟩
  unfold S.secE
  first | rw [if_pos (by omega)] | rw [if_neg (by omega)]
 refine wp_skip ?_
 refine hK2 _ _ ?_
 refine sq fun K6 hK6 => ?_
 refine RS.asI rfl ?_
 refine nl hK6 ?_
 refine wp_ret ?_
 refine retI rfl rfl ?_
 refine ⟨_, rfl, hE, congrArg (Value.int .i64) ?_⟩
 unfold S.secE
 first | rw [if_pos (by omega)] | rw [if_neg (by omega)]
theorem publicW (x : Int) (hx : 0 ≤ x ∧ x < 4294967296) (w : World) :
  Calls Tryd.prog 26 #[.int .u32 x] w (Ret w fun v _ => v = .tuple #[.int .u32 (if S.secE x = 0 then S.pubS x else 0), .int .i64 (S.secE x)]) := by
 have hE := Ext.refl w
 refine enterU 12 Tryd.func26 rfl rfl ?_
 refine sq fun K1 hK1 => ?_
 refine RS.asI rfl ?_
 refine RS.asI rfl ?_
 refine nl hK1 ?_
 refine wp_seq_k (fun K2 hK2 => ?_)
 refine sq fun K3 hK3 => ?_
 refine RS.mvI rfl ?_
 refine RS.call E65 (secCheck _ (by omega) _) rfl (fun v4 w4 x4 A4 => ?_)
 replace hE := Ext.tr hE x4
 have zw4 := x4.size
 subst A4
 refine RS.nm ?_
 refine RS.asI rfl ?_
 refine nl hK3 ?_
 refine sq fun K5 hK5 => ?_
 refine RS.mvI rfl ?_
 refine RS.o (D.ne rfl rfl) ?_
 refine nl hK5 ?_
 refine C.ifn rfl (fun c6 => ?_) (fun c6 => ?_)
 ·have hz := c6
  refine sq fun K7 hK7 => ?_
  refine RS.mvI rfl ?_
  refine RS.asI rfl ?_
  refine RS.asI rfl ?_
  refine nl hK7 ?_
  refine wp_ret ?_
  refine ret (rs := [.tmp 2, .tmp 3]) (vs := [.int _ _, .int _ _]) (v := (.tuple #[.int _ _, .int _ _])) rfl ⟨rfl, rfl, trivial⟩ rfl ?_
  refine ⟨_, rfl, hE, ?_⟩
  rw [if_neg hz]
 have hz := c6
 refine wp_skip ?_
 refine hK2 _ _ ?_
 refine sq fun K8 hK8 => ?_
 refine RS.mvI rfl ?_
 refine RS.o (D.conv rfl Tryd.underlying22 Tryd.underlying24 (W.u64 (by omega))) ?_
 refine RS.call E66 (group_Base _ (by omega) _) rfl (fun v9 w9 x9 A9 => ?_)
 replace hE := Ext.tr hE x9
 have zw9 := x9.size
 subst A9
 refine RS.nm ?_
 refine RS.asI rfl ?_
 refine RS.asI rfl ?_
 refine nl hK8 ?_
 refine wp_ret ?_
 refine ret (rs := [.tmp 2, .tmp 3]) (vs := [.int _ _, .int _ _]) (v := (.tuple #[.int _ _, .int _ _])) rfl ⟨rfl, rfl, trivial⟩ rfl ?_
 refine ⟨_, rfl, hE, ?_⟩
 rw [if_pos hz, hz, S.pub_eq]
theorem hash {S0 S1 : Nat → Prop} (kd : Int) (hkd : 0 ≤ kd ∧ kd < 256) (a : Option Addr) (n c : Nat) (m : List Int) (a2 : Option Addr) (n2 c2 : Nat) (l : List Int) (TK : TypeId) (w : World) (K0 : Kst w TK) (R0 : IRow .u8 S0 w a n m) (hc : n ≤ c) (R1 : IRow .u32 S1 w a2 n2 l) (hn2 : n2 ≤ 5) :
  Calls Tryd.prog 104 #[.int .u8 kd, .slice a n c, .slice a2 n2 c2] w (Ret w fun v _ => v = .tuple #[.int .u64 (if 9991 < m.length then 0 else S.hashS kd l m), .int .i64 (S.hashE m)]) := by
 replace R0 := R0.weaken (T := fun k => k < w.heap.size) (fun k hk _ => hk)
 replace R1 := R1.weaken (T := fun k => k < w.heap.size) (fun k hk _ => hk)
 have hKl := K0.lt
 have hml := R0.len
 have hll := R1.len
 have hE := Ext.refl w
 refine enterU 60 Tryd.func104 rfl rfl ?_
 refine sq fun K1 hK1 => ?_
 refine RS.asI rfl ?_
 refine RS.asI rfl ?_
 refine nl hK1 ?_
 refine wp_seq_k (fun K2 hK2 => ?_)
 refine sq fun K3 hK3 => ?_
 refine RS.mvS rfl ?_
 refine RS.o (D.len rfl Tryd.underlying35) ?_
 refine RS.o (D.gt rfl rfl) ?_
 refine nl hK3 ?_
 refine C.ifd rfl (fun c4 => ?_) (fun c4 => ?_)
 ·have hgt := c4
  refine sq fun K5 hK5 => ?_
  refine RS.asI rfl ?_
  refine RS.asI rfl ?_
  refine nl hK5 ?_
  refine wp_ret ?_
  refine ret (rs := [.tmp 6, .tmp 7]) (vs := [.int _ _, .int _ _]) (v := (.tuple #[.int _ _, .int _ _])) rfl ⟨rfl, rfl, trivial⟩ rfl ?_
  refine ⟨_, rfl, hE, ?_⟩
  unfold S.hashE
  rw [if_pos (by omega), if_pos (by omega)]
 have hgt := c4
 refine wp_skip ?_
 refine hK2 _ _ ?_
 refine sq fun K6 hK6 => ?_
 refine RS.mvI rfl ?_
 refine RS.buildSlice (xs := [.tmp 19]) (vs := [.int _ _]) (cs := [.int _ _]) Tryd.underlying35 T5 (by decide) rfl rfl rfl rfl rfl rfl (by intro v hv; simp only [List.mem_cons, List.not_mem_nil, or_false] at hv; subst hv; rfl) rfl (fun b7 w7 e7 s7 x7 B7 => ?_)
 refine RS.nm ?_
 replace hE := Ext.tr hE x7
 replace K0 := K0.ext x7
 replace R0 := R0.ext x7
 replace R1 := R1.ext x7
 have zw7 := x7.size
 have O1 : IOwn w.heap.size w7 5 .u8 (some ⟨b7, 0, none⟩) 1 1 [_] := IOwn.of_blk B7 rfl rfl (by omega) (.cons (by simp only [lim]; omega) (.nil _)) (by decide)
 refine RS.asS rfl ?_
 refine nl hK6 ?_
 refine wp_seq_k (fun K8 hK8 => ?_)
 refine sq fun K9 hK9 => ?_
 refine RS.mvS rfl ?_
 refine RS.o (D.len rfl Tryd.underlying157) ?_
 refine RS.mvI rfl ?_
 refine nl hK9 ?_
 refine wp_block ?_
 refine C.loop (A := Int × Option Addr × Nat × Nat) (fun p => [(8, .slice p.2.1 p.2.2.1 p.2.2.2), (23, .int .i64 p.1)]) [10, 24, 25, 26, 27, 28, 29, 30, 31, 32, 33, 34, 35, 36, 37, 38, 39, 40, 41] (fun p w' => Pr (fun k => w.heap.size ≤ k) w7 w' ∧ ((0 ≤ p.1 ∧ p.1 ≤ n2) ∧ IOwn w.heap.size w' 5 .u8 p.2.1 p.2.2.1 p.2.2.2 (S.headS kd (l.take p.1.toNat)))) (fun p => (n2 - p.1.toNat)) (0, some ⟨b7, 0, none⟩, 1, 1) (by kernel_rfl) ?_ ?_
 ·exact ⟨Pr.refl _ _, ⟨by dsimp only; omega, by dsimp only; omega⟩, by simpa [S.headS] using O1⟩
 rintro p j w10 ⟨x10, hI⟩
 replace hE := hE.trans (x10.belo)
 replace K0 := K0.pro x10
 replace R0 := R0.pro x10
 replace R1 := R1.pro x10
 have zw10 := x10.size
 obtain ⟨i, ao, no, co⟩ := p
 dsimp only at hI
 obtain ⟨h1, O1⟩ := hI
 have hol := O1.len
 rw [S.head_len, List.length_take] at hol
 refine C.norm (by simp only [upd, junk, List.map_cons, List.map_nil, List.set_cons_succ, List.set_cons_zero]; exact rfl) ?_
 refine sq fun K11 hK11 => ?_
 refine RS.o (D.lt rfl rfl) ?_
 refine nl hK11 ?_
 refine wp_seq_k (fun K12 hK12 => ?_)
 refine C.ifd rfl (fun c13 => ?_) (fun c13 => ?_)
 ·refine wp_skip ?_
  refine hK12 _ _ ?_
  refine wp_seq_k (fun K14 hK14 => ?_)
  refine wp_block ?_
  refine sq fun K15 hK15 => ?_
  refine RS.idx R1 rfl rfl Tryd.underlying157 C22 (by omega) (fun b16 o16 v16 h16 q16 r16 => ?_)
  refine RS.nm ?_
  simp only [lim] at r16
  have q1 := q16
  refine RS.o (D.load rfl Tryd.underlying22 rfl (h16)) ?_
  refine RS.asI rfl ?_
  refine nl hK15 ?_
  refine region ?_
  refine RS.mvS rfl ?_
  refine RS.mvI rfl ?_
  refine RS.ob (D.shr_u32 rfl rfl (by omega) (by constructor <;> omega)) (fun z17 => ?_)
  refine RS.o (D.conv rfl Tryd.underlying22 Tryd.underlying5 (W.u8m _)) ?_
  refine RS.mvI rfl ?_
  refine RS.ob (D.shr_u32 rfl rfl (by omega) (by constructor <;> omega)) (fun z18 => ?_)
  refine RS.o (D.conv rfl Tryd.underlying22 Tryd.underlying5 (W.u8m _)) ?_
  refine RS.mvI rfl ?_
  refine RS.ob (D.shr_u32 rfl rfl (by omega) (by constructor <;> omega)) (fun z19 => ?_)
  refine RS.o (D.conv rfl Tryd.underlying22 Tryd.underlying5 (W.u8m _)) ?_
  refine RS.mvI rfl ?_
  refine RS.o (D.conv rfl Tryd.underlying22 Tryd.underlying5 (W.u8m _)) ?_
  refine RS.buildSlice (xs := [.tmp 30, .tmp 33, .tmp 36, .tmp 38]) (vs := [.int _ _, .int _ _, .int _ _, .int _ _]) (cs := [.int _ _, .int _ _, .int _ _, .int _ _]) Tryd.underlying35 T5 (by decide) rfl rfl rfl rfl rfl rfl (by intro v hv; simp only [List.mem_cons, List.not_mem_nil, or_false] at hv; rcases hv with rfl | rfl | rfl | rfl <;> rfl) rfl (fun b20 w20 e20 s20 x20 B20 => ?_)
  refine RS.nm ?_
  replace hE := Ext.tr hE x20
  replace x10 := x10.ext x20
  replace K0 := K0.ext x20
  replace R0 := R0.ext x20
  replace R1 := R1.ext x20
  replace O1 := O1.ext x20
  have zw20 := x20.size
  have Q1 : IRow .u8 (fun k => k = b20) w20 (some ⟨b20, 0, none⟩) 4 [_, _, _, _] := IRow.of_blk B20 rfl rfl rfl (.cons (by simp only [lim]; omega) (.cons (by simp only [lim]; omega) (.cons (by simp only [lim]; omega) (.cons (by simp only [lim]; omega) (.nil _)))))
  refine RS.appendI O1 Q1 rfl rfl Tryd.underlying35 T5 rfl (by omega) (by decide) (by omega) (fun a21 c21 w21 N21 x21 => ?_)
  refine RS.nm ?_
  replace hE := hE.trans (x21.below (by intros; try (first | (intro _ _) | (intro _) | skip); first | omega | (have hq := O1.lo _ (by assumption); first | omega | (dsimp only at *; omega))) (by intros; try (first | (intro _ _) | (intro _) | skip); first | omega | (dsimp only at *; omega) | (simp_all; done) | (simp at *; omega)))
  replace x10 := x10.prn x21 (by intros; try (first | (intro _ _) | (intro _) | skip); first | omega | (have hq := O1.lo _ (by assumption); first | omega | (dsimp only at *; omega)))
  replace K0 := K0.pr x21 (by intros; try (first | (intro _ _) | (intro _) | skip); first | omega | (have hq := O1.lo _ (by assumption); first | omega | (dsimp only at *; omega)))
  replace R0 := R0.pr x21 (by intros; try (first | (intro _ _) | (intro _) | skip); first | omega | (have hq := O1.lo _ (by assumption); first | omega | (dsimp only at *; omega)))
  replace R1 := R1.pr x21 (by intros; try (first | (intro _ _) | (intro _) | skip); first | omega | (have hq := O1.lo _ (by assumption); first | omega | (dsimp only at *; omega)))
  have zw21 := x21.size
  replace O1 := N21
  refine RS.asS rfl ?_
  refine nl hK14 ?_
  refine region ?_
  refine RS.o (D.add rfl rfl (W.i64 (by omega))) ?_
  refine RS.mvI rfl ?_
  refine RS.nil ?_
  change Nx _ _ _ _ _ _ _ _
  refine C.next (i + 1, _, _, _) ⟨rfl, rfl, trivial⟩ (by kernel_rfl) ?_ ?_
  ·refine ⟨x10, ⟨by dsimp only; omega, by dsimp only; omega⟩, ?_⟩
   dsimp only
   rw [show (i + 1).toNat = i.toNat + 1 by omega, S.head_snoc _ _ _ (by omega), ← q1]
   exact O1
  dsimp only; omega
 refine wp_exit ?_
 refine hK8 _ _ ?_
 refine sq fun K22 hK22 => ?_
 refine RS.mvS rfl ?_
 refine RS.mvS rfl ?_
 refine RS.buildSlice (xs := [.tmp 43, .tmp 44]) (vs := [.slice _ _ _, .slice _ _ _]) (cs := [.slice _ _ _, .slice _ _ _]) Tryd.underlying70 T35 (by decide) rfl rfl rfl rfl rfl rfl (by intro v hv; simp only [List.mem_cons, List.not_mem_nil, or_false] at hv; rcases hv with rfl | rfl <;> rfl) rfl (fun b23 w23 e23 s23 x23 B23 => ?_)
 refine RS.nm ?_
 replace hE := Ext.tr hE x23
 replace K0 := K0.ext x23
 replace R0 := R0.ext x23
 replace R1 := R1.ext x23
 replace O1 := O1.ext x23
 have zw23 := x23.size
 have el : l.take i.toNat = l := List.take_of_length_le (by omega)
 rw [el] at O1
 have pO1 := O1.own.pre
 have hpp : cat [⟨ao, no, co, S.headS kd l⟩, ⟨a, n, c, m⟩] = S.headS kd l ++ m := by simp [cat]
 have hhl := S.head_len kd l
 refine RS.call E77 (pieces [⟨ao, no, co, S.headS kd l⟩, ⟨a, n, c, m⟩] _ _ _ _ _ K0 (PRow.of_blkE B23 rfl rfl ⟨⟨_, O1.row, pO1⟩, ⟨_, R0, hc⟩, trivial⟩) (show (2 : Nat) ≤ 20 by decide) (by intro p hp; simp only [List.mem_cons, List.not_mem_nil, or_false] at hp; rcases hp with rfl | rfl <;> (dsimp only; omega)) (by rw [hpp, List.length_append]; omega)) rfl (fun v24 w24 x24 A24 => ?_)
 replace hE := Ext.tr hE x24
 replace K0 := K0.ext x24
 replace R0 := R0.ext x24
 replace R1 := R1.ext x24
 replace O1 := O1.ext x24
 replace B23 := B23.ext x24
 have zw24 := x24.size
 subst A24
 rw [hpp]
 have hsa := S.sha_arr (S.headS kd l ++ m)
 refine RS.nm ?_
 refine RS.move (v := .tuple _) rfl ?_
 refine RS.extract (v := .agg _) rfl rfl ?_
 refine RS.extract (v := .int _ _) rfl rfl ?_
 refine RS.alloc T42 (fun b25 w25 e25 s25 x25 B25 => ?_)
 refine RS.nm ?_
 replace hE := Ext.tr hE x25
 replace K0 := K0.ext x25
 replace R0 := R0.ext x25
 replace R1 := R1.ext x25
 have zw25 := x25.size
 have A25 : IArr .u8 w25 b25 32 (List.replicate 32 0) [] 42 := IArr.zero B25
 clear B25
 refine RS.storeArr A25 rfl rfl C42 (by decide) hsa.1 hsa.2 (fun w26 y26 N26 => ?_)
 replace hE := hE.trans (y26.belo)
 replace K0 := K0.sto y26
 replace R0 := R0.sto y26
 replace R1 := R1.sto y26
 have zw26 := y26.size
 replace A25 := N26
 refine RS.asI rfl ?_
 refine nl hK22 ?_
 refine sq fun K27 hK27 => ?_
 refine RS.asI rfl ?_
 refine nl hK27 ?_
 refine wp_seq_k (fun K28 hK28 => ?_)
 refine sq fun K29 hK29 => ?_
 refine RS.o (D.sliceArr (kl := .i64) (kh := .i64) rfl Tryd.underlying42 C5 rfl rfl (by omega)) ?_
 refine RS.o (D.len rfl Tryd.underlying35) ?_
 refine RS.mvI rfl ?_
 refine nl hK29 ?_
 refine wp_block ?_
 refine C.loop (A := Int × Int) (fun p => [(13, .int .u64 p.2), (51, .int .i64 p.1)]) [15, 52, 53, 54, 55, 56, 57, 58, 59, 60] (fun p w' => Ext w26 w' ∧ ((0 ≤ p.1 ∧ p.1 ≤ 8) ∧ p.2 = S.be ((S.sha (S.headS kd l ++ m)).take p.1.toNat))) (fun p => (8 - p.1.toNat)) (0, 0) (by kernel_rfl) ?_ ?_
 ·exact ⟨Ext.refl _, ⟨by dsimp only; omega, by dsimp only; omega⟩, rfl⟩
 rintro p j w30 ⟨x30, hI⟩
 replace hE := Ext.tr hE x30
 replace K0 := K0.ext x30
 replace R0 := R0.ext x30
 replace R1 := R1.ext x30
 replace A25 := A25.ext x30
 have zw30 := x30.size
 obtain ⟨i, r⟩ := p
 dsimp only at hI
 obtain ⟨g1, g2⟩ := hI
 have g3 := S.be8_lt (S.sha (S.headS kd l ++ m)) i.toNat hsa.2 (by omega)
 rw [← g2] at g3
 refine C.norm (by simp only [upd, junk, List.map_cons, List.map_nil, List.set_cons_succ, List.set_cons_zero]; exact rfl) ?_
 refine sq fun K31 hK31 => ?_
 refine RS.o (D.lt rfl rfl) ?_
 refine nl hK31 ?_
 refine wp_seq_k (fun K32 hK32 => ?_)
 refine C.ifd rfl (fun c33 => ?_) (fun c33 => ?_)
 ·refine wp_skip ?_
  refine hK32 _ _ ?_
  refine wp_seq_k (fun K34 hK34 => ?_)
  refine wp_block ?_
  refine wp_seq_k (fun K35 hK35 => ?_)
  have QI := (A25.row (S := fun k => k = b25) rfl).sub 0 8 32 (by decide) (by decide) (by decide)
  refine region ?_
  refine RS.idx QI rfl rfl Tryd.underlying35 C5 (by omega) (fun b36 o36 v36 h36 q36 r36 => ?_)
  refine RS.nm ?_
  simp only [lim] at r36
  have q2 := q36
  rw [List.drop_zero, S.take_getD _ _ _ (by omega)] at q2
  refine RS.o (D.load rfl Tryd.underlying5 rfl (h36)) ?_
  refine RS.asI rfl ?_
  refine nl hK35 ?_
  refine region ?_
  refine RS.mvI rfl ?_
  refine RS.o (D.shl rfl rfl (by constructor <;> (try simp only [IntKind.bits]) <;> omega) (by first | exact W.u64 (by omega) | exact W.u64m _)) ?_
  refine RS.mvI rfl ?_
  refine RS.o (D.conv rfl Tryd.underlying5 Tryd.underlying24 (by first | exact W.u64 (by omega) | exact W.u64m _)) ?_
  refine RS.ob (D.bor_u64 rfl rfl (by omega) (by omega)) (fun z37 => ?_)
  refine RS.asI rfl ?_
  refine nl hK34 ?_
  refine region ?_
  refine RS.o (D.add rfl rfl (W.i64 (by omega))) ?_
  refine RS.mvI rfl ?_
  refine RS.nil ?_
  change Nx _ _ _ _ _ _ _ _
  refine C.next (i + 1, _) ⟨rfl, rfl, trivial⟩ (by kernel_rfl) ?_ ?_
  ·refine ⟨x30, ⟨by dsimp only; omega, by dsimp only; omega⟩, ?_⟩
   dsimp only
   rw [show (i + 1).toNat = i.toNat + 1 by omega, ← S.be_step _ _ hsa.2 (by omega) (by rw [hsa.1]; decide), ← g2, ← q2]
   rfl
  dsimp only; omega
 refine wp_exit ?_
 refine hK28 _ _ ?_
 refine sq fun K38 hK38 => ?_
 refine RS.mvI rfl ?_
 refine RS.mvI rfl ?_
 refine RS.asI rfl ?_
 refine RS.asI rfl ?_
 refine nl hK38 ?_
 refine wp_ret ?_
 refine ret (rs := [.tmp 6, .tmp 7]) (vs := [.int _ _, .int _ _]) (v := (.tuple #[.int _ _, .int _ _])) rfl ⟨rfl, rfl, trivial⟩ rfl ?_
 refine ⟨_, rfl, hE, ?_⟩
 unfold S.hashE
 rw [if_neg (by omega), if_neg (by omega), g2, show i.toNat = 8 by omega, S.hash_eq]
theorem nonce (x : Int) (hx : 0 ≤ x ∧ x < 4294967296) {S0 : Nat → Prop} (a : Option Addr) (n c : Nat) (m : List Int) (TK : TypeId) (w : World) (K0 : Kst w TK) (R0 : IRow .u8 S0 w a n m) (hc : n ≤ c) :
  Calls Tryd.prog 99 #[.int .u32 x, .slice a n c] w (Ret w fun v _ => v = .tuple #[.int .u32 (if S.nonceE x m = 0 then S.nonceS x m else 0), .int .i64 (S.nonceE x m)]) := by
 replace R0 := R0.weaken (T := fun k => k < w.heap.size) (fun k hk _ => hk)
 have hKl := K0.lt
 have hml := R0.len
 have hE := Ext.refl w
 refine enterU 26 Tryd.func99 rfl rfl ?_
 refine sq fun K1 hK1 => ?_
 refine RS.asI rfl ?_
 refine RS.asI rfl ?_
 refine nl hK1 ?_
 refine wp_seq_k (fun K2 hK2 => ?_)
 refine sq fun K3 hK3 => ?_
 refine RS.mvI rfl ?_
 refine RS.call E65 (secCheck _ (by omega) _) rfl (fun v4 w4 x4 A4 => ?_)
 replace hE := Ext.tr hE x4
 replace K0 := K0.ext x4
 replace R0 := R0.ext x4
 have zw4 := x4.size
 subst A4
 refine RS.nm ?_
 refine RS.asI rfl ?_
 refine nl hK3 ?_
 refine sq fun K5 hK5 => ?_
 refine RS.mvI rfl ?_
 refine RS.o (D.ne rfl rfl) ?_
 refine nl hK5 ?_
 refine C.ifn rfl (fun c6 => ?_) (fun c6 => ?_)
 ·have hz := c6
  refine sq fun K7 hK7 => ?_
  refine RS.mvI rfl ?_
  refine RS.asI rfl ?_
  refine RS.asI rfl ?_
  refine nl hK7 ?_
  refine wp_ret ?_
  refine ret (rs := [.tmp 4, .tmp 5]) (vs := [.int _ _, .int _ _]) (v := (.tuple #[.int _ _, .int _ _])) rfl ⟨rfl, rfl, trivial⟩ rfl ?_
  refine ⟨_, rfl, hE, ?_⟩
  have e2 := S.secE_two hz
  simp [S.nonceE, e2]
 have hz := c6
 refine wp_skip ?_
 refine hK2 _ _ ?_
 refine sq fun K8 hK8 => ?_
 refine RS.mvS rfl ?_
 refine RS.mvI rfl ?_
 refine RS.buildSlice (xs := [.tmp 16]) (vs := [.int _ _]) (cs := [.int _ _]) Tryd.underlying157 T22 (by decide) rfl rfl rfl rfl rfl rfl (by intro v hv; simp only [List.mem_cons, List.not_mem_nil, or_false] at hv; subst hv; rfl) rfl (fun b9 w9 e9 s9 x9 B9 => ?_)
 refine RS.nm ?_
 replace hE := Ext.tr hE x9
 replace K0 := K0.ext x9
 replace R0 := R0.ext x9
 have zw9 := x9.size
 refine RS.call E104 (hash (S1 := fun k => k = b9) _ (by decide) _ _ _ _ _ 1 _ [x] _ _ K0 R0 hc (.of_blk B9 rfl rfl rfl (.cons (k := .u32) (by simp only [lim]; omega) (.nil _))) (by decide)) rfl (fun v10 w10 x10 A10 => ?_)
 replace hE := Ext.tr hE x10
 replace K0 := K0.ext x10
 replace R0 := R0.ext x10
 replace B9 := B9.ext x10
 have zw10 := x10.size
 subst A10
 refine RS.nm ?_
 refine RS.move (v := .tuple _) rfl ?_
 refine RS.extract (v := .int _ _) rfl rfl ?_
 refine RS.extract (v := .int _ _) rfl rfl ?_
 refine RS.asI rfl ?_
 refine RS.asI rfl ?_
 refine nl hK8 ?_
 refine wp_seq_k (fun K11 hK11 => ?_)
 refine sq fun K12 hK12 => ?_
 refine RS.mvI rfl ?_
 refine RS.o (D.ne rfl rfl) ?_
 refine nl hK12 ?_
 refine C.ifn rfl (fun c13 => ?_) (fun c13 => ?_)
 ·have he := c13
  refine sq fun K14 hK14 => ?_
  refine RS.mvI rfl ?_
  refine RS.asI rfl ?_
  refine RS.asI rfl ?_
  refine nl hK14 ?_
  refine wp_ret ?_
  refine ret (rs := [.tmp 4, .tmp 5]) (vs := [.int _ _, .int _ _]) (v := (.tuple #[.int _ _, .int _ _])) rfl ⟨rfl, rfl, trivial⟩ rfl ?_
  refine ⟨_, rfl, hE, ?_⟩
  have e3 : ¬ S.nonceE x m = 0 := by unfold S.nonceE; rw [if_pos hz]; exact he
  rw [if_neg e3]
  unfold S.nonceE
  rw [if_pos hz]
 have he := c13
 have hm : ¬ 9991 < m.length := by intro h; unfold S.hashE at he; rw [if_pos h] at he; omega
 rw [if_neg hm]
 have hb := S.hash_bd 110 [x] m
 refine wp_skip ?_
 refine hK11 _ _ ?_
 refine sq fun K15 hK15 => ?_
 refine RS.mvI rfl ?_
 refine RS.o (D.rem rfl rfl (by omega) (by omega)) ?_
 refine RS.o (D.conv rfl Tryd.underlying24 Tryd.underlying22 (by first | exact W.u32 (by omega) | exact W.u32m _)) ?_
 refine RS.o (D.add rfl rfl (by first | exact W.u32 (by omega) | exact W.u32m _)) ?_
 refine RS.asI rfl ?_
 refine RS.asI rfl ?_
 refine nl hK15 ?_
 refine wp_ret ?_
 refine ret (rs := [.tmp 4, .tmp 5]) (vs := [.int _ _, .int _ _]) (v := (.tuple #[.int _ _, .int _ _])) rfl ⟨rfl, rfl, trivial⟩ rfl ?_
 refine ⟨_, rfl, hE, ?_⟩
 have e3 : S.nonceE x m = 0 := by unfold S.nonceE; rw [if_pos hz]; exact he
 rw [e3, if_pos rfl, S.nonce_eq]
theorem challenge (r : Int) (hr : 0 ≤ r ∧ r < 4294967296) (y : Int) (hy : 0 ≤ y ∧ y < 4294967296) {S0 : Nat → Prop} (a : Option Addr) (n c : Nat) (m : List Int) (TK : TypeId) (w : World) (K0 : Kst w TK) (R0 : IRow .u8 S0 w a n m) (hc : n ≤ c) :
  Calls Tryd.prog 69 #[.int .u32 r, .int .u32 y, .slice a n c] w (Ret w fun v _ => v = .tuple #[.int .u32 (if S.hashE m = 0 then S.chalS r y m else 0), .int .i64 (S.hashE m)]) := by
 replace R0 := R0.weaken (T := fun k => k < w.heap.size) (fun k hk _ => hk)
 have hKl := K0.lt
 have hml := R0.len
 have hE := Ext.refl w
 refine enterU 21 Tryd.func69 rfl rfl ?_
 refine sq fun K1 hK1 => ?_
 refine RS.asI rfl ?_
 refine RS.asI rfl ?_
 refine nl hK1 ?_
 refine sq fun K2 hK2 => ?_
 refine RS.mvS rfl ?_
 refine RS.mvI rfl ?_
 refine RS.mvI rfl ?_
 refine RS.buildSlice (xs := [.tmp 12, .tmp 13]) (vs := [.int _ _, .int _ _]) (cs := [.int _ _, .int _ _]) Tryd.underlying157 T22 (by decide) rfl rfl rfl rfl rfl rfl (by intro v hv; simp only [List.mem_cons, List.not_mem_nil, or_false] at hv; rcases hv with rfl | rfl <;> rfl) rfl (fun b3 w3 e3 s3 x3 B3 => ?_)
 refine RS.nm ?_
 replace hE := Ext.tr hE x3
 replace K0 := K0.ext x3
 replace R0 := R0.ext x3
 have zw3 := x3.size
 refine RS.call E104 (hash (S1 := fun k => k = b3) _ (by decide) _ _ _ _ _ 2 _ [r, y] _ _ K0 R0 hc (.of_blk B3 rfl rfl rfl (.cons (k := .u32) (by simp only [lim]; omega) (.cons (k := .u32) (by simp only [lim]; omega) (.nil _)))) (by decide)) rfl (fun v4 w4 x4 A4 => ?_)
 replace hE := Ext.tr hE x4
 replace K0 := K0.ext x4
 replace R0 := R0.ext x4
 replace B3 := B3.ext x4
 have zw4 := x4.size
 subst A4
 refine RS.nm ?_
 refine RS.move (v := .tuple _) rfl ?_
 refine RS.extract (v := .int _ _) rfl rfl ?_
 refine RS.extract (v := .int _ _) rfl rfl ?_
 refine RS.asI rfl ?_
 refine RS.asI rfl ?_
 refine nl hK2 ?_
 refine wp_seq_k (fun K5 hK5 => ?_)
 refine sq fun K6 hK6 => ?_
 refine RS.mvI rfl ?_
 refine RS.o (D.ne rfl rfl) ?_
 refine nl hK6 ?_
 refine C.ifn rfl (fun c7 => ?_) (fun c7 => ?_)
 ·have he := c7
  refine sq fun K8 hK8 => ?_
  refine RS.mvI rfl ?_
  refine RS.asI rfl ?_
  refine RS.asI rfl ?_
  refine nl hK8 ?_
  refine wp_ret ?_
  refine ret (rs := [.tmp 6, .tmp 7]) (vs := [.int _ _, .int _ _]) (v := (.tuple #[.int _ _, .int _ _])) rfl ⟨rfl, rfl, trivial⟩ rfl ?_
  refine ⟨_, rfl, hE, ?_⟩
  rw [if_neg he]
 have he := c7
 have hm : ¬ 9991 < m.length := by intro h; unfold S.hashE at he; rw [if_pos h] at he; omega
 rw [if_neg hm]
 have hb := S.hash_bd 99 [r, y] m
 refine wp_skip ?_
 refine hK5 _ _ ?_
 refine sq fun K9 hK9 => ?_
 refine RS.mvI rfl ?_
 refine RS.o (D.rem rfl rfl (by omega) (by omega)) ?_
 refine RS.o (D.conv rfl Tryd.underlying24 Tryd.underlying22 (by first | exact W.u32 (by omega) | exact W.u32m _)) ?_
 refine RS.asI rfl ?_
 refine RS.asI rfl ?_
 refine nl hK9 ?_
 refine wp_ret ?_
 refine ret (rs := [.tmp 6, .tmp 7]) (vs := [.int _ _, .int _ _]) (v := (.tuple #[.int _ _, .int _ _])) rfl ⟨rfl, rfl, trivial⟩ rfl ?_
 refine ⟨_, rfl, hE, ?_⟩
 rw [he, if_pos rfl, S.chal_eq]
theorem signW (x : Int) (hx : 0 ≤ x ∧ x < 4294967296) {S0 : Nat → Prop} (a : Option Addr) (n c : Nat) (m : List Int) (TK : TypeId) (w : World) (K0 : Kst w TK) (R0 : IRow .u8 S0 w a n m) (hc : n ≤ c) :
  Calls Tryd.prog 64 #[.int .u32 x, .slice a n c] w (Ret w fun v _ => v = .tuple #[.agg ([.int .u32 (if S.nonceE x m = 0 then S.sigE x m else 0), .int .u32 (if S.nonceE x m = 0 then S.sigS x m else 0)] : List Value).toArray, .int .i64 (S.nonceE x m)]) := by
 replace R0 := R0.weaken (T := fun k => k < w.heap.size) (fun k hk _ => hk)
 have hKl := K0.lt
 have hml := R0.len
 have hE := Ext.refl w
 refine enterU 53 Tryd.func64 rfl rfl ?_
 refine sq fun K1 hK1 => ?_
 refine RS.alloc T30 (fun b2 w2 e2 s2 x2 B2 => ?_)
 refine RS.nm ?_
 replace hE := Ext.tr hE x2
 replace K0 := K0.ext x2
 replace R0 := R0.ext x2
 have zw2 := x2.size
 refine RS.asI rfl ?_
 refine nl hK1 ?_
 refine sq fun K3 hK3 => ?_
 refine RS.mvI rfl ?_
 refine RS.mvS rfl ?_
 refine RS.call E99 (nonce _ (by omega) _ _ _ _ _ _ K0 R0 hc) rfl (fun v4 w4 x4 A4 => ?_)
 replace hE := Ext.tr hE x4
 replace K0 := K0.ext x4
 replace R0 := R0.ext x4
 replace B2 := B2.ext x4
 have zw4 := x4.size
 subst A4
 refine RS.nm ?_
 refine RS.move (v := .tuple _) rfl ?_
 refine RS.extract (v := .int _ _) rfl rfl ?_
 refine RS.extract (v := .int _ _) rfl rfl ?_
 refine RS.asI rfl ?_
 refine RS.asI rfl ?_
 refine nl hK3 ?_
 refine wp_seq_k (fun K5 hK5 => ?_)
 refine sq fun K6 hK6 => ?_
 refine RS.mvI rfl ?_
 refine RS.o (D.ne rfl rfl) ?_
 refine nl hK6 ?_
 refine C.ifn rfl (fun c7 => ?_) (fun c7 => ?_)
 ·have hz := c7
  refine sq fun K8 hK8 => ?_
  refine RS.o (D.buildS T30 F30 (ps := []) rfl rfl) ?_
  refine RS.mvI rfl ?_
  refine RS.storeAggB rfl rfl C30 (by decide) rfl rfl B2 rfl (fun w9 y9 N9 => ?_)
  replace hE := hE.trans (y9.belo)
  replace K0 := K0.sto y9
  replace R0 := R0.sto y9
  have zw9 := y9.size
  replace B2 := N9
  refine RS.asI rfl ?_
  refine nl hK8 ?_
  refine wp_ret ?_
  refine ret (rs := [.cell 4 30, .tmp 5]) (vs := [.agg _, .int _ _]) (v := (.tuple #[.agg _, .int _ _])) rfl ⟨⟨_, rfl, loadVar_agg Tryd.underlying30 rfl C30 (by decide) rfl (B2.cellsN 2 rfl)⟩, rfl, trivial⟩ rfl ?_
  refine ⟨_, rfl, hE, ?_⟩
  rw [if_neg hz, if_neg hz]
  first | done | rfl
 have hz := c7
 obtain ⟨hsec, hh⟩ := S.nonceE_zero.1 hz
 have hx2 := S.secE_zero.1 hsec
 rw [show (if S.nonceE x m = 0 then S.nonceS x m else 0) = S.nonceS x m from if_pos hz]
 have hb1 := S.nonce_bd x m
 have hb2 := S.pub_bd x
 have hb3 := S.pub_bd (S.nonceS x m)
 have hb4 := S.sig_bd x m
 refine wp_skip ?_
 refine hK5 _ _ ?_
 refine sq fun K10 hK10 => ?_
 refine RS.mvI rfl ?_
 refine RS.call E26 (publicW _ (by omega) _) rfl (fun v11 w11 x11 A11 => ?_)
 replace hE := Ext.tr hE x11
 replace K0 := K0.ext x11
 replace R0 := R0.ext x11
 replace B2 := B2.ext x11
 have zw11 := x11.size
 subst A11
 rw [if_pos hsec]
 refine RS.nm ?_
 refine RS.move (v := .tuple _) rfl ?_
 refine RS.extract (v := .int _ _) rfl rfl ?_
 refine RS.extract (v := .int _ _) rfl rfl ?_
 refine RS.asI rfl ?_
 refine RS.asI rfl ?_
 refine nl hK10 ?_
 refine sq fun K12 hK12 => ?_
 refine RS.mvI rfl ?_
 refine RS.o (D.conv rfl Tryd.underlying22 Tryd.underlying24 (W.u64 (by omega))) ?_
 refine RS.call E66 (group_Base _ (by omega) _) rfl (fun v13 w13 x13 A13 => ?_)
 replace hE := Ext.tr hE x13
 replace K0 := K0.ext x13
 replace R0 := R0.ext x13
 replace B2 := B2.ext x13
 have zw13 := x13.size
 subst A13
 rw [S.pub_eq]
 refine RS.nm ?_
 refine RS.mvI rfl ?_
 refine RS.mvS rfl ?_
 refine RS.call E69 (challenge _ (by omega) _ (by omega) _ _ _ _ _ _ K0 R0 hc) rfl (fun v14 w14 x14 A14 => ?_)
 replace hE := Ext.tr hE x14
 replace K0 := K0.ext x14
 replace R0 := R0.ext x14
 replace B2 := B2.ext x14
 have zw14 := x14.size
 subst A14
 rw [if_pos hh, S.sigE_eq]
 refine RS.nm ?_
 refine RS.move (v := .tuple _) rfl ?_
 refine RS.extract (v := .int _ _) rfl rfl ?_
 refine RS.extract (v := .int _ _) rfl rfl ?_
 refine RS.asI rfl ?_
 refine RS.asI rfl ?_
 refine nl hK12 ?_
 refine sq fun K15 hK15 => ?_
 refine RS.mvI rfl ?_
 refine RS.mvI rfl ?_
 refine RS.call E100 (group_Times _ (by omega) _ (by omega) _) rfl (fun v16 w16 x16 A16 => ?_)
 replace hE := Ext.tr hE x16
 replace K0 := K0.ext x16
 replace R0 := R0.ext x16
 replace B2 := B2.ext x16
 have zw16 := x16.size
 subst A16
 rw [if_pos (show max (S.sigE x m) x < 500000003 by omega)]
 refine RS.nm ?_
 refine RS.move (v := .tuple _) rfl ?_
 refine RS.extract (v := .int _ _) rfl rfl ?_
 refine RS.extract (v := .int _ _) rfl rfl ?_
 refine RS.asI rfl ?_
 refine RS.asI rfl ?_
 refine nl hK15 ?_
 refine sq fun K17 hK17 => ?_
 refine RS.mvI rfl ?_
 refine RS.mvI rfl ?_
 refine RS.call E101 (group_Plus _ (by omega) _ (by omega) _) rfl (fun v18 w18 x18 A18 => ?_)
 replace hE := Ext.tr hE x18
 replace K0 := K0.ext x18
 replace R0 := R0.ext x18
 replace B2 := B2.ext x18
 have zw18 := x18.size
 subst A18
 rw [if_pos (show max (S.nonceS x m) (S.sigE x m * x % 500000003) < 500000003 by omega), S.sigS_eq]
 refine RS.nm ?_
 refine RS.move (v := .tuple _) rfl ?_
 refine RS.extract (v := .int _ _) rfl rfl ?_
 refine RS.extract (v := .int _ _) rfl rfl ?_
 refine RS.asI rfl ?_
 refine RS.asI rfl ?_
 refine nl hK17 ?_
 refine sq fun K19 hK19 => ?_
 refine RS.mvI rfl ?_
 refine RS.mvI rfl ?_
 refine RS.o (D.buildS T30 F30 (ps := [(0, .int _ _), (1, .int _ _)]) rfl rfl) ?_
 refine RS.storeAggB rfl rfl C30 (by decide) rfl rfl B2 rfl (fun w20 y20 N20 => ?_)
 replace hE := hE.trans (y20.belo)
 replace K0 := K0.sto y20
 replace R0 := R0.sto y20
 have zw20 := y20.size
 replace B2 := N20
 refine RS.asI rfl ?_
 refine nl hK19 ?_
 refine wp_ret ?_
 refine ret (rs := [.cell 4 30, .tmp 5]) (vs := [.agg _, .int _ _]) (v := (.tuple #[.agg _, .int _ _])) rfl ⟨⟨_, rfl, loadVar_agg Tryd.underlying30 rfl C30 (by decide) rfl (B2.cellsN 2 rfl)⟩, rfl, trivial⟩ rfl ?_
 refine ⟨_, rfl, hE, ?_⟩
 rw [hz, if_pos rfl, if_pos rfl]
 first | done | rfl
theorem verifyW (y : Int) (hy : 0 ≤ y ∧ y < 4294967296) (e s : Int) (he : 0 ≤ e ∧ e < 4294967296) (hs : 0 ≤ s ∧ s < 4294967296) {S0 : Nat → Prop} (a : Option Addr) (n c : Nat) (m : List Int) (TK : TypeId) (w : World) (K0 : Kst w TK) (R0 : IRow .u8 S0 w a n m) (hc : n ≤ c) :
  Calls Tryd.prog 28 #[.int .u32 y, .slice a n c, .agg ([.int .u32 e, .int .u32 s] : List Value).toArray] w (Ret w fun v _ => v = .int .i64 (S.verS y m e s)) := by
 replace R0 := R0.weaken (T := fun k => k < w.heap.size) (fun k hk _ => hk)
 have hKl := K0.lt
 have hml := R0.len
 have hE := Ext.refl w
 refine enterU 55 Tryd.func28 rfl rfl ?_
 refine sq fun K1 hK1 => ?_
 refine RS.box rfl rfl (fun b2 w2 e2 s2 x2 B2 => ?_)
 refine RS.nm ?_
 replace hE := Ext.tr hE x2
 replace K0 := K0.ext x2
 replace R0 := R0.ext x2
 have zw2 := x2.size
 refine RS.asI rfl ?_
 refine nl hK1 ?_
 refine wp_seq_k (fun K3 hK3 => ?_)
 refine sq fun K4 hK4 => ?_
 refine RS.mvI rfl ?_
 refine RS.call E59 (group_Is _ (by omega) _) rfl (fun v5 w5 x5 A5 => ?_)
 replace hE := Ext.tr hE x5
 replace K0 := K0.ext x5
 replace R0 := R0.ext x5
 replace B2 := B2.ext x5
 have zw5 := x5.size
 subst A5
 refine RS.nm ?_
 refine RS.o (D.not rfl) ?_
 refine nl hK4 ?_
 refine C.ifnot rfl (fun c6 => ?_) (fun c6 => ?_)
 ·have hG := c6
  refine sq fun K7 hK7 => ?_
  refine RS.asI rfl ?_
  refine nl hK7 ?_
  refine wp_ret ?_
  refine retI rfl rfl ?_
  refine ⟨_, rfl, hE, congrArg (Value.int .i64) ?_⟩
  unfold S.verS
  rw [if_pos (by simpa using hG)]
 have hG : S.isG y = true := by simpa using c6
 refine wp_skip ?_
 refine hK3 _ _ ?_
 refine wp_seq_k (fun K8 hK8 => ?_)
 refine sq fun K9 hK9 => ?_
 refine RS.mvS rfl ?_
 refine RS.o (D.len rfl Tryd.underlying35) ?_
 refine RS.o (D.gt rfl rfl) ?_
 refine nl hK9 ?_
 refine C.ifd rfl (fun c10 => ?_) (fun c10 => ?_)
 ·have hL := c10
  refine sq fun K11 hK11 => ?_
  refine RS.asI rfl ?_
  refine nl hK11 ?_
  refine wp_ret ?_
  refine retI rfl rfl ?_
  refine ⟨_, rfl, hE, congrArg (Value.int .i64) ?_⟩
  unfold S.verS
  rw [if_neg (by simp [hG]), if_pos (by omega)]
 have hL := c10
 refine wp_skip ?_
 refine hK8 _ _ ?_
 refine wp_seq_k (fun K12 hK12 => ?_)
 refine sq fun K13 hK13 => ?_
 refine RS.o (D.fieldL 0 rfl Tryd.underlying30 rfl C22 (by decide) rfl) ?_
 refine RS.o (D.load rfl Tryd.underlying22 rfl (B2.cell rfl)) ?_
 refine RS.o (D.fieldL 1 rfl Tryd.underlying30 rfl C22 (by decide) rfl) ?_
 refine RS.o (D.load rfl Tryd.underlying22 rfl (B2.cell rfl)) ?_
 refine RS.o (D.max2 rfl rfl) ?_
 refine RS.o (D.ge rfl rfl) ?_
 refine nl hK13 ?_
 refine C.ifd rfl (fun c14 => ?_) (fun c14 => ?_)
 ·have hQ := c14
  refine sq fun K15 hK15 => ?_
  refine RS.asI rfl ?_
  refine nl hK15 ?_
  refine wp_ret ?_
  refine retI rfl rfl ?_
  refine ⟨_, rfl, hE, congrArg (Value.int .i64) ?_⟩
  unfold S.verS
  rw [if_neg (by simp [hG]), if_neg (by omega), if_pos (by split at hQ <;> omega)]
 have hQ : e < 500000003 ∧ s < 500000003 := by have := c14; split at this <;> omega
 refine wp_skip ?_
 refine hK12 _ _ ?_
 refine sq fun K16 hK16 => ?_
 refine RS.mvI rfl ?_
 refine RS.o (D.fieldL 0 rfl Tryd.underlying30 rfl C22 (by decide) rfl) ?_
 refine RS.o (D.load rfl Tryd.underlying22 rfl (B2.cell rfl)) ?_
 refine RS.o (D.conv rfl Tryd.underlying22 Tryd.underlying24 (W.u64 (by omega))) ?_
 refine RS.o (D.sub rfl rfl (W.u64 (by omega))) ?_
 refine RS.call E67 (group_Pow _ (by omega) _ (by omega) _) rfl (fun v17 w17 x17 A17 => ?_)
 replace hE := Ext.tr hE x17
 replace K0 := K0.ext x17
 replace R0 := R0.ext x17
 replace B2 := B2.ext x17
 have zw17 := x17.size
 subst A17
 rw [if_pos hG]
 have hp1 := S.pw_nonneg y (500000003 - e) 1000000007 (by decide)
 have hp2 := S.pw_lt y (500000003 - e) 1000000007 (by decide)
 refine RS.nm ?_
 refine RS.move (v := .tuple _) rfl ?_
 refine RS.extract (v := .int _ _) rfl rfl ?_
 refine RS.extract (v := .int _ _) rfl rfl ?_
 refine RS.asI rfl ?_
 refine RS.asI rfl ?_
 refine nl hK16 ?_
 refine sq fun K18 hK18 => ?_
 refine RS.o (D.fieldL 1 rfl Tryd.underlying30 rfl C22 (by decide) rfl) ?_
 refine RS.o (D.load rfl Tryd.underlying22 rfl (B2.cell rfl)) ?_
 refine RS.o (D.conv rfl Tryd.underlying22 Tryd.underlying24 (W.u64 (by omega))) ?_
 refine RS.call E66 (group_Base _ (by omega) _) rfl (fun v19 w19 x19 A19 => ?_)
 replace hE := Ext.tr hE x19
 replace K0 := K0.ext x19
 replace R0 := R0.ext x19
 replace B2 := B2.ext x19
 have zw19 := x19.size
 subst A19
 rw [S.pub_eq]
 have hb1 := S.pub_bd s
 refine RS.nm ?_
 refine RS.mvI rfl ?_
 have hmm : (S.isG (S.pubS s) && S.isG (S.pw y (500000003 - e) 1000000007)) = true := by rw [S.isG_pub s (by omega), S.isG_back _ hG (by omega)]; rfl
 refine RS.call E68 (group_Mul _ (by omega) _ (by omega) _) rfl (fun v20 w20 x20 A20 => ?_)
 replace hE := Ext.tr hE x20
 replace K0 := K0.ext x20
 replace R0 := R0.ext x20
 replace B2 := B2.ext x20
 have zw20 := x20.size
 subst A20
 rw [if_pos hmm]
 have hp3 := Int.emod_nonneg (S.pubS s * S.pw y (500000003 - e) 1000000007) (show (1000000007 : Int) ≠ 0 by decide)
 have hp4 := Int.emod_lt_of_pos (S.pubS s * S.pw y (500000003 - e) 1000000007) (show (0 : Int) < 1000000007 by decide)
 refine RS.nm ?_
 refine RS.move (v := .tuple _) rfl ?_
 refine RS.extract (v := .int _ _) rfl rfl ?_
 refine RS.extract (v := .int _ _) rfl rfl ?_
 refine RS.asI rfl ?_
 refine RS.asI rfl ?_
 refine nl hK18 ?_
 refine wp_seq_k (fun K21 hK21 => ?_)
 refine sq fun K22 hK22 => ?_
 refine RS.mvI rfl ?_
 refine RS.mvI rfl ?_
 refine RS.mvS rfl ?_
 have hh : S.hashE m = 0 := by unfold S.hashE; rw [if_neg (by omega)]
 refine RS.call E69 (challenge _ (by omega) _ (by omega) _ _ _ _ _ _ K0 R0 hc) rfl (fun v23 w23 x23 A23 => ?_)
 replace hE := Ext.tr hE x23
 replace K0 := K0.ext x23
 replace R0 := R0.ext x23
 replace B2 := B2.ext x23
 have zw23 := x23.size
 subst A23
 rw [if_pos hh, hh]
 refine RS.nm ?_
 refine RS.move (v := .tuple _) rfl ?_
 refine RS.extract (v := .int _ _) rfl rfl ?_
 refine RS.extract (v := .int _ _) rfl rfl ?_
 refine RS.asI rfl ?_
 refine RS.asI rfl ?_
 refine nl hK22 ?_
 refine sq fun K24 hK24 => ?_
 refine RS.mvI rfl ?_
 refine RS.o (D.ne rfl rfl) ?_
 refine RS.mvB rfl ?_
 refine RS.splitn 52 rfl rfl (fun c25 => ?_) (fun c25 => ?_)
 ·refine RS.nm ?_
  refine RS.skT 52 ?_
  refine RS.skT 52 ?_
  refine RS.skT 52 ?_
  refine RS.skT 52 ?_
  refine RS.pick (v := .bool true) rfl rfl ?_
  refine nl hK24 ?_
  refine C.ift rfl ?_
  refine sq fun K26 hK26 => ?_
  refine RS.asI rfl ?_
  refine nl hK26 ?_
  refine wp_ret ?_
  refine retI rfl rfl ?_
  refine ⟨_, rfl, hE, congrArg (Value.int .i64) ?_⟩
  unfold S.verS
  rw [if_neg (by simp [hG]), if_neg (by omega), if_neg (by omega)]
  simp_all
 refine RS.nm ?_
 refine RS.wt 52 ?_
 refine RS.mvI rfl ?_
 refine RS.wt 52 ?_
 refine RS.o (D.fieldL 0 rfl Tryd.underlying30 rfl C22 (by decide) rfl) ?_
 refine RS.wt 52 ?_
 refine RS.o (D.load rfl Tryd.underlying22 rfl (B2.cell rfl)) ?_
 refine RS.wt 52 ?_
 refine RS.o (D.ne rfl rfl) ?_
 refine RS.pick (v := .bool _) rfl rfl ?_
 refine nl hK24 ?_
 refine C.ifn rfl (fun c27 => ?_) (fun c27 => ?_)
 ·refine wp_seq_k (fun K28 hK28 => ?_)
  refine region ?_
  refine RS.asI rfl ?_
  refine nl hK28 ?_
  refine wp_ret ?_
  refine retI rfl rfl ?_
  refine ⟨_, rfl, hE, congrArg (Value.int .i64) ?_⟩
  unfold S.verS
  rw [if_neg (by simp [hG]), if_neg (by omega), if_neg (by omega)]
  simp_all
 refine wp_skip ?_
 refine hK21 _ _ ?_
 refine sq fun K29 hK29 => ?_
 refine RS.asI rfl ?_
 refine nl hK29 ?_
 refine wp_ret ?_
 refine retI rfl rfl ?_
 refine ⟨_, rfl, hE, congrArg (Value.int .i64) ?_⟩
 unfold S.verS
 rw [if_neg (by simp [hG]), if_neg (by omega), if_neg (by omega)]
 simp_all
end Go.Proofs.YtiohpiiiapjblaaDoor.W
namespace Go.Proofs.YtiohpiiiapjblaaDoor.W
open Go.RowKit Go.Proofs.YtiohpiiiapjblaaDoor.G
set_option linter.unusedVariables false
set_option maxRecDepth 20000
set_option maxHeartbeats 8000000
attribute [local irreducible] RS RX
theorem F32 : SI Tryd.prog 32 [(0, 1), (1, 1), (2, 1), (3, 6), (9, 2)] := ⟨_, Tryd.underlying32, by kernel_rfl, by kernel_rfl⟩
theorem E25 : Enters Tryd.prog 25 := .mk Tryd.func25 (by kernel_rfl) rfl
theorem E27 : Enters Tryd.prog 27 := .mk Tryd.func27 (by kernel_rfl) rfl
theorem E28 : Enters Tryd.prog 28 := .mk Tryd.func28 (by kernel_rfl) rfl
theorem E32 : Enters Tryd.prog 32 := .mk Tryd.func32 (by kernel_rfl) rfl
theorem E64 : Enters Tryd.prog 64 := .mk Tryd.func64 (by kernel_rfl) rfl
theorem signO (x : Int) (hx : 0 ≤ x ∧ x < 4294967296) {S0 : Nat → Prop} (o : S.OpV) (ho : o.ok) (pa : Option Addr) (pc : Nat) (TK : TypeId) (w : World) (K0 : Kst w TK) (D0 : WRow .u8 32 S0 w pa o.n o.ids) (hc : o.n ≤ pc) :
  Calls Tryd.prog 25 #[.int .u32 x, .agg ([.int .u32 o.au, .slice pa o.n pc, .int .u64 o.st, .int .u8 o.k, .string o.key, .int .u8 o.vk, .int .i64 o.num, .int .u64 o.bits, .string o.t, .int .u32 o.e, .int .u32 o.s] : List Value).toArray] w (Ret w fun v w' => ∃ a' c', v = .tuple #[.agg ([.int .u32 (S.signS x o).au, .slice a' (S.signS x o).n c', .int .u64 (S.signS x o).st, .int .u8 (S.signS x o).k, .string (S.signS x o).key, .int .u8 (S.signS x o).vk, .int .i64 (S.signS x o).num, .int .u64 (S.signS x o).bits, .string (S.signS x o).t, .int .u32 (S.signS x o).e, .int .u32 (S.signS x o).s] : List Value).toArray, .int .i64 (S.signE x o)] ∧ (S.signS x o).n ≤ c' ∧ WRow .u8 32 (fun k => w.heap.size ≤ k) w' a' (S.signS x o).n (S.signS x o).ids) := by
 replace D0 := D0.weaken (T := fun k => k < w.heap.size) (fun k hk _ => hk)
 have o1 := ho.au
 have o2 := ho.st
 have o3 := ho.k
 have o4 := ho.vk
 have o5 := ho.num
 have o6 := ho.bits
 have o7 := ho.e
 have o8 := ho.s
 have o9 := ho.n
 have o10 := ho.key
 have o11 := ho.t
 have hKl := K0.lt
 have hb2 := S.pub_bd x
 have e4 := D0.len
 have hE := Ext.refl w
 refine enterU 39 Tryd.func25 rfl rfl ?_
 refine sq fun K1 hK1 => ?_
 refine RS.box rfl rfl (fun b2 w2 e2 s2 x2 B2 => ?_)
 refine RS.nm ?_
 replace hE := Ext.tr hE x2
 replace K0 := K0.ext x2
 replace D0 := D0.ext x2
 have zw2 := x2.size
 refine RS.alloc T32 (fun b3 w3 e3 s3 x3 B3 => ?_)
 refine RS.nm ?_
 replace hE := Ext.tr hE x3
 replace K0 := K0.ext x3
 replace D0 := D0.ext x3
 replace B2 := B2.ext x3
 have zw3 := x3.size
 refine RS.asI rfl ?_
 refine nl hK1 ?_
 refine sq fun K4 hK4 => ?_
 refine RS.mvI rfl ?_
 refine RS.call E26 (publicW _ (by omega) _) rfl (fun v5 w5 x5 A5 => ?_)
 replace hE := Ext.tr hE x5
 replace K0 := K0.ext x5
 replace D0 := D0.ext x5
 replace B2 := B2.ext x5
 replace B3 := B3.ext x5
 have zw5 := x5.size
 subst A5
 refine RS.nm ?_
 refine RS.move (v := .tuple _) rfl ?_
 refine RS.extract (v := .int _ _) rfl rfl ?_
 refine RS.extract (v := .int _ _) rfl rfl ?_
 refine RS.asI rfl ?_
 refine RS.asI rfl ?_
 refine nl hK4 ?_
 refine wp_seq_k (fun K6 hK6 => ?_)
 refine sq fun K7 hK7 => ?_
 refine RS.mvI rfl ?_
 refine RS.o (D.ne rfl rfl) ?_
 refine nl hK7 ?_
 refine C.ifn rfl (fun c8 => ?_) (fun c8 => ?_)
 ·have hz := c8
  refine sq fun K9 hK9 => ?_
  refine RS.o (D.buildS T32 F32 (ps := []) rfl rfl) ?_
  refine RS.mvI rfl ?_
  refine RS.storeAggB rfl rfl C32 (by decide) rfl rfl B3 rfl (fun w10 y10 N10 => ?_)
  replace hE := hE.trans (y10.belo)
  replace K0 := K0.sto y10
  replace D0 := D0.sto y10
  replace B2 := B2.sto y10
  have zw10 := y10.size
  replace B3 := N10
  refine RS.asI rfl ?_
  refine nl hK9 ?_
  refine wp_ret ?_
  refine ret (rs := [.cell 4 32, .tmp 5]) (vs := [.agg _, .int _ _]) (v := (.tuple #[.agg _, .int _ _])) rfl ⟨⟨_, rfl, loadVar_agg Tryd.underlying32 rfl C32 (by decide) rfl (B3.cellsN 11 rfl)⟩, rfl, trivial⟩ rfl ?_
  have e1 : S.signE x o = S.secE x := by unfold S.signE; rw [if_neg hz, S.secE_two hz]
  have e2 : S.signS x o = S.OpV.zero := by unfold S.signS; rw [if_neg (by rw [e1]; exact hz)]
  rw [e1, e2]
  exact ⟨_, rfl, hE, _, _, rfl, Nat.le_refl _, WRow.nil⟩
 have hz := c8
 rw [if_pos hz]
 refine wp_skip ?_
 refine hK6 _ _ ?_
 refine sq fun K11 hK11 => ?_
 refine RS.mvI rfl ?_
 refine RS.o (D.fieldL 1 rfl Tryd.underlying32 rfl C23 (by decide) rfl) ?_
 refine RS.o (D.load rfl Tryd.underlying23 rfl (B2.cell rfl)) ?_
 refine RS.call E58 (cloneID _ _ _ _ _ D0 hc (by omega)) rfl (fun v12 w12 x12 A12 => ?_)
 replace hE := Ext.tr hE x12
 replace K0 := K0.ext x12
 replace D0 := D0.ext x12
 replace B2 := B2.ext x12
 replace B3 := B3.ext x12
 have zw12 := x12.size
 obtain ⟨a12, _, c12, rfl, rfl, O1⟩ := A12
 have hcc := O1.own.pre
 refine RS.nm ?_
 refine RS.o (D.fieldL 0 rfl Tryd.underlying32 rfl C22 (by decide) rfl) ?_
 refine RS.store rfl (v := .int _ _) rfl C22 rfl B2 rfl (fun w13 y13 N13 => ?_)
 replace hE := hE.trans (y13.belo)
 replace K0 := K0.sto y13
 replace D0 := D0.sto y13
 replace B3 := B3.sto y13
 replace O1 := O1.st y13 (by intros; try (first | (intro _ _) | (intro _) | skip); first | omega | (have hq := O1.own.lo _ (by assumption); first | omega | (dsimp only at *; omega)))
 have zw13 := y13.size
 replace B2 := N13
 refine RS.o (D.fieldL 1 rfl Tryd.underlying32 rfl C23 (by decide) rfl) ?_
 refine RS.store rfl  rfl C23 rfl B2 rfl (fun w14 y14 N14 => ?_)
 replace hE := hE.trans (y14.belo)
 replace K0 := K0.sto y14
 replace D0 := D0.sto y14
 replace B3 := B3.sto y14
 replace O1 := O1.st y14 (by intros; try (first | (intro _ _) | (intro _) | skip); first | omega | (have hq := O1.own.lo _ (by assumption); first | omega | (dsimp only at *; omega)))
 have zw14 := y14.size
 replace B2 := N14
 refine nl hK11 ?_
 refine sq fun K15 hK15 => ?_
 refine RS.o (D.loadAgg rfl Tryd.underlying32 rfl C32 (by decide) rfl (B2.cellsN 11 rfl)) ?_
 refine RS.call E12 (messageO (o.wit x) (S.OpV.wit_ok x ho) _ _ _ O1.row hcc) rfl (fun v16 w16 x16 A16 => ?_)
 replace hE := Ext.tr hE x16
 replace K0 := K0.ext x16
 replace D0 := D0.ext x16
 replace B2 := B2.ext x16
 replace B3 := B3.ext x16
 replace O1 := O1.ext x16
 have zw16 := x16.size
 obtain ⟨a16, n16, c16, xs, rfl, OM, hxs⟩ := A16
 have hml := OM.len
 refine RS.nm ?_
 refine RS.move (v := .tuple _) rfl ?_
 refine RS.extract (v := .slice _ _ _) rfl rfl ?_
 refine RS.extract (v := .int _ _) rfl rfl ?_
 refine RS.asS rfl ?_
 refine RS.asI rfl ?_
 refine nl hK15 ?_
 refine wp_seq_k (fun K17 hK17 => ?_)
 refine sq fun K18 hK18 => ?_
 refine RS.mvI rfl ?_
 refine RS.o (D.ne rfl rfl) ?_
 refine nl hK18 ?_
 refine C.ifn rfl (fun c19 => ?_) (fun c19 => ?_)
 ·have hk := c19
  refine sq fun K20 hK20 => ?_
  refine RS.o (D.buildS T32 F32 (ps := []) rfl rfl) ?_
  refine RS.mvI rfl ?_
  refine RS.storeAggB rfl rfl C32 (by decide) rfl rfl B3 rfl (fun w21 y21 N21 => ?_)
  replace hE := hE.trans (y21.belo)
  replace K0 := K0.sto y21
  replace D0 := D0.sto y21
  replace B2 := B2.sto y21
  replace O1 := O1.st y21 (by intros; try (first | (intro _ _) | (intro _) | skip); first | omega | (have hq := O1.own.lo _ (by assumption); first | omega | (dsimp only at *; omega)))
  replace OM := OM.st y21 (by intros; try (first | (intro _ _) | (intro _) | skip); first | omega | (have hq := OM.own.lo _ (by assumption); first | omega | (dsimp only at *; omega)))
  have zw21 := y21.size
  replace B3 := N21
  refine RS.asI rfl ?_
  refine nl hK20 ?_
  refine wp_ret ?_
  refine ret (rs := [.cell 4 32, .tmp 5]) (vs := [.agg _, .int _ _]) (v := (.tuple #[.agg _, .int _ _])) rfl ⟨⟨_, rfl, loadVar_agg Tryd.underlying32 rfl C32 (by decide) rfl (B3.cellsN 11 rfl)⟩, rfl, trivial⟩ rfl ?_
  have e1 : S.signE x o = S.checkE (o.wit x).bare := by unfold S.signE; rw [if_pos hz]
  have e2 : S.signS x o = S.OpV.zero := by unfold S.signS; rw [if_neg (by rw [e1]; exact hk)]
  rw [e1, e2]
  exact ⟨_, rfl, hE, _, _, rfl, Nat.le_refl _, WRow.nil⟩
 have hk := c19
 rw [if_pos hk] at hxs
 subst hxs
 have hml2 := S.msg_len (o.wit x) (S.OpV.wit_ok x ho) (S.check_zero.1 hk).1 e4
 have hn0 : S.nonceE x (S.msgS (o.wit x)) = 0 := S.nonceE_zero.2 ⟨hz, by unfold S.hashE; rw [if_neg (by omega)]⟩
 refine wp_skip ?_
 refine hK17 _ _ ?_
 refine sq fun K22 hK22 => ?_
 refine RS.mvI rfl ?_
 refine RS.mvS rfl ?_
 refine RS.call E64 (signW _ (by omega) _ _ _ _ _ _ K0 OM.row OM.own.pre) rfl (fun v23 w23 x23 A23 => ?_)
 replace hE := Ext.tr hE x23
 replace K0 := K0.ext x23
 replace D0 := D0.ext x23
 replace B2 := B2.ext x23
 replace B3 := B3.ext x23
 replace O1 := O1.ext x23
 replace OM := OM.ext x23
 have zw23 := x23.size
 subst A23
 rw [if_pos hn0, if_pos hn0]
 refine RS.nm ?_
 refine RS.move (v := .tuple _) rfl ?_
 refine RS.extract (v := .agg _) rfl rfl ?_
 refine RS.extract (v := .int _ _) rfl rfl ?_
 refine RS.o (D.fieldL 9 rfl Tryd.underlying32 rfl C30 (by decide) rfl) ?_
 refine RS.storeAggB rfl rfl C30 (by decide) rfl rfl B2 rfl (fun w24 y24 N24 => ?_)
 replace hE := hE.trans (y24.belo)
 replace K0 := K0.sto y24
 replace D0 := D0.sto y24
 replace B3 := B3.sto y24
 replace O1 := O1.st y24 (by intros; try (first | (intro _ _) | (intro _) | skip); first | omega | (have hq := O1.own.lo _ (by assumption); first | omega | (dsimp only at *; omega)))
 replace OM := OM.st y24 (by intros; try (first | (intro _ _) | (intro _) | skip); first | omega | (have hq := OM.own.lo _ (by assumption); first | omega | (dsimp only at *; omega)))
 have zw24 := y24.size
 replace B2 := N24
 refine nl hK22 ?_
 refine sq fun K25 hK25 => ?_
 refine RS.o (D.loadAgg rfl Tryd.underlying32 rfl C32 (by decide) rfl (B2.cellsN 11 rfl)) ?_
 refine RS.storeAggB rfl rfl C32 (by decide) rfl rfl B3 rfl (fun w26 y26 N26 => ?_)
 replace hE := hE.trans (y26.belo)
 replace K0 := K0.sto y26
 replace D0 := D0.sto y26
 replace B2 := B2.sto y26
 replace O1 := O1.st y26 (by intros; try (first | (intro _ _) | (intro _) | skip); first | omega | (have hq := O1.own.lo _ (by assumption); first | omega | (dsimp only at *; omega)))
 replace OM := OM.st y26 (by intros; try (first | (intro _ _) | (intro _) | skip); first | omega | (have hq := OM.own.lo _ (by assumption); first | omega | (dsimp only at *; omega)))
 have zw26 := y26.size
 replace B3 := N26
 refine RS.asI rfl ?_
 refine nl hK25 ?_
 refine wp_ret ?_
 refine ret (rs := [.cell 4 32, .tmp 5]) (vs := [.agg _, .int _ _]) (v := (.tuple #[.agg _, .int _ _])) rfl ⟨⟨_, rfl, loadVar_agg Tryd.underlying32 rfl C32 (by decide) rfl (B3.cellsN 11 rfl)⟩, rfl, trivial⟩ rfl ?_
 have e1 : S.signE x o = 0 := by unfold S.signE; rw [if_pos hz]; exact hk
 have e2 := S.signS_eq e1
 rw [e1, e2]
 exact ⟨_, rfl, hE, _, _, rfl, hcc, O1.row.weaken (fun k hk h => by omega)⟩
theorem verifyO {S0 : Nat → Prop} (o : S.OpV) (ho : o.ok) (pa : Option Addr) (pc : Nat) (TK : TypeId) (w : World) (K0 : Kst w TK) (D0 : WRow .u8 32 S0 w pa o.n o.ids) (hc : o.n ≤ pc) :
  Calls Tryd.prog 27 #[.agg ([.int .u32 o.au, .slice pa o.n pc, .int .u64 o.st, .int .u8 o.k, .string o.key, .int .u8 o.vk, .int .i64 o.num, .int .u64 o.bits, .string o.t, .int .u32 o.e, .int .u32 o.s] : List Value).toArray] w (Ret w fun v _ => v = .int .i64 (S.verE o)) := by
 replace D0 := D0.weaken (T := fun k => k < w.heap.size) (fun k hk _ => hk)
 have o1 := ho.au
 have o2 := ho.st
 have o3 := ho.k
 have o4 := ho.vk
 have o5 := ho.num
 have o6 := ho.bits
 have o7 := ho.e
 have o8 := ho.s
 have o9 := ho.n
 have o10 := ho.key
 have o11 := ho.t
 have hKl := K0.lt
 have e4 := D0.len
 have hE := Ext.refl w
 refine enterU 21 Tryd.func27 rfl rfl ?_
 refine sq fun K1 hK1 => ?_
 refine RS.box rfl rfl (fun b2 w2 e2 s2 x2 B2 => ?_)
 refine RS.nm ?_
 replace hE := Ext.tr hE x2
 replace K0 := K0.ext x2
 replace D0 := D0.ext x2
 have zw2 := x2.size
 refine RS.asI rfl ?_
 refine nl hK1 ?_
 refine wp_seq_k (fun K3 hK3 => ?_)
 refine sq fun K4 hK4 => ?_
 refine RS.o (D.loadAgg rfl Tryd.underlying32 rfl C32 (by decide) rfl (B2.cellsN 11 rfl)) ?_
 refine RS.call E20 (checkO o ho _ _ _ D0 hc) rfl (fun v5 w5 x5 A5 => ?_)
 replace hE := Ext.tr hE x5
 replace K0 := K0.ext x5
 replace D0 := D0.ext x5
 replace B2 := B2.ext x5
 have zw5 := x5.size
 subst A5
 refine RS.nm ?_
 refine RS.asI rfl ?_
 refine nl hK4 ?_
 refine sq fun K6 hK6 => ?_
 refine RS.mvI rfl ?_
 refine RS.o (D.ne rfl rfl) ?_
 refine nl hK6 ?_
 refine C.ifn rfl (fun c7 => ?_) (fun c7 => ?_)
 ·have hk := c7
  refine sq fun K8 hK8 => ?_
  refine RS.mvI rfl ?_
  refine RS.asI rfl ?_
  refine nl hK8 ?_
  refine wp_ret ?_
  refine retI rfl rfl ?_
  refine ⟨_, rfl, hE, ?_⟩
  unfold S.verE
  rw [if_neg hk]
 have hk := c7
 refine wp_skip ?_
 refine hK3 _ _ ?_
 refine sq fun K9 hK9 => ?_
 refine RS.o (D.loadAgg rfl Tryd.underlying32 rfl C32 (by decide) rfl (B2.cellsN 11 rfl)) ?_
 refine RS.call E12 (messageO o ho _ _ _ D0 hc) rfl (fun v10 w10 x10 A10 => ?_)
 replace hE := Ext.tr hE x10
 replace K0 := K0.ext x10
 replace D0 := D0.ext x10
 replace B2 := B2.ext x10
 have zw10 := x10.size
 obtain ⟨a10, n10, c10, xs, rfl, OM, hxs⟩ := A10
 rw [if_pos (S.check_bare hk)] at hxs
 subst hxs
 refine RS.nm ?_
 refine RS.move (v := .tuple _) rfl ?_
 refine RS.extract (v := .slice _ _ _) rfl rfl ?_
 refine RS.extract (v := .int _ _) rfl rfl ?_
 refine RS.asS rfl ?_
 refine RS.asI rfl ?_
 refine nl hK9 ?_
 refine sq fun K11 hK11 => ?_
 refine RS.o (D.fieldL 0 rfl Tryd.underlying32 rfl C22 (by decide) rfl) ?_
 refine RS.o (D.load rfl Tryd.underlying22 rfl (B2.cell rfl)) ?_
 refine RS.mvS rfl ?_
 refine RS.o (D.fieldL 9 rfl Tryd.underlying32 rfl C30 (by decide) rfl) ?_
 refine RS.o (D.loadAgg rfl Tryd.underlying30 rfl C30 (by decide) rfl (B2.cellsN 2 rfl)) ?_
 refine RS.call E28 (verifyW _ (by omega) _ _ (by omega) (by omega) _ _ _ _ _ _ K0 OM.row OM.own.pre) rfl (fun v12 w12 x12 A12 => ?_)
 replace hE := Ext.tr hE x12
 replace K0 := K0.ext x12
 replace D0 := D0.ext x12
 replace B2 := B2.ext x12
 replace OM := OM.ext x12
 have zw12 := x12.size
 subst A12
 refine RS.nm ?_
 refine RS.asI rfl ?_
 refine nl hK11 ?_
 refine wp_ret ?_
 refine retI rfl rfl ?_
 refine ⟨_, rfl, hE, ?_⟩
 unfold S.verE
 rw [if_pos hk]
theorem givenW  (w : World) :
  Calls Tryd.prog 32 #[] w (Ret w fun v _ => v = .agg ([.int .u32 S.givenO.au, .slice none S.givenO.n 0, .int .u64 S.givenO.st, .int .u8 S.givenO.k, .string S.givenO.key, .int .u8 S.givenO.vk, .int .i64 S.givenO.num, .int .u64 S.givenO.bits, .string S.givenO.t, .int .u32 S.givenO.e, .int .u32 S.givenO.s] : List Value).toArray) := by
 have hE := Ext.refl w
 refine enterU 4 Tryd.func32 rfl rfl ?_
 refine sq fun K1 hK1 => ?_
 refine RS.alloc T32 (fun b2 w2 e2 s2 x2 B2 => ?_)
 refine RS.nm ?_
 replace hE := Ext.tr hE x2
 have zw2 := x2.size
 refine nl hK1 ?_
 refine sq fun K3 hK3 => ?_
 refine RS.o (D.buildS T28 F28 (ps := [(0, .int _ _), (1, .string _)]) rfl rfl) ?_
 refine RS.o (D.buildS T30 F30 (ps := [(0, .int _ _), (1, .int _ _)]) rfl rfl) ?_
 refine RS.o (D.buildS T32 F32 (ps := [(0, .int _ _), (2, .int _ _), (3, .agg _), (4, .agg _)]) rfl rfl) ?_
 refine RS.storeAggB rfl rfl C32 (by decide) rfl rfl B2 rfl (fun w4 y4 N4 => ?_)
 replace hE := hE.trans (y4.belo)
 have zw4 := y4.size
 replace B2 := N4
 refine nl hK3 ?_
 refine wp_ret ?_
 refine ret (rs := [.cell 0 32]) (vs := [.agg _]) (v := (.agg _)) rfl ⟨⟨_, rfl, loadVar_agg Tryd.underlying32 rfl C32 (by decide) rfl (B2.cellsN 11 rfl)⟩, trivial⟩ rfl ?_
 exact ⟨_, rfl, hE, rfl⟩
theorem aliveW (TK : TypeId) (w : World) (K0 : Kst w TK) :
  Calls Tryd.prog 24 #[] w (Ret w fun v _ => v = .bool true) := by
 have hKl := K0.lt
 have hE := Ext.refl w
 refine enterU 60 Tryd.func24 rfl rfl ?_
 refine sq fun K1 hK1 => ?_
 refine RS.asB rfl ?_
 refine nl hK1 ?_
 refine sq fun K2 hK2 => ?_
 refine RS.call E32 (givenW _) rfl (fun v3 w3 x3 A3 => ?_)
 replace hE := Ext.tr hE x3
 replace K0 := K0.ext x3
 have zw3 := x3.size
 subst A3
 refine RS.nm ?_
 refine RS.call E12 (messageO S.givenO S.given_ok _ _ _ (WRow.nil (S := fun _ => False)) (Nat.le_refl _)) rfl (fun v4 w4 x4 A4 => ?_)
 replace hE := Ext.tr hE x4
 replace K0 := K0.ext x4
 have zw4 := x4.size
 obtain ⟨a4, n4, c4, xs, rfl, OM, hxs⟩ := A4
 rw [if_pos S.given_bare] at hxs
 rw [S.given_bare]
 subst hxs
 have hOM := OM.lo
 refine RS.nm ?_
 refine RS.move (v := .tuple _) rfl ?_
 refine RS.extract (v := .slice _ _ _) rfl rfl ?_
 refine RS.extract (v := .int _ _) rfl rfl ?_
 refine RS.asS rfl ?_
 refine RS.asI rfl ?_
 refine nl hK2 ?_
 refine sq fun K5 hK5 => ?_
 refine RS.call E32 (givenW _) rfl (fun v6 w6 x6 A6 => ?_)
 replace hE := Ext.tr hE x6
 replace K0 := K0.ext x6
 replace OM := OM.ext x6
 have zw6 := x6.size
 subst A6
 refine RS.nm ?_
 refine RS.call E14 (encodeO S.givenO S.given_ok _ _ _ (WRow.nil (S := fun _ => False)) (Nat.le_refl _)) rfl (fun v7 w7 x7 A7 => ?_)
 replace hE := Ext.tr hE x7
 replace K0 := K0.ext x7
 replace OM := OM.ext x7
 have zw7 := x7.size
 obtain ⟨a7, n7, c7, xs, rfl, OE, hxs⟩ := A7
 rw [if_pos S.given_check] at hxs
 rw [S.given_check]
 subst hxs
 have hOE := OE.lo
 refine RS.nm ?_
 refine RS.move (v := .tuple _) rfl ?_
 refine RS.extract (v := .slice _ _ _) rfl rfl ?_
 refine RS.extract (v := .int _ _) rfl rfl ?_
 refine RS.asS rfl ?_
 refine RS.asI rfl ?_
 refine nl hK5 ?_
 refine sq fun K8 hK8 => ?_
 refine RS.call E32 (givenW _) rfl (fun v9 w9 x9 A9 => ?_)
 replace hE := Ext.tr hE x9
 replace K0 := K0.ext x9
 replace OM := OM.ext x9
 replace OE := OE.ext x9
 have zw9 := x9.size
 subst A9
 refine RS.nm ?_
 refine RS.alloc T32 (fun b10 w10 e10 s10 x10 B10 => ?_)
 refine RS.nm ?_
 replace hE := Ext.tr hE x10
 replace K0 := K0.ext x10
 replace OM := OM.ext x10
 replace OE := OE.ext x10
 have zw10 := x10.size
 refine RS.storeAggB rfl rfl C32 (by decide) rfl rfl B10 rfl (fun w11 y11 N11 => ?_)
 replace hE := hE.trans (y11.belo)
 replace K0 := K0.sto y11
 replace OM := OM.st y11 (by intros; try (first | (intro _ _) | (intro _) | skip); first | omega | (have hq := hOM _ (by assumption); first | omega | (dsimp only at *; omega)))
 replace OE := OE.st y11 (by intros; try (first | (intro _ _) | (intro _) | skip); first | omega | (have hq := hOE _ (by assumption); first | omega | (dsimp only at *; omega)))
 have zw11 := y11.size
 replace B10 := N11
 refine nl hK8 ?_
 refine sq fun K12 hK12 => ?_
 refine RS.o (D.fieldL 0 rfl Tryd.underlying32 rfl C22 (by decide) rfl) ?_
 refine RS.store rfl (v := .int _ _) rfl C22 rfl B10 rfl (fun w13 y13 N13 => ?_)
 replace hE := hE.trans (y13.belo)
 replace K0 := K0.sto y13
 replace OM := OM.st y13 (by intros; try (first | (intro _ _) | (intro _) | skip); first | omega | (have hq := hOM _ (by assumption); first | omega | (dsimp only at *; omega)))
 replace OE := OE.st y13 (by intros; try (first | (intro _ _) | (intro _) | skip); first | omega | (have hq := hOE _ (by assumption); first | omega | (dsimp only at *; omega)))
 have zw13 := y13.size
 replace B10 := N13
 refine nl hK12 ?_
 refine sq fun K14 hK14 => ?_
 refine RS.call E32 (givenW _) rfl (fun v15 w15 x15 A15 => ?_)
 replace hE := Ext.tr hE x15
 replace K0 := K0.ext x15
 replace OM := OM.ext x15
 replace OE := OE.ext x15
 replace B10 := B10.ext x15
 have zw15 := x15.size
 subst A15
 refine RS.nm ?_
 refine RS.call E25 (signO _ (by decide) S.givenO S.given_ok _ _ _ _ K0 (WRow.nil (S := fun _ => False)) (Nat.le_refl _)) rfl (fun v16 w16 x16 A16 => ?_)
 replace hE := Ext.tr hE x16
 replace K0 := K0.ext x16
 replace OM := OM.ext x16
 replace OE := OE.ext x16
 replace B10 := B10.ext x16
 have zw16 := x16.size
 obtain ⟨a16, c16, rfl, hcn, RG⟩ := A16
 rw [S.given_sign]
 obtain ⟨g1, g2, g3, g4, g5, g6, g7⟩ := S.sign_good S.given_ok rfl S.given_sign
 have hso := S.signS_ok 2 S.givenO S.given_ok
 replace RG := RG.weaken (T := fun k => k < w16.heap.size) (fun k hk _ => hk)
 refine RS.nm ?_
 refine RS.move (v := .tuple _) rfl ?_
 refine RS.extract (v := .agg _) rfl rfl ?_
 refine RS.extract (v := .int _ _) rfl rfl ?_
 refine RS.alloc T32 (fun b17 w17 e17 s17 x17 B17 => ?_)
 refine RS.nm ?_
 replace hE := Ext.tr hE x17
 replace K0 := K0.ext x17
 replace OM := OM.ext x17
 replace OE := OE.ext x17
 replace B10 := B10.ext x17
 replace RG := RG.ext x17
 have zw17 := x17.size
 refine RS.storeAggB rfl rfl C32 (by decide) rfl rfl B17 rfl (fun w18 y18 N18 => ?_)
 replace hE := hE.trans (y18.belo)
 replace K0 := K0.sto y18
 replace OM := OM.st y18 (by intros; try (first | (intro _ _) | (intro _) | skip); first | omega | (have hq := hOM _ (by assumption); first | omega | (dsimp only at *; omega)))
 replace OE := OE.st y18 (by intros; try (first | (intro _ _) | (intro _) | skip); first | omega | (have hq := hOE _ (by assumption); first | omega | (dsimp only at *; omega)))
 replace B10 := B10.sto y18
 replace RG := RG.sto y18
 have zw18 := y18.size
 replace B17 := N18
 refine RS.asI rfl ?_
 refine nl hK14 ?_
 refine sq fun K19 hK19 => ?_
 refine RS.mvI rfl ?_
 refine RS.o (D.eq rfl rfl) ?_
 refine RS.mvB rfl ?_
 refine RS.splite 27 rfl rfl (fun c20 => ?_) (fun c20 => ?_)
 ·refine RS.nm ?_
  refine RS.wt 27 ?_
  refine RS.mvS rfl ?_
  refine RS.wt 27 ?_
  refine RS.buildSlice (xs := [.const (.int .u8 111), .const (.int .u8 4), .const (.int .u8 0), .const (.int .u8 7), .const (.int .u8 2), .const (.int .u8 1), .const (.int .u8 97)]) (vs := [.int _ _, .int _ _, .int _ _, .int _ _, .int _ _, .int _ _, .int _ _]) (cs := [.int _ _, .int _ _, .int _ _, .int _ _, .int _ _, .int _ _, .int _ _]) Tryd.underlying35 T5 (by decide) rfl rfl rfl rfl rfl rfl (by intro v hv; simp only [List.mem_cons, List.not_mem_nil, or_false] at hv; rcases hv with rfl | rfl | rfl | rfl | rfl | rfl | rfl <;> rfl) rfl (fun b21 w21 e21 s21 x21 B21 => ?_)
  refine RS.nm ?_
  replace hE := Ext.tr hE x21
  replace K0 := K0.ext x21
  replace OM := OM.ext x21
  replace OE := OE.ext x21
  replace B10 := B10.ext x21
  replace RG := RG.ext x21
  replace B17 := B17.ext x21
  have zw21 := x21.size
  refine RS.wt 27 ?_
  refine RS.call E22 (sameBytes _ _ _ _ _ _ _ _ _ OM.row (IRow.of_blk (S := fun k => k = b21) B21 rfl rfl rfl (.cons (by decide) (.cons (by decide) (.cons (by decide) (.cons (by decide) (.cons (by decide) (.cons (by decide) (.cons (by decide) (.nil _))))))))) (by rw [← OM.len]; decide +kernel) (by decide)) rfl (fun v22 w22 x22 A22 => ?_)
  replace hE := Ext.tr hE x22
  replace K0 := K0.ext x22
  replace OM := OM.ext x22
  replace OE := OE.ext x22
  replace B10 := B10.ext x22
  replace RG := RG.ext x22
  replace B17 := B17.ext x22
  replace B21 := B21.ext x22
  have zw22 := x22.size
  subst A22
  refine RS.nm ?_
  refine RS.pick (v := .bool _) rfl rfl ?_
  refine RS.mvB rfl ?_
  refine RS.splitb 32 rfl rfl (fun c23 => ?_) (fun c23 => ?_)
  ·refine RS.nm ?_
   refine RS.wt 32 ?_
   refine RS.mvI rfl ?_
   refine RS.wt 32 ?_
   refine RS.o (D.eq rfl rfl) ?_
   refine RS.pick (v := .bool _) rfl rfl ?_
   refine RS.mvB rfl ?_
   refine RS.splite 36 rfl rfl (fun c24 => ?_) (fun c24 => ?_)
   ·refine RS.nm ?_
    refine RS.wt 36 ?_
    refine RS.mvS rfl ?_
    refine RS.wt 36 ?_
    refine RS.buildSlice (xs := [.const (.int .u8 111), .const (.int .u8 4), .const (.int .u8 0), .const (.int .u8 7), .const (.int .u8 2), .const (.int .u8 1), .const (.int .u8 97), .const (.int .u8 5), .const (.int .u8 6)]) (vs := [.int _ _, .int _ _, .int _ _, .int _ _, .int _ _, .int _ _, .int _ _, .int _ _, .int _ _]) (cs := [.int _ _, .int _ _, .int _ _, .int _ _, .int _ _, .int _ _, .int _ _, .int _ _, .int _ _]) Tryd.underlying35 T5 (by decide) rfl rfl rfl rfl rfl rfl (by intro v hv; simp only [List.mem_cons, List.not_mem_nil, or_false] at hv; rcases hv with rfl | rfl | rfl | rfl | rfl | rfl | rfl | rfl | rfl <;> rfl) rfl (fun b25 w25 e25 s25 x25 B25 => ?_)
    refine RS.nm ?_
    replace hE := Ext.tr hE x25
    replace K0 := K0.ext x25
    replace OM := OM.ext x25
    replace OE := OE.ext x25
    replace B10 := B10.ext x25
    replace RG := RG.ext x25
    replace B17 := B17.ext x25
    replace B21 := B21.ext x25
    have zw25 := x25.size
    refine RS.wt 36 ?_
    refine RS.call E22 (sameBytes _ _ _ _ _ _ _ _ _ OE.row (IRow.of_blk (S := fun k => k = b25) B25 rfl rfl rfl (.cons (by decide) (.cons (by decide) (.cons (by decide) (.cons (by decide) (.cons (by decide) (.cons (by decide) (.cons (by decide) (.cons (by decide) (.cons (by decide) (.nil _))))))))))) (by rw [← OE.len]; decide +kernel) (by decide)) rfl (fun v26 w26 x26 A26 => ?_)
    replace hE := Ext.tr hE x26
    replace K0 := K0.ext x26
    replace OM := OM.ext x26
    replace OE := OE.ext x26
    replace B10 := B10.ext x26
    replace RG := RG.ext x26
    replace B17 := B17.ext x26
    replace B21 := B21.ext x26
    replace B25 := B25.ext x26
    have zw26 := x26.size
    subst A26
    refine RS.nm ?_
    refine RS.pick (v := .bool _) rfl rfl ?_
    refine RS.mvB rfl ?_
    refine RS.splitb 41 rfl rfl (fun c27 => ?_) (fun c27 => ?_)
    ·refine RS.nm ?_
     refine RS.wt 41 ?_
     refine RS.o (D.loadAgg rfl Tryd.underlying32 rfl C32 (by decide) rfl (B10.cellsN 11 rfl)) ?_
     refine RS.wt 41 ?_
     refine RS.call E20 (checkO S.wrongO S.wrong_ok _ _ _ (WRow.nil (S := fun _ => False)) (Nat.le_refl _)) rfl (fun v28 w28 x28 A28 => ?_)
     replace hE := Ext.tr hE x28
     replace K0 := K0.ext x28
     replace OM := OM.ext x28
     replace OE := OE.ext x28
     replace B10 := B10.ext x28
     replace RG := RG.ext x28
     replace B17 := B17.ext x28
     replace B21 := B21.ext x28
     replace B25 := B25.ext x28
     have zw28 := x28.size
     subst A28
     rw [S.wrong_check]
     refine RS.nm ?_
     refine RS.wt 41 ?_
     refine RS.o (D.eq rfl rfl) ?_
     refine RS.pick (v := .bool _) rfl rfl ?_
     refine RS.mvB rfl ?_
     refine RS.splite 46 rfl rfl (fun c29 => ?_) (fun c29 => ?_)
     ·refine RS.nm ?_
      refine RS.wt 46 ?_
      refine RS.mvI rfl ?_
      refine RS.wt 46 ?_
      refine RS.o (D.eq rfl rfl) ?_
      refine RS.pick (v := .bool _) rfl rfl ?_
      refine RS.mvB rfl ?_
      refine RS.splite 50 rfl rfl (fun c30 => ?_) (fun c30 => ?_)
      ·refine RS.nm ?_
       refine RS.wt 50 ?_
       refine RS.o (D.fieldL 0 rfl Tryd.underlying32 rfl C22 (by decide) rfl) ?_
       refine RS.wt 50 ?_
       refine RS.o (D.load rfl Tryd.underlying22 rfl (B17.cell rfl)) ?_
       refine RS.wt 50 ?_
       refine RS.o (D.eq rfl rfl) ?_
       refine RS.pick (v := .bool _) rfl rfl ?_
       refine RS.mvB rfl ?_
       refine RS.splite 55 rfl rfl (fun c31 => ?_) (fun c31 => ?_)
       ·refine RS.nm ?_
        refine RS.wt 55 ?_
        refine RS.o (D.loadAgg rfl Tryd.underlying32 rfl C32 (by decide) rfl (B17.cellsN 11 rfl)) ?_
        refine RS.wt 55 ?_
        refine RS.call E27 (verifyO (S.signS 2 S.givenO) hso _ _ _ _ K0 RG hcn) rfl (fun v32 w32 x32 A32 => ?_)
        replace hE := Ext.tr hE x32
        replace K0 := K0.ext x32
        replace OM := OM.ext x32
        replace OE := OE.ext x32
        replace B10 := B10.ext x32
        replace RG := RG.ext x32
        replace B17 := B17.ext x32
        replace B21 := B21.ext x32
        replace B25 := B25.ext x32
        have zw32 := x32.size
        subst A32
        rw [g7]
        refine RS.nm ?_
        refine RS.wt 55 ?_
        refine RS.o (D.eq rfl rfl) ?_
        refine RS.pick (v := .bool _) rfl rfl ?_
        refine RS.asB rfl ?_
        refine nl hK19 ?_
        refine wp_ret ?_
        refine retB rfl rfl ?_
        exact ⟨_, rfl, hE, rfl⟩
       refine RS.nm ?_
       exact absurd (g1.trans S.pub_two) c31
      refine RS.nm ?_
      exact absurd rfl c30
     refine RS.nm ?_
     exact absurd rfl c29
    refine RS.nm ?_
    exact Bool.noConfusion ((decide_eq_true S.given_enc).symm.trans c27)
   refine RS.nm ?_
   exact absurd rfl c24
  refine RS.nm ?_
  exact Bool.noConfusion ((decide_eq_true S.given_msg).symm.trans c23)
 refine RS.nm ?_
 exact absurd rfl c20
end Go.Proofs.YtiohpiiiapjblaaDoor.W
