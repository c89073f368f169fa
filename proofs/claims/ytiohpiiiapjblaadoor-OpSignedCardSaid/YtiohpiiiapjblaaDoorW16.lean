/-
  W16: walks of functions, printed by gen.py from the annotations ann16.py.
-/
import Derived.Test.YtiohpiiiapjblaaDoorW15

namespace Go.Proofs.YtiohpiiiapjblaaDoor.W
open Go.RowKit Go.Proofs.YtiohpiiiapjblaaDoor.G
set_option linter.unusedVariables false
set_option maxRecDepth 20000
set_option maxHeartbeats 8000000
attribute [local irreducible] RS RX

theorem E20 : Enters Tryd.prog 20 := .mk Tryd.func20 (by kernel_rfl) rfl
theorem E42 : Enters Tryd.prog 42 := .mk Tryd.func42 (by kernel_rfl) rfl
theorem E46 : Enters Tryd.prog 46 := .mk Tryd.func46 (by kernel_rfl) rfl
theorem E84 : Enters Tryd.prog 84 := .mk Tryd.func84 (by kernel_rfl) rfl
theorem E86 : Enters Tryd.prog 86 := .mk Tryd.func86 (by kernel_rfl) rfl
theorem messageO {S0 : Nat → Prop} (o : S.OpV) (ho : o.ok) (pa : Option Addr) (pc : Nat) (w : World) (D0 : WRow .u8 32 S0 w pa o.n o.ids) (hc : o.n ≤ pc) :
    Calls Tryd.prog 12 #[.agg ([.int .u32 o.au, .slice pa o.n pc, .int .u64 o.st, .int .u8 o.k, .string o.key, .int .u8 o.vk, .int .i64 o.num, .int .u64 o.bits, .string o.t, .int .u32 o.e, .int .u32 o.s] : List Value).toArray] w (Ret w fun v w' => ∃ a' n' c' xs, v = .tuple #[.slice a' n' c', .int .i64 (S.checkE o.bare)] ∧ IOwn w.heap.size w' 5 .u8 a' n' c' xs ∧ xs = if S.checkE o.bare = 0 then S.msgS o else []) := by
  replace D0 := D0.weaken (T := fun k => k < w.heap.size) (fun k hk _ => hk)
  have o1 := ho.au
  have o2 := ho.st
  have o3 := ho.k
  have o4 := ho.vk
  have o5 := ho.num
  have o6 := ho.bits
  have o7 := ho.e
  have o8 := ho.s
  have o9 := ho.n
  have o10 := ho.key
  have o11 := ho.t
  have e1 := S.numS_len o.au
  have e2 := S.numS_len o.st
  have e3 := S.numS_len (o.n : Int)
  have e4 := D0.len
  have e5 := S.numS_len (o.key.size : Int)
  have e6 := S.valS_len o.vk o.num o.bits o.t o11
  have e7 := S.numS_len o.e
  have e8 := S.numS_len o.s
  have hE := Ext.refl w
  refine enter (args := [.agg ([.int .u32 o.au, .slice pa o.n pc, .int .u64 o.st, .int .u8 o.k, .string o.key, .int .u8 o.vk, .int .i64 o.num, .int .u64 o.bits, .string o.t, .int .u32 o.e, .int .u32 o.s] : List Value).toArray]) (l := [.agg ([.int .u32 o.au, .slice pa o.n pc, .int .u64 o.st, .int .u8 o.k, .string o.key, .int .u8 o.vk, .int .i64 o.num, .int .u64 o.bits, .string o.t, .int .u32 o.e, .int .u32 o.s] : List Value).toArray, undef, undef, undef, undef, undef, undef, undef, undef, undef, undef, undef, undef, undef, undef, undef, undef, undef, undef, undef, undef, undef, undef, undef, undef, undef, undef, undef, undef, undef, undef, undef, undef, undef, undef, undef, undef, undef, undef, undef, undef, undef, undef, undef, undef, undef, undef, undef, undef, undef, undef, undef, undef, undef, undef, undef, undef, undef, undef, undef, undef, undef, undef, undef, undef, undef, undef, undef, undef, undef, undef]) Tryd.func12 rfl rfl ?_
  refine wp_seq_k (fun K1 hK1 => ?_)
  refine region ?_
  refine RS.box rfl rfl (fun b2 w2 e2 s2 x2 B2 => ?_)
  refine RS.norm (by dsimp only [List.set]) ?_
  replace hE := Ext.tr hE x2
  replace D0 := D0.ext x2
  have zw2 := x2.size
  refine RS.assign (v := .slice none 0 0) rfl ?_
  refine RS.assign (v := .int .i64 0) rfl ?_
  refine RS.nil ?_
  refine hK1 _ _ ?_
  try clear hK1
  refine wp_seq_k (fun K3 hK3 => ?_)
  refine region ?_
  refine RS.o (D.buildS T30 F30 (ps := []) rfl rfl) ?_
  refine RS.o (D.fieldL 9 rfl Tryd.underlying32 rfl C30 (by decide) rfl) ?_
  refine RS.storeAggB rfl rfl C30 (by decide) rfl rfl B2 rfl (fun w4 y4 N4 => ?_)
  replace hE := hE.trans (y4.below (by intros; try (first | (intro _ _) | (intro _) | skip); first | omega | (dsimp only at *; omega) | (simp_all; done) | (simp at *; omega)))
  replace D0 := D0.st y4 (by intros; try (first | (intro _ _) | (intro _) | skip); first | omega | (dsimp only at *; omega) | (simp_all; done) | (simp at *; omega))
  have zw4 := y4.size
  replace B2 := N4
  refine RS.nil ?_
  refine hK3 _ _ ?_
  try clear hK3
  refine wp_seq_k (fun K5 hK5 => ?_)
  refine wp_seq_k (fun K6 hK6 => ?_)
  refine region ?_
  refine RS.o (D.loadAgg rfl Tryd.underlying32 rfl C32 (by decide) rfl (B2.cellsN 11 rfl)) ?_
  refine RS.call E20 (checkO o.bare (S.OpV.bare_ok ho) _ _ _ D0 hc) rfl (fun v7 w7 x7 A7 => ?_)
  replace hE := Ext.tr hE x7
  replace D0 := D0.ext x7
  replace B2 := B2.ext x7
  have zw7 := x7.size
  subst A7
  refine RS.norm (by dsimp only [List.set]) ?_
  refine RS.assign (v := .int _ _) rfl ?_
  refine RS.nil ?_
  refine hK6 _ _ ?_
  try clear hK6
  refine wp_seq_k (fun K8 hK8 => ?_)
  refine region ?_
  refine RS.move (v := .int _ _) rfl ?_
  refine RS.o (D.ne rfl rfl) ?_
  refine RS.nil ?_
  refine hK8 _ _ ?_
  try clear hK8
  refine C.ifn rfl (fun c9 => ?_) (fun c9 => ?_)
  · have hnz := c9
    refine wp_seq_k (fun K10 hK10 => ?_)
    refine region ?_
    refine RS.move (v := .int _ _) rfl ?_
    refine RS.assign (v := .slice none 0 0) rfl ?_
    refine RS.assign (v := .int _ _) rfl ?_
    refine RS.nil ?_
    refine hK10 _ _ ?_
    try clear hK10
    refine wp_ret ?_
    refine ret (rs := [.tmp 2, .tmp 3]) (vs := [.slice _ _ _, .int _ _]) (v := (.tuple #[.slice _ _ _, .int _ _])) rfl ⟨rfl, rfl, trivial⟩ rfl ?_
    exact ⟨_, rfl, hE, none, 0, 0, [], rfl, IOwn.nil _ _ _ _, (if_neg hnz).symm⟩
  · have hz := c9
    obtain ⟨q1, q2, q3⟩ := S.check_zero.1 hz
    have hfa := q3.2.2.2.2
    have q4 : o.n ≤ 4 := q1
    refine wp_skip ?_
    refine hK5 _ _ ?_
    try clear hK5
    refine wp_seq_k (fun K11 hK11 => ?_)
    refine region ?_
    refine RS.o (D.fieldL 1 rfl Tryd.underlying32 rfl C23 (by decide) rfl) ?_
    refine RS.o (D.load rfl Tryd.underlying23 rfl (B2.cell rfl)) ?_
    refine RS.call E42 (idsW _ _ _ _ _ D0 hc (by have : o.n ≤ 4 := q1; omega) q2) rfl (fun v12 w12 x12 A12 => ?_)
    replace hE := Ext.tr hE x12
    replace D0 := D0.ext x12
    replace B2 := B2.ext x12
    have zw12 := x12.size
    obtain ⟨a12, n12, c12, rfl, OP⟩ := A12
    have hpc := OP.own.pre
    refine RS.norm (by dsimp only [List.set]) ?_
    refine RS.move (v := .tuple _) rfl ?_
    refine RS.extract (v := .slice _ _ _) rfl rfl ?_
    refine RS.extract (v := .int _ _) rfl rfl ?_
    refine RS.assign (v := .slice _ _ _) rfl ?_
    refine RS.assign (v := .int _ _) rfl ?_
    refine RS.nil ?_
    refine hK11 _ _ ?_
    try clear hK11
    refine wp_seq_k (fun K13 hK13 => ?_)
    refine regionM 13 [25, 26, 27, 28, 29, 30, 31, 32, 33, 34, 35, 36, 37] (fun i v w => match i with | 0 => ∃ a n c, v = .slice a n c ∧ IRow .u8 (fun _ => True) w a n [111] ∧ n ≤ c | 1 => v = .pointer (some ⟨b2, 0, none⟩) | 2 => v = .int .u32 o.au | 3 => v = .int .u64 o.au | 4 => ∃ a n c, v = .slice a n c ∧ IRow .u8 (fun _ => True) w a n (S.numS o.au) ∧ n ≤ c | 5 => v = .slice a12 n12 c12 | 6 => v = .pointer (some ⟨b2, 2, none⟩) | 7 => v = .int .u64 o.st | 8 => ∃ a n c, v = .slice a n c ∧ IRow .u8 (fun _ => True) w a n (S.numS o.st) ∧ n ≤ c | 9 => v = .pointer (some ⟨b2, 3, none⟩) | 10 => v = .pointer (some ⟨b2, 3, none⟩) | 11 => v = .int .u8 o.k | 12 => ∃ a n c, v = .slice a n c ∧ IRow .u8 (fun _ => True) w a n [o.k] ∧ n ≤ c | _ => True) [(13, .e), (14, .e), (15, .q)] mixed (by kernel_rfl) ?_ (fun w14 x14 => ?_) (fun f w15 x15 hF => ?_)
    · intro i v w w2 h x
      match i, h with
      | 0, h => (obtain ⟨a, n, c, h1, h2, h3⟩ := h; exact ⟨a, n, c, h1, h2.ext x, h3⟩)
      | 1, h => exact h
      | 2, h => exact h
      | 3, h => exact h
      | 4, h => (obtain ⟨a, n, c, h1, h2, h3⟩ := h; exact ⟨a, n, c, h1, h2.ext x, h3⟩)
      | 5, h => exact h
      | 6, h => exact h
      | 7, h => exact h
      | 8, h => (obtain ⟨a, n, c, h1, h2, h3⟩ := h; exact ⟨a, n, c, h1, h2.ext x, h3⟩)
      | 9, h => exact h
      | 10, h => exact h
      | 11, h => exact h
      | 12, h => (obtain ⟨a, n, c, h1, h2, h3⟩ := h; exact ⟨a, n, c, h1, h2.ext x, h3⟩)
      | _ + 13, h => trivial
    · replace hE := Ext.tr hE x14
      replace D0 := D0.ext x14
      replace B2 := B2.ext x14
      replace OP := OP.ext x14
      have zw14 := x14.size
      refine ⟨?_, ?_, ?_, ?_, ?_, ?_, ?_, ?_, ?_, ?_, ?_, ?_, ?_, trivial⟩
      · intro f w16 x16 hd
        replace hE := Ext.tr hE x16
        replace D0 := D0.ext x16
        replace B2 := B2.ext x16
        replace OP := OP.ext x16
        have zw16 := x16.size
        refine RS.norm (by simp only [FF, upd, List.map_cons, List.map_nil, List.set_cons_succ, List.set_cons_zero, List.getD_cons_zero, List.getD_cons_succ]; exact rfl) ?_
        dsimp only [nth]
        refine RS.buildSlice (xs := [.const (.int .u8 111)]) (vs := [.int _ _]) (cs := [.int _ _]) Tryd.underlying35 T5 (by decide) rfl rfl rfl rfl rfl rfl (by intro v hv; simp only [List.mem_cons, List.not_mem_nil, or_false] at hv; subst hv; rfl) rfl (fun b17 w17 e17 s17 x17 B17 => ?_)
        refine RS.norm (by dsimp only [List.set]) ?_
        replace hE := Ext.tr hE x17
        replace D0 := D0.ext x17
        replace B2 := B2.ext x17
        replace OP := OP.ext x17
        have zw17 := x17.size
        have Q1 : IRow .u8 (fun k => k = b17) w17 (some ⟨b17, 0, none⟩) 1 [_] := IRow.of_blk B17 rfl rfl rfl (.cons (by simp only [lim]; omega) (.nil _))
        refine RS.nil ?_
        refine ⟨.slice (some ⟨b17, 0, none⟩) 1 1, ?_, x17, ?_⟩
        · first | (simp only [FF, upd, List.map_cons, List.map_nil, List.set_cons_succ, List.set_cons_zero, List.getD_cons_zero, List.getD_cons_succ]; done) | (simp only [FF, upd, List.map_cons, List.map_nil, List.set_cons_succ, List.set_cons_zero, List.getD_cons_zero, List.getD_cons_succ]; rfl)
        · exact ⟨_, _, _, rfl, Q1.weaken (fun _ _ _ => trivial), Nat.le_refl _⟩
      · intro f w18 x18 hd
        replace hE := Ext.tr hE x18
        replace D0 := D0.ext x18
        replace B2 := B2.ext x18
        replace OP := OP.ext x18
        have zw18 := x18.size
        refine RS.norm (by simp only [FF, upd, List.map_cons, List.map_nil, List.set_cons_succ, List.set_cons_zero, List.getD_cons_zero, List.getD_cons_succ]; exact rfl) ?_
        dsimp only [nth]
        refine RS.o (D.fieldL 0 rfl Tryd.underlying32 rfl C22 (by decide) rfl) ?_
        refine RS.nil ?_
        refine ⟨.pointer (some ⟨b2, 0, none⟩), ?_, (Ext.refl _), ?_⟩
        · first | (simp only [FF, upd, List.map_cons, List.map_nil, List.set_cons_succ, List.set_cons_zero, List.getD_cons_zero, List.getD_cons_succ]; done) | (simp only [FF, upd, List.map_cons, List.map_nil, List.set_cons_succ, List.set_cons_zero, List.getD_cons_zero, List.getD_cons_succ]; rfl)
        · rfl
      · intro f w19 x19 hd
        replace hE := Ext.tr hE x19
        replace D0 := D0.ext x19
        replace B2 := B2.ext x19
        replace OP := OP.ext x19
        have zw19 := x19.size
        have h19_1 : (f 26) = .pointer (some ⟨b2, 0, none⟩) := hd 1 (by decide +kernel)
        refine RS.norm (by simp only [FF, upd, List.map_cons, List.map_nil, List.set_cons_succ, List.set_cons_zero, List.getD_cons_zero, List.getD_cons_succ]; exact rfl) ?_
        rw [h19_1]
        dsimp only [nth]
        refine RS.o (D.load rfl Tryd.underlying22 rfl (B2.cell rfl)) ?_
        refine RS.nil ?_
        refine ⟨.int .u32 o.au, ?_, (Ext.refl _), ?_⟩
        · first | (simp only [FF, upd, List.map_cons, List.map_nil, List.set_cons_succ, List.set_cons_zero, List.getD_cons_zero, List.getD_cons_succ, h19_1]; done) | (simp only [FF, upd, List.map_cons, List.map_nil, List.set_cons_succ, List.set_cons_zero, List.getD_cons_zero, List.getD_cons_succ, h19_1]; rfl)
        · rfl
      · intro f w20 x20 hd
        replace hE := Ext.tr hE x20
        replace D0 := D0.ext x20
        replace B2 := B2.ext x20
        replace OP := OP.ext x20
        have zw20 := x20.size
        have h20_2 : (f 27) = .int .u32 o.au := hd 2 (by decide +kernel)
        refine RS.norm (by simp only [FF, upd, List.map_cons, List.map_nil, List.set_cons_succ, List.set_cons_zero, List.getD_cons_zero, List.getD_cons_succ]; exact rfl) ?_
        rw [h20_2]
        dsimp only [nth]
        refine RS.o (D.conv rfl Tryd.underlying22 Tryd.underlying24 (W.u64 (by omega))) ?_
        refine RS.nil ?_
        refine ⟨.int .u64 o.au, ?_, (Ext.refl _), ?_⟩
        · first | (simp only [FF, upd, List.map_cons, List.map_nil, List.set_cons_succ, List.set_cons_zero, List.getD_cons_zero, List.getD_cons_succ, h20_2]; done) | (simp only [FF, upd, List.map_cons, List.map_nil, List.set_cons_succ, List.set_cons_zero, List.getD_cons_zero, List.getD_cons_succ, h20_2]; rfl)
        · rfl
      · intro f w21 x21 hd
        replace hE := Ext.tr hE x21
        replace D0 := D0.ext x21
        replace B2 := B2.ext x21
        replace OP := OP.ext x21
        have zw21 := x21.size
        have h21_3 : (f 28) = .int .u64 o.au := hd 3 (by decide +kernel)
        refine RS.norm (by simp only [FF, upd, List.map_cons, List.map_nil, List.set_cons_succ, List.set_cons_zero, List.getD_cons_zero, List.getD_cons_succ]; exact rfl) ?_
        rw [h21_3]
        dsimp only [nth]
        refine RS.call E44 (numW _ (by omega) _) rfl (fun v22 w22 x22 A22 => ?_)
        replace hE := Ext.tr hE x22
        replace D0 := D0.ext x22
        replace B2 := B2.ext x22
        replace OP := OP.ext x22
        have zw22 := x22.size
        obtain ⟨a22, n22, c22, rfl, O1⟩ := A22
        refine RS.norm (by dsimp only [List.set]) ?_
        refine RS.nil ?_
        refine ⟨.slice a22 n22 c22, ?_, x22, ?_⟩
        · first | (simp only [FF, upd, List.map_cons, List.map_nil, List.set_cons_succ, List.set_cons_zero, List.getD_cons_zero, List.getD_cons_succ, h21_3]; done) | (simp only [FF, upd, List.map_cons, List.map_nil, List.set_cons_succ, List.set_cons_zero, List.getD_cons_zero, List.getD_cons_succ, h21_3]; rfl)
        · exact ⟨_, _, _, rfl, O1.row.weaken (fun _ _ _ => trivial), O1.own.pre⟩
      · intro f w23 x23 hd
        replace hE := Ext.tr hE x23
        replace D0 := D0.ext x23
        replace B2 := B2.ext x23
        replace OP := OP.ext x23
        have zw23 := x23.size
        refine RS.norm (by simp only [FF, upd, List.map_cons, List.map_nil, List.set_cons_succ, List.set_cons_zero, List.getD_cons_zero, List.getD_cons_succ]; exact rfl) ?_
        dsimp only [nth]
        refine RS.move (v := .slice _ _ _) rfl ?_
        refine RS.nil ?_
        refine ⟨.slice a12 n12 c12, ?_, (Ext.refl _), ?_⟩
        · first | (simp only [FF, upd, List.map_cons, List.map_nil, List.set_cons_succ, List.set_cons_zero, List.getD_cons_zero, List.getD_cons_succ]; done) | (simp only [FF, upd, List.map_cons, List.map_nil, List.set_cons_succ, List.set_cons_zero, List.getD_cons_zero, List.getD_cons_succ]; rfl)
        · rfl
      · intro f w24 x24 hd
        replace hE := Ext.tr hE x24
        replace D0 := D0.ext x24
        replace B2 := B2.ext x24
        replace OP := OP.ext x24
        have zw24 := x24.size
        refine RS.norm (by simp only [FF, upd, List.map_cons, List.map_nil, List.set_cons_succ, List.set_cons_zero, List.getD_cons_zero, List.getD_cons_succ]; exact rfl) ?_
        dsimp only [nth]
        refine RS.o (D.fieldL 2 rfl Tryd.underlying32 rfl C24 (by decide) rfl) ?_
        refine RS.nil ?_
        refine ⟨.pointer (some ⟨b2, 2, none⟩), ?_, (Ext.refl _), ?_⟩
        · first | (simp only [FF, upd, List.map_cons, List.map_nil, List.set_cons_succ, List.set_cons_zero, List.getD_cons_zero, List.getD_cons_succ]; done) | (simp only [FF, upd, List.map_cons, List.map_nil, List.set_cons_succ, List.set_cons_zero, List.getD_cons_zero, List.getD_cons_succ]; rfl)
        · rfl
      · intro f w25 x25 hd
        replace hE := Ext.tr hE x25
        replace D0 := D0.ext x25
        replace B2 := B2.ext x25
        replace OP := OP.ext x25
        have zw25 := x25.size
        have h25_6 : (f 31) = .pointer (some ⟨b2, 2, none⟩) := hd 6 (by decide +kernel)
        refine RS.norm (by simp only [FF, upd, List.map_cons, List.map_nil, List.set_cons_succ, List.set_cons_zero, List.getD_cons_zero, List.getD_cons_succ]; exact rfl) ?_
        rw [h25_6]
        dsimp only [nth]
        refine RS.o (D.load rfl Tryd.underlying24 rfl (B2.cell rfl)) ?_
        refine RS.nil ?_
        refine ⟨.int .u64 o.st, ?_, (Ext.refl _), ?_⟩
        · first | (simp only [FF, upd, List.map_cons, List.map_nil, List.set_cons_succ, List.set_cons_zero, List.getD_cons_zero, List.getD_cons_succ, h25_6]; done) | (simp only [FF, upd, List.map_cons, List.map_nil, List.set_cons_succ, List.set_cons_zero, List.getD_cons_zero, List.getD_cons_succ, h25_6]; rfl)
        · rfl
      · intro f w26 x26 hd
        replace hE := Ext.tr hE x26
        replace D0 := D0.ext x26
        replace B2 := B2.ext x26
        replace OP := OP.ext x26
        have zw26 := x26.size
        have h26_4 : ∃ a n c, (f 29) = .slice a n c ∧ IRow .u8 (fun _ => True) w26 a n (S.numS o.au) ∧ n ≤ c := hd 4 (by decide +kernel)
        have h26_7 : (f 32) = .int .u64 o.st := hd 7 (by decide +kernel)
        refine RS.norm (by simp only [FF, upd, List.map_cons, List.map_nil, List.set_cons_succ, List.set_cons_zero, List.getD_cons_zero, List.getD_cons_succ]; exact rfl) ?_
        rw [h26_7]
        dsimp only [nth]
        refine RS.call E44 (numW _ (by omega) _) rfl (fun v27 w27 x27 A27 => ?_)
        replace hE := Ext.tr hE x27
        replace D0 := D0.ext x27
        replace B2 := B2.ext x27
        replace OP := OP.ext x27
        have zw27 := x27.size
        obtain ⟨a27, n27, c27, rfl, O1⟩ := A27
        refine RS.norm (by dsimp only [List.set]) ?_
        refine RS.nil ?_
        refine ⟨.slice a27 n27 c27, ?_, x27, ?_⟩
        · first | (simp only [FF, upd, List.map_cons, List.map_nil, List.set_cons_succ, List.set_cons_zero, List.getD_cons_zero, List.getD_cons_succ, h26_7]; done) | (simp only [FF, upd, List.map_cons, List.map_nil, List.set_cons_succ, List.set_cons_zero, List.getD_cons_zero, List.getD_cons_succ, h26_7]; rfl)
        · exact ⟨_, _, _, rfl, O1.row.weaken (fun _ _ _ => trivial), O1.own.pre⟩
      · intro f w28 x28 hd
        replace hE := Ext.tr hE x28
        replace D0 := D0.ext x28
        replace B2 := B2.ext x28
        replace OP := OP.ext x28
        have zw28 := x28.size
        refine RS.norm (by simp only [FF, upd, List.map_cons, List.map_nil, List.set_cons_succ, List.set_cons_zero, List.getD_cons_zero, List.getD_cons_succ]; exact rfl) ?_
        dsimp only [nth]
        refine RS.o (D.fieldL 3 rfl Tryd.underlying32 rfl C28 (by decide) rfl) ?_
        refine RS.nil ?_
        refine ⟨.pointer (some ⟨b2, 3, none⟩), ?_, (Ext.refl _), ?_⟩
        · first | (simp only [FF, upd, List.map_cons, List.map_nil, List.set_cons_succ, List.set_cons_zero, List.getD_cons_zero, List.getD_cons_succ]; done) | (simp only [FF, upd, List.map_cons, List.map_nil, List.set_cons_succ, List.set_cons_zero, List.getD_cons_zero, List.getD_cons_succ]; rfl)
        · rfl
      · intro f w29 x29 hd
        replace hE := Ext.tr hE x29
        replace D0 := D0.ext x29
        replace B2 := B2.ext x29
        replace OP := OP.ext x29
        have zw29 := x29.size
        have h29_9 : (f 34) = .pointer (some ⟨b2, 3, none⟩) := hd 9 (by decide +kernel)
        refine RS.norm (by simp only [FF, upd, List.map_cons, List.map_nil, List.set_cons_succ, List.set_cons_zero, List.getD_cons_zero, List.getD_cons_succ]; exact rfl) ?_
        rw [h29_9]
        dsimp only [nth]
        refine RS.o (D.fieldL 3 rfl Tryd.underlying28 rfl C5 (by decide) rfl) ?_
        refine RS.nil ?_
        refine ⟨.pointer (some ⟨b2, 3, none⟩), ?_, (Ext.refl _), ?_⟩
        · first | (simp only [FF, upd, List.map_cons, List.map_nil, List.set_cons_succ, List.set_cons_zero, List.getD_cons_zero, List.getD_cons_succ, h29_9]; done) | (simp only [FF, upd, List.map_cons, List.map_nil, List.set_cons_succ, List.set_cons_zero, List.getD_cons_zero, List.getD_cons_succ, h29_9]; rfl)
        · rfl
      · intro f w30 x30 hd
        replace hE := Ext.tr hE x30
        replace D0 := D0.ext x30
        replace B2 := B2.ext x30
        replace OP := OP.ext x30
        have zw30 := x30.size
        have h30_10 : (f 35) = .pointer (some ⟨b2, 3, none⟩) := hd 10 (by decide +kernel)
        refine RS.norm (by simp only [FF, upd, List.map_cons, List.map_nil, List.set_cons_succ, List.set_cons_zero, List.getD_cons_zero, List.getD_cons_succ]; exact rfl) ?_
        rw [h30_10]
        dsimp only [nth]
        refine RS.o (D.load rfl Tryd.underlying5 rfl (B2.cell rfl)) ?_
        refine RS.nil ?_
        refine ⟨.int .u8 o.k, ?_, (Ext.refl _), ?_⟩
        · first | (simp only [FF, upd, List.map_cons, List.map_nil, List.set_cons_succ, List.set_cons_zero, List.getD_cons_zero, List.getD_cons_succ, h30_10]; done) | (simp only [FF, upd, List.map_cons, List.map_nil, List.set_cons_succ, List.set_cons_zero, List.getD_cons_zero, List.getD_cons_succ, h30_10]; rfl)
        · rfl
      · intro f w31 x31 hd
        replace hE := Ext.tr hE x31
        replace D0 := D0.ext x31
        replace B2 := B2.ext x31
        replace OP := OP.ext x31
        have zw31 := x31.size
        have h31_11 : (f 36) = .int .u8 o.k := hd 11 (by decide +kernel)
        refine RS.norm (by simp only [FF, upd, List.map_cons, List.map_nil, List.set_cons_succ, List.set_cons_zero, List.getD_cons_zero, List.getD_cons_succ]; exact rfl) ?_
        rw [h31_11]
        dsimp only [nth]
        refine RS.buildSlice (xs := [.tmp 36]) (vs := [.int _ _]) (cs := [.int _ _]) Tryd.underlying35 T5 (by decide) rfl rfl rfl rfl rfl rfl (by intro v hv; simp only [List.mem_cons, List.not_mem_nil, or_false] at hv; subst hv; rfl) rfl (fun b32 w32 e32 s32 x32 B32 => ?_)
        refine RS.norm (by dsimp only [List.set]) ?_
        replace hE := Ext.tr hE x32
        replace D0 := D0.ext x32
        replace B2 := B2.ext x32
        replace OP := OP.ext x32
        have zw32 := x32.size
        have Q1 : IRow .u8 (fun k => k = b32) w32 (some ⟨b32, 0, none⟩) 1 [_] := IRow.of_blk B32 rfl rfl rfl (.cons (by simp only [lim]; omega) (.nil _))
        refine RS.nil ?_
        refine ⟨.slice (some ⟨b32, 0, none⟩) 1 1, ?_, x32, ?_⟩
        · first | (simp only [FF, upd, List.map_cons, List.map_nil, List.set_cons_succ, List.set_cons_zero, List.getD_cons_zero, List.getD_cons_succ, h31_11]; done) | (simp only [FF, upd, List.map_cons, List.map_nil, List.set_cons_succ, List.set_cons_zero, List.getD_cons_zero, List.getD_cons_succ, h31_11]; rfl)
        · exact ⟨_, _, _, rfl, Q1.weaken (fun _ _ _ => trivial), Nat.le_refl _⟩
    · replace hE := Ext.tr hE x15
      replace D0 := D0.ext x15
      replace B2 := B2.ext x15
      replace OP := OP.ext x15
      have zw15 := x15.size
      obtain ⟨g0, g1, g2, g3, g4, g5, g6, g7, g8, g9, g10, g11, g12, _⟩ := hF
      replace g0 : ∃ a n c, (f 25) = .slice a n c ∧ IRow .u8 (fun _ => True) w15 a n [111] ∧ n ≤ c := g0
      replace g1 : (f 26) = .pointer (some ⟨b2, 0, none⟩) := g1
      replace g2 : (f 27) = .int .u32 o.au := g2
      replace g3 : (f 28) = .int .u64 o.au := g3
      replace g4 : ∃ a n c, (f 29) = .slice a n c ∧ IRow .u8 (fun _ => True) w15 a n (S.numS o.au) ∧ n ≤ c := g4
      replace g5 : (f 30) = .slice a12 n12 c12 := g5
      replace g6 : (f 31) = .pointer (some ⟨b2, 2, none⟩) := g6
      replace g7 : (f 32) = .int .u64 o.st := g7
      replace g8 : ∃ a n c, (f 33) = .slice a n c ∧ IRow .u8 (fun _ => True) w15 a n (S.numS o.st) ∧ n ≤ c := g8
      replace g9 : (f 34) = .pointer (some ⟨b2, 3, none⟩) := g9
      replace g10 : (f 35) = .pointer (some ⟨b2, 3, none⟩) := g10
      replace g11 : (f 36) = .int .u8 o.k := g11
      replace g12 : ∃ a n c, (f 37) = .slice a n c ∧ IRow .u8 (fun _ => True) w15 a n [o.k] ∧ n ≤ c := g12
      obtain ⟨a25, n25, c25, g0, Q25, l25⟩ := g0
      obtain ⟨a29, n29, c29, g4, Q29, l29⟩ := g4
      obtain ⟨a33, n33, c33, g8, Q33, l33⟩ := g8
      obtain ⟨a37, n37, c37, g12, Q37, l37⟩ := g12
      refine RX.norm (by simp only [FF, upd, List.map_cons, List.map_nil, List.set_cons_succ, List.set_cons_zero]; exact rfl) ?_
      rw [g0, g1, g2, g3, g4, g5, g6, g7, g8, g9, g10, g11, g12]
      refine RX.eff ?_
      refine RS.buildSlice (xs := [.tmp 25, .tmp 29, .tmp 30, .tmp 33, .tmp 37]) (vs := [.slice _ _ _, .slice _ _ _, .slice _ _ _, .slice _ _ _, .slice _ _ _]) (cs := [.slice _ _ _, .slice _ _ _, .slice _ _ _, .slice _ _ _, .slice _ _ _]) Tryd.underlying70 T35 (by decide) rfl rfl rfl rfl rfl rfl (by intro v hv; simp only [List.mem_cons, List.not_mem_nil, or_false] at hv; rcases hv with rfl | rfl | rfl | rfl | rfl <;> rfl) rfl (fun b33 w33 e33 s33 x33 B33 => ?_)
      refine RS.norm (by dsimp only [List.set]) ?_
      replace hE := Ext.tr hE x33
      replace D0 := D0.ext x33
      replace B2 := B2.ext x33
      replace OP := OP.ext x33
      replace Q25 := Q25.ext x33
      replace Q29 := Q29.ext x33
      replace Q33 := Q33.ext x33
      replace Q37 := Q37.ext x33
      have zw33 := x33.size
      refine RS.nil ⟨x33, ?_⟩
      refine RX.eff ?_
      refine RS.call E43 (concat [⟨a25, n25, c25, [111]⟩, ⟨a29, n29, c29, S.numS o.au⟩, ⟨a12, n12, c12, S.listS o.n o.ids⟩, ⟨a33, n33, c33, S.numS o.st⟩, ⟨a37, n37, c37, [o.k]⟩] _ _ _ _ (PRow.of_blkE B33 rfl rfl ⟨⟨_, Q25, l25⟩, ⟨_, Q29, l29⟩, ⟨_, OP.row, hpc⟩, ⟨_, Q33, l33⟩, ⟨_, Q37, l37⟩, trivial⟩) (show (5 : Nat) ≤ 1000 by decide) (by simp [cat, S.listS]; omega)) rfl (fun v34 w34 x34 A34 => ?_)
      replace hE := Ext.tr hE x34
      replace D0 := D0.ext x34
      replace B2 := B2.ext x34
      replace OP := OP.ext x34
      replace Q25 := Q25.ext x34
      replace Q29 := Q29.ext x34
      replace Q33 := Q33.ext x34
      replace Q37 := Q37.ext x34
      replace B33 := B33.ext x34
      have zw34 := x34.size
      obtain ⟨a34, n34, c34, rfl, O1⟩ := A34
      have ecat : cat [⟨a25, n25, c25, [111]⟩, ⟨a29, n29, c29, S.numS o.au⟩, ⟨a12, n12, c12, S.listS o.n o.ids⟩, ⟨a33, n33, c33, S.numS o.st⟩, ⟨a37, n37, c37, [o.k]⟩] = ([111] ++ S.numS o.au ++ S.listS o.n o.ids ++ S.numS o.st ++ [o.k]) := by simp [cat]
      rw [ecat] at O1
      replace O1 := O1.base (lo' := w2.heap.size) (fun k hk => by have := O1.lo k hk; omega)
      have hol0 := O1.len
      simp only [List.length_append, List.length_singleton, S.listS] at hol0
      refine RS.norm (by dsimp only [List.set]) ?_
      refine RS.nil ⟨x34, ?_⟩
      refine RX.assign (v := .slice _ _ _) rfl ?_
      refine RX.nil ?_
      refine hK13 _ _ ?_
      try clear hK13
      refine wp_seq_k (fun K35 hK35 => ?_)
      refine wp_seq_k (fun K36 hK36 => ?_)
      refine region ?_
      refine RS.o (D.fieldL 3 rfl Tryd.underlying32 rfl C28 (by decide) rfl) ?_
      refine RS.o (D.fieldL 3 rfl Tryd.underlying28 rfl C5 (by decide) rfl) ?_
      refine RS.o (D.load rfl Tryd.underlying5 rfl (B2.cell rfl)) ?_
      refine RS.o (D.eq rfl rfl) ?_
      refine RS.nil ?_
      refine hK36 _ _ ?_
      try clear hK36
      refine C.ife rfl (fun c37 => ?_) (fun c37 => ?_)
      · have hk := c37
        refine wp_seq_k (fun K38 hK38 => ?_)
        refine region ?_
        refine RS.move (v := .slice _ _ _) rfl ?_
        refine RS.assign (v := .slice _ _ _) rfl ?_
        refine RS.assign (v := .int .i64 0) rfl ?_
        refine RS.nil ?_
        refine hK38 _ _ ?_
        try clear hK38
        refine wp_ret ?_
        refine ret (rs := [.tmp 2, .tmp 3]) (vs := [.slice _ _ _, .int _ _]) (v := (.tuple #[.slice _ _ _, .int _ _])) rfl ⟨rfl, rfl, trivial⟩ rfl ?_
        have em : S.msgS o = ([111] ++ S.numS o.au ++ S.listS o.n o.ids ++ S.numS o.st ++ [o.k]) := by unfold S.msgS; rw [if_pos hk, List.append_nil]
        exact ⟨_, rfl, hE, _, _, _, _, by rw [hz], O1.base (fun k hk => by have := O1.lo k hk; omega), by rw [if_pos hz, em]⟩
      · have hk := c37
        refine wp_skip ?_
        refine hK35 _ _ ?_
        try clear hK35
        refine wp_seq_k (fun K39 hK39 => ?_)
        refine region ?_
        refine RS.o (D.fieldL 3 rfl Tryd.underlying32 rfl C28 (by decide) rfl) ?_
        refine RS.o (D.fieldL 4 rfl Tryd.underlying28 rfl C9 (by decide) rfl) ?_
        refine RS.o (D.load rfl Tryd.underlying9 rfl (B2.cell rfl)) ?_
        refine RS.convSB rfl Tryd.underlying9 Tryd.underlying35 Tryd.underlying5 (fun a40 c40 w40 x40 g40 s40 R40 => ?_)
        refine RS.norm (by dsimp only [List.set]) ?_
        replace hE := Ext.tr hE x40
        replace D0 := D0.ext x40
        replace B2 := B2.ext x40
        replace O1 := O1.ext x40
        have zw40 := x40.size
        have RT := R40
        refine RS.call E45 (bytesW _ _ _ _ _ RT (by omega)) rfl (fun v41 w41 x41 A41 => ?_)
        replace hE := Ext.tr hE x41
        replace D0 := D0.ext x41
        replace B2 := B2.ext x41
        replace O1 := O1.ext x41
        replace RT := RT.ext x41
        have zw41 := x41.size
        obtain ⟨a41, n41, c41, rfl, O2⟩ := A41
        have hnl := O2.len
        rw [List.length_append, bys_len] at hnl
        refine RS.norm (by dsimp only [List.set]) ?_
        refine RS.move (v := .tuple _) rfl ?_
        refine RS.extract (v := .slice _ _ _) rfl rfl ?_
        refine RS.extract (v := .int _ _) rfl rfl ?_
        refine RS.assign (v := .slice _ _ _) rfl ?_
        refine RS.assign (v := .int _ _) rfl ?_
        refine RS.nil ?_
        refine hK39 _ _ ?_
        try clear hK39
        refine wp_seq_k (fun K42 hK42 => ?_)
        refine region ?_
        refine RS.move (v := .slice _ _ _) rfl ?_
        refine RS.move (v := .slice _ _ _) rfl ?_
        refine RS.appendI O1 O2.row rfl rfl Tryd.underlying35 T5 rfl (by omega) (by decide) (by omega) (fun a43 c43 w43 N43 x43 => ?_)
        refine RS.norm (by dsimp only [List.set]) ?_
        replace hE := hE.trans (x43.below (by intros; try (first | (intro _ _) | (intro _) | skip); first | omega | (have hq := O1.lo _ (by assumption); first | omega | (dsimp only at *; omega))) (by intros; try (first | (intro _ _) | (intro _) | skip); first | omega | (dsimp only at *; omega) | (simp_all; done) | (simp at *; omega)))
        replace D0 := D0.pr x43 (by intros; try (first | (intro _ _) | (intro _) | skip); first | omega | (have hq := O1.lo _ (by assumption); first | omega | (dsimp only at *; omega)))
        replace B2 := B2.pr x43 (by intros; try (first | (intro _ _) | (intro _) | skip); first | omega | (have hq := O1.lo _ (by assumption); first | omega | (dsimp only at *; omega)))
        have zw43 := x43.size
        replace O1 := N43
        refine RS.norm (by dsimp only [List.set]) ?_
        have hol := O1.len
        refine RS.assign (v := .slice _ _ _) rfl ?_
        refine RS.nil ?_
        refine hK42 _ _ ?_
        try clear hK42
        refine wp_seq_k (fun K44 hK44 => ?_)
        refine wp_seq_k (fun K45 hK45 => ?_)
        refine region ?_
        refine RS.o (D.fieldL 3 rfl Tryd.underlying32 rfl C28 (by decide) rfl) ?_
        refine RS.o (D.fieldL 3 rfl Tryd.underlying28 rfl C5 (by decide) rfl) ?_
        refine RS.o (D.load rfl Tryd.underlying5 rfl (B2.cell rfl)) ?_
        refine RS.o (D.eq rfl rfl) ?_
        refine RS.nil ?_
        refine hK45 _ _ ?_
        try clear hK45
        refine C.ife rfl (fun c46 => ?_) (fun c46 => ?_)
        · have hk4 := c46
          refine wp_seq_k (fun K47 hK47 => ?_)
          refine region ?_
          refine RS.o (D.fieldL 3 rfl Tryd.underlying32 rfl C28 (by decide) rfl) ?_
          refine RS.o (D.fieldL 5 rfl Tryd.underlying28 rfl C26 (by decide) rfl) ?_
          refine RS.o (D.loadAgg rfl Tryd.underlying26 rfl C26 (by decide) rfl (B2.cellsN 4 rfl)) ?_
          have hfv : S.FineV o.vk o.num o.bits o.t := by rcases hfa with h | h | h; exact absurd h.1 (by show o.bare.k ≠ 1; show o.k ≠ 1; omega); exact absurd h.1 (by show ¬ (o.k = 2 ∨ o.k = 3); omega); exact h.2.2
          refine RS.call E46 (encV _ _ _ _ o4 o5 o6 hfv (by omega) _) rfl (fun v48 w48 x48 A48 => ?_)
          replace hE := Ext.tr hE x48
          replace D0 := D0.ext x48
          replace B2 := B2.ext x48
          replace O1 := O1.ext x48
          have zw48 := x48.size
          obtain ⟨a48, n48, c48, rfl, O3⟩ := A48
          have hvl := O3.len
          refine RS.norm (by dsimp only [List.set]) ?_
          refine RS.move (v := .tuple _) rfl ?_
          refine RS.extract (v := .slice _ _ _) rfl rfl ?_
          refine RS.extract (v := .int _ _) rfl rfl ?_
          refine RS.assign (v := .slice _ _ _) rfl ?_
          refine RS.assign (v := .int _ _) rfl ?_
          refine RS.nil ?_
          refine hK47 _ _ ?_
          try clear hK47
          refine region ?_
          refine RS.move (v := .slice _ _ _) rfl ?_
          refine RS.move (v := .slice _ _ _) rfl ?_
          refine RS.appendI O1 O3.row rfl rfl Tryd.underlying35 T5 rfl (by omega) (by decide) (by omega) (fun a49 c49 w49 N49 x49 => ?_)
          refine RS.norm (by dsimp only [List.set]) ?_
          replace hE := hE.trans (x49.below (by intros; try (first | (intro _ _) | (intro _) | skip); first | omega | (have hq := O1.lo _ (by assumption); first | omega | (dsimp only at *; omega))) (by intros; try (first | (intro _ _) | (intro _) | skip); first | omega | (dsimp only at *; omega) | (simp_all; done) | (simp at *; omega)))
          replace D0 := D0.pr x49 (by intros; try (first | (intro _ _) | (intro _) | skip); first | omega | (have hq := O1.lo _ (by assumption); first | omega | (dsimp only at *; omega)))
          replace B2 := B2.pr x49 (by intros; try (first | (intro _ _) | (intro _) | skip); first | omega | (have hq := O1.lo _ (by assumption); first | omega | (dsimp only at *; omega)))
          have zw49 := x49.size
          replace O1 := N49
          refine RS.assign (v := .slice _ _ _) rfl ?_
          refine RS.nil ?_
          refine hK44 _ _ ?_
          try clear hK44
          refine wp_seq_k (fun K50 hK50 => ?_)
          refine region ?_
          refine RS.move (v := .slice _ _ _) rfl ?_
          refine RS.assign (v := .slice _ _ _) rfl ?_
          refine RS.assign (v := .int .i64 0) rfl ?_
          refine RS.nil ?_
          refine hK50 _ _ ?_
          try clear hK50
          refine wp_ret ?_
          refine ret (rs := [.tmp 2, .tmp 3]) (vs := [.slice _ _ _, .int _ _]) (v := (.tuple #[.slice _ _ _, .int _ _])) rfl ⟨rfl, rfl, trivial⟩ rfl ?_
          have em : S.msgS o = ([111] ++ S.numS o.au ++ S.listS o.n o.ids ++ S.numS o.st ++ [o.k]) ++ (S.numS o.key.size ++ bys o.key) ++ S.valS o.vk o.num o.bits o.t := by unfold S.msgS; rw [if_neg hk, if_pos hk4, ← List.append_assoc]
          exact ⟨_, rfl, hE, _, _, _, _, by rw [hz], O1.base (fun k hk => by have := O1.lo k hk; omega), by rw [if_pos hz, em]⟩
        · have hk4 := c46
          refine wp_skip ?_
          refine hK44 _ _ ?_
          try clear hK44
          refine wp_seq_k (fun K51 hK51 => ?_)
          refine region ?_
          refine RS.move (v := .slice _ _ _) rfl ?_
          refine RS.assign (v := .slice _ _ _) rfl ?_
          refine RS.assign (v := .int .i64 0) rfl ?_
          refine RS.nil ?_
          refine hK51 _ _ ?_
          try clear hK51
          refine wp_ret ?_
          refine ret (rs := [.tmp 2, .tmp 3]) (vs := [.slice _ _ _, .int _ _]) (v := (.tuple #[.slice _ _ _, .int _ _])) rfl ⟨rfl, rfl, trivial⟩ rfl ?_
          have em : S.msgS o = ([111] ++ S.numS o.au ++ S.listS o.n o.ids ++ S.numS o.st ++ [o.k]) ++ (S.numS o.key.size ++ bys o.key) := by unfold S.msgS; rw [if_neg hk, if_neg hk4, List.append_nil]
          exact ⟨_, rfl, hE, _, _, _, _, by rw [hz], O1.base (fun k hk => by have := O1.lo k hk; omega), by rw [if_pos hz, em]⟩

theorem textOR {S0 : Nat → Prop} (o : S.OpV) (ho : o.ok) (pa : Option Addr) (pc : Nat) (w : World) (D0 : WRow .u8 32 S0 w pa o.n o.ids) (hc : o.n ≤ pc) (h4 : o.n ≤ 4) (hF : o.k = 4 → S.FineV o.vk o.num o.bits o.t) :
    Calls Tryd.prog 48 #[.agg ([.int .u32 o.au, .slice pa o.n pc, .int .u64 o.st, .int .u8 o.k, .string o.key, .int .u8 o.vk, .int .i64 o.num, .int .u64 o.bits, .string o.t, .int .u32 o.e, .int .u32 o.s] : List Value).toArray] w (Ret w fun v w' => ∃ a' n' c', v = .slice a' n' c' ∧ IOwn w.heap.size w' 5 .u8 a' n' c' (S.msgS o)) := by
  replace D0 := D0.weaken (T := fun k => k < w.heap.size) (fun k hk _ => hk)
  have o1 := ho.au
  have o2 := ho.st
  have o3 := ho.k
  have o4 := ho.vk
  have o5 := ho.num
  have o6 := ho.bits
  have o7 := ho.e
  have o8 := ho.s
  have o9 := ho.n
  have o10 := ho.key
  have o11 := ho.t
  have e1 := S.numS_len o.au
  have e2 := S.numS_len o.st
  have e3 := S.numS_len (o.n : Int)
  have e4 := D0.len
  have e5 := S.numS_len (o.key.size : Int)
  have e6 := S.valS_len o.vk o.num o.bits o.t o11
  have e7 := S.numS_len o.e
  have e8 := S.numS_len o.s
  have hE := Ext.refl w
  refine enter (args := [.agg ([.int .u32 o.au, .slice pa o.n pc, .int .u64 o.st, .int .u8 o.k, .string o.key, .int .u8 o.vk, .int .i64 o.num, .int .u64 o.bits, .string o.t, .int .u32 o.e, .int .u32 o.s] : List Value).toArray]) (l := [.agg ([.int .u32 o.au, .slice pa o.n pc, .int .u64 o.st, .int .u8 o.k, .string o.key, .int .u8 o.vk, .int .i64 o.num, .int .u64 o.bits, .string o.t, .int .u32 o.e, .int .u32 o.s] : List Value).toArray, undef, undef, undef, undef, undef, undef, undef, undef, undef, undef, undef, undef, undef, undef, undef, undef, undef, undef, undef, undef, undef, undef, undef, undef, undef, undef, undef, undef, undef, undef, undef, undef, undef, undef, undef, undef, undef, undef, undef, undef, undef, undef, undef, undef, undef, undef]) Tryd.func48 rfl rfl ?_
  refine wp_seq_k (fun K1 hK1 => ?_)
  refine region ?_
  refine RS.box rfl rfl (fun b2 w2 e2 s2 x2 B2 => ?_)
  refine RS.norm (by dsimp only [List.set]) ?_
  replace hE := Ext.tr hE x2
  replace D0 := D0.ext x2
  have zw2 := x2.size
  refine RS.assign (v := .slice none 0 0) rfl ?_
  refine RS.nil ?_
  refine hK1 _ _ ?_
  try clear hK1
  refine wp_seq_k (fun K3 hK3 => ?_)
  refine region ?_
  refine RS.buildSlice (xs := [.const (.int .u8 111)]) (vs := [.int _ _]) (cs := [.int _ _]) Tryd.underlying35 T5 (by decide) rfl rfl rfl rfl rfl rfl (by intro v hv; simp only [List.mem_cons, List.not_mem_nil, or_false] at hv; subst hv; rfl) rfl (fun b4 w4 e4 s4 x4 B4 => ?_)
  refine RS.norm (by dsimp only [List.set]) ?_
  replace hE := Ext.tr hE x4
  replace D0 := D0.ext x4
  replace B2 := B2.ext x4
  have zw4 := x4.size
  have O1 : IOwn w2.heap.size w4 5 .u8 (some ⟨b4, 0, none⟩) 1 1 [_] := IOwn.of_blk B4 rfl rfl (by omega) (.cons (by simp only [lim]; omega) (.nil _)) (by decide)
  refine RS.o (D.fieldL 0 rfl Tryd.underlying32 rfl C22 (by decide) rfl) ?_
  refine RS.o (D.load rfl Tryd.underlying22 rfl (B2.cell rfl)) ?_
  refine RS.o (D.conv rfl Tryd.underlying22 Tryd.underlying24 (W.u64 (by omega))) ?_
  refine RS.call E83 (numR _ (by omega) _) rfl (fun v5 w5 x5 A5 => ?_)
  replace hE := Ext.tr hE x5
  replace D0 := D0.ext x5
  replace B2 := B2.ext x5
  replace O1 := O1.ext x5
  have zw5 := x5.size
  obtain ⟨a5, n5, c5, rfl, O2⟩ := A5
  have h2l := O2.len
  refine RS.norm (by dsimp only [List.set]) ?_
  refine RS.appendI O1 O2.row rfl rfl Tryd.underlying35 T5 rfl (by omega) (by decide) (by omega) (fun a6 c6 w6 N6 x6 => ?_)
  refine RS.norm (by dsimp only [List.set]) ?_
  replace hE := hE.trans (x6.below (by intros; try (first | (intro _ _) | (intro _) | skip); first | omega | (have hq := O1.lo _ (by assumption); first | omega | (dsimp only at *; omega))) (by intros; try (first | (intro _ _) | (intro _) | skip); first | omega | (dsimp only at *; omega) | (simp_all; done) | (simp at *; omega)))
  replace D0 := D0.pr x6 (by intros; try (first | (intro _ _) | (intro _) | skip); first | omega | (have hq := O1.lo _ (by assumption); first | omega | (dsimp only at *; omega)))
  replace B2 := B2.pr x6 (by intros; try (first | (intro _ _) | (intro _) | skip); first | omega | (have hq := O1.lo _ (by assumption); first | omega | (dsimp only at *; omega)))
  have zw6 := x6.size
  replace O1 := N6
  refine RS.norm (by dsimp only [List.set]) ?_
  have hl1 := O1.len
  refine RS.assign (v := .slice _ _ _) rfl ?_
  refine RS.nil ?_
  refine hK3 _ _ ?_
  try clear hK3
  refine wp_seq_k (fun K7 hK7 => ?_)
  refine regionX (Below w2.heap.size) [(0, .q), (1, .q), (2, .q), (5, .q), (6, .q), (3, .e), (4, .e), (7, .e), (8, .g), (9, .q)] mixed (fun w => Below.refl _ _) (fun h k => Below.trans h k) (by kernel_rfl) (fun w8 x8 => ?_)
  replace hE := Ext.tr hE x8
  replace D0 := D0.ext x8
  replace B2 := B2.ext x8
  replace O1 := O1.ext x8
  have zw8 := x8.size
  refine RX.move (v := .slice _ _ _) rfl ?_
  refine RX.o (fun w' hw => D.fieldL 1 rfl Tryd.underlying32 rfl C23 (by decide) rfl) ?_
  refine RX.o (fun w' hw => D.load rfl Tryd.underlying23 rfl ((B2.bel hw (by omega)).cell rfl)) ?_
  refine RX.o (fun w' hw => D.fieldL 2 rfl Tryd.underlying32 rfl C24 (by decide) rfl) ?_
  refine RX.o (fun w' hw => D.load rfl Tryd.underlying24 rfl ((B2.bel hw (by omega)).cell rfl)) ?_
  refine RX.eff ?_
  refine RS.call E84 (listR _ _ _ _ _ D0 hc (by omega)) rfl (fun v9 w9 x9 A9 => ?_)
  replace hE := Ext.tr hE x9
  replace D0 := D0.ext x9
  replace B2 := B2.ext x9
  replace O1 := O1.ext x9
  have zw9 := x9.size
  obtain ⟨a9, n9, c9, rfl, O2⟩ := A9
  have h2l := O2.len
  rw [S.listS, List.length_append] at h2l
  refine RS.norm (by dsimp only [List.set]) ?_
  refine RS.nil ⟨(x9.mono (by omega)), ?_⟩
  refine RX.eff ?_
  refine RS.appendI O1 O2.row rfl rfl Tryd.underlying35 T5 rfl (by omega) (by decide) (by omega) (fun a10 c10 w10 N10 x10 => ?_)
  refine RS.norm (by dsimp only [List.set]) ?_
  replace hE := hE.trans (x10.below (by intros; try (first | (intro _ _) | (intro _) | skip); first | omega | (have hq := O1.lo _ (by assumption); first | omega | (dsimp only at *; omega))) (by intros; try (first | (intro _ _) | (intro _) | skip); first | omega | (dsimp only at *; omega) | (simp_all; done) | (simp at *; omega)))
  replace D0 := D0.pr x10 (by intros; try (first | (intro _ _) | (intro _) | skip); first | omega | (have hq := O1.lo _ (by assumption); first | omega | (dsimp only at *; omega)))
  replace B2 := B2.pr x10 (by intros; try (first | (intro _ _) | (intro _) | skip); first | omega | (have hq := O1.lo _ (by assumption); first | omega | (dsimp only at *; omega)))
  have zw10 := x10.size
  have lr10 : Below w2.heap.size w9 w10 := x10.below (by intros; try (first | (intro _ _) | (intro _) | skip); first | omega | (have hq := O1.own.lo _ (by assumption); first | omega | (dsimp only at *; omega))) (by intros; try (first | (intro _ _) | (intro _) | skip); first | omega | (dsimp only at *; omega) | (simp_all; done) | (simp at *; omega))
  replace O1 := N10
  refine RS.norm (by dsimp only [List.set]) ?_
  have hl2 := O1.len
  refine RS.nil ⟨(lr10), ?_⟩
  refine RX.eff ?_
  refine RS.call E83 (numR _ (by omega) _) rfl (fun v11 w11 x11 A11 => ?_)
  replace hE := Ext.tr hE x11
  replace D0 := D0.ext x11
  replace B2 := B2.ext x11
  replace O1 := O1.ext x11
  have zw11 := x11.size
  obtain ⟨a11, n11, c11, rfl, O2⟩ := A11
  have h2l := O2.len
  refine RS.norm (by dsimp only [List.set]) ?_
  refine RS.nil ⟨(x11.mono (by omega)), ?_⟩
  refine RX.big ?_
  refine RS.appendI O1 O2.row rfl rfl Tryd.underlying35 T5 rfl (by omega) (by decide) (by omega) (fun a12 c12 w12 N12 x12 => ?_)
  refine RS.norm (by dsimp only [List.set]) ?_
  replace hE := hE.trans (x12.below (by intros; try (first | (intro _ _) | (intro _) | skip); first | omega | (have hq := O1.lo _ (by assumption); first | omega | (dsimp only at *; omega))) (by intros; try (first | (intro _ _) | (intro _) | skip); first | omega | (dsimp only at *; omega) | (simp_all; done) | (simp at *; omega)))
  replace D0 := D0.pr x12 (by intros; try (first | (intro _ _) | (intro _) | skip); first | omega | (have hq := O1.lo _ (by assumption); first | omega | (dsimp only at *; omega)))
  replace B2 := B2.pr x12 (by intros; try (first | (intro _ _) | (intro _) | skip); first | omega | (have hq := O1.lo _ (by assumption); first | omega | (dsimp only at *; omega)))
  have zw12 := x12.size
  have lr12 : Below w2.heap.size w11 w12 := x12.below (by intros; try (first | (intro _ _) | (intro _) | skip); first | omega | (have hq := O1.own.lo _ (by assumption); first | omega | (dsimp only at *; omega))) (by intros; try (first | (intro _ _) | (intro _) | skip); first | omega | (dsimp only at *; omega) | (simp_all; done) | (simp at *; omega))
  replace O1 := N12
  refine RS.norm (by dsimp only [List.set]) ?_
  have hl3 := O1.len
  refine RS.nil ?_
  refine RX.assign (v := .slice _ _ _) rfl ?_
  refine RX.nil ?_
  refine hK7 _ _ ?_
  try clear hK7
  refine wp_seq_k (fun K13 hK13 => ?_)
  refine region ?_
  refine RS.move (v := .slice _ _ _) rfl ?_
  refine RS.o (D.fieldL 3 rfl Tryd.underlying32 rfl C28 (by decide) rfl) ?_
  refine RS.o (D.fieldL 3 rfl Tryd.underlying28 rfl C5 (by decide) rfl) ?_
  refine RS.o (D.load rfl Tryd.underlying5 rfl (B2.cell rfl)) ?_
  refine RS.buildSlice (xs := [.tmp 22]) (vs := [.int _ _]) (cs := [.int _ _]) Tryd.underlying35 T5 (by decide) rfl rfl rfl rfl rfl rfl (by intro v hv; simp only [List.mem_cons, List.not_mem_nil, or_false] at hv; subst hv; rfl) rfl (fun b14 w14 e14 s14 x14 B14 => ?_)
  refine RS.norm (by dsimp only [List.set]) ?_
  replace hE := Ext.tr hE x14
  replace D0 := D0.ext x14
  replace B2 := B2.ext x14
  replace O1 := O1.ext x14
  have zw14 := x14.size
  have Q1 : IRow .u8 (fun k => k = b14) w14 (some ⟨b14, 0, none⟩) 1 [_] := IRow.of_blk B14 rfl rfl rfl (.cons (by simp only [lim]; omega) (.nil _))
  refine RS.appendI O1 Q1 rfl rfl Tryd.underlying35 T5 rfl (by omega) (by decide) (by omega) (fun a15 c15 w15 N15 x15 => ?_)
  refine RS.norm (by dsimp only [List.set]) ?_
  replace hE := hE.trans (x15.below (by intros; try (first | (intro _ _) | (intro _) | skip); first | omega | (have hq := O1.lo _ (by assumption); first | omega | (dsimp only at *; omega))) (by intros; try (first | (intro _ _) | (intro _) | skip); first | omega | (dsimp only at *; omega) | (simp_all; done) | (simp at *; omega)))
  replace D0 := D0.pr x15 (by intros; try (first | (intro _ _) | (intro _) | skip); first | omega | (have hq := O1.lo _ (by assumption); first | omega | (dsimp only at *; omega)))
  replace B2 := B2.pr x15 (by intros; try (first | (intro _ _) | (intro _) | skip); first | omega | (have hq := O1.lo _ (by assumption); first | omega | (dsimp only at *; omega)))
  have zw15 := x15.size
  have lr15 : Below w2.heap.size w14 w15 := x15.below (by intros; try (first | (intro _ _) | (intro _) | skip); first | omega | (have hq := O1.own.lo _ (by assumption); first | omega | (dsimp only at *; omega))) (by intros; try (first | (intro _ _) | (intro _) | skip); first | omega | (dsimp only at *; omega) | (simp_all; done) | (simp at *; omega))
  replace O1 := N15
  refine RS.norm (by dsimp only [List.set]) ?_
  have hl4 := O1.len
  refine RS.assign (v := .slice _ _ _) rfl ?_
  refine RS.nil ?_
  refine hK13 _ _ ?_
  try clear hK13
  refine wp_seq_k (fun K16 hK16 => ?_)
  refine wp_seq_k (fun K17 hK17 => ?_)
  refine region ?_
  refine RS.o (D.fieldL 3 rfl Tryd.underlying32 rfl C28 (by decide) rfl) ?_
  refine RS.o (D.fieldL 3 rfl Tryd.underlying28 rfl C5 (by decide) rfl) ?_
  refine RS.o (D.load rfl Tryd.underlying5 rfl (B2.cell rfl)) ?_
  refine RS.o (D.ne rfl rfl) ?_
  refine RS.nil ?_
  refine hK17 _ _ ?_
  try clear hK17
  refine C.ifn rfl (fun c18 => ?_) (fun c18 => ?_)
  · have hk := c18
    refine region ?_
    refine RS.move (v := .slice _ _ _) rfl ?_
    refine RS.o (D.fieldL 3 rfl Tryd.underlying32 rfl C28 (by decide) rfl) ?_
    refine RS.o (D.fieldL 4 rfl Tryd.underlying28 rfl C9 (by decide) rfl) ?_
    refine RS.o (D.load rfl Tryd.underlying9 rfl (B2.cell rfl)) ?_
    refine RS.convSB rfl Tryd.underlying9 Tryd.underlying35 Tryd.underlying5 (fun a19 c19 w19 x19 g19 s19 R19 => ?_)
    refine RS.norm (by dsimp only [List.set]) ?_
    replace hE := Ext.tr hE x19
    replace D0 := D0.ext x19
    replace B2 := B2.ext x19
    replace O1 := O1.ext x19
    have zw19 := x19.size
    have RT := R19
    refine RS.call E85 (textR _ _ _ _ _ RT (by omega)) rfl (fun v20 w20 x20 A20 => ?_)
    replace hE := Ext.tr hE x20
    replace D0 := D0.ext x20
    replace B2 := B2.ext x20
    replace O1 := O1.ext x20
    replace RT := RT.ext x20
    have zw20 := x20.size
    obtain ⟨a20, n20, c20, rfl, O2⟩ := A20
    have h2l := O2.len
    rw [List.length_append, bys_len] at h2l
    refine RS.norm (by dsimp only [List.set]) ?_
    refine RS.appendI O1 O2.row rfl rfl Tryd.underlying35 T5 rfl (by omega) (by decide) (by omega) (fun a21 c21 w21 N21 x21 => ?_)
    refine RS.norm (by dsimp only [List.set]) ?_
    replace hE := hE.trans (x21.below (by intros; try (first | (intro _ _) | (intro _) | skip); first | omega | (have hq := O1.lo _ (by assumption); first | omega | (dsimp only at *; omega))) (by intros; try (first | (intro _ _) | (intro _) | skip); first | omega | (dsimp only at *; omega) | (simp_all; done) | (simp at *; omega)))
    replace D0 := D0.pr x21 (by intros; try (first | (intro _ _) | (intro _) | skip); first | omega | (have hq := O1.lo _ (by assumption); first | omega | (dsimp only at *; omega)))
    replace B2 := B2.pr x21 (by intros; try (first | (intro _ _) | (intro _) | skip); first | omega | (have hq := O1.lo _ (by assumption); first | omega | (dsimp only at *; omega)))
    have zw21 := x21.size
    have lr21 : Below w2.heap.size w20 w21 := x21.below (by intros; try (first | (intro _ _) | (intro _) | skip); first | omega | (have hq := O1.own.lo _ (by assumption); first | omega | (dsimp only at *; omega))) (by intros; try (first | (intro _ _) | (intro _) | skip); first | omega | (dsimp only at *; omega) | (simp_all; done) | (simp at *; omega))
    replace O1 := N21
    refine RS.norm (by dsimp only [List.set]) ?_
    have hl5 := O1.len
    refine RS.assign (v := .slice _ _ _) rfl ?_
    refine RS.nil ?_
    refine hK16 _ _ ?_
    try clear hK16
    refine wp_seq_k (fun K22 hK22 => ?_)
    refine wp_seq_k (fun K23 hK23 => ?_)
    refine region ?_
    refine RS.o (D.fieldL 3 rfl Tryd.underlying32 rfl C28 (by decide) rfl) ?_
    refine RS.o (D.fieldL 3 rfl Tryd.underlying28 rfl C5 (by decide) rfl) ?_
    refine RS.o (D.load rfl Tryd.underlying5 rfl (B2.cell rfl)) ?_
    refine RS.o (D.eq rfl rfl) ?_
    refine RS.nil ?_
    refine hK23 _ _ ?_
    try clear hK23
    refine C.ife rfl (fun c24 => ?_) (fun c24 => ?_)
    · have hk4 := c24
      refine region ?_
      refine RS.move (v := .slice _ _ _) rfl ?_
      refine RS.o (D.fieldL 3 rfl Tryd.underlying32 rfl C28 (by decide) rfl) ?_
      refine RS.o (D.fieldL 5 rfl Tryd.underlying28 rfl C26 (by decide) rfl) ?_
      refine RS.o (D.loadAgg rfl Tryd.underlying26 rfl C26 (by decide) rfl (B2.cellsN 4 rfl)) ?_
      refine RS.call E86 (valBytesR _ _ _ _ o4 o5 o6 (hF hk4) (by omega) _) rfl (fun v25 w25 x25 A25 => ?_)
      replace hE := Ext.tr hE x25
      replace D0 := D0.ext x25
      replace B2 := B2.ext x25
      replace O1 := O1.ext x25
      have zw25 := x25.size
      obtain ⟨a25, n25, c25, rfl, O2⟩ := A25
      have h2l := O2.len
      refine RS.norm (by dsimp only [List.set]) ?_
      refine RS.appendI O1 O2.row rfl rfl Tryd.underlying35 T5 rfl (by omega) (by decide) (by omega) (fun a26 c26 w26 N26 x26 => ?_)
      refine RS.norm (by dsimp only [List.set]) ?_
      replace hE := hE.trans (x26.below (by intros; try (first | (intro _ _) | (intro _) | skip); first | omega | (have hq := O1.lo _ (by assumption); first | omega | (dsimp only at *; omega))) (by intros; try (first | (intro _ _) | (intro _) | skip); first | omega | (dsimp only at *; omega) | (simp_all; done) | (simp at *; omega)))
      replace D0 := D0.pr x26 (by intros; try (first | (intro _ _) | (intro _) | skip); first | omega | (have hq := O1.lo _ (by assumption); first | omega | (dsimp only at *; omega)))
      replace B2 := B2.pr x26 (by intros; try (first | (intro _ _) | (intro _) | skip); first | omega | (have hq := O1.lo _ (by assumption); first | omega | (dsimp only at *; omega)))
      have zw26 := x26.size
      have lr26 : Below w2.heap.size w25 w26 := x26.below (by intros; try (first | (intro _ _) | (intro _) | skip); first | omega | (have hq := O1.own.lo _ (by assumption); first | omega | (dsimp only at *; omega))) (by intros; try (first | (intro _ _) | (intro _) | skip); first | omega | (dsimp only at *; omega) | (simp_all; done) | (simp at *; omega))
      replace O1 := N26
      refine RS.assign (v := .slice _ _ _) rfl ?_
      refine RS.nil ?_
      refine hK22 _ _ ?_
      try clear hK22
      refine wp_seq_k (fun K27 hK27 => ?_)
      refine region ?_
      refine RS.move (v := .slice _ _ _) rfl ?_
      refine RS.assign (v := .slice _ _ _) rfl ?_
      refine RS.nil ?_
      refine hK27 _ _ ?_
      try clear hK27
      refine wp_ret ?_
      refine ret (rs := [.tmp 2]) (vs := [.slice _ _ _]) (v := (.slice _ _ _)) rfl ⟨rfl, trivial⟩ rfl ?_
      have em : S.msgS o = ([111] ++ S.numS o.au ++ S.listS o.n o.ids ++ S.numS o.st ++ [o.k]) ++ (S.numS o.key.size ++ bys o.key) ++ S.valS o.vk o.num o.bits o.t := by unfold S.msgS; rw [if_neg hk, if_pos hk4, ← List.append_assoc]
      rw [em]
      exact ⟨_, rfl, hE, _, _, _, rfl, O1.base (fun k hk => by have := O1.lo k hk; omega)⟩
    · have hk4 := c24
      refine wp_skip ?_
      refine hK22 _ _ ?_
      try clear hK22
      refine wp_seq_k (fun K28 hK28 => ?_)
      refine region ?_
      refine RS.move (v := .slice _ _ _) rfl ?_
      refine RS.assign (v := .slice _ _ _) rfl ?_
      refine RS.nil ?_
      refine hK28 _ _ ?_
      try clear hK28
      refine wp_ret ?_
      refine ret (rs := [.tmp 2]) (vs := [.slice _ _ _]) (v := (.slice _ _ _)) rfl ⟨rfl, trivial⟩ rfl ?_
      have em : S.msgS o = ([111] ++ S.numS o.au ++ S.listS o.n o.ids ++ S.numS o.st ++ [o.k]) ++ (S.numS o.key.size ++ bys o.key) := by unfold S.msgS; rw [if_neg hk, if_neg hk4, List.append_nil]
      rw [em]
      exact ⟨_, rfl, hE, _, _, _, rfl, O1.base (fun k hk => by have := O1.lo k hk; omega)⟩
  · have hk := c18
    refine wp_skip ?_
    refine hK16 _ _ ?_
    try clear hK16
    refine wp_seq_k (fun K29 hK29 => ?_)
    refine wp_seq_k (fun K30 hK30 => ?_)
    refine region ?_
    refine RS.o (D.fieldL 3 rfl Tryd.underlying32 rfl C28 (by decide) rfl) ?_
    refine RS.o (D.fieldL 3 rfl Tryd.underlying28 rfl C5 (by decide) rfl) ?_
    refine RS.o (D.load rfl Tryd.underlying5 rfl (B2.cell rfl)) ?_
    refine RS.o (D.eq rfl rfl) ?_
    refine RS.nil ?_
    refine hK30 _ _ ?_
    try clear hK30
    refine C.ife rfl (fun c31 => ?_) (fun c31 => ?_)
    · have hk4 := c31
      refine region ?_
      refine RS.move (v := .slice _ _ _) rfl ?_
      refine RS.o (D.fieldL 3 rfl Tryd.underlying32 rfl C28 (by decide) rfl) ?_
      refine RS.o (D.fieldL 5 rfl Tryd.underlying28 rfl C26 (by decide) rfl) ?_
      refine RS.o (D.loadAgg rfl Tryd.underlying26 rfl C26 (by decide) rfl (B2.cellsN 4 rfl)) ?_
      refine RS.call E86 (valBytesR _ _ _ _ o4 o5 o6 (hF hk4) (by omega) _) rfl (fun v32 w32 x32 A32 => ?_)
      replace hE := Ext.tr hE x32
      replace D0 := D0.ext x32
      replace B2 := B2.ext x32
      replace O1 := O1.ext x32
      have zw32 := x32.size
      obtain ⟨a32, n32, c32, rfl, O2⟩ := A32
      have h2l := O2.len
      refine RS.norm (by dsimp only [List.set]) ?_
      refine RS.appendI O1 O2.row rfl rfl Tryd.underlying35 T5 rfl (by omega) (by decide) (by omega) (fun a33 c33 w33 N33 x33 => ?_)
      refine RS.norm (by dsimp only [List.set]) ?_
      replace hE := hE.trans (x33.below (by intros; try (first | (intro _ _) | (intro _) | skip); first | omega | (have hq := O1.lo _ (by assumption); first | omega | (dsimp only at *; omega))) (by intros; try (first | (intro _ _) | (intro _) | skip); first | omega | (dsimp only at *; omega) | (simp_all; done) | (simp at *; omega)))
      replace D0 := D0.pr x33 (by intros; try (first | (intro _ _) | (intro _) | skip); first | omega | (have hq := O1.lo _ (by assumption); first | omega | (dsimp only at *; omega)))
      replace B2 := B2.pr x33 (by intros; try (first | (intro _ _) | (intro _) | skip); first | omega | (have hq := O1.lo _ (by assumption); first | omega | (dsimp only at *; omega)))
      have zw33 := x33.size
      have lr33 : Below w2.heap.size w32 w33 := x33.below (by intros; try (first | (intro _ _) | (intro _) | skip); first | omega | (have hq := O1.own.lo _ (by assumption); first | omega | (dsimp only at *; omega))) (by intros; try (first | (intro _ _) | (intro _) | skip); first | omega | (dsimp only at *; omega) | (simp_all; done) | (simp at *; omega))
      replace O1 := N33
      refine RS.assign (v := .slice _ _ _) rfl ?_
      refine RS.nil ?_
      refine hK29 _ _ ?_
      try clear hK29
      refine wp_seq_k (fun K34 hK34 => ?_)
      refine region ?_
      refine RS.move (v := .slice _ _ _) rfl ?_
      refine RS.assign (v := .slice _ _ _) rfl ?_
      refine RS.nil ?_
      refine hK34 _ _ ?_
      try clear hK34
      refine wp_ret ?_
      refine ret (rs := [.tmp 2]) (vs := [.slice _ _ _]) (v := (.slice _ _ _)) rfl ⟨rfl, trivial⟩ rfl ?_
      exfalso; omega
    · have hk4 := c31
      refine wp_skip ?_
      refine hK29 _ _ ?_
      try clear hK29
      refine wp_seq_k (fun K35 hK35 => ?_)
      refine region ?_
      refine RS.move (v := .slice _ _ _) rfl ?_
      refine RS.assign (v := .slice _ _ _) rfl ?_
      refine RS.nil ?_
      refine hK35 _ _ ?_
      try clear hK35
      refine wp_ret ?_
      refine ret (rs := [.tmp 2]) (vs := [.slice _ _ _]) (v := (.slice _ _ _)) rfl ⟨rfl, trivial⟩ rfl ?_
      have em : S.msgS o = ([111] ++ S.numS o.au ++ S.listS o.n o.ids ++ S.numS o.st ++ [o.k]) := by unfold S.msgS; rw [if_pos hk, List.append_nil]
      rw [em]
      exact ⟨_, rfl, hE, _, _, _, rfl, O1.base (fun k hk => by have := O1.lo k hk; omega)⟩

end Go.Proofs.YtiohpiiiapjblaaDoor.W
