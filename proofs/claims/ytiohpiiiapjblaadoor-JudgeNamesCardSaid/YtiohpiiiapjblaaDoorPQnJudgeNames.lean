/-
  JudgeNames: the examples of the chapter, the order of verdicts, limits and errors. Condition: the table digest.constants is as its initialiser lays it (tied by the card).
-/
import Derived.Test.YtiohpiiiapjblaaDoorPQn9
namespace Go.Proofs.YtiohpiiiapjblaaDoor.G
open Go.RowKit
theorem made_nil (m : Nat) : (madeCells [Value.slice none 0 0].toArray m).toList = (List.replicate m (default : Pc)).map Pc.val := by
  apply List.ext_getElem
  · simp [madeCells]
  intro i h1 h2
  simp [madeCells, Nat.mod_one]
  rfl
theorem PRow.nils {w : World} {b m : Nat} {e : TypeId} {S : Nat → Prop} (B : Blk w b ((List.replicate m (default : Pc)).map Pc.val) e) (hs : S b) : PRow .u8 S w (some ⟨b, 0, none⟩) m (List.replicate m (default : Pc)) :=
  PRow.of_blk B hs rfl (by simp) (fun p hp => by obtain rfl := (List.mem_replicate.1 hp).2; exact ⟨IRow.nil, Nat.le_refl _⟩)
theorem fill_ints (k : IntKind) : ∀ (ps : List (Nat × Int)) (zs : List Int), (∀ p ∈ ps, p.1 < zs.length) → Instr.fill (fun i => some (i * 1, 1)) (ints k zs).toArray (ps.map fun p => (p.1, Value.int k p.2)) = some (ints k (ps.foldl (fun z p => z.set p.1 p.2) zs)).toArray
  | [], zs, _ => rfl
  | p :: ps, zs, h => by
    have hp := h p List.mem_cons_self
    have ih := fill_ints k ps (zs.set p.1 p.2) (fun q hq => by rw [List.length_set]; exact h q (List.mem_cons_of_mem _ hq))
    have e : (ints k zs).toArray.setIfInBounds p.1 (Value.int k p.2) = (ints k (zs.set p.1 p.2)).toArray := by rw [← ints_set]; simp
    have hl : ¬ zs.length < p.1 + 1 := by omega
    simp only [Nat.mul_one] at ih ⊢
    rw [List.map_cons, List.foldl_cons]
    simp [Instr.fill, Value.cells, ints_length, e, hl, ih]
section
variable {P : Program} {l : List Value} {w : World} {dd : Option Tmp} {g : Option (Nat × Bool)} {ty : TypeId} {pos : String} {af : Array Edge}
theorem D.buildI {t e n sz by_ : Nat} {k : IntKind} {parts : Array (Nat × Operand)} {zs : List Int} {ps : List (Nat × Int)} (hu : P.underlying t = some (.array n e)) (ht : TI P t sz by_ (ints k zs)) (hs : P.cellsOf e = 1) (hv : parts.toList.map (fun p => (p.1, ev l p.2)) = ps.map fun p => (p.1, Value.int k p.2)) (hb : ∀ p ∈ ps, p.1 < zs.length) :
    (execOp (ev l) ⟨dd, .build t parts, ty, pos, af, g⟩).run P w = .ok (.value (.agg (ints k (ps.foldl (fun z p => z.set p.1 p.2) zs)).toArray)) w := by
  obtain ⟨i, v', i1, i2, i3, i4, i5⟩ := ht
  have hz1 : (zeroValue t).run P w = .ok v' w := by simp [zeroValue, typeInfo, i1, i4]
  have hf := fill_ints k ps zs hb
  have e2 : (Array.map (fun x => (x.fst, ev l x.snd)) parts).toList = ps.map fun p => (p.1, Value.int k p.2) := by rw [Array.toList_map, hv]
  simp only [execOp, Instr.build, Sem.run_bind, hz1, Result.andThen, run_underlying hu, size_run hs (by decide)]
  rw [i5, e2, hf]
  rfl
end
end Go.Proofs.YtiohpiiiapjblaaDoor.G
namespace Go.Proofs.YtiohpiiiapjblaaDoor.S
open G
theorem jd_zeros {n : Nat} (h : n ≤ 400) : jdV (List.replicate n 0) = 2 := by
  refine jd_form (by simp; omega) ?_
  have hd : decS (List.replicate n 0) = none := by
    cases n with
    | zero => rfl
    | succ n => exact dec_f0 (.inr (by rw [List.replicate_succ]; show (0 : Int) ≠ 111; decide))
  rw [(dec_none hd).2]
  decide
theorem cnt60 : cntS ((List.replicate 60 (default : Pc)).map fun p => jdV p.xs) = [0, 0, 60, 0, 0, 0, 0, 0, 0, 0] := by
  have e : ((List.replicate 60 (default : Pc)).map fun p => jdV p.xs) = List.replicate 60 2 := by rw [List.map_replicate]; rfl
  rw [e]
  decide +kernel
theorem cnt6 : cntS [0, 2, 2, 3, 4, 0] = [2, 0, 2, 1, 1, 0, 0, 0, 0, 0] := by decide +kernel
theorem ex_zero : jdO [111, 4, 0, 7, 1, 0, 0] = OpV.zero ∧ jdI [111, 4, 0, 7, 1, 0, 0] = List.replicate 32 0 := jd_ne (by rw [jd_ex]; decide)
end Go.Proofs.YtiohpiiiapjblaaDoor.S
namespace Go.Proofs.YtiohpiiiapjblaaDoor.W
open Go.RowKit Go.Proofs.YtiohpiiiapjblaaDoor.G
set_option linter.unusedVariables false
set_option maxRecDepth 20000
set_option maxHeartbeats 8000000
attribute [local irreducible] RS RX
theorem E30 : Enters Tryd.prog 30 := .mk Tryd.func30 (by kernel_rfl) rfl
theorem E33 : Enters Tryd.prog 33 := .mk Tryd.func33 (by kernel_rfl) rfl
theorem E38 : Enters Tryd.prog 38 := .mk Tryd.func38 (by kernel_rfl) rfl
theorem judgeNames (TK : TypeId) (w : World) (K0 : Kst w TK) :
  Calls Tryd.prog 8 #[] w (Ret w fun v _ => v = .bool true) := by
 have hKl := K0.lt
 obtain ⟨u1, u2, u3⟩ := S.sgn_fine (x := 5) (by decide)
 obtain ⟨y1, y2, y3⟩ := S.sgn_fine (x := 6) (by decide)
 have hE := Ext.refl w
 refine enterU 127 Tryd.func8 rfl rfl ?_
 refine sq fun K1 hK1 => ?_
 refine RS.asB rfl ?_
 refine nl hK1 ?_
 refine sq fun K2 hK2 => ?_
 refine RS.make rfl rfl Tryd.underlying70 T35 (by omega) (by omega) (by omega) (fun b3 w3 e3 s3 x3 B3 => ?_)
 refine RS.nm ?_
 replace hE := Ext.tr hE x3
 replace K0 := K0.ext x3
 have zw3 := x3.size
 rw [show (61 : Int).toNat * 1 = 61 from rfl, made_nil] at B3
 have PN := PRow.nils (S := fun k => b3 ≤ k ∧ k < w3.heap.size) B3 (by constructor <;> omega)
 refine RS.call E37 (judgeMany _ _ _ _ _ _ K0 PN (by decide) (fun p hp => by obtain rfl := (List.mem_replicate.1 hp).2; exact Nat.zero_le _)) rfl (fun v4 w4 x4 A4 => ?_)
 replace hE := Ext.tr hE x4
 replace K0 := K0.ext x4
 replace PN := PN.ext x4
 have zw4 := x4.size
 obtain ⟨a4, n4, c4, rfl, O4⟩ := A4
 rw [if_pos (show 60 < 61 by decide)]
 refine RS.nm ?_
 refine RS.move (v := .tuple _) rfl ?_
 refine RS.extract (v := .slice _ _ _) rfl rfl ?_
 refine RS.extract (v := .int _ _) rfl rfl ?_
 refine RS.asS rfl ?_
 refine RS.asI rfl ?_
 refine nl hK2 ?_
 refine sq fun K5 hK5 => ?_
 refine RS.make rfl rfl Tryd.underlying70 T35 (by omega) (by omega) (by omega) (fun b6 w6 e6 s6 x6 B6 => ?_)
 refine RS.nm ?_
 replace hE := Ext.tr hE x6
 replace K0 := K0.ext x6
 have zw6 := x6.size
 rw [show (61 : Int).toNat * 1 = 61 from rfl, made_nil] at B6
 have PN := PRow.nils (S := fun k => b6 ≤ k ∧ k < w6.heap.size) B6 (by constructor <;> omega)
 refine RS.call E38 (judgeCount _ _ _ _ _ _ K0 PN (by decide) (fun p hp => by obtain rfl := (List.mem_replicate.1 hp).2; exact Nat.zero_le _)) rfl (fun v7 w7 x7 A7 => ?_)
 replace hE := Ext.tr hE x7
 replace K0 := K0.ext x7
 replace PN := PN.ext x7
 have zw7 := x7.size
 subst A7
 rw [if_pos (show 60 < 61 by decide), if_pos (show 60 < 61 by decide)]
 refine RS.nm ?_
 refine RS.move (v := .tuple _) rfl ?_
 refine RS.extract (v := .agg _) rfl rfl ?_
 refine RS.extract (v := .int _ _) rfl rfl ?_
 refine RS.alloc T71 (fun b8 w8 e8 s8 x8 B8 => ?_)
 refine RS.nm ?_
 replace hE := Ext.tr hE x8
 replace K0 := K0.ext x8
 have zw8 := x8.size
 have A8 : IArr .i64 w8 b8 10 (List.replicate 10 0) [] 71 := IArr.zero B8
 clear B8
 refine RS.storeArr A8 rfl rfl C71 (by decide) (S.cnt_arr [] (by decide)).1 (S.cnt_arr [] (by decide)).2 (fun w9 y9 N9 => ?_)
 replace hE := hE.trans (y9.belo)
 replace K0 := K0.sto y9
 have zw9 := y9.size
 replace A8 := N9
 refine RS.asI rfl ?_
 refine nl hK5 ?_
 refine sq fun K10 hK10 => ?_
 refine RS.make rfl rfl Tryd.underlying70 T35 (by omega) (by omega) (by omega) (fun b11 w11 e11 s11 x11 B11 => ?_)
 refine RS.nm ?_
 replace hE := Ext.tr hE x11
 replace K0 := K0.ext x11
 replace A8 := A8.ext x11
 have zw11 := x11.size
 rw [show (60 : Int).toNat * 1 = 60 from rfl, made_nil] at B11
 have PN := PRow.nils (S := fun k => b11 ≤ k ∧ k < w11.heap.size) B11 (by constructor <;> omega)
 refine RS.call E38 (judgeCount _ _ _ _ _ _ K0 PN (by decide) (fun p hp => by obtain rfl := (List.mem_replicate.1 hp).2; exact Nat.zero_le _)) rfl (fun v12 w12 x12 A12 => ?_)
 replace hE := Ext.tr hE x12
 replace K0 := K0.ext x12
 replace A8 := A8.ext x12
 replace PN := PN.ext x12
 have zw12 := x12.size
 subst A12
 rw [if_neg (show ¬ 60 < 60 by decide), if_neg (show ¬ 60 < 60 by decide)]
 refine RS.nm ?_
 refine RS.move (v := .tuple _) rfl ?_
 refine RS.extract (v := .agg _) rfl rfl ?_
 refine RS.extract (v := .int _ _) rfl rfl ?_
 refine RS.alloc T71 (fun b13 w13 e13 s13 x13 B13 => ?_)
 refine RS.nm ?_
 replace hE := Ext.tr hE x13
 replace K0 := K0.ext x13
 replace A8 := A8.ext x13
 have zw13 := x13.size
 have A13 : IArr .i64 w13 b13 10 (List.replicate 10 0) [] 71 := IArr.zero B13
 clear B13
 refine RS.storeArr A13 rfl rfl C71 (by decide) (S.cnt_arr _ (by simp)).1 (S.cnt_arr _ (by simp)).2 (fun w14 y14 N14 => ?_)
 replace hE := hE.trans (y14.belo)
 replace K0 := K0.sto y14
 replace A8 := A8.sto y14
 have zw14 := y14.size
 replace A13 := N14
 refine RS.asI rfl ?_
 refine nl hK10 ?_
 refine wp_seq_k (fun K15 hK15 => ?_)
 refine regionM 5 [33, 34, 35, 36, 37] (fun i v w => match i with | 0 => ∃ a n c, v = .slice a n c ∧ IRow .u8 (fun _ => True) w a n (S.sgnB 5) ∧ n ≤ c | 1 => ∃ a n c, v = .slice a n c ∧ IRow .u8 (fun _ => True) w a n (List.replicate 400 0) ∧ n ≤ c | 2 => ∃ a n c, v = .slice a n c ∧ IRow .u8 (fun _ => True) w a n (List.replicate 401 0) ∧ n ≤ c | 3 => ∃ a n c, v = .slice a n c ∧ IRow .u8 (fun _ => True) w a n [111, 4, 0, 7, 1, 0, 0] ∧ n ≤ c | 4 => ∃ a n c, v = .slice a n c ∧ IRow .u8 (fun _ => True) w a n (S.sgnB 6) ∧ n ≤ c | _ => True) [(5, .e), (6, .q)] mixed (by kernel_rfl) ?_ (fun w16 x16 => ?_) (fun f w17 x17 hF => ?_)
 ·intro i v w w2 h x
  match i, h with
  | 0, h => (obtain ⟨a, n, c, h1, h2, h3⟩ := h; exact ⟨a, n, c, h1, h2.ext x, h3⟩)
  | 1, h => (obtain ⟨a, n, c, h1, h2, h3⟩ := h; exact ⟨a, n, c, h1, h2.ext x, h3⟩)
  | 2, h => (obtain ⟨a, n, c, h1, h2, h3⟩ := h; exact ⟨a, n, c, h1, h2.ext x, h3⟩)
  | 3, h => (obtain ⟨a, n, c, h1, h2, h3⟩ := h; exact ⟨a, n, c, h1, h2.ext x, h3⟩)
  | 4, h => (obtain ⟨a, n, c, h1, h2, h3⟩ := h; exact ⟨a, n, c, h1, h2.ext x, h3⟩)
  | _ + 5, h => trivial
 ·replace hE := Ext.tr hE x16
  replace K0 := K0.ext x16
  replace A8 := A8.ext x16
  replace A13 := A13.ext x16
  have zw16 := x16.size
  refine ⟨?_, ?_, ?_, ?_, ?_, trivial⟩
  ·intro f w18 x18 hd
   replace hE := Ext.tr hE x18
   replace K0 := K0.ext x18
   replace A8 := A8.ext x18
   replace A13 := A13.ext x18
   have zw18 := x18.size
   refine RS.norm (by simp only [FF, upd, List.map_cons, List.map_nil, List.set_cons_succ, List.set_cons_zero, List.getD_cons_zero, List.getD_cons_succ]; exact rfl) ?_
   dsimp only [nth]
   refine RS.call E39 (signedJ 5 (by decide) _ _ K0) rfl (fun v19 w19 x19 A19 => ?_)
   replace hE := Ext.tr hE x19
   replace K0 := K0.ext x19
   replace A8 := A8.ext x19
   replace A13 := A13.ext x19
   have zw19 := x19.size
   obtain ⟨a19, n19, c19, rfl, O1⟩ := A19
   refine RS.nm ?_
   refine RS.nil ?_
   refine ⟨.slice a19 n19 c19, ?_, x19, ?_⟩
   ·first | (simp only [FF, upd, List.map_cons, List.map_nil, List.set_cons_succ, List.set_cons_zero, List.getD_cons_zero, List.getD_cons_succ]; done) | (simp only [FF, upd, List.map_cons, List.map_nil, List.set_cons_succ, List.set_cons_zero, List.getD_cons_zero, List.getD_cons_succ]; rfl)
   exact ⟨_, _, _, rfl, O1.row.weaken (fun _ _ _ => trivial), O1.own.pre⟩
  ·intro f w20 x20 hd
   replace hE := Ext.tr hE x20
   replace K0 := K0.ext x20
   replace A8 := A8.ext x20
   replace A13 := A13.ext x20
   have zw20 := x20.size
   refine RS.norm (by simp only [FF, upd, List.map_cons, List.map_nil, List.set_cons_succ, List.set_cons_zero, List.getD_cons_zero, List.getD_cons_succ]; exact rfl) ?_
   dsimp only [nth]
   refine RS.make rfl rfl Tryd.underlying35 T5 (by omega) (by omega) (by omega) (fun b21 w21 e21 s21 x21 B21 => ?_)
   refine RS.nm ?_
   replace hE := Ext.tr hE x21
   replace K0 := K0.ext x21
   replace A8 := A8.ext x21
   replace A13 := A13.ext x21
   have zw21 := x21.size
   rw [show (400 : Int).toNat * 1 = 400 from rfl, S.made_ints] at B21
   refine RS.nil ?_
   refine ⟨.slice (some ⟨b21, 0, none⟩) 400 400, ?_, x21, ?_⟩
   ·first | (simp only [FF, upd, List.map_cons, List.map_nil, List.set_cons_succ, List.set_cons_zero, List.getD_cons_zero, List.getD_cons_succ]; done) | (simp only [FF, upd, List.map_cons, List.map_nil, List.set_cons_succ, List.set_cons_zero, List.getD_cons_zero, List.getD_cons_succ]; rfl)
   exact ⟨_, _, _, rfl, IRow.of_blk (S := fun _ => True) B21 trivial rfl (by simp) (Bd.zeros .u8 400), Nat.le_refl _⟩
  ·intro f w22 x22 hd
   replace hE := Ext.tr hE x22
   replace K0 := K0.ext x22
   replace A8 := A8.ext x22
   replace A13 := A13.ext x22
   have zw22 := x22.size
   refine RS.norm (by simp only [FF, upd, List.map_cons, List.map_nil, List.set_cons_succ, List.set_cons_zero, List.getD_cons_zero, List.getD_cons_succ]; exact rfl) ?_
   dsimp only [nth]
   refine RS.make rfl rfl Tryd.underlying35 T5 (by omega) (by omega) (by omega) (fun b23 w23 e23 s23 x23 B23 => ?_)
   refine RS.nm ?_
   replace hE := Ext.tr hE x23
   replace K0 := K0.ext x23
   replace A8 := A8.ext x23
   replace A13 := A13.ext x23
   have zw23 := x23.size
   rw [show (401 : Int).toNat * 1 = 401 from rfl, S.made_ints] at B23
   refine RS.nil ?_
   refine ⟨.slice (some ⟨b23, 0, none⟩) 401 401, ?_, x23, ?_⟩
   ·first | (simp only [FF, upd, List.map_cons, List.map_nil, List.set_cons_succ, List.set_cons_zero, List.getD_cons_zero, List.getD_cons_succ]; done) | (simp only [FF, upd, List.map_cons, List.map_nil, List.set_cons_succ, List.set_cons_zero, List.getD_cons_zero, List.getD_cons_succ]; rfl)
   exact ⟨_, _, _, rfl, IRow.of_blk (S := fun _ => True) B23 trivial rfl (by simp) (Bd.zeros .u8 401), Nat.le_refl _⟩
  ·intro f w24 x24 hd
   replace hE := Ext.tr hE x24
   replace K0 := K0.ext x24
   replace A8 := A8.ext x24
   replace A13 := A13.ext x24
   have zw24 := x24.size
   refine RS.norm (by simp only [FF, upd, List.map_cons, List.map_nil, List.set_cons_succ, List.set_cons_zero, List.getD_cons_zero, List.getD_cons_succ]; exact rfl) ?_
   dsimp only [nth]
   refine RS.buildSlice (xs := [.const (.int .u8 111), .const (.int .u8 4), .const (.int .u8 0), .const (.int .u8 7), .const (.int .u8 1), .const (.int .u8 0), .const (.int .u8 0)]) (vs := [.int _ _, .int _ _, .int _ _, .int _ _, .int _ _, .int _ _, .int _ _]) (cs := [.int _ _, .int _ _, .int _ _, .int _ _, .int _ _, .int _ _, .int _ _]) Tryd.underlying35 T5 (by decide) rfl rfl rfl rfl rfl rfl (by intro v hv; simp only [List.mem_cons, List.not_mem_nil, or_false] at hv; rcases hv with rfl | rfl | rfl | rfl | rfl | rfl | rfl <;> rfl) rfl (fun b25 w25 e25 s25 x25 B25 => ?_)
   refine RS.nm ?_
   replace hE := Ext.tr hE x25
   replace K0 := K0.ext x25
   replace A8 := A8.ext x25
   replace A13 := A13.ext x25
   have zw25 := x25.size
   have Q1 : IRow .u8 (fun k => k = b25) w25 (some ⟨b25, 0, none⟩) 7 [_, _, _, _, _, _, _] := IRow.of_blk B25 rfl rfl rfl (.cons (by simp only [lim]; omega) (.cons (by simp only [lim]; omega) (.cons (by simp only [lim]; omega) (.cons (by simp only [lim]; omega) (.cons (by simp only [lim]; omega) (.cons (by simp only [lim]; omega) (.cons (by simp only [lim]; omega) (.nil _))))))))
   refine RS.nil ?_
   refine ⟨.slice (some ⟨b25, 0, none⟩) 7 7, ?_, x25, ?_⟩
   ·first | (simp only [FF, upd, List.map_cons, List.map_nil, List.set_cons_succ, List.set_cons_zero, List.getD_cons_zero, List.getD_cons_succ]; done) | (simp only [FF, upd, List.map_cons, List.map_nil, List.set_cons_succ, List.set_cons_zero, List.getD_cons_zero, List.getD_cons_succ]; rfl)
   exact ⟨_, _, _, rfl, Q1.weaken (fun _ _ _ => trivial), Nat.le_refl _⟩
  intro f w26 x26 hd
  replace hE := Ext.tr hE x26
  replace K0 := K0.ext x26
  replace A8 := A8.ext x26
  replace A13 := A13.ext x26
  have zw26 := x26.size
  have h26_0 : ∃ a n c, (f 33) = .slice a n c ∧ IRow .u8 (fun _ => True) w26 a n (S.sgnB 5) ∧ n ≤ c := hd 0 (by decide +kernel)
  refine RS.norm (by simp only [FF, upd, List.map_cons, List.map_nil, List.set_cons_succ, List.set_cons_zero, List.getD_cons_zero, List.getD_cons_succ]; exact rfl) ?_
  dsimp only [nth]
  refine RS.call E39 (signedJ 6 (by decide) _ _ K0) rfl (fun v27 w27 x27 A27 => ?_)
  replace hE := Ext.tr hE x27
  replace K0 := K0.ext x27
  replace A8 := A8.ext x27
  replace A13 := A13.ext x27
  have zw27 := x27.size
  obtain ⟨a27, n27, c27, rfl, O1⟩ := A27
  refine RS.nm ?_
  refine RS.nil ?_
  refine ⟨.slice a27 n27 c27, ?_, x27, ?_⟩
  ·first | (simp only [FF, upd, List.map_cons, List.map_nil, List.set_cons_succ, List.set_cons_zero, List.getD_cons_zero, List.getD_cons_succ]; done) | (simp only [FF, upd, List.map_cons, List.map_nil, List.set_cons_succ, List.set_cons_zero, List.getD_cons_zero, List.getD_cons_succ]; rfl)
  exact ⟨_, _, _, rfl, O1.row.weaken (fun _ _ _ => trivial), O1.own.pre⟩
 replace hE := Ext.tr hE x17
 replace K0 := K0.ext x17
 replace A8 := A8.ext x17
 replace A13 := A13.ext x17
 have zw17 := x17.size
 obtain ⟨g0, g1, g2, g3, g4, _⟩ := hF
 replace g0 : ∃ a n c, (f 33) = .slice a n c ∧ IRow .u8 (fun _ => True) w17 a n (S.sgnB 5) ∧ n ≤ c := g0
 replace g1 : ∃ a n c, (f 34) = .slice a n c ∧ IRow .u8 (fun _ => True) w17 a n (List.replicate 400 0) ∧ n ≤ c := g1
 replace g2 : ∃ a n c, (f 35) = .slice a n c ∧ IRow .u8 (fun _ => True) w17 a n (List.replicate 401 0) ∧ n ≤ c := g2
 replace g3 : ∃ a n c, (f 36) = .slice a n c ∧ IRow .u8 (fun _ => True) w17 a n [111, 4, 0, 7, 1, 0, 0] ∧ n ≤ c := g3
 replace g4 : ∃ a n c, (f 37) = .slice a n c ∧ IRow .u8 (fun _ => True) w17 a n (S.sgnB 6) ∧ n ≤ c := g4
 obtain ⟨a33, n33, c33, g0, Q33, l33⟩ := g0
 have z33 := Q33.len
 obtain ⟨a34, n34, c34, g1, Q34, l34⟩ := g1
 have z34 := Q34.len
 obtain ⟨a35, n35, c35, g2, Q35, l35⟩ := g2
 have z35 := Q35.len
 obtain ⟨a36, n36, c36, g3, Q36, l36⟩ := g3
 have z36 := Q36.len
 obtain ⟨a37, n37, c37, g4, Q37, l37⟩ := g4
 have z37 := Q37.len
 refine RX.norm (by simp only [FF, upd, List.map_cons, List.map_nil, List.set_cons_succ, List.set_cons_zero]; exact rfl) ?_
 rw [g0, g1, g2, g3, g4]
 refine RX.eff ?_
 refine RS.buildSlice (xs := [.tmp 33, .const (.slice none 0 0), .tmp 34, .tmp 35, .tmp 36, .tmp 37]) (vs := [.slice _ _ _, .slice _ _ _, .slice _ _ _, .slice _ _ _, .slice _ _ _, .slice _ _ _]) (cs := [.slice _ _ _, .slice _ _ _, .slice _ _ _, .slice _ _ _, .slice _ _ _, .slice _ _ _]) Tryd.underlying70 T35 (by decide) rfl rfl rfl rfl rfl rfl (by intro v hv; simp only [List.mem_cons, List.not_mem_nil, or_false] at hv; rcases hv with rfl | rfl | rfl | rfl | rfl | rfl <;> rfl) rfl (fun b28 w28 e28 s28 x28 B28 => ?_)
 refine RS.nm ?_
 replace hE := Ext.tr hE x28
 replace K0 := K0.ext x28
 replace A8 := A8.ext x28
 replace A13 := A13.ext x28
 replace Q33 := Q33.ext x28
 replace Q34 := Q34.ext x28
 replace Q35 := Q35.ext x28
 replace Q36 := Q36.ext x28
 replace Q37 := Q37.ext x28
 have zw28 := x28.size
 refine RS.nil ⟨x28, ?_⟩
 refine RX.assign (v := .slice _ _ _) rfl ?_
 refine RX.nil (hK15 _ _ ?_)
 refine wp_seq_k (fun K29 hK29 => ?_)
 have PF : PRow .u8 (fun _ => True) w28 _ 6 [⟨a33, n33, c33, S.sgnB 5⟩, ⟨none, 0, 0, []⟩, ⟨a34, n34, c34, List.replicate 400 0⟩, ⟨a35, n35, c35, List.replicate 401 0⟩, ⟨a36, n36, c36, [111, 4, 0, 7, 1, 0, 0]⟩, ⟨a37, n37, c37, S.sgnB 6⟩] := PRow.of_blkE B28 rfl rfl ⟨⟨_, Q33, l33⟩, ⟨fun _ => False, IRow.nil, Nat.le_refl _⟩, ⟨_, Q34, l34⟩, ⟨_, Q35, l35⟩, ⟨_, Q36, l36⟩, ⟨_, Q37, l37⟩, trivial⟩
 rw [List.length_replicate] at z34 z35
 have hp6 : ∀ p ∈ ([⟨a33, n33, c33, S.sgnB 5⟩, ⟨none, 0, 0, []⟩, ⟨a34, n34, c34, List.replicate 400 0⟩, ⟨a35, n35, c35, List.replicate 401 0⟩, ⟨a36, n36, c36, [111, 4, 0, 7, 1, 0, 0]⟩, ⟨a37, n37, c37, S.sgnB 6⟩] : List Pc), p.n ≤ 1000 := by
  intro p hp
  simp only [List.mem_cons, List.not_mem_nil, or_false] at hp
  simp only [List.length_cons, List.length_nil] at z36
  rcases hp with rfl | rfl | rfl | rfl | rfl | rfl <;> (dsimp only; omega)
 have hv6 : (([⟨a33, n33, c33, S.sgnB 5⟩, ⟨none, 0, 0, []⟩, ⟨a34, n34, c34, List.replicate 400 0⟩, ⟨a35, n35, c35, List.replicate 401 0⟩, ⟨a36, n36, c36, [111, 4, 0, 7, 1, 0, 0]⟩, ⟨a37, n37, c37, S.sgnB 6⟩] : List Pc).map fun p => S.jdV p.xs) = [0, 2, 2, 3, 4, 0] := by
  simp only [List.map_cons, List.map_nil]
  rw [u1, S.jd_nil, S.jd_zeros (by decide), S.jd_long (by simp), S.jd_ex, y1]
 refine region ?_
 refine RS.mvS rfl ?_
 refine RS.call E37 (judgeMany _ _ _ _ _ _ K0 PF (by decide) hp6) rfl (fun v30 w30 x30 A30 => ?_)
 replace hE := Ext.tr hE x30
 replace K0 := K0.ext x30
 replace A8 := A8.ext x30
 replace A13 := A13.ext x30
 replace Q33 := Q33.ext x30
 replace Q34 := Q34.ext x30
 replace Q35 := Q35.ext x30
 replace Q36 := Q36.ext x30
 replace Q37 := Q37.ext x30
 replace B28 := B28.ext x30
 replace PF := PF.ext x30
 have zw30 := x30.size
 obtain ⟨aM, nM, cM, rfl, OM⟩ := A30
 rw [if_neg (show ¬ 60 < 6 by decide)]
 rw [if_neg (show ¬ 60 < 6 by decide), hv6] at OM
 have hOM := OM.lo
 have RM := OM.row.weaken (T := fun k => k < w30.heap.size) (fun k hk _ => hk)
 have lRM := RM.len
 refine RS.nm ?_
 refine RS.move (v := .tuple _) rfl ?_
 refine RS.extract (v := .slice _ _ _) rfl rfl ?_
 refine RS.extract (v := .int _ _) rfl rfl ?_
 refine RS.asS rfl ?_
 refine RS.asI rfl ?_
 refine nl hK29 ?_
 refine sq fun K31 hK31 => ?_
 refine RS.mvS rfl ?_
 refine RS.call E38 (judgeCount _ _ _ _ _ _ K0 PF (by decide) hp6) rfl (fun v32 w32 x32 A32 => ?_)
 replace hE := Ext.tr hE x32
 replace K0 := K0.ext x32
 replace A8 := A8.ext x32
 replace A13 := A13.ext x32
 replace Q33 := Q33.ext x32
 replace Q34 := Q34.ext x32
 replace Q35 := Q35.ext x32
 replace Q36 := Q36.ext x32
 replace Q37 := Q37.ext x32
 replace B28 := B28.ext x32
 replace PF := PF.ext x32
 replace RM := RM.ext x32
 have zw32 := x32.size
 subst A32
 rw [if_neg (show ¬ 60 < 6 by decide), if_neg (show ¬ 60 < 6 by decide), hv6]
 refine RS.nm ?_
 refine RS.move (v := .tuple _) rfl ?_
 refine RS.extract (v := .agg _) rfl rfl ?_
 refine RS.extract (v := .int _ _) rfl rfl ?_
 refine RS.alloc T71 (fun b33 w33 e33 s33 x33 B33 => ?_)
 refine RS.nm ?_
 replace hE := Ext.tr hE x33
 replace K0 := K0.ext x33
 replace A8 := A8.ext x33
 replace A13 := A13.ext x33
 replace B28 := B28.ext x33
 replace RM := RM.ext x33
 have zw33 := x33.size
 have A33 : IArr .i64 w33 b33 10 (List.replicate 10 0) [] 71 := IArr.zero B33
 clear B33
 refine RS.storeArr A33 rfl rfl C71 (by decide) (S.cnt_arr [0, 2, 2, 3, 4, 0] (by decide)).1 (S.cnt_arr [0, 2, 2, 3, 4, 0] (by decide)).2 (fun w34 y34 N34 => ?_)
 replace hE := hE.trans (y34.belo)
 replace K0 := K0.sto y34
 replace A8 := A8.sto y34
 replace A13 := A13.sto y34
 replace B28 := B28.sto y34
 replace RM := RM.sto y34
 have zw34 := y34.size
 replace A33 := N34
 refine RS.asI rfl ?_
 refine nl hK31 ?_
 refine sq fun K35 hK35 => ?_
 refine RS.buildSlice (xs := [.const (.int .u8 111), .const (.int .u8 4), .const (.int .u8 0), .const (.int .u8 7), .const (.int .u8 1), .const (.int .u8 0), .const (.int .u8 0)]) (vs := [.int _ _, .int _ _, .int _ _, .int _ _, .int _ _, .int _ _, .int _ _]) (cs := [.int _ _, .int _ _, .int _ _, .int _ _, .int _ _, .int _ _, .int _ _]) Tryd.underlying35 T5 (by decide) rfl rfl rfl rfl rfl rfl (by intro v hv; simp only [List.mem_cons, List.not_mem_nil, or_false] at hv; rcases hv with rfl | rfl | rfl | rfl | rfl | rfl | rfl <;> rfl) rfl (fun b36 w36 e36 s36 x36 B36 => ?_)
 refine RS.nm ?_
 replace hE := Ext.tr hE x36
 replace K0 := K0.ext x36
 replace A8 := A8.ext x36
 replace A13 := A13.ext x36
 replace B28 := B28.ext x36
 replace RM := RM.ext x36
 replace A33 := A33.ext x36
 have zw36 := x36.size
 refine RS.call E34 (judgeOf _ _ _ _ _ _ K0 (IRow.of_blk (S := fun k => k = b36) B36 rfl rfl rfl (.cons (by decide) (.cons (by decide) (.cons (by decide) (.cons (by decide) (.cons (by decide) (.cons (by decide) (.cons (by decide) (.nil _))))))))) (Nat.le_refl _) (by decide)) rfl (fun v37 w37 x37 A37 => ?_)
 replace hE := Ext.tr hE x37
 replace K0 := K0.ext x37
 replace A8 := A8.ext x37
 replace A13 := A13.ext x37
 replace B28 := B28.ext x37
 replace RM := RM.ext x37
 replace A33 := A33.ext x37
 replace B36 := B36.ext x37
 have zw37 := x37.size
 obtain ⟨aJ, cJ, rfl, hcJ, DJ⟩ := A37
 rw [S.ex_zero.1] at hcJ DJ
 rw [S.ex_zero.1, S.ex_zero.2, S.jd_ex]
 replace DJ := DJ.weaken (T := fun k => k < w37.heap.size) (fun k hk _ => hk)
 refine RS.nm ?_
 refine RS.move (v := .tuple _) rfl ?_
 refine RS.extract (v := .agg _) rfl rfl ?_
 refine RS.extract (v := .agg _) rfl rfl ?_
 refine RS.extract (v := .int _ _) rfl rfl ?_
 refine RS.alloc T32 (fun b38 w38 e38 s38 x38 B38 => ?_)
 refine RS.nm ?_
 replace hE := Ext.tr hE x38
 replace K0 := K0.ext x38
 replace A8 := A8.ext x38
 replace A13 := A13.ext x38
 replace B28 := B28.ext x38
 replace RM := RM.ext x38
 replace A33 := A33.ext x38
 replace B36 := B36.ext x38
 replace DJ := DJ.ext x38
 have zw38 := x38.size
 refine RS.alloc T42 (fun b39 w39 e39 s39 x39 B39 => ?_)
 refine RS.nm ?_
 replace hE := Ext.tr hE x39
 replace K0 := K0.ext x39
 replace A8 := A8.ext x39
 replace A13 := A13.ext x39
 replace B28 := B28.ext x39
 replace RM := RM.ext x39
 replace A33 := A33.ext x39
 replace B36 := B36.ext x39
 replace DJ := DJ.ext x39
 replace B38 := B38.ext x39
 have zw39 := x39.size
 have A39 : IArr .u8 w39 b39 32 (List.replicate 32 0) [] 42 := IArr.zero B39
 clear B39
 refine RS.storeAggB rfl rfl C32 (by decide) rfl rfl B38 rfl (fun w40 y40 N40 => ?_)
 replace hE := hE.trans (y40.belo)
 replace K0 := K0.sto y40
 replace A8 := A8.sto y40
 replace A13 := A13.sto y40
 replace B28 := B28.sto y40
 replace RM := RM.sto y40
 replace A33 := A33.sto y40
 replace B36 := B36.sto y40
 replace DJ := DJ.sto y40
 replace A39 := A39.sto y40
 have zw40 := y40.size
 replace B38 := N40
 refine RS.storeArr A39 rfl rfl C42 (by decide) (Arr.zeros .u8 32).1 (Arr.zeros .u8 32).2 (fun w41 y41 N41 => ?_)
 replace hE := hE.trans (y41.belo)
 replace K0 := K0.sto y41
 replace A8 := A8.sto y41
 replace A13 := A13.sto y41
 replace B28 := B28.sto y41
 replace RM := RM.sto y41
 replace A33 := A33.sto y41
 replace B36 := B36.sto y41
 replace DJ := DJ.sto y41
 replace B38 := B38.sto y41
 have zw41 := y41.size
 replace A39 := N41
 refine RS.asI rfl ?_
 refine nl hK35 ?_
 refine sq fun K42 hK42 => ?_
 have NN : PRow .u8 (fun _ => False) w41 none 0 [] := ⟨.inl rfl, rfl, fun p hp => by cases hp⟩
 refine RS.call E37 (judgeMany _ _ _ [] _ _ K0 NN (Nat.le_refl _) (fun p hp => by cases hp)) rfl (fun v43 w43 x43 A43 => ?_)
 replace hE := Ext.tr hE x43
 replace K0 := K0.ext x43
 replace A8 := A8.ext x43
 replace A13 := A13.ext x43
 replace B28 := B28.ext x43
 replace RM := RM.ext x43
 replace A33 := A33.ext x43
 replace B36 := B36.ext x43
 replace DJ := DJ.ext x43
 replace B38 := B38.ext x43
 replace A39 := A39.ext x43
 have zw43 := x43.size
 obtain ⟨aZ, nZ, cZ, rfl, OZ⟩ := A43
 rw [if_neg (show ¬ 60 < 0 by decide)]
 rw [if_neg (show ¬ 60 < 0 by decide)] at OZ
 have lOZ := OZ.len
 simp only [List.map_nil, List.length_nil] at lOZ
 refine RS.nm ?_
 refine RS.move (v := .tuple _) rfl ?_
 refine RS.extract (v := .slice _ _ _) rfl rfl ?_
 refine RS.extract (v := .int _ _) rfl rfl ?_
 refine RS.asS rfl ?_
 refine RS.asI rfl ?_
 refine nl hK42 ?_
 refine sq fun K44 hK44 => ?_
 refine RS.call E39 (signedJ 5 (by decide) _ _ K0) rfl (fun v45 w45 x45 A45 => ?_)
 replace hE := Ext.tr hE x45
 replace K0 := K0.ext x45
 replace A8 := A8.ext x45
 replace A13 := A13.ext x45
 replace B28 := B28.ext x45
 replace RM := RM.ext x45
 replace A33 := A33.ext x45
 replace B36 := B36.ext x45
 replace DJ := DJ.ext x45
 replace B38 := B38.ext x45
 replace A39 := A39.ext x45
 have zw45 := x45.size
 obtain ⟨aS, nS, cS, rfl, OS⟩ := A45
 have hOS := OS.lo
 have lOS := OS.len
 refine RS.nm ?_
 refine RS.appendZ OS rfl rfl (by omega) Tryd.underlying35 Tryd.underlying3 T5 (by omega) (by decide) (by omega) (fun a46 c46 w46 N46 x46 => ?_)
 refine RS.nm ?_
 replace hE := hE.trans (x46.below (by intros; try (first | (intro _ _) | (intro _) | skip); first | omega | (have hq := OS.lo _ (by assumption); first | omega | (dsimp only at *; omega))) (by intros; try (first | (intro _ _) | (intro _) | skip); first | omega | (dsimp only at *; omega) | (simp_all; done) | (simp at *; omega)))
 replace K0 := K0.pr x46 (by intros; try (first | (intro _ _) | (intro _) | skip); first | omega | (have hq := OS.lo _ (by assumption); first | omega | (dsimp only at *; omega)))
 replace A8 := A8.pr x46 (by intros; try (first | (intro _ _) | (intro _) | skip); first | omega | (have hq := OS.lo _ (by assumption); first | omega | (dsimp only at *; omega)))
 replace A13 := A13.pr x46 (by intros; try (first | (intro _ _) | (intro _) | skip); first | omega | (have hq := OS.lo _ (by assumption); first | omega | (dsimp only at *; omega)))
 replace B28 := B28.pr x46 (by intros; try (first | (intro _ _) | (intro _) | skip); first | omega | (have hq := OS.lo _ (by assumption); first | omega | (dsimp only at *; omega)))
 replace RM := RM.pr x46 (by intros; try (first | (intro _ _) | (intro _) | skip); first | omega | (have hq := OS.lo _ (by assumption); first | omega | (dsimp only at *; omega)))
 replace A33 := A33.pr x46 (by intros; try (first | (intro _ _) | (intro _) | skip); first | omega | (have hq := OS.lo _ (by assumption); first | omega | (dsimp only at *; omega)))
 replace B36 := B36.pr x46 (by intros; try (first | (intro _ _) | (intro _) | skip); first | omega | (have hq := OS.lo _ (by assumption); first | omega | (dsimp only at *; omega)))
 replace DJ := DJ.pr x46 (by intros; try (first | (intro _ _) | (intro _) | skip); first | omega | (have hq := OS.lo _ (by assumption); first | omega | (dsimp only at *; omega)))
 replace B38 := B38.pr x46 (by intros; try (first | (intro _ _) | (intro _) | skip); first | omega | (have hq := OS.lo _ (by assumption); first | omega | (dsimp only at *; omega)))
 replace A39 := A39.pr x46 (by intros; try (first | (intro _ _) | (intro _) | skip); first | omega | (have hq := OS.lo _ (by assumption); first | omega | (dsimp only at *; omega)))
 have zw46 := x46.size
 replace OS := N46
 refine RS.asS rfl ?_
 refine nl hK44 ?_
 refine sq fun K47 hK47 => ?_
 refine RS.mvB rfl ?_
 refine RS.wt 61 ?_
 refine RS.mvI rfl ?_
 refine RS.wt 61 ?_
 refine RS.o (D.eq rfl rfl) ?_
 refine RS.pick (v := .bool _) rfl rfl ?_
 refine RS.mvB rfl ?_
 refine RS.splite 65 rfl rfl (fun c48 => ?_) (fun c48 => ?_)
 ·refine RS.nm ?_
  refine RS.wt 65 ?_
  refine RS.mvI rfl ?_
  refine RS.wt 65 ?_
  refine RS.o (D.eq rfl rfl) ?_
  refine RS.pick (v := .bool _) rfl rfl ?_
  refine RS.mvB rfl ?_
  refine RS.splite 69 rfl rfl (fun c49 => ?_) (fun c49 => ?_)
  ·refine RS.nm ?_
   refine RS.wt 69 ?_
   refine RS.mvI rfl ?_
   refine RS.wt 69 ?_
   refine RS.o (D.eq rfl rfl) ?_
   refine RS.pick (v := .bool _) rfl rfl ?_
   refine RS.mvB rfl ?_
   refine RS.splite 73 rfl rfl (fun c50 => ?_) (fun c50 => ?_)
   ·refine RS.nm ?_
    refine RS.wt 73 ?_
    refine RS.o (D.loadAgg rfl Tryd.underlying71 rfl C71 (by decide) (by rw [ints_length, A13.len]) A13.cells) ?_
    refine RS.wt 73 ?_
    refine RS.o (D.buildI (ps := [(2, 60)]) (zs := List.replicate 10 0) Tryd.underlying71 T71 C3 rfl (by decide)) ?_
    refine RS.wt 73 ?_
    refine RS.o (D.eqI rfl rfl Tryd.underlying71 Tryd.underlying3 C3 (by kernel_rfl) (S.cnt_len _) rfl (by decide)) ?_
    refine RS.pick (v := .bool _) rfl rfl ?_
    refine RS.mvB rfl ?_
    refine RS.splitb 78 rfl rfl (fun c51 => ?_) (fun c51 => ?_)
    ·refine RS.nm ?_
     refine RS.wt 78 ?_
     refine RS.mvI rfl ?_
     refine RS.wt 78 ?_
     refine RS.o (D.eq rfl rfl) ?_
     refine RS.pick (v := .bool _) rfl rfl ?_
     refine RS.mvB rfl ?_
     refine RS.splite 82 rfl rfl (fun c52 => ?_) (fun c52 => ?_)
     ·refine RS.nm ?_
      refine RS.wt 82 ?_
      refine RS.mvS rfl ?_
      refine RS.wt 82 ?_
      refine RS.buildSlice (xs := [.const (.int .u8 0), .const (.int .u8 2), .const (.int .u8 2), .const (.int .u8 3), .const (.int .u8 4), .const (.int .u8 0)]) (vs := [.int _ _, .int _ _, .int _ _, .int _ _, .int _ _, .int _ _]) (cs := [.int _ _, .int _ _, .int _ _, .int _ _, .int _ _, .int _ _]) Tryd.underlying35 T5 (by decide) rfl rfl rfl rfl rfl rfl (by intro v hv; simp only [List.mem_cons, List.not_mem_nil, or_false] at hv; rcases hv with rfl | rfl | rfl | rfl | rfl | rfl <;> rfl) rfl (fun b53 w53 e53 s53 x53 B53 => ?_)
      refine RS.nm ?_
      replace hE := Ext.tr hE x53
      replace K0 := K0.ext x53
      replace A8 := A8.ext x53
      replace A13 := A13.ext x53
      replace B28 := B28.ext x53
      replace RM := RM.ext x53
      replace A33 := A33.ext x53
      replace B36 := B36.ext x53
      replace DJ := DJ.ext x53
      replace B38 := B38.ext x53
      replace A39 := A39.ext x53
      replace OS := OS.ext x53
      have zw53 := x53.size
      refine RS.wt 82 ?_
      refine RS.call E22 (sameBytes _ _ _ _ _ _ _ _ _ RM (IRow.of_blk (S := fun k => k = b53) B53 rfl rfl rfl (.cons (by decide) (.cons (by decide) (.cons (by decide) (.cons (by decide) (.cons (by decide) (.cons (by decide) (.nil _)))))))) (by rw [← lRM]; decide) (by decide)) rfl (fun v54 w54 x54 A54 => ?_)
      replace hE := Ext.tr hE x54
      replace K0 := K0.ext x54
      replace A8 := A8.ext x54
      replace A13 := A13.ext x54
      replace B28 := B28.ext x54
      replace RM := RM.ext x54
      replace A33 := A33.ext x54
      replace B36 := B36.ext x54
      replace DJ := DJ.ext x54
      replace B38 := B38.ext x54
      replace A39 := A39.ext x54
      replace OS := OS.ext x54
      replace B53 := B53.ext x54
      have zw54 := x54.size
      subst A54
      refine RS.nm ?_
      refine RS.pick (v := .bool _) rfl rfl ?_
      refine RS.mvB rfl ?_
      refine RS.splitb 87 rfl rfl (fun c55 => ?_) (fun c55 => ?_)
      ·refine RS.nm ?_
       refine RS.wt 87 ?_
       refine RS.mvI rfl ?_
       refine RS.wt 87 ?_
       refine RS.o (D.eq rfl rfl) ?_
       refine RS.pick (v := .bool _) rfl rfl ?_
       refine RS.mvB rfl ?_
       refine RS.splite 91 rfl rfl (fun c56 => ?_) (fun c56 => ?_)
       ·refine RS.nm ?_
        refine RS.wt 91 ?_
        refine RS.o (D.loadAgg rfl Tryd.underlying71 rfl C71 (by decide) (by rw [ints_length, A33.len]) A33.cells) ?_
        refine RS.wt 91 ?_
        refine RS.o (D.buildI (ps := [(0, 2), (2, 2), (3, 1), (4, 1)]) (zs := List.replicate 10 0) Tryd.underlying71 T71 C3 rfl (by decide)) ?_
        refine RS.wt 91 ?_
        refine RS.o (D.eqI rfl rfl Tryd.underlying71 Tryd.underlying3 C3 (by kernel_rfl) (S.cnt_len _) rfl (by decide)) ?_
        refine RS.pick (v := .bool _) rfl rfl ?_
        refine RS.mvB rfl ?_
        refine RS.splitb 96 rfl rfl (fun c57 => ?_) (fun c57 => ?_)
        ·refine RS.nm ?_
         refine RS.wt 96 ?_
         refine RS.o (D.loadAgg rfl Tryd.underlying32 rfl C32 (by decide) rfl (B38.cellsN 11 rfl)) ?_
         refine RS.wt 96 ?_
         refine RS.o (D.buildS T32 F32 (ps := []) rfl rfl) ?_
         refine RS.wt 96 ?_
         refine RS.call E23 (sameO S.OpV.zero S.OpV.zero S.OpV.zero_ok S.OpV.zero_ok _ _ _ _ _ DJ (WRow.nil (S := fun _ => False))) rfl (fun v58 w58 x58 A58 => ?_)
         replace hE := Ext.tr hE x58
         replace K0 := K0.ext x58
         replace A8 := A8.ext x58
         replace A13 := A13.ext x58
         replace B28 := B28.ext x58
         replace RM := RM.ext x58
         replace A33 := A33.ext x58
         replace B36 := B36.ext x58
         replace DJ := DJ.ext x58
         replace B38 := B38.ext x58
         replace A39 := A39.ext x58
         replace OS := OS.ext x58
         replace B53 := B53.ext x58
         have zw58 := x58.size
         subst A58
         refine RS.nm ?_
         refine RS.pick (v := .bool _) rfl rfl ?_
         refine RS.mvB rfl ?_
         refine RS.splitb 101 rfl rfl (fun c59 => ?_) (fun c59 => ?_)
         ·refine RS.nm ?_
          refine RS.wt 101 ?_
          refine RS.o (D.loadAgg rfl Tryd.underlying42 rfl C42 (by decide) (by rw [ints_length, A39.len]) A39.cells) ?_
          refine RS.wt 101 ?_
          refine RS.o (D.build0 Tryd.underlying42 T42 C5) ?_
          refine RS.wt 101 ?_
          refine RS.o (D.eqI rfl rfl Tryd.underlying42 Tryd.underlying5 C5 (by kernel_rfl) (by simp) (by simp) (by decide)) ?_
          refine RS.pick (v := .bool _) rfl rfl ?_
          refine RS.mvB rfl ?_
          refine RS.splitb 106 rfl rfl (fun c60 => ?_) (fun c60 => ?_)
          ·refine RS.nm ?_
           refine RS.wt 106 ?_
           refine RS.mvI rfl ?_
           refine RS.wt 106 ?_
           refine RS.o (D.eq rfl rfl) ?_
           refine RS.pick (v := .bool _) rfl rfl ?_
           refine RS.mvB rfl ?_
           refine RS.splite 110 rfl rfl (fun c61 => ?_) (fun c61 => ?_)
           ·refine RS.nm ?_
            refine RS.wt 110 ?_
            refine RS.mvI rfl ?_
            refine RS.wt 110 ?_
            refine RS.o (D.eq rfl rfl) ?_
            refine RS.pick (v := .bool _) rfl rfl ?_
            refine RS.mvB rfl ?_
            refine RS.splite 114 rfl rfl (fun c62 => ?_) (fun c62 => ?_)
            ·refine RS.nm ?_
             refine RS.wt 114 ?_
             refine RS.mvS rfl ?_
             refine RS.wt 114 ?_
             refine RS.o (D.len rfl Tryd.underlying35) ?_
             refine RS.wt 114 ?_
             refine RS.o (D.eq rfl rfl) ?_
             refine RS.pick (v := .bool _) rfl rfl ?_
             refine RS.mvB rfl ?_
             refine RS.splite 119 rfl rfl (fun c63 => ?_) (fun c63 => ?_)
             ·refine RS.nm ?_
              refine RS.wt 119 ?_
              refine RS.mvS rfl ?_
              refine RS.wt 119 ?_
              refine RS.call E40 (verdictW _ _ _ _ _ _ K0 OS.row OS.own.pre (by omega)) rfl (fun v64 w64 x64 A64 => ?_)
              replace hE := Ext.tr hE x64
              replace K0 := K0.ext x64
              replace A8 := A8.ext x64
              replace A13 := A13.ext x64
              replace B28 := B28.ext x64
              replace RM := RM.ext x64
              replace A33 := A33.ext x64
              replace B36 := B36.ext x64
              replace DJ := DJ.ext x64
              replace B38 := B38.ext x64
              replace A39 := A39.ext x64
              replace OS := OS.ext x64
              replace B53 := B53.ext x64
              have zw64 := x64.size
              subst A64
              rw [S.jd_long (by rw [List.length_append, List.length_replicate]; omega)]
              refine RS.nm ?_
              refine RS.wt 119 ?_
              refine RS.o (D.eq rfl rfl) ?_
              refine RS.pick (v := .bool _) rfl rfl ?_
              refine RS.mvB rfl ?_
              refine RS.splite 124 rfl rfl (fun c65 => ?_) (fun c65 => ?_)
              ·refine RS.nm ?_
               refine RS.wt 124 ?_
               refine RS.call E33 (aliveJ _ _ K0) rfl (fun v66 w66 x66 A66 => ?_)
               replace hE := Ext.tr hE x66
               replace K0 := K0.ext x66
               replace A8 := A8.ext x66
               replace A13 := A13.ext x66
               replace B28 := B28.ext x66
               replace RM := RM.ext x66
               replace A33 := A33.ext x66
               replace B36 := B36.ext x66
               replace DJ := DJ.ext x66
               replace B38 := B38.ext x66
               replace A39 := A39.ext x66
               replace OS := OS.ext x66
               replace B53 := B53.ext x66
               have zw66 := x66.size
               subst A66
               refine RS.nm ?_
               refine RS.pick (v := .bool _) rfl rfl ?_
               refine RS.asB rfl ?_
               refine nl hK47 ?_
               refine wp_ret ?_
               refine retB rfl rfl ?_
               exact ⟨_, rfl, hE, rfl⟩
              refine RS.nm ?_
              exact absurd rfl c65
             refine RS.nm ?_
             exact absurd (by omega) c63
            refine RS.nm ?_
            exact absurd rfl c62
           refine RS.nm ?_
           exact absurd rfl c61
          refine RS.nm ?_
          exact Bool.noConfusion ((decide_eq_true rfl).symm.trans c60)
         refine RS.nm ?_
         exact Bool.noConfusion ((decide_eq_true (S.sameO_refl _)).symm.trans c59)
        refine RS.nm ?_
        exact Bool.noConfusion ((decide_eq_true S.cnt6).symm.trans c57)
       refine RS.nm ?_
       exact absurd rfl c56
      refine RS.nm ?_
      exact Bool.noConfusion ((decide_eq_true rfl).symm.trans c55)
     refine RS.nm ?_
     exact absurd rfl c52
    refine RS.nm ?_
    exact Bool.noConfusion ((decide_eq_true S.cnt60).symm.trans c51)
   refine RS.nm ?_
   exact absurd rfl c50
  refine RS.nm ?_
  exact absurd rfl c49
 refine RS.nm ?_
 exact absurd rfl c48
end Go.Proofs.YtiohpiiiapjblaaDoor.W
namespace Go.Proofs.YtiohpiiiapjblaaDoor.L
open Go Go.Proofs.YtiohpiiiapjblaaDoor Go.Proofs.YtiohpiiiapjblaaDoor.G Go.Proofs.YtiohpiiiapjblaaDoor.W
open Go.ChangeShapes Go.WideShapes Go.ChangeAt Go.RowKit
set_option linter.unusedVariables false
set_option maxRecDepth 100000
theorem judgeNames_door (os : Os) (args : Array Value) : laidMetH Tryd.prog [("braid/digest.constants", Rows.laid_braid_digest_constants)] ((World.doorLaid Tryd.prog 400 os).forCall (fun _ _ => 0) ⟨#[], args, []⟩).memory :=
  laidMetH_of_parts3 (fuel := 8) (laidMet_of_run' 8 (by kernel_rfl) (by kernel_rfl)) (by kernel_rfl) (by kernel_rfl)
theorem judgeNames_lifted (os : Os) (started : os.Started) (H : Type) (enc : TypeId × Value → H) :
    ReturnsInHanded {} Tryd.checked os 8 .any (fun w args => (Rows.judgeNamesSpec.pre enc Tryd.prog Tryd.f8 [] false w args ∧ laidMetH Tryd.prog [("braid/digest.constants", Rows.laid_braid_digest_constants)] w) ∧ sizedMet enc Tryd.prog Tryd.f8 (OpenSpec.ofChange Rows.judgeNamesSpec) false w args)
      (Rows.judgeNamesSpec.post enc Tryd.prog Tryd.f8 false true false false) := by
  refine returnsInHanded_of_change_and (C := Tryd.checked) (X := fun w _ => laidMetH Tryd.prog [("braid/digest.constants", Rows.laid_braid_digest_constants)] w) (fun _ _ _ hh h => h.of_heap hh) own started (by kernel_rfl) Tryd.func8
    (ChangeSpec.witness_shaped (enc := enc) (C := Tryd.checked) (os := os) (X := fun w _ => laidMetH Tryd.prog [("braid/digest.constants", Rows.laid_braid_digest_constants)] w) false (World.doorLaid Tryd.prog 400 os) #[] 8 rfl (World.shaped_of_RefB (by kernel_rfl) (by kernel_rfl)) (by kernel_rfl) (by kernel_rfl) (by kernel_rfl) (judgeNames_door os _)) ?_
  intro W base args ds gs before hval0 hW _ _ hL _
  have hval : ∀ (j : Nat) t v, Tryd.f8.params[j]? = some t → args[j]? = some v → Value.okWide Tryd.prog W .any base t v := hval0
  have hW' := hW
  obtain ⟨p, q, hA0, hV, rfl, hfz, hnd⟩ := hW
  have hA : DataW.TrodAll enc Tryd.prog W 0 (fun _ => true) true Tryd.f8.params.toList args.toList ds p := hA0
  rw [Tryd.params8] at hA hval
  obtain ⟨hargs, rfl, rfl⟩ := trodAll_nil hA
  obtain rfl : args = #[] := by cases args; simp_all
  obtain ⟨rfl, rfl⟩ := trodVars_none hV
  have K0 := of_laid hL
  clear hA0 hval0
  have hwalk := judgeNames 0 W K0
  refine hwalk.mono fun e W' hret => ?_
  obtain ⟨v, rfl, bel, rfl⟩ := hret
  exact ⟨_, rfl, _, _, _, [], _, [], hW', trodAll_mk1 (shut_bool Tryd.underlying4 _), trodAll_mk0, rfl, bel.frame _, fun h => by cases h⟩
theorem judgeNames_holds : Rows.JudgeNamesSaid :=
  OpenClaim.holds_of_wide 8 Tryd.f8 rfl rfl rfl rfl rfl rfl rfl ⟨rfl, rfl, rfl, rfl, rfl⟩ rfl rfl rfl rfl rfl (by kernel_rfl) Tryd.func8 (by kernel_rfl)
    (of_decide_eq_true (by kernel_rfl)) (by unfold Func.isWrapper; first | (rw [if_pos (by decide +kernel)]; kernel_rfl) | (rw [if_neg (by decide +kernel)]; exact ⟨rfl, rfl⟩))
    (fun os started H enc _ => judgeNames_lifted os started H enc)
theorem judgeNames_card : Rows.JudgeNamesCardSaid :=
  Claim7.holds_tied_plain_at .later [] [.data] true (true, "104f35b6784b2ea38b5d6679d4fffd1631d93a9a6896487cdb425c06aa7787e8") false
    judgeNames_holds (fun _ h => by cases h) (by kernel_rfl) (fun _ h => by cases h) judgeNames_row_tie rfl ⟨rfl, rfl⟩ (by kernel_rfl) rfl
    (fun f fn hf hfn => by
      obtain rfl : f = 8 := Option.some.inj ((show Tryd.prog.funcNamed "braid/braidlaw08.JudgeNames" = some 8 by kernel_rfl).symm.trans hf) |>.symm
      obtain rfl : fn = Tryd.f8 := (Option.some.inj (Tryd.func8.symm.trans hfn)).symm
      exact ⟨by kernel_rfl, fun j t ht => by
        rw [Tryd.params8] at ht
        simp at ht⟩)
    (by kernel_rfl)
end Go.Proofs.YtiohpiiiapjblaaDoor.L
