/-
  Part 12 of the lemmas of these laws: OpOne, JudgeSigned.
-/
import Derived.Test.YtiohpiiiapjblaaGreatDoorPJa11
namespace Go.Proofs.YtiohpiiiapjblaaGreatDoor.W
open Go.RowKit Go.Proofs.YtiohpiiiapjblaaGreatDoor.G
set_option linter.unusedVariables false
set_option maxRecDepth 20000
set_option maxHeartbeats 8000000
attribute [local irreducible] RS RX
theorem E8 : Enters Tryz.prog 8 := .mk Tryz.func8 (by kernel_rfl) rfl
theorem E21 : Enters Tryz.prog 21 := .mk Tryz.func21 (by kernel_rfl) rfl
theorem E30 : Enters Tryz.prog 30 := .mk Tryz.func30 (by kernel_rfl) rfl
theorem judgeOf {S0 : Nat → Prop} (a : Option Addr) (n c : Nat) (bs : List Int) (TK : TypeId) (w : World) (K0 : Kst w TK) (R0 : IRow .u8 S0 w a n bs) (hc : n ≤ c) (hn : n ≤ 1000000) :
  Calls Tryz.prog 8 #[.slice a n c] w (Ret w fun v w' => ∃ a' c', v = .tuple #[.agg ([.int .u32 (S.jdO bs).au, .slice a' (S.jdO bs).n c', .int .u64 (S.jdO bs).st, .int .u8 (S.jdO bs).k, .string (S.jdO bs).key, .int .u8 (S.jdO bs).vk, .int .i64 (S.jdO bs).num, .int .u64 (S.jdO bs).bits, .string (S.jdO bs).t, .int .u32 (S.jdO bs).e, .int .u32 (S.jdO bs).s] : List Value).toArray, .agg (ints .u8 (S.jdI bs)).toArray, .int .u8 (S.jdV bs)] ∧ (S.jdO bs).n ≤ c' ∧ WRow .u8 32 (fun k => w.heap.size ≤ k) w' a' (S.jdO bs).n (S.jdO bs).ids) := by
 replace R0 := R0.weaken (T := fun k => k < w.heap.size) (fun k hk _ => hk)
 have hbl := R0.len
 have hbd := R0.bd
 have hKl := K0.lt
 have hE := Ext.refl w
 refine enter (args := [.slice a n c]) (l := [.slice a n c, undef, undef, undef, undef, undef, undef, undef, undef, undef, undef, undef, undef, undef, undef, undef, undef, undef, undef, undef, undef, undef, undef, undef, undef, undef, undef, undef, undef, undef, undef, undef, undef]) Tryz.func8 rfl rfl ?_
 refine wp_seq_k (fun K1 hK1 => ?_)
 refine region ?_
 refine RS.alloc T33 (fun b2 w2 e2 s2 x2 B2 => ?_)
 refine RS.norm (by dsimp only [List.set]) ?_
 replace hE := Ext.tr hE x2
 replace K0 := K0.ext x2
 replace R0 := R0.ext x2
 have zw2 := x2.size
 refine RS.alloc T35 (fun b3 w3 e3 s3 x3 B3 => ?_)
 refine RS.norm (by dsimp only [List.set]) ?_
 replace hE := Ext.tr hE x3
 replace K0 := K0.ext x3
 replace R0 := R0.ext x3
 replace B2 := B2.ext x3
 have zw3 := x3.size
 have A3 : IArr .u8 w3 b3 32 (List.replicate 32 0) [] 35 := IArr.zero B3
 clear B3
 refine RS.assign (v := .int .u8 0) rfl ?_
 refine RS.nil ?_
 refine hK1 _ _ ?_
 try clear hK1
 refine wp_seq_k (fun K4 hK4 => ?_)
 refine wp_seq_k (fun K5 hK5 => ?_)
 refine region ?_
 refine RS.move (v := .slice _ _ _) rfl ?_
 refine RS.o (D.len rfl Tryz.underlying22) ?_
 refine RS.o (D.gt rfl rfl) ?_
 refine RS.nil ?_
 refine hK5 _ _ ?_
 try clear hK5
 refine C.ifd rfl (fun c6 => ?_) (fun c6 => ?_)
 ·have hg := c6
  have hv := S.jd_long (b := bs) (by omega)
  refine wp_seq_k (fun K7 hK7 => ?_)
  refine regionX (Pr (fun k => k = b2)) [(1, .q), (0, .e), (2, .e), (3, .g), (4, .q)] mixed (fun w => Pr.refl _ _) (fun h k => Pr.tr h k) (by kernel_rfl) (fun w8 x8 => ?_)
  replace hE := Ext.tr hE x8
  replace K0 := K0.ext x8
  replace R0 := R0.ext x8
  replace B2 := B2.ext x8
  replace A3 := A3.ext x8
  have zw8 := x8.size
  refine RX.o (fun w' hw => D.loadAgg rfl Tryz.underlying35 rfl C35 (by decide) (by rw [ints_length, A3.len]) (A3.pr hw (by intros; try (first | (intro _ _) | (intro _) | skip); first | omega | (dsimp only at *; omega) | (simp_all; done) | (simp at *; omega))).cells) ?_
  refine RX.eff ?_
  refine RS.o (D.loadAgg rfl Tryz.underlying33 rfl C33 (by decide) rfl (B2.cellsN 11 rfl)) ?_
  refine RS.nil ⟨(Pr.refl _ _), ?_⟩
  refine RX.eff ?_
  refine RS.storeAggB rfl rfl C33 (by decide) rfl rfl B2 rfl (fun w9 y9 N9 => ?_)
  replace hE := hE.trans (y9.below (by intros; try (first | (intro _ _) | (intro _) | skip); first | omega | (dsimp only at *; omega) | (simp_all; done) | (simp at *; omega)))
  replace K0 := K0.st y9 (by intros; try (first | (intro _ _) | (intro _) | skip); first | omega | (dsimp only at *; omega) | (simp_all; done) | (simp at *; omega))
  replace R0 := R0.st y9 (by intros; try (first | (intro _ _) | (intro _) | skip); first | omega | (dsimp only at *; omega) | (simp_all; done) | (simp at *; omega))
  replace A3 := A3.st y9 (by intros; try (first | (intro _ _) | (intro _) | skip); first | omega | (dsimp only at *; omega) | (simp_all; done) | (simp at *; omega))
  have zw9 := y9.size
  replace B2 := N9
  refine RS.nil ⟨((Pr.refl _ _).st y9 (by intros; try (first | (intro _ _) | (intro _) | skip); first | omega | (dsimp only at *; omega) | (simp_all; done) | (simp at *; omega))), ?_⟩
  refine RX.big ?_
  refine RS.storeArr A3 rfl rfl C35 (by decide) (Arr.zeros .u8 32).1 (Arr.zeros .u8 32).2 (fun w10 y10 N10 => ?_)
  replace hE := hE.trans (y10.below (by intros; try (first | (intro _ _) | (intro _) | skip); first | omega | (dsimp only at *; omega) | (simp_all; done) | (simp at *; omega)))
  replace K0 := K0.st y10 (by intros; try (first | (intro _ _) | (intro _) | skip); first | omega | (dsimp only at *; omega) | (simp_all; done) | (simp at *; omega))
  replace R0 := R0.st y10 (by intros; try (first | (intro _ _) | (intro _) | skip); first | omega | (dsimp only at *; omega) | (simp_all; done) | (simp at *; omega))
  replace B2 := B2.st y10 (by intros; try (first | (intro _ _) | (intro _) | skip); first | omega | (dsimp only at *; omega) | (simp_all; done) | (simp at *; omega))
  have zw10 := y10.size
  replace A3 := N10
  refine RS.nil ?_
  refine RX.assign (v := .int .u8 3) rfl ?_
  refine RX.nil ?_
  refine hK7 _ _ ?_
  try clear hK7
  refine wp_ret ?_
  refine ret (rs := [.cell 2 33, .cell 3 35, .tmp 4]) (vs := [.agg _, .agg _, .int _ _]) (v := (.tuple #[.agg _, .agg _, .int _ _])) rfl ⟨⟨_, rfl, loadVar_agg Tryz.underlying33 rfl C33 (by decide) rfl (B2.cellsN 11 rfl)⟩, ⟨_, rfl, loadVar_agg Tryz.underlying35 rfl C35 (by decide) (by rw [ints_length, A3.len]) A3.cells⟩, rfl, trivial⟩ rfl ?_
  obtain ⟨e1, e2⟩ := S.jd_ne (b := bs) (by rw [hv]; decide)
  rw [e1, e2, hv]
  exact ⟨_, rfl, hE, _, _, rfl, Nat.le_refl _, WRow.nil⟩
 ·have hg := c6
  refine wp_skip ?_
  refine hK4 _ _ ?_
  try clear hK4
  refine wp_seq_k (fun K11 hK11 => ?_)
  refine region ?_
  refine RS.move (v := .slice _ _ _) rfl ?_
  refine RS.call E21 (decodeO _ _ _ _ _ R0 hc hn) rfl (fun v12 w12 x12 A12 => ?_)
  replace hE := Ext.tr hE x12
  replace K0 := K0.ext x12
  replace R0 := R0.ext x12
  replace B2 := B2.ext x12
  replace A3 := A3.ext x12
  have zw12 := x12.size
  obtain ⟨aD, cD, rfl, hcD, DD⟩ := A12
  obtain ⟨hok, hdl⟩ := S.decO_ok hbd
  replace DD := DD.weaken (T := fun k => b3 < k ∧ k < w12.heap.size) (fun k hk h => by omega)
  refine RS.norm (by dsimp only [List.set]) ?_
  refine RS.move (v := .tuple _) rfl ?_
  refine RS.extract (v := .agg _) rfl rfl ?_
  refine RS.extract (v := .int _ _) rfl rfl ?_
  refine RS.alloc T33 (fun b13 w13 e13 s13 x13 B13 => ?_)
  refine RS.norm (by dsimp only [List.set]) ?_
  replace hE := Ext.tr hE x13
  replace K0 := K0.ext x13
  replace R0 := R0.ext x13
  replace B2 := B2.ext x13
  replace A3 := A3.ext x13
  replace DD := DD.ext x13
  have zw13 := x13.size
  refine RS.storeAggB rfl rfl C33 (by decide) rfl rfl B13 rfl (fun w14 y14 N14 => ?_)
  replace hE := hE.trans (y14.below (by intros; try (first | (intro _ _) | (intro _) | skip); first | omega | (dsimp only at *; omega) | (simp_all; done) | (simp at *; omega)))
  replace K0 := K0.st y14 (by intros; try (first | (intro _ _) | (intro _) | skip); first | omega | (dsimp only at *; omega) | (simp_all; done) | (simp at *; omega))
  replace R0 := R0.st y14 (by intros; try (first | (intro _ _) | (intro _) | skip); first | omega | (dsimp only at *; omega) | (simp_all; done) | (simp at *; omega))
  replace B2 := B2.st y14 (by intros; try (first | (intro _ _) | (intro _) | skip); first | omega | (dsimp only at *; omega) | (simp_all; done) | (simp at *; omega))
  replace A3 := A3.st y14 (by intros; try (first | (intro _ _) | (intro _) | skip); first | omega | (dsimp only at *; omega) | (simp_all; done) | (simp at *; omega))
  replace DD := DD.st y14 (by intros; try (first | (intro _ _) | (intro _) | skip); first | omega | (dsimp only at *; omega) | (simp_all; done) | (simp at *; omega))
  have zw14 := y14.size
  replace B13 := N14
  refine RS.assign (v := .int _ _) rfl ?_
  refine RS.nil ?_
  refine hK11 _ _ ?_
  try clear hK11
  refine wp_seq_k (fun K15 hK15 => ?_)
  refine wp_seq_k (fun K16 hK16 => ?_)
  refine region ?_
  refine RS.move (v := .int _ _) rfl ?_
  refine RS.o (D.ne rfl rfl) ?_
  refine RS.nil ?_
  refine hK16 _ _ ?_
  try clear hK16
  refine C.ifn rfl (fun c17 => ?_) (fun c17 => ?_)
  ·have hz := c17
   have hv := S.jd_form (b := bs) (by omega) hz
   refine wp_seq_k (fun K18 hK18 => ?_)
   refine regionX (Pr (fun k => k = b2)) [(1, .q), (0, .e), (2, .e), (3, .g), (4, .q)] mixed (fun w => Pr.refl _ _) (fun h k => Pr.tr h k) (by kernel_rfl) (fun w19 x19 => ?_)
   replace hE := Ext.tr hE x19
   replace K0 := K0.ext x19
   replace R0 := R0.ext x19
   replace B2 := B2.ext x19
   replace A3 := A3.ext x19
   replace DD := DD.ext x19
   replace B13 := B13.ext x19
   have zw19 := x19.size
   refine RX.o (fun w' hw => D.loadAgg rfl Tryz.underlying35 rfl C35 (by decide) (by rw [ints_length, A3.len]) (A3.pr hw (by intros; try (first | (intro _ _) | (intro _) | skip); first | omega | (dsimp only at *; omega) | (simp_all; done) | (simp at *; omega))).cells) ?_
   refine RX.eff ?_
   refine RS.o (D.loadAgg rfl Tryz.underlying33 rfl C33 (by decide) rfl (B2.cellsN 11 rfl)) ?_
   refine RS.nil ⟨(Pr.refl _ _), ?_⟩
   refine RX.eff ?_
   refine RS.storeAggB rfl rfl C33 (by decide) rfl rfl B2 rfl (fun w20 y20 N20 => ?_)
   replace hE := hE.trans (y20.below (by intros; try (first | (intro _ _) | (intro _) | skip); first | omega | (dsimp only at *; omega) | (simp_all; done) | (simp at *; omega)))
   replace K0 := K0.st y20 (by intros; try (first | (intro _ _) | (intro _) | skip); first | omega | (dsimp only at *; omega) | (simp_all; done) | (simp at *; omega))
   replace R0 := R0.st y20 (by intros; try (first | (intro _ _) | (intro _) | skip); first | omega | (dsimp only at *; omega) | (simp_all; done) | (simp at *; omega))
   replace A3 := A3.st y20 (by intros; try (first | (intro _ _) | (intro _) | skip); first | omega | (dsimp only at *; omega) | (simp_all; done) | (simp at *; omega))
   replace DD := DD.st y20 (by intros; try (first | (intro _ _) | (intro _) | skip); first | omega | (dsimp only at *; omega) | (simp_all; done) | (simp at *; omega))
   replace B13 := B13.st y20 (by intros; try (first | (intro _ _) | (intro _) | skip); first | omega | (dsimp only at *; omega) | (simp_all; done) | (simp at *; omega))
   have zw20 := y20.size
   replace B2 := N20
   refine RS.nil ⟨((Pr.refl _ _).st y20 (by intros; try (first | (intro _ _) | (intro _) | skip); first | omega | (dsimp only at *; omega) | (simp_all; done) | (simp at *; omega))), ?_⟩
   refine RX.big ?_
   refine RS.storeArr A3 rfl rfl C35 (by decide) (Arr.zeros .u8 32).1 (Arr.zeros .u8 32).2 (fun w21 y21 N21 => ?_)
   replace hE := hE.trans (y21.below (by intros; try (first | (intro _ _) | (intro _) | skip); first | omega | (dsimp only at *; omega) | (simp_all; done) | (simp at *; omega)))
   replace K0 := K0.st y21 (by intros; try (first | (intro _ _) | (intro _) | skip); first | omega | (dsimp only at *; omega) | (simp_all; done) | (simp at *; omega))
   replace R0 := R0.st y21 (by intros; try (first | (intro _ _) | (intro _) | skip); first | omega | (dsimp only at *; omega) | (simp_all; done) | (simp at *; omega))
   replace B2 := B2.st y21 (by intros; try (first | (intro _ _) | (intro _) | skip); first | omega | (dsimp only at *; omega) | (simp_all; done) | (simp at *; omega))
   replace DD := DD.st y21 (by intros; try (first | (intro _ _) | (intro _) | skip); first | omega | (dsimp only at *; omega) | (simp_all; done) | (simp at *; omega))
   replace B13 := B13.st y21 (by intros; try (first | (intro _ _) | (intro _) | skip); first | omega | (dsimp only at *; omega) | (simp_all; done) | (simp at *; omega))
   have zw21 := y21.size
   replace A3 := N21
   refine RS.nil ?_
   refine RX.assign (v := .int .u8 2) rfl ?_
   refine RX.nil ?_
   refine hK18 _ _ ?_
   try clear hK18
   refine wp_ret ?_
   refine ret (rs := [.cell 2 33, .cell 3 35, .tmp 4]) (vs := [.agg _, .agg _, .int _ _]) (v := (.tuple #[.agg _, .agg _, .int _ _])) rfl ⟨⟨_, rfl, loadVar_agg Tryz.underlying33 rfl C33 (by decide) rfl (B2.cellsN 11 rfl)⟩, ⟨_, rfl, loadVar_agg Tryz.underlying35 rfl C35 (by decide) (by rw [ints_length, A3.len]) A3.cells⟩, rfl, trivial⟩ rfl ?_
   obtain ⟨e1, e2⟩ := S.jd_ne (b := bs) (by rw [hv]; decide)
   rw [e1, e2, hv]
   exact ⟨_, rfl, hE, _, _, rfl, Nat.le_refl _, WRow.nil⟩
  ·have hz := c17
   have hck := (S.dec_good hbd hz).1
   refine wp_skip ?_
   refine hK15 _ _ ?_
   try clear hK15
   refine wp_seq_k (fun K22 hK22 => ?_)
   refine wp_seq_k (fun K23 hK23 => ?_)
   refine region ?_
   refine RS.o (D.loadAgg rfl Tryz.underlying33 rfl C33 (by decide) rfl (B13.cellsN 11 rfl)) ?_
   refine RS.call E25 (verifyO _ hok _ _ _ _ K0 DD hcD) rfl (fun v24 w24 x24 A24 => ?_)
   replace hE := Ext.tr hE x24
   replace K0 := K0.ext x24
   replace R0 := R0.ext x24
   replace B2 := B2.ext x24
   replace A3 := A3.ext x24
   replace DD := DD.ext x24
   replace B13 := B13.ext x24
   have zw24 := x24.size
   subst A24
   refine RS.norm (by dsimp only [List.set]) ?_
   refine RS.o (D.ne rfl rfl) ?_
   refine RS.nil ?_
   refine hK23 _ _ ?_
   try clear hK23
   refine C.ifn rfl (fun c25 => ?_) (fun c25 => ?_)
   ·have hs := c25
    have hv := S.jd_sig (b := bs) (by omega) hz hs
    refine wp_seq_k (fun K26 hK26 => ?_)
    refine regionX (Pr (fun k => k = b2)) [(1, .q), (0, .e), (2, .e), (3, .g), (4, .q)] mixed (fun w => Pr.refl _ _) (fun h k => Pr.tr h k) (by kernel_rfl) (fun w27 x27 => ?_)
    replace hE := Ext.tr hE x27
    replace K0 := K0.ext x27
    replace R0 := R0.ext x27
    replace B2 := B2.ext x27
    replace A3 := A3.ext x27
    replace DD := DD.ext x27
    replace B13 := B13.ext x27
    have zw27 := x27.size
    refine RX.o (fun w' hw => D.loadAgg rfl Tryz.underlying35 rfl C35 (by decide) (by rw [ints_length, A3.len]) (A3.pr hw (by intros; try (first | (intro _ _) | (intro _) | skip); first | omega | (dsimp only at *; omega) | (simp_all; done) | (simp at *; omega))).cells) ?_
    refine RX.eff ?_
    refine RS.o (D.loadAgg rfl Tryz.underlying33 rfl C33 (by decide) rfl (B2.cellsN 11 rfl)) ?_
    refine RS.nil ⟨(Pr.refl _ _), ?_⟩
    refine RX.eff ?_
    refine RS.storeAggB rfl rfl C33 (by decide) rfl rfl B2 rfl (fun w28 y28 N28 => ?_)
    replace hE := hE.trans (y28.below (by intros; try (first | (intro _ _) | (intro _) | skip); first | omega | (dsimp only at *; omega) | (simp_all; done) | (simp at *; omega)))
    replace K0 := K0.st y28 (by intros; try (first | (intro _ _) | (intro _) | skip); first | omega | (dsimp only at *; omega) | (simp_all; done) | (simp at *; omega))
    replace R0 := R0.st y28 (by intros; try (first | (intro _ _) | (intro _) | skip); first | omega | (dsimp only at *; omega) | (simp_all; done) | (simp at *; omega))
    replace A3 := A3.st y28 (by intros; try (first | (intro _ _) | (intro _) | skip); first | omega | (dsimp only at *; omega) | (simp_all; done) | (simp at *; omega))
    replace DD := DD.st y28 (by intros; try (first | (intro _ _) | (intro _) | skip); first | omega | (dsimp only at *; omega) | (simp_all; done) | (simp at *; omega))
    replace B13 := B13.st y28 (by intros; try (first | (intro _ _) | (intro _) | skip); first | omega | (dsimp only at *; omega) | (simp_all; done) | (simp at *; omega))
    have zw28 := y28.size
    replace B2 := N28
    refine RS.nil ⟨((Pr.refl _ _).st y28 (by intros; try (first | (intro _ _) | (intro _) | skip); first | omega | (dsimp only at *; omega) | (simp_all; done) | (simp at *; omega))), ?_⟩
    refine RX.big ?_
    refine RS.storeArr A3 rfl rfl C35 (by decide) (Arr.zeros .u8 32).1 (Arr.zeros .u8 32).2 (fun w29 y29 N29 => ?_)
    replace hE := hE.trans (y29.below (by intros; try (first | (intro _ _) | (intro _) | skip); first | omega | (dsimp only at *; omega) | (simp_all; done) | (simp at *; omega)))
    replace K0 := K0.st y29 (by intros; try (first | (intro _ _) | (intro _) | skip); first | omega | (dsimp only at *; omega) | (simp_all; done) | (simp at *; omega))
    replace R0 := R0.st y29 (by intros; try (first | (intro _ _) | (intro _) | skip); first | omega | (dsimp only at *; omega) | (simp_all; done) | (simp at *; omega))
    replace B2 := B2.st y29 (by intros; try (first | (intro _ _) | (intro _) | skip); first | omega | (dsimp only at *; omega) | (simp_all; done) | (simp at *; omega))
    replace DD := DD.st y29 (by intros; try (first | (intro _ _) | (intro _) | skip); first | omega | (dsimp only at *; omega) | (simp_all; done) | (simp at *; omega))
    replace B13 := B13.st y29 (by intros; try (first | (intro _ _) | (intro _) | skip); first | omega | (dsimp only at *; omega) | (simp_all; done) | (simp at *; omega))
    have zw29 := y29.size
    replace A3 := N29
    refine RS.nil ?_
    refine RX.assign (v := .int .u8 4) rfl ?_
    refine RX.nil ?_
    refine hK26 _ _ ?_
    try clear hK26
    refine wp_ret ?_
    refine ret (rs := [.cell 2 33, .cell 3 35, .tmp 4]) (vs := [.agg _, .agg _, .int _ _]) (v := (.tuple #[.agg _, .agg _, .int _ _])) rfl ⟨⟨_, rfl, loadVar_agg Tryz.underlying33 rfl C33 (by decide) rfl (B2.cellsN 11 rfl)⟩, ⟨_, rfl, loadVar_agg Tryz.underlying35 rfl C35 (by decide) (by rw [ints_length, A3.len]) A3.cells⟩, rfl, trivial⟩ rfl ?_
    obtain ⟨e1, e2⟩ := S.jd_ne (b := bs) (by rw [hv]; decide)
    rw [e1, e2, hv]
    exact ⟨_, rfl, hE, _, _, rfl, Nat.le_refl _, WRow.nil⟩
   ·have hs := c25
    have hv := S.jd_fine (b := bs) (by omega) hz hs
    obtain ⟨e1, e2⟩ := S.jd_zero hv
    have hsh := S.sha_arr (S.encS (S.decO bs))
    refine wp_skip ?_
    refine hK22 _ _ ?_
    try clear hK22
    refine wp_seq_k (fun K30 hK30 => ?_)
    refine region ?_
    refine RS.o (D.loadAgg rfl Tryz.underlying33 rfl C33 (by decide) rfl (B13.cellsN 11 rfl)) ?_
    refine RS.call E30 (idO _ hok _ _ _ _ K0 DD hcD) rfl (fun v31 w31 x31 A31 => ?_)
    replace hE := Ext.tr hE x31
    replace K0 := K0.ext x31
    replace R0 := R0.ext x31
    replace B2 := B2.ext x31
    replace A3 := A3.ext x31
    replace DD := DD.ext x31
    replace B13 := B13.ext x31
    have zw31 := x31.size
    subst A31
    rw [if_pos hck]
    refine RS.norm (by dsimp only [List.set]) ?_
    refine RS.move (v := .tuple _) rfl ?_
    refine RS.extract (v := .agg _) rfl rfl ?_
    refine RS.extract (v := .int _ _) rfl rfl ?_
    refine RS.storeArr A3 rfl rfl C35 (by decide) hsh.1 hsh.2 (fun w32 y32 N32 => ?_)
    replace hE := hE.trans (y32.below (by intros; try (first | (intro _ _) | (intro _) | skip); first | omega | (dsimp only at *; omega) | (simp_all; done) | (simp at *; omega)))
    replace K0 := K0.st y32 (by intros; try (first | (intro _ _) | (intro _) | skip); first | omega | (dsimp only at *; omega) | (simp_all; done) | (simp at *; omega))
    replace R0 := R0.st y32 (by intros; try (first | (intro _ _) | (intro _) | skip); first | omega | (dsimp only at *; omega) | (simp_all; done) | (simp at *; omega))
    replace B2 := B2.st y32 (by intros; try (first | (intro _ _) | (intro _) | skip); first | omega | (dsimp only at *; omega) | (simp_all; done) | (simp at *; omega))
    replace DD := DD.st y32 (by intros; try (first | (intro _ _) | (intro _) | skip); first | omega | (dsimp only at *; omega) | (simp_all; done) | (simp at *; omega))
    replace B13 := B13.st y32 (by intros; try (first | (intro _ _) | (intro _) | skip); first | omega | (dsimp only at *; omega) | (simp_all; done) | (simp at *; omega))
    have zw32 := y32.size
    replace A3 := N32
    refine RS.nil ?_
    refine hK30 _ _ ?_
    try clear hK30
    refine wp_seq_k (fun K33 hK33 => ?_)
    refine regionX (Pr (fun k => k = b2)) [(0, .q), (1, .q), (2, .e), (3, .g), (4, .q)] mixed (fun w => Pr.refl _ _) (fun h k => Pr.tr h k) (by kernel_rfl) (fun w34 x34 => ?_)
    replace hE := Ext.tr hE x34
    replace K0 := K0.ext x34
    replace R0 := R0.ext x34
    replace B2 := B2.ext x34
    replace A3 := A3.ext x34
    replace DD := DD.ext x34
    replace B13 := B13.ext x34
    have zw34 := x34.size
    refine RX.o (fun w' hw => D.loadAgg rfl Tryz.underlying33 rfl C33 (by decide) rfl ((B13.pr hw (by intros; try (first | (intro _ _) | (intro _) | skip); first | omega | (dsimp only at *; omega) | (simp_all; done) | (simp at *; omega))).cellsN 11 rfl)) ?_
    refine RX.o (fun w' hw => D.loadAgg rfl Tryz.underlying35 rfl C35 (by decide) (by rw [ints_length, A3.len]) (A3.pr hw (by intros; try (first | (intro _ _) | (intro _) | skip); first | omega | (dsimp only at *; omega) | (simp_all; done) | (simp at *; omega))).cells) ?_
    refine RX.eff ?_
    refine RS.storeAggB rfl rfl C33 (by decide) rfl rfl B2 rfl (fun w35 y35 N35 => ?_)
    replace hE := hE.trans (y35.below (by intros; try (first | (intro _ _) | (intro _) | skip); first | omega | (dsimp only at *; omega) | (simp_all; done) | (simp at *; omega)))
    replace K0 := K0.st y35 (by intros; try (first | (intro _ _) | (intro _) | skip); first | omega | (dsimp only at *; omega) | (simp_all; done) | (simp at *; omega))
    replace R0 := R0.st y35 (by intros; try (first | (intro _ _) | (intro _) | skip); first | omega | (dsimp only at *; omega) | (simp_all; done) | (simp at *; omega))
    replace A3 := A3.st y35 (by intros; try (first | (intro _ _) | (intro _) | skip); first | omega | (dsimp only at *; omega) | (simp_all; done) | (simp at *; omega))
    replace DD := DD.st y35 (by intros; try (first | (intro _ _) | (intro _) | skip); first | omega | (dsimp only at *; omega) | (simp_all; done) | (simp at *; omega))
    replace B13 := B13.st y35 (by intros; try (first | (intro _ _) | (intro _) | skip); first | omega | (dsimp only at *; omega) | (simp_all; done) | (simp at *; omega))
    have zw35 := y35.size
    replace B2 := N35
    refine RS.nil ⟨((Pr.refl _ _).st y35 (by intros; try (first | (intro _ _) | (intro _) | skip); first | omega | (dsimp only at *; omega) | (simp_all; done) | (simp at *; omega))), ?_⟩
    refine RX.big ?_
    refine RS.storeArr A3 rfl rfl C35 (by decide) hsh.1 hsh.2 (fun w36 y36 N36 => ?_)
    replace hE := hE.trans (y36.below (by intros; try (first | (intro _ _) | (intro _) | skip); first | omega | (dsimp only at *; omega) | (simp_all; done) | (simp at *; omega)))
    replace K0 := K0.st y36 (by intros; try (first | (intro _ _) | (intro _) | skip); first | omega | (dsimp only at *; omega) | (simp_all; done) | (simp at *; omega))
    replace R0 := R0.st y36 (by intros; try (first | (intro _ _) | (intro _) | skip); first | omega | (dsimp only at *; omega) | (simp_all; done) | (simp at *; omega))
    replace B2 := B2.st y36 (by intros; try (first | (intro _ _) | (intro _) | skip); first | omega | (dsimp only at *; omega) | (simp_all; done) | (simp at *; omega))
    replace DD := DD.st y36 (by intros; try (first | (intro _ _) | (intro _) | skip); first | omega | (dsimp only at *; omega) | (simp_all; done) | (simp at *; omega))
    replace B13 := B13.st y36 (by intros; try (first | (intro _ _) | (intro _) | skip); first | omega | (dsimp only at *; omega) | (simp_all; done) | (simp at *; omega))
    have zw36 := y36.size
    replace A3 := N36
    refine RS.nil ?_
    refine RX.assign (v := .int .u8 0) rfl ?_
    refine RX.nil ?_
    refine hK33 _ _ ?_
    try clear hK33
    refine wp_ret ?_
    refine ret (rs := [.cell 2 33, .cell 3 35, .tmp 4]) (vs := [.agg _, .agg _, .int _ _]) (v := (.tuple #[.agg _, .agg _, .int _ _])) rfl ⟨⟨_, rfl, loadVar_agg Tryz.underlying33 rfl C33 (by decide) rfl (B2.cellsN 11 rfl)⟩, ⟨_, rfl, loadVar_agg Tryz.underlying35 rfl C35 (by decide) (by rw [ints_length, A3.len]) A3.cells⟩, rfl, trivial⟩ rfl ?_
    rw [e1, e2, hv]
    exact ⟨_, rfl, hE, _, _, rfl, hcD, DD.weaken (fun k _ h => by omega)⟩
theorem judgeFine {S0 : Nat → Prop} (a : Option Addr) (n c : Nat) (bs : List Int) (TK : TypeId) (w : World) (K0 : Kst w TK) (R0 : IRow .u8 S0 w a n bs) (hc : n ≤ c) (hn : n ≤ 1000000) :
  Calls Tryz.prog 10 #[.slice a n c] w (Ret w fun v _ => v = .bool (S.jdV bs == 0)) := by
 replace R0 := R0.weaken (T := fun k => k < w.heap.size) (fun k hk _ => hk)
 have hbl := R0.len
 have hbd := R0.bd
 have hKl := K0.lt
 have hE := Ext.refl w
 refine enter (args := [.slice a n c]) (l := [.slice a n c, undef, undef, undef, undef, undef, undef, undef, undef, undef, undef, undef, undef, undef]) Tryz.func10 rfl rfl ?_
 refine wp_seq_k (fun K1 hK1 => ?_)
 refine region ?_
 refine RS.assign (v := .bool false) rfl ?_
 refine RS.nil ?_
 refine hK1 _ _ ?_
 try clear hK1
 refine wp_seq_k (fun K2 hK2 => ?_)
 refine region ?_
 refine RS.move (v := .slice _ _ _) rfl ?_
 refine RS.call E8 (judgeOf _ _ _ _ _ _ K0 R0 hc hn) rfl (fun v3 w3 x3 A3 => ?_)
 replace hE := Ext.tr hE x3
 replace K0 := K0.ext x3
 replace R0 := R0.ext x3
 have zw3 := x3.size
 obtain ⟨aJ, cJ, rfl, hcJ, DJ⟩ := A3
 have hjI := S.jdI_arr bs
 refine RS.norm (by dsimp only [List.set]) ?_
 refine RS.move (v := .tuple _) rfl ?_
 refine RS.extract (v := .agg _) rfl rfl ?_
 refine RS.extract (v := .agg _) rfl rfl ?_
 refine RS.extract (v := .int _ _) rfl rfl ?_
 refine RS.alloc T33 (fun b4 w4 e4 s4 x4 B4 => ?_)
 refine RS.norm (by dsimp only [List.set]) ?_
 replace hE := Ext.tr hE x4
 replace K0 := K0.ext x4
 replace R0 := R0.ext x4
 have zw4 := x4.size
 refine RS.alloc T35 (fun b5 w5 e5 s5 x5 B5 => ?_)
 refine RS.norm (by dsimp only [List.set]) ?_
 replace hE := Ext.tr hE x5
 replace K0 := K0.ext x5
 replace R0 := R0.ext x5
 replace B4 := B4.ext x5
 have zw5 := x5.size
 have A5 : IArr .u8 w5 b5 32 (List.replicate 32 0) [] 35 := IArr.zero B5
 clear B5
 refine RS.storeAggB rfl rfl C33 (by decide) rfl rfl B4 rfl (fun w6 y6 N6 => ?_)
 replace hE := hE.trans (y6.below (by intros; try (first | (intro _ _) | (intro _) | skip); first | omega | (dsimp only at *; omega) | (simp_all; done) | (simp at *; omega)))
 replace K0 := K0.st y6 (by intros; try (first | (intro _ _) | (intro _) | skip); first | omega | (dsimp only at *; omega) | (simp_all; done) | (simp at *; omega))
 replace R0 := R0.st y6 (by intros; try (first | (intro _ _) | (intro _) | skip); first | omega | (dsimp only at *; omega) | (simp_all; done) | (simp at *; omega))
 replace A5 := A5.st y6 (by intros; try (first | (intro _ _) | (intro _) | skip); first | omega | (dsimp only at *; omega) | (simp_all; done) | (simp at *; omega))
 have zw6 := y6.size
 replace B4 := N6
 refine RS.storeArr A5 rfl rfl C35 (by decide) hjI.1 hjI.2 (fun w7 y7 N7 => ?_)
 replace hE := hE.trans (y7.below (by intros; try (first | (intro _ _) | (intro _) | skip); first | omega | (dsimp only at *; omega) | (simp_all; done) | (simp at *; omega)))
 replace K0 := K0.st y7 (by intros; try (first | (intro _ _) | (intro _) | skip); first | omega | (dsimp only at *; omega) | (simp_all; done) | (simp at *; omega))
 replace R0 := R0.st y7 (by intros; try (first | (intro _ _) | (intro _) | skip); first | omega | (dsimp only at *; omega) | (simp_all; done) | (simp at *; omega))
 replace B4 := B4.st y7 (by intros; try (first | (intro _ _) | (intro _) | skip); first | omega | (dsimp only at *; omega) | (simp_all; done) | (simp at *; omega))
 have zw7 := y7.size
 replace A5 := N7
 refine RS.assign (v := .int _ _) rfl ?_
 refine RS.nil ?_
 refine hK2 _ _ ?_
 try clear hK2
 refine wp_seq_k (fun K8 hK8 => ?_)
 refine region ?_
 refine RS.move (v := .int _ _) rfl ?_
 refine RS.o (D.eq rfl rfl) ?_
 refine RS.assign (v := .bool _) rfl ?_
 refine RS.nil ?_
 refine hK8 _ _ ?_
 try clear hK8
 refine wp_ret ?_
 refine ret (rs := [.tmp 2]) (vs := [.bool _]) (v := (.bool _)) rfl ⟨rfl, trivial⟩ rfl ?_
 exact ⟨_, rfl, hE, rfl⟩
theorem verdictW {S0 : Nat → Prop} (a : Option Addr) (n c : Nat) (bs : List Int) (TK : TypeId) (w : World) (K0 : Kst w TK) (R0 : IRow .u8 S0 w a n bs) (hc : n ≤ c) (hn : n ≤ 1000000) :
  Calls Tryz.prog 34 #[.slice a n c] w (Ret w fun v _ => v = .int .u8 (S.jdV bs)) := by
 replace R0 := R0.weaken (T := fun k => k < w.heap.size) (fun k hk _ => hk)
 have hbl := R0.len
 have hbd := R0.bd
 have hKl := K0.lt
 have hE := Ext.refl w
 refine enter (args := [.slice a n c]) (l := [.slice a n c, undef, undef, undef, undef, undef, undef, undef, undef, undef, undef, undef, undef]) Tryz.func34 rfl rfl ?_
 refine wp_seq_k (fun K1 hK1 => ?_)
 refine region ?_
 refine RS.assign (v := .int .u8 0) rfl ?_
 refine RS.nil ?_
 refine hK1 _ _ ?_
 try clear hK1
 refine wp_seq_k (fun K2 hK2 => ?_)
 refine region ?_
 refine RS.move (v := .slice _ _ _) rfl ?_
 refine RS.call E8 (judgeOf _ _ _ _ _ _ K0 R0 hc hn) rfl (fun v3 w3 x3 A3 => ?_)
 replace hE := Ext.tr hE x3
 replace K0 := K0.ext x3
 replace R0 := R0.ext x3
 have zw3 := x3.size
 obtain ⟨aJ, cJ, rfl, hcJ, DJ⟩ := A3
 have hjI := S.jdI_arr bs
 refine RS.norm (by dsimp only [List.set]) ?_
 refine RS.move (v := .tuple _) rfl ?_
 refine RS.extract (v := .agg _) rfl rfl ?_
 refine RS.extract (v := .agg _) rfl rfl ?_
 refine RS.extract (v := .int _ _) rfl rfl ?_
 refine RS.alloc T33 (fun b4 w4 e4 s4 x4 B4 => ?_)
 refine RS.norm (by dsimp only [List.set]) ?_
 replace hE := Ext.tr hE x4
 replace K0 := K0.ext x4
 replace R0 := R0.ext x4
 have zw4 := x4.size
 refine RS.alloc T35 (fun b5 w5 e5 s5 x5 B5 => ?_)
 refine RS.norm (by dsimp only [List.set]) ?_
 replace hE := Ext.tr hE x5
 replace K0 := K0.ext x5
 replace R0 := R0.ext x5
 replace B4 := B4.ext x5
 have zw5 := x5.size
 have A5 : IArr .u8 w5 b5 32 (List.replicate 32 0) [] 35 := IArr.zero B5
 clear B5
 refine RS.storeAggB rfl rfl C33 (by decide) rfl rfl B4 rfl (fun w6 y6 N6 => ?_)
 replace hE := hE.trans (y6.below (by intros; try (first | (intro _ _) | (intro _) | skip); first | omega | (dsimp only at *; omega) | (simp_all; done) | (simp at *; omega)))
 replace K0 := K0.st y6 (by intros; try (first | (intro _ _) | (intro _) | skip); first | omega | (dsimp only at *; omega) | (simp_all; done) | (simp at *; omega))
 replace R0 := R0.st y6 (by intros; try (first | (intro _ _) | (intro _) | skip); first | omega | (dsimp only at *; omega) | (simp_all; done) | (simp at *; omega))
 replace A5 := A5.st y6 (by intros; try (first | (intro _ _) | (intro _) | skip); first | omega | (dsimp only at *; omega) | (simp_all; done) | (simp at *; omega))
 have zw6 := y6.size
 replace B4 := N6
 refine RS.storeArr A5 rfl rfl C35 (by decide) hjI.1 hjI.2 (fun w7 y7 N7 => ?_)
 replace hE := hE.trans (y7.below (by intros; try (first | (intro _ _) | (intro _) | skip); first | omega | (dsimp only at *; omega) | (simp_all; done) | (simp at *; omega)))
 replace K0 := K0.st y7 (by intros; try (first | (intro _ _) | (intro _) | skip); first | omega | (dsimp only at *; omega) | (simp_all; done) | (simp at *; omega))
 replace R0 := R0.st y7 (by intros; try (first | (intro _ _) | (intro _) | skip); first | omega | (dsimp only at *; omega) | (simp_all; done) | (simp at *; omega))
 replace B4 := B4.st y7 (by intros; try (first | (intro _ _) | (intro _) | skip); first | omega | (dsimp only at *; omega) | (simp_all; done) | (simp at *; omega))
 have zw7 := y7.size
 replace A5 := N7
 refine RS.assign (v := .int _ _) rfl ?_
 refine RS.nil ?_
 refine hK2 _ _ ?_
 try clear hK2
 refine wp_seq_k (fun K8 hK8 => ?_)
 refine region ?_
 refine RS.move (v := .int _ _) rfl ?_
 refine RS.assign (v := .int _ _) rfl ?_
 refine RS.nil ?_
 refine hK8 _ _ ?_
 try clear hK8
 refine wp_ret ?_
 refine ret (rs := [.tmp 2]) (vs := [.int _ _]) (v := (.int _ _)) rfl ⟨rfl, trivial⟩ rfl ?_
 exact ⟨_, rfl, hE, rfl⟩
end Go.Proofs.YtiohpiiiapjblaaGreatDoor.W
namespace Go.Proofs.YtiohpiiiapjblaaGreatDoor.W
open Go.RowKit Go.Proofs.YtiohpiiiapjblaaGreatDoor.G
set_option linter.unusedVariables false
set_option maxRecDepth 20000
set_option maxHeartbeats 8000000
attribute [local irreducible] RS RX
theorem E10 : Enters Tryz.prog 10 := .mk Tryz.func10 (by kernel_rfl) rfl
theorem E34 : Enters Tryz.prog 34 := .mk Tryz.func34 (by kernel_rfl) rfl
theorem E66 : Enters Tryz.prog 66 := .mk Tryz.func66 (by kernel_rfl) rfl
theorem signedJ (x : Int) (hx : 0 ≤ x ∧ x < 4294967296) (TK : TypeId) (w : World) (K0 : Kst w TK) :
  Calls Tryz.prog 66 #[.int .u32 x] w (Ret w fun v w' => ∃ a' n' c', v = .slice a' n' c' ∧ IOwn w.heap.size w' 5 .u8 a' n' c' (S.sgnB x)) := by
 have hKl := K0.lt
 have hE := Ext.refl w
 refine enter (args := [.int .u32 x]) (l := [.int .u32 x, undef, undef, undef, undef, undef, undef, undef, undef, undef, undef, undef, undef, undef, undef, undef, undef, undef, undef, undef]) Tryz.func66 rfl rfl ?_
 refine wp_seq_k (fun K1 hK1 => ?_)
 refine region ?_
 refine RS.assign (v := .slice none 0 0) rfl ?_
 refine RS.nil ?_
 refine hK1 _ _ ?_
 try clear hK1
 refine wp_seq_k (fun K2 hK2 => ?_)
 refine region ?_
 refine RS.move (v := .int _ _) rfl ?_
 refine RS.o (D.buildS T29 F29 (ps := [(0, .int _ _), (1, .string _)]) rfl rfl) ?_
 refine RS.o (D.buildS T33 F33 (ps := [(2, .int _ _), (3, .agg _)]) rfl rfl) ?_
 refine RS.call E23 (signO _ hx S.kO S.kO_ok _ _ _ _ K0 (WRow.nil (S := fun _ => False)) (Nat.le_refl _)) rfl (fun v3 w3 x3 A3 => ?_)
 replace hE := Ext.tr hE x3
 replace K0 := K0.ext x3
 have zw3 := x3.size
 obtain ⟨aG, cG, rfl, hcG, RG⟩ := A3
 replace RG := RG.weaken (T := fun k => k < w3.heap.size) (fun k hk _ => hk)
 refine RS.norm (by dsimp only [List.set]) ?_
 refine RS.move (v := .tuple _) rfl ?_
 refine RS.extract (v := .agg _) rfl rfl ?_
 refine RS.extract (v := .int _ _) rfl rfl ?_
 refine RS.alloc T33 (fun b4 w4 e4 s4 x4 B4 => ?_)
 refine RS.norm (by dsimp only [List.set]) ?_
 replace hE := Ext.tr hE x4
 replace K0 := K0.ext x4
 replace RG := RG.ext x4
 have zw4 := x4.size
 refine RS.storeAggB rfl rfl C33 (by decide) rfl rfl B4 rfl (fun w5 y5 N5 => ?_)
 replace hE := hE.trans (y5.below (by intros; try (first | (intro _ _) | (intro _) | skip); first | omega | (dsimp only at *; omega) | (simp_all; done) | (simp at *; omega)))
 replace K0 := K0.st y5 (by intros; try (first | (intro _ _) | (intro _) | skip); first | omega | (dsimp only at *; omega) | (simp_all; done) | (simp at *; omega))
 replace RG := RG.st y5 (by intros; try (first | (intro _ _) | (intro _) | skip); first | omega | (dsimp only at *; omega) | (simp_all; done) | (simp at *; omega))
 have zw5 := y5.size
 replace B4 := N5
 refine RS.assign (v := .int _ _) rfl ?_
 refine RS.nil ?_
 refine hK2 _ _ ?_
 try clear hK2
 refine wp_seq_k (fun K6 hK6 => ?_)
 refine region ?_
 refine RS.o (D.loadAgg rfl Tryz.underlying33 rfl C33 (by decide) rfl (B4.cellsN 11 rfl)) ?_
 refine RS.call E29 (encodeO (S.signS x S.kO) (S.signS_ok x S.kO S.kO_ok) _ _ _ RG hcG) rfl (fun v7 w7 x7 A7 => ?_)
 replace hE := Ext.tr hE x7
 replace K0 := K0.ext x7
 replace RG := RG.ext x7
 replace B4 := B4.ext x7
 have zw7 := x7.size
 obtain ⟨aE, nE, cE, xs, rfl, OE, hxs⟩ := A7
 replace hxs : xs = S.sgnB x := hxs
 subst hxs
 refine RS.norm (by dsimp only [List.set]) ?_
 refine RS.move (v := .tuple _) rfl ?_
 refine RS.extract (v := .slice _ _ _) rfl rfl ?_
 refine RS.extract (v := .int _ _) rfl rfl ?_
 refine RS.assign (v := .slice _ _ _) rfl ?_
 refine RS.assign (v := .int _ _) rfl ?_
 refine RS.nil ?_
 refine hK6 _ _ ?_
 try clear hK6
 refine wp_seq_k (fun K8 hK8 => ?_)
 refine region ?_
 refine RS.move (v := .slice _ _ _) rfl ?_
 refine RS.assign (v := .slice _ _ _) rfl ?_
 refine RS.nil ?_
 refine hK8 _ _ ?_
 try clear hK8
 refine wp_ret ?_
 refine ret (rs := [.tmp 2]) (vs := [.slice _ _ _]) (v := (.slice _ _ _)) rfl ⟨rfl, trivial⟩ rfl ?_
 exact ⟨_, rfl, hE, _, _, _, rfl, OE.base (fun b hb => by have := OE.lo b hb; omega)⟩
theorem aliveJ (TK : TypeId) (w : World) (K0 : Kst w TK) :
  Calls Tryz.prog 32 #[] w (Ret w fun v _ => v = .bool true) := by
 have hKl := K0.lt
 obtain ⟨g1, g2, g3⟩ := S.sgn_fine (x := 5) (by decide)
 have hE := Ext.refl w
 refine enter (args := []) (l := [undef, undef, undef, undef, undef, undef, undef, undef, undef, undef, undef, undef, undef, undef, undef, undef, undef]) Tryz.func32 rfl rfl ?_
 refine wp_seq_k (fun K1 hK1 => ?_)
 refine region ?_
 refine RS.assign (v := .bool false) rfl ?_
 refine RS.nil ?_
 refine hK1 _ _ ?_
 try clear hK1
 refine wp_seq_k (fun K2 hK2 => ?_)
 refine region ?_
 refine RS.call E34 (verdictW _ _ _ _ _ _ K0 (IRow.nil (S := fun _ => False)) (Nat.le_refl _) (by decide)) rfl (fun v3 w3 x3 A3 => ?_)
 replace hE := Ext.tr hE x3
 replace K0 := K0.ext x3
 have zw3 := x3.size
 subst A3
 rw [S.jd_nil]
 refine RS.norm (by dsimp only [List.set]) ?_
 refine RS.o (D.eq rfl rfl) ?_
 refine RS.move (v := .bool _) rfl ?_
 refine RS.splite 3 rfl rfl (fun c4 => ?_) (fun c4 => ?_)
 ·refine RS.norm (by dsimp only [List.set]) ?_
  refine RS.wantB 3 rfl rfl rfl ?_
  refine RS.make rfl rfl Tryz.underlying22 T5 (by omega) (by omega) (by omega) (fun b5 w5 e5 s5 x5 B5 => ?_)
  refine RS.norm (by dsimp only [List.set]) ?_
  replace hE := Ext.tr hE x5
  replace K0 := K0.ext x5
  have zw5 := x5.size
  rw [show (401 : Int).toNat * 1 = 401 from rfl, S.made_ints] at B5
  refine RS.wantB 3 rfl rfl rfl ?_
  refine RS.call E34 (verdictW _ _ _ _ _ _ K0 (IRow.of_blk (S := fun k => k = b5) B5 rfl rfl (by simp) (Bd.zeros .u8 401)) (Nat.le_refl _) (by decide)) rfl (fun v6 w6 x6 A6 => ?_)
  replace hE := Ext.tr hE x6
  replace K0 := K0.ext x6
  replace B5 := B5.ext x6
  have zw6 := x6.size
  subst A6
  rw [S.jd_long (by simp)]
  refine RS.norm (by dsimp only [List.set]) ?_
  refine RS.wantB 3 rfl rfl rfl ?_
  refine RS.o (D.eq rfl rfl) ?_
  refine RS.pick (v := .bool _) rfl rfl ?_
  refine RS.move (v := .bool _) rfl ?_
  refine RS.splite 8 rfl rfl (fun c7 => ?_) (fun c7 => ?_)
  ·refine RS.norm (by dsimp only [List.set]) ?_
   refine RS.wantB 8 rfl rfl rfl ?_
   refine RS.buildSlice (xs := [.const (.int .u8 111), .const (.int .u8 4), .const (.int .u8 0), .const (.int .u8 7), .const (.int .u8 1), .const (.int .u8 0), .const (.int .u8 0)]) (vs := [.int _ _, .int _ _, .int _ _, .int _ _, .int _ _, .int _ _, .int _ _]) (cs := [.int _ _, .int _ _, .int _ _, .int _ _, .int _ _, .int _ _, .int _ _]) Tryz.underlying22 T5 (by decide) rfl rfl rfl rfl rfl rfl (by intro v hv; simp only [List.mem_cons, List.not_mem_nil, or_false] at hv; rcases hv with rfl | rfl | rfl | rfl | rfl | rfl | rfl <;> rfl) rfl (fun b8 w8 e8 s8 x8 B8 => ?_)
   refine RS.norm (by dsimp only [List.set]) ?_
   replace hE := Ext.tr hE x8
   replace K0 := K0.ext x8
   replace B5 := B5.ext x8
   have zw8 := x8.size
   refine RS.wantB 8 rfl rfl rfl ?_
   refine RS.call E34 (verdictW _ _ _ _ _ _ K0 (IRow.of_blk (S := fun k => k = b8) B8 rfl rfl rfl (.cons (by decide) (.cons (by decide) (.cons (by decide) (.cons (by decide) (.cons (by decide) (.cons (by decide) (.cons (by decide) (.nil _))))))))) (Nat.le_refl _) (by decide)) rfl (fun v9 w9 x9 A9 => ?_)
   replace hE := Ext.tr hE x9
   replace K0 := K0.ext x9
   replace B5 := B5.ext x9
   replace B8 := B8.ext x9
   have zw9 := x9.size
   subst A9
   rw [S.jd_ex]
   refine RS.norm (by dsimp only [List.set]) ?_
   refine RS.wantB 8 rfl rfl rfl ?_
   refine RS.o (D.eq rfl rfl) ?_
   refine RS.pick (v := .bool _) rfl rfl ?_
   refine RS.move (v := .bool _) rfl ?_
   refine RS.splite 13 rfl rfl (fun c10 => ?_) (fun c10 => ?_)
   ·refine RS.norm (by dsimp only [List.set]) ?_
    refine RS.wantB 13 rfl rfl rfl ?_
    refine RS.call E66 (signedJ 5 (by decide) _ _ K0) rfl (fun v11 w11 x11 A11 => ?_)
    replace hE := Ext.tr hE x11
    replace K0 := K0.ext x11
    replace B5 := B5.ext x11
    replace B8 := B8.ext x11
    have zw11 := x11.size
    obtain ⟨aS, nS, cS, rfl, OS⟩ := A11
    have lOS := OS.len
    have pOS := OS.own.pre
    refine RS.norm (by dsimp only [List.set]) ?_
    refine RS.wantB 13 rfl rfl rfl ?_
    refine RS.call E10 (judgeFine _ _ _ _ _ _ K0 OS.row pOS (by omega)) rfl (fun v12 w12 x12 A12 => ?_)
    replace hE := Ext.tr hE x12
    replace K0 := K0.ext x12
    replace B5 := B5.ext x12
    replace B8 := B8.ext x12
    replace OS := OS.ext x12
    have zw12 := x12.size
    subst A12
    rw [g1]
    refine RS.norm (by dsimp only [List.set]) ?_
    refine RS.pick (v := .bool _) rfl rfl ?_
    refine RS.assign (v := .bool _) rfl ?_
    refine RS.nil ?_
    refine hK2 _ _ ?_
    try clear hK2
    refine wp_ret ?_
    refine ret (rs := [.tmp 0]) (vs := [.bool _]) (v := (.bool _)) rfl ⟨rfl, trivial⟩ rfl ?_
    exact ⟨_, rfl, hE, rfl⟩
   ·refine RS.norm (by dsimp only [List.set]) ?_
    exact absurd rfl c10
  ·refine RS.norm (by dsimp only [List.set]) ?_
   exact absurd rfl c7
 ·refine RS.norm (by dsimp only [List.set]) ?_
  exact absurd rfl c4
end Go.Proofs.YtiohpiiiapjblaaGreatDoor.W
namespace Go.Proofs.YtiohpiiiapjblaaGreatDoor.S
open G
/-- That one list begins with another. -/
def Starts (b h : List Int) : Prop := h.length ≤ b.length ∧ b.take h.length = h
instance (b h : List Int) : Decidable (Starts b h) := by unfold Starts; infer_instance
/-- A number of 32 bits that is read. -/
def shOk (b : List Int) : Prop := rdE b = 0 ∧ rdV b ≤ 4294967295
instance (b : List Int) : Decidable (shOk b) := by unfold shOk; infer_instance
section
variable {b : List Int} {a : Int} {l1 : List Int} {n : Nat} {ids l2 : List Int} {t : Int} {l3 : List Int} {k : Int} {l4 : List Int} {x : ActV} {l5 : List Int} {e : Int} {l6 : List Int} {s : Int} {l7 : List Int}
end
end Go.Proofs.YtiohpiiiapjblaaGreatDoor.S
namespace Go.Proofs.YtiohpiiiapjblaaGreatDoor.G
open Go.RowKit
theorem IOwn.some {lo : Nat} {w : World} {e : TypeId} {k : IntKind} {n c : Nat} {a : Option Addr} {xs : List Int} (h : IOwn lo w e k a n c xs) (hn : 0 < n) : ∃ g0, a = Option.some ⟨g0, 0, Option.none⟩ := by
  rcases h.own.2 with ⟨hv, h0⟩ | ⟨g, cap, cur, hv, _⟩
  · omega
  · simp at hv; exact ⟨g, hv.1⟩
section
variable {P : Program} {ops : Array Oper} {K : List Value → World → Prop} {rest : List Oper} {l : List Value} {w : World} {d : Tmp} {ty : TypeId} {pos : String} {af : Array Edge}
end
end Go.Proofs.YtiohpiiiapjblaaGreatDoor.G
namespace Go.Proofs.YtiohpiiiapjblaaGreatDoor.S
open G
theorem enc_400 {o : OpV} (hl : o.ids.length = 32 * o.n) (hc : checkE o = 0) : (encS o).length ≤ 400 := by
  obtain ⟨c1, _, c3⟩ := check_zero.1 hc
  have h1 := numS_len o.au
  have h2 := numS_len (o.n : Int)
  have h3 := numS_len o.st
  have h4 := numS_len (o.key.size : Int)
  have h5 := numS_len o.e
  have h6 := numS_len o.s
  have h7 := numS_len (zig o.num)
  have h8 := numS_len (o.t.size : Int)
  have hk : o.key.size ≤ 20 ∧ o.t.size ≤ 30 := by
    rcases c3.2.2.2.2 with ⟨_, e1, _, _, _, e2⟩ | ⟨_, hK, _, _, _, e2⟩ | ⟨_, hK, hV⟩
    · rw [e1, e2]; exact ⟨by decide, by decide⟩
    · rw [e2]; exact ⟨hK.2.1, by decide⟩
    · refine ⟨hK.2.1, ?_⟩
      rcases hV with ⟨_, _, e2⟩ | ⟨_, _, e2, _⟩ | ⟨_, _, _, e2, _⟩
      · rw [e2]; decide
      · rw [e2]; decide
      · exact e2
  unfold encS msgS listS valS
  repeat' split
  all_goals simp [bys_len, be8_len]
  all_goals omega
theorem jd_enc {o : OpV} (ho : o.rng) (hl : o.ids.length = 32 * o.n) (hc : checkE o = 0) : jdV (encS o) = (if verE o = 0 then 0 else 4) ∧ (verE o = 0 → jdO (encS o) = o ∧ jdI (encS o) = sha (encS o)) := by
  obtain ⟨d1, d2⟩ := dec_back ho hl hc
  have h4 := enc_400 hl hc
  by_cases hv : verE o = 0
  · rw [if_pos hv]
    have hf := jd_fine (b := encS o) (by omega) d2 (by rw [d1]; exact hv)
    obtain ⟨e1, e2⟩ := jd_zero hf
    rw [d1] at e1 e2
    exact ⟨hf, fun _ => ⟨e1, e2⟩⟩
  · rw [if_neg hv]
    exact ⟨jd_sig (by omega) d2 (by rw [d1]; exact hv), fun h => absurd h hv⟩
/-- What is read is fit. -/
theorem dec_fit {b : List Int} (hB : Bd .u8 b) (h : decE b = 0) : Fit (decO b) := by
  obtain ⟨hok, _⟩ := decO_ok hB
  have h1 := hok.n
  have h2 := hok.key
  have h3 := hok.t
  exact ⟨by omega, (dec_good hB h).1⟩
end Go.Proofs.YtiohpiiiapjblaaGreatDoor.S
