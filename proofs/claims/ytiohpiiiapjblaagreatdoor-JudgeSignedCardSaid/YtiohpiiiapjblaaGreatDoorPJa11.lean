/-
  Part 11 of the lemmas of these laws: OpOne, JudgeSigned.
-/
import Derived.Test.YtiohpiiiapjblaaGreatDoorPJa10
namespace Go.Proofs.YtiohpiiiapjblaaGreatDoor.W
open Go.RowKit Go.Proofs.YtiohpiiiapjblaaGreatDoor.G
set_option linter.unusedVariables false
set_option maxRecDepth 20000
set_option maxHeartbeats 8000000
attribute [local irreducible] RS RX
theorem T78 : TI Tryz.prog 78 2 32 [.slice none 0 0, .bool false] := by
 have h : (Tryz.prog.info? 78).map (fun i => (i.size, i.bytes, i.zero)) = some (2, 32, some (.agg #[.slice none 0 0, .bool false])) := by kernel_rfl
 exact TI.of h rfl
theorem F78 : SI Tryz.prog 78 [(0, 1), (1, 1)] := ⟨_, Tryz.underlying78, by kernel_rfl, by kernel_rfl⟩
theorem E39 : Enters Tryz.prog 39 := .mk Tryz.func39 (by kernel_rfl) rfl
theorem E40 : Enters Tryz.prog 40 := .mk Tryz.func40 (by kernel_rfl) rfl
theorem E41 : Enters Tryz.prog 41 := .mk Tryz.func41 (by kernel_rfl) rfl
theorem E42 : Enters Tryz.prog 42 := .mk Tryz.func42 (by kernel_rfl) rfl
theorem E45 : Enters Tryz.prog 45 := .mk Tryz.func45 (by kernel_rfl) rfl
theorem decFail  (w : World) :
  Calls Tryz.prog 39 #[] w (Ret w fun v _ => v = .tuple #[.agg ([.int .u32 S.OpV.zero.au, .slice none S.OpV.zero.n 0, .int .u64 S.OpV.zero.st, .int .u8 S.OpV.zero.k, .string S.OpV.zero.key, .int .u8 S.OpV.zero.vk, .int .i64 S.OpV.zero.num, .int .u64 S.OpV.zero.bits, .string S.OpV.zero.t, .int .u32 S.OpV.zero.e, .int .u32 S.OpV.zero.s] : List Value).toArray, .int .i64 12]) := by
 have hE := Ext.refl w
 refine enter (args := []) (l := [undef, undef, undef]) Tryz.func39 rfl rfl ?_
 refine wp_seq_k (fun K1 hK1 => ?_)
 refine region ?_
 refine RS.alloc T33 (fun b2 w2 e2 s2 x2 B2 => ?_)
 refine RS.norm (by dsimp only [List.set]) ?_
 replace hE := Ext.tr hE x2
 have zw2 := x2.size
 refine RS.assign (v := .int .i64 0) rfl ?_
 refine RS.nil ?_
 refine hK1 _ _ ?_
 try clear hK1
 refine wp_seq_k (fun K3 hK3 => ?_)
 refine region ?_
 refine RS.o (D.buildS T33 F33 (ps := []) rfl rfl) ?_
 refine RS.storeAggB rfl rfl C33 (by decide) rfl rfl B2 rfl (fun w4 y4 N4 => ?_)
 replace hE := hE.trans (y4.below (by intros; try (first | (intro _ _) | (intro _) | skip); first | omega | (dsimp only at *; omega) | (simp_all; done) | (simp at *; omega)))
 have zw4 := y4.size
 replace B2 := N4
 refine RS.assign (v := .int .i64 12) rfl ?_
 refine RS.nil ?_
 refine hK3 _ _ ?_
 try clear hK3
 refine wp_ret ?_
 refine ret (rs := [.cell 0 33, .tmp 1]) (vs := [.agg _, .int _ _]) (v := (.tuple #[.agg _, .int _ _])) rfl ⟨⟨_, rfl, loadVar_agg Tryz.underlying33 rfl C33 (by decide) rfl (B2.cellsN 11 rfl)⟩, rfl, trivial⟩ rfl ?_
 exact ⟨_, rfl, hE, rfl⟩
theorem decodeO {S0 : Nat → Prop} (a : Option Addr) (n c : Nat) (bs : List Int) (w : World) (R0 : IRow .u8 S0 w a n bs) (hc : n ≤ c) (hn : n ≤ 1000000) :
  Calls Tryz.prog 21 #[.slice a n c] w (Ret w fun v w' => ∃ a' c', v = .tuple #[.agg ([.int .u32 (S.decO bs).au, .slice a' (S.decO bs).n c', .int .u64 (S.decO bs).st, .int .u8 (S.decO bs).k, .string (S.decO bs).key, .int .u8 (S.decO bs).vk, .int .i64 (S.decO bs).num, .int .u64 (S.decO bs).bits, .string (S.decO bs).t, .int .u32 (S.decO bs).e, .int .u32 (S.decO bs).s] : List Value).toArray, .int .i64 (S.decE bs)] ∧ (S.decO bs).n ≤ c' ∧ WRow .u8 32 (fun k => w.heap.size ≤ k) w' a' (S.decO bs).n (S.decO bs).ids) := by
 replace R0 := R0.weaken (T := fun k => k < w.heap.size) (fun k hk _ => hk)
 have hbl := R0.len
 have hbd := R0.bd
 have hE := Ext.refl w
 refine enter (args := [.slice a n c]) (l := [.slice a n c, undef, undef, undef, undef, undef, undef, undef, undef, undef, undef, undef, undef, undef, undef, undef, undef, undef, undef, undef, undef, undef, undef, undef, undef, undef, undef, undef, undef, undef, undef, undef, undef, undef, undef, undef, undef, undef, undef, undef, undef, undef, undef, undef, undef, undef, undef, undef, undef, undef, undef, undef, undef, undef, undef, undef, undef, undef, undef, undef, undef, undef, undef, undef, undef, undef, undef, undef, undef, undef, undef, undef, undef, undef, undef, undef, undef, undef, undef, undef, undef, undef, undef, undef, undef, undef, undef, undef, undef, undef, undef, undef, undef, undef, undef, undef, undef, undef, undef, undef, undef, undef, undef, undef, undef, undef, undef, undef, undef, undef, undef, undef, undef, undef, undef, undef, undef, undef, undef, undef, undef, undef, undef, undef, undef]) Tryz.func21 rfl rfl ?_
 refine wp_seq_k (fun K1 hK1 => ?_)
 refine region ?_
 refine RS.alloc T33 (fun b2 w2 e2 s2 x2 B2 => ?_)
 refine RS.norm (by dsimp only [List.set]) ?_
 replace hE := Ext.tr hE x2
 replace R0 := R0.ext x2
 have zw2 := x2.size
 refine RS.assign (v := .int .i64 0) rfl ?_
 refine RS.nil ?_
 refine hK1 _ _ ?_
 try clear hK1
 refine wp_seq_k (fun K3 hK3 => ?_)
 refine region ?_
 refine RS.move (v := .slice _ _ _) rfl ?_
 refine RS.o (D.buildS T78 F78 (ps := [(0, .slice _ _ _)]) rfl rfl) ?_
 refine RS.box rfl rfl (fun b4 w4 e4 s4 x4 B4 => ?_)
 refine RS.norm (by dsimp only [List.set]) ?_
 replace hE := Ext.tr hE x4
 replace R0 := R0.ext x4
 replace B2 := B2.ext x4
 have zw4 := x4.size
 refine RS.assign (v := .pointer _) rfl ?_
 refine RS.nil ?_
 refine hK3 _ _ ?_
 try clear hK3
 refine wp_seq_k (fun K5 hK5 => ?_)
 refine region ?_
 refine RS.assign  rfl ?_
 refine RS.nil ?_
 refine hK5 _ _ ?_
 try clear hK5
 refine wp_seq_k (fun K6 hK6 => ?_)
 refine wp_seq_k (fun K7 hK7 => ?_)
 refine region ?_
 refine RS.move (v := .pointer _) rfl ?_
 refine RS.callx E40 (rOne _ w.heap.size _ (by omega) _ _ _ _ _ _ B4 R0 hc (by omega)) rfl (fun e8 w8 A8 => ?_)
 obtain ⟨rfl, X8, a1, n1, c1, N8, hc1, hn1, Q1⟩ := A8
 refine ⟨_, rfl, ?_⟩
 refine RS.norm (by dsimp only [List.set]) ?_
 replace hE := hE.trans (X8.below (by intros; try (first | (intro _ _) | (intro _) | skip); first | omega | (dsimp only at *; omega) | (simp_all; done) | (simp at *; omega)) (by intros; try (first | (intro _ _) | (intro _) | skip); first | omega | (dsimp only at *; omega) | (simp_all; done) | (simp at *; omega)))
 replace R0 := R0.pr X8 (by intros; try (first | (intro _ _) | (intro _) | skip); first | omega | (dsimp only at *; omega) | (simp_all; done) | (simp at *; omega))
 replace B2 := B2.pr X8 (by intros; try (first | (intro _ _) | (intro _) | skip); first | omega | (dsimp only at *; omega) | (simp_all; done) | (simp at *; omega))
 have zw8 := X8.size
 replace B4 := N8
 obtain ⟨zh, eh⟩ : ∃ z, z = S.oneB false bs := ⟨_, rfl⟩
 rw [← eh] at B4 Q1 ⊢
 have lQ1 := Q1.len
 have bQ1 := Q1.bd
 refine RS.o (D.ne rfl rfl) ?_
 refine RS.nil ?_
 refine hK7 _ _ ?_
 try clear hK7
 refine C.ifn rfl (fun c9 => ?_) (fun c9 => ?_)
 ·have hx := c9
  refine wp_seq_k (fun K10 hK10 => ?_)
  refine region ?_
  refine RS.move (v := .func _ _ _) rfl ?_
  refine RS.callv E39 (decFail _) rfl rfl (fun e11 w11 A11 => ?_)
  obtain ⟨v11, rfl, x11, A11⟩ := A11
  refine ⟨_, rfl, ?_⟩
  replace hE := Ext.tr hE x11
  replace B2 := B2.ext x11
  replace B4 := B4.ext x11
  replace Q1 := Q1.ext x11
  have zw11 := x11.size
  subst A11
  refine RS.norm (by dsimp only [List.set]) ?_
  refine RS.extract (v := .agg _) rfl rfl ?_
  refine RS.extract (v := .int _ _) rfl rfl ?_
  refine RS.storeAggB rfl rfl C33 (by decide) rfl rfl B2 rfl (fun w12 y12 N12 => ?_)
  replace hE := hE.trans (y12.below (by intros; try (first | (intro _ _) | (intro _) | skip); first | omega | (dsimp only at *; omega) | (simp_all; done) | (simp at *; omega)))
  replace B4 := B4.st y12 (by intros; try (first | (intro _ _) | (intro _) | skip); first | omega | (dsimp only at *; omega) | (simp_all; done) | (simp at *; omega))
  replace Q1 := Q1.st y12 (by intros; try (first | (intro _ _) | (intro _) | skip); first | omega | (dsimp only at *; omega) | (simp_all; done) | (simp at *; omega))
  have zw12 := y12.size
  replace B2 := N12
  refine RS.assign (v := .int _ _) rfl ?_
  refine RS.nil ?_
  refine hK10 _ _ ?_
  try clear hK10
  refine wp_ret ?_
  refine ret (rs := [.cell 2 33, .tmp 3]) (vs := [.agg _, .int _ _]) (v := (.tuple #[.agg _, .int _ _])) rfl ⟨⟨_, rfl, loadVar_agg Tryz.underlying33 rfl C33 (by decide) rfl (B2.cellsN 11 rfl)⟩, rfl, trivial⟩ rfl ?_
  obtain ⟨q1, q2⟩ := S.dec_none (S.dec_head (by rw [← eh]; exact hx))
  rw [q1, q2]
  exact ⟨_, rfl, hE, _, _, rfl, Nat.le_refl _, WRow.nil⟩
 ·have hx1 := c9
  refine wp_skip ?_
  refine hK6 _ _ ?_
  try clear hK6
  refine wp_seq_k (fun K13 hK13 => ?_)
  refine region ?_
  refine RS.alloc T33 (fun b14 w14 e14 s14 x14 B14 => ?_)
  refine RS.norm (by dsimp only [List.set]) ?_
  replace hE := Ext.tr hE x14
  replace B2 := B2.ext x14
  replace B4 := B4.ext x14
  replace Q1 := Q1.ext x14
  have zw14 := x14.size
  refine RS.nil ?_
  refine hK13 _ _ ?_
  try clear hK13
  refine wp_seq_k (fun K15 hK15 => ?_)
  refine region ?_
  refine RS.move (v := .pointer _) rfl ?_
  refine RS.callx E41 (rNumber _ w.heap.size _ (by omega) _ _ _ _ _ 1000000007 (by decide) _ B4 Q1 hc1 (by omega)) rfl (fun e16 w16 A16 => ?_)
  obtain ⟨rfl, X16, a2, n2, c2, N16, hc2, hn2, Q2⟩ := A16
  refine ⟨_, rfl, ?_⟩
  refine RS.norm (by dsimp only [List.set]) ?_
  replace hE := hE.trans (X16.below (by intros; try (first | (intro _ _) | (intro _) | skip); first | omega | (dsimp only at *; omega) | (simp_all; done) | (simp at *; omega)) (by intros; try (first | (intro _ _) | (intro _) | skip); first | omega | (dsimp only at *; omega) | (simp_all; done) | (simp at *; omega)))
  replace B2 := B2.pr X16 (by intros; try (first | (intro _ _) | (intro _) | skip); first | omega | (dsimp only at *; omega) | (simp_all; done) | (simp at *; omega))
  replace Q1 := Q1.pr X16 (by intros; try (first | (intro _ _) | (intro _) | skip); first | omega | (dsimp only at *; omega) | (simp_all; done) | (simp at *; omega))
  replace B14 := B14.pr X16 (by intros; try (first | (intro _ _) | (intro _) | skip); first | omega | (dsimp only at *; omega) | (simp_all; done) | (simp at *; omega))
  have zw16 := X16.size
  replace B4 := N16
  obtain ⟨za, ea⟩ : ∃ z, z = S.numB 1000000007 zh.2.1 zh.2.2 := ⟨_, rfl⟩
  rw [← ea] at B4 Q2 ⊢
  have lQ2 := Q2.len
  have bQ2 := Q2.bd
  refine RS.o (D.conv rfl Tryz.underlying25 Tryz.underlying23 (W.u32m _)) ?_
  refine RS.o (D.fieldL 0 rfl Tryz.underlying33 rfl C23 (by decide) rfl) ?_
  refine RS.store rfl (v := .int _ _) rfl C23 rfl B14 rfl (fun w17 y17 N17 => ?_)
  replace hE := hE.trans (y17.below (by intros; try (first | (intro _ _) | (intro _) | skip); first | omega | (dsimp only at *; omega) | (simp_all; done) | (simp at *; omega)))
  replace B2 := B2.st y17 (by intros; try (first | (intro _ _) | (intro _) | skip); first | omega | (dsimp only at *; omega) | (simp_all; done) | (simp at *; omega))
  replace B4 := B4.st y17 (by intros; try (first | (intro _ _) | (intro _) | skip); first | omega | (dsimp only at *; omega) | (simp_all; done) | (simp at *; omega))
  replace Q2 := Q2.st y17 (by intros; try (first | (intro _ _) | (intro _) | skip); first | omega | (dsimp only at *; omega) | (simp_all; done) | (simp at *; omega))
  have zw17 := y17.size
  replace B14 := N17
  refine RS.nil ?_
  refine hK15 _ _ ?_
  try clear hK15
  refine wp_seq_k (fun K18 hK18 => ?_)
  refine region ?_
  refine RS.move (v := .pointer _) rfl ?_
  refine RS.nilCheck rfl ?_
  refine RS.o (D.fieldL 0 rfl Tryz.underlying78 rfl C22 (by decide) rfl) ?_
  refine RS.o (D.load rfl Tryz.underlying22 rfl (B4.cell rfl)) ?_
  refine RS.call E42 (readIds _ _ _ _ 4 (by decide) _ Q2 hc2 (by omega)) rfl (fun v19 w19 x19 A19 => ?_)
  replace hE := Ext.tr hE x19
  replace B2 := B2.ext x19
  replace B4 := B4.ext x19
  replace B14 := B14.ext x19
  replace Q2 := Q2.ext x19
  have zw19 := x19.size
  obtain ⟨aL, cL, rfl, hcL, DL⟩ := A19
  obtain ⟨f1, f2, f3, f4⟩ := S.idsB_rd za.2.1 za.2.2
  have hidl := S.id_le bQ2
  obtain ⟨zl, el⟩ : ∃ z, z = S.idsB za.2.1 za.2.2 := ⟨_, rfl⟩
  rw [← el] at f1 f2 f3 f4
  rw [f1] at hcL DL ⊢
  rw [f2] at DL
  replace DL := DL.weaken (T := fun k => b14 < k ∧ k < w19.heap.size) (fun k hk h => by omega)
  refine RS.norm (by dsimp only [List.set]) ?_
  refine RS.move (v := .tuple _) rfl ?_
  refine RS.extract (v := .slice _ _ _) rfl rfl ?_
  refine RS.extract (v := .int _ _) rfl rfl ?_
  refine RS.extract (v := .int _ _) rfl rfl ?_
  refine RS.assign (v := .slice _ _ _) rfl ?_
  refine RS.assign (v := .int _ _) rfl ?_
  refine RS.assign (v := .int _ _) rfl ?_
  refine RS.nil ?_
  refine hK18 _ _ ?_
  try clear hK18
  refine wp_seq_k (fun K20 hK20 => ?_)
  refine region ?_
  refine RS.move (v := .pointer _) rfl ?_
  refine RS.move (v := .int _ _) rfl ?_
  refine RS.move (v := .int _ _) rfl ?_
  refine RS.callx E43 (rNext _ w.heap.size _ (by omega) _ _ _ _ _ (S.idU 4 za.2.2) (S.idE 4 za.2.2) (by omega) _ B4 Q2 hc2 (by omega)) rfl (fun e21 w21 A21 => ?_)
  obtain ⟨rfl, X21, a3, n3, c3, N21, hc3, hn3, Q3⟩ := A21
  refine ⟨_, rfl, ?_⟩
  refine RS.norm (by dsimp only [List.set]) ?_
  replace hE := hE.trans (X21.below (by intros; try (first | (intro _ _) | (intro _) | skip); first | omega | (dsimp only at *; omega) | (simp_all; done) | (simp at *; omega)) (by intros; try (first | (intro _ _) | (intro _) | skip); first | omega | (dsimp only at *; omega) | (simp_all; done) | (simp at *; omega)))
  replace B2 := B2.pr X21 (by intros; try (first | (intro _ _) | (intro _) | skip); first | omega | (dsimp only at *; omega) | (simp_all; done) | (simp at *; omega))
  replace B14 := B14.pr X21 (by intros; try (first | (intro _ _) | (intro _) | skip); first | omega | (dsimp only at *; omega) | (simp_all; done) | (simp at *; omega))
  replace Q2 := Q2.pr X21 (by intros; try (first | (intro _ _) | (intro _) | skip); first | omega | (dsimp only at *; omega) | (simp_all; done) | (simp at *; omega))
  replace DL := DL.pr X21 (by intros; try (first | (intro _ _) | (intro _) | skip); first | omega | (dsimp only at *; omega) | (simp_all; done) | (simp at *; omega))
  have zw21 := X21.size
  replace B4 := N21
  rw [f3] at B4
  rw [f4] at Q3
  have lQ3 := Q3.len
  have bQ3 := Q3.bd
  refine RS.nil ?_
  refine hK20 _ _ ?_
  try clear hK20
  refine wp_seq_k (fun K22 hK22 => ?_)
  refine region ?_
  refine RS.move (v := .slice _ _ _) rfl ?_
  refine RS.move (v := .pointer _) rfl ?_
  refine RS.callx E41 (rNumber _ w.heap.size _ (by omega) _ _ _ _ _ 1000000000000 (by decide) _ B4 Q3 hc3 (by omega)) rfl (fun e23 w23 A23 => ?_)
  obtain ⟨rfl, X23, a4, n4, c4, N23, hc4, hn4, Q4⟩ := A23
  refine ⟨_, rfl, ?_⟩
  refine RS.norm (by dsimp only [List.set]) ?_
  replace hE := hE.trans (X23.below (by intros; try (first | (intro _ _) | (intro _) | skip); first | omega | (dsimp only at *; omega) | (simp_all; done) | (simp at *; omega)) (by intros; try (first | (intro _ _) | (intro _) | skip); first | omega | (dsimp only at *; omega) | (simp_all; done) | (simp at *; omega)))
  replace B2 := B2.pr X23 (by intros; try (first | (intro _ _) | (intro _) | skip); first | omega | (dsimp only at *; omega) | (simp_all; done) | (simp at *; omega))
  replace B14 := B14.pr X23 (by intros; try (first | (intro _ _) | (intro _) | skip); first | omega | (dsimp only at *; omega) | (simp_all; done) | (simp at *; omega))
  replace DL := DL.pr X23 (by intros; try (first | (intro _ _) | (intro _) | skip); first | omega | (dsimp only at *; omega) | (simp_all; done) | (simp at *; omega))
  replace Q3 := Q3.pr X23 (by intros; try (first | (intro _ _) | (intro _) | skip); first | omega | (dsimp only at *; omega) | (simp_all; done) | (simp at *; omega))
  have zw23 := X23.size
  replace B4 := N23
  obtain ⟨zt, et⟩ : ∃ z, z = S.numB 1000000000000 zl.2.2.1 zl.2.2.2 := ⟨_, rfl⟩
  rw [← et] at B4 Q4 ⊢
  have lQ4 := Q4.len
  have bQ4 := Q4.bd
  refine RS.move (v := .pointer _) rfl ?_
  refine RS.callx E40 (rOne _ w.heap.size _ (by omega) _ _ _ _ _ _ B4 Q4 hc4 (by omega)) rfl (fun e24 w24 A24 => ?_)
  obtain ⟨rfl, X24, a5, n5, c5, N24, hc5, hn5, Q5⟩ := A24
  refine ⟨_, rfl, ?_⟩
  refine RS.norm (by dsimp only [List.set]) ?_
  replace hE := hE.trans (X24.below (by intros; try (first | (intro _ _) | (intro _) | skip); first | omega | (dsimp only at *; omega) | (simp_all; done) | (simp at *; omega)) (by intros; try (first | (intro _ _) | (intro _) | skip); first | omega | (dsimp only at *; omega) | (simp_all; done) | (simp at *; omega)))
  replace B2 := B2.pr X24 (by intros; try (first | (intro _ _) | (intro _) | skip); first | omega | (dsimp only at *; omega) | (simp_all; done) | (simp at *; omega))
  replace B14 := B14.pr X24 (by intros; try (first | (intro _ _) | (intro _) | skip); first | omega | (dsimp only at *; omega) | (simp_all; done) | (simp at *; omega))
  replace DL := DL.pr X24 (by intros; try (first | (intro _ _) | (intro _) | skip); first | omega | (dsimp only at *; omega) | (simp_all; done) | (simp at *; omega))
  replace Q4 := Q4.pr X24 (by intros; try (first | (intro _ _) | (intro _) | skip); first | omega | (dsimp only at *; omega) | (simp_all; done) | (simp at *; omega))
  have zw24 := X24.size
  replace B4 := N24
  obtain ⟨zk, ek⟩ : ∃ z, z = S.oneB zt.2.1 zt.2.2 := ⟨_, rfl⟩
  rw [← ek] at B4 Q5 ⊢
  have lQ5 := Q5.len
  have bQ5 := Q5.bd
  refine RS.o (D.fieldL 1 rfl Tryz.underlying33 rfl C24 (by decide) rfl) ?_
  refine RS.store rfl  rfl C24 rfl B14 rfl (fun w25 y25 N25 => ?_)
  replace hE := hE.trans (y25.below (by intros; try (first | (intro _ _) | (intro _) | skip); first | omega | (dsimp only at *; omega) | (simp_all; done) | (simp at *; omega)))
  replace B2 := B2.st y25 (by intros; try (first | (intro _ _) | (intro _) | skip); first | omega | (dsimp only at *; omega) | (simp_all; done) | (simp at *; omega))
  replace B4 := B4.st y25 (by intros; try (first | (intro _ _) | (intro _) | skip); first | omega | (dsimp only at *; omega) | (simp_all; done) | (simp at *; omega))
  replace DL := DL.st y25 (by intros; try (first | (intro _ _) | (intro _) | skip); first | omega | (dsimp only at *; omega) | (simp_all; done) | (simp at *; omega))
  replace Q5 := Q5.st y25 (by intros; try (first | (intro _ _) | (intro _) | skip); first | omega | (dsimp only at *; omega) | (simp_all; done) | (simp at *; omega))
  have zw25 := y25.size
  replace B14 := N25
  refine RS.o (D.fieldL 2 rfl Tryz.underlying33 rfl C25 (by decide) rfl) ?_
  refine RS.store rfl (v := .int _ _) rfl C25 rfl B14 rfl (fun w26 y26 N26 => ?_)
  replace hE := hE.trans (y26.below (by intros; try (first | (intro _ _) | (intro _) | skip); first | omega | (dsimp only at *; omega) | (simp_all; done) | (simp at *; omega)))
  replace B2 := B2.st y26 (by intros; try (first | (intro _ _) | (intro _) | skip); first | omega | (dsimp only at *; omega) | (simp_all; done) | (simp at *; omega))
  replace B4 := B4.st y26 (by intros; try (first | (intro _ _) | (intro _) | skip); first | omega | (dsimp only at *; omega) | (simp_all; done) | (simp at *; omega))
  replace DL := DL.st y26 (by intros; try (first | (intro _ _) | (intro _) | skip); first | omega | (dsimp only at *; omega) | (simp_all; done) | (simp at *; omega))
  replace Q5 := Q5.st y26 (by intros; try (first | (intro _ _) | (intro _) | skip); first | omega | (dsimp only at *; omega) | (simp_all; done) | (simp at *; omega))
  have zw26 := y26.size
  replace B14 := N26
  refine RS.o (D.fieldL 3 rfl Tryz.underlying33 rfl C29 (by decide) rfl) ?_
  refine RS.o (D.fieldL 3 rfl Tryz.underlying29 rfl C5 (by decide) rfl) ?_
  refine RS.store rfl (v := .int _ _) rfl C5 rfl B14 rfl (fun w27 y27 N27 => ?_)
  replace hE := hE.trans (y27.below (by intros; try (first | (intro _ _) | (intro _) | skip); first | omega | (dsimp only at *; omega) | (simp_all; done) | (simp at *; omega)))
  replace B2 := B2.st y27 (by intros; try (first | (intro _ _) | (intro _) | skip); first | omega | (dsimp only at *; omega) | (simp_all; done) | (simp at *; omega))
  replace B4 := B4.st y27 (by intros; try (first | (intro _ _) | (intro _) | skip); first | omega | (dsimp only at *; omega) | (simp_all; done) | (simp at *; omega))
  replace DL := DL.st y27 (by intros; try (first | (intro _ _) | (intro _) | skip); first | omega | (dsimp only at *; omega) | (simp_all; done) | (simp at *; omega))
  replace Q5 := Q5.st y27 (by intros; try (first | (intro _ _) | (intro _) | skip); first | omega | (dsimp only at *; omega) | (simp_all; done) | (simp at *; omega))
  have zw27 := y27.size
  replace B14 := N27
  refine RS.nil ?_
  refine hK22 _ _ ?_
  try clear hK22
  refine wp_seq_k (fun K28 hK28 => ?_)
  refine wp_seq_k (fun K29 hK29 => ?_)
  refine region ?_
  refine RS.o (D.fieldL 3 rfl Tryz.underlying33 rfl C29 (by decide) rfl) ?_
  refine RS.o (D.fieldL 3 rfl Tryz.underlying29 rfl C5 (by decide) rfl) ?_
  refine RS.o (D.load rfl Tryz.underlying5 rfl (B14.cell rfl)) ?_
  refine RS.o (D.ne rfl rfl) ?_
  refine RS.nil ?_
  refine hK29 _ _ ?_
  try clear hK29
  refine C.ifn rfl (fun c30 => ?_) (fun c30 => ?_)
  ·have hk1 := c30
   refine wp_seq_k (fun K31 hK31 => ?_)
   refine region ?_
   refine RS.move (v := .pointer _) rfl ?_
   refine RS.nilCheck rfl ?_
   refine RS.o (D.fieldL 0 rfl Tryz.underlying78 rfl C22 (by decide) rfl) ?_
   refine RS.o (D.load rfl Tryz.underlying22 rfl (B4.cell rfl)) ?_
   refine RS.call E44 (readB _ _ _ _ 20 (by decide) _ Q5 hc5 (by omega)) rfl (fun v32 w32 x32 A32 => ?_)
   replace hE := Ext.tr hE x32
   replace B2 := B2.ext x32
   replace B4 := B4.ext x32
   replace B14 := B14.ext x32
   replace DL := DL.ext x32
   replace Q5 := Q5.ext x32
   have zw32 := x32.size
   obtain ⟨aK, nK, cK, rfl, OKs⟩ := A32
   have hOK := OKs.lo
   obtain ⟨k1, k2, k3⟩ := S.keyB_rd zk.2.1 zk.2.2
   have hpu := S.ptU_le (most := 20) (wd := 1) bQ5 (by decide)
   obtain ⟨zq, ezq⟩ : ∃ z, z = S.keyB zk.2.1 zk.2.2 := ⟨_, rfl⟩
   rw [← ezq] at k1 k2 k3
   refine RS.norm (by dsimp only [List.set]) ?_
   refine RS.move (v := .tuple _) rfl ?_
   refine RS.extract (v := .slice _ _ _) rfl rfl ?_
   refine RS.extract (v := .int _ _) rfl rfl ?_
   refine RS.extract (v := .int _ _) rfl rfl ?_
   refine RS.assign (v := .slice _ _ _) rfl ?_
   refine RS.assign (v := .int _ _) rfl ?_
   refine RS.assign (v := .int _ _) rfl ?_
   refine RS.nil ?_
   refine hK31 _ _ ?_
   try clear hK31
   refine wp_seq_k (fun K33 hK33 => ?_)
   refine region ?_
   refine RS.move (v := .pointer _) rfl ?_
   refine RS.move (v := .int _ _) rfl ?_
   refine RS.move (v := .int _ _) rfl ?_
   refine RS.callx E43 (rNext _ w.heap.size _ (by omega) _ _ _ _ _ (S.ptU 20 1 zk.2.2) (S.ptE 20 1 zk.2.2) (by omega) _ B4 Q5 hc5 (by omega)) rfl (fun e34 w34 A34 => ?_)
   obtain ⟨rfl, X34, a6, n6, c6, N34, hc6, hn6, Q6⟩ := A34
   refine ⟨_, rfl, ?_⟩
   refine RS.norm (by dsimp only [List.set]) ?_
   replace hE := hE.trans (X34.below (by intros; try (first | (intro _ _) | (intro _) | skip); first | omega | (dsimp only at *; omega) | (simp_all; done) | (simp at *; omega)) (by intros; try (first | (intro _ _) | (intro _) | skip); first | omega | (dsimp only at *; omega) | (simp_all; done) | (simp at *; omega)))
   replace B2 := B2.pr X34 (by intros; try (first | (intro _ _) | (intro _) | skip); first | omega | (dsimp only at *; omega) | (simp_all; done) | (simp at *; omega))
   replace B14 := B14.pr X34 (by intros; try (first | (intro _ _) | (intro _) | skip); first | omega | (dsimp only at *; omega) | (simp_all; done) | (simp at *; omega))
   replace DL := DL.pr X34 (by intros; try (first | (intro _ _) | (intro _) | skip); first | omega | (dsimp only at *; omega) | (simp_all; done) | (simp at *; omega))
   replace Q5 := Q5.pr X34 (by intros; try (first | (intro _ _) | (intro _) | skip); first | omega | (dsimp only at *; omega) | (simp_all; done) | (simp at *; omega))
   replace OKs := OKs.pr X34 (by intros; try (first | (intro _ _) | (intro _) | skip); first | omega | (have hq := hOK _ (by assumption); first | omega | (dsimp only at *; omega)))
   have zw34 := X34.size
   replace B4 := N34
   rw [k2] at B4
   rw [k3] at Q6
   have lQ6 := Q6.len
   have bQ6 := Q6.bd
   refine RS.nil ?_
   refine hK33 _ _ ?_
   try clear hK33
   refine region ?_
   refine RS.move (v := .slice _ _ _) rfl ?_
   refine RS.o (D.convBS OKs.row rfl Tryz.underlying22 Tryz.underlying5 Tryz.underlying9) ?_
   refine RS.norm (by dsimp only [List.set]) ?_
   rw [k1]
   refine RS.o (D.fieldL 3 rfl Tryz.underlying33 rfl C29 (by decide) rfl) ?_
   refine RS.o (D.fieldL 4 rfl Tryz.underlying29 rfl C9 (by decide) rfl) ?_
   refine RS.store rfl  rfl C9 rfl B14 rfl (fun w35 y35 N35 => ?_)
   replace hE := hE.trans (y35.below (by intros; try (first | (intro _ _) | (intro _) | skip); first | omega | (dsimp only at *; omega) | (simp_all; done) | (simp at *; omega)))
   replace B2 := B2.st y35 (by intros; try (first | (intro _ _) | (intro _) | skip); first | omega | (dsimp only at *; omega) | (simp_all; done) | (simp at *; omega))
   replace B4 := B4.st y35 (by intros; try (first | (intro _ _) | (intro _) | skip); first | omega | (dsimp only at *; omega) | (simp_all; done) | (simp at *; omega))
   replace DL := DL.st y35 (by intros; try (first | (intro _ _) | (intro _) | skip); first | omega | (dsimp only at *; omega) | (simp_all; done) | (simp at *; omega))
   replace OKs := OKs.st y35 (by intros; try (first | (intro _ _) | (intro _) | skip); first | omega | (have hq := hOK _ (by assumption); first | omega | (dsimp only at *; omega)))
   replace Q6 := Q6.st y35 (by intros; try (first | (intro _ _) | (intro _) | skip); first | omega | (dsimp only at *; omega) | (simp_all; done) | (simp at *; omega))
   have zw35 := y35.size
   replace B14 := N35
   refine RS.nil ?_
   refine hK28 _ _ ?_
   try clear hK28
   refine wp_seq_k (fun K36 hK36 => ?_)
   refine wp_seq_k (fun K37 hK37 => ?_)
   refine region ?_
   refine RS.o (D.fieldL 3 rfl Tryz.underlying33 rfl C29 (by decide) rfl) ?_
   refine RS.o (D.fieldL 3 rfl Tryz.underlying29 rfl C5 (by decide) rfl) ?_
   refine RS.o (D.load rfl Tryz.underlying5 rfl (B14.cell rfl)) ?_
   refine RS.o (D.eq rfl rfl) ?_
   refine RS.nil ?_
   refine hK37 _ _ ?_
   try clear hK37
   refine C.ife rfl (fun c38 => ?_) (fun c38 => ?_)
   ·have hk4 := c38
    refine wp_seq_k (fun K39 hK39 => ?_)
    refine region ?_
    refine RS.move (v := .pointer _) rfl ?_
    refine RS.nilCheck rfl ?_
    refine RS.o (D.fieldL 0 rfl Tryz.underlying78 rfl C22 (by decide) rfl) ?_
    refine RS.o (D.load rfl Tryz.underlying22 rfl (B4.cell rfl)) ?_
    refine RS.call E45 (decodeV _ _ _ _ _ Q6 hc6 (by omega)) rfl (fun v40 w40 x40 A40 => ?_)
    replace hE := Ext.tr hE x40
    replace B2 := B2.ext x40
    replace B4 := B4.ext x40
    replace B14 := B14.ext x40
    replace DL := DL.ext x40
    replace OKs := OKs.ext x40
    replace Q6 := Q6.ext x40
    have zw40 := x40.size
    subst A40
    have hvb := S.vd_bd bQ6
    obtain ⟨v1, v2, v3⟩ := S.valB_rd zq.1 zq.2.1 zq.2.2
    obtain ⟨zv, ez⟩ : ∃ z, z = S.valB zq.1 zq.2.1 zq.2.2 := ⟨_, rfl⟩
    rw [← ez] at v1 v2 v3
    have j1 : (S.vdS zq.2.2).k = zv.1.vk := congrArg S.ActV.vk v1
    have j2 : (S.vdS zq.2.2).num = zv.1.num := congrArg S.ActV.num v1
    have j3 : (S.vdS zq.2.2).bits = zv.1.bits := congrArg S.ActV.bits v1
    have j4 : (S.vdS zq.2.2).t = zv.1.t := congrArg S.ActV.t v1
    have j5 : zq.1 = zv.1.key := congrArg S.ActV.key v1
    rw [j1, j2, j3, j4]
    rw [j5] at B14
    refine RS.norm (by dsimp only [List.set]) ?_
    refine RS.move (v := .tuple _) rfl ?_
    refine RS.extract (v := .agg _) rfl rfl ?_
    refine RS.extract (v := .int _ _) rfl rfl ?_
    refine RS.extract (v := .int _ _) rfl rfl ?_
    refine RS.alloc T27 (fun b41 w41 e41 s41 x41 B41 => ?_)
    refine RS.norm (by dsimp only [List.set]) ?_
    replace hE := Ext.tr hE x41
    replace B2 := B2.ext x41
    replace B4 := B4.ext x41
    replace B14 := B14.ext x41
    replace DL := DL.ext x41
    replace OKs := OKs.ext x41
    replace Q6 := Q6.ext x41
    have zw41 := x41.size
    refine RS.storeAggB rfl rfl C27 (by decide) rfl rfl B41 rfl (fun w42 y42 N42 => ?_)
    replace hE := hE.trans (y42.below (by intros; try (first | (intro _ _) | (intro _) | skip); first | omega | (dsimp only at *; omega) | (simp_all; done) | (simp at *; omega)))
    replace B2 := B2.st y42 (by intros; try (first | (intro _ _) | (intro _) | skip); first | omega | (dsimp only at *; omega) | (simp_all; done) | (simp at *; omega))
    replace B4 := B4.st y42 (by intros; try (first | (intro _ _) | (intro _) | skip); first | omega | (dsimp only at *; omega) | (simp_all; done) | (simp at *; omega))
    replace B14 := B14.st y42 (by intros; try (first | (intro _ _) | (intro _) | skip); first | omega | (dsimp only at *; omega) | (simp_all; done) | (simp at *; omega))
    replace DL := DL.st y42 (by intros; try (first | (intro _ _) | (intro _) | skip); first | omega | (dsimp only at *; omega) | (simp_all; done) | (simp at *; omega))
    replace OKs := OKs.st y42 (by intros; try (first | (intro _ _) | (intro _) | skip); first | omega | (have hq := hOK _ (by assumption); first | omega | (dsimp only at *; omega)))
    replace Q6 := Q6.st y42 (by intros; try (first | (intro _ _) | (intro _) | skip); first | omega | (dsimp only at *; omega) | (simp_all; done) | (simp at *; omega))
    have zw42 := y42.size
    replace B41 := N42
    refine RS.assign (v := .int _ _) rfl ?_
    refine RS.assign (v := .int _ _) rfl ?_
    refine RS.nil ?_
    refine hK39 _ _ ?_
    try clear hK39
    refine wp_seq_k (fun K43 hK43 => ?_)
    refine region ?_
    refine RS.move (v := .pointer _) rfl ?_
    refine RS.move (v := .int _ _) rfl ?_
    refine RS.move (v := .int _ _) rfl ?_
    refine RS.callx E43 (rNext _ w.heap.size _ (by omega) _ _ _ _ _ (S.vdS zq.2.2).u (S.vdS zq.2.2).e (by omega) _ B4 Q6 hc6 (by omega)) rfl (fun e44 w44 A44 => ?_)
    obtain ⟨rfl, X44, a7, n7, c7, N44, hc7, hn7, Q7⟩ := A44
    refine ⟨_, rfl, ?_⟩
    refine RS.norm (by dsimp only [List.set]) ?_
    replace hE := hE.trans (X44.below (by intros; try (first | (intro _ _) | (intro _) | skip); first | omega | (dsimp only at *; omega) | (simp_all; done) | (simp at *; omega)) (by intros; try (first | (intro _ _) | (intro _) | skip); first | omega | (dsimp only at *; omega) | (simp_all; done) | (simp at *; omega)))
    replace B2 := B2.pr X44 (by intros; try (first | (intro _ _) | (intro _) | skip); first | omega | (dsimp only at *; omega) | (simp_all; done) | (simp at *; omega))
    replace B14 := B14.pr X44 (by intros; try (first | (intro _ _) | (intro _) | skip); first | omega | (dsimp only at *; omega) | (simp_all; done) | (simp at *; omega))
    replace DL := DL.pr X44 (by intros; try (first | (intro _ _) | (intro _) | skip); first | omega | (dsimp only at *; omega) | (simp_all; done) | (simp at *; omega))
    replace OKs := OKs.pr X44 (by intros; try (first | (intro _ _) | (intro _) | skip); first | omega | (have hq := hOK _ (by assumption); first | omega | (dsimp only at *; omega)))
    replace Q6 := Q6.pr X44 (by intros; try (first | (intro _ _) | (intro _) | skip); first | omega | (dsimp only at *; omega) | (simp_all; done) | (simp at *; omega))
    replace B41 := B41.pr X44 (by intros; try (first | (intro _ _) | (intro _) | skip); first | omega | (dsimp only at *; omega) | (simp_all; done) | (simp at *; omega))
    have zw44 := X44.size
    replace B4 := N44
    rw [v2] at B4
    rw [v3] at Q7
    have lQ7 := Q7.len
    have bQ7 := Q7.bd
    refine RS.nil ?_
    refine hK43 _ _ ?_
    try clear hK43
    refine region ?_
    refine RS.o (D.loadAgg rfl Tryz.underlying27 rfl C27 (by decide) rfl (B41.cellsN 4 rfl)) ?_
    refine RS.o (D.fieldL 3 rfl Tryz.underlying33 rfl C29 (by decide) rfl) ?_
    refine RS.o (D.fieldL 5 rfl Tryz.underlying29 rfl C27 (by decide) rfl) ?_
    refine RS.storeAggB rfl rfl C27 (by decide) rfl rfl B14 rfl (fun w45 y45 N45 => ?_)
    replace hE := hE.trans (y45.below (by intros; try (first | (intro _ _) | (intro _) | skip); first | omega | (dsimp only at *; omega) | (simp_all; done) | (simp at *; omega)))
    replace B2 := B2.st y45 (by intros; try (first | (intro _ _) | (intro _) | skip); first | omega | (dsimp only at *; omega) | (simp_all; done) | (simp at *; omega))
    replace B4 := B4.st y45 (by intros; try (first | (intro _ _) | (intro _) | skip); first | omega | (dsimp only at *; omega) | (simp_all; done) | (simp at *; omega))
    replace DL := DL.st y45 (by intros; try (first | (intro _ _) | (intro _) | skip); first | omega | (dsimp only at *; omega) | (simp_all; done) | (simp at *; omega))
    replace OKs := OKs.st y45 (by intros; try (first | (intro _ _) | (intro _) | skip); first | omega | (have hq := hOK _ (by assumption); first | omega | (dsimp only at *; omega)))
    replace B41 := B41.st y45 (by intros; try (first | (intro _ _) | (intro _) | skip); first | omega | (dsimp only at *; omega) | (simp_all; done) | (simp at *; omega))
    replace Q7 := Q7.st y45 (by intros; try (first | (intro _ _) | (intro _) | skip); first | omega | (dsimp only at *; omega) | (simp_all; done) | (simp at *; omega))
    have zw45 := y45.size
    replace B14 := N45
    refine RS.nil ?_
    refine hK36 _ _ ?_
    try clear hK36
    refine wp_seq_k (fun K46 hK46 => ?_)
    refine region ?_
    refine RS.move (v := .pointer _) rfl ?_
    refine RS.callx E41 (rNumber _ w.heap.size _ (by omega) _ _ _ _ _ 500000003 (by decide) _ B4 Q7 hc7 (by omega)) rfl (fun e47 w47 A47 => ?_)
    obtain ⟨rfl, X47, a8, n8, c8, N47, hc8, hn8, Q8⟩ := A47
    refine ⟨_, rfl, ?_⟩
    refine RS.norm (by dsimp only [List.set]) ?_
    replace hE := hE.trans (X47.below (by intros; try (first | (intro _ _) | (intro _) | skip); first | omega | (dsimp only at *; omega) | (simp_all; done) | (simp at *; omega)) (by intros; try (first | (intro _ _) | (intro _) | skip); first | omega | (dsimp only at *; omega) | (simp_all; done) | (simp at *; omega)))
    replace B2 := B2.pr X47 (by intros; try (first | (intro _ _) | (intro _) | skip); first | omega | (dsimp only at *; omega) | (simp_all; done) | (simp at *; omega))
    replace B14 := B14.pr X47 (by intros; try (first | (intro _ _) | (intro _) | skip); first | omega | (dsimp only at *; omega) | (simp_all; done) | (simp at *; omega))
    replace DL := DL.pr X47 (by intros; try (first | (intro _ _) | (intro _) | skip); first | omega | (dsimp only at *; omega) | (simp_all; done) | (simp at *; omega))
    replace OKs := OKs.pr X47 (by intros; try (first | (intro _ _) | (intro _) | skip); first | omega | (have hq := hOK _ (by assumption); first | omega | (dsimp only at *; omega)))
    replace B41 := B41.pr X47 (by intros; try (first | (intro _ _) | (intro _) | skip); first | omega | (dsimp only at *; omega) | (simp_all; done) | (simp at *; omega))
    replace Q7 := Q7.pr X47 (by intros; try (first | (intro _ _) | (intro _) | skip); first | omega | (dsimp only at *; omega) | (simp_all; done) | (simp at *; omega))
    have zw47 := X47.size
    replace B4 := N47
    obtain ⟨ze, ee⟩ : ∃ z, z = S.numB 500000003 zv.2.1 zv.2.2 := ⟨_, rfl⟩
    rw [← ee] at B4 Q8 ⊢
    have lQ8 := Q8.len
    have bQ8 := Q8.bd
    refine RS.o (D.conv rfl Tryz.underlying25 Tryz.underlying23 (W.u32m _)) ?_
    refine RS.move (v := .pointer _) rfl ?_
    refine RS.callx E41 (rNumber _ w.heap.size _ (by omega) _ _ _ _ _ 500000003 (by decide) _ B4 Q8 hc8 (by omega)) rfl (fun e48 w48 A48 => ?_)
    obtain ⟨rfl, X48, a9, n9, c9, N48, hc9, hn9, Q9⟩ := A48
    refine ⟨_, rfl, ?_⟩
    refine RS.norm (by dsimp only [List.set]) ?_
    replace hE := hE.trans (X48.below (by intros; try (first | (intro _ _) | (intro _) | skip); first | omega | (dsimp only at *; omega) | (simp_all; done) | (simp at *; omega)) (by intros; try (first | (intro _ _) | (intro _) | skip); first | omega | (dsimp only at *; omega) | (simp_all; done) | (simp at *; omega)))
    replace B2 := B2.pr X48 (by intros; try (first | (intro _ _) | (intro _) | skip); first | omega | (dsimp only at *; omega) | (simp_all; done) | (simp at *; omega))
    replace B14 := B14.pr X48 (by intros; try (first | (intro _ _) | (intro _) | skip); first | omega | (dsimp only at *; omega) | (simp_all; done) | (simp at *; omega))
    replace DL := DL.pr X48 (by intros; try (first | (intro _ _) | (intro _) | skip); first | omega | (dsimp only at *; omega) | (simp_all; done) | (simp at *; omega))
    replace OKs := OKs.pr X48 (by intros; try (first | (intro _ _) | (intro _) | skip); first | omega | (have hq := hOK _ (by assumption); first | omega | (dsimp only at *; omega)))
    replace B41 := B41.pr X48 (by intros; try (first | (intro _ _) | (intro _) | skip); first | omega | (dsimp only at *; omega) | (simp_all; done) | (simp at *; omega))
    replace Q8 := Q8.pr X48 (by intros; try (first | (intro _ _) | (intro _) | skip); first | omega | (dsimp only at *; omega) | (simp_all; done) | (simp at *; omega))
    have zw48 := X48.size
    replace B4 := N48
    obtain ⟨zs, es⟩ : ∃ z, z = S.numB 500000003 ze.2.1 ze.2.2 := ⟨_, rfl⟩
    rw [← es] at B4 Q9 ⊢
    have lQ9 := Q9.len
    have bQ9 := Q9.bd
    refine RS.o (D.conv rfl Tryz.underlying25 Tryz.underlying23 (W.u32m _)) ?_
    refine RS.o (D.fieldL 9 rfl Tryz.underlying33 rfl C31 (by decide) rfl) ?_
    refine RS.o (D.fieldL 9 rfl Tryz.underlying31 rfl C23 (by decide) rfl) ?_
    refine RS.store rfl (v := .int _ _) rfl C23 rfl B14 rfl (fun w49 y49 N49 => ?_)
    replace hE := hE.trans (y49.below (by intros; try (first | (intro _ _) | (intro _) | skip); first | omega | (dsimp only at *; omega) | (simp_all; done) | (simp at *; omega)))
    replace B2 := B2.st y49 (by intros; try (first | (intro _ _) | (intro _) | skip); first | omega | (dsimp only at *; omega) | (simp_all; done) | (simp at *; omega))
    replace B4 := B4.st y49 (by intros; try (first | (intro _ _) | (intro _) | skip); first | omega | (dsimp only at *; omega) | (simp_all; done) | (simp at *; omega))
    replace DL := DL.st y49 (by intros; try (first | (intro _ _) | (intro _) | skip); first | omega | (dsimp only at *; omega) | (simp_all; done) | (simp at *; omega))
    replace OKs := OKs.st y49 (by intros; try (first | (intro _ _) | (intro _) | skip); first | omega | (have hq := hOK _ (by assumption); first | omega | (dsimp only at *; omega)))
    replace B41 := B41.st y49 (by intros; try (first | (intro _ _) | (intro _) | skip); first | omega | (dsimp only at *; omega) | (simp_all; done) | (simp at *; omega))
    replace Q9 := Q9.st y49 (by intros; try (first | (intro _ _) | (intro _) | skip); first | omega | (dsimp only at *; omega) | (simp_all; done) | (simp at *; omega))
    have zw49 := y49.size
    replace B14 := N49
    refine RS.o (D.fieldL 9 rfl Tryz.underlying33 rfl C31 (by decide) rfl) ?_
    refine RS.o (D.fieldL 10 rfl Tryz.underlying31 rfl C23 (by decide) rfl) ?_
    refine RS.store rfl (v := .int _ _) rfl C23 rfl B14 rfl (fun w50 y50 N50 => ?_)
    replace hE := hE.trans (y50.below (by intros; try (first | (intro _ _) | (intro _) | skip); first | omega | (dsimp only at *; omega) | (simp_all; done) | (simp at *; omega)))
    replace B2 := B2.st y50 (by intros; try (first | (intro _ _) | (intro _) | skip); first | omega | (dsimp only at *; omega) | (simp_all; done) | (simp at *; omega))
    replace B4 := B4.st y50 (by intros; try (first | (intro _ _) | (intro _) | skip); first | omega | (dsimp only at *; omega) | (simp_all; done) | (simp at *; omega))
    replace DL := DL.st y50 (by intros; try (first | (intro _ _) | (intro _) | skip); first | omega | (dsimp only at *; omega) | (simp_all; done) | (simp at *; omega))
    replace OKs := OKs.st y50 (by intros; try (first | (intro _ _) | (intro _) | skip); first | omega | (have hq := hOK _ (by assumption); first | omega | (dsimp only at *; omega)))
    replace B41 := B41.st y50 (by intros; try (first | (intro _ _) | (intro _) | skip); first | omega | (dsimp only at *; omega) | (simp_all; done) | (simp at *; omega))
    replace Q9 := Q9.st y50 (by intros; try (first | (intro _ _) | (intro _) | skip); first | omega | (dsimp only at *; omega) | (simp_all; done) | (simp at *; omega))
    have zw50 := y50.size
    replace B14 := N50
    refine RS.nil ?_
    refine hK46 _ _ ?_
    try clear hK46
    refine wp_seq_k (fun K51 hK51 => ?_)
    refine wp_seq_k (fun K52 hK52 => ?_)
    have hsb := S.Steps.ok hbd (⟨zh, za, zl, zt, zk, zv, ze, zs, eh, ea, el, et, ek, (by rw [ez, ezq]; exact S.actB_val zk.2.1 zk.2.2 hk4), ee, es⟩ : S.Steps bs)
    refine region ?_
    refine RS.move (v := .pointer _) rfl ?_
    refine RS.nilCheck rfl ?_
    refine RS.o (D.fieldL 1 rfl Tryz.underlying78 rfl C4 (by decide) rfl) ?_
    refine RS.o (D.load rfl Tryz.underlying4 rfl (B4.cell rfl)) ?_
    refine RS.move (v := .bool _) rfl ?_
    refine RS.splitb 107 rfl rfl (fun c53 => ?_) (fun c53 => ?_)
    ·refine RS.norm (by dsimp only [List.set]) ?_
     have hb1 := c53
     refine RS.skipB (b := true) 107 rfl rfl rfl rfl ?_
     refine RS.norm (by dsimp only [putL, List.set]) ?_
     refine RS.skipB (b := true) 107 rfl rfl rfl rfl ?_
     refine RS.norm (by dsimp only [putL, List.set]) ?_
     refine RS.skipB (b := true) 107 rfl rfl rfl rfl ?_
     refine RS.norm (by dsimp only [putL, List.set]) ?_
     refine RS.skipB (b := true) 107 rfl rfl rfl rfl ?_
     refine RS.norm (by dsimp only [putL, List.set]) ?_
     refine RS.skipB (b := true) 107 rfl rfl rfl rfl ?_
     refine RS.norm (by dsimp only [putL, List.set]) ?_
     refine RS.skipB (b := true) 107 rfl rfl rfl rfl ?_
     refine RS.norm (by dsimp only [putL, List.set]) ?_
     refine RS.pick (v := .bool true) rfl rfl ?_
     refine RS.move (v := .bool _) rfl ?_
     refine RS.skipB (b := true) 115 rfl rfl rfl rfl ?_
     refine RS.norm (by dsimp only [putL, List.set]) ?_
     refine RS.skipB (b := true) 115 rfl rfl rfl rfl ?_
     refine RS.norm (by dsimp only [putL, List.set]) ?_
     refine RS.skipB (b := true) 115 rfl rfl rfl rfl ?_
     refine RS.norm (by dsimp only [putL, List.set]) ?_
     refine RS.pick (v := .bool true) rfl rfl ?_
     refine RS.nil ?_
     refine hK52 _ _ ?_
     try clear hK52
     refine C.ift rfl ?_
     refine wp_seq_k (fun K54 hK54 => ?_)
     refine region ?_
     refine RS.move (v := .func _ _ _) rfl ?_
     refine RS.callv E39 (decFail _) rfl rfl (fun e55 w55 A55 => ?_)
     obtain ⟨v55, rfl, x55, A55⟩ := A55
     refine ⟨_, rfl, ?_⟩
     replace hE := Ext.tr hE x55
     replace B2 := B2.ext x55
     replace B4 := B4.ext x55
     replace B14 := B14.ext x55
     replace DL := DL.ext x55
     replace OKs := OKs.ext x55
     replace B41 := B41.ext x55
     replace Q9 := Q9.ext x55
     have zw55 := x55.size
     subst A55
     refine RS.norm (by dsimp only [List.set]) ?_
     refine RS.extract (v := .agg _) rfl rfl ?_
     refine RS.extract (v := .int _ _) rfl rfl ?_
     refine RS.storeAggB rfl rfl C33 (by decide) rfl rfl B2 rfl (fun w56 y56 N56 => ?_)
     replace hE := hE.trans (y56.below (by intros; try (first | (intro _ _) | (intro _) | skip); first | omega | (dsimp only at *; omega) | (simp_all; done) | (simp at *; omega)))
     replace B4 := B4.st y56 (by intros; try (first | (intro _ _) | (intro _) | skip); first | omega | (dsimp only at *; omega) | (simp_all; done) | (simp at *; omega))
     replace B14 := B14.st y56 (by intros; try (first | (intro _ _) | (intro _) | skip); first | omega | (dsimp only at *; omega) | (simp_all; done) | (simp at *; omega))
     replace DL := DL.st y56 (by intros; try (first | (intro _ _) | (intro _) | skip); first | omega | (dsimp only at *; omega) | (simp_all; done) | (simp at *; omega))
     replace OKs := OKs.st y56 (by intros; try (first | (intro _ _) | (intro _) | skip); first | omega | (have hq := hOK _ (by assumption); first | omega | (dsimp only at *; omega)))
     replace B41 := B41.st y56 (by intros; try (first | (intro _ _) | (intro _) | skip); first | omega | (dsimp only at *; omega) | (simp_all; done) | (simp at *; omega))
     replace Q9 := Q9.st y56 (by intros; try (first | (intro _ _) | (intro _) | skip); first | omega | (dsimp only at *; omega) | (simp_all; done) | (simp at *; omega))
     have zw56 := y56.size
     replace B2 := N56
     refine RS.assign (v := .int _ _) rfl ?_
     refine RS.nil ?_
     refine hK54 _ _ ?_
     try clear hK54
     refine wp_ret ?_
     refine ret (rs := [.cell 2 33, .tmp 3]) (vs := [.agg _, .int _ _]) (v := (.tuple #[.agg _, .int _ _])) rfl ⟨⟨_, rfl, loadVar_agg Tryz.underlying33 rfl C33 (by decide) rfl (B2.cellsN 11 rfl)⟩, rfl, trivial⟩ rfl ?_
     obtain ⟨q1, q2⟩ := S.dec_none (S.Steps.none hbd (⟨zh, za, zl, zt, zk, zv, ze, zs, eh, ea, el, et, ek, (by rw [ez, ezq]; exact S.actB_val zk.2.1 zk.2.2 hk4), ee, es⟩ : S.Steps bs) (fun ⟨_, g2, g3, g4⟩ => by first | exact Bool.noConfusion (hb1.symm.trans g2) | exact absurd g4 hz | (have g3 : zs.2.2 = [] := g3; rw [g3] at lQ9; simp at lQ9; omega)))
     rw [q1, q2]
     exact ⟨_, rfl, hE, _, _, rfl, Nat.le_refl _, WRow.nil⟩
    ·refine RS.norm (by dsimp only [List.set]) ?_
     have hb0 := c53
     refine RS.wantB 107 rfl rfl rfl ?_
     refine RS.move (v := .pointer _) rfl ?_
     refine RS.wantB 107 rfl rfl rfl ?_
     refine RS.nilCheck rfl ?_
     refine RS.wantB 107 rfl rfl rfl ?_
     refine RS.o (D.fieldL 0 rfl Tryz.underlying78 rfl C22 (by decide) rfl) ?_
     refine RS.wantB 107 rfl rfl rfl ?_
     refine RS.o (D.load rfl Tryz.underlying22 rfl (B4.cell rfl)) ?_
     refine RS.wantB 107 rfl rfl rfl ?_
     refine RS.o (D.len rfl Tryz.underlying22) ?_
     refine RS.wantB 107 rfl rfl rfl ?_
     refine RS.o (D.gt rfl rfl) ?_
     refine RS.pick (v := .bool _) rfl rfl ?_
     refine RS.move (v := .bool _) rfl ?_
     refine RS.splitd 115 rfl rfl (fun c57 => ?_) (fun c57 => ?_)
     ·refine RS.norm (by dsimp only [List.set]) ?_
      have hr := c57
      refine RS.skipB (b := true) 115 rfl rfl rfl rfl ?_
      refine RS.norm (by dsimp only [putL, List.set]) ?_
      refine RS.skipB (b := true) 115 rfl rfl rfl rfl ?_
      refine RS.norm (by dsimp only [putL, List.set]) ?_
      refine RS.skipB (b := true) 115 rfl rfl rfl rfl ?_
      refine RS.norm (by dsimp only [putL, List.set]) ?_
      refine RS.pick (v := .bool true) rfl rfl ?_
      refine RS.nil ?_
      refine hK52 _ _ ?_
      try clear hK52
      refine C.ift rfl ?_
      refine wp_seq_k (fun K58 hK58 => ?_)
      refine region ?_
      refine RS.move (v := .func _ _ _) rfl ?_
      refine RS.callv E39 (decFail _) rfl rfl (fun e59 w59 A59 => ?_)
      obtain ⟨v59, rfl, x59, A59⟩ := A59
      refine ⟨_, rfl, ?_⟩
      replace hE := Ext.tr hE x59
      replace B2 := B2.ext x59
      replace B4 := B4.ext x59
      replace B14 := B14.ext x59
      replace DL := DL.ext x59
      replace OKs := OKs.ext x59
      replace B41 := B41.ext x59
      replace Q9 := Q9.ext x59
      have zw59 := x59.size
      subst A59
      refine RS.norm (by dsimp only [List.set]) ?_
      refine RS.extract (v := .agg _) rfl rfl ?_
      refine RS.extract (v := .int _ _) rfl rfl ?_
      refine RS.storeAggB rfl rfl C33 (by decide) rfl rfl B2 rfl (fun w60 y60 N60 => ?_)
      replace hE := hE.trans (y60.below (by intros; try (first | (intro _ _) | (intro _) | skip); first | omega | (dsimp only at *; omega) | (simp_all; done) | (simp at *; omega)))
      replace B4 := B4.st y60 (by intros; try (first | (intro _ _) | (intro _) | skip); first | omega | (dsimp only at *; omega) | (simp_all; done) | (simp at *; omega))
      replace B14 := B14.st y60 (by intros; try (first | (intro _ _) | (intro _) | skip); first | omega | (dsimp only at *; omega) | (simp_all; done) | (simp at *; omega))
      replace DL := DL.st y60 (by intros; try (first | (intro _ _) | (intro _) | skip); first | omega | (dsimp only at *; omega) | (simp_all; done) | (simp at *; omega))
      replace OKs := OKs.st y60 (by intros; try (first | (intro _ _) | (intro _) | skip); first | omega | (have hq := hOK _ (by assumption); first | omega | (dsimp only at *; omega)))
      replace B41 := B41.st y60 (by intros; try (first | (intro _ _) | (intro _) | skip); first | omega | (dsimp only at *; omega) | (simp_all; done) | (simp at *; omega))
      replace Q9 := Q9.st y60 (by intros; try (first | (intro _ _) | (intro _) | skip); first | omega | (dsimp only at *; omega) | (simp_all; done) | (simp at *; omega))
      have zw60 := y60.size
      replace B2 := N60
      refine RS.assign (v := .int _ _) rfl ?_
      refine RS.nil ?_
      refine hK58 _ _ ?_
      try clear hK58
      refine wp_ret ?_
      refine ret (rs := [.cell 2 33, .tmp 3]) (vs := [.agg _, .int _ _]) (v := (.tuple #[.agg _, .int _ _])) rfl ⟨⟨_, rfl, loadVar_agg Tryz.underlying33 rfl C33 (by decide) rfl (B2.cellsN 11 rfl)⟩, rfl, trivial⟩ rfl ?_
      obtain ⟨q1, q2⟩ := S.dec_none (S.Steps.none hbd (⟨zh, za, zl, zt, zk, zv, ze, zs, eh, ea, el, et, ek, (by rw [ez, ezq]; exact S.actB_val zk.2.1 zk.2.2 hk4), ee, es⟩ : S.Steps bs) (fun ⟨_, g2, g3, g4⟩ => by first | exact Bool.noConfusion (hb1.symm.trans g2) | exact absurd g4 hz | (have g3 : zs.2.2 = [] := g3; rw [g3] at lQ9; simp at lQ9; omega)))
      rw [q1, q2]
      exact ⟨_, rfl, hE, _, _, rfl, Nat.le_refl _, WRow.nil⟩
     ·refine RS.norm (by dsimp only [List.set]) ?_
      have hr := c57
      refine RS.wantB 115 rfl rfl rfl ?_
      refine RS.o (D.loadAgg rfl Tryz.underlying33 rfl C33 (by decide) rfl (B14.cellsN 11 rfl)) ?_
      refine RS.wantB 115 rfl rfl rfl ?_
      refine RS.call E46 (checkO (⟨zh, za, zl, zt, zk, zv, ze, zs, eh, ea, el, et, ek, (by rw [ez, ezq]; exact S.actB_val zk.2.1 zk.2.2 hk4), ee, es⟩ : S.Steps bs).op hsb.1 _ _ _ DL hcL) rfl (fun v61 w61 x61 A61 => ?_)
      replace hE := Ext.tr hE x61
      replace B2 := B2.ext x61
      replace B4 := B4.ext x61
      replace B14 := B14.ext x61
      replace DL := DL.ext x61
      replace OKs := OKs.ext x61
      replace B41 := B41.ext x61
      replace Q9 := Q9.ext x61
      have zw61 := x61.size
      subst A61
      refine RS.norm (by dsimp only [List.set]) ?_
      refine RS.wantB 115 rfl rfl rfl ?_
      refine RS.o (D.ne rfl rfl) ?_
      refine RS.pick (v := .bool _) rfl rfl ?_
      refine RS.nil ?_
      refine hK52 _ _ ?_
      try clear hK52
      refine C.ifn rfl (fun c62 => ?_) (fun c62 => ?_)
      ·have hz := c62
       refine wp_seq_k (fun K63 hK63 => ?_)
       refine region ?_
       refine RS.move (v := .func _ _ _) rfl ?_
       refine RS.callv E39 (decFail _) rfl rfl (fun e64 w64 A64 => ?_)
       obtain ⟨v64, rfl, x64, A64⟩ := A64
       refine ⟨_, rfl, ?_⟩
       replace hE := Ext.tr hE x64
       replace B2 := B2.ext x64
       replace B4 := B4.ext x64
       replace B14 := B14.ext x64
       replace DL := DL.ext x64
       replace OKs := OKs.ext x64
       replace B41 := B41.ext x64
       replace Q9 := Q9.ext x64
       have zw64 := x64.size
       subst A64
       refine RS.norm (by dsimp only [List.set]) ?_
       refine RS.extract (v := .agg _) rfl rfl ?_
       refine RS.extract (v := .int _ _) rfl rfl ?_
       refine RS.storeAggB rfl rfl C33 (by decide) rfl rfl B2 rfl (fun w65 y65 N65 => ?_)
       replace hE := hE.trans (y65.below (by intros; try (first | (intro _ _) | (intro _) | skip); first | omega | (dsimp only at *; omega) | (simp_all; done) | (simp at *; omega)))
       replace B4 := B4.st y65 (by intros; try (first | (intro _ _) | (intro _) | skip); first | omega | (dsimp only at *; omega) | (simp_all; done) | (simp at *; omega))
       replace B14 := B14.st y65 (by intros; try (first | (intro _ _) | (intro _) | skip); first | omega | (dsimp only at *; omega) | (simp_all; done) | (simp at *; omega))
       replace DL := DL.st y65 (by intros; try (first | (intro _ _) | (intro _) | skip); first | omega | (dsimp only at *; omega) | (simp_all; done) | (simp at *; omega))
       replace OKs := OKs.st y65 (by intros; try (first | (intro _ _) | (intro _) | skip); first | omega | (have hq := hOK _ (by assumption); first | omega | (dsimp only at *; omega)))
       replace B41 := B41.st y65 (by intros; try (first | (intro _ _) | (intro _) | skip); first | omega | (dsimp only at *; omega) | (simp_all; done) | (simp at *; omega))
       replace Q9 := Q9.st y65 (by intros; try (first | (intro _ _) | (intro _) | skip); first | omega | (dsimp only at *; omega) | (simp_all; done) | (simp at *; omega))
       have zw65 := y65.size
       replace B2 := N65
       refine RS.assign (v := .int _ _) rfl ?_
       refine RS.nil ?_
       refine hK63 _ _ ?_
       try clear hK63
       refine wp_ret ?_
       refine ret (rs := [.cell 2 33, .tmp 3]) (vs := [.agg _, .int _ _]) (v := (.tuple #[.agg _, .int _ _])) rfl ⟨⟨_, rfl, loadVar_agg Tryz.underlying33 rfl C33 (by decide) rfl (B2.cellsN 11 rfl)⟩, rfl, trivial⟩ rfl ?_
       obtain ⟨q1, q2⟩ := S.dec_none (S.Steps.none hbd (⟨zh, za, zl, zt, zk, zv, ze, zs, eh, ea, el, et, ek, (by rw [ez, ezq]; exact S.actB_val zk.2.1 zk.2.2 hk4), ee, es⟩ : S.Steps bs) (fun ⟨_, g2, g3, g4⟩ => by first | exact Bool.noConfusion (hb1.symm.trans g2) | exact absurd g4 hz | (have g3 : zs.2.2 = [] := g3; rw [g3] at lQ9; simp at lQ9; omega)))
       rw [q1, q2]
       exact ⟨_, rfl, hE, _, _, rfl, Nat.le_refl _, WRow.nil⟩
      ·have hz := c62
       refine wp_skip ?_
       refine hK51 _ _ ?_
       try clear hK51
       refine wp_seq_k (fun K66 hK66 => ?_)
       refine region ?_
       refine RS.o (D.loadAgg rfl Tryz.underlying33 rfl C33 (by decide) rfl (B14.cellsN 11 rfl)) ?_
       refine RS.storeAggB rfl rfl C33 (by decide) rfl rfl B2 rfl (fun w67 y67 N67 => ?_)
       replace hE := hE.trans (y67.below (by intros; try (first | (intro _ _) | (intro _) | skip); first | omega | (dsimp only at *; omega) | (simp_all; done) | (simp at *; omega)))
       replace B4 := B4.st y67 (by intros; try (first | (intro _ _) | (intro _) | skip); first | omega | (dsimp only at *; omega) | (simp_all; done) | (simp at *; omega))
       replace B14 := B14.st y67 (by intros; try (first | (intro _ _) | (intro _) | skip); first | omega | (dsimp only at *; omega) | (simp_all; done) | (simp at *; omega))
       replace DL := DL.st y67 (by intros; try (first | (intro _ _) | (intro _) | skip); first | omega | (dsimp only at *; omega) | (simp_all; done) | (simp at *; omega))
       replace OKs := OKs.st y67 (by intros; try (first | (intro _ _) | (intro _) | skip); first | omega | (have hq := hOK _ (by assumption); first | omega | (dsimp only at *; omega)))
       replace B41 := B41.st y67 (by intros; try (first | (intro _ _) | (intro _) | skip); first | omega | (dsimp only at *; omega) | (simp_all; done) | (simp at *; omega))
       replace Q9 := Q9.st y67 (by intros; try (first | (intro _ _) | (intro _) | skip); first | omega | (dsimp only at *; omega) | (simp_all; done) | (simp at *; omega))
       have zw67 := y67.size
       replace B2 := N67
       refine RS.assign (v := .int .i64 0) rfl ?_
       refine RS.nil ?_
       refine hK66 _ _ ?_
       try clear hK66
       refine wp_ret ?_
       refine ret (rs := [.cell 2 33, .tmp 3]) (vs := [.agg _, .int _ _]) (v := (.tuple #[.agg _, .int _ _])) rfl ⟨⟨_, rfl, loadVar_agg Tryz.underlying33 rfl C33 (by decide) rfl (B2.cellsN 11 rfl)⟩, rfl, trivial⟩ rfl ?_
       obtain ⟨q1, q2⟩ := S.dec_some (S.Steps.good hbd (⟨zh, za, zl, zt, zk, zv, ze, zs, eh, ea, el, et, ek, (by rw [ez, ezq]; exact S.actB_val zk.2.1 zk.2.2 hk4), ee, es⟩ : S.Steps bs) (by show zh.1 = 111; exact hx1) hb0 (List.eq_nil_of_length_eq_zero (by show zs.2.2.length = 0; omega)) hz)
       rw [q1, q2]
       exact ⟨_, rfl, hE, _, _, rfl, hcL, DL.weaken (fun k _ h => by omega)⟩
   ·have hk4 := c38
    refine wp_skip ?_
    refine hK36 _ _ ?_
    try clear hK36
    refine wp_seq_k (fun K68 hK68 => ?_)
    refine region ?_
    refine RS.move (v := .pointer _) rfl ?_
    refine RS.callx E41 (rNumber _ w.heap.size _ (by omega) _ _ _ _ _ 500000003 (by decide) _ B4 Q6 hc6 (by omega)) rfl (fun e69 w69 A69 => ?_)
    obtain ⟨rfl, X69, a8, n8, c8, N69, hc8, hn8, Q8⟩ := A69
    refine ⟨_, rfl, ?_⟩
    refine RS.norm (by dsimp only [List.set]) ?_
    replace hE := hE.trans (X69.below (by intros; try (first | (intro _ _) | (intro _) | skip); first | omega | (dsimp only at *; omega) | (simp_all; done) | (simp at *; omega)) (by intros; try (first | (intro _ _) | (intro _) | skip); first | omega | (dsimp only at *; omega) | (simp_all; done) | (simp at *; omega)))
    replace B2 := B2.pr X69 (by intros; try (first | (intro _ _) | (intro _) | skip); first | omega | (dsimp only at *; omega) | (simp_all; done) | (simp at *; omega))
    replace B14 := B14.pr X69 (by intros; try (first | (intro _ _) | (intro _) | skip); first | omega | (dsimp only at *; omega) | (simp_all; done) | (simp at *; omega))
    replace DL := DL.pr X69 (by intros; try (first | (intro _ _) | (intro _) | skip); first | omega | (dsimp only at *; omega) | (simp_all; done) | (simp at *; omega))
    replace OKs := OKs.pr X69 (by intros; try (first | (intro _ _) | (intro _) | skip); first | omega | (have hq := hOK _ (by assumption); first | omega | (dsimp only at *; omega)))
    replace Q6 := Q6.pr X69 (by intros; try (first | (intro _ _) | (intro _) | skip); first | omega | (dsimp only at *; omega) | (simp_all; done) | (simp at *; omega))
    have zw69 := X69.size
    replace B4 := N69
    obtain ⟨ze, ee⟩ : ∃ z, z = S.numB 500000003 zq.2.1 zq.2.2 := ⟨_, rfl⟩
    rw [← ee] at B4 Q8 ⊢
    have lQ8 := Q8.len
    have bQ8 := Q8.bd
    refine RS.o (D.conv rfl Tryz.underlying25 Tryz.underlying23 (W.u32m _)) ?_
    refine RS.move (v := .pointer _) rfl ?_
    refine RS.callx E41 (rNumber _ w.heap.size _ (by omega) _ _ _ _ _ 500000003 (by decide) _ B4 Q8 hc8 (by omega)) rfl (fun e70 w70 A70 => ?_)
    obtain ⟨rfl, X70, a9, n9, c9, N70, hc9, hn9, Q9⟩ := A70
    refine ⟨_, rfl, ?_⟩
    refine RS.norm (by dsimp only [List.set]) ?_
    replace hE := hE.trans (X70.below (by intros; try (first | (intro _ _) | (intro _) | skip); first | omega | (dsimp only at *; omega) | (simp_all; done) | (simp at *; omega)) (by intros; try (first | (intro _ _) | (intro _) | skip); first | omega | (dsimp only at *; omega) | (simp_all; done) | (simp at *; omega)))
    replace B2 := B2.pr X70 (by intros; try (first | (intro _ _) | (intro _) | skip); first | omega | (dsimp only at *; omega) | (simp_all; done) | (simp at *; omega))
    replace B14 := B14.pr X70 (by intros; try (first | (intro _ _) | (intro _) | skip); first | omega | (dsimp only at *; omega) | (simp_all; done) | (simp at *; omega))
    replace DL := DL.pr X70 (by intros; try (first | (intro _ _) | (intro _) | skip); first | omega | (dsimp only at *; omega) | (simp_all; done) | (simp at *; omega))
    replace OKs := OKs.pr X70 (by intros; try (first | (intro _ _) | (intro _) | skip); first | omega | (have hq := hOK _ (by assumption); first | omega | (dsimp only at *; omega)))
    replace Q8 := Q8.pr X70 (by intros; try (first | (intro _ _) | (intro _) | skip); first | omega | (dsimp only at *; omega) | (simp_all; done) | (simp at *; omega))
    have zw70 := X70.size
    replace B4 := N70
    obtain ⟨zs, es⟩ : ∃ z, z = S.numB 500000003 ze.2.1 ze.2.2 := ⟨_, rfl⟩
    rw [← es] at B4 Q9 ⊢
    have lQ9 := Q9.len
    have bQ9 := Q9.bd
    refine RS.o (D.conv rfl Tryz.underlying25 Tryz.underlying23 (W.u32m _)) ?_
    refine RS.o (D.fieldL 9 rfl Tryz.underlying33 rfl C31 (by decide) rfl) ?_
    refine RS.o (D.fieldL 9 rfl Tryz.underlying31 rfl C23 (by decide) rfl) ?_
    refine RS.store rfl (v := .int _ _) rfl C23 rfl B14 rfl (fun w71 y71 N71 => ?_)
    replace hE := hE.trans (y71.below (by intros; try (first | (intro _ _) | (intro _) | skip); first | omega | (dsimp only at *; omega) | (simp_all; done) | (simp at *; omega)))
    replace B2 := B2.st y71 (by intros; try (first | (intro _ _) | (intro _) | skip); first | omega | (dsimp only at *; omega) | (simp_all; done) | (simp at *; omega))
    replace B4 := B4.st y71 (by intros; try (first | (intro _ _) | (intro _) | skip); first | omega | (dsimp only at *; omega) | (simp_all; done) | (simp at *; omega))
    replace DL := DL.st y71 (by intros; try (first | (intro _ _) | (intro _) | skip); first | omega | (dsimp only at *; omega) | (simp_all; done) | (simp at *; omega))
    replace OKs := OKs.st y71 (by intros; try (first | (intro _ _) | (intro _) | skip); first | omega | (have hq := hOK _ (by assumption); first | omega | (dsimp only at *; omega)))
    replace Q9 := Q9.st y71 (by intros; try (first | (intro _ _) | (intro _) | skip); first | omega | (dsimp only at *; omega) | (simp_all; done) | (simp at *; omega))
    have zw71 := y71.size
    replace B14 := N71
    refine RS.o (D.fieldL 9 rfl Tryz.underlying33 rfl C31 (by decide) rfl) ?_
    refine RS.o (D.fieldL 10 rfl Tryz.underlying31 rfl C23 (by decide) rfl) ?_
    refine RS.store rfl (v := .int _ _) rfl C23 rfl B14 rfl (fun w72 y72 N72 => ?_)
    replace hE := hE.trans (y72.below (by intros; try (first | (intro _ _) | (intro _) | skip); first | omega | (dsimp only at *; omega) | (simp_all; done) | (simp at *; omega)))
    replace B2 := B2.st y72 (by intros; try (first | (intro _ _) | (intro _) | skip); first | omega | (dsimp only at *; omega) | (simp_all; done) | (simp at *; omega))
    replace B4 := B4.st y72 (by intros; try (first | (intro _ _) | (intro _) | skip); first | omega | (dsimp only at *; omega) | (simp_all; done) | (simp at *; omega))
    replace DL := DL.st y72 (by intros; try (first | (intro _ _) | (intro _) | skip); first | omega | (dsimp only at *; omega) | (simp_all; done) | (simp at *; omega))
    replace OKs := OKs.st y72 (by intros; try (first | (intro _ _) | (intro _) | skip); first | omega | (have hq := hOK _ (by assumption); first | omega | (dsimp only at *; omega)))
    replace Q9 := Q9.st y72 (by intros; try (first | (intro _ _) | (intro _) | skip); first | omega | (dsimp only at *; omega) | (simp_all; done) | (simp at *; omega))
    have zw72 := y72.size
    replace B14 := N72
    refine RS.nil ?_
    refine hK68 _ _ ?_
    try clear hK68
    refine wp_seq_k (fun K73 hK73 => ?_)
    refine wp_seq_k (fun K74 hK74 => ?_)
    have hsb := S.Steps.ok hbd (⟨zh, za, zl, zt, zk, (⟨0, 0, 0, zq.1, .empty⟩, zq.2.1, zq.2.2), ze, zs, eh, ea, el, et, ek, (by rw [ezq]; exact S.actB_key zk.2.1 zk.2.2 hk1 hk4), ee, es⟩ : S.Steps bs)
    refine region ?_
    refine RS.move (v := .pointer _) rfl ?_
    refine RS.nilCheck rfl ?_
    refine RS.o (D.fieldL 1 rfl Tryz.underlying78 rfl C4 (by decide) rfl) ?_
    refine RS.o (D.load rfl Tryz.underlying4 rfl (B4.cell rfl)) ?_
    refine RS.move (v := .bool _) rfl ?_
    refine RS.splitb 107 rfl rfl (fun c75 => ?_) (fun c75 => ?_)
    ·refine RS.norm (by dsimp only [List.set]) ?_
     have hb1 := c75
     refine RS.skipB (b := true) 107 rfl rfl rfl rfl ?_
     refine RS.norm (by dsimp only [putL, List.set]) ?_
     refine RS.skipB (b := true) 107 rfl rfl rfl rfl ?_
     refine RS.norm (by dsimp only [putL, List.set]) ?_
     refine RS.skipB (b := true) 107 rfl rfl rfl rfl ?_
     refine RS.norm (by dsimp only [putL, List.set]) ?_
     refine RS.skipB (b := true) 107 rfl rfl rfl rfl ?_
     refine RS.norm (by dsimp only [putL, List.set]) ?_
     refine RS.skipB (b := true) 107 rfl rfl rfl rfl ?_
     refine RS.norm (by dsimp only [putL, List.set]) ?_
     refine RS.skipB (b := true) 107 rfl rfl rfl rfl ?_
     refine RS.norm (by dsimp only [putL, List.set]) ?_
     refine RS.pick (v := .bool true) rfl rfl ?_
     refine RS.move (v := .bool _) rfl ?_
     refine RS.skipB (b := true) 115 rfl rfl rfl rfl ?_
     refine RS.norm (by dsimp only [putL, List.set]) ?_
     refine RS.skipB (b := true) 115 rfl rfl rfl rfl ?_
     refine RS.norm (by dsimp only [putL, List.set]) ?_
     refine RS.skipB (b := true) 115 rfl rfl rfl rfl ?_
     refine RS.norm (by dsimp only [putL, List.set]) ?_
     refine RS.pick (v := .bool true) rfl rfl ?_
     refine RS.nil ?_
     refine hK74 _ _ ?_
     try clear hK74
     refine C.ift rfl ?_
     refine wp_seq_k (fun K76 hK76 => ?_)
     refine region ?_
     refine RS.move (v := .func _ _ _) rfl ?_
     refine RS.callv E39 (decFail _) rfl rfl (fun e77 w77 A77 => ?_)
     obtain ⟨v77, rfl, x77, A77⟩ := A77
     refine ⟨_, rfl, ?_⟩
     replace hE := Ext.tr hE x77
     replace B2 := B2.ext x77
     replace B4 := B4.ext x77
     replace B14 := B14.ext x77
     replace DL := DL.ext x77
     replace OKs := OKs.ext x77
     replace Q9 := Q9.ext x77
     have zw77 := x77.size
     subst A77
     refine RS.norm (by dsimp only [List.set]) ?_
     refine RS.extract (v := .agg _) rfl rfl ?_
     refine RS.extract (v := .int _ _) rfl rfl ?_
     refine RS.storeAggB rfl rfl C33 (by decide) rfl rfl B2 rfl (fun w78 y78 N78 => ?_)
     replace hE := hE.trans (y78.below (by intros; try (first | (intro _ _) | (intro _) | skip); first | omega | (dsimp only at *; omega) | (simp_all; done) | (simp at *; omega)))
     replace B4 := B4.st y78 (by intros; try (first | (intro _ _) | (intro _) | skip); first | omega | (dsimp only at *; omega) | (simp_all; done) | (simp at *; omega))
     replace B14 := B14.st y78 (by intros; try (first | (intro _ _) | (intro _) | skip); first | omega | (dsimp only at *; omega) | (simp_all; done) | (simp at *; omega))
     replace DL := DL.st y78 (by intros; try (first | (intro _ _) | (intro _) | skip); first | omega | (dsimp only at *; omega) | (simp_all; done) | (simp at *; omega))
     replace OKs := OKs.st y78 (by intros; try (first | (intro _ _) | (intro _) | skip); first | omega | (have hq := hOK _ (by assumption); first | omega | (dsimp only at *; omega)))
     replace Q9 := Q9.st y78 (by intros; try (first | (intro _ _) | (intro _) | skip); first | omega | (dsimp only at *; omega) | (simp_all; done) | (simp at *; omega))
     have zw78 := y78.size
     replace B2 := N78
     refine RS.assign (v := .int _ _) rfl ?_
     refine RS.nil ?_
     refine hK76 _ _ ?_
     try clear hK76
     refine wp_ret ?_
     refine ret (rs := [.cell 2 33, .tmp 3]) (vs := [.agg _, .int _ _]) (v := (.tuple #[.agg _, .int _ _])) rfl ⟨⟨_, rfl, loadVar_agg Tryz.underlying33 rfl C33 (by decide) rfl (B2.cellsN 11 rfl)⟩, rfl, trivial⟩ rfl ?_
     obtain ⟨q1, q2⟩ := S.dec_none (S.Steps.none hbd (⟨zh, za, zl, zt, zk, (⟨0, 0, 0, zq.1, .empty⟩, zq.2.1, zq.2.2), ze, zs, eh, ea, el, et, ek, (by rw [ezq]; exact S.actB_key zk.2.1 zk.2.2 hk1 hk4), ee, es⟩ : S.Steps bs) (fun ⟨_, g2, g3, g4⟩ => by first | exact Bool.noConfusion (hb1.symm.trans g2) | exact absurd g4 hz | (have g3 : zs.2.2 = [] := g3; rw [g3] at lQ9; simp at lQ9; omega)))
     rw [q1, q2]
     exact ⟨_, rfl, hE, _, _, rfl, Nat.le_refl _, WRow.nil⟩
    ·refine RS.norm (by dsimp only [List.set]) ?_
     have hb0 := c75
     refine RS.wantB 107 rfl rfl rfl ?_
     refine RS.move (v := .pointer _) rfl ?_
     refine RS.wantB 107 rfl rfl rfl ?_
     refine RS.nilCheck rfl ?_
     refine RS.wantB 107 rfl rfl rfl ?_
     refine RS.o (D.fieldL 0 rfl Tryz.underlying78 rfl C22 (by decide) rfl) ?_
     refine RS.wantB 107 rfl rfl rfl ?_
     refine RS.o (D.load rfl Tryz.underlying22 rfl (B4.cell rfl)) ?_
     refine RS.wantB 107 rfl rfl rfl ?_
     refine RS.o (D.len rfl Tryz.underlying22) ?_
     refine RS.wantB 107 rfl rfl rfl ?_
     refine RS.o (D.gt rfl rfl) ?_
     refine RS.pick (v := .bool _) rfl rfl ?_
     refine RS.move (v := .bool _) rfl ?_
     refine RS.splitd 115 rfl rfl (fun c79 => ?_) (fun c79 => ?_)
     ·refine RS.norm (by dsimp only [List.set]) ?_
      have hr := c79
      refine RS.skipB (b := true) 115 rfl rfl rfl rfl ?_
      refine RS.norm (by dsimp only [putL, List.set]) ?_
      refine RS.skipB (b := true) 115 rfl rfl rfl rfl ?_
      refine RS.norm (by dsimp only [putL, List.set]) ?_
      refine RS.skipB (b := true) 115 rfl rfl rfl rfl ?_
      refine RS.norm (by dsimp only [putL, List.set]) ?_
      refine RS.pick (v := .bool true) rfl rfl ?_
      refine RS.nil ?_
      refine hK74 _ _ ?_
      try clear hK74
      refine C.ift rfl ?_
      refine wp_seq_k (fun K80 hK80 => ?_)
      refine region ?_
      refine RS.move (v := .func _ _ _) rfl ?_
      refine RS.callv E39 (decFail _) rfl rfl (fun e81 w81 A81 => ?_)
      obtain ⟨v81, rfl, x81, A81⟩ := A81
      refine ⟨_, rfl, ?_⟩
      replace hE := Ext.tr hE x81
      replace B2 := B2.ext x81
      replace B4 := B4.ext x81
      replace B14 := B14.ext x81
      replace DL := DL.ext x81
      replace OKs := OKs.ext x81
      replace Q9 := Q9.ext x81
      have zw81 := x81.size
      subst A81
      refine RS.norm (by dsimp only [List.set]) ?_
      refine RS.extract (v := .agg _) rfl rfl ?_
      refine RS.extract (v := .int _ _) rfl rfl ?_
      refine RS.storeAggB rfl rfl C33 (by decide) rfl rfl B2 rfl (fun w82 y82 N82 => ?_)
      replace hE := hE.trans (y82.below (by intros; try (first | (intro _ _) | (intro _) | skip); first | omega | (dsimp only at *; omega) | (simp_all; done) | (simp at *; omega)))
      replace B4 := B4.st y82 (by intros; try (first | (intro _ _) | (intro _) | skip); first | omega | (dsimp only at *; omega) | (simp_all; done) | (simp at *; omega))
      replace B14 := B14.st y82 (by intros; try (first | (intro _ _) | (intro _) | skip); first | omega | (dsimp only at *; omega) | (simp_all; done) | (simp at *; omega))
      replace DL := DL.st y82 (by intros; try (first | (intro _ _) | (intro _) | skip); first | omega | (dsimp only at *; omega) | (simp_all; done) | (simp at *; omega))
      replace OKs := OKs.st y82 (by intros; try (first | (intro _ _) | (intro _) | skip); first | omega | (have hq := hOK _ (by assumption); first | omega | (dsimp only at *; omega)))
      replace Q9 := Q9.st y82 (by intros; try (first | (intro _ _) | (intro _) | skip); first | omega | (dsimp only at *; omega) | (simp_all; done) | (simp at *; omega))
      have zw82 := y82.size
      replace B2 := N82
      refine RS.assign (v := .int _ _) rfl ?_
      refine RS.nil ?_
      refine hK80 _ _ ?_
      try clear hK80
      refine wp_ret ?_
      refine ret (rs := [.cell 2 33, .tmp 3]) (vs := [.agg _, .int _ _]) (v := (.tuple #[.agg _, .int _ _])) rfl ⟨⟨_, rfl, loadVar_agg Tryz.underlying33 rfl C33 (by decide) rfl (B2.cellsN 11 rfl)⟩, rfl, trivial⟩ rfl ?_
      obtain ⟨q1, q2⟩ := S.dec_none (S.Steps.none hbd (⟨zh, za, zl, zt, zk, (⟨0, 0, 0, zq.1, .empty⟩, zq.2.1, zq.2.2), ze, zs, eh, ea, el, et, ek, (by rw [ezq]; exact S.actB_key zk.2.1 zk.2.2 hk1 hk4), ee, es⟩ : S.Steps bs) (fun ⟨_, g2, g3, g4⟩ => by first | exact Bool.noConfusion (hb1.symm.trans g2) | exact absurd g4 hz | (have g3 : zs.2.2 = [] := g3; rw [g3] at lQ9; simp at lQ9; omega)))
      rw [q1, q2]
      exact ⟨_, rfl, hE, _, _, rfl, Nat.le_refl _, WRow.nil⟩
     ·refine RS.norm (by dsimp only [List.set]) ?_
      have hr := c79
      refine RS.wantB 115 rfl rfl rfl ?_
      refine RS.o (D.loadAgg rfl Tryz.underlying33 rfl C33 (by decide) rfl (B14.cellsN 11 rfl)) ?_
      refine RS.wantB 115 rfl rfl rfl ?_
      refine RS.call E46 (checkO (⟨zh, za, zl, zt, zk, (⟨0, 0, 0, zq.1, .empty⟩, zq.2.1, zq.2.2), ze, zs, eh, ea, el, et, ek, (by rw [ezq]; exact S.actB_key zk.2.1 zk.2.2 hk1 hk4), ee, es⟩ : S.Steps bs).op hsb.1 _ _ _ DL hcL) rfl (fun v83 w83 x83 A83 => ?_)
      replace hE := Ext.tr hE x83
      replace B2 := B2.ext x83
      replace B4 := B4.ext x83
      replace B14 := B14.ext x83
      replace DL := DL.ext x83
      replace OKs := OKs.ext x83
      replace Q9 := Q9.ext x83
      have zw83 := x83.size
      subst A83
      refine RS.norm (by dsimp only [List.set]) ?_
      refine RS.wantB 115 rfl rfl rfl ?_
      refine RS.o (D.ne rfl rfl) ?_
      refine RS.pick (v := .bool _) rfl rfl ?_
      refine RS.nil ?_
      refine hK74 _ _ ?_
      try clear hK74
      refine C.ifn rfl (fun c84 => ?_) (fun c84 => ?_)
      ·have hz := c84
       refine wp_seq_k (fun K85 hK85 => ?_)
       refine region ?_
       refine RS.move (v := .func _ _ _) rfl ?_
       refine RS.callv E39 (decFail _) rfl rfl (fun e86 w86 A86 => ?_)
       obtain ⟨v86, rfl, x86, A86⟩ := A86
       refine ⟨_, rfl, ?_⟩
       replace hE := Ext.tr hE x86
       replace B2 := B2.ext x86
       replace B4 := B4.ext x86
       replace B14 := B14.ext x86
       replace DL := DL.ext x86
       replace OKs := OKs.ext x86
       replace Q9 := Q9.ext x86
       have zw86 := x86.size
       subst A86
       refine RS.norm (by dsimp only [List.set]) ?_
       refine RS.extract (v := .agg _) rfl rfl ?_
       refine RS.extract (v := .int _ _) rfl rfl ?_
       refine RS.storeAggB rfl rfl C33 (by decide) rfl rfl B2 rfl (fun w87 y87 N87 => ?_)
       replace hE := hE.trans (y87.below (by intros; try (first | (intro _ _) | (intro _) | skip); first | omega | (dsimp only at *; omega) | (simp_all; done) | (simp at *; omega)))
       replace B4 := B4.st y87 (by intros; try (first | (intro _ _) | (intro _) | skip); first | omega | (dsimp only at *; omega) | (simp_all; done) | (simp at *; omega))
       replace B14 := B14.st y87 (by intros; try (first | (intro _ _) | (intro _) | skip); first | omega | (dsimp only at *; omega) | (simp_all; done) | (simp at *; omega))
       replace DL := DL.st y87 (by intros; try (first | (intro _ _) | (intro _) | skip); first | omega | (dsimp only at *; omega) | (simp_all; done) | (simp at *; omega))
       replace OKs := OKs.st y87 (by intros; try (first | (intro _ _) | (intro _) | skip); first | omega | (have hq := hOK _ (by assumption); first | omega | (dsimp only at *; omega)))
       replace Q9 := Q9.st y87 (by intros; try (first | (intro _ _) | (intro _) | skip); first | omega | (dsimp only at *; omega) | (simp_all; done) | (simp at *; omega))
       have zw87 := y87.size
       replace B2 := N87
       refine RS.assign (v := .int _ _) rfl ?_
       refine RS.nil ?_
       refine hK85 _ _ ?_
       try clear hK85
       refine wp_ret ?_
       refine ret (rs := [.cell 2 33, .tmp 3]) (vs := [.agg _, .int _ _]) (v := (.tuple #[.agg _, .int _ _])) rfl ⟨⟨_, rfl, loadVar_agg Tryz.underlying33 rfl C33 (by decide) rfl (B2.cellsN 11 rfl)⟩, rfl, trivial⟩ rfl ?_
       obtain ⟨q1, q2⟩ := S.dec_none (S.Steps.none hbd (⟨zh, za, zl, zt, zk, (⟨0, 0, 0, zq.1, .empty⟩, zq.2.1, zq.2.2), ze, zs, eh, ea, el, et, ek, (by rw [ezq]; exact S.actB_key zk.2.1 zk.2.2 hk1 hk4), ee, es⟩ : S.Steps bs) (fun ⟨_, g2, g3, g4⟩ => by first | exact Bool.noConfusion (hb1.symm.trans g2) | exact absurd g4 hz | (have g3 : zs.2.2 = [] := g3; rw [g3] at lQ9; simp at lQ9; omega)))
       rw [q1, q2]
       exact ⟨_, rfl, hE, _, _, rfl, Nat.le_refl _, WRow.nil⟩
      ·have hz := c84
       refine wp_skip ?_
       refine hK73 _ _ ?_
       try clear hK73
       refine wp_seq_k (fun K88 hK88 => ?_)
       refine region ?_
       refine RS.o (D.loadAgg rfl Tryz.underlying33 rfl C33 (by decide) rfl (B14.cellsN 11 rfl)) ?_
       refine RS.storeAggB rfl rfl C33 (by decide) rfl rfl B2 rfl (fun w89 y89 N89 => ?_)
       replace hE := hE.trans (y89.below (by intros; try (first | (intro _ _) | (intro _) | skip); first | omega | (dsimp only at *; omega) | (simp_all; done) | (simp at *; omega)))
       replace B4 := B4.st y89 (by intros; try (first | (intro _ _) | (intro _) | skip); first | omega | (dsimp only at *; omega) | (simp_all; done) | (simp at *; omega))
       replace B14 := B14.st y89 (by intros; try (first | (intro _ _) | (intro _) | skip); first | omega | (dsimp only at *; omega) | (simp_all; done) | (simp at *; omega))
       replace DL := DL.st y89 (by intros; try (first | (intro _ _) | (intro _) | skip); first | omega | (dsimp only at *; omega) | (simp_all; done) | (simp at *; omega))
       replace OKs := OKs.st y89 (by intros; try (first | (intro _ _) | (intro _) | skip); first | omega | (have hq := hOK _ (by assumption); first | omega | (dsimp only at *; omega)))
       replace Q9 := Q9.st y89 (by intros; try (first | (intro _ _) | (intro _) | skip); first | omega | (dsimp only at *; omega) | (simp_all; done) | (simp at *; omega))
       have zw89 := y89.size
       replace B2 := N89
       refine RS.assign (v := .int .i64 0) rfl ?_
       refine RS.nil ?_
       refine hK88 _ _ ?_
       try clear hK88
       refine wp_ret ?_
       refine ret (rs := [.cell 2 33, .tmp 3]) (vs := [.agg _, .int _ _]) (v := (.tuple #[.agg _, .int _ _])) rfl ⟨⟨_, rfl, loadVar_agg Tryz.underlying33 rfl C33 (by decide) rfl (B2.cellsN 11 rfl)⟩, rfl, trivial⟩ rfl ?_
       obtain ⟨q1, q2⟩ := S.dec_some (S.Steps.good hbd (⟨zh, za, zl, zt, zk, (⟨0, 0, 0, zq.1, .empty⟩, zq.2.1, zq.2.2), ze, zs, eh, ea, el, et, ek, (by rw [ezq]; exact S.actB_key zk.2.1 zk.2.2 hk1 hk4), ee, es⟩ : S.Steps bs) (by show zh.1 = 111; exact hx1) hb0 (List.eq_nil_of_length_eq_zero (by show zs.2.2.length = 0; omega)) hz)
       rw [q1, q2]
       exact ⟨_, rfl, hE, _, _, rfl, hcL, DL.weaken (fun k _ h => by omega)⟩
  ·have hk1 := c30
   refine wp_skip ?_
   refine hK28 _ _ ?_
   try clear hK28
   refine wp_seq_k (fun K90 hK90 => ?_)
   refine wp_seq_k (fun K91 hK91 => ?_)
   refine region ?_
   refine RS.o (D.fieldL 3 rfl Tryz.underlying33 rfl C29 (by decide) rfl) ?_
   refine RS.o (D.fieldL 3 rfl Tryz.underlying29 rfl C5 (by decide) rfl) ?_
   refine RS.o (D.load rfl Tryz.underlying5 rfl (B14.cell rfl)) ?_
   refine RS.o (D.eq rfl rfl) ?_
   refine RS.nil ?_
   refine hK91 _ _ ?_
   try clear hK91
   refine C.ife rfl (fun c92 => ?_) (fun c92 => ?_)
   ·have hk4 := c92
    exfalso; omega
   ·have hk4 := c92
    refine wp_skip ?_
    refine hK90 _ _ ?_
    try clear hK90
    refine wp_seq_k (fun K93 hK93 => ?_)
    refine region ?_
    refine RS.move (v := .pointer _) rfl ?_
    refine RS.callx E41 (rNumber _ w.heap.size _ (by omega) _ _ _ _ _ 500000003 (by decide) _ B4 Q5 hc5 (by omega)) rfl (fun e94 w94 A94 => ?_)
    obtain ⟨rfl, X94, a8, n8, c8, N94, hc8, hn8, Q8⟩ := A94
    refine ⟨_, rfl, ?_⟩
    refine RS.norm (by dsimp only [List.set]) ?_
    replace hE := hE.trans (X94.below (by intros; try (first | (intro _ _) | (intro _) | skip); first | omega | (dsimp only at *; omega) | (simp_all; done) | (simp at *; omega)) (by intros; try (first | (intro _ _) | (intro _) | skip); first | omega | (dsimp only at *; omega) | (simp_all; done) | (simp at *; omega)))
    replace B2 := B2.pr X94 (by intros; try (first | (intro _ _) | (intro _) | skip); first | omega | (dsimp only at *; omega) | (simp_all; done) | (simp at *; omega))
    replace B14 := B14.pr X94 (by intros; try (first | (intro _ _) | (intro _) | skip); first | omega | (dsimp only at *; omega) | (simp_all; done) | (simp at *; omega))
    replace DL := DL.pr X94 (by intros; try (first | (intro _ _) | (intro _) | skip); first | omega | (dsimp only at *; omega) | (simp_all; done) | (simp at *; omega))
    replace Q5 := Q5.pr X94 (by intros; try (first | (intro _ _) | (intro _) | skip); first | omega | (dsimp only at *; omega) | (simp_all; done) | (simp at *; omega))
    have zw94 := X94.size
    replace B4 := N94
    obtain ⟨ze, ee⟩ : ∃ z, z = S.numB 500000003 zk.2.1 zk.2.2 := ⟨_, rfl⟩
    rw [← ee] at B4 Q8 ⊢
    have lQ8 := Q8.len
    have bQ8 := Q8.bd
    refine RS.o (D.conv rfl Tryz.underlying25 Tryz.underlying23 (W.u32m _)) ?_
    refine RS.move (v := .pointer _) rfl ?_
    refine RS.callx E41 (rNumber _ w.heap.size _ (by omega) _ _ _ _ _ 500000003 (by decide) _ B4 Q8 hc8 (by omega)) rfl (fun e95 w95 A95 => ?_)
    obtain ⟨rfl, X95, a9, n9, c9, N95, hc9, hn9, Q9⟩ := A95
    refine ⟨_, rfl, ?_⟩
    refine RS.norm (by dsimp only [List.set]) ?_
    replace hE := hE.trans (X95.below (by intros; try (first | (intro _ _) | (intro _) | skip); first | omega | (dsimp only at *; omega) | (simp_all; done) | (simp at *; omega)) (by intros; try (first | (intro _ _) | (intro _) | skip); first | omega | (dsimp only at *; omega) | (simp_all; done) | (simp at *; omega)))
    replace B2 := B2.pr X95 (by intros; try (first | (intro _ _) | (intro _) | skip); first | omega | (dsimp only at *; omega) | (simp_all; done) | (simp at *; omega))
    replace B14 := B14.pr X95 (by intros; try (first | (intro _ _) | (intro _) | skip); first | omega | (dsimp only at *; omega) | (simp_all; done) | (simp at *; omega))
    replace DL := DL.pr X95 (by intros; try (first | (intro _ _) | (intro _) | skip); first | omega | (dsimp only at *; omega) | (simp_all; done) | (simp at *; omega))
    replace Q8 := Q8.pr X95 (by intros; try (first | (intro _ _) | (intro _) | skip); first | omega | (dsimp only at *; omega) | (simp_all; done) | (simp at *; omega))
    have zw95 := X95.size
    replace B4 := N95
    obtain ⟨zs, es⟩ : ∃ z, z = S.numB 500000003 ze.2.1 ze.2.2 := ⟨_, rfl⟩
    rw [← es] at B4 Q9 ⊢
    have lQ9 := Q9.len
    have bQ9 := Q9.bd
    refine RS.o (D.conv rfl Tryz.underlying25 Tryz.underlying23 (W.u32m _)) ?_
    refine RS.o (D.fieldL 9 rfl Tryz.underlying33 rfl C31 (by decide) rfl) ?_
    refine RS.o (D.fieldL 9 rfl Tryz.underlying31 rfl C23 (by decide) rfl) ?_
    refine RS.store rfl (v := .int _ _) rfl C23 rfl B14 rfl (fun w96 y96 N96 => ?_)
    replace hE := hE.trans (y96.below (by intros; try (first | (intro _ _) | (intro _) | skip); first | omega | (dsimp only at *; omega) | (simp_all; done) | (simp at *; omega)))
    replace B2 := B2.st y96 (by intros; try (first | (intro _ _) | (intro _) | skip); first | omega | (dsimp only at *; omega) | (simp_all; done) | (simp at *; omega))
    replace B4 := B4.st y96 (by intros; try (first | (intro _ _) | (intro _) | skip); first | omega | (dsimp only at *; omega) | (simp_all; done) | (simp at *; omega))
    replace DL := DL.st y96 (by intros; try (first | (intro _ _) | (intro _) | skip); first | omega | (dsimp only at *; omega) | (simp_all; done) | (simp at *; omega))
    replace Q9 := Q9.st y96 (by intros; try (first | (intro _ _) | (intro _) | skip); first | omega | (dsimp only at *; omega) | (simp_all; done) | (simp at *; omega))
    have zw96 := y96.size
    replace B14 := N96
    refine RS.o (D.fieldL 9 rfl Tryz.underlying33 rfl C31 (by decide) rfl) ?_
    refine RS.o (D.fieldL 10 rfl Tryz.underlying31 rfl C23 (by decide) rfl) ?_
    refine RS.store rfl (v := .int _ _) rfl C23 rfl B14 rfl (fun w97 y97 N97 => ?_)
    replace hE := hE.trans (y97.below (by intros; try (first | (intro _ _) | (intro _) | skip); first | omega | (dsimp only at *; omega) | (simp_all; done) | (simp at *; omega)))
    replace B2 := B2.st y97 (by intros; try (first | (intro _ _) | (intro _) | skip); first | omega | (dsimp only at *; omega) | (simp_all; done) | (simp at *; omega))
    replace B4 := B4.st y97 (by intros; try (first | (intro _ _) | (intro _) | skip); first | omega | (dsimp only at *; omega) | (simp_all; done) | (simp at *; omega))
    replace DL := DL.st y97 (by intros; try (first | (intro _ _) | (intro _) | skip); first | omega | (dsimp only at *; omega) | (simp_all; done) | (simp at *; omega))
    replace Q9 := Q9.st y97 (by intros; try (first | (intro _ _) | (intro _) | skip); first | omega | (dsimp only at *; omega) | (simp_all; done) | (simp at *; omega))
    have zw97 := y97.size
    replace B14 := N97
    refine RS.nil ?_
    refine hK93 _ _ ?_
    try clear hK93
    refine wp_seq_k (fun K98 hK98 => ?_)
    refine wp_seq_k (fun K99 hK99 => ?_)
    have hsb := S.Steps.ok hbd (⟨zh, za, zl, zt, zk, (⟨0, 0, 0, .empty, .empty⟩, zk.2.1, zk.2.2), ze, zs, eh, ea, el, et, ek, (S.actB_none zk.2.1 zk.2.2 hk1), ee, es⟩ : S.Steps bs)
    refine region ?_
    refine RS.move (v := .pointer _) rfl ?_
    refine RS.nilCheck rfl ?_
    refine RS.o (D.fieldL 1 rfl Tryz.underlying78 rfl C4 (by decide) rfl) ?_
    refine RS.o (D.load rfl Tryz.underlying4 rfl (B4.cell rfl)) ?_
    refine RS.move (v := .bool _) rfl ?_
    refine RS.splitb 107 rfl rfl (fun c100 => ?_) (fun c100 => ?_)
    ·refine RS.norm (by dsimp only [List.set]) ?_
     have hb1 := c100
     refine RS.skipB (b := true) 107 rfl rfl rfl rfl ?_
     refine RS.norm (by dsimp only [putL, List.set]) ?_
     refine RS.skipB (b := true) 107 rfl rfl rfl rfl ?_
     refine RS.norm (by dsimp only [putL, List.set]) ?_
     refine RS.skipB (b := true) 107 rfl rfl rfl rfl ?_
     refine RS.norm (by dsimp only [putL, List.set]) ?_
     refine RS.skipB (b := true) 107 rfl rfl rfl rfl ?_
     refine RS.norm (by dsimp only [putL, List.set]) ?_
     refine RS.skipB (b := true) 107 rfl rfl rfl rfl ?_
     refine RS.norm (by dsimp only [putL, List.set]) ?_
     refine RS.skipB (b := true) 107 rfl rfl rfl rfl ?_
     refine RS.norm (by dsimp only [putL, List.set]) ?_
     refine RS.pick (v := .bool true) rfl rfl ?_
     refine RS.move (v := .bool _) rfl ?_
     refine RS.skipB (b := true) 115 rfl rfl rfl rfl ?_
     refine RS.norm (by dsimp only [putL, List.set]) ?_
     refine RS.skipB (b := true) 115 rfl rfl rfl rfl ?_
     refine RS.norm (by dsimp only [putL, List.set]) ?_
     refine RS.skipB (b := true) 115 rfl rfl rfl rfl ?_
     refine RS.norm (by dsimp only [putL, List.set]) ?_
     refine RS.pick (v := .bool true) rfl rfl ?_
     refine RS.nil ?_
     refine hK99 _ _ ?_
     try clear hK99
     refine C.ift rfl ?_
     refine wp_seq_k (fun K101 hK101 => ?_)
     refine region ?_
     refine RS.move (v := .func _ _ _) rfl ?_
     refine RS.callv E39 (decFail _) rfl rfl (fun e102 w102 A102 => ?_)
     obtain ⟨v102, rfl, x102, A102⟩ := A102
     refine ⟨_, rfl, ?_⟩
     replace hE := Ext.tr hE x102
     replace B2 := B2.ext x102
     replace B4 := B4.ext x102
     replace B14 := B14.ext x102
     replace DL := DL.ext x102
     replace Q9 := Q9.ext x102
     have zw102 := x102.size
     subst A102
     refine RS.norm (by dsimp only [List.set]) ?_
     refine RS.extract (v := .agg _) rfl rfl ?_
     refine RS.extract (v := .int _ _) rfl rfl ?_
     refine RS.storeAggB rfl rfl C33 (by decide) rfl rfl B2 rfl (fun w103 y103 N103 => ?_)
     replace hE := hE.trans (y103.below (by intros; try (first | (intro _ _) | (intro _) | skip); first | omega | (dsimp only at *; omega) | (simp_all; done) | (simp at *; omega)))
     replace B4 := B4.st y103 (by intros; try (first | (intro _ _) | (intro _) | skip); first | omega | (dsimp only at *; omega) | (simp_all; done) | (simp at *; omega))
     replace B14 := B14.st y103 (by intros; try (first | (intro _ _) | (intro _) | skip); first | omega | (dsimp only at *; omega) | (simp_all; done) | (simp at *; omega))
     replace DL := DL.st y103 (by intros; try (first | (intro _ _) | (intro _) | skip); first | omega | (dsimp only at *; omega) | (simp_all; done) | (simp at *; omega))
     replace Q9 := Q9.st y103 (by intros; try (first | (intro _ _) | (intro _) | skip); first | omega | (dsimp only at *; omega) | (simp_all; done) | (simp at *; omega))
     have zw103 := y103.size
     replace B2 := N103
     refine RS.assign (v := .int _ _) rfl ?_
     refine RS.nil ?_
     refine hK101 _ _ ?_
     try clear hK101
     refine wp_ret ?_
     refine ret (rs := [.cell 2 33, .tmp 3]) (vs := [.agg _, .int _ _]) (v := (.tuple #[.agg _, .int _ _])) rfl ⟨⟨_, rfl, loadVar_agg Tryz.underlying33 rfl C33 (by decide) rfl (B2.cellsN 11 rfl)⟩, rfl, trivial⟩ rfl ?_
     obtain ⟨q1, q2⟩ := S.dec_none (S.Steps.none hbd (⟨zh, za, zl, zt, zk, (⟨0, 0, 0, .empty, .empty⟩, zk.2.1, zk.2.2), ze, zs, eh, ea, el, et, ek, (S.actB_none zk.2.1 zk.2.2 hk1), ee, es⟩ : S.Steps bs) (fun ⟨_, g2, g3, g4⟩ => by first | exact Bool.noConfusion (hb1.symm.trans g2) | exact absurd g4 hz | (have g3 : zs.2.2 = [] := g3; rw [g3] at lQ9; simp at lQ9; omega)))
     rw [q1, q2]
     exact ⟨_, rfl, hE, _, _, rfl, Nat.le_refl _, WRow.nil⟩
    ·refine RS.norm (by dsimp only [List.set]) ?_
     have hb0 := c100
     refine RS.wantB 107 rfl rfl rfl ?_
     refine RS.move (v := .pointer _) rfl ?_
     refine RS.wantB 107 rfl rfl rfl ?_
     refine RS.nilCheck rfl ?_
     refine RS.wantB 107 rfl rfl rfl ?_
     refine RS.o (D.fieldL 0 rfl Tryz.underlying78 rfl C22 (by decide) rfl) ?_
     refine RS.wantB 107 rfl rfl rfl ?_
     refine RS.o (D.load rfl Tryz.underlying22 rfl (B4.cell rfl)) ?_
     refine RS.wantB 107 rfl rfl rfl ?_
     refine RS.o (D.len rfl Tryz.underlying22) ?_
     refine RS.wantB 107 rfl rfl rfl ?_
     refine RS.o (D.gt rfl rfl) ?_
     refine RS.pick (v := .bool _) rfl rfl ?_
     refine RS.move (v := .bool _) rfl ?_
     refine RS.splitd 115 rfl rfl (fun c104 => ?_) (fun c104 => ?_)
     ·refine RS.norm (by dsimp only [List.set]) ?_
      have hr := c104
      refine RS.skipB (b := true) 115 rfl rfl rfl rfl ?_
      refine RS.norm (by dsimp only [putL, List.set]) ?_
      refine RS.skipB (b := true) 115 rfl rfl rfl rfl ?_
      refine RS.norm (by dsimp only [putL, List.set]) ?_
      refine RS.skipB (b := true) 115 rfl rfl rfl rfl ?_
      refine RS.norm (by dsimp only [putL, List.set]) ?_
      refine RS.pick (v := .bool true) rfl rfl ?_
      refine RS.nil ?_
      refine hK99 _ _ ?_
      try clear hK99
      refine C.ift rfl ?_
      refine wp_seq_k (fun K105 hK105 => ?_)
      refine region ?_
      refine RS.move (v := .func _ _ _) rfl ?_
      refine RS.callv E39 (decFail _) rfl rfl (fun e106 w106 A106 => ?_)
      obtain ⟨v106, rfl, x106, A106⟩ := A106
      refine ⟨_, rfl, ?_⟩
      replace hE := Ext.tr hE x106
      replace B2 := B2.ext x106
      replace B4 := B4.ext x106
      replace B14 := B14.ext x106
      replace DL := DL.ext x106
      replace Q9 := Q9.ext x106
      have zw106 := x106.size
      subst A106
      refine RS.norm (by dsimp only [List.set]) ?_
      refine RS.extract (v := .agg _) rfl rfl ?_
      refine RS.extract (v := .int _ _) rfl rfl ?_
      refine RS.storeAggB rfl rfl C33 (by decide) rfl rfl B2 rfl (fun w107 y107 N107 => ?_)
      replace hE := hE.trans (y107.below (by intros; try (first | (intro _ _) | (intro _) | skip); first | omega | (dsimp only at *; omega) | (simp_all; done) | (simp at *; omega)))
      replace B4 := B4.st y107 (by intros; try (first | (intro _ _) | (intro _) | skip); first | omega | (dsimp only at *; omega) | (simp_all; done) | (simp at *; omega))
      replace B14 := B14.st y107 (by intros; try (first | (intro _ _) | (intro _) | skip); first | omega | (dsimp only at *; omega) | (simp_all; done) | (simp at *; omega))
      replace DL := DL.st y107 (by intros; try (first | (intro _ _) | (intro _) | skip); first | omega | (dsimp only at *; omega) | (simp_all; done) | (simp at *; omega))
      replace Q9 := Q9.st y107 (by intros; try (first | (intro _ _) | (intro _) | skip); first | omega | (dsimp only at *; omega) | (simp_all; done) | (simp at *; omega))
      have zw107 := y107.size
      replace B2 := N107
      refine RS.assign (v := .int _ _) rfl ?_
      refine RS.nil ?_
      refine hK105 _ _ ?_
      try clear hK105
      refine wp_ret ?_
      refine ret (rs := [.cell 2 33, .tmp 3]) (vs := [.agg _, .int _ _]) (v := (.tuple #[.agg _, .int _ _])) rfl ⟨⟨_, rfl, loadVar_agg Tryz.underlying33 rfl C33 (by decide) rfl (B2.cellsN 11 rfl)⟩, rfl, trivial⟩ rfl ?_
      obtain ⟨q1, q2⟩ := S.dec_none (S.Steps.none hbd (⟨zh, za, zl, zt, zk, (⟨0, 0, 0, .empty, .empty⟩, zk.2.1, zk.2.2), ze, zs, eh, ea, el, et, ek, (S.actB_none zk.2.1 zk.2.2 hk1), ee, es⟩ : S.Steps bs) (fun ⟨_, g2, g3, g4⟩ => by first | exact Bool.noConfusion (hb1.symm.trans g2) | exact absurd g4 hz | (have g3 : zs.2.2 = [] := g3; rw [g3] at lQ9; simp at lQ9; omega)))
      rw [q1, q2]
      exact ⟨_, rfl, hE, _, _, rfl, Nat.le_refl _, WRow.nil⟩
     ·refine RS.norm (by dsimp only [List.set]) ?_
      have hr := c104
      refine RS.wantB 115 rfl rfl rfl ?_
      refine RS.o (D.loadAgg rfl Tryz.underlying33 rfl C33 (by decide) rfl (B14.cellsN 11 rfl)) ?_
      refine RS.wantB 115 rfl rfl rfl ?_
      refine RS.call E46 (checkO (⟨zh, za, zl, zt, zk, (⟨0, 0, 0, .empty, .empty⟩, zk.2.1, zk.2.2), ze, zs, eh, ea, el, et, ek, (S.actB_none zk.2.1 zk.2.2 hk1), ee, es⟩ : S.Steps bs).op hsb.1 _ _ _ DL hcL) rfl (fun v108 w108 x108 A108 => ?_)
      replace hE := Ext.tr hE x108
      replace B2 := B2.ext x108
      replace B4 := B4.ext x108
      replace B14 := B14.ext x108
      replace DL := DL.ext x108
      replace Q9 := Q9.ext x108
      have zw108 := x108.size
      subst A108
      refine RS.norm (by dsimp only [List.set]) ?_
      refine RS.wantB 115 rfl rfl rfl ?_
      refine RS.o (D.ne rfl rfl) ?_
      refine RS.pick (v := .bool _) rfl rfl ?_
      refine RS.nil ?_
      refine hK99 _ _ ?_
      try clear hK99
      refine C.ifn rfl (fun c109 => ?_) (fun c109 => ?_)
      ·have hz := c109
       refine wp_seq_k (fun K110 hK110 => ?_)
       refine region ?_
       refine RS.move (v := .func _ _ _) rfl ?_
       refine RS.callv E39 (decFail _) rfl rfl (fun e111 w111 A111 => ?_)
       obtain ⟨v111, rfl, x111, A111⟩ := A111
       refine ⟨_, rfl, ?_⟩
       replace hE := Ext.tr hE x111
       replace B2 := B2.ext x111
       replace B4 := B4.ext x111
       replace B14 := B14.ext x111
       replace DL := DL.ext x111
       replace Q9 := Q9.ext x111
       have zw111 := x111.size
       subst A111
       refine RS.norm (by dsimp only [List.set]) ?_
       refine RS.extract (v := .agg _) rfl rfl ?_
       refine RS.extract (v := .int _ _) rfl rfl ?_
       refine RS.storeAggB rfl rfl C33 (by decide) rfl rfl B2 rfl (fun w112 y112 N112 => ?_)
       replace hE := hE.trans (y112.below (by intros; try (first | (intro _ _) | (intro _) | skip); first | omega | (dsimp only at *; omega) | (simp_all; done) | (simp at *; omega)))
       replace B4 := B4.st y112 (by intros; try (first | (intro _ _) | (intro _) | skip); first | omega | (dsimp only at *; omega) | (simp_all; done) | (simp at *; omega))
       replace B14 := B14.st y112 (by intros; try (first | (intro _ _) | (intro _) | skip); first | omega | (dsimp only at *; omega) | (simp_all; done) | (simp at *; omega))
       replace DL := DL.st y112 (by intros; try (first | (intro _ _) | (intro _) | skip); first | omega | (dsimp only at *; omega) | (simp_all; done) | (simp at *; omega))
       replace Q9 := Q9.st y112 (by intros; try (first | (intro _ _) | (intro _) | skip); first | omega | (dsimp only at *; omega) | (simp_all; done) | (simp at *; omega))
       have zw112 := y112.size
       replace B2 := N112
       refine RS.assign (v := .int _ _) rfl ?_
       refine RS.nil ?_
       refine hK110 _ _ ?_
       try clear hK110
       refine wp_ret ?_
       refine ret (rs := [.cell 2 33, .tmp 3]) (vs := [.agg _, .int _ _]) (v := (.tuple #[.agg _, .int _ _])) rfl ⟨⟨_, rfl, loadVar_agg Tryz.underlying33 rfl C33 (by decide) rfl (B2.cellsN 11 rfl)⟩, rfl, trivial⟩ rfl ?_
       obtain ⟨q1, q2⟩ := S.dec_none (S.Steps.none hbd (⟨zh, za, zl, zt, zk, (⟨0, 0, 0, .empty, .empty⟩, zk.2.1, zk.2.2), ze, zs, eh, ea, el, et, ek, (S.actB_none zk.2.1 zk.2.2 hk1), ee, es⟩ : S.Steps bs) (fun ⟨_, g2, g3, g4⟩ => by first | exact Bool.noConfusion (hb1.symm.trans g2) | exact absurd g4 hz | (have g3 : zs.2.2 = [] := g3; rw [g3] at lQ9; simp at lQ9; omega)))
       rw [q1, q2]
       exact ⟨_, rfl, hE, _, _, rfl, Nat.le_refl _, WRow.nil⟩
      ·have hz := c109
       refine wp_skip ?_
       refine hK98 _ _ ?_
       try clear hK98
       refine wp_seq_k (fun K113 hK113 => ?_)
       refine region ?_
       refine RS.o (D.loadAgg rfl Tryz.underlying33 rfl C33 (by decide) rfl (B14.cellsN 11 rfl)) ?_
       refine RS.storeAggB rfl rfl C33 (by decide) rfl rfl B2 rfl (fun w114 y114 N114 => ?_)
       replace hE := hE.trans (y114.below (by intros; try (first | (intro _ _) | (intro _) | skip); first | omega | (dsimp only at *; omega) | (simp_all; done) | (simp at *; omega)))
       replace B4 := B4.st y114 (by intros; try (first | (intro _ _) | (intro _) | skip); first | omega | (dsimp only at *; omega) | (simp_all; done) | (simp at *; omega))
       replace B14 := B14.st y114 (by intros; try (first | (intro _ _) | (intro _) | skip); first | omega | (dsimp only at *; omega) | (simp_all; done) | (simp at *; omega))
       replace DL := DL.st y114 (by intros; try (first | (intro _ _) | (intro _) | skip); first | omega | (dsimp only at *; omega) | (simp_all; done) | (simp at *; omega))
       replace Q9 := Q9.st y114 (by intros; try (first | (intro _ _) | (intro _) | skip); first | omega | (dsimp only at *; omega) | (simp_all; done) | (simp at *; omega))
       have zw114 := y114.size
       replace B2 := N114
       refine RS.assign (v := .int .i64 0) rfl ?_
       refine RS.nil ?_
       refine hK113 _ _ ?_
       try clear hK113
       refine wp_ret ?_
       refine ret (rs := [.cell 2 33, .tmp 3]) (vs := [.agg _, .int _ _]) (v := (.tuple #[.agg _, .int _ _])) rfl ⟨⟨_, rfl, loadVar_agg Tryz.underlying33 rfl C33 (by decide) rfl (B2.cellsN 11 rfl)⟩, rfl, trivial⟩ rfl ?_
       obtain ⟨q1, q2⟩ := S.dec_some (S.Steps.good hbd (⟨zh, za, zl, zt, zk, (⟨0, 0, 0, .empty, .empty⟩, zk.2.1, zk.2.2), ze, zs, eh, ea, el, et, ek, (S.actB_none zk.2.1 zk.2.2 hk1), ee, es⟩ : S.Steps bs) (by show zh.1 = 111; exact hx1) hb0 (List.eq_nil_of_length_eq_zero (by show zs.2.2.length = 0; omega)) hz)
       rw [q1, q2]
       exact ⟨_, rfl, hE, _, _, rfl, hcL, DL.weaken (fun k _ h => by omega)⟩
end Go.Proofs.YtiohpiiiapjblaaGreatDoor.W
namespace Go.Proofs.YtiohpiiiapjblaaGreatDoor.S
open G
/-- The verdict on bytes. -/
def jdV (b : List Int) : Int := if 400 < b.length then 3 else if decE b = 0 then (if verE (decO b) = 0 then 0 else 4) else 2
def jdO (b : List Int) : OpV := if jdV b = 0 then decO b else OpV.zero
def jdI (b : List Int) : List Int := if jdV b = 0 then sha (encS (decO b)) else List.replicate 32 0
theorem jd_long {b : List Int} (h : 400 < b.length) : jdV b = 3 := by unfold jdV; rw [if_pos h]
theorem jd_form {b : List Int} (h : ¬ 400 < b.length) (hd : decE b ≠ 0) : jdV b = 2 := by unfold jdV; rw [if_neg h, if_neg hd]
theorem jd_sig {b : List Int} (h : ¬ 400 < b.length) (hd : decE b = 0) (hv : verE (decO b) ≠ 0) : jdV b = 4 := by unfold jdV; rw [if_neg h, if_pos hd, if_neg hv]
theorem jd_fine {b : List Int} (h : ¬ 400 < b.length) (hd : decE b = 0) (hv : verE (decO b) = 0) : jdV b = 0 := by unfold jdV; rw [if_neg h, if_pos hd, if_pos hv]
theorem jd_ne {b : List Int} (h : jdV b ≠ 0) : jdO b = OpV.zero ∧ jdI b = List.replicate 32 0 := by unfold jdO jdI; rw [if_neg h, if_neg h]; exact ⟨rfl, rfl⟩
theorem jd_zero {b : List Int} (h : jdV b = 0) : jdO b = decO b ∧ jdI b = sha (encS (decO b)) := by unfold jdO jdI; rw [if_pos h, if_pos h]; exact ⟨rfl, rfl⟩
theorem jdI_arr (b : List Int) : Arr .u8 32 (jdI b) := by
  unfold jdI
  split
  · exact sha_arr _
  · exact Arr.zeros .u8 32
/-- What is read is an operation. -/
theorem decO_ok {b : List Int} (hB : Bd .u8 b) : (decO b).ok ∧ (decO b).ids.length = 32 * (decO b).n := by
  by_cases h : decE b = 0
  · obtain ⟨q1, q2, q3, _⟩ := dec_inv hB (dec_zero h)
    obtain ⟨c1, _, c3⟩ := check_zero.1 q3
    have hf : (decO b).key.size ≤ 100 ∧ (decO b).t.size ≤ 100 := by
      rcases c3.2.2.2.2 with ⟨_, h1, _, _, _, h2⟩ | ⟨_, hK, _, _, _, h2⟩ | ⟨_, hK, hV⟩
      · rw [h1, h2]; exact ⟨by decide, by decide⟩
      · rw [h2]; exact ⟨by have := hK.2.1; omega, by decide⟩
      · refine ⟨by have := hK.2.1; omega, ?_⟩
        rcases hV with ⟨_, _, h2⟩ | ⟨_, _, h2, _⟩ | ⟨_, _, _, h2, _⟩
        · rw [h2]; decide
        · rw [h2]; decide
        · omega
    exact ⟨q1.ok (by omega), q2⟩
  · have e := (dec_ne h).1
    have : decO b = OpV.zero := by unfold decO; rw [e]; rfl
    rw [this]
    exact ⟨OpV.zero_ok, rfl⟩
theorem dec_good {b : List Int} (hB : Bd .u8 b) (h : decE b = 0) : checkE (decO b) = 0 ∧ encS (decO b) = b := by
  obtain ⟨_, _, q3, q4⟩ := dec_inv hB (dec_zero h)
  exact ⟨q3, q4.symm⟩
/-- What is valid is read back. -/
theorem dec_back {o : OpV} (ho : o.rng) (hl : o.ids.length = 32 * o.n) (hc : checkE o = 0) : decO (encS o) = o ∧ decE (encS o) = 0 := dec_some (dec_enc ho hl hc)
theorem OpV.ok.rng {o : OpV} (h : o.ok) : o.rng := ⟨h.au, h.st, h.k, h.vk, h.num, h.bits, h.e, h.s⟩
theorem jd_nil : jdV [] = 2 := rfl
/-- An operation that nobody signed. -/
def exO : OpV := ⟨4, 7, 1, 0, 0, 0, 0, 0, 0, [], .empty, .empty⟩
theorem exO_ok : exO.ok := ⟨by decide, by decide, by decide, by decide, by decide, by decide, by decide, by decide, by decide, by decide, by decide⟩
theorem exO_check : checkE exO = 0 := check_zero.2 ⟨by decide, rising_nil, isG_four, by decide, by decide, by decide, .inl ⟨rfl, rfl, rfl, rfl, rfl, rfl⟩⟩
theorem exO_enc : encS exO = [111, 4, 0, 7, 1, 0, 0] := by decide +kernel
theorem exO_msg : msgS exO = [111, 4, 0, 7, 1] := by decide +kernel
theorem exO_hash : chalS 1 4 [111, 4, 0, 7, 1] ≠ 0 := by decide +kernel
theorem exO_ver : verE exO = 22 := by
  unfold verE
  rw [if_pos exO_check, exO_msg]
  show verS 4 [111, 4, 0, 7, 1] 0 0 = 22
  unfold verS
  rw [if_neg (by rw [isG_four]; simp), if_neg (by decide), if_neg (by decide), if_neg]
  have e1 : pubS 0 = 1 := (pub_eq 0).symm.trans (pw_zero 4 1000000007 (by decide))
  rw [e1, show (500000003 : Int) - 0 = 500000003 from rfl, gen_one, show (1 : Int) * 1 % 1000000007 = 1 from rfl]
  exact exO_hash
theorem jd_ex : jdV [111, 4, 0, 7, 1, 0, 0] = 4 := by
  obtain ⟨d1, d2⟩ := dec_back (OpV.ok.rng exO_ok) rfl exO_check
  rw [exO_enc] at d1 d2
  exact jd_sig (by decide) d2 (by rw [d1, exO_ver]; decide)
/-- The operation that the examples sign. -/
def kO : OpV := ⟨0, 1, 2, 0, 0, 0, 0, 0, 0, [], ⟨#[107]⟩, .empty⟩
theorem kO_ok : kO.ok := ⟨by decide, by decide, by decide, by decide, by decide, by decide, by decide, by decide, by decide, by decide, by decide⟩
theorem act_k : FineAct 2 ⟨#[107]⟩ 0 0 0 .empty := .inr (.inl ⟨.inl rfl, by decide +kernel, rfl, rfl, rfl, rfl⟩)
theorem kO_sign {x : Int} (hx : 0 < x ∧ x < 500000003) : signE x kO = 0 := signE_zero.2 ⟨hx, check_zero.2 ⟨(by decide : (0 : Nat) ≤ 4), rising_nil, isG_pub x (by omega), (by decide : (1 : Int) ≤ 1000000000000), (by decide : (0 : Int) < 500000003), (by decide : (0 : Int) < 500000003), act_k⟩⟩
def sgnB (x : Int) : List Int := if checkE (signS x kO) = 0 then encS (signS x kO) else []
theorem sgn_fine {x : Int} (hx : 0 < x ∧ x < 500000003) : jdV (sgnB x) = 0 ∧ (sgnB x).length ≤ 100 ∧ 1 ≤ (sgnB x).length := by
  obtain ⟨g1, g2, g3, g4, g5, g6, g7⟩ := sign_good kO_ok rfl (kO_sign hx)
  have e : sgnB x = encS (signS x kO) := by unfold sgnB; rw [if_pos g3]
  have es := signS_eq (kO_sign hx)
  have hn : (signS x kO).ids.length = 32 * (signS x kO).n := by rw [es]; rfl
  have hl : (sgnB x).length ≤ 100 ∧ 1 ≤ (sgnB x).length := by
    rw [e]
    unfold encS
    rw [g5]
    have h1 := numS_len (signS x kO).e
    have h2 := numS_len (signS x kO).s
    have h3 := numS_len (pubS x)
    have h4 : msgS (kO.wit x) = [111] ++ numS (pubS x) ++ [0, 1, 2, 1, 107] := by
      show [111] ++ numS (pubS x) ++ listS 0 [] ++ numS 1 ++ [2] ++ ((numS 1 ++ bys ⟨#[107]⟩) ++ []) = _
      simp only [List.append_assoc]
      rfl
    rw [h4]
    simp only [List.length_append, List.length_cons, List.length_nil]
    omega
  obtain ⟨d1, d2⟩ := dec_back (OpV.ok.rng (signS_ok x kO kO_ok)) hn g3
  refine ⟨?_, hl⟩
  refine jd_fine (by omega) (by rw [e]; exact d2) ?_
  rw [e, d1]
  exact g7
end Go.Proofs.YtiohpiiiapjblaaGreatDoor.S
