/-
  Part 9 of the lemmas of these laws: OpOne, JudgeSigned.
-/
import Derived.Test.YtiohpiiiapjblaaGreatDoorPJa8
namespace Go.Proofs.YtiohpiiiapjblaaGreatDoor.W
open Go.RowKit Go.Proofs.YtiohpiiiapjblaaGreatDoor.G
set_option linter.unusedVariables false
set_option maxRecDepth 20000
set_option maxHeartbeats 8000000
attribute [local irreducible] RS RX
theorem F33 : SI Tryz.prog 33 [(0, 1), (1, 1), (2, 1), (3, 6), (9, 2)] := ⟨_, Tryz.underlying33, by kernel_rfl, by kernel_rfl⟩
theorem E18 : Enters Tryz.prog 18 := .mk Tryz.func18 (by kernel_rfl) rfl
theorem E19 : Enters Tryz.prog 19 := .mk Tryz.func19 (by kernel_rfl) rfl
theorem E23 : Enters Tryz.prog 23 := .mk Tryz.func23 (by kernel_rfl) rfl
theorem E25 : Enters Tryz.prog 25 := .mk Tryz.func25 (by kernel_rfl) rfl
theorem E33 : Enters Tryz.prog 33 := .mk Tryz.func33 (by kernel_rfl) rfl
theorem E55 : Enters Tryz.prog 55 := .mk Tryz.func55 (by kernel_rfl) rfl
theorem E61 : Enters Tryz.prog 61 := .mk Tryz.func61 (by kernel_rfl) rfl
theorem E62 : Enters Tryz.prog 62 := .mk Tryz.func62 (by kernel_rfl) rfl
theorem signO (x : Int) (hx : 0 ≤ x ∧ x < 4294967296) {S0 : Nat → Prop} (o : S.OpV) (ho : o.ok) (pa : Option Addr) (pc : Nat) (TK : TypeId) (w : World) (K0 : Kst w TK) (D0 : WRow .u8 32 S0 w pa o.n o.ids) (hc : o.n ≤ pc) :
  Calls Tryz.prog 23 #[.int .u32 x, .agg ([.int .u32 o.au, .slice pa o.n pc, .int .u64 o.st, .int .u8 o.k, .string o.key, .int .u8 o.vk, .int .i64 o.num, .int .u64 o.bits, .string o.t, .int .u32 o.e, .int .u32 o.s] : List Value).toArray] w (Ret w fun v w' => ∃ a' c', v = .tuple #[.agg ([.int .u32 (S.signS x o).au, .slice a' (S.signS x o).n c', .int .u64 (S.signS x o).st, .int .u8 (S.signS x o).k, .string (S.signS x o).key, .int .u8 (S.signS x o).vk, .int .i64 (S.signS x o).num, .int .u64 (S.signS x o).bits, .string (S.signS x o).t, .int .u32 (S.signS x o).e, .int .u32 (S.signS x o).s] : List Value).toArray, .int .i64 (S.signE x o)] ∧ (S.signS x o).n ≤ c' ∧ WRow .u8 32 (fun k => w.heap.size ≤ k) w' a' (S.signS x o).n (S.signS x o).ids) := by
 replace D0 := D0.weaken (T := fun k => k < w.heap.size) (fun k hk _ => hk)
 have o1 := ho.au
 have o2 := ho.st
 have o3 := ho.k
 have o4 := ho.vk
 have o5 := ho.num
 have o6 := ho.bits
 have o7 := ho.e
 have o8 := ho.s
 have o9 := ho.n
 have o10 := ho.key
 have o11 := ho.t
 have hKl := K0.lt
 have hb2 := S.pub_bd x
 have e4 := D0.len
 have hE := Ext.refl w
 refine enter (args := [.int .u32 x, .agg ([.int .u32 o.au, .slice pa o.n pc, .int .u64 o.st, .int .u8 o.k, .string o.key, .int .u8 o.vk, .int .i64 o.num, .int .u64 o.bits, .string o.t, .int .u32 o.e, .int .u32 o.s] : List Value).toArray]) (l := [.int .u32 x, .agg ([.int .u32 o.au, .slice pa o.n pc, .int .u64 o.st, .int .u8 o.k, .string o.key, .int .u8 o.vk, .int .i64 o.num, .int .u64 o.bits, .string o.t, .int .u32 o.e, .int .u32 o.s] : List Value).toArray, undef, undef, undef, undef, undef, undef, undef, undef, undef, undef, undef, undef, undef, undef, undef, undef, undef, undef, undef, undef, undef, undef, undef, undef, undef, undef, undef, undef, undef, undef, undef, undef, undef, undef, undef, undef, undef, undef, undef]) Tryz.func23 rfl rfl ?_
 refine wp_seq_k (fun K1 hK1 => ?_)
 refine region ?_
 refine RS.box rfl rfl (fun b2 w2 e2 s2 x2 B2 => ?_)
 refine RS.norm (by dsimp only [List.set]) ?_
 replace hE := Ext.tr hE x2
 replace K0 := K0.ext x2
 replace D0 := D0.ext x2
 have zw2 := x2.size
 refine RS.alloc T33 (fun b3 w3 e3 s3 x3 B3 => ?_)
 refine RS.norm (by dsimp only [List.set]) ?_
 replace hE := Ext.tr hE x3
 replace K0 := K0.ext x3
 replace D0 := D0.ext x3
 replace B2 := B2.ext x3
 have zw3 := x3.size
 refine RS.assign (v := .int .i64 0) rfl ?_
 refine RS.nil ?_
 refine hK1 _ _ ?_
 try clear hK1
 refine wp_seq_k (fun K4 hK4 => ?_)
 refine region ?_
 refine RS.move (v := .int _ _) rfl ?_
 refine RS.call E52 (publicW _ (by omega) _) rfl (fun v5 w5 x5 A5 => ?_)
 replace hE := Ext.tr hE x5
 replace K0 := K0.ext x5
 replace D0 := D0.ext x5
 replace B2 := B2.ext x5
 replace B3 := B3.ext x5
 have zw5 := x5.size
 subst A5
 refine RS.norm (by dsimp only [List.set]) ?_
 refine RS.move (v := .tuple _) rfl ?_
 refine RS.extract (v := .int _ _) rfl rfl ?_
 refine RS.extract (v := .int _ _) rfl rfl ?_
 refine RS.assign (v := .int _ _) rfl ?_
 refine RS.assign (v := .int _ _) rfl ?_
 refine RS.nil ?_
 refine hK4 _ _ ?_
 try clear hK4
 refine wp_seq_k (fun K6 hK6 => ?_)
 refine wp_seq_k (fun K7 hK7 => ?_)
 refine region ?_
 refine RS.move (v := .int _ _) rfl ?_
 refine RS.o (D.ne rfl rfl) ?_
 refine RS.nil ?_
 refine hK7 _ _ ?_
 try clear hK7
 refine C.ifn rfl (fun c8 => ?_) (fun c8 => ?_)
 ·have hz := c8
  refine wp_seq_k (fun K9 hK9 => ?_)
  refine region ?_
  refine RS.o (D.buildS T33 F33 (ps := []) rfl rfl) ?_
  refine RS.move (v := .int _ _) rfl ?_
  refine RS.storeAggB rfl rfl C33 (by decide) rfl rfl B3 rfl (fun w10 y10 N10 => ?_)
  replace hE := hE.trans (y10.below (by intros; try (first | (intro _ _) | (intro _) | skip); first | omega | (dsimp only at *; omega) | (simp_all; done) | (simp at *; omega)))
  replace K0 := K0.st y10 (by intros; try (first | (intro _ _) | (intro _) | skip); first | omega | (dsimp only at *; omega) | (simp_all; done) | (simp at *; omega))
  replace D0 := D0.st y10 (by intros; try (first | (intro _ _) | (intro _) | skip); first | omega | (dsimp only at *; omega) | (simp_all; done) | (simp at *; omega))
  replace B2 := B2.st y10 (by intros; try (first | (intro _ _) | (intro _) | skip); first | omega | (dsimp only at *; omega) | (simp_all; done) | (simp at *; omega))
  have zw10 := y10.size
  replace B3 := N10
  refine RS.assign (v := .int _ _) rfl ?_
  refine RS.nil ?_
  refine hK9 _ _ ?_
  try clear hK9
  refine wp_ret ?_
  refine ret (rs := [.cell 4 33, .tmp 5]) (vs := [.agg _, .int _ _]) (v := (.tuple #[.agg _, .int _ _])) rfl ⟨⟨_, rfl, loadVar_agg Tryz.underlying33 rfl C33 (by decide) rfl (B3.cellsN 11 rfl)⟩, rfl, trivial⟩ rfl ?_
  have e1 : S.signE x o = S.secE x := by unfold S.signE; rw [if_neg hz, S.secE_two hz]
  have e2 : S.signS x o = S.OpV.zero := by unfold S.signS; rw [if_neg (by rw [e1]; exact hz)]
  rw [e1, e2]
  exact ⟨_, rfl, hE, _, _, rfl, Nat.le_refl _, WRow.nil⟩
 ·have hz := c8
  rw [if_pos hz]
  refine wp_skip ?_
  refine hK6 _ _ ?_
  try clear hK6
  refine wp_seq_k (fun K11 hK11 => ?_)
  refine region ?_
  refine RS.move (v := .int _ _) rfl ?_
  refine RS.o (D.fieldL 1 rfl Tryz.underlying33 rfl C24 (by decide) rfl) ?_
  refine RS.o (D.load rfl Tryz.underlying24 rfl (B2.cell rfl)) ?_
  refine RS.call E53 (cloneID _ _ _ _ _ D0 hc (by omega)) rfl (fun v12 w12 x12 A12 => ?_)
  replace hE := Ext.tr hE x12
  replace K0 := K0.ext x12
  replace D0 := D0.ext x12
  replace B2 := B2.ext x12
  replace B3 := B3.ext x12
  have zw12 := x12.size
  obtain ⟨a12, _, c12, rfl, rfl, O1⟩ := A12
  have hcc := O1.own.pre
  refine RS.norm (by dsimp only [List.set]) ?_
  refine RS.o (D.fieldL 0 rfl Tryz.underlying33 rfl C23 (by decide) rfl) ?_
  refine RS.store rfl (v := .int _ _) rfl C23 rfl B2 rfl (fun w13 y13 N13 => ?_)
  replace hE := hE.trans (y13.below (by intros; try (first | (intro _ _) | (intro _) | skip); first | omega | (dsimp only at *; omega) | (simp_all; done) | (simp at *; omega)))
  replace K0 := K0.st y13 (by intros; try (first | (intro _ _) | (intro _) | skip); first | omega | (dsimp only at *; omega) | (simp_all; done) | (simp at *; omega))
  replace D0 := D0.st y13 (by intros; try (first | (intro _ _) | (intro _) | skip); first | omega | (dsimp only at *; omega) | (simp_all; done) | (simp at *; omega))
  replace B3 := B3.st y13 (by intros; try (first | (intro _ _) | (intro _) | skip); first | omega | (dsimp only at *; omega) | (simp_all; done) | (simp at *; omega))
  replace O1 := O1.st y13 (by intros; try (first | (intro _ _) | (intro _) | skip); first | omega | (have hq := O1.own.lo _ (by assumption); first | omega | (dsimp only at *; omega)))
  have zw13 := y13.size
  replace B2 := N13
  refine RS.o (D.fieldL 1 rfl Tryz.underlying33 rfl C24 (by decide) rfl) ?_
  refine RS.store rfl  rfl C24 rfl B2 rfl (fun w14 y14 N14 => ?_)
  replace hE := hE.trans (y14.below (by intros; try (first | (intro _ _) | (intro _) | skip); first | omega | (dsimp only at *; omega) | (simp_all; done) | (simp at *; omega)))
  replace K0 := K0.st y14 (by intros; try (first | (intro _ _) | (intro _) | skip); first | omega | (dsimp only at *; omega) | (simp_all; done) | (simp at *; omega))
  replace D0 := D0.st y14 (by intros; try (first | (intro _ _) | (intro _) | skip); first | omega | (dsimp only at *; omega) | (simp_all; done) | (simp at *; omega))
  replace B3 := B3.st y14 (by intros; try (first | (intro _ _) | (intro _) | skip); first | omega | (dsimp only at *; omega) | (simp_all; done) | (simp at *; omega))
  replace O1 := O1.st y14 (by intros; try (first | (intro _ _) | (intro _) | skip); first | omega | (have hq := O1.own.lo _ (by assumption); first | omega | (dsimp only at *; omega)))
  have zw14 := y14.size
  replace B2 := N14
  refine RS.nil ?_
  refine hK11 _ _ ?_
  try clear hK11
  refine wp_seq_k (fun K15 hK15 => ?_)
  refine region ?_
  refine RS.o (D.loadAgg rfl Tryz.underlying33 rfl C33 (by decide) rfl (B2.cellsN 11 rfl)) ?_
  refine RS.call E54 (messageO (o.wit x) (S.OpV.wit_ok x ho) _ _ _ O1.row hcc) rfl (fun v16 w16 x16 A16 => ?_)
  replace hE := Ext.tr hE x16
  replace K0 := K0.ext x16
  replace D0 := D0.ext x16
  replace B2 := B2.ext x16
  replace B3 := B3.ext x16
  replace O1 := O1.ext x16
  have zw16 := x16.size
  obtain ⟨a16, n16, c16, xs, rfl, OM, hxs⟩ := A16
  have hml := OM.len
  refine RS.norm (by dsimp only [List.set]) ?_
  refine RS.move (v := .tuple _) rfl ?_
  refine RS.extract (v := .slice _ _ _) rfl rfl ?_
  refine RS.extract (v := .int _ _) rfl rfl ?_
  refine RS.assign (v := .slice _ _ _) rfl ?_
  refine RS.assign (v := .int _ _) rfl ?_
  refine RS.nil ?_
  refine hK15 _ _ ?_
  try clear hK15
  refine wp_seq_k (fun K17 hK17 => ?_)
  refine wp_seq_k (fun K18 hK18 => ?_)
  refine region ?_
  refine RS.move (v := .int _ _) rfl ?_
  refine RS.o (D.ne rfl rfl) ?_
  refine RS.nil ?_
  refine hK18 _ _ ?_
  try clear hK18
  refine C.ifn rfl (fun c19 => ?_) (fun c19 => ?_)
  ·have hk := c19
   refine wp_seq_k (fun K20 hK20 => ?_)
   refine region ?_
   refine RS.o (D.buildS T33 F33 (ps := []) rfl rfl) ?_
   refine RS.move (v := .int _ _) rfl ?_
   refine RS.storeAggB rfl rfl C33 (by decide) rfl rfl B3 rfl (fun w21 y21 N21 => ?_)
   replace hE := hE.trans (y21.below (by intros; try (first | (intro _ _) | (intro _) | skip); first | omega | (dsimp only at *; omega) | (simp_all; done) | (simp at *; omega)))
   replace K0 := K0.st y21 (by intros; try (first | (intro _ _) | (intro _) | skip); first | omega | (dsimp only at *; omega) | (simp_all; done) | (simp at *; omega))
   replace D0 := D0.st y21 (by intros; try (first | (intro _ _) | (intro _) | skip); first | omega | (dsimp only at *; omega) | (simp_all; done) | (simp at *; omega))
   replace B2 := B2.st y21 (by intros; try (first | (intro _ _) | (intro _) | skip); first | omega | (dsimp only at *; omega) | (simp_all; done) | (simp at *; omega))
   replace O1 := O1.st y21 (by intros; try (first | (intro _ _) | (intro _) | skip); first | omega | (have hq := O1.own.lo _ (by assumption); first | omega | (dsimp only at *; omega)))
   replace OM := OM.st y21 (by intros; try (first | (intro _ _) | (intro _) | skip); first | omega | (have hq := OM.own.lo _ (by assumption); first | omega | (dsimp only at *; omega)))
   have zw21 := y21.size
   replace B3 := N21
   refine RS.assign (v := .int _ _) rfl ?_
   refine RS.nil ?_
   refine hK20 _ _ ?_
   try clear hK20
   refine wp_ret ?_
   refine ret (rs := [.cell 4 33, .tmp 5]) (vs := [.agg _, .int _ _]) (v := (.tuple #[.agg _, .int _ _])) rfl ⟨⟨_, rfl, loadVar_agg Tryz.underlying33 rfl C33 (by decide) rfl (B3.cellsN 11 rfl)⟩, rfl, trivial⟩ rfl ?_
   have e1 : S.signE x o = S.checkE (o.wit x).bare := by unfold S.signE; rw [if_pos hz]
   have e2 : S.signS x o = S.OpV.zero := by unfold S.signS; rw [if_neg (by rw [e1]; exact hk)]
   rw [e1, e2]
   exact ⟨_, rfl, hE, _, _, rfl, Nat.le_refl _, WRow.nil⟩
  ·have hk := c19
   rw [if_pos hk] at hxs
   subst hxs
   have hml2 := S.msg_len (o.wit x) (S.OpV.wit_ok x ho) (S.check_zero.1 hk).1 e4
   have hn0 : S.nonceE x (S.msgS (o.wit x)) = 0 := S.nonceE_zero.2 ⟨hz, by unfold S.hashE; rw [if_neg (by omega)]⟩
   refine wp_skip ?_
   refine hK17 _ _ ?_
   try clear hK17
   refine wp_seq_k (fun K22 hK22 => ?_)
   refine region ?_
   refine RS.move (v := .int _ _) rfl ?_
   refine RS.move (v := .slice _ _ _) rfl ?_
   refine RS.call E55 (signW _ (by omega) _ _ _ _ _ _ K0 OM.row OM.own.pre) rfl (fun v23 w23 x23 A23 => ?_)
   replace hE := Ext.tr hE x23
   replace K0 := K0.ext x23
   replace D0 := D0.ext x23
   replace B2 := B2.ext x23
   replace B3 := B3.ext x23
   replace O1 := O1.ext x23
   replace OM := OM.ext x23
   have zw23 := x23.size
   subst A23
   rw [if_pos hn0, if_pos hn0]
   refine RS.norm (by dsimp only [List.set]) ?_
   refine RS.move (v := .tuple _) rfl ?_
   refine RS.extract (v := .agg _) rfl rfl ?_
   refine RS.extract (v := .int _ _) rfl rfl ?_
   refine RS.o (D.fieldL 9 rfl Tryz.underlying33 rfl C31 (by decide) rfl) ?_
   refine RS.storeAggB rfl rfl C31 (by decide) rfl rfl B2 rfl (fun w24 y24 N24 => ?_)
   replace hE := hE.trans (y24.below (by intros; try (first | (intro _ _) | (intro _) | skip); first | omega | (dsimp only at *; omega) | (simp_all; done) | (simp at *; omega)))
   replace K0 := K0.st y24 (by intros; try (first | (intro _ _) | (intro _) | skip); first | omega | (dsimp only at *; omega) | (simp_all; done) | (simp at *; omega))
   replace D0 := D0.st y24 (by intros; try (first | (intro _ _) | (intro _) | skip); first | omega | (dsimp only at *; omega) | (simp_all; done) | (simp at *; omega))
   replace B3 := B3.st y24 (by intros; try (first | (intro _ _) | (intro _) | skip); first | omega | (dsimp only at *; omega) | (simp_all; done) | (simp at *; omega))
   replace O1 := O1.st y24 (by intros; try (first | (intro _ _) | (intro _) | skip); first | omega | (have hq := O1.own.lo _ (by assumption); first | omega | (dsimp only at *; omega)))
   replace OM := OM.st y24 (by intros; try (first | (intro _ _) | (intro _) | skip); first | omega | (have hq := OM.own.lo _ (by assumption); first | omega | (dsimp only at *; omega)))
   have zw24 := y24.size
   replace B2 := N24
   refine RS.nil ?_
   refine hK22 _ _ ?_
   try clear hK22
   refine wp_seq_k (fun K25 hK25 => ?_)
   refine region ?_
   refine RS.o (D.loadAgg rfl Tryz.underlying33 rfl C33 (by decide) rfl (B2.cellsN 11 rfl)) ?_
   refine RS.storeAggB rfl rfl C33 (by decide) rfl rfl B3 rfl (fun w26 y26 N26 => ?_)
   replace hE := hE.trans (y26.below (by intros; try (first | (intro _ _) | (intro _) | skip); first | omega | (dsimp only at *; omega) | (simp_all; done) | (simp at *; omega)))
   replace K0 := K0.st y26 (by intros; try (first | (intro _ _) | (intro _) | skip); first | omega | (dsimp only at *; omega) | (simp_all; done) | (simp at *; omega))
   replace D0 := D0.st y26 (by intros; try (first | (intro _ _) | (intro _) | skip); first | omega | (dsimp only at *; omega) | (simp_all; done) | (simp at *; omega))
   replace B2 := B2.st y26 (by intros; try (first | (intro _ _) | (intro _) | skip); first | omega | (dsimp only at *; omega) | (simp_all; done) | (simp at *; omega))
   replace O1 := O1.st y26 (by intros; try (first | (intro _ _) | (intro _) | skip); first | omega | (have hq := O1.own.lo _ (by assumption); first | omega | (dsimp only at *; omega)))
   replace OM := OM.st y26 (by intros; try (first | (intro _ _) | (intro _) | skip); first | omega | (have hq := OM.own.lo _ (by assumption); first | omega | (dsimp only at *; omega)))
   have zw26 := y26.size
   replace B3 := N26
   refine RS.assign (v := .int .i64 0) rfl ?_
   refine RS.nil ?_
   refine hK25 _ _ ?_
   try clear hK25
   refine wp_ret ?_
   refine ret (rs := [.cell 4 33, .tmp 5]) (vs := [.agg _, .int _ _]) (v := (.tuple #[.agg _, .int _ _])) rfl ⟨⟨_, rfl, loadVar_agg Tryz.underlying33 rfl C33 (by decide) rfl (B3.cellsN 11 rfl)⟩, rfl, trivial⟩ rfl ?_
   have e1 : S.signE x o = 0 := by unfold S.signE; rw [if_pos hz]; exact hk
   have e2 := S.signS_eq e1
   rw [e1, e2]
   exact ⟨_, rfl, hE, _, _, rfl, hcc, O1.row.weaken (fun k hk h => by omega)⟩
theorem verifyO {S0 : Nat → Prop} (o : S.OpV) (ho : o.ok) (pa : Option Addr) (pc : Nat) (TK : TypeId) (w : World) (K0 : Kst w TK) (D0 : WRow .u8 32 S0 w pa o.n o.ids) (hc : o.n ≤ pc) :
  Calls Tryz.prog 25 #[.agg ([.int .u32 o.au, .slice pa o.n pc, .int .u64 o.st, .int .u8 o.k, .string o.key, .int .u8 o.vk, .int .i64 o.num, .int .u64 o.bits, .string o.t, .int .u32 o.e, .int .u32 o.s] : List Value).toArray] w (Ret w fun v _ => v = .int .i64 (S.verE o)) := by
 replace D0 := D0.weaken (T := fun k => k < w.heap.size) (fun k hk _ => hk)
 have o1 := ho.au
 have o2 := ho.st
 have o3 := ho.k
 have o4 := ho.vk
 have o5 := ho.num
 have o6 := ho.bits
 have o7 := ho.e
 have o8 := ho.s
 have o9 := ho.n
 have o10 := ho.key
 have o11 := ho.t
 have hKl := K0.lt
 have e4 := D0.len
 have hE := Ext.refl w
 refine enter (args := [.agg ([.int .u32 o.au, .slice pa o.n pc, .int .u64 o.st, .int .u8 o.k, .string o.key, .int .u8 o.vk, .int .i64 o.num, .int .u64 o.bits, .string o.t, .int .u32 o.e, .int .u32 o.s] : List Value).toArray]) (l := [.agg ([.int .u32 o.au, .slice pa o.n pc, .int .u64 o.st, .int .u8 o.k, .string o.key, .int .u8 o.vk, .int .i64 o.num, .int .u64 o.bits, .string o.t, .int .u32 o.e, .int .u32 o.s] : List Value).toArray, undef, undef, undef, undef, undef, undef, undef, undef, undef, undef, undef, undef, undef, undef, undef, undef, undef, undef, undef, undef, undef]) Tryz.func25 rfl rfl ?_
 refine wp_seq_k (fun K1 hK1 => ?_)
 refine region ?_
 refine RS.box rfl rfl (fun b2 w2 e2 s2 x2 B2 => ?_)
 refine RS.norm (by dsimp only [List.set]) ?_
 replace hE := Ext.tr hE x2
 replace K0 := K0.ext x2
 replace D0 := D0.ext x2
 have zw2 := x2.size
 refine RS.assign (v := .int .i64 0) rfl ?_
 refine RS.nil ?_
 refine hK1 _ _ ?_
 try clear hK1
 refine wp_seq_k (fun K3 hK3 => ?_)
 refine wp_seq_k (fun K4 hK4 => ?_)
 refine region ?_
 refine RS.o (D.loadAgg rfl Tryz.underlying33 rfl C33 (by decide) rfl (B2.cellsN 11 rfl)) ?_
 refine RS.call E46 (checkO o ho _ _ _ D0 hc) rfl (fun v5 w5 x5 A5 => ?_)
 replace hE := Ext.tr hE x5
 replace K0 := K0.ext x5
 replace D0 := D0.ext x5
 replace B2 := B2.ext x5
 have zw5 := x5.size
 subst A5
 refine RS.norm (by dsimp only [List.set]) ?_
 refine RS.assign (v := .int _ _) rfl ?_
 refine RS.nil ?_
 refine hK4 _ _ ?_
 try clear hK4
 refine wp_seq_k (fun K6 hK6 => ?_)
 refine region ?_
 refine RS.move (v := .int _ _) rfl ?_
 refine RS.o (D.ne rfl rfl) ?_
 refine RS.nil ?_
 refine hK6 _ _ ?_
 try clear hK6
 refine C.ifn rfl (fun c7 => ?_) (fun c7 => ?_)
 ·have hk := c7
  refine wp_seq_k (fun K8 hK8 => ?_)
  refine region ?_
  refine RS.move (v := .int _ _) rfl ?_
  refine RS.assign (v := .int _ _) rfl ?_
  refine RS.nil ?_
  refine hK8 _ _ ?_
  try clear hK8
  refine wp_ret ?_
  refine ret (rs := [.tmp 2]) (vs := [.int _ _]) (v := (.int _ _)) rfl ⟨rfl, trivial⟩ rfl ?_
  refine ⟨_, rfl, hE, ?_⟩
  unfold S.verE
  rw [if_neg hk]
 ·have hk := c7
  refine wp_skip ?_
  refine hK3 _ _ ?_
  try clear hK3
  refine wp_seq_k (fun K9 hK9 => ?_)
  refine region ?_
  refine RS.o (D.loadAgg rfl Tryz.underlying33 rfl C33 (by decide) rfl (B2.cellsN 11 rfl)) ?_
  refine RS.call E54 (messageO o ho _ _ _ D0 hc) rfl (fun v10 w10 x10 A10 => ?_)
  replace hE := Ext.tr hE x10
  replace K0 := K0.ext x10
  replace D0 := D0.ext x10
  replace B2 := B2.ext x10
  have zw10 := x10.size
  obtain ⟨a10, n10, c10, xs, rfl, OM, hxs⟩ := A10
  rw [if_pos (S.check_bare hk)] at hxs
  subst hxs
  refine RS.norm (by dsimp only [List.set]) ?_
  refine RS.move (v := .tuple _) rfl ?_
  refine RS.extract (v := .slice _ _ _) rfl rfl ?_
  refine RS.extract (v := .int _ _) rfl rfl ?_
  refine RS.assign (v := .slice _ _ _) rfl ?_
  refine RS.assign (v := .int _ _) rfl ?_
  refine RS.nil ?_
  refine hK9 _ _ ?_
  try clear hK9
  refine wp_seq_k (fun K11 hK11 => ?_)
  refine region ?_
  refine RS.o (D.fieldL 0 rfl Tryz.underlying33 rfl C23 (by decide) rfl) ?_
  refine RS.o (D.load rfl Tryz.underlying23 rfl (B2.cell rfl)) ?_
  refine RS.move (v := .slice _ _ _) rfl ?_
  refine RS.o (D.fieldL 9 rfl Tryz.underlying33 rfl C31 (by decide) rfl) ?_
  refine RS.o (D.loadAgg rfl Tryz.underlying31 rfl C31 (by decide) rfl (B2.cellsN 2 rfl)) ?_
  refine RS.call E61 (verifyW _ (by omega) _ _ (by omega) (by omega) _ _ _ _ _ _ K0 OM.row OM.own.pre) rfl (fun v12 w12 x12 A12 => ?_)
  replace hE := Ext.tr hE x12
  replace K0 := K0.ext x12
  replace D0 := D0.ext x12
  replace B2 := B2.ext x12
  replace OM := OM.ext x12
  have zw12 := x12.size
  subst A12
  refine RS.norm (by dsimp only [List.set]) ?_
  refine RS.assign (v := .int _ _) rfl ?_
  refine RS.nil ?_
  refine hK11 _ _ ?_
  try clear hK11
  refine wp_ret ?_
  refine ret (rs := [.tmp 2]) (vs := [.int _ _]) (v := (.int _ _)) rfl ⟨rfl, trivial⟩ rfl ?_
  refine ⟨_, rfl, hE, ?_⟩
  unfold S.verE
  rw [if_pos hk]
theorem givenW  (w : World) :
  Calls Tryz.prog 62 #[] w (Ret w fun v _ => v = .agg ([.int .u32 S.givenO.au, .slice none S.givenO.n 0, .int .u64 S.givenO.st, .int .u8 S.givenO.k, .string S.givenO.key, .int .u8 S.givenO.vk, .int .i64 S.givenO.num, .int .u64 S.givenO.bits, .string S.givenO.t, .int .u32 S.givenO.e, .int .u32 S.givenO.s] : List Value).toArray) := by
 have hE := Ext.refl w
 refine enter (args := []) (l := [undef, undef, undef, undef]) Tryz.func62 rfl rfl ?_
 refine wp_seq_k (fun K1 hK1 => ?_)
 refine region ?_
 refine RS.alloc T33 (fun b2 w2 e2 s2 x2 B2 => ?_)
 refine RS.norm (by dsimp only [List.set]) ?_
 replace hE := Ext.tr hE x2
 have zw2 := x2.size
 refine RS.nil ?_
 refine hK1 _ _ ?_
 try clear hK1
 refine wp_seq_k (fun K3 hK3 => ?_)
 refine region ?_
 refine RS.o (D.buildS T29 F29 (ps := [(0, .int _ _), (1, .string _)]) rfl rfl) ?_
 refine RS.o (D.buildS T31 F31 (ps := [(0, .int _ _), (1, .int _ _)]) rfl rfl) ?_
 refine RS.o (D.buildS T33 F33 (ps := [(0, .int _ _), (2, .int _ _), (3, .agg _), (4, .agg _)]) rfl rfl) ?_
 refine RS.storeAggB rfl rfl C33 (by decide) rfl rfl B2 rfl (fun w4 y4 N4 => ?_)
 replace hE := hE.trans (y4.below (by intros; try (first | (intro _ _) | (intro _) | skip); first | omega | (dsimp only at *; omega) | (simp_all; done) | (simp at *; omega)))
 have zw4 := y4.size
 replace B2 := N4
 refine RS.nil ?_
 refine hK3 _ _ ?_
 try clear hK3
 refine wp_ret ?_
 refine ret (rs := [.cell 0 33]) (vs := [.agg _]) (v := (.agg _)) rfl ⟨⟨_, rfl, loadVar_agg Tryz.underlying33 rfl C33 (by decide) rfl (B2.cellsN 11 rfl)⟩, trivial⟩ rfl ?_
 exact ⟨_, rfl, hE, rfl⟩
theorem fitW {S0 : Nat → Prop} (o : S.OpV) (hr : o.rng) (pa : Option Addr) (pc : Nat) (w : World) (D0 : WRow .u8 32 S0 w pa o.n o.ids) (hc : o.n ≤ pc) :
  Calls Tryz.prog 28 #[.agg ([.int .u32 o.au, .slice pa o.n pc, .int .u64 o.st, .int .u8 o.k, .string o.key, .int .u8 o.vk, .int .i64 o.num, .int .u64 o.bits, .string o.t, .int .u32 o.e, .int .u32 o.s] : List Value).toArray] w (Ret w fun v _ => v = .bool (decide (S.Fit o))) := by
 have hE := Ext.refl w
 refine enter (args := [.agg ([.int .u32 o.au, .slice pa o.n pc, .int .u64 o.st, .int .u8 o.k, .string o.key, .int .u8 o.vk, .int .i64 o.num, .int .u64 o.bits, .string o.t, .int .u32 o.e, .int .u32 o.s] : List Value).toArray]) (l := [.agg ([.int .u32 o.au, .slice pa o.n pc, .int .u64 o.st, .int .u8 o.k, .string o.key, .int .u8 o.vk, .int .i64 o.num, .int .u64 o.bits, .string o.t, .int .u32 o.e, .int .u32 o.s] : List Value).toArray, undef, undef, undef, undef, undef, undef, undef, undef, undef, undef]) Tryz.func28 rfl rfl ?_
 refine wp_seq_k (fun K1 hK1 => ?_)
 refine region ?_
 refine RS.box rfl rfl (fun b2 w2 e2 s2 x2 B2 => ?_)
 refine RS.norm (by dsimp only [List.set]) ?_
 replace hE := Ext.tr hE x2
 replace D0 := D0.ext x2
 have zw2 := x2.size
 refine RS.assign (v := .bool false) rfl ?_
 refine RS.nil ?_
 refine hK1 _ _ ?_
 try clear hK1
 refine wp_seq_k (fun K3 hK3 => ?_)
 refine region ?_
 refine RS.o (D.loadAgg rfl Tryz.underlying33 rfl C33 (by decide) rfl (B2.cellsN 11 rfl)) ?_
 refine RS.call E19 (great o _ _ _) rfl (fun v4 w4 x4 A4 => ?_)
 replace hE := Ext.tr hE x4
 replace D0 := D0.ext x4
 replace B2 := B2.ext x4
 have zw4 := x4.size
 subst A4
 refine RS.norm (by dsimp only [List.set]) ?_
 refine RS.o (D.not rfl) ?_
 refine RS.move (v := .bool _) rfl ?_
 refine RS.splitnot 6 rfl rfl (fun c5 => ?_) (fun c5 => ?_)
 ·refine RS.norm (by dsimp only [List.set]) ?_
  have hG := c5
  have ho : o.ok := hr.ok (by simpa using hG)
  refine RS.wantB 6 rfl rfl rfl ?_
  refine RS.o (D.loadAgg rfl Tryz.underlying33 rfl C33 (by decide) rfl (B2.cellsN 11 rfl)) ?_
  refine RS.wantB 6 rfl rfl rfl ?_
  refine RS.call E33 (checkOR o ho _ _ _ D0 hc) rfl (fun v6 w6 x6 A6 => ?_)
  replace hE := Ext.tr hE x6
  replace D0 := D0.ext x6
  replace B2 := B2.ext x6
  have zw6 := x6.size
  subst A6
  refine RS.norm (by dsimp only [List.set]) ?_
  refine RS.wantB 6 rfl rfl rfl ?_
  refine RS.o (D.eq rfl rfl) ?_
  refine RS.pick (v := .bool _) rfl rfl ?_
  refine RS.assign (v := .bool _) rfl ?_
  refine RS.nil ?_
  refine hK3 _ _ ?_
  try clear hK3
  refine wp_ret ?_
  refine ret (rs := [.tmp 2]) (vs := [.bool _]) (v := (.bool _)) rfl ⟨rfl, trivial⟩ rfl ?_
  refine ⟨_, rfl, hE, congrArg Value.bool ?_⟩
  simp_all [S.Fit]
  try (by_cases hq : S.checkE o = 0 <;> simp [hq])
 ·refine RS.norm (by dsimp only [List.set]) ?_
  have hG := c5
  refine RS.skipB (b := false) 6 rfl rfl rfl rfl ?_
  refine RS.norm (by dsimp only [putL, List.set]) ?_
  refine RS.skipB (b := false) 6 rfl rfl rfl rfl ?_
  refine RS.norm (by dsimp only [putL, List.set]) ?_
  refine RS.skipB (b := false) 6 rfl rfl rfl rfl ?_
  refine RS.norm (by dsimp only [putL, List.set]) ?_
  refine RS.pick (v := .bool false) rfl rfl ?_
  refine RS.assign (v := .bool _) rfl ?_
  refine RS.nil ?_
  refine hK3 _ _ ?_
  try clear hK3
  refine wp_ret ?_
  refine ret (rs := [.tmp 2]) (vs := [.bool _]) (v := (.bool _)) rfl ⟨rfl, trivial⟩ rfl ?_
  refine ⟨_, rfl, hE, congrArg Value.bool ?_⟩
  simp_all [S.Fit]
  try (by_cases hq : S.checkE o = 0 <;> simp [hq])
theorem aliveW (TK : TypeId) (w : World) (K0 : Kst w TK) :
  Calls Tryz.prog 27 #[] w (Ret w fun v _ => v = .bool true) := by
 have hKl := K0.lt
 have hE := Ext.refl w
 refine enter (args := []) (l := [undef, undef, undef, undef, undef, undef, undef, undef, undef, undef, undef, undef, undef, undef, undef, undef, undef, undef, undef, undef, undef, undef, undef, undef, undef, undef, undef, undef, undef, undef, undef, undef, undef, undef, undef, undef, undef, undef, undef, undef, undef, undef, undef, undef, undef, undef, undef, undef, undef, undef, undef, undef, undef, undef, undef, undef, undef, undef, undef, undef]) Tryz.func27 rfl rfl ?_
 refine wp_seq_k (fun K1 hK1 => ?_)
 refine region ?_
 refine RS.assign (v := .bool false) rfl ?_
 refine RS.nil ?_
 refine hK1 _ _ ?_
 try clear hK1
 refine wp_seq_k (fun K2 hK2 => ?_)
 refine region ?_
 refine RS.call E62 (givenW _) rfl (fun v3 w3 x3 A3 => ?_)
 replace hE := Ext.tr hE x3
 replace K0 := K0.ext x3
 have zw3 := x3.size
 subst A3
 refine RS.norm (by dsimp only [List.set]) ?_
 refine RS.call E54 (messageO S.givenO S.given_ok _ _ _ (WRow.nil (S := fun _ => False)) (Nat.le_refl _)) rfl (fun v4 w4 x4 A4 => ?_)
 replace hE := Ext.tr hE x4
 replace K0 := K0.ext x4
 have zw4 := x4.size
 obtain ⟨a4, n4, c4, xs, rfl, OM, hxs⟩ := A4
 rw [if_pos S.given_bare] at hxs
 rw [S.given_bare]
 subst hxs
 have hOM := OM.lo
 refine RS.norm (by dsimp only [List.set]) ?_
 refine RS.move (v := .tuple _) rfl ?_
 refine RS.extract (v := .slice _ _ _) rfl rfl ?_
 refine RS.extract (v := .int _ _) rfl rfl ?_
 refine RS.assign (v := .slice _ _ _) rfl ?_
 refine RS.assign (v := .int _ _) rfl ?_
 refine RS.nil ?_
 refine hK2 _ _ ?_
 try clear hK2
 refine wp_seq_k (fun K5 hK5 => ?_)
 refine region ?_
 refine RS.call E62 (givenW _) rfl (fun v6 w6 x6 A6 => ?_)
 replace hE := Ext.tr hE x6
 replace K0 := K0.ext x6
 replace OM := OM.ext x6
 have zw6 := x6.size
 subst A6
 refine RS.norm (by dsimp only [List.set]) ?_
 refine RS.call E29 (encodeO S.givenO S.given_ok _ _ _ (WRow.nil (S := fun _ => False)) (Nat.le_refl _)) rfl (fun v7 w7 x7 A7 => ?_)
 replace hE := Ext.tr hE x7
 replace K0 := K0.ext x7
 replace OM := OM.ext x7
 have zw7 := x7.size
 obtain ⟨a7, n7, c7, xs, rfl, OE, hxs⟩ := A7
 rw [if_pos S.given_check] at hxs
 rw [S.given_check]
 subst hxs
 have hOE := OE.lo
 refine RS.norm (by dsimp only [List.set]) ?_
 refine RS.move (v := .tuple _) rfl ?_
 refine RS.extract (v := .slice _ _ _) rfl rfl ?_
 refine RS.extract (v := .int _ _) rfl rfl ?_
 refine RS.assign (v := .slice _ _ _) rfl ?_
 refine RS.assign (v := .int _ _) rfl ?_
 refine RS.nil ?_
 refine hK5 _ _ ?_
 try clear hK5
 refine wp_seq_k (fun K8 hK8 => ?_)
 refine region ?_
 refine RS.call E62 (givenW _) rfl (fun v9 w9 x9 A9 => ?_)
 replace hE := Ext.tr hE x9
 replace K0 := K0.ext x9
 replace OM := OM.ext x9
 replace OE := OE.ext x9
 have zw9 := x9.size
 subst A9
 refine RS.norm (by dsimp only [List.set]) ?_
 refine RS.alloc T33 (fun b10 w10 e10 s10 x10 B10 => ?_)
 refine RS.norm (by dsimp only [List.set]) ?_
 replace hE := Ext.tr hE x10
 replace K0 := K0.ext x10
 replace OM := OM.ext x10
 replace OE := OE.ext x10
 have zw10 := x10.size
 refine RS.storeAggB rfl rfl C33 (by decide) rfl rfl B10 rfl (fun w11 y11 N11 => ?_)
 replace hE := hE.trans (y11.below (by intros; try (first | (intro _ _) | (intro _) | skip); first | omega | (dsimp only at *; omega) | (simp_all; done) | (simp at *; omega)))
 replace K0 := K0.st y11 (by intros; try (first | (intro _ _) | (intro _) | skip); first | omega | (dsimp only at *; omega) | (simp_all; done) | (simp at *; omega))
 replace OM := OM.st y11 (by intros; try (first | (intro _ _) | (intro _) | skip); first | omega | (have hq := hOM _ (by assumption); first | omega | (dsimp only at *; omega)))
 replace OE := OE.st y11 (by intros; try (first | (intro _ _) | (intro _) | skip); first | omega | (have hq := hOE _ (by assumption); first | omega | (dsimp only at *; omega)))
 have zw11 := y11.size
 replace B10 := N11
 refine RS.nil ?_
 refine hK8 _ _ ?_
 try clear hK8
 refine wp_seq_k (fun K12 hK12 => ?_)
 refine region ?_
 refine RS.o (D.fieldL 0 rfl Tryz.underlying33 rfl C23 (by decide) rfl) ?_
 refine RS.store rfl (v := .int _ _) rfl C23 rfl B10 rfl (fun w13 y13 N13 => ?_)
 replace hE := hE.trans (y13.below (by intros; try (first | (intro _ _) | (intro _) | skip); first | omega | (dsimp only at *; omega) | (simp_all; done) | (simp at *; omega)))
 replace K0 := K0.st y13 (by intros; try (first | (intro _ _) | (intro _) | skip); first | omega | (dsimp only at *; omega) | (simp_all; done) | (simp at *; omega))
 replace OM := OM.st y13 (by intros; try (first | (intro _ _) | (intro _) | skip); first | omega | (have hq := hOM _ (by assumption); first | omega | (dsimp only at *; omega)))
 replace OE := OE.st y13 (by intros; try (first | (intro _ _) | (intro _) | skip); first | omega | (have hq := hOE _ (by assumption); first | omega | (dsimp only at *; omega)))
 have zw13 := y13.size
 replace B10 := N13
 refine RS.nil ?_
 refine hK12 _ _ ?_
 try clear hK12
 refine wp_seq_k (fun K14 hK14 => ?_)
 refine region ?_
 refine RS.call E62 (givenW _) rfl (fun v15 w15 x15 A15 => ?_)
 replace hE := Ext.tr hE x15
 replace K0 := K0.ext x15
 replace OM := OM.ext x15
 replace OE := OE.ext x15
 replace B10 := B10.ext x15
 have zw15 := x15.size
 subst A15
 refine RS.norm (by dsimp only [List.set]) ?_
 refine RS.call E23 (signO _ (by decide) S.givenO S.given_ok _ _ _ _ K0 (WRow.nil (S := fun _ => False)) (Nat.le_refl _)) rfl (fun v16 w16 x16 A16 => ?_)
 replace hE := Ext.tr hE x16
 replace K0 := K0.ext x16
 replace OM := OM.ext x16
 replace OE := OE.ext x16
 replace B10 := B10.ext x16
 have zw16 := x16.size
 obtain ⟨a16, c16, rfl, hcn, RG⟩ := A16
 rw [S.given_sign]
 obtain ⟨g1, g2, g3, g4, g5, g6, g7⟩ := S.sign_good S.given_ok rfl S.given_sign
 have hso := S.signS_ok 2 S.givenO S.given_ok
 replace RG := RG.weaken (T := fun k => k < w16.heap.size) (fun k hk _ => hk)
 refine RS.norm (by dsimp only [List.set]) ?_
 refine RS.move (v := .tuple _) rfl ?_
 refine RS.extract (v := .agg _) rfl rfl ?_
 refine RS.extract (v := .int _ _) rfl rfl ?_
 refine RS.alloc T33 (fun b17 w17 e17 s17 x17 B17 => ?_)
 refine RS.norm (by dsimp only [List.set]) ?_
 replace hE := Ext.tr hE x17
 replace K0 := K0.ext x17
 replace OM := OM.ext x17
 replace OE := OE.ext x17
 replace B10 := B10.ext x17
 replace RG := RG.ext x17
 have zw17 := x17.size
 refine RS.storeAggB rfl rfl C33 (by decide) rfl rfl B17 rfl (fun w18 y18 N18 => ?_)
 replace hE := hE.trans (y18.below (by intros; try (first | (intro _ _) | (intro _) | skip); first | omega | (dsimp only at *; omega) | (simp_all; done) | (simp at *; omega)))
 replace K0 := K0.st y18 (by intros; try (first | (intro _ _) | (intro _) | skip); first | omega | (dsimp only at *; omega) | (simp_all; done) | (simp at *; omega))
 replace OM := OM.st y18 (by intros; try (first | (intro _ _) | (intro _) | skip); first | omega | (have hq := hOM _ (by assumption); first | omega | (dsimp only at *; omega)))
 replace OE := OE.st y18 (by intros; try (first | (intro _ _) | (intro _) | skip); first | omega | (have hq := hOE _ (by assumption); first | omega | (dsimp only at *; omega)))
 replace B10 := B10.st y18 (by intros; try (first | (intro _ _) | (intro _) | skip); first | omega | (dsimp only at *; omega) | (simp_all; done) | (simp at *; omega))
 replace RG := RG.st y18 (by intros; try (first | (intro _ _) | (intro _) | skip); first | omega | (dsimp only at *; omega) | (simp_all; done) | (simp at *; omega))
 have zw18 := y18.size
 replace B17 := N18
 refine RS.assign (v := .int _ _) rfl ?_
 refine RS.nil ?_
 refine hK14 _ _ ?_
 try clear hK14
 refine wp_seq_k (fun K19 hK19 => ?_)
 refine region ?_
 refine RS.move (v := .int _ _) rfl ?_
 refine RS.o (D.eq rfl rfl) ?_
 refine RS.move (v := .bool _) rfl ?_
 refine RS.splite 27 rfl rfl (fun c20 => ?_) (fun c20 => ?_)
 ·refine RS.norm (by dsimp only [List.set]) ?_
  refine RS.wantB 27 rfl rfl rfl ?_
  refine RS.move (v := .slice _ _ _) rfl ?_
  refine RS.wantB 27 rfl rfl rfl ?_
  refine RS.buildSlice (xs := [.const (.int .u8 111), .const (.int .u8 4), .const (.int .u8 0), .const (.int .u8 7), .const (.int .u8 2), .const (.int .u8 1), .const (.int .u8 97)]) (vs := [.int _ _, .int _ _, .int _ _, .int _ _, .int _ _, .int _ _, .int _ _]) (cs := [.int _ _, .int _ _, .int _ _, .int _ _, .int _ _, .int _ _, .int _ _]) Tryz.underlying22 T5 (by decide) rfl rfl rfl rfl rfl rfl (by intro v hv; simp only [List.mem_cons, List.not_mem_nil, or_false] at hv; rcases hv with rfl | rfl | rfl | rfl | rfl | rfl | rfl <;> rfl) rfl (fun b21 w21 e21 s21 x21 B21 => ?_)
  refine RS.norm (by dsimp only [List.set]) ?_
  replace hE := Ext.tr hE x21
  replace K0 := K0.ext x21
  replace OM := OM.ext x21
  replace OE := OE.ext x21
  replace B10 := B10.ext x21
  replace RG := RG.ext x21
  replace B17 := B17.ext x21
  have zw21 := x21.size
  refine RS.wantB 27 rfl rfl rfl ?_
  refine RS.call E18 (sameBytes _ _ _ _ _ _ _ _ _ OM.row (IRow.of_blk (S := fun k => k = b21) B21 rfl rfl rfl (.cons (by decide) (.cons (by decide) (.cons (by decide) (.cons (by decide) (.cons (by decide) (.cons (by decide) (.cons (by decide) (.nil _))))))))) (by rw [← OM.len]; decide +kernel) (by decide)) rfl (fun v22 w22 x22 A22 => ?_)
  replace hE := Ext.tr hE x22
  replace K0 := K0.ext x22
  replace OM := OM.ext x22
  replace OE := OE.ext x22
  replace B10 := B10.ext x22
  replace RG := RG.ext x22
  replace B17 := B17.ext x22
  replace B21 := B21.ext x22
  have zw22 := x22.size
  subst A22
  refine RS.norm (by dsimp only [List.set]) ?_
  refine RS.pick (v := .bool _) rfl rfl ?_
  refine RS.move (v := .bool _) rfl ?_
  refine RS.splitb 32 rfl rfl (fun c23 => ?_) (fun c23 => ?_)
  ·refine RS.norm (by dsimp only [List.set]) ?_
   refine RS.wantB 32 rfl rfl rfl ?_
   refine RS.move (v := .int _ _) rfl ?_
   refine RS.wantB 32 rfl rfl rfl ?_
   refine RS.o (D.eq rfl rfl) ?_
   refine RS.pick (v := .bool _) rfl rfl ?_
   refine RS.move (v := .bool _) rfl ?_
   refine RS.splite 36 rfl rfl (fun c24 => ?_) (fun c24 => ?_)
   ·refine RS.norm (by dsimp only [List.set]) ?_
    refine RS.wantB 36 rfl rfl rfl ?_
    refine RS.move (v := .slice _ _ _) rfl ?_
    refine RS.wantB 36 rfl rfl rfl ?_
    refine RS.buildSlice (xs := [.const (.int .u8 111), .const (.int .u8 4), .const (.int .u8 0), .const (.int .u8 7), .const (.int .u8 2), .const (.int .u8 1), .const (.int .u8 97), .const (.int .u8 5), .const (.int .u8 6)]) (vs := [.int _ _, .int _ _, .int _ _, .int _ _, .int _ _, .int _ _, .int _ _, .int _ _, .int _ _]) (cs := [.int _ _, .int _ _, .int _ _, .int _ _, .int _ _, .int _ _, .int _ _, .int _ _, .int _ _]) Tryz.underlying22 T5 (by decide) rfl rfl rfl rfl rfl rfl (by intro v hv; simp only [List.mem_cons, List.not_mem_nil, or_false] at hv; rcases hv with rfl | rfl | rfl | rfl | rfl | rfl | rfl | rfl | rfl <;> rfl) rfl (fun b25 w25 e25 s25 x25 B25 => ?_)
    refine RS.norm (by dsimp only [List.set]) ?_
    replace hE := Ext.tr hE x25
    replace K0 := K0.ext x25
    replace OM := OM.ext x25
    replace OE := OE.ext x25
    replace B10 := B10.ext x25
    replace RG := RG.ext x25
    replace B17 := B17.ext x25
    replace B21 := B21.ext x25
    have zw25 := x25.size
    refine RS.wantB 36 rfl rfl rfl ?_
    refine RS.call E18 (sameBytes _ _ _ _ _ _ _ _ _ OE.row (IRow.of_blk (S := fun k => k = b25) B25 rfl rfl rfl (.cons (by decide) (.cons (by decide) (.cons (by decide) (.cons (by decide) (.cons (by decide) (.cons (by decide) (.cons (by decide) (.cons (by decide) (.cons (by decide) (.nil _))))))))))) (by rw [← OE.len]; decide +kernel) (by decide)) rfl (fun v26 w26 x26 A26 => ?_)
    replace hE := Ext.tr hE x26
    replace K0 := K0.ext x26
    replace OM := OM.ext x26
    replace OE := OE.ext x26
    replace B10 := B10.ext x26
    replace RG := RG.ext x26
    replace B17 := B17.ext x26
    replace B21 := B21.ext x26
    replace B25 := B25.ext x26
    have zw26 := x26.size
    subst A26
    refine RS.norm (by dsimp only [List.set]) ?_
    refine RS.pick (v := .bool _) rfl rfl ?_
    refine RS.move (v := .bool _) rfl ?_
    refine RS.splitb 41 rfl rfl (fun c27 => ?_) (fun c27 => ?_)
    ·refine RS.norm (by dsimp only [List.set]) ?_
     refine RS.wantB 41 rfl rfl rfl ?_
     refine RS.o (D.loadAgg rfl Tryz.underlying33 rfl C33 (by decide) rfl (B10.cellsN 11 rfl)) ?_
     refine RS.wantB 41 rfl rfl rfl ?_
     refine RS.call E46 (checkO S.wrongO S.wrong_ok _ _ _ (WRow.nil (S := fun _ => False)) (Nat.le_refl _)) rfl (fun v28 w28 x28 A28 => ?_)
     replace hE := Ext.tr hE x28
     replace K0 := K0.ext x28
     replace OM := OM.ext x28
     replace OE := OE.ext x28
     replace B10 := B10.ext x28
     replace RG := RG.ext x28
     replace B17 := B17.ext x28
     replace B21 := B21.ext x28
     replace B25 := B25.ext x28
     have zw28 := x28.size
     subst A28
     rw [S.wrong_check]
     refine RS.norm (by dsimp only [List.set]) ?_
     refine RS.wantB 41 rfl rfl rfl ?_
     refine RS.o (D.eq rfl rfl) ?_
     refine RS.pick (v := .bool _) rfl rfl ?_
     refine RS.move (v := .bool _) rfl ?_
     refine RS.splite 46 rfl rfl (fun c29 => ?_) (fun c29 => ?_)
     ·refine RS.norm (by dsimp only [List.set]) ?_
      refine RS.wantB 46 rfl rfl rfl ?_
      refine RS.move (v := .int _ _) rfl ?_
      refine RS.wantB 46 rfl rfl rfl ?_
      refine RS.o (D.eq rfl rfl) ?_
      refine RS.pick (v := .bool _) rfl rfl ?_
      refine RS.move (v := .bool _) rfl ?_
      refine RS.splite 50 rfl rfl (fun c30 => ?_) (fun c30 => ?_)
      ·refine RS.norm (by dsimp only [List.set]) ?_
       refine RS.wantB 50 rfl rfl rfl ?_
       refine RS.o (D.fieldL 0 rfl Tryz.underlying33 rfl C23 (by decide) rfl) ?_
       refine RS.wantB 50 rfl rfl rfl ?_
       refine RS.o (D.load rfl Tryz.underlying23 rfl (B17.cell rfl)) ?_
       refine RS.wantB 50 rfl rfl rfl ?_
       refine RS.o (D.eq rfl rfl) ?_
       refine RS.pick (v := .bool _) rfl rfl ?_
       refine RS.move (v := .bool _) rfl ?_
       refine RS.splite 55 rfl rfl (fun c31 => ?_) (fun c31 => ?_)
       ·refine RS.norm (by dsimp only [List.set]) ?_
        refine RS.wantB 55 rfl rfl rfl ?_
        refine RS.o (D.loadAgg rfl Tryz.underlying33 rfl C33 (by decide) rfl (B17.cellsN 11 rfl)) ?_
        refine RS.wantB 55 rfl rfl rfl ?_
        refine RS.call E25 (verifyO (S.signS 2 S.givenO) hso _ _ _ _ K0 RG hcn) rfl (fun v32 w32 x32 A32 => ?_)
        replace hE := Ext.tr hE x32
        replace K0 := K0.ext x32
        replace OM := OM.ext x32
        replace OE := OE.ext x32
        replace B10 := B10.ext x32
        replace RG := RG.ext x32
        replace B17 := B17.ext x32
        replace B21 := B21.ext x32
        replace B25 := B25.ext x32
        have zw32 := x32.size
        subst A32
        rw [g7]
        refine RS.norm (by dsimp only [List.set]) ?_
        refine RS.wantB 55 rfl rfl rfl ?_
        refine RS.o (D.eq rfl rfl) ?_
        refine RS.pick (v := .bool _) rfl rfl ?_
        refine RS.assign (v := .bool _) rfl ?_
        refine RS.nil ?_
        refine hK19 _ _ ?_
        try clear hK19
        refine wp_ret ?_
        refine ret (rs := [.tmp 0]) (vs := [.bool _]) (v := (.bool _)) rfl ⟨rfl, trivial⟩ rfl ?_
        exact ⟨_, rfl, hE, rfl⟩
       ·refine RS.norm (by dsimp only [List.set]) ?_
        exact absurd (g1.trans S.pub_two) c31
      ·refine RS.norm (by dsimp only [List.set]) ?_
       exact absurd rfl c30
     ·refine RS.norm (by dsimp only [List.set]) ?_
      exact absurd rfl c29
    ·refine RS.norm (by dsimp only [List.set]) ?_
     exact Bool.noConfusion ((decide_eq_true S.given_enc).symm.trans c27)
   ·refine RS.norm (by dsimp only [List.set]) ?_
    exact absurd rfl c24
  ·refine RS.norm (by dsimp only [List.set]) ?_
   exact Bool.noConfusion ((decide_eq_true S.given_msg).symm.trans c23)
 ·refine RS.norm (by dsimp only [List.set]) ?_
  exact absurd rfl c20
end Go.Proofs.YtiohpiiiapjblaaGreatDoor.W
namespace Go.Proofs.YtiohpiiiapjblaaGreatDoor.S
open G
theorem be_rev : ∀ (k : Nat) (n : Int), 0 ≤ n → n < 256 ^ k → be (leK k n).reverse = n
  | 0, n, h0, h => by simp at h; simp [leK, be]; omega
  | k + 1, n, h0, h => by
    rw [Int.pow_succ] at h
    rw [leK, List.reverse_cons, be_snoc, be_rev k (n / 256) (by omega) (Int.ediv_lt_of_lt_mul (by decide) h)]
    omega
theorem le_be : ∀ ys : List Int, Bd .u8 ys → leK ys.length (be ys.reverse) = ys
  | [], _ => rfl
  | y :: t, h => by
    have hy := h y List.mem_cons_self
    simp only [lim] at hy
    rw [List.length_cons, leK, List.reverse_cons, be_snoc, show (be t.reverse * 256 + y) % 256 = y by omega, show (be t.reverse * 256 + y) / 256 = be t.reverse by omega, le_be t fun x hx => h x (List.mem_cons_of_mem _ hx)]
theorem be_low : ∀ (t : List Int) (a : Int), 0 ≤ a → Bd .u8 t → a * 256 ^ t.length ≤ t.foldl (fun a x => a * 256 + x) a
  | [], a, _, _ => by simp
  | x :: t, a, ha, h => by
    have hx := h x List.mem_cons_self
    simp only [lim] at hx
    have := be_low t (a * 256 + x) (by omega) fun y hy => h y (List.mem_cons_of_mem _ hy)
    rw [List.foldl_cons, List.length_cons, Int.pow_succ]
    refine Int.le_trans ?_ this
    rw [Int.mul_comm _ 256, ← Int.mul_assoc]
    exact Int.mul_le_mul_of_nonneg_right (by omega) (Int.pow_nonneg (by decide))
theorem blen_rng (n : Int) (h : 0 < n) (h2 : n < 18446744073709551616) : 256 ^ (blen n - 1) ≤ n ∧ n < 256 ^ blen n := by
  unfold blen
  repeat' split
  all_goals simp
  all_goals omega
theorem blen_of (n : Int) (k : Nat) (h1 : 1 ≤ k ∧ k ≤ 8) (h2 : 256 ^ (k - 1) ≤ n) (h3 : n < 256 ^ k) : blen n = k := by
  have hk : k = 1 ∨ k = 2 ∨ k = 3 ∨ k = 4 ∨ k = 5 ∨ k = 6 ∨ k = 7 ∨ k = 8 := by omega
  rcases hk with rfl | rfl | rfl | rfl | rfl | rfl | rfl | rfl <;> simp at h2 h3 <;> unfold blen <;> repeat' split
  all_goals omega
/-- A number that is read, and how many bytes it has. -/
def readN (b : List Int) : Option (Int × Nat) :=
  match b with
  | [] => none
  | h :: t => if h ≤ 247 then some (h, 1) else
    if t.length < (h - 247).toNat ∨ t.getD 0 0 = 0 ∨ (h = 248 ∧ t.getD 0 0 ≤ 247) then none else some (be (t.take (h - 247).toNat), (h - 247).toNat + 1)
theorem head_get (l r : List Int) (h : 0 < l.length) : (l ++ r).getD 0 0 = l.getD 0 0 := by
  cases l with
  | nil => simp at h
  | cons a l => rfl
theorem be_head (x : Int) (t : List Int) (hB : Bd .u8 (x :: t)) : x * 256 ^ t.length ≤ be (x :: t) ∧ be (x :: t) < (x + 1) * 256 ^ t.length := by
  have hx := hB x List.mem_cons_self
  have ht : Bd .u8 t := fun y hy => hB y (List.mem_cons_of_mem _ hy)
  have e : be (x :: t) = t.foldl (fun a x => a * 256 + x) x := by simp [be]
  rw [e]
  exact ⟨be_low t x hx.1 ht, (be_go t x hx.1 ht).2⟩
theorem read_num (n : Int) (h0 : 0 ≤ n) (h1 : n < 18446744073709551616) (r : List Int) : readN (numS n ++ r) = some (n, (numS n).length) := by
  by_cases hs : n ≤ 247
  · rw [numS_small n hs]
    simp [readN, hs]
  · rw [numS_large n hs, List.cons_append]
    have hb := blen_rng n (by omega) h1
    have hp := blen_pos n (by omega)
    have hv := be_rev (blen n) n h0 hb.2
    have hl : (leK (blen n) n).reverse.length = blen n := by rw [List.length_reverse, leK_len]
    have hB : Bd .u8 (leK (blen n) n).reverse := fun x hx => leK_bd _ _ x (List.mem_reverse.1 hx)
    generalize (leK (blen n) n).reverse = l at hv hl hB
    have hk : (247 + (blen n : Int) - 247).toNat = blen n := by omega
    have hx : ¬ l.getD 0 0 = 0 ∧ ¬ (247 + (blen n : Int) = 248 ∧ l.getD 0 0 ≤ 247) := by
      cases l with
      | nil => simp at hl; omega
      | cons x t =>
        have hh := be_head x t hB
        rw [hv] at hh
        simp only [List.length_cons] at hl
        rw [show t.length = blen n - 1 by omega] at hh
        simp only [List.getD_cons_zero]
        refine ⟨fun e => ?_, fun e => ?_⟩
        · rw [e] at hh; omega
        · rw [show blen n - 1 = 0 by omega] at hh; simp at hh; omega
    simp only [readN, hk, head_get l r (by omega)]
    rw [if_neg (by omega), if_neg, ← hl, List.take_left, hv]
    · rfl
    · rintro (h | h | h)
      · rw [List.length_append] at h; omega
      · exact hx.1 h
      · exact hx.2 h
theorem read_inv {b : List Int} (hB : Bd .u8 b) {n : Int} {u : Nat} (h : readN b = some (n, u)) : 0 ≤ n ∧ n < 18446744073709551616 ∧ u ≤ b.length ∧ b = numS n ++ b.drop u ∧ u = (numS n).length := by
  cases b with
  | nil => cases h
  | cons x t =>
    have hx := hB x List.mem_cons_self
    have ht : Bd .u8 t := fun y hy => hB y (List.mem_cons_of_mem _ hy)
    simp only [lim] at hx
    simp only [readN] at h
    by_cases hs : x ≤ 247
    · rw [if_pos hs] at h
      simp only [Option.some.injEq, Prod.mk.injEq] at h
      obtain ⟨rfl, rfl⟩ := h
      rw [numS_small x hs]
      exact ⟨hx.1, by omega, by simp, rfl, rfl⟩
    · rw [if_neg hs] at h
      by_cases hc : t.length < (x - 247).toNat ∨ t.getD 0 0 = 0 ∨ (x = 248 ∧ t.getD 0 0 ≤ 247)
      · rw [if_pos hc] at h; cases h
      · rw [if_neg hc] at h
        simp only [Option.some.injEq, Prod.mk.injEq] at h
        obtain ⟨rfl, rfl⟩ := h
        generalize hk : (x - 247).toNat = k at *
        have hl : (t.take k).length = k := by rw [List.length_take]; omega
        have hT := ht.take k
        have hrev := le_be (t.take k).reverse fun y hy => hT y (List.mem_reverse.1 hy)
        rw [List.reverse_reverse, List.length_reverse, hl] at hrev
        have hb := be_bd _ hT
        rw [hl] at hb
        have hp : (256 : Int) ^ k ≤ 256 ^ 8 := pow256 (by omega)
        have h8 : (256 : Int) ^ 8 = 18446744073709551616 := by decide
        have hg : (t.take k).getD 0 0 = t.getD 0 0 := by
          have := head_get (t.take k) (t.drop k) (by omega)
          rw [List.take_append_drop] at this
          exact this.symm
        have hlow : 256 ^ (k - 1) ≤ be (t.take k) ∧ 247 < be (t.take k) := by
          generalize t.take k = l at *
          cases l with
          | nil => simp at hl; omega
          | cons z r =>
            have hz := hT z List.mem_cons_self
            have hh := be_head z r hT
            simp only [List.length_cons] at hl
            simp only [List.getD_cons_zero] at hg
            rw [show r.length = k - 1 by omega] at hh
            have hz0 : 1 ≤ z := by have := hz.1; rw [← hg] at hc; omega
            have h1 : 256 ^ (k - 1) ≤ be (z :: r) := Int.le_trans (by have := Int.mul_le_mul_of_nonneg_right hz0 (Int.pow_nonneg (by decide) : (0 : Int) ≤ 256 ^ (k - 1)); omega) hh.1
            refine ⟨h1, ?_⟩
            by_cases h1k : k = 1
            · subst h1k
              simp at hh
              rw [← hg] at hc
              omega
            · have : (256 : Int) ^ 1 ≤ 256 ^ (k - 1) := pow256 (by omega)
              omega
        have hbl := blen_of _ k (by omega) hlow.1 hb.2
        have hn : numS (be (t.take k)) = x :: t.take k := by
          rw [numS_large _ (by omega), hbl, hrev, List.reverse_reverse]
          congr 1
          omega
        refine ⟨hb.1, by omega, by simp; omega, ?_, ?_⟩
        · rw [hn, List.drop_succ_cons, List.cons_append, List.take_append_drop]
        · rw [hn, List.length_cons, hl]
/-- A string that is read, and how many bytes were read. -/
def readB (most : Int) (b : List Int) : Option (List Int × Nat) :=
  match readN b with
  | some (n, u) => if n ≤ most ∧ n ≤ (b.length : Int) - u then some ((b.drop u).take n.toNat, u + n.toNat) else none
  | none => none
theorem readB_num (most : Int) (s r : List Int) (h : (s.length : Int) ≤ most) (hm : s.length < 18446744073709551616) : readB most (numS s.length ++ s ++ r) = some (s, (numS s.length).length + s.length) := by
  unfold readB
  rw [List.append_assoc, read_num _ (by omega) (by omega)]
  simp only [List.length_append]
  rw [if_pos (by omega), List.drop_left, show ((s.length : Int)).toNat = s.length from rfl, List.take_left]
theorem readB_inv {most : Int} {b : List Int} (hB : Bd .u8 b) {s : List Int} {u : Nat} (h : readB most b = some (s, u)) : (s.length : Int) ≤ most ∧ u ≤ b.length ∧ b = numS s.length ++ s ++ b.drop u ∧ u = (numS s.length).length + s.length := by
  unfold readB at h
  split at h
  · rename_i n v hr
    obtain ⟨h0, h1, h2, h3, h4⟩ := read_inv hB hr
    split at h
    · rename_i hc
      simp only [Option.some.injEq, Prod.mk.injEq] at h
      obtain ⟨rfl, rfl⟩ := h
      have hl : ((b.drop v).take n.toNat).length = n.toNat := by rw [List.length_take, List.length_drop]; omega
      rw [hl, show (n.toNat : Int) = n by omega]
      refine ⟨hc.1, by omega, ?_, by omega⟩
      conv => lhs; rw [h3]
      rw [List.append_assoc]
      congr 1
      rw [← List.drop_drop, List.take_append_drop]
    · cases h
  · cases h
/-- A list of ids that is read. -/
def readI (most : Int) (b : List Int) : Option (Nat × List Int × Nat) :=
  match readN b with
  | some (n, u) => if n ≤ most ∧ n ≤ ((b.length : Int) - u) / 32 ∧ Rising n.toNat ((b.drop u).take (32 * n.toNat)) then some (n.toNat, (b.drop u).take (32 * n.toNat), u + 32 * n.toNat) else none
  | none => none
theorem readI_num (most : Int) (n : Nat) (ids r : List Int) (h : (n : Int) ≤ most) (hm : n < 18446744073709551616) (hl : ids.length = 32 * n) (hr : Rising n ids) : readI most (listS n ids ++ r) = some (n, ids, (listS n ids).length) := by
  unfold readI listS
  rw [List.append_assoc, read_num _ (by omega) (by omega)]
  simp only [List.length_append]
  rw [List.drop_left, show ((n : Int)).toNat = n from rfl, ← hl, List.take_left, if_pos ⟨h, by omega, hr⟩]
theorem readI_inv {most : Int} {b : List Int} (hB : Bd .u8 b) {n : Nat} {ids : List Int} {u : Nat} (h : readI most b = some (n, ids, u)) : (n : Int) ≤ most ∧ u ≤ b.length ∧ ids.length = 32 * n ∧ Rising n ids ∧ b = listS n ids ++ b.drop u ∧ u = (listS n ids).length ∧ n < 18446744073709551616 := by
  unfold readI at h
  split at h
  · rename_i m v hr
    obtain ⟨h0, h1, h2, h3, h4⟩ := read_inv hB hr
    split at h
    · rename_i hc
      simp only [Option.some.injEq, Prod.mk.injEq] at h
      obtain ⟨rfl, rfl, rfl⟩ := h
      have hl : ((b.drop v).take (32 * m.toNat)).length = 32 * m.toNat := by rw [List.length_take, List.length_drop]; omega
      unfold listS
      rw [List.length_append, hl, show (m.toNat : Int) = m by omega]
      refine ⟨hc.1, by omega, rfl, hc.2.2, ?_, by omega, by omega⟩
      conv => lhs; rw [h3]
      rw [List.append_assoc]
      congr 1
      rw [← List.drop_drop, List.take_append_drop]
    · cases h
  · cases h
end Go.Proofs.YtiohpiiiapjblaaGreatDoor.S
namespace Go.Proofs.YtiohpiiiapjblaaGreatDoor.S
open G
def unzig (z : Int) : Int := if z % 2 = 0 then z / 2 else - (z / 2) - 1
theorem unzig_zig (n : Int) : unzig (zig n) = n := by unfold unzig zig; repeat' split <;> omega
theorem zig_unzig (z : Int) (h : 0 ≤ z) : zig (unzig z) = z := by unfold unzig zig; repeat' split <;> omega
theorem unzig_bd (z : Int) (h : 0 ≤ z ∧ z < 18446744073709551616) : -9223372036854775808 ≤ unzig z ∧ unzig z ≤ 9223372036854775807 := by unfold unzig; split <;> omega
theorem be8_rev (n : Int) : be8 n = (leK 8 n).reverse := by
  apply List.ext_getElem
  · rw [be8_len, List.length_reverse, leK_len]
  intro i h1 h2
  rw [be8_len] at h1
  have g1 := be8_get n i h1
  have g2 := leK_get 8 n (7 - i) (by omega)
  rw [List.getD_eq_getElem?_getD, List.getElem?_eq_getElem (by rw [be8_len]; exact h1), Option.getD_some] at g1
  rw [List.getD_eq_getElem?_getD, List.getElem?_eq_getElem (by rw [leK_len]; omega), Option.getD_some] at g2
  have e : (leK 8 n).length - 1 - i = 7 - i := by rw [leK_len]
  rw [g1, List.getElem_reverse]
  simp only [e]
  rw [g2, show 8 * (7 - i) = 56 - 8 * i by omega]
theorem be_be8 (n : Int) (h : 0 ≤ n ∧ n < 18446744073709551616) : be (be8 n) = n := by
  rw [be8_rev]
  exact be_rev 8 n h.1 (by simp; omega)
theorem be8_be (xs : List Int) (hB : Bd .u8 xs) (hl : xs.length = 8) : be8 (be xs) = xs := by
  have := le_be xs.reverse fun y hy => hB y (List.mem_reverse.1 hy)
  rw [List.reverse_reverse, List.length_reverse, hl] at this
  rw [be8_rev, this, List.reverse_reverse]
/-- What of a value is read behind its kind. -/
def valR (k : Int) (r : List Int) : Option (Int × Int × ByteArray × Nat) :=
  if k = 1 then (readN r).bind fun x => some (unzig x.1, 0, ByteArray.empty, x.2)
  else if k = 2 then (if r.length < 8 then none else some (0, be (r.take 8), ByteArray.empty, 8))
  else if k = 3 then (readB 30 r).bind fun x => some (0, 0, strOfNums x.1, x.2)
  else some (0, 0, ByteArray.empty, 0)
/-- A value that is read. -/
def valD (b : List Int) : Option (Int × Int × Int × ByteArray × Nat) :=
  match b with
  | [] => none
  | k :: r => (valR k r).bind fun x => if FineV k x.1 x.2.1 x.2.2.1 then some (k, x.1, x.2.1, x.2.2.1, x.2.2.2 + 1) else none
theorem val_num {k num bits : Int} {t : ByteArray} (r : List Int) (hF : FineV k num bits t) (hn : -9223372036854775808 ≤ num ∧ num ≤ 9223372036854775807) (hb : 0 ≤ bits ∧ bits < 18446744073709551616) :
    valD (valS k num bits t ++ r) = some (k, num, bits, t, (valS k num bits t).length) := by
  have hF' := hF
  rcases hF with ⟨rfl, rfl, rfl⟩ | ⟨rfl, rfl, rfl, hc⟩ | ⟨rfl, rfl, rfl, ht, ha⟩
  · have hz := zig_bd num hn
    simp only [valS, if_true, List.cons_append, List.nil_append, valD, valR]
    rw [read_num _ hz.1 hz.2]
    simp only [Option.bind_some, unzig_zig, if_pos hF', List.length_cons]
  · simp only [valS, show ¬ (2 : Int) = 1 by decide, if_true, if_false, List.cons_append, List.nil_append, valD, valR, List.length_append, be8_len]
    rw [if_neg (by omega), List.take_append_of_le_length (by rw [be8_len]; exact Nat.le_refl _), List.take_of_length_le (by rw [be8_len]; exact Nat.le_refl _), be_be8 _ hb]
    simp only [Option.bind_some, if_pos hF', List.length_cons, be8_len]
  · simp only [valS, show ¬ (3 : Int) = 1 by decide, show ¬ (3 : Int) = 2 by decide, if_true, if_false, List.cons_append, List.nil_append, valD, valR]
    have := readB_num 30 (bys t) r (by rw [bys_len]; omega) (by rw [bys_len]; omega)
    rw [bys_len] at this
    rw [this]
    simp only [Option.bind_some, strOf_bys, if_pos hF', List.length_cons, List.length_append, bys_len]
theorem val_inv {b : List Int} (hB : Bd .u8 b) {k num bits : Int} {t : ByteArray} {u : Nat} (h : valD b = some (k, num, bits, t, u)) :
    FineV k num bits t ∧ (0 ≤ k ∧ k < 256) ∧ (-9223372036854775808 ≤ num ∧ num ≤ 9223372036854775807) ∧ (0 ≤ bits ∧ bits < 18446744073709551616) ∧ u ≤ b.length ∧ b = valS k num bits t ++ b.drop u ∧ u = (valS k num bits t).length := by
  cases b with
  | nil => cases h
  | cons x r =>
    have hx := hB x List.mem_cons_self
    have hr : Bd .u8 r := fun y hy => hB y (List.mem_cons_of_mem _ hy)
    simp only [lim] at hx
    simp only [valD, Option.bind_eq_some_iff] at h
    obtain ⟨⟨n, c, s, v⟩, h1, h2⟩ := h
    simp only at h2
    split at h2
    · rename_i hF
      simp only [Option.some.injEq, Prod.mk.injEq] at h2
      obtain ⟨rfl, rfl, rfl, rfl, rfl⟩ := h2
      refine ⟨hF, hx, ?_⟩
      rw [List.drop_succ_cons]
      unfold valR at h1
      unfold valS
      split at h1
      · rename_i h
        simp only [Option.bind_eq_some_iff, Option.some.injEq, Prod.mk.injEq] at h1
        obtain ⟨⟨m, w⟩, h1, rfl, rfl, rfl, rfl⟩ := h1
        obtain ⟨q1, q2, q3, q4, q5⟩ := read_inv hr h1
        simp only at q3 q4 q5 ⊢
        rw [if_pos h, zig_unzig _ q1]
        refine ⟨unzig_bd _ ⟨q1, q2⟩, by decide, by simp; omega, ?_, by simp; omega⟩
        rw [List.cons_append, List.nil_append, List.cons_append, ← q4]
      · rename_i h
        rw [if_neg h]
        split at h1
        · rename_i h
          rw [if_pos h]
          split at h1
          · cases h1
          · simp only [Option.some.injEq, Prod.mk.injEq] at h1
            obtain ⟨rfl, rfl, rfl, rfl⟩ := h1
            have hb := be8_lt r 8 hr (Nat.le_refl _)
            rw [be8_be _ (hr.take 8) (by rw [List.length_take]; omega)]
            refine ⟨by decide, hb, by simp; omega, ?_, by simp; omega⟩
            rw [List.cons_append, List.nil_append, List.cons_append, List.take_append_drop]
        · rename_i h
          rw [if_neg h]
          split at h1
          · rename_i h
            rw [if_pos h]
            simp only [Option.bind_eq_some_iff, Option.some.injEq, Prod.mk.injEq] at h1
            obtain ⟨⟨m, w⟩, h1, rfl, rfl, rfl, rfl⟩ := h1
            obtain ⟨q1, q2, q3, q4⟩ := readB_inv hr h1
            have hm : Bd .u8 m := fun y hy => hr y (by rw [q3]; simp [hy])
            have hsz : (strOfNums m).size = m.length := by rw [← bys_len, bys_strOf _ hm]
            simp only at q2 q3 q4 ⊢
            rw [bys_strOf _ hm, hsz]
            refine ⟨by decide, by decide, by simp; omega, ?_, by simp; omega⟩
            rw [List.cons_append, List.nil_append, List.cons_append, ← q3]
          · rename_i h
            rcases hF with ⟨hk, _⟩ | ⟨hk, _⟩ | ⟨hk, _⟩ <;> contradiction
    · cases h2
/-- Readers that leave the rest. -/
def oneR (b : List Int) : Option (Int × List Int) :=
  match b with
  | [] => none
  | x :: t => some (x, t)
def numR (b : List Int) : Option (Int × List Int) := (readN b).bind fun r => some (r.1, b.drop r.2)
def idsR (b : List Int) : Option (Nat × List Int × List Int) := (readI 4 b).bind fun r => some (r.1, r.2.1, b.drop r.2.2)
def keyR (b : List Int) : Option (ByteArray × List Int) := (readB 20 b).bind fun r => some (strOfNums r.1, b.drop r.2)
structure ActV where
  (vk num bits : Int) (key t : ByteArray)
def valV (key : ByteArray) (b : List Int) : Option (ActV × List Int) := (valD b).bind fun r => some (⟨r.1, r.2.1, r.2.2.1, key, r.2.2.2.1⟩, b.drop r.2.2.2.2)
def actR (k : Int) (b : List Int) : Option (ActV × List Int) :=
  if k = 1 then some (⟨0, 0, 0, .empty, .empty⟩, b)
  else (keyR b).bind fun r => if k = 4 then valV r.1 r.2 else some (⟨0, 0, 0, r.1, .empty⟩, r.2)
/-- AN OPERATION THAT IS READ. -/
def decS (b : List Int) : Option OpV :=
  (oneR b).bind fun h => if h.1 = 111 then (numR h.2).bind fun a => (idsR a.2).bind fun l => (numR l.2.2).bind fun t => (oneR t.2).bind fun k => (actR k.1 k.2).bind fun x => (numR x.2).bind fun e => (numR e.2).bind fun s =>
    if s.2 = [] ∧ checkE ⟨a.1, t.1, k.1, x.1.vk, x.1.num, x.1.bits, e.1, s.1, l.1, l.2.1, x.1.key, x.1.t⟩ = 0 then some ⟨a.1, t.1, k.1, x.1.vk, x.1.num, x.1.bits, e.1, s.1, l.1, l.2.1, x.1.key, x.1.t⟩ else none
  else none
theorem num_R (n : Int) (h0 : 0 ≤ n) (h1 : n < 18446744073709551616) (r : List Int) : numR (numS n ++ r) = some (n, r) := by
  unfold numR
  rw [read_num n h0 h1]
  simp
theorem numR_inv {b : List Int} (hB : Bd .u8 b) {n : Int} {r : List Int} (h : numR b = some (n, r)) : 0 ≤ n ∧ n < 18446744073709551616 ∧ b = numS n ++ r ∧ Bd .u8 r := by
  simp only [numR, Option.bind_eq_some_iff, Option.some.injEq, Prod.mk.injEq] at h
  obtain ⟨⟨m, u⟩, h, rfl, rfl⟩ := h
  obtain ⟨q1, q2, _, q4, _⟩ := read_inv hB h
  exact ⟨q1, q2, q4, hB.drop _⟩
theorem ids_R (n : Nat) (ids r : List Int) (h : n ≤ 4) (hl : ids.length = 32 * n) (hr : Rising n ids) : idsR (listS n ids ++ r) = some (n, ids, r) := by
  unfold idsR
  rw [readI_num 4 n ids r (by omega) (by omega) hl hr]
  simp
theorem idsR_inv {b : List Int} (hB : Bd .u8 b) {n : Nat} {ids r : List Int} (h : idsR b = some (n, ids, r)) : n ≤ 4 ∧ ids.length = 32 * n ∧ Rising n ids ∧ b = listS n ids ++ r ∧ Bd .u8 r := by
  simp only [idsR, Option.bind_eq_some_iff, Option.some.injEq, Prod.mk.injEq] at h
  obtain ⟨⟨m, s, u⟩, h, rfl, rfl, rfl⟩ := h
  obtain ⟨q1, _, q3, q4, q5, _⟩ := readI_inv hB h
  exact ⟨by omega, q3, q4, q5, hB.drop _⟩
theorem key_R (s : ByteArray) (r : List Int) (h : s.size ≤ 20) : keyR ((numS s.size ++ bys s) ++ r) = some (s, r) := by
  unfold keyR
  have := readB_num 20 (bys s) r (by rw [bys_len]; omega) (by rw [bys_len]; omega)
  rw [bys_len] at this
  rw [this]
  simp only [Option.bind_some, strOf_bys]
  rw [← bys_len s, ← List.length_append, List.drop_left]
theorem keyR_inv {b : List Int} (hB : Bd .u8 b) {s : ByteArray} {r : List Int} (h : keyR b = some (s, r)) : s.size ≤ 20 ∧ b = (numS s.size ++ bys s) ++ r ∧ Bd .u8 r := by
  simp only [keyR, Option.bind_eq_some_iff, Option.some.injEq, Prod.mk.injEq] at h
  obtain ⟨⟨m, u⟩, h, rfl, rfl⟩ := h
  obtain ⟨q1, q2, q3, q4⟩ := readB_inv hB h
  have hm : Bd .u8 m := fun y hy => hB y (by rw [q3]; simp [hy])
  have hsz : (strOfNums m).size = m.length := by rw [← bys_len, bys_strOf _ hm]
  simp only at q3 q1 ⊢
  rw [bys_strOf _ hm, hsz]
  exact ⟨by omega, q3, hB.drop _⟩
theorem val_V {k num bits : Int} {t : ByteArray} (key : ByteArray) (r : List Int) (hF : FineV k num bits t) (hn : -9223372036854775808 ≤ num ∧ num ≤ 9223372036854775807) (hb : 0 ≤ bits ∧ bits < 18446744073709551616) : valV key (valS k num bits t ++ r) = some (⟨k, num, bits, key, t⟩, r) := by
  unfold valV
  rw [val_num r hF hn hb]
  simp
theorem valV_inv {key : ByteArray} {b : List Int} (hB : Bd .u8 b) {x : ActV} {r : List Int} (h : valV key b = some (x, r)) :
    FineV x.vk x.num x.bits x.t ∧ x.key = key ∧ (0 ≤ x.vk ∧ x.vk < 256) ∧ (-9223372036854775808 ≤ x.num ∧ x.num ≤ 9223372036854775807) ∧ (0 ≤ x.bits ∧ x.bits < 18446744073709551616) ∧ b = valS x.vk x.num x.bits x.t ++ r ∧ Bd .u8 r := by
  simp only [valV, Option.bind_eq_some_iff, Option.some.injEq, Prod.mk.injEq] at h
  obtain ⟨⟨k, n, c, t, u⟩, h, rfl, rfl⟩ := h
  obtain ⟨q1, q2, q3, q4, _, q6, _⟩ := val_inv hB h
  exact ⟨q1, rfl, q2, q3, q4, q6, hB.drop _⟩
/-- The bytes of an act, behind its kind. -/
def actS (k : Int) (x : ActV) : List Int := if k = 1 then [] else (numS x.key.size ++ bys x.key) ++ (if k = 4 then valS x.vk x.num x.bits x.t else [])
theorem act_R (k : Int) (x : ActV) (r : List Int) (hF : FineAct k x.key x.vk x.num x.bits x.t) (hn : -9223372036854775808 ≤ x.num ∧ x.num ≤ 9223372036854775807) (hb : 0 ≤ x.bits ∧ x.bits < 18446744073709551616) : actR k (actS k x ++ r) = some (x, r) := by
  obtain ⟨vk, num, bits, key, t⟩ := x
  unfold actR actS
  rcases hF with ⟨rfl, rfl, rfl, rfl, rfl, rfl⟩ | ⟨hk, hK, rfl, rfl, rfl, rfl⟩ | ⟨rfl, hK, hV⟩
  · simp
  · rw [if_neg (by omega), if_neg (by omega), if_neg (by omega), List.append_nil, key_R _ _ hK.2.1]
    simp only [Option.bind_some]
    rw [if_neg (by omega)]
  · rw [if_neg (by omega), if_neg (by omega), if_pos rfl, List.append_assoc, key_R _ _ hK.2.1]
    simp only [Option.bind_some, if_true]
    exact val_V _ _ hV hn hb
theorem actR_inv {k : Int} {b : List Int} (hB : Bd .u8 b) {x : ActV} {r : List Int} (h : actR k b = some (x, r)) :
    (0 ≤ x.vk ∧ x.vk < 256) ∧ (-9223372036854775808 ≤ x.num ∧ x.num ≤ 9223372036854775807) ∧ (0 ≤ x.bits ∧ x.bits < 18446744073709551616) ∧ b = actS k x ++ r ∧ Bd .u8 r := by
  unfold actR at h
  unfold actS
  split at h
  · rename_i hk
    simp only [Option.some.injEq, Prod.mk.injEq] at h
    obtain ⟨rfl, rfl⟩ := h
    exact ⟨by decide, by decide, by decide, by rw [if_pos hk]; rfl, hB⟩
  · rename_i hk
    simp only [Option.bind_eq_some_iff] at h
    obtain ⟨⟨s, q⟩, h1, h⟩ := h
    obtain ⟨p1, p2, p3⟩ := keyR_inv hB h1
    rw [if_neg hk]
    simp only at h
    split at h
    · rename_i h4
      obtain ⟨_, q2, q3, q4, q5, q6, q7⟩ := valV_inv p3 h
      rw [if_pos h4]
      refine ⟨q3, q4, q5, ?_, q7⟩
      rw [q2, List.append_assoc, ← q6, ← p2]
    · rename_i h4
      simp only [Option.some.injEq, Prod.mk.injEq] at h
      obtain ⟨rfl, rfl⟩ := h
      exact ⟨⟨Int.le_refl 0, (by decide : (0 : Int) < 256)⟩, ⟨(by decide : -9223372036854775808 ≤ (0 : Int)), (by decide : (0 : Int) ≤ 9223372036854775807)⟩, ⟨Int.le_refl 0, (by decide : (0 : Int) < 18446744073709551616)⟩, by rw [if_neg h4, List.append_nil]; exact p2, p3⟩
def OpV.act (o : OpV) : ActV := ⟨o.vk, o.num, o.bits, o.key, o.t⟩
theorem enc_eq (o : OpV) : encS o = 111 :: (numS o.au ++ (listS o.n o.ids ++ (numS o.st ++ (o.k :: (actS o.k o.act ++ (numS o.e ++ numS o.s)))))) := by
  simp only [encS, msgS, actS, OpV.act, List.append_assoc, List.cons_append, List.nil_append]
theorem oneR_inv {b : List Int} (hB : Bd .u8 b) {x : Int} {r : List Int} (h : oneR b = some (x, r)) : b = x :: r ∧ (0 ≤ x ∧ x < 256) ∧ Bd .u8 r := by
  cases b with
  | nil => cases h
  | cons y t =>
    simp only [oneR, Option.some.injEq, Prod.mk.injEq] at h
    obtain ⟨rfl, rfl⟩ := h
    exact ⟨rfl, hB _ List.mem_cons_self, fun z hz => hB z (List.mem_cons_of_mem _ hz)⟩
/-- What the bytes of a valid operation are read as. -/
theorem dec_enc {o : OpV} (ho : o.rng) (hl : o.ids.length = 32 * o.n) (hc : checkE o = 0) : decS (encS o) = some o := by
  obtain ⟨c1, c2, c3⟩ := check_zero.1 hc
  have h1 := ho.au
  have h2 := ho.e
  have h3 := ho.s
  unfold decS
  rw [enc_eq]
  simp only [oneR, Option.bind_some, if_true]
  rw [num_R _ h1.1 (by omega)]
  simp only [Option.bind_some]
  rw [ids_R _ _ _ c1 hl c2]
  simp only [Option.bind_some]
  rw [num_R _ ho.st.1 ho.st.2]
  simp only [Option.bind_some]
  rw [act_R o.k o.act _ c3.2.2.2.2 ho.num ho.bits]
  simp only [Option.bind_some]
  rw [num_R _ h2.1 (by omega)]
  simp only [Option.bind_some]
  rw [show numS o.s = numS o.s ++ [] from (List.append_nil _).symm, num_R _ h3.1 (by omega)]
  simp only [Option.bind_some]
  exact if_pos ⟨trivial, hc⟩
theorem dec_inv {b : List Int} (hB : Bd .u8 b) {o : OpV} (h : decS b = some o) : o.rng ∧ o.ids.length = 32 * o.n ∧ checkE o = 0 ∧ b = encS o := by
  simp only [decS, Option.bind_eq_some_iff] at h
  obtain ⟨⟨x, r⟩, h1, h⟩ := h
  split at h
  · rename_i hx
    simp only at hx
    subst hx
    simp only [Option.bind_eq_some_iff] at h
    obtain ⟨⟨a, r1⟩, h2, ⟨n, ids, r2⟩, h3, ⟨t, r3⟩, h4, ⟨k, r4⟩, h5, ⟨y, r5⟩, h6, ⟨e, r6⟩, h7, ⟨s, r7⟩, h8, h⟩ := h
    dsimp only at h2 h3 h4 h5 h6 h7 h8
    obtain ⟨rfl, _, B1⟩ := oneR_inv hB h1
    obtain ⟨a1, a2, rfl, B2⟩ := numR_inv B1 h2
    obtain ⟨n1, n2, n3, rfl, B3⟩ := idsR_inv B2 h3
    obtain ⟨t1, t2, rfl, B4⟩ := numR_inv B3 h4
    obtain ⟨rfl, k1, B5⟩ := oneR_inv B4 h5
    obtain ⟨y1, y2, y3, rfl, B6⟩ := actR_inv B5 h6
    obtain ⟨e1, e2, rfl, B7⟩ := numR_inv B6 h7
    obtain ⟨s1, s2, rfl, B8⟩ := numR_inv B7 h8
    simp only at h
    split at h
    · rename_i hz
      obtain ⟨rfl, hz⟩ := hz
      simp only [Option.some.injEq] at h
      subst h
      obtain ⟨c1, c2, c3, c4, c5, c6, c7⟩ := check_zero.1 hz
      have := (isG_bd c3).2
      simp only at c5 c6 this
      refine ⟨⟨⟨a1, by show a < 4294967296; omega⟩, ⟨t1, t2⟩, k1, y1, y2, y3, ⟨e1, by show e < 4294967296; omega⟩, ⟨s1, by show s < 4294967296; omega⟩⟩, n2, hz, ?_⟩
      rw [enc_eq, List.append_nil]
      rfl
    · cases h
  · cases h
end Go.Proofs.YtiohpiiiapjblaaGreatDoor.S
namespace Go.Proofs.YtiohpiiiapjblaaGreatDoor.S
open G
/-- An operation with another signature. -/
def OpV.sig (o : OpV) (e s : Int) : OpV := { o with e := e, s := s }
theorem OpV.sig_ok {o : OpV} (h : o.ok) {e s : Int} (he : 0 ≤ e ∧ e < 4294967296) (hs : 0 ≤ s ∧ s < 4294967296) : (o.sig e s).ok := ⟨h.au, h.st, h.k, h.vk, h.num, h.bits, he, hs, h.n, h.key, h.t⟩
/-- A state of the reader: whether an error was met, and what is left. -/
def numB (most : Int) (bad : Bool) (b : List Int) : Int × Bool × List Int :=
  match numR b with
  | some x => (x.1, bad || decide (most < x.1), x.2)
  | none => (0, true, b)
def oneB (bad : Bool) (b : List Int) : Int × Bool × List Int :=
  if bad then (0, true, b) else match b with
  | [] => (0, true, [])
  | x :: t => (x, false, t)
def idsB (bad : Bool) (b : List Int) : Nat × List Int × Bool × List Int :=
  match idsR b with
  | some x => (x.1, x.2.1, bad, x.2.2)
  | none => (0, [], true, b)
def keyB (bad : Bool) (b : List Int) : ByteArray × Bool × List Int :=
  match keyR b with
  | some x => (x.1, bad, x.2)
  | none => (.empty, true, b)
def valB (key : ByteArray) (bad : Bool) (b : List Int) : ActV × Bool × List Int :=
  match valV key b with
  | some x => (x.1, bad, x.2)
  | none => (⟨0, 0, 0, key, .empty⟩, true, b)
def actB (k : Int) (bad : Bool) (b : List Int) : ActV × Bool × List Int :=
  if k = 1 then (⟨0, 0, 0, .empty, .empty⟩, bad, b)
  else if k = 4 then valB (keyB bad b).1 (keyB bad b).2.1 (keyB bad b).2.2
  else (⟨0, 0, 0, (keyB bad b).1, .empty⟩, (keyB bad b).2.1, (keyB bad b).2.2)
theorem numB_ok {m : Int} {bad : Bool} {b : List Int} (h : (numB m bad b).2.1 = false) : bad = false ∧ numR b = some ((numB m bad b).1, (numB m bad b).2.2) ∧ (numB m bad b).1 ≤ m := by
  unfold numB at *
  cases hn : numR b with
  | none => rw [hn] at h; cases h
  | some x =>
    rw [hn] at h
    simp only [Bool.or_eq_false_iff, decide_eq_false_iff_not] at h ⊢
    exact ⟨h.1, trivial, by omega⟩
theorem oneB_ok {bad : Bool} {b : List Int} (h : (oneB bad b).2.1 = false) : bad = false ∧ oneR b = some ((oneB bad b).1, (oneB bad b).2.2) := by
  unfold oneB oneR at *
  cases bad with
  | true => simp at h
  | false =>
    cases b with
    | nil => simp at h
    | cons x t => exact ⟨rfl, rfl⟩
theorem idsB_ok {bad : Bool} {b : List Int} (h : (idsB bad b).2.2.1 = false) : bad = false ∧ idsR b = some ((idsB bad b).1, (idsB bad b).2.1, (idsB bad b).2.2.2) := by
  unfold idsB at *
  cases hn : idsR b with
  | none => rw [hn] at h; cases h
  | some x => rw [hn] at h; exact ⟨h, rfl⟩
theorem keyB_ok {bad : Bool} {b : List Int} (h : (keyB bad b).2.1 = false) : bad = false ∧ keyR b = some ((keyB bad b).1, (keyB bad b).2.2) := by
  unfold keyB at *
  cases hn : keyR b with
  | none => rw [hn] at h; cases h
  | some x => rw [hn] at h; exact ⟨h, rfl⟩
theorem valB_ok {key : ByteArray} {bad : Bool} {b : List Int} (h : (valB key bad b).2.1 = false) : bad = false ∧ valV key b = some ((valB key bad b).1, (valB key bad b).2.2) := by
  unfold valB at *
  cases hn : valV key b with
  | none => rw [hn] at h; cases h
  | some x => rw [hn] at h; exact ⟨h, rfl⟩
theorem actB_ok {k : Int} {bad : Bool} {b : List Int} (h : (actB k bad b).2.1 = false) : bad = false ∧ actR k b = some ((actB k bad b).1, (actB k bad b).2.2) := by
  unfold actB at *
  unfold actR
  by_cases h1 : k = 1
  · simp only [if_pos h1] at h ⊢; exact ⟨h, trivial⟩
  · simp only [if_neg h1] at h ⊢
    by_cases h4 : k = 4
    · simp only [if_pos h4] at h ⊢
      obtain ⟨q1, q2⟩ := valB_ok h
      obtain ⟨q3, q4⟩ := keyB_ok q1
      rw [q4]
      exact ⟨q3, q2⟩
    · simp only [if_neg h4] at h ⊢
      obtain ⟨q3, q4⟩ := keyB_ok h
      rw [q4]
      exact ⟨q3, rfl⟩
theorem numB_num (m n : Int) (h0 : 0 ≤ n) (h1 : n < 18446744073709551616) (hm : n ≤ m) (r : List Int) : numB m false (numS n ++ r) = (n, false, r) := by
  unfold numB
  rw [num_R n h0 h1]
  simp [hm]
theorem actB_act {k : Int} {x : ActV} {b r : List Int} (h : actR k b = some (x, r)) : actB k false b = (x, false, r) := by
  unfold actR at h
  unfold actB
  split at h
  · rename_i h1
    rw [if_pos h1]
    simp only [Option.some.injEq, Prod.mk.injEq] at h
    rw [h.1, h.2]
  · rename_i h1
    rw [if_neg h1]
    simp only [Option.bind_eq_some_iff] at h
    obtain ⟨⟨s, q⟩, h2, h⟩ := h
    have e : keyB false b = (s, false, q) := by unfold keyB; rw [h2]
    rw [e]
    simp only at h ⊢
    split at h
    · rename_i h4
      rw [if_pos h4]
      unfold valB
      rw [h]
    · rename_i h4
      rw [if_neg h4]
      simp only [Option.some.injEq, Prod.mk.injEq] at h
      rw [h.1, h.2]
/-- What the program reads, step by step. -/
structure Steps (b : List Int) where
  (h : Int × Bool × List Int) (a : Int × Bool × List Int) (l : Nat × List Int × Bool × List Int) (t k : Int × Bool × List Int) (x : ActV × Bool × List Int) (e s : Int × Bool × List Int)
  eh : h = oneB false b
  ea : a = numB 1000000007 h.2.1 h.2.2
  el : l = idsB a.2.1 a.2.2
  et : t = numB 1000000000000 l.2.2.1 l.2.2.2
  ek : k = oneB t.2.1 t.2.2
  ex : x = actB k.1 k.2.1 k.2.2
  ee : e = numB 500000003 x.2.1 x.2.2
  es : s = numB 500000003 e.2.1 e.2.2
def Steps.op {b : List Int} (p : Steps b) : OpV := ⟨p.a.1 % 4294967296, p.t.1, p.k.1, p.x.1.vk, p.x.1.num, p.x.1.bits, p.e.1 % 4294967296, p.s.1 % 4294967296, p.l.1, p.l.2.1, p.x.1.key, p.x.1.t⟩
/-- All was read: the operation. -/
theorem Steps.good {b : List Int} (hB : Bd .u8 b) (p : Steps b) (h0 : p.h.1 = 111) (h1 : p.s.2.1 = false) (h2 : p.s.2.2 = []) (h3 : checkE p.op = 0) : decS b = some p.op := by
  obtain ⟨h, a, l, t, k, x, e, s, eh, ea, el, et, ek, ex, ee, es⟩ := p
  simp only [Steps.op] at *
  subst es
  obtain ⟨b7, r7, m7⟩ := numB_ok h1
  subst ee
  obtain ⟨b6, r6, m6⟩ := numB_ok b7
  subst ex
  obtain ⟨b5, r5⟩ := actB_ok b6
  subst ek
  obtain ⟨b4, r4⟩ := oneB_ok b5
  subst et
  obtain ⟨b3, r3, m3⟩ := numB_ok b4
  subst el
  obtain ⟨b2, r2⟩ := idsB_ok b3
  subst ea
  obtain ⟨b1, r1, m1⟩ := numB_ok b2
  subst eh
  obtain ⟨_, r0⟩ := oneB_ok b1
  obtain ⟨_, _, B1⟩ := oneR_inv hB r0
  obtain ⟨z1, _, _, B2⟩ := numR_inv B1 r1
  obtain ⟨_, _, _, _, B3⟩ := idsR_inv B2 r2
  obtain ⟨_, _, _, B4⟩ := numR_inv B3 r3
  obtain ⟨_, _, B5⟩ := oneR_inv B4 r4
  obtain ⟨_, _, _, _, B6⟩ := actR_inv B5 r5
  obtain ⟨z6, _, _, B7⟩ := numR_inv B6 r6
  obtain ⟨z7, _, _, _⟩ := numR_inv B7 r7
  rw [Int.emod_eq_of_lt z1 (by omega), Int.emod_eq_of_lt z6 (by omega), Int.emod_eq_of_lt z7 (by omega)] at h3 ⊢
  unfold decS
  simp only [r0, Option.bind_some, h0, if_true, r1, r2, r3, r4, r5, r6, r7, h2, h3, and_self]
/-- What is read is found by the steps. -/
theorem Steps.bad {b : List Int} (hB : Bd .u8 b) (p : Steps b) {o : OpV} (hd : decS b = some o) : p.h.1 = 111 ∧ p.s.2.1 = false ∧ p.s.2.2 = [] ∧ checkE p.op = 0 := by
  obtain ⟨q1, q2, q3, rfl⟩ := dec_inv hB hd
  obtain ⟨c1, c2, c3⟩ := check_zero.1 q3
  obtain ⟨h, a, l, t, k, x, e, s, eh, ea, el, et, ek, ex, ee, es⟩ := p
  have g1 := (isG_bd c3.1).2
  have g2 := q1.au
  have g3 := q1.e
  have g4 := q1.s
  have g5 := c3.2.2.1
  have g6 := c3.2.2.2.1
  rw [enc_eq] at eh
  have eh' : h = (111, false, numS o.au ++ (listS o.n o.ids ++ (numS o.st ++ (o.k :: (actS o.k o.act ++ (numS o.e ++ numS o.s)))))) := eh
  subst eh'
  have ea' := ea.trans (numB_num 1000000007 o.au g2.1 (by omega) (by omega) _)
  subst ea'
  have el' : l = (o.n, o.ids, false, numS o.st ++ (o.k :: (actS o.k o.act ++ (numS o.e ++ numS o.s)))) := by
    rw [el]
    unfold idsB
    simp only
    rw [ids_R _ _ _ c1 q2 c2]
  subst el'
  have et' := et.trans (numB_num 1000000000000 o.st q1.st.1 q1.st.2 c3.2.1 _)
  subst et'
  have ek' : k = (o.k, false, actS o.k o.act ++ (numS o.e ++ numS o.s)) := ek
  subst ek'
  have ex' := ex.trans (actB_act (act_R o.k o.act _ c3.2.2.2.2 q1.num q1.bits))
  subst ex'
  have ee' := ee.trans (numB_num 500000003 o.e g3.1 (by omega) (by omega) _)
  subst ee'
  have es' := es.trans (by
    show _ = (o.s, false, [])
    have := numB_num 500000003 o.s g4.1 (by omega) (by omega) []
    rw [List.append_nil] at this
    exact this)
  subst es'
  refine ⟨rfl, rfl, rfl, ?_⟩
  simp only [Steps.op]
  rw [Int.emod_eq_of_lt g2.1 g2.2, Int.emod_eq_of_lt g3.1 g3.2, Int.emod_eq_of_lt g4.1 g4.2]
  exact q3
end Go.Proofs.YtiohpiiiapjblaaGreatDoor.S
namespace Go.Proofs.YtiohpiiiapjblaaGreatDoor.S
open G
def rdV (b : List Int) : Int := match readN b with | some r => r.1 | none => 0
def rdU (b : List Int) : Nat := match readN b with | some r => r.2 | none => 0
def rdE (b : List Int) : Int := match readN b with | some _ => 0 | none => 12
theorem rd_none {b : List Int} (h : readN b = none) : rdV b = 0 ∧ rdU b = 0 ∧ rdE b = 12 := by unfold rdV rdU rdE; rw [h]; exact ⟨rfl, rfl, rfl⟩
theorem rd_some {b : List Int} {n : Int} {u : Nat} (h : readN b = some (n, u)) : rdV b = n ∧ rdU b = u ∧ rdE b = 0 := by unfold rdV rdU rdE; rw [h]; exact ⟨rfl, rfl, rfl⟩
theorem rd_zero {b : List Int} (h : rdE b = 0) : readN b = some (rdV b, rdU b) := by
  unfold rdE at h
  split at h
  · rename_i r hr
    unfold rdV rdU
    rw [hr]
  · cases h
theorem rd_bad {b : List Int} (h : rdE b ≠ 0) : readN b = none := by
  unfold rdE at h
  split at h
  · exact absurd rfl h
  · assumption
theorem rd_bd {b : List Int} (hB : Bd .u8 b) : (0 ≤ rdV b ∧ rdV b < 18446744073709551616) ∧ rdU b ≤ b.length ∧ rdU b ≤ 9 ∧ (rdE b = 0 ∨ rdE b = 12) := by
  unfold rdV rdU rdE
  cases h : readN b with
  | none => simp
  | some r =>
    obtain ⟨n, u⟩ := r
    obtain ⟨q1, q2, q3, _, q5⟩ := read_inv hB h
    have := numS_len n
    simp only
    exact ⟨⟨q1, q2⟩, q3, by omega, .inl trivial⟩
theorem readN_none {b : List Int} (h : b.length = 0 ∨ (247 < b.getD 0 0 ∧ ((b.length : Int) ≤ b.getD 0 0 - 247 ∨ b.getD 1 0 = 0 ∨ (b.getD 0 0 - 247 = 1 ∧ b.getD 1 0 ≤ 247)))) : readN b = none := by
  cases b with
  | nil => rfl
  | cons x t =>
    simp only [List.length_cons, List.getD_cons_zero, List.getD_cons_succ] at h
    unfold readN
    simp only
    rw [if_neg (by omega), if_pos (by omega)]
theorem readN_one {b : List Int} (h0 : b.length ≠ 0) (h : b.getD 0 0 ≤ 247) : readN b = some (b.getD 0 0, 1) := by
  cases b with
  | nil => exact absurd rfl h0
  | cons x t =>
    simp only [List.getD_cons_zero] at h ⊢
    unfold readN
    simp only
    rw [if_pos h]
theorem readN_many {b : List Int} {k : Int} {i : Nat} {v : Int} (h0 : b.length ≠ 0) (hk : k = b.getD 0 0 - 247) (h1 : 0 < k) (h2 : ¬ (b.length : Int) ≤ k) (h3 : b.getD 1 0 ≠ 0) (h4 : ¬ (k = 1 ∧ b.getD 1 0 ≤ 247)) (hi : i = k.toNat) (hv : v = be (((b.drop 1).take k.toNat).take i)) : readN b = some (v, (k + 1).toNat) := by
  cases b with
  | nil => exact absurd rfl h0
  | cons x t =>
    simp only [List.length_cons, List.getD_cons_zero, List.getD_cons_succ, List.drop_succ_cons, List.drop_zero] at *
    unfold readN
    simp only
    rw [if_neg (by omega), if_neg (by omega), hv, hi, List.take_take, Nat.min_self, hk, show (x - 247 + 1).toNat = (x - 247).toNat + 1 by omega]
theorem be_next (xs : List Int) (i : Nat) (hB : Bd .u8 xs) (hi : i < 8) (hl : i < xs.length) : ior (be (xs.take i) * 2 ^ (8 : Int).toNat % 18446744073709551616) (xs.getD i 0) = be (xs.take (i + 1)) := by
  have hb := be_bd _ (hB.take i)
  have hx := hB.get i
  simp only [lim] at hx
  have hp : (256 : Int) ^ (xs.take i).length ≤ 256 ^ 7 := pow256 (by simp; omega)
  have h256 : (256 : Int) ^ 7 = 72057594037927936 := by decide
  have h8 : (2 : Int) ^ (8 : Int).toNat = 256 := by decide
  rw [take_snoc xs i hl, be_snoc, h8, Int.emod_eq_of_lt (by omega) (by omega)]
  exact ior_add _ _ hb.1 hx
/-- Parts that are read. -/
def ptOk (most wd : Nat) (b : List Int) : Prop := rdE b = 0 ∧ rdV b ≤ most ∧ rdV b ≤ ((b.length : Int) - rdU b) / wd
instance (most wd : Nat) (b : List Int) : Decidable (ptOk most wd b) := by unfold ptOk; infer_instance
def ptE (most wd : Nat) (b : List Int) : Int := if ptOk most wd b then 0 else 12
def ptU (most wd : Nat) (b : List Int) : Nat := if ptOk most wd b then rdU b + wd * (rdV b).toNat else 0
def ptS (most wd : Nat) (b : List Int) : List Int := if ptOk most wd b then (b.drop (rdU b)).take (wd * (rdV b).toNat) else []
theorem ptE_zero {most wd : Nat} {b : List Int} : ptE most wd b = 0 ↔ ptOk most wd b := by unfold ptE; split <;> simp_all
theorem pt_ok {most wd : Nat} {b : List Int} (h : ptOk most wd b) : ptE most wd b = 0 ∧ ptU most wd b = rdU b + wd * (rdV b).toNat ∧ ptS most wd b = (b.drop (rdU b)).take (wd * (rdV b).toNat) := by unfold ptE ptU ptS; rw [if_pos h, if_pos h, if_pos h]; exact ⟨rfl, rfl, rfl⟩
theorem pt_not {most wd : Nat} {b : List Int} (h : ¬ ptOk most wd b) : ptE most wd b = 12 ∧ ptU most wd b = 0 ∧ ptS most wd b = [] := by unfold ptE ptU ptS; rw [if_neg h, if_neg h, if_neg h]; exact ⟨rfl, rfl, rfl⟩
theorem pt_mul {most wd : Nat} {b : List Int} (hB : Bd .u8 b) (h : ptOk most wd b) (hw : 0 < wd) : wd * (rdV b).toNat + rdU b ≤ b.length := by
  obtain ⟨_, _, h3⟩ := h
  obtain ⟨h4, h5, _⟩ := rd_bd hB
  have h6 := (Int.le_ediv_iff_mul_le (show (0 : Int) < wd by omega)).1 h3
  have h7 : ((wd * (rdV b).toNat : Nat) : Int) = rdV b * wd := by rw [Int.natCast_mul, Int.toNat_of_nonneg h4.1, Int.mul_comm]
  omega
theorem ptS_len {most wd : Nat} {b : List Int} (hB : Bd .u8 b) (h : ptOk most wd b) (hw : 0 < wd) : (ptS most wd b).length = wd * (rdV b).toNat := by
  have := pt_mul hB h hw
  rw [(pt_ok h).2.2, List.length_take, List.length_drop]
  omega
theorem readB_pt (most : Nat) (b : List Int) : readB most b = if ptE most 1 b = 0 then some (ptS most 1 b, ptU most 1 b) else none := by
  by_cases h : ptOk most 1 b
  · obtain ⟨h1, h2, h3⟩ := h
    rw [if_pos (ptE_zero.2 ⟨h1, h2, h3⟩), (pt_ok ⟨h1, h2, h3⟩).2.1, (pt_ok ⟨h1, h2, h3⟩).2.2]
    unfold readB
    rw [rd_zero h1]
    simp only
    rw [if_pos (by omega), Nat.one_mul]
  · rw [if_neg (fun e => h (ptE_zero.1 e))]
    unfold readB
    split
    · rename_i n u hr
      obtain ⟨q1, q2, q3⟩ := rd_some hr
      rw [if_neg]
      intro hc
      exact h ⟨q3, by omega, by rw [q1, q2]; simp; omega⟩
    · rfl
theorem readI_pt (most : Nat) (b : List Int) (hB : Bd .u8 b) : readI most b = if ptE most 32 b = 0 ∧ Rising ((ptS most 32 b).length / 32) (ptS most 32 b) then some ((ptS most 32 b).length / 32, ptS most 32 b, ptU most 32 b) else none := by
  by_cases h : ptOk most 32 b
  · have hl := ptS_len hB h (by decide)
    have hb := (rd_bd hB).1
    obtain ⟨h1, h2, h3⟩ := h
    have hq := pt_ok ⟨h1, h2, h3⟩
    have hd : (ptS most 32 b).length / 32 = (rdV b).toNat := by rw [hl]; omega
    rw [hd, hq.2.2, hq.2.1]
    unfold readI
    rw [rd_zero h1]
    simp only
    have e : (rdV b ≤ (most : Int) ∧ rdV b ≤ ((b.length : Int) - (rdU b : Int)) / 32 ∧ Rising (rdV b).toNat ((b.drop (rdU b)).take (32 * (rdV b).toNat))) ↔ (ptE most 32 b = 0 ∧ Rising (rdV b).toNat ((b.drop (rdU b)).take (32 * (rdV b).toNat))) :=
      ⟨fun h => ⟨hq.1, h.2.2⟩, fun h => ⟨h2, h3, h.2⟩⟩
    simp only [e]
  · rw [if_neg (fun e => h (ptE_zero.1 e.1))]
    unfold readI
    split
    · rename_i n u hr
      obtain ⟨q1, q2, q3⟩ := rd_some hr
      rw [if_neg]
      intro hc
      exact h ⟨q3, by omega, by rw [q1, q2]; exact hc.2.1⟩
    · rfl
/-- What is returned for a list of ids. -/
def idN (most : Nat) (b : List Int) : Nat := match readI most b with | some r => r.1 | none => 0
def idL (most : Nat) (b : List Int) : List Int := match readI most b with | some r => r.2.1 | none => []
def idU (most : Nat) (b : List Int) : Nat := match readI most b with | some r => r.2.2 | none => 0
def idE (most : Nat) (b : List Int) : Int := match readI most b with | some _ => 0 | none => 12
theorem id_none {most : Nat} {b : List Int} (h : readI most b = none) : idN most b = 0 ∧ idL most b = [] ∧ idU most b = 0 ∧ idE most b = 12 := by unfold idN idL idU idE; rw [h]; exact ⟨rfl, rfl, rfl, rfl⟩
theorem id_some {most : Nat} {b : List Int} {n : Nat} {l : List Int} {u : Nat} (h : readI most b = some (n, l, u)) : idN most b = n ∧ idL most b = l ∧ idU most b = u ∧ idE most b = 0 := by unfold idN idL idU idE; rw [h]; exact ⟨rfl, rfl, rfl, rfl⟩
/-- What is returned for a value. -/
structure ValO where
  (k num bits : Int) (t : ByteArray) (u : Nat) (e : Int)
def vdS (b : List Int) : ValO := match valD b with | some r => ⟨r.1, r.2.1, r.2.2.1, r.2.2.2.1, r.2.2.2.2, 0⟩ | none => ⟨0, 0, 0, .empty, 0, 12⟩
theorem vd_none {b : List Int} (h : valD b = none) : vdS b = ⟨0, 0, 0, .empty, 0, 12⟩ := by unfold vdS; rw [h]
theorem vd_some {b : List Int} {k num bits : Int} {t : ByteArray} {u : Nat} (h : valD b = some (k, num, bits, t, u)) : vdS b = ⟨k, num, bits, t, u, 0⟩ := by unfold vdS; rw [h]
/-- What is returned for an operation. -/
def decO (b : List Int) : OpV := (decS b).getD OpV.zero
def decE (b : List Int) : Int := if (decS b).isSome then 0 else 12
theorem dec_none {b : List Int} (h : decS b = none) : decO b = OpV.zero ∧ decE b = 12 := by unfold decO decE; rw [h]; exact ⟨rfl, rfl⟩
theorem dec_some {b : List Int} {o : OpV} (h : decS b = some o) : decO b = o ∧ decE b = 0 := by unfold decO decE; rw [h]; exact ⟨rfl, rfl⟩
theorem dec_zero {b : List Int} (h : decE b = 0) : decS b = some (decO b) := by
  unfold decE at h
  unfold decO
  cases hd : decS b with
  | none => rw [hd] at h; cases h
  | some o => rfl
theorem dec_ne {b : List Int} (h : decE b ≠ 0) : decS b = none ∧ decE b = 12 := by
  unfold decE at h ⊢
  cases hd : decS b with
  | none => exact ⟨rfl, rfl⟩
  | some o => rw [hd] at h; exact absurd rfl h
theorem ptS_le (most wd : Nat) (b : List Int) : (ptS most wd b).length ≤ b.length := by
  unfold ptS
  split
  · rw [List.length_take, List.length_drop]; omega
  · simp
theorem pt_mulI {wd : Nat} {b : List Int} (hB : Bd .u8 b) : (wd : Int) * rdV b = ((wd * (rdV b).toNat : Nat) : Int) := by
  rw [Int.natCast_mul, Int.toNat_of_nonneg (rd_bd hB).1.1]
theorem div_bd (a b : Int) (ha : 0 ≤ a) (hb : 0 < b) : 0 ≤ a / b ∧ a / b ≤ a := ⟨Int.ediv_nonneg ha (by omega), Int.ediv_le_self b ha⟩
theorem copy_step (l : List Int) (i m : Nat) (h : l.length = 32 * m) (hi : i < m) : (l.take (32 * i) ++ List.replicate (32 * (m - i)) 0).take (0 + i * 32) ++ (l.drop (32 * i)).take 32 ++ (l.take (32 * i) ++ List.replicate (32 * (m - i)) 0).drop (0 + i * 32 + 32) = l.take (32 * (i + 1)) ++ List.replicate (32 * (m - (i + 1))) 0 := by
  have hl : (l.take (32 * i)).length = 32 * i := by rw [List.length_take]; omega
  rw [show 0 + i * 32 = 32 * i by omega, List.take_append_of_le_length (by omega), List.take_of_length_le (by omega), Nat.mul_add, Nat.mul_one, List.take_add]
  congr 1
  rw [List.drop_append, List.drop_of_length_le (by omega), List.nil_append, hl, List.drop_replicate]
  congr 1
  omega
theorem half_bd (n : Int) (h : 0 ≤ n ∧ n < 18446744073709551616) : (0 ≤ n / 2 ^ (1 : Int).toNat ∧ n / 2 ^ (1 : Int).toNat ≤ 9223372036854775807) ∧ 0 ≤ iand n 1 ∧ iand n 1 ≤ 1 := by
  have h2 : (2 : Int) ^ (1 : Int).toNat = 2 := by decide
  have ha : iand n 1 = n % 2 := by
    unfold iand
    rw [show (1 : Int).toNat = 1 from rfl, Nat.and_one_is_mod]
    omega
  rw [h2, ha]
  omega
theorem ptS_bd (most wd : Nat) (b : List Int) (hB : Bd .u8 b) : Bd .u8 (ptS most wd b) := by
  unfold ptS
  split
  · exact (hB.drop _).take _
  · exact Bd.nil _
theorem unzig_sxor (n : Int) (h : 0 ≤ n ∧ n < 18446744073709551616) : sxor .i64 (n / 2 ^ (1 : Int).toNat) (0 - iand n 1) = unzig n := by
  have h2 : (2 : Int) ^ (1 : Int).toNat = 2 := by decide
  have ha : iand n 1 = n % 2 := by
    unfold iand
    rw [show (1 : Int).toNat = 1 from rfl, Nat.and_one_is_mod]
    omega
  obtain ⟨a, hn⟩ : ∃ a : Nat, n / 2 = a := ⟨(n / 2).toNat, by omega⟩
  rw [h2, ha, hn]
  have e1 : (BitVec.ofInt 64 (a : Int)).toNat = a := ofInt_toNat 64 a (by omega) (by omega)
  unfold unzig
  by_cases hm : n % 2 = 0
  · rw [if_pos hm, hm, show (0 : Int) - 0 = 0 from rfl]
    have e2 : (BitVec.ofInt 64 (a : Int) ^^^ BitVec.ofInt 64 0).toNat = a := by rw [show BitVec.ofInt 64 0 = 0#64 by decide, BitVec.xor_zero, e1]
    show IntKind.i64.wrap ((BitVec.ofInt 64 (a : Int) ^^^ BitVec.ofInt 64 0).toNat : Nat) = n / 2
    rw [e2, W.i64 (by omega), hn]
  · rw [if_neg hm, show n % 2 = 1 by omega, show (0 : Int) - 1 = -1 from rfl]
    have e2 : (BitVec.ofInt 64 (a : Int) ^^^ BitVec.ofInt 64 (-1)).toNat = 2 ^ 64 - 1 - a := by rw [show BitVec.ofInt 64 (-1) = BitVec.allOnes 64 by decide, BitVec.xor_allOnes, BitVec.toNat_not, e1]
    show IntKind.i64.wrap ((BitVec.ofInt 64 (a : Int) ^^^ BitVec.ofInt 64 (-1)).toNat : Nat) = - (n / 2) - 1
    rw [e2, hn]
    have e3 : (((2 ^ 64 - 1 - a : Nat)) : Int) % 18446744073709551616 = 18446744073709551615 - a := by omega
    show (if IntKind.i64.signed && decide ((((2 ^ 64 - 1 - a : Nat)) : Int) % 18446744073709551616 ≥ 9223372036854775808) then (((2 ^ 64 - 1 - a : Nat)) : Int) % 18446744073709551616 - 18446744073709551616 else (((2 ^ 64 - 1 - a : Nat)) : Int) % 18446744073709551616) = - (a : Int) - 1
    rw [e3, if_pos (by simp [IntKind.signed]; omega)]
    omega
end Go.Proofs.YtiohpiiiapjblaaGreatDoor.S
namespace Go.Proofs.YtiohpiiiapjblaaGreatDoor.G
open Go.RowKit
section
variable {P : Program} {ops : Array Oper} {K : List Value → World → Prop} {rest : List Oper} {l : List Value} {w : World} {d : Tmp} {ty : TypeId} {pos : String} {af : Array Edge}
theorem Cells.take {b o n : Nat} {k : IntKind} {ys : List Int} (h : Cells w b o (ints k ys)) (hn : n ≤ ys.length) : Cells w b o (ints k (ys.take n)) := by
  intro j hj
  rw [ints_length, List.length_take] at hj
  rw [h j (by rw [ints_length]; omega), ints_getD _ _ _ (by omega), ints_getD _ _ _ (by rw [List.length_take]; omega)]
  simp [List.getD_eq_getElem?_getD, show j < n by omega]
/-- copy(s, t): s lies in a block of integers, t is at least as long. -/
theorem RS.copyA {x y : Operand} {t t2 e T : TypeId} {b o n cp m c2 : Nat} {a : Option Addr} {k : IntKind} {S : Nat → Prop} {xs ys : List Int} (hB : Blk w b (ints k xs) T) (hR : IRow k S w a m ys) (hx : ev l x = .slice (some ⟨b, o, none⟩) n cp) (hy : ev l y = .slice a m c2) (hu : P.underlying t = some (.slice e)) (hs : P.cellsOf e = 1) (h0 : 0 < n) (hn : n ≤ m) (ho : o + n ≤ xs.length)
    (h : ∀ w', St b w w' → Blk w' b (ints k (xs.take o ++ ys.take n ++ xs.drop (o + n))) T → RS P ops K rest (l.set d (.int .i64 n)) w') :
    RS P ops K (⟨some d, .call { callee := .builtin .copy, args := #[x, y], argTypes := #[t, t2] }, ty, pos, af, none⟩ :: rest) l w := by
  have hl := hR.len
  have hsz := size_run (P := P) (w := w) hs (by decide)
  rcases hR.row with he | ⟨b2, o2, rfl, _, hc⟩
  · have : ys.length = 0 := by rw [← ints_length (k := k), he]; rfl
    omega
  · have h1 : (loadCells ⟨b2, o2, none⟩ n).run P w = .ok (ints k (ys.take n)).toArray w := by
      have := loadFrom_run (P := P) _ (hc.take (n := n) (by omega)) n 0 #[] (by rw [ints_length, List.length_take]; omega)
      simpa [loadCells] using this
    obtain ⟨w1, h2, h3, h4⟩ := storeCells_blk (P := P) (o := o) (ints k (ys.take n)) 0 _ w hB (by simp [ints_length]; omega) cellB_ints
    have hrun : (execOp (ev l) ⟨some d, .call { callee := .builtin .copy, args := #[x, y], argTypes := #[t, t2] }, ty, pos, af, none⟩).run P w = .ok (.value (.int .i64 n)) w1 := by
      have hmin : Nat.min m n = n := Nat.min_eq_right hn
      simp [execOp, resolve, hx, hy, invoke, builtin, Builtin.copy_, run_underlying hu, Builtin.lenOf, hsz, Builtin.firstCells, hmin, h1, h2, goInt]
    refine RS.o hrun (h w1 h3 ?_) rfl
    rw [splice_eq _ _ _ (by simp [ints_length]; omega), Nat.add_zero, ints_take, ints_drop, ints_length, List.length_take, show min n ys.length = n by omega] at h4
    simpa [ints_append] using h4
end
theorem yielded_und {l0 : List Oper} {l : List Value} {j : Nat} {s : Nat} (hj : (l0[j]?).bind (·.dst) = some s) (hl : l.getD s undef = undef) (hs : Nat.ble (s + 1) l.length = true) : yielded l0.toArray l.toArray j = none := by
  have hs' := Nat.le_of_ble_eq_true hs
  have e1 : (l0.toArray[j]?).bind (·.dst) = some s := by simpa using hj
  have e2 : l.toArray[s]? = some undef := by
    rw [List.getD_eq_getElem?_getD, List.getElem?_eq_getElem (by omega)] at hl
    rw [List.getElem?_toArray, List.getElem?_eq_getElem (by omega)]
    simpa using hl
  unfold yielded
  rw [e1, Option.bind_some, e2]
  rfl
section
variable {P : Program} {l0 : List Oper} {R : World → World → Prop} {K : List Value → World → Prop} {rest : List Oper} {restX : List (Oper × Kd)} {l : List Value} {w : World} {d : Option Tmp} {op : Op} {ty : TypeId} {pos : String} {af : Array Edge} {j : Nat} {t : Bool} {kd : Kd}
theorem RS.skipU (s : Nat) (hj : (l0[j]?).bind (·.dst) = some s) (hl : l.getD s undef = undef) (hs : Nat.ble (s + 1) l.length = true)
    (k : RS P l0.toArray K rest (putL d undef l) w) : RS P l0.toArray K (⟨d, op, ty, pos, af, some (j, t)⟩ :: rest) l w := RS.skip (by rw [yielded_und hj hl hs]; rfl) k
theorem RX.skipU (s : Nat) (hj : (l0[j]?).bind (·.dst) = some s) (hl : l.getD s undef = undef) (hs : Nat.ble (s + 1) l.length = true)
    (k : RX P l0.toArray R K restX (putL d undef l) w) : RX P l0.toArray R K ((⟨d, op, ty, pos, af, some (j, t)⟩, kd) :: restX) l w := RX.skip (by rw [yielded_und hj hl hs]; rfl) k
end
theorem PRow.sub {k : IntKind} {S : Nat → Prop} {w : World} {a : Option Addr} {n : Nat} {ps : List Pc} (h : PRow k S w a n ps) (lo hi m : Nat) (hh : hi ≤ n) (hl : lo ≤ hi) (hm : hi ≤ m) : PRow k S w (subA a lo 1 m) (hi - lo) ((ps.drop lo).take (hi - lo)) := by
  have hln := h.len
  refine ⟨?_, by rw [List.length_take, List.length_drop]; omega, fun p hp => h.each p (List.mem_of_mem_drop (List.mem_of_mem_take hp))⟩
  have := h.row.sub lo hi 1 m (by rw [List.length_map]; omega) hl hm
  simpa [List.map_drop, List.map_take] using this
section
variable {P : Program} {ops : Array Oper} {R : World → World → Prop} {K : List Value → World → Prop} {restX : List (Oper × Kd)} {l : List Value} {w : World} {d : Tmp} {ty xt : TypeId} {pos : String} {af : Array Edge} {x y : Operand} {k ki : IntKind} {S : Nat → Prop} {a : Option Addr} {n c : Nat} {i : Int} {e : TypeId}
theorem RX.idxP (hRE : ∀ w', R w w' → Ext w w') {ps : List Pc} (hR : PRow k S w a n ps) (hx : ev l x = .slice a n c) (hy : ev l y = .int ki i) (hu : P.underlying xt = some (.slice e)) (hs : P.cellsOf e = 1) (hi : 0 ≤ i ∧ i < n)
    (h : ∀ b o p, (∀ w', R w w' → w'.cell? ⟨b, o, none⟩ = some (.slice p.a p.n p.c)) → p = ps.getD i.toNat default → IRow k S w p.a p.n p.xs → p.n ≤ p.c → RX P ops R K restX (l.set d (.pointer (some ⟨b, o, none⟩))) w) :
    RX P ops R K ((⟨some d, .indexAddr xt x y, ty, pos, af, none⟩, .q) :: restX) l w := by
  obtain ⟨b, o, ha, hc, hr, hn⟩ := hR.at_ hi
  exact RX.o (fun w' hw => D.indexAddr hx hy hu hs (by decide) ha hi) (h _ _ _ (fun w' hw => by
    obtain ⟨b2, o2, ha2, hc2, _⟩ := (hR.ext (hRE w' hw)).at_ hi
    rw [ha] at ha2
    obtain ⟨rfl, rfl⟩ : b = b2 ∧ o = o2 := by simpa using ha2
    exact hc2) rfl hr hn) rfl
end
theorem made_wide (k : IntKind) (sz m : Nat) (hz : 0 < sz) : (madeCells (ints k (List.replicate sz 0)).toArray (m * sz)).toList = ints k (List.replicate (sz * m) 0) := by
  apply List.ext_getElem
  · simp [madeCells, ints_length, Nat.mul_comm]
  intro i h1 h2
  have hm : i % sz < sz := Nat.mod_lt _ hz
  simp [madeCells, ints, hm]
end Go.Proofs.YtiohpiiiapjblaaGreatDoor.G
