/-
  OpDiffer: the message does not depend on Sig, the bytes begin with it, and operations that differ in anything else have different messages. Condition: the table digest.constants is as its initialiser lays it (tied by the card).
-/
import Derived.Test.YtiohpiiiapjblaaDoorPOpDiffer8
namespace Go.Proofs.YtiohpiiiapjblaaDoor.W
open Go.RowKit Go.Proofs.YtiohpiiiapjblaaDoor.G
set_option linter.unusedVariables false
set_option maxRecDepth 20000
set_option maxHeartbeats 8000000
attribute [local irreducible] RS RX
theorem F32 : SI Tryd.prog 32 [(0, 1), (1, 1), (2, 1), (3, 6), (9, 2)] := ⟨_, Tryd.underlying32, by kernel_rfl, by kernel_rfl⟩
theorem E25 : Enters Tryd.prog 25 := .mk Tryd.func25 (by kernel_rfl) rfl
theorem E27 : Enters Tryd.prog 27 := .mk Tryd.func27 (by kernel_rfl) rfl
theorem E28 : Enters Tryd.prog 28 := .mk Tryd.func28 (by kernel_rfl) rfl
theorem E32 : Enters Tryd.prog 32 := .mk Tryd.func32 (by kernel_rfl) rfl
theorem E64 : Enters Tryd.prog 64 := .mk Tryd.func64 (by kernel_rfl) rfl
theorem signO (x : Int) (hx : 0 ≤ x ∧ x < 4294967296) {S0 : Nat → Prop} (o : S.OpV) (ho : o.ok) (pa : Option Addr) (pc : Nat) (TK : TypeId) (w : World) (K0 : Kst w TK) (D0 : WRow .u8 32 S0 w pa o.n o.ids) (hc : o.n ≤ pc) :
  Calls Tryd.prog 25 #[.int .u32 x, .agg ([.int .u32 o.au, .slice pa o.n pc, .int .u64 o.st, .int .u8 o.k, .string o.key, .int .u8 o.vk, .int .i64 o.num, .int .u64 o.bits, .string o.t, .int .u32 o.e, .int .u32 o.s] : List Value).toArray] w (Ret w fun v w' => ∃ a' c', v = .tuple #[.agg ([.int .u32 (S.signS x o).au, .slice a' (S.signS x o).n c', .int .u64 (S.signS x o).st, .int .u8 (S.signS x o).k, .string (S.signS x o).key, .int .u8 (S.signS x o).vk, .int .i64 (S.signS x o).num, .int .u64 (S.signS x o).bits, .string (S.signS x o).t, .int .u32 (S.signS x o).e, .int .u32 (S.signS x o).s] : List Value).toArray, .int .i64 (S.signE x o)] ∧ (S.signS x o).n ≤ c' ∧ WRow .u8 32 (fun k => w.heap.size ≤ k) w' a' (S.signS x o).n (S.signS x o).ids) := by
 replace D0 := D0.weaken (T := fun k => k < w.heap.size) (fun k hk _ => hk)
 have o1 := ho.au
 have o2 := ho.st
 have o3 := ho.k
 have o4 := ho.vk
 have o5 := ho.num
 have o6 := ho.bits
 have o7 := ho.e
 have o8 := ho.s
 have o9 := ho.n
 have o10 := ho.key
 have o11 := ho.t
 have hKl := K0.lt
 have hb2 := S.pub_bd x
 have e4 := D0.len
 have hE := Ext.refl w
 refine enter (args := [.int .u32 x, .agg ([.int .u32 o.au, .slice pa o.n pc, .int .u64 o.st, .int .u8 o.k, .string o.key, .int .u8 o.vk, .int .i64 o.num, .int .u64 o.bits, .string o.t, .int .u32 o.e, .int .u32 o.s] : List Value).toArray]) (l := [.int .u32 x, .agg ([.int .u32 o.au, .slice pa o.n pc, .int .u64 o.st, .int .u8 o.k, .string o.key, .int .u8 o.vk, .int .i64 o.num, .int .u64 o.bits, .string o.t, .int .u32 o.e, .int .u32 o.s] : List Value).toArray, undef, undef, undef, undef, undef, undef, undef, undef, undef, undef, undef, undef, undef, undef, undef, undef, undef, undef, undef, undef, undef, undef, undef, undef, undef, undef, undef, undef, undef, undef, undef, undef, undef, undef, undef, undef, undef, undef, undef]) Tryd.func25 rfl rfl ?_
 refine wp_seq_k (fun K1 hK1 => ?_)
 refine region ?_
 refine RS.box rfl rfl (fun b2 w2 e2 s2 x2 B2 => ?_)
 refine RS.norm (by dsimp only [List.set]) ?_
 replace hE := Ext.tr hE x2
 replace K0 := K0.ext x2
 replace D0 := D0.ext x2
 have zw2 := x2.size
 refine RS.alloc T32 (fun b3 w3 e3 s3 x3 B3 => ?_)
 refine RS.norm (by dsimp only [List.set]) ?_
 replace hE := Ext.tr hE x3
 replace K0 := K0.ext x3
 replace D0 := D0.ext x3
 replace B2 := B2.ext x3
 have zw3 := x3.size
 refine RS.assign (v := .int .i64 0) rfl ?_
 refine RS.nil ?_
 refine hK1 _ _ ?_
 try clear hK1
 refine wp_seq_k (fun K4 hK4 => ?_)
 refine region ?_
 refine RS.move (v := .int _ _) rfl ?_
 refine RS.call E26 (publicW _ (by omega) _) rfl (fun v5 w5 x5 A5 => ?_)
 replace hE := Ext.tr hE x5
 replace K0 := K0.ext x5
 replace D0 := D0.ext x5
 replace B2 := B2.ext x5
 replace B3 := B3.ext x5
 have zw5 := x5.size
 subst A5
 refine RS.norm (by dsimp only [List.set]) ?_
 refine RS.move (v := .tuple _) rfl ?_
 refine RS.extract (v := .int _ _) rfl rfl ?_
 refine RS.extract (v := .int _ _) rfl rfl ?_
 refine RS.assign (v := .int _ _) rfl ?_
 refine RS.assign (v := .int _ _) rfl ?_
 refine RS.nil ?_
 refine hK4 _ _ ?_
 try clear hK4
 refine wp_seq_k (fun K6 hK6 => ?_)
 refine wp_seq_k (fun K7 hK7 => ?_)
 refine region ?_
 refine RS.move (v := .int _ _) rfl ?_
 refine RS.o (D.ne rfl rfl) ?_
 refine RS.nil ?_
 refine hK7 _ _ ?_
 try clear hK7
 refine C.ifn rfl (fun c8 => ?_) (fun c8 => ?_)
 ·have hz := c8
  refine wp_seq_k (fun K9 hK9 => ?_)
  refine region ?_
  refine RS.o (D.buildS T32 F32 (ps := []) rfl rfl) ?_
  refine RS.move (v := .int _ _) rfl ?_
  refine RS.storeAggB rfl rfl C32 (by decide) rfl rfl B3 rfl (fun w10 y10 N10 => ?_)
  replace hE := hE.trans (y10.below (by intros; try (first | (intro _ _) | (intro _) | skip); first | omega | (dsimp only at *; omega) | (simp_all; done) | (simp at *; omega)))
  replace K0 := K0.st y10 (by intros; try (first | (intro _ _) | (intro _) | skip); first | omega | (dsimp only at *; omega) | (simp_all; done) | (simp at *; omega))
  replace D0 := D0.st y10 (by intros; try (first | (intro _ _) | (intro _) | skip); first | omega | (dsimp only at *; omega) | (simp_all; done) | (simp at *; omega))
  replace B2 := B2.st y10 (by intros; try (first | (intro _ _) | (intro _) | skip); first | omega | (dsimp only at *; omega) | (simp_all; done) | (simp at *; omega))
  have zw10 := y10.size
  replace B3 := N10
  refine RS.assign (v := .int _ _) rfl ?_
  refine RS.nil ?_
  refine hK9 _ _ ?_
  try clear hK9
  refine wp_ret ?_
  refine ret (rs := [.cell 4 32, .tmp 5]) (vs := [.agg _, .int _ _]) (v := (.tuple #[.agg _, .int _ _])) rfl ⟨⟨_, rfl, loadVar_agg Tryd.underlying32 rfl C32 (by decide) rfl (B3.cellsN 11 rfl)⟩, rfl, trivial⟩ rfl ?_
  have e1 : S.signE x o = S.secE x := by unfold S.signE; rw [if_neg hz, S.secE_two hz]
  have e2 : S.signS x o = S.OpV.zero := by unfold S.signS; rw [if_neg (by rw [e1]; exact hz)]
  rw [e1, e2]
  exact ⟨_, rfl, hE, _, _, rfl, Nat.le_refl _, WRow.nil⟩
 ·have hz := c8
  rw [if_pos hz]
  refine wp_skip ?_
  refine hK6 _ _ ?_
  try clear hK6
  refine wp_seq_k (fun K11 hK11 => ?_)
  refine region ?_
  refine RS.move (v := .int _ _) rfl ?_
  refine RS.o (D.fieldL 1 rfl Tryd.underlying32 rfl C23 (by decide) rfl) ?_
  refine RS.o (D.load rfl Tryd.underlying23 rfl (B2.cell rfl)) ?_
  refine RS.call E58 (cloneID _ _ _ _ _ D0 hc (by omega)) rfl (fun v12 w12 x12 A12 => ?_)
  replace hE := Ext.tr hE x12
  replace K0 := K0.ext x12
  replace D0 := D0.ext x12
  replace B2 := B2.ext x12
  replace B3 := B3.ext x12
  have zw12 := x12.size
  obtain ⟨a12, _, c12, rfl, rfl, O1⟩ := A12
  have hcc := O1.own.pre
  refine RS.norm (by dsimp only [List.set]) ?_
  refine RS.o (D.fieldL 0 rfl Tryd.underlying32 rfl C22 (by decide) rfl) ?_
  refine RS.store rfl (v := .int _ _) rfl C22 rfl B2 rfl (fun w13 y13 N13 => ?_)
  replace hE := hE.trans (y13.below (by intros; try (first | (intro _ _) | (intro _) | skip); first | omega | (dsimp only at *; omega) | (simp_all; done) | (simp at *; omega)))
  replace K0 := K0.st y13 (by intros; try (first | (intro _ _) | (intro _) | skip); first | omega | (dsimp only at *; omega) | (simp_all; done) | (simp at *; omega))
  replace D0 := D0.st y13 (by intros; try (first | (intro _ _) | (intro _) | skip); first | omega | (dsimp only at *; omega) | (simp_all; done) | (simp at *; omega))
  replace B3 := B3.st y13 (by intros; try (first | (intro _ _) | (intro _) | skip); first | omega | (dsimp only at *; omega) | (simp_all; done) | (simp at *; omega))
  replace O1 := O1.st y13 (by intros; try (first | (intro _ _) | (intro _) | skip); first | omega | (have hq := O1.own.lo _ (by assumption); first | omega | (dsimp only at *; omega)))
  have zw13 := y13.size
  replace B2 := N13
  refine RS.o (D.fieldL 1 rfl Tryd.underlying32 rfl C23 (by decide) rfl) ?_
  refine RS.store rfl  rfl C23 rfl B2 rfl (fun w14 y14 N14 => ?_)
  replace hE := hE.trans (y14.below (by intros; try (first | (intro _ _) | (intro _) | skip); first | omega | (dsimp only at *; omega) | (simp_all; done) | (simp at *; omega)))
  replace K0 := K0.st y14 (by intros; try (first | (intro _ _) | (intro _) | skip); first | omega | (dsimp only at *; omega) | (simp_all; done) | (simp at *; omega))
  replace D0 := D0.st y14 (by intros; try (first | (intro _ _) | (intro _) | skip); first | omega | (dsimp only at *; omega) | (simp_all; done) | (simp at *; omega))
  replace B3 := B3.st y14 (by intros; try (first | (intro _ _) | (intro _) | skip); first | omega | (dsimp only at *; omega) | (simp_all; done) | (simp at *; omega))
  replace O1 := O1.st y14 (by intros; try (first | (intro _ _) | (intro _) | skip); first | omega | (have hq := O1.own.lo _ (by assumption); first | omega | (dsimp only at *; omega)))
  have zw14 := y14.size
  replace B2 := N14
  refine RS.nil ?_
  refine hK11 _ _ ?_
  try clear hK11
  refine wp_seq_k (fun K15 hK15 => ?_)
  refine region ?_
  refine RS.o (D.loadAgg rfl Tryd.underlying32 rfl C32 (by decide) rfl (B2.cellsN 11 rfl)) ?_
  refine RS.call E12 (messageO (o.wit x) (S.OpV.wit_ok x ho) _ _ _ O1.row hcc) rfl (fun v16 w16 x16 A16 => ?_)
  replace hE := Ext.tr hE x16
  replace K0 := K0.ext x16
  replace D0 := D0.ext x16
  replace B2 := B2.ext x16
  replace B3 := B3.ext x16
  replace O1 := O1.ext x16
  have zw16 := x16.size
  obtain ⟨a16, n16, c16, xs, rfl, OM, hxs⟩ := A16
  have hml := OM.len
  refine RS.norm (by dsimp only [List.set]) ?_
  refine RS.move (v := .tuple _) rfl ?_
  refine RS.extract (v := .slice _ _ _) rfl rfl ?_
  refine RS.extract (v := .int _ _) rfl rfl ?_
  refine RS.assign (v := .slice _ _ _) rfl ?_
  refine RS.assign (v := .int _ _) rfl ?_
  refine RS.nil ?_
  refine hK15 _ _ ?_
  try clear hK15
  refine wp_seq_k (fun K17 hK17 => ?_)
  refine wp_seq_k (fun K18 hK18 => ?_)
  refine region ?_
  refine RS.move (v := .int _ _) rfl ?_
  refine RS.o (D.ne rfl rfl) ?_
  refine RS.nil ?_
  refine hK18 _ _ ?_
  try clear hK18
  refine C.ifn rfl (fun c19 => ?_) (fun c19 => ?_)
  ·have hk := c19
   refine wp_seq_k (fun K20 hK20 => ?_)
   refine region ?_
   refine RS.o (D.buildS T32 F32 (ps := []) rfl rfl) ?_
   refine RS.move (v := .int _ _) rfl ?_
   refine RS.storeAggB rfl rfl C32 (by decide) rfl rfl B3 rfl (fun w21 y21 N21 => ?_)
   replace hE := hE.trans (y21.below (by intros; try (first | (intro _ _) | (intro _) | skip); first | omega | (dsimp only at *; omega) | (simp_all; done) | (simp at *; omega)))
   replace K0 := K0.st y21 (by intros; try (first | (intro _ _) | (intro _) | skip); first | omega | (dsimp only at *; omega) | (simp_all; done) | (simp at *; omega))
   replace D0 := D0.st y21 (by intros; try (first | (intro _ _) | (intro _) | skip); first | omega | (dsimp only at *; omega) | (simp_all; done) | (simp at *; omega))
   replace B2 := B2.st y21 (by intros; try (first | (intro _ _) | (intro _) | skip); first | omega | (dsimp only at *; omega) | (simp_all; done) | (simp at *; omega))
   replace O1 := O1.st y21 (by intros; try (first | (intro _ _) | (intro _) | skip); first | omega | (have hq := O1.own.lo _ (by assumption); first | omega | (dsimp only at *; omega)))
   replace OM := OM.st y21 (by intros; try (first | (intro _ _) | (intro _) | skip); first | omega | (have hq := OM.own.lo _ (by assumption); first | omega | (dsimp only at *; omega)))
   have zw21 := y21.size
   replace B3 := N21
   refine RS.assign (v := .int _ _) rfl ?_
   refine RS.nil ?_
   refine hK20 _ _ ?_
   try clear hK20
   refine wp_ret ?_
   refine ret (rs := [.cell 4 32, .tmp 5]) (vs := [.agg _, .int _ _]) (v := (.tuple #[.agg _, .int _ _])) rfl ⟨⟨_, rfl, loadVar_agg Tryd.underlying32 rfl C32 (by decide) rfl (B3.cellsN 11 rfl)⟩, rfl, trivial⟩ rfl ?_
   have e1 : S.signE x o = S.checkE (o.wit x).bare := by unfold S.signE; rw [if_pos hz]
   have e2 : S.signS x o = S.OpV.zero := by unfold S.signS; rw [if_neg (by rw [e1]; exact hk)]
   rw [e1, e2]
   exact ⟨_, rfl, hE, _, _, rfl, Nat.le_refl _, WRow.nil⟩
  ·have hk := c19
   rw [if_pos hk] at hxs
   subst hxs
   have hml2 := S.msg_len (o.wit x) (S.OpV.wit_ok x ho) (S.check_zero.1 hk).1 e4
   have hn0 : S.nonceE x (S.msgS (o.wit x)) = 0 := S.nonceE_zero.2 ⟨hz, by unfold S.hashE; rw [if_neg (by omega)]⟩
   refine wp_skip ?_
   refine hK17 _ _ ?_
   try clear hK17
   refine wp_seq_k (fun K22 hK22 => ?_)
   refine region ?_
   refine RS.move (v := .int _ _) rfl ?_
   refine RS.move (v := .slice _ _ _) rfl ?_
   refine RS.call E64 (signW _ (by omega) _ _ _ _ _ _ K0 OM.row OM.own.pre) rfl (fun v23 w23 x23 A23 => ?_)
   replace hE := Ext.tr hE x23
   replace K0 := K0.ext x23
   replace D0 := D0.ext x23
   replace B2 := B2.ext x23
   replace B3 := B3.ext x23
   replace O1 := O1.ext x23
   replace OM := OM.ext x23
   have zw23 := x23.size
   subst A23
   rw [if_pos hn0, if_pos hn0]
   refine RS.norm (by dsimp only [List.set]) ?_
   refine RS.move (v := .tuple _) rfl ?_
   refine RS.extract (v := .agg _) rfl rfl ?_
   refine RS.extract (v := .int _ _) rfl rfl ?_
   refine RS.o (D.fieldL 9 rfl Tryd.underlying32 rfl C30 (by decide) rfl) ?_
   refine RS.storeAggB rfl rfl C30 (by decide) rfl rfl B2 rfl (fun w24 y24 N24 => ?_)
   replace hE := hE.trans (y24.below (by intros; try (first | (intro _ _) | (intro _) | skip); first | omega | (dsimp only at *; omega) | (simp_all; done) | (simp at *; omega)))
   replace K0 := K0.st y24 (by intros; try (first | (intro _ _) | (intro _) | skip); first | omega | (dsimp only at *; omega) | (simp_all; done) | (simp at *; omega))
   replace D0 := D0.st y24 (by intros; try (first | (intro _ _) | (intro _) | skip); first | omega | (dsimp only at *; omega) | (simp_all; done) | (simp at *; omega))
   replace B3 := B3.st y24 (by intros; try (first | (intro _ _) | (intro _) | skip); first | omega | (dsimp only at *; omega) | (simp_all; done) | (simp at *; omega))
   replace O1 := O1.st y24 (by intros; try (first | (intro _ _) | (intro _) | skip); first | omega | (have hq := O1.own.lo _ (by assumption); first | omega | (dsimp only at *; omega)))
   replace OM := OM.st y24 (by intros; try (first | (intro _ _) | (intro _) | skip); first | omega | (have hq := OM.own.lo _ (by assumption); first | omega | (dsimp only at *; omega)))
   have zw24 := y24.size
   replace B2 := N24
   refine RS.nil ?_
   refine hK22 _ _ ?_
   try clear hK22
   refine wp_seq_k (fun K25 hK25 => ?_)
   refine region ?_
   refine RS.o (D.loadAgg rfl Tryd.underlying32 rfl C32 (by decide) rfl (B2.cellsN 11 rfl)) ?_
   refine RS.storeAggB rfl rfl C32 (by decide) rfl rfl B3 rfl (fun w26 y26 N26 => ?_)
   replace hE := hE.trans (y26.below (by intros; try (first | (intro _ _) | (intro _) | skip); first | omega | (dsimp only at *; omega) | (simp_all; done) | (simp at *; omega)))
   replace K0 := K0.st y26 (by intros; try (first | (intro _ _) | (intro _) | skip); first | omega | (dsimp only at *; omega) | (simp_all; done) | (simp at *; omega))
   replace D0 := D0.st y26 (by intros; try (first | (intro _ _) | (intro _) | skip); first | omega | (dsimp only at *; omega) | (simp_all; done) | (simp at *; omega))
   replace B2 := B2.st y26 (by intros; try (first | (intro _ _) | (intro _) | skip); first | omega | (dsimp only at *; omega) | (simp_all; done) | (simp at *; omega))
   replace O1 := O1.st y26 (by intros; try (first | (intro _ _) | (intro _) | skip); first | omega | (have hq := O1.own.lo _ (by assumption); first | omega | (dsimp only at *; omega)))
   replace OM := OM.st y26 (by intros; try (first | (intro _ _) | (intro _) | skip); first | omega | (have hq := OM.own.lo _ (by assumption); first | omega | (dsimp only at *; omega)))
   have zw26 := y26.size
   replace B3 := N26
   refine RS.assign (v := .int .i64 0) rfl ?_
   refine RS.nil ?_
   refine hK25 _ _ ?_
   try clear hK25
   refine wp_ret ?_
   refine ret (rs := [.cell 4 32, .tmp 5]) (vs := [.agg _, .int _ _]) (v := (.tuple #[.agg _, .int _ _])) rfl ⟨⟨_, rfl, loadVar_agg Tryd.underlying32 rfl C32 (by decide) rfl (B3.cellsN 11 rfl)⟩, rfl, trivial⟩ rfl ?_
   have e1 : S.signE x o = 0 := by unfold S.signE; rw [if_pos hz]; exact hk
   have e2 := S.signS_eq e1
   rw [e1, e2]
   exact ⟨_, rfl, hE, _, _, rfl, hcc, O1.row.weaken (fun k hk h => by omega)⟩
theorem verifyO {S0 : Nat → Prop} (o : S.OpV) (ho : o.ok) (pa : Option Addr) (pc : Nat) (TK : TypeId) (w : World) (K0 : Kst w TK) (D0 : WRow .u8 32 S0 w pa o.n o.ids) (hc : o.n ≤ pc) :
  Calls Tryd.prog 27 #[.agg ([.int .u32 o.au, .slice pa o.n pc, .int .u64 o.st, .int .u8 o.k, .string o.key, .int .u8 o.vk, .int .i64 o.num, .int .u64 o.bits, .string o.t, .int .u32 o.e, .int .u32 o.s] : List Value).toArray] w (Ret w fun v _ => v = .int .i64 (S.verE o)) := by
 replace D0 := D0.weaken (T := fun k => k < w.heap.size) (fun k hk _ => hk)
 have o1 := ho.au
 have o2 := ho.st
 have o3 := ho.k
 have o4 := ho.vk
 have o5 := ho.num
 have o6 := ho.bits
 have o7 := ho.e
 have o8 := ho.s
 have o9 := ho.n
 have o10 := ho.key
 have o11 := ho.t
 have hKl := K0.lt
 have e4 := D0.len
 have hE := Ext.refl w
 refine enter (args := [.agg ([.int .u32 o.au, .slice pa o.n pc, .int .u64 o.st, .int .u8 o.k, .string o.key, .int .u8 o.vk, .int .i64 o.num, .int .u64 o.bits, .string o.t, .int .u32 o.e, .int .u32 o.s] : List Value).toArray]) (l := [.agg ([.int .u32 o.au, .slice pa o.n pc, .int .u64 o.st, .int .u8 o.k, .string o.key, .int .u8 o.vk, .int .i64 o.num, .int .u64 o.bits, .string o.t, .int .u32 o.e, .int .u32 o.s] : List Value).toArray, undef, undef, undef, undef, undef, undef, undef, undef, undef, undef, undef, undef, undef, undef, undef, undef, undef, undef, undef, undef, undef]) Tryd.func27 rfl rfl ?_
 refine wp_seq_k (fun K1 hK1 => ?_)
 refine region ?_
 refine RS.box rfl rfl (fun b2 w2 e2 s2 x2 B2 => ?_)
 refine RS.norm (by dsimp only [List.set]) ?_
 replace hE := Ext.tr hE x2
 replace K0 := K0.ext x2
 replace D0 := D0.ext x2
 have zw2 := x2.size
 refine RS.assign (v := .int .i64 0) rfl ?_
 refine RS.nil ?_
 refine hK1 _ _ ?_
 try clear hK1
 refine wp_seq_k (fun K3 hK3 => ?_)
 refine wp_seq_k (fun K4 hK4 => ?_)
 refine region ?_
 refine RS.o (D.loadAgg rfl Tryd.underlying32 rfl C32 (by decide) rfl (B2.cellsN 11 rfl)) ?_
 refine RS.call E20 (checkO o ho _ _ _ D0 hc) rfl (fun v5 w5 x5 A5 => ?_)
 replace hE := Ext.tr hE x5
 replace K0 := K0.ext x5
 replace D0 := D0.ext x5
 replace B2 := B2.ext x5
 have zw5 := x5.size
 subst A5
 refine RS.norm (by dsimp only [List.set]) ?_
 refine RS.assign (v := .int _ _) rfl ?_
 refine RS.nil ?_
 refine hK4 _ _ ?_
 try clear hK4
 refine wp_seq_k (fun K6 hK6 => ?_)
 refine region ?_
 refine RS.move (v := .int _ _) rfl ?_
 refine RS.o (D.ne rfl rfl) ?_
 refine RS.nil ?_
 refine hK6 _ _ ?_
 try clear hK6
 refine C.ifn rfl (fun c7 => ?_) (fun c7 => ?_)
 ·have hk := c7
  refine wp_seq_k (fun K8 hK8 => ?_)
  refine region ?_
  refine RS.move (v := .int _ _) rfl ?_
  refine RS.assign (v := .int _ _) rfl ?_
  refine RS.nil ?_
  refine hK8 _ _ ?_
  try clear hK8
  refine wp_ret ?_
  refine ret (rs := [.tmp 2]) (vs := [.int _ _]) (v := (.int _ _)) rfl ⟨rfl, trivial⟩ rfl ?_
  refine ⟨_, rfl, hE, ?_⟩
  unfold S.verE
  rw [if_neg hk]
 ·have hk := c7
  refine wp_skip ?_
  refine hK3 _ _ ?_
  try clear hK3
  refine wp_seq_k (fun K9 hK9 => ?_)
  refine region ?_
  refine RS.o (D.loadAgg rfl Tryd.underlying32 rfl C32 (by decide) rfl (B2.cellsN 11 rfl)) ?_
  refine RS.call E12 (messageO o ho _ _ _ D0 hc) rfl (fun v10 w10 x10 A10 => ?_)
  replace hE := Ext.tr hE x10
  replace K0 := K0.ext x10
  replace D0 := D0.ext x10
  replace B2 := B2.ext x10
  have zw10 := x10.size
  obtain ⟨a10, n10, c10, xs, rfl, OM, hxs⟩ := A10
  rw [if_pos (S.check_bare hk)] at hxs
  subst hxs
  refine RS.norm (by dsimp only [List.set]) ?_
  refine RS.move (v := .tuple _) rfl ?_
  refine RS.extract (v := .slice _ _ _) rfl rfl ?_
  refine RS.extract (v := .int _ _) rfl rfl ?_
  refine RS.assign (v := .slice _ _ _) rfl ?_
  refine RS.assign (v := .int _ _) rfl ?_
  refine RS.nil ?_
  refine hK9 _ _ ?_
  try clear hK9
  refine wp_seq_k (fun K11 hK11 => ?_)
  refine region ?_
  refine RS.o (D.fieldL 0 rfl Tryd.underlying32 rfl C22 (by decide) rfl) ?_
  refine RS.o (D.load rfl Tryd.underlying22 rfl (B2.cell rfl)) ?_
  refine RS.move (v := .slice _ _ _) rfl ?_
  refine RS.o (D.fieldL 9 rfl Tryd.underlying32 rfl C30 (by decide) rfl) ?_
  refine RS.o (D.loadAgg rfl Tryd.underlying30 rfl C30 (by decide) rfl (B2.cellsN 2 rfl)) ?_
  refine RS.call E28 (verifyW _ (by omega) _ _ (by omega) (by omega) _ _ _ _ _ _ K0 OM.row OM.own.pre) rfl (fun v12 w12 x12 A12 => ?_)
  replace hE := Ext.tr hE x12
  replace K0 := K0.ext x12
  replace D0 := D0.ext x12
  replace B2 := B2.ext x12
  replace OM := OM.ext x12
  have zw12 := x12.size
  subst A12
  refine RS.norm (by dsimp only [List.set]) ?_
  refine RS.assign (v := .int _ _) rfl ?_
  refine RS.nil ?_
  refine hK11 _ _ ?_
  try clear hK11
  refine wp_ret ?_
  refine ret (rs := [.tmp 2]) (vs := [.int _ _]) (v := (.int _ _)) rfl ⟨rfl, trivial⟩ rfl ?_
  refine ⟨_, rfl, hE, ?_⟩
  unfold S.verE
  rw [if_pos hk]
theorem givenW  (w : World) :
  Calls Tryd.prog 32 #[] w (Ret w fun v _ => v = .agg ([.int .u32 S.givenO.au, .slice none S.givenO.n 0, .int .u64 S.givenO.st, .int .u8 S.givenO.k, .string S.givenO.key, .int .u8 S.givenO.vk, .int .i64 S.givenO.num, .int .u64 S.givenO.bits, .string S.givenO.t, .int .u32 S.givenO.e, .int .u32 S.givenO.s] : List Value).toArray) := by
 have hE := Ext.refl w
 refine enter (args := []) (l := [undef, undef, undef, undef]) Tryd.func32 rfl rfl ?_
 refine wp_seq_k (fun K1 hK1 => ?_)
 refine region ?_
 refine RS.alloc T32 (fun b2 w2 e2 s2 x2 B2 => ?_)
 refine RS.norm (by dsimp only [List.set]) ?_
 replace hE := Ext.tr hE x2
 have zw2 := x2.size
 refine RS.nil ?_
 refine hK1 _ _ ?_
 try clear hK1
 refine wp_seq_k (fun K3 hK3 => ?_)
 refine region ?_
 refine RS.o (D.buildS T28 F28 (ps := [(0, .int _ _), (1, .string _)]) rfl rfl) ?_
 refine RS.o (D.buildS T30 F30 (ps := [(0, .int _ _), (1, .int _ _)]) rfl rfl) ?_
 refine RS.o (D.buildS T32 F32 (ps := [(0, .int _ _), (2, .int _ _), (3, .agg _), (4, .agg _)]) rfl rfl) ?_
 refine RS.storeAggB rfl rfl C32 (by decide) rfl rfl B2 rfl (fun w4 y4 N4 => ?_)
 replace hE := hE.trans (y4.below (by intros; try (first | (intro _ _) | (intro _) | skip); first | omega | (dsimp only at *; omega) | (simp_all; done) | (simp at *; omega)))
 have zw4 := y4.size
 replace B2 := N4
 refine RS.nil ?_
 refine hK3 _ _ ?_
 try clear hK3
 refine wp_ret ?_
 refine ret (rs := [.cell 0 32]) (vs := [.agg _]) (v := (.agg _)) rfl ⟨⟨_, rfl, loadVar_agg Tryd.underlying32 rfl C32 (by decide) rfl (B2.cellsN 11 rfl)⟩, trivial⟩ rfl ?_
 exact ⟨_, rfl, hE, rfl⟩
theorem fitW {S0 : Nat → Prop} (o : S.OpV) (hr : o.rng) (pa : Option Addr) (pc : Nat) (w : World) (D0 : WRow .u8 32 S0 w pa o.n o.ids) (hc : o.n ≤ pc) :
  Calls Tryd.prog 29 #[.agg ([.int .u32 o.au, .slice pa o.n pc, .int .u64 o.st, .int .u8 o.k, .string o.key, .int .u8 o.vk, .int .i64 o.num, .int .u64 o.bits, .string o.t, .int .u32 o.e, .int .u32 o.s] : List Value).toArray] w (Ret w fun v _ => v = .bool (decide (S.Fit o))) := by
 have hE := Ext.refl w
 refine enter (args := [.agg ([.int .u32 o.au, .slice pa o.n pc, .int .u64 o.st, .int .u8 o.k, .string o.key, .int .u8 o.vk, .int .i64 o.num, .int .u64 o.bits, .string o.t, .int .u32 o.e, .int .u32 o.s] : List Value).toArray]) (l := [.agg ([.int .u32 o.au, .slice pa o.n pc, .int .u64 o.st, .int .u8 o.k, .string o.key, .int .u8 o.vk, .int .i64 o.num, .int .u64 o.bits, .string o.t, .int .u32 o.e, .int .u32 o.s] : List Value).toArray, undef, undef, undef, undef, undef, undef, undef, undef, undef, undef]) Tryd.func29 rfl rfl ?_
 refine wp_seq_k (fun K1 hK1 => ?_)
 refine region ?_
 refine RS.box rfl rfl (fun b2 w2 e2 s2 x2 B2 => ?_)
 refine RS.norm (by dsimp only [List.set]) ?_
 replace hE := Ext.tr hE x2
 replace D0 := D0.ext x2
 have zw2 := x2.size
 refine RS.assign (v := .bool false) rfl ?_
 refine RS.nil ?_
 refine hK1 _ _ ?_
 try clear hK1
 refine wp_seq_k (fun K3 hK3 => ?_)
 refine region ?_
 refine RS.o (D.loadAgg rfl Tryd.underlying32 rfl C32 (by decide) rfl (B2.cellsN 11 rfl)) ?_
 refine RS.call E10 (great o _ _ _) rfl (fun v4 w4 x4 A4 => ?_)
 replace hE := Ext.tr hE x4
 replace D0 := D0.ext x4
 replace B2 := B2.ext x4
 have zw4 := x4.size
 subst A4
 refine RS.norm (by dsimp only [List.set]) ?_
 refine RS.o (D.not rfl) ?_
 refine RS.move (v := .bool _) rfl ?_
 refine RS.splitnot 6 rfl rfl (fun c5 => ?_) (fun c5 => ?_)
 ·refine RS.norm (by dsimp only [List.set]) ?_
  have hG := c5
  have ho : o.ok := hr.ok (by simpa using hG)
  refine RS.wantB 6 rfl rfl rfl ?_
  refine RS.o (D.loadAgg rfl Tryd.underlying32 rfl C32 (by decide) rfl (B2.cellsN 11 rfl)) ?_
  refine RS.wantB 6 rfl rfl rfl ?_
  refine RS.call E21 (checkOR o ho _ _ _ D0 hc) rfl (fun v6 w6 x6 A6 => ?_)
  replace hE := Ext.tr hE x6
  replace D0 := D0.ext x6
  replace B2 := B2.ext x6
  have zw6 := x6.size
  subst A6
  refine RS.norm (by dsimp only [List.set]) ?_
  refine RS.wantB 6 rfl rfl rfl ?_
  refine RS.o (D.eq rfl rfl) ?_
  refine RS.pick (v := .bool _) rfl rfl ?_
  refine RS.assign (v := .bool _) rfl ?_
  refine RS.nil ?_
  refine hK3 _ _ ?_
  try clear hK3
  refine wp_ret ?_
  refine ret (rs := [.tmp 2]) (vs := [.bool _]) (v := (.bool _)) rfl ⟨rfl, trivial⟩ rfl ?_
  refine ⟨_, rfl, hE, congrArg Value.bool ?_⟩
  simp_all [S.Fit]
  try (by_cases hq : S.checkE o = 0 <;> simp [hq])
 ·refine RS.norm (by dsimp only [List.set]) ?_
  have hG := c5
  refine RS.skipB (b := false) 6 rfl rfl rfl rfl ?_
  refine RS.norm (by dsimp only [putL, List.set]) ?_
  refine RS.skipB (b := false) 6 rfl rfl rfl rfl ?_
  refine RS.norm (by dsimp only [putL, List.set]) ?_
  refine RS.skipB (b := false) 6 rfl rfl rfl rfl ?_
  refine RS.norm (by dsimp only [putL, List.set]) ?_
  refine RS.pick (v := .bool false) rfl rfl ?_
  refine RS.assign (v := .bool _) rfl ?_
  refine RS.nil ?_
  refine hK3 _ _ ?_
  try clear hK3
  refine wp_ret ?_
  refine ret (rs := [.tmp 2]) (vs := [.bool _]) (v := (.bool _)) rfl ⟨rfl, trivial⟩ rfl ?_
  refine ⟨_, rfl, hE, congrArg Value.bool ?_⟩
  simp_all [S.Fit]
  try (by_cases hq : S.checkE o = 0 <;> simp [hq])
theorem aliveW (TK : TypeId) (w : World) (K0 : Kst w TK) :
  Calls Tryd.prog 24 #[] w (Ret w fun v _ => v = .bool true) := by
 have hKl := K0.lt
 have hE := Ext.refl w
 refine enter (args := []) (l := [undef, undef, undef, undef, undef, undef, undef, undef, undef, undef, undef, undef, undef, undef, undef, undef, undef, undef, undef, undef, undef, undef, undef, undef, undef, undef, undef, undef, undef, undef, undef, undef, undef, undef, undef, undef, undef, undef, undef, undef, undef, undef, undef, undef, undef, undef, undef, undef, undef, undef, undef, undef, undef, undef, undef, undef, undef, undef, undef, undef]) Tryd.func24 rfl rfl ?_
 refine wp_seq_k (fun K1 hK1 => ?_)
 refine region ?_
 refine RS.assign (v := .bool false) rfl ?_
 refine RS.nil ?_
 refine hK1 _ _ ?_
 try clear hK1
 refine wp_seq_k (fun K2 hK2 => ?_)
 refine region ?_
 refine RS.call E32 (givenW _) rfl (fun v3 w3 x3 A3 => ?_)
 replace hE := Ext.tr hE x3
 replace K0 := K0.ext x3
 have zw3 := x3.size
 subst A3
 refine RS.norm (by dsimp only [List.set]) ?_
 refine RS.call E12 (messageO S.givenO S.given_ok _ _ _ (WRow.nil (S := fun _ => False)) (Nat.le_refl _)) rfl (fun v4 w4 x4 A4 => ?_)
 replace hE := Ext.tr hE x4
 replace K0 := K0.ext x4
 have zw4 := x4.size
 obtain ⟨a4, n4, c4, xs, rfl, OM, hxs⟩ := A4
 rw [if_pos S.given_bare] at hxs
 rw [S.given_bare]
 subst hxs
 have hOM := OM.lo
 refine RS.norm (by dsimp only [List.set]) ?_
 refine RS.move (v := .tuple _) rfl ?_
 refine RS.extract (v := .slice _ _ _) rfl rfl ?_
 refine RS.extract (v := .int _ _) rfl rfl ?_
 refine RS.assign (v := .slice _ _ _) rfl ?_
 refine RS.assign (v := .int _ _) rfl ?_
 refine RS.nil ?_
 refine hK2 _ _ ?_
 try clear hK2
 refine wp_seq_k (fun K5 hK5 => ?_)
 refine region ?_
 refine RS.call E32 (givenW _) rfl (fun v6 w6 x6 A6 => ?_)
 replace hE := Ext.tr hE x6
 replace K0 := K0.ext x6
 replace OM := OM.ext x6
 have zw6 := x6.size
 subst A6
 refine RS.norm (by dsimp only [List.set]) ?_
 refine RS.call E14 (encodeO S.givenO S.given_ok _ _ _ (WRow.nil (S := fun _ => False)) (Nat.le_refl _)) rfl (fun v7 w7 x7 A7 => ?_)
 replace hE := Ext.tr hE x7
 replace K0 := K0.ext x7
 replace OM := OM.ext x7
 have zw7 := x7.size
 obtain ⟨a7, n7, c7, xs, rfl, OE, hxs⟩ := A7
 rw [if_pos S.given_check] at hxs
 rw [S.given_check]
 subst hxs
 have hOE := OE.lo
 refine RS.norm (by dsimp only [List.set]) ?_
 refine RS.move (v := .tuple _) rfl ?_
 refine RS.extract (v := .slice _ _ _) rfl rfl ?_
 refine RS.extract (v := .int _ _) rfl rfl ?_
 refine RS.assign (v := .slice _ _ _) rfl ?_
 refine RS.assign (v := .int _ _) rfl ?_
 refine RS.nil ?_
 refine hK5 _ _ ?_
 try clear hK5
 refine wp_seq_k (fun K8 hK8 => ?_)
 refine region ?_
 refine RS.call E32 (givenW _) rfl (fun v9 w9 x9 A9 => ?_)
 replace hE := Ext.tr hE x9
 replace K0 := K0.ext x9
 replace OM := OM.ext x9
 replace OE := OE.ext x9
 have zw9 := x9.size
 subst A9
 refine RS.norm (by dsimp only [List.set]) ?_
 refine RS.alloc T32 (fun b10 w10 e10 s10 x10 B10 => ?_)
 refine RS.norm (by dsimp only [List.set]) ?_
 replace hE := Ext.tr hE x10
 replace K0 := K0.ext x10
 replace OM := OM.ext x10
 replace OE := OE.ext x10
 have zw10 := x10.size
 refine RS.storeAggB rfl rfl C32 (by decide) rfl rfl B10 rfl (fun w11 y11 N11 => ?_)
 replace hE := hE.trans (y11.below (by intros; try (first | (intro _ _) | (intro _) | skip); first | omega | (dsimp only at *; omega) | (simp_all; done) | (simp at *; omega)))
 replace K0 := K0.st y11 (by intros; try (first | (intro _ _) | (intro _) | skip); first | omega | (dsimp only at *; omega) | (simp_all; done) | (simp at *; omega))
 replace OM := OM.st y11 (by intros; try (first | (intro _ _) | (intro _) | skip); first | omega | (have hq := hOM _ (by assumption); first | omega | (dsimp only at *; omega)))
 replace OE := OE.st y11 (by intros; try (first | (intro _ _) | (intro _) | skip); first | omega | (have hq := hOE _ (by assumption); first | omega | (dsimp only at *; omega)))
 have zw11 := y11.size
 replace B10 := N11
 refine RS.nil ?_
 refine hK8 _ _ ?_
 try clear hK8
 refine wp_seq_k (fun K12 hK12 => ?_)
 refine region ?_
 refine RS.o (D.fieldL 0 rfl Tryd.underlying32 rfl C22 (by decide) rfl) ?_
 refine RS.store rfl (v := .int _ _) rfl C22 rfl B10 rfl (fun w13 y13 N13 => ?_)
 replace hE := hE.trans (y13.below (by intros; try (first | (intro _ _) | (intro _) | skip); first | omega | (dsimp only at *; omega) | (simp_all; done) | (simp at *; omega)))
 replace K0 := K0.st y13 (by intros; try (first | (intro _ _) | (intro _) | skip); first | omega | (dsimp only at *; omega) | (simp_all; done) | (simp at *; omega))
 replace OM := OM.st y13 (by intros; try (first | (intro _ _) | (intro _) | skip); first | omega | (have hq := hOM _ (by assumption); first | omega | (dsimp only at *; omega)))
 replace OE := OE.st y13 (by intros; try (first | (intro _ _) | (intro _) | skip); first | omega | (have hq := hOE _ (by assumption); first | omega | (dsimp only at *; omega)))
 have zw13 := y13.size
 replace B10 := N13
 refine RS.nil ?_
 refine hK12 _ _ ?_
 try clear hK12
 refine wp_seq_k (fun K14 hK14 => ?_)
 refine region ?_
 refine RS.call E32 (givenW _) rfl (fun v15 w15 x15 A15 => ?_)
 replace hE := Ext.tr hE x15
 replace K0 := K0.ext x15
 replace OM := OM.ext x15
 replace OE := OE.ext x15
 replace B10 := B10.ext x15
 have zw15 := x15.size
 subst A15
 refine RS.norm (by dsimp only [List.set]) ?_
 refine RS.call E25 (signO _ (by decide) S.givenO S.given_ok _ _ _ _ K0 (WRow.nil (S := fun _ => False)) (Nat.le_refl _)) rfl (fun v16 w16 x16 A16 => ?_)
 replace hE := Ext.tr hE x16
 replace K0 := K0.ext x16
 replace OM := OM.ext x16
 replace OE := OE.ext x16
 replace B10 := B10.ext x16
 have zw16 := x16.size
 obtain ⟨a16, c16, rfl, hcn, RG⟩ := A16
 rw [S.given_sign]
 obtain ⟨g1, g2, g3, g4, g5, g6, g7⟩ := S.sign_good S.given_ok rfl S.given_sign
 have hso := S.signS_ok 2 S.givenO S.given_ok
 replace RG := RG.weaken (T := fun k => k < w16.heap.size) (fun k hk _ => hk)
 refine RS.norm (by dsimp only [List.set]) ?_
 refine RS.move (v := .tuple _) rfl ?_
 refine RS.extract (v := .agg _) rfl rfl ?_
 refine RS.extract (v := .int _ _) rfl rfl ?_
 refine RS.alloc T32 (fun b17 w17 e17 s17 x17 B17 => ?_)
 refine RS.norm (by dsimp only [List.set]) ?_
 replace hE := Ext.tr hE x17
 replace K0 := K0.ext x17
 replace OM := OM.ext x17
 replace OE := OE.ext x17
 replace B10 := B10.ext x17
 replace RG := RG.ext x17
 have zw17 := x17.size
 refine RS.storeAggB rfl rfl C32 (by decide) rfl rfl B17 rfl (fun w18 y18 N18 => ?_)
 replace hE := hE.trans (y18.below (by intros; try (first | (intro _ _) | (intro _) | skip); first | omega | (dsimp only at *; omega) | (simp_all; done) | (simp at *; omega)))
 replace K0 := K0.st y18 (by intros; try (first | (intro _ _) | (intro _) | skip); first | omega | (dsimp only at *; omega) | (simp_all; done) | (simp at *; omega))
 replace OM := OM.st y18 (by intros; try (first | (intro _ _) | (intro _) | skip); first | omega | (have hq := hOM _ (by assumption); first | omega | (dsimp only at *; omega)))
 replace OE := OE.st y18 (by intros; try (first | (intro _ _) | (intro _) | skip); first | omega | (have hq := hOE _ (by assumption); first | omega | (dsimp only at *; omega)))
 replace B10 := B10.st y18 (by intros; try (first | (intro _ _) | (intro _) | skip); first | omega | (dsimp only at *; omega) | (simp_all; done) | (simp at *; omega))
 replace RG := RG.st y18 (by intros; try (first | (intro _ _) | (intro _) | skip); first | omega | (dsimp only at *; omega) | (simp_all; done) | (simp at *; omega))
 have zw18 := y18.size
 replace B17 := N18
 refine RS.assign (v := .int _ _) rfl ?_
 refine RS.nil ?_
 refine hK14 _ _ ?_
 try clear hK14
 refine wp_seq_k (fun K19 hK19 => ?_)
 refine region ?_
 refine RS.move (v := .int _ _) rfl ?_
 refine RS.o (D.eq rfl rfl) ?_
 refine RS.move (v := .bool _) rfl ?_
 refine RS.splite 27 rfl rfl (fun c20 => ?_) (fun c20 => ?_)
 ·refine RS.norm (by dsimp only [List.set]) ?_
  refine RS.wantB 27 rfl rfl rfl ?_
  refine RS.move (v := .slice _ _ _) rfl ?_
  refine RS.wantB 27 rfl rfl rfl ?_
  refine RS.buildSlice (xs := [.const (.int .u8 111), .const (.int .u8 4), .const (.int .u8 0), .const (.int .u8 7), .const (.int .u8 2), .const (.int .u8 1), .const (.int .u8 97)]) (vs := [.int _ _, .int _ _, .int _ _, .int _ _, .int _ _, .int _ _, .int _ _]) (cs := [.int _ _, .int _ _, .int _ _, .int _ _, .int _ _, .int _ _, .int _ _]) Tryd.underlying35 T5 (by decide) rfl rfl rfl rfl rfl rfl (by intro v hv; simp only [List.mem_cons, List.not_mem_nil, or_false] at hv; rcases hv with rfl | rfl | rfl | rfl | rfl | rfl | rfl <;> rfl) rfl (fun b21 w21 e21 s21 x21 B21 => ?_)
  refine RS.norm (by dsimp only [List.set]) ?_
  replace hE := Ext.tr hE x21
  replace K0 := K0.ext x21
  replace OM := OM.ext x21
  replace OE := OE.ext x21
  replace B10 := B10.ext x21
  replace RG := RG.ext x21
  replace B17 := B17.ext x21
  have zw21 := x21.size
  refine RS.wantB 27 rfl rfl rfl ?_
  refine RS.call E22 (sameBytes _ _ _ _ _ _ _ _ _ OM.row (IRow.of_blk (S := fun k => k = b21) B21 rfl rfl rfl (.cons (by decide) (.cons (by decide) (.cons (by decide) (.cons (by decide) (.cons (by decide) (.cons (by decide) (.cons (by decide) (.nil _))))))))) (by rw [← OM.len]; decide +kernel) (by decide)) rfl (fun v22 w22 x22 A22 => ?_)
  replace hE := Ext.tr hE x22
  replace K0 := K0.ext x22
  replace OM := OM.ext x22
  replace OE := OE.ext x22
  replace B10 := B10.ext x22
  replace RG := RG.ext x22
  replace B17 := B17.ext x22
  replace B21 := B21.ext x22
  have zw22 := x22.size
  subst A22
  refine RS.norm (by dsimp only [List.set]) ?_
  refine RS.pick (v := .bool _) rfl rfl ?_
  refine RS.move (v := .bool _) rfl ?_
  refine RS.splitb 32 rfl rfl (fun c23 => ?_) (fun c23 => ?_)
  ·refine RS.norm (by dsimp only [List.set]) ?_
   refine RS.wantB 32 rfl rfl rfl ?_
   refine RS.move (v := .int _ _) rfl ?_
   refine RS.wantB 32 rfl rfl rfl ?_
   refine RS.o (D.eq rfl rfl) ?_
   refine RS.pick (v := .bool _) rfl rfl ?_
   refine RS.move (v := .bool _) rfl ?_
   refine RS.splite 36 rfl rfl (fun c24 => ?_) (fun c24 => ?_)
   ·refine RS.norm (by dsimp only [List.set]) ?_
    refine RS.wantB 36 rfl rfl rfl ?_
    refine RS.move (v := .slice _ _ _) rfl ?_
    refine RS.wantB 36 rfl rfl rfl ?_
    refine RS.buildSlice (xs := [.const (.int .u8 111), .const (.int .u8 4), .const (.int .u8 0), .const (.int .u8 7), .const (.int .u8 2), .const (.int .u8 1), .const (.int .u8 97), .const (.int .u8 5), .const (.int .u8 6)]) (vs := [.int _ _, .int _ _, .int _ _, .int _ _, .int _ _, .int _ _, .int _ _, .int _ _, .int _ _]) (cs := [.int _ _, .int _ _, .int _ _, .int _ _, .int _ _, .int _ _, .int _ _, .int _ _, .int _ _]) Tryd.underlying35 T5 (by decide) rfl rfl rfl rfl rfl rfl (by intro v hv; simp only [List.mem_cons, List.not_mem_nil, or_false] at hv; rcases hv with rfl | rfl | rfl | rfl | rfl | rfl | rfl | rfl | rfl <;> rfl) rfl (fun b25 w25 e25 s25 x25 B25 => ?_)
    refine RS.norm (by dsimp only [List.set]) ?_
    replace hE := Ext.tr hE x25
    replace K0 := K0.ext x25
    replace OM := OM.ext x25
    replace OE := OE.ext x25
    replace B10 := B10.ext x25
    replace RG := RG.ext x25
    replace B17 := B17.ext x25
    replace B21 := B21.ext x25
    have zw25 := x25.size
    refine RS.wantB 36 rfl rfl rfl ?_
    refine RS.call E22 (sameBytes _ _ _ _ _ _ _ _ _ OE.row (IRow.of_blk (S := fun k => k = b25) B25 rfl rfl rfl (.cons (by decide) (.cons (by decide) (.cons (by decide) (.cons (by decide) (.cons (by decide) (.cons (by decide) (.cons (by decide) (.cons (by decide) (.cons (by decide) (.nil _))))))))))) (by rw [← OE.len]; decide +kernel) (by decide)) rfl (fun v26 w26 x26 A26 => ?_)
    replace hE := Ext.tr hE x26
    replace K0 := K0.ext x26
    replace OM := OM.ext x26
    replace OE := OE.ext x26
    replace B10 := B10.ext x26
    replace RG := RG.ext x26
    replace B17 := B17.ext x26
    replace B21 := B21.ext x26
    replace B25 := B25.ext x26
    have zw26 := x26.size
    subst A26
    refine RS.norm (by dsimp only [List.set]) ?_
    refine RS.pick (v := .bool _) rfl rfl ?_
    refine RS.move (v := .bool _) rfl ?_
    refine RS.splitb 41 rfl rfl (fun c27 => ?_) (fun c27 => ?_)
    ·refine RS.norm (by dsimp only [List.set]) ?_
     refine RS.wantB 41 rfl rfl rfl ?_
     refine RS.o (D.loadAgg rfl Tryd.underlying32 rfl C32 (by decide) rfl (B10.cellsN 11 rfl)) ?_
     refine RS.wantB 41 rfl rfl rfl ?_
     refine RS.call E20 (checkO S.wrongO S.wrong_ok _ _ _ (WRow.nil (S := fun _ => False)) (Nat.le_refl _)) rfl (fun v28 w28 x28 A28 => ?_)
     replace hE := Ext.tr hE x28
     replace K0 := K0.ext x28
     replace OM := OM.ext x28
     replace OE := OE.ext x28
     replace B10 := B10.ext x28
     replace RG := RG.ext x28
     replace B17 := B17.ext x28
     replace B21 := B21.ext x28
     replace B25 := B25.ext x28
     have zw28 := x28.size
     subst A28
     rw [S.wrong_check]
     refine RS.norm (by dsimp only [List.set]) ?_
     refine RS.wantB 41 rfl rfl rfl ?_
     refine RS.o (D.eq rfl rfl) ?_
     refine RS.pick (v := .bool _) rfl rfl ?_
     refine RS.move (v := .bool _) rfl ?_
     refine RS.splite 46 rfl rfl (fun c29 => ?_) (fun c29 => ?_)
     ·refine RS.norm (by dsimp only [List.set]) ?_
      refine RS.wantB 46 rfl rfl rfl ?_
      refine RS.move (v := .int _ _) rfl ?_
      refine RS.wantB 46 rfl rfl rfl ?_
      refine RS.o (D.eq rfl rfl) ?_
      refine RS.pick (v := .bool _) rfl rfl ?_
      refine RS.move (v := .bool _) rfl ?_
      refine RS.splite 50 rfl rfl (fun c30 => ?_) (fun c30 => ?_)
      ·refine RS.norm (by dsimp only [List.set]) ?_
       refine RS.wantB 50 rfl rfl rfl ?_
       refine RS.o (D.fieldL 0 rfl Tryd.underlying32 rfl C22 (by decide) rfl) ?_
       refine RS.wantB 50 rfl rfl rfl ?_
       refine RS.o (D.load rfl Tryd.underlying22 rfl (B17.cell rfl)) ?_
       refine RS.wantB 50 rfl rfl rfl ?_
       refine RS.o (D.eq rfl rfl) ?_
       refine RS.pick (v := .bool _) rfl rfl ?_
       refine RS.move (v := .bool _) rfl ?_
       refine RS.splite 55 rfl rfl (fun c31 => ?_) (fun c31 => ?_)
       ·refine RS.norm (by dsimp only [List.set]) ?_
        refine RS.wantB 55 rfl rfl rfl ?_
        refine RS.o (D.loadAgg rfl Tryd.underlying32 rfl C32 (by decide) rfl (B17.cellsN 11 rfl)) ?_
        refine RS.wantB 55 rfl rfl rfl ?_
        refine RS.call E27 (verifyO (S.signS 2 S.givenO) hso _ _ _ _ K0 RG hcn) rfl (fun v32 w32 x32 A32 => ?_)
        replace hE := Ext.tr hE x32
        replace K0 := K0.ext x32
        replace OM := OM.ext x32
        replace OE := OE.ext x32
        replace B10 := B10.ext x32
        replace RG := RG.ext x32
        replace B17 := B17.ext x32
        replace B21 := B21.ext x32
        replace B25 := B25.ext x32
        have zw32 := x32.size
        subst A32
        rw [g7]
        refine RS.norm (by dsimp only [List.set]) ?_
        refine RS.wantB 55 rfl rfl rfl ?_
        refine RS.o (D.eq rfl rfl) ?_
        refine RS.pick (v := .bool _) rfl rfl ?_
        refine RS.assign (v := .bool _) rfl ?_
        refine RS.nil ?_
        refine hK19 _ _ ?_
        try clear hK19
        refine wp_ret ?_
        refine ret (rs := [.tmp 0]) (vs := [.bool _]) (v := (.bool _)) rfl ⟨rfl, trivial⟩ rfl ?_
        exact ⟨_, rfl, hE, rfl⟩
       ·refine RS.norm (by dsimp only [List.set]) ?_
        exact absurd (g1.trans S.pub_two) c31
      ·refine RS.norm (by dsimp only [List.set]) ?_
       exact absurd rfl c30
     ·refine RS.norm (by dsimp only [List.set]) ?_
      exact absurd rfl c29
    ·refine RS.norm (by dsimp only [List.set]) ?_
     exact Bool.noConfusion ((decide_eq_true S.given_enc).symm.trans c27)
   ·refine RS.norm (by dsimp only [List.set]) ?_
    exact absurd rfl c24
  ·refine RS.norm (by dsimp only [List.set]) ?_
   exact Bool.noConfusion ((decide_eq_true S.given_msg).symm.trans c23)
 ·refine RS.norm (by dsimp only [List.set]) ?_
  exact absurd rfl c20
end Go.Proofs.YtiohpiiiapjblaaDoor.W
namespace Go.Proofs.YtiohpiiiapjblaaDoor.S
open G
theorem be_rev : ∀ (k : Nat) (n : Int), 0 ≤ n → n < 256 ^ k → be (leK k n).reverse = n
  | 0, n, h0, h => by simp at h; simp [leK, be]; omega
  | k + 1, n, h0, h => by
    rw [Int.pow_succ] at h
    rw [leK, List.reverse_cons, be_snoc, be_rev k (n / 256) (by omega) (Int.ediv_lt_of_lt_mul (by decide) h)]
    omega
theorem be_low : ∀ (t : List Int) (a : Int), 0 ≤ a → Bd .u8 t → a * 256 ^ t.length ≤ t.foldl (fun a x => a * 256 + x) a
  | [], a, _, _ => by simp
  | x :: t, a, ha, h => by
    have hx := h x List.mem_cons_self
    simp only [lim] at hx
    have := be_low t (a * 256 + x) (by omega) fun y hy => h y (List.mem_cons_of_mem _ hy)
    rw [List.foldl_cons, List.length_cons, Int.pow_succ]
    refine Int.le_trans ?_ this
    rw [Int.mul_comm _ 256, ← Int.mul_assoc]
    exact Int.mul_le_mul_of_nonneg_right (by omega) (Int.pow_nonneg (by decide))
theorem blen_rng (n : Int) (h : 0 < n) (h2 : n < 18446744073709551616) : 256 ^ (blen n - 1) ≤ n ∧ n < 256 ^ blen n := by
  unfold blen
  repeat' split
  all_goals simp
  all_goals omega
/-- A number that is read, and how many bytes it has. -/
def readN (b : List Int) : Option (Int × Nat) :=
  match b with
  | [] => none
  | h :: t => if h ≤ 247 then some (h, 1) else
    if t.length < (h - 247).toNat ∨ t.getD 0 0 = 0 ∨ (h = 248 ∧ t.getD 0 0 ≤ 247) then none else some (be (t.take (h - 247).toNat), (h - 247).toNat + 1)
theorem head_get (l r : List Int) (h : 0 < l.length) : (l ++ r).getD 0 0 = l.getD 0 0 := by
  cases l with
  | nil => simp at h
  | cons a l => rfl
theorem be_head (x : Int) (t : List Int) (hB : Bd .u8 (x :: t)) : x * 256 ^ t.length ≤ be (x :: t) ∧ be (x :: t) < (x + 1) * 256 ^ t.length := by
  have hx := hB x List.mem_cons_self
  have ht : Bd .u8 t := fun y hy => hB y (List.mem_cons_of_mem _ hy)
  have e : be (x :: t) = t.foldl (fun a x => a * 256 + x) x := by simp [be]
  rw [e]
  exact ⟨be_low t x hx.1 ht, (be_go t x hx.1 ht).2⟩
theorem read_num (n : Int) (h0 : 0 ≤ n) (h1 : n < 18446744073709551616) (r : List Int) : readN (numS n ++ r) = some (n, (numS n).length) := by
  by_cases hs : n ≤ 247
  · rw [numS_small n hs]
    simp [readN, hs]
  · rw [numS_large n hs, List.cons_append]
    have hb := blen_rng n (by omega) h1
    have hp := blen_pos n (by omega)
    have hv := be_rev (blen n) n h0 hb.2
    have hl : (leK (blen n) n).reverse.length = blen n := by rw [List.length_reverse, leK_len]
    have hB : Bd .u8 (leK (blen n) n).reverse := fun x hx => leK_bd _ _ x (List.mem_reverse.1 hx)
    generalize (leK (blen n) n).reverse = l at hv hl hB
    have hk : (247 + (blen n : Int) - 247).toNat = blen n := by omega
    have hx : ¬ l.getD 0 0 = 0 ∧ ¬ (247 + (blen n : Int) = 248 ∧ l.getD 0 0 ≤ 247) := by
      cases l with
      | nil => simp at hl; omega
      | cons x t =>
        have hh := be_head x t hB
        rw [hv] at hh
        simp only [List.length_cons] at hl
        rw [show t.length = blen n - 1 by omega] at hh
        simp only [List.getD_cons_zero]
        refine ⟨fun e => ?_, fun e => ?_⟩
        · rw [e] at hh; omega
        · rw [show blen n - 1 = 0 by omega] at hh; simp at hh; omega
    simp only [readN, hk, head_get l r (by omega)]
    rw [if_neg (by omega), if_neg, ← hl, List.take_left, hv]
    · rfl
    · rintro (h | h | h)
      · rw [List.length_append] at h; omega
      · exact hx.1 h
      · exact hx.2 h
/-- A string that is read, and how many bytes were read. -/
def readB (most : Int) (b : List Int) : Option (List Int × Nat) :=
  match readN b with
  | some (n, u) => if n ≤ most ∧ n ≤ (b.length : Int) - u then some ((b.drop u).take n.toNat, u + n.toNat) else none
  | none => none
theorem readB_num (most : Int) (s r : List Int) (h : (s.length : Int) ≤ most) (hm : s.length < 18446744073709551616) : readB most (numS s.length ++ s ++ r) = some (s, (numS s.length).length + s.length) := by
  unfold readB
  rw [List.append_assoc, read_num _ (by omega) (by omega)]
  simp only [List.length_append]
  rw [if_pos (by omega), List.drop_left, show ((s.length : Int)).toNat = s.length from rfl, List.take_left]
/-- A list of ids that is read. -/
def readI (most : Int) (b : List Int) : Option (Nat × List Int × Nat) :=
  match readN b with
  | some (n, u) => if n ≤ most ∧ n ≤ ((b.length : Int) - u) / 32 ∧ Rising n.toNat ((b.drop u).take (32 * n.toNat)) then some (n.toNat, (b.drop u).take (32 * n.toNat), u + 32 * n.toNat) else none
  | none => none
theorem readI_num (most : Int) (n : Nat) (ids r : List Int) (h : (n : Int) ≤ most) (hm : n < 18446744073709551616) (hl : ids.length = 32 * n) (hr : Rising n ids) : readI most (listS n ids ++ r) = some (n, ids, (listS n ids).length) := by
  unfold readI listS
  rw [List.append_assoc, read_num _ (by omega) (by omega)]
  simp only [List.length_append]
  rw [List.drop_left, show ((n : Int)).toNat = n from rfl, ← hl, List.take_left, if_pos ⟨h, by omega, hr⟩]
end Go.Proofs.YtiohpiiiapjblaaDoor.S
namespace Go.Proofs.YtiohpiiiapjblaaDoor.S
open G
def unzig (z : Int) : Int := if z % 2 = 0 then z / 2 else - (z / 2) - 1
theorem unzig_zig (n : Int) : unzig (zig n) = n := by unfold unzig zig; repeat' split <;> omega
theorem be8_rev (n : Int) : be8 n = (leK 8 n).reverse := by
  apply List.ext_getElem
  · rw [be8_len, List.length_reverse, leK_len]
  intro i h1 h2
  rw [be8_len] at h1
  have g1 := be8_get n i h1
  have g2 := leK_get 8 n (7 - i) (by omega)
  rw [List.getD_eq_getElem?_getD, List.getElem?_eq_getElem (by rw [be8_len]; exact h1), Option.getD_some] at g1
  rw [List.getD_eq_getElem?_getD, List.getElem?_eq_getElem (by rw [leK_len]; omega), Option.getD_some] at g2
  have e : (leK 8 n).length - 1 - i = 7 - i := by rw [leK_len]
  rw [g1, List.getElem_reverse]
  simp only [e]
  rw [g2, show 8 * (7 - i) = 56 - 8 * i by omega]
theorem be_be8 (n : Int) (h : 0 ≤ n ∧ n < 18446744073709551616) : be (be8 n) = n := by
  rw [be8_rev]
  exact be_rev 8 n h.1 (by simp; omega)
/-- What of a value is read behind its kind. -/
def valR (k : Int) (r : List Int) : Option (Int × Int × ByteArray × Nat) :=
  if k = 1 then (readN r).bind fun x => some (unzig x.1, 0, ByteArray.empty, x.2)
  else if k = 2 then (if r.length < 8 then none else some (0, be (r.take 8), ByteArray.empty, 8))
  else if k = 3 then (readB 30 r).bind fun x => some (0, 0, strOfNums x.1, x.2)
  else some (0, 0, ByteArray.empty, 0)
/-- A value that is read. -/
def valD (b : List Int) : Option (Int × Int × Int × ByteArray × Nat) :=
  match b with
  | [] => none
  | k :: r => (valR k r).bind fun x => if FineV k x.1 x.2.1 x.2.2.1 then some (k, x.1, x.2.1, x.2.2.1, x.2.2.2 + 1) else none
theorem val_num {k num bits : Int} {t : ByteArray} (r : List Int) (hF : FineV k num bits t) (hn : -9223372036854775808 ≤ num ∧ num ≤ 9223372036854775807) (hb : 0 ≤ bits ∧ bits < 18446744073709551616) :
    valD (valS k num bits t ++ r) = some (k, num, bits, t, (valS k num bits t).length) := by
  have hF' := hF
  rcases hF with ⟨rfl, rfl, rfl⟩ | ⟨rfl, rfl, rfl, hc⟩ | ⟨rfl, rfl, rfl, ht, ha⟩
  · have hz := zig_bd num hn
    simp only [valS, if_true, List.cons_append, List.nil_append, valD, valR]
    rw [read_num _ hz.1 hz.2]
    simp only [Option.bind_some, unzig_zig, if_pos hF', List.length_cons]
  · simp only [valS, show ¬ (2 : Int) = 1 by decide, if_true, if_false, List.cons_append, List.nil_append, valD, valR, List.length_append, be8_len]
    rw [if_neg (by omega), List.take_append_of_le_length (by rw [be8_len]; exact Nat.le_refl _), List.take_of_length_le (by rw [be8_len]; exact Nat.le_refl _), be_be8 _ hb]
    simp only [Option.bind_some, if_pos hF', List.length_cons, be8_len]
  · simp only [valS, show ¬ (3 : Int) = 1 by decide, show ¬ (3 : Int) = 2 by decide, if_true, if_false, List.cons_append, List.nil_append, valD, valR]
    have := readB_num 30 (bys t) r (by rw [bys_len]; omega) (by rw [bys_len]; omega)
    rw [bys_len] at this
    rw [this]
    simp only [Option.bind_some, strOf_bys, if_pos hF', List.length_cons, List.length_append, bys_len]
/-- Readers that leave the rest. -/
def oneR (b : List Int) : Option (Int × List Int) :=
  match b with
  | [] => none
  | x :: t => some (x, t)
def numR (b : List Int) : Option (Int × List Int) := (readN b).bind fun r => some (r.1, b.drop r.2)
def idsR (b : List Int) : Option (Nat × List Int × List Int) := (readI 4 b).bind fun r => some (r.1, r.2.1, b.drop r.2.2)
def keyR (b : List Int) : Option (ByteArray × List Int) := (readB 20 b).bind fun r => some (strOfNums r.1, b.drop r.2)
structure ActV where
  (vk num bits : Int) (key t : ByteArray)
def valV (key : ByteArray) (b : List Int) : Option (ActV × List Int) := (valD b).bind fun r => some (⟨r.1, r.2.1, r.2.2.1, key, r.2.2.2.1⟩, b.drop r.2.2.2.2)
def actR (k : Int) (b : List Int) : Option (ActV × List Int) :=
  if k = 1 then some (⟨0, 0, 0, .empty, .empty⟩, b)
  else (keyR b).bind fun r => if k = 4 then valV r.1 r.2 else some (⟨0, 0, 0, r.1, .empty⟩, r.2)
/-- AN OPERATION THAT IS READ. -/
def decS (b : List Int) : Option OpV :=
  (oneR b).bind fun h => if h.1 = 111 then (numR h.2).bind fun a => (idsR a.2).bind fun l => (numR l.2.2).bind fun t => (oneR t.2).bind fun k => (actR k.1 k.2).bind fun x => (numR x.2).bind fun e => (numR e.2).bind fun s =>
    if s.2 = [] ∧ checkE ⟨a.1, t.1, k.1, x.1.vk, x.1.num, x.1.bits, e.1, s.1, l.1, l.2.1, x.1.key, x.1.t⟩ = 0 then some ⟨a.1, t.1, k.1, x.1.vk, x.1.num, x.1.bits, e.1, s.1, l.1, l.2.1, x.1.key, x.1.t⟩ else none
  else none
theorem num_R (n : Int) (h0 : 0 ≤ n) (h1 : n < 18446744073709551616) (r : List Int) : numR (numS n ++ r) = some (n, r) := by
  unfold numR
  rw [read_num n h0 h1]
  simp
theorem ids_R (n : Nat) (ids r : List Int) (h : n ≤ 4) (hl : ids.length = 32 * n) (hr : Rising n ids) : idsR (listS n ids ++ r) = some (n, ids, r) := by
  unfold idsR
  rw [readI_num 4 n ids r (by omega) (by omega) hl hr]
  simp
theorem key_R (s : ByteArray) (r : List Int) (h : s.size ≤ 20) : keyR ((numS s.size ++ bys s) ++ r) = some (s, r) := by
  unfold keyR
  have := readB_num 20 (bys s) r (by rw [bys_len]; omega) (by rw [bys_len]; omega)
  rw [bys_len] at this
  rw [this]
  simp only [Option.bind_some, strOf_bys]
  rw [← bys_len s, ← List.length_append, List.drop_left]
theorem val_V {k num bits : Int} {t : ByteArray} (key : ByteArray) (r : List Int) (hF : FineV k num bits t) (hn : -9223372036854775808 ≤ num ∧ num ≤ 9223372036854775807) (hb : 0 ≤ bits ∧ bits < 18446744073709551616) : valV key (valS k num bits t ++ r) = some (⟨k, num, bits, key, t⟩, r) := by
  unfold valV
  rw [val_num r hF hn hb]
  simp
/-- The bytes of an act, behind its kind. -/
def actS (k : Int) (x : ActV) : List Int := if k = 1 then [] else (numS x.key.size ++ bys x.key) ++ (if k = 4 then valS x.vk x.num x.bits x.t else [])
theorem act_R (k : Int) (x : ActV) (r : List Int) (hF : FineAct k x.key x.vk x.num x.bits x.t) (hn : -9223372036854775808 ≤ x.num ∧ x.num ≤ 9223372036854775807) (hb : 0 ≤ x.bits ∧ x.bits < 18446744073709551616) : actR k (actS k x ++ r) = some (x, r) := by
  obtain ⟨vk, num, bits, key, t⟩ := x
  unfold actR actS
  rcases hF with ⟨rfl, rfl, rfl, rfl, rfl, rfl⟩ | ⟨hk, hK, rfl, rfl, rfl, rfl⟩ | ⟨rfl, hK, hV⟩
  · simp
  · rw [if_neg (by omega), if_neg (by omega), if_neg (by omega), List.append_nil, key_R _ _ hK.2.1]
    simp only [Option.bind_some]
    rw [if_neg (by omega)]
  · rw [if_neg (by omega), if_neg (by omega), if_pos rfl, List.append_assoc, key_R _ _ hK.2.1]
    simp only [Option.bind_some, if_true]
    exact val_V _ _ hV hn hb
def OpV.act (o : OpV) : ActV := ⟨o.vk, o.num, o.bits, o.key, o.t⟩
theorem enc_eq (o : OpV) : encS o = 111 :: (numS o.au ++ (listS o.n o.ids ++ (numS o.st ++ (o.k :: (actS o.k o.act ++ (numS o.e ++ numS o.s)))))) := by
  simp only [encS, msgS, actS, OpV.act, List.append_assoc, List.cons_append, List.nil_append]
/-- What the bytes of a valid operation are read as. -/
theorem dec_enc {o : OpV} (ho : o.rng) (hl : o.ids.length = 32 * o.n) (hc : checkE o = 0) : decS (encS o) = some o := by
  obtain ⟨c1, c2, c3⟩ := check_zero.1 hc
  have h1 := ho.au
  have h2 := ho.e
  have h3 := ho.s
  unfold decS
  rw [enc_eq]
  simp only [oneR, Option.bind_some, if_true]
  rw [num_R _ h1.1 (by omega)]
  simp only [Option.bind_some]
  rw [ids_R _ _ _ c1 hl c2]
  simp only [Option.bind_some]
  rw [num_R _ ho.st.1 ho.st.2]
  simp only [Option.bind_some]
  rw [act_R o.k o.act _ c3.2.2.2.2 ho.num ho.bits]
  simp only [Option.bind_some]
  rw [num_R _ h2.1 (by omega)]
  simp only [Option.bind_some]
  rw [show numS o.s = numS o.s ++ [] from (List.append_nil _).symm, num_R _ h3.1 (by omega)]
  simp only [Option.bind_some]
  exact if_pos ⟨trivial, hc⟩
theorem enc_inj {o p : OpV} (ho : o.rng) (hp : p.rng) (hl : o.ids.length = 32 * o.n) (hm : p.ids.length = 32 * p.n) (hc : checkE o = 0) (hd : checkE p = 0) (h : encS o = encS p) : o = p := by
  have h1 := dec_enc ho hl hc
  rw [h, dec_enc hp hm hd] at h1
  exact (Option.some.inj h1).symm
theorem OpV.bare_rng {o : OpV} (h : o.rng) : o.bare.rng := ⟨h.au, h.st, h.k, h.vk, h.num, h.bits, ⟨(by decide : (0 : Int) ≤ 0), (by decide : (0 : Int) < 4294967296)⟩, ⟨(by decide : (0 : Int) ≤ 0), (by decide : (0 : Int) < 4294967296)⟩⟩
theorem msg_inj {o p : OpV} (ho : o.rng) (hp : p.rng) (hl : o.ids.length = 32 * o.n) (hm : p.ids.length = 32 * p.n) (hc : checkE o = 0) (hd : checkE p = 0) (h : msgS o = msgS p) : o.bare = p.bare := by
  refine enc_inj (OpV.bare_rng ho) (OpV.bare_rng hp) hl hm (check_bare hc) (check_bare hd) ?_
  unfold encS
  rw [msg_bare, msg_bare, h]
  rfl
end Go.Proofs.YtiohpiiiapjblaaDoor.S
namespace Go.Proofs.YtiohpiiiapjblaaDoor.S
open G
/-- An operation with another signature. -/
def OpV.sig (o : OpV) (e s : Int) : OpV := { o with e := e, s := s }
theorem OpV.sig_ok {o : OpV} (h : o.ok) {e s : Int} (he : 0 ≤ e ∧ e < 4294967296) (hs : 0 ≤ s ∧ s < 4294967296) : (o.sig e s).ok := ⟨h.au, h.st, h.k, h.vk, h.num, h.bits, he, hs, h.n, h.key, h.t⟩
theorem enc_ge (o : OpV) : (msgS o).length ≤ (encS o).length := by unfold encS; rw [List.append_assoc, List.length_append]; omega
theorem enc_pre (o : OpV) (n : Nat) (h : (msgS o).length = n) : ((encS o).drop 0).take (n - 0) = msgS o := by
  subst h
  unfold encS
  rw [List.drop_zero, Nat.sub_zero, List.append_assoc, List.take_left]
theorem beq_dec {p q : Prop} [Decidable p] [Decidable q] (h : p ↔ q) : (decide p == decide q) = true := by
  by_cases hp : p <;> by_cases hq : q <;> simp_all
theorem differ {o p : OpV} (ho : o.rng) (hp : p.rng) (hl : o.ids.length = 32 * o.n) (hm : p.ids.length = 32 * p.n) (hc : checkE o = 0) (hd : checkE p = 0) (e s : Int) : msgS o = msgS p ↔ SameO (o.sig e s) (p.sig e s) := by
  constructor
  · intro h
    have hb := msg_inj ho hp hl hm hc hd h
    have g0 : o.bare.au = p.bare.au := congrArg OpV.au hb
    have g1 : o.bare.ids = p.bare.ids := congrArg OpV.ids hb
    have g2 : o.bare.st = p.bare.st := congrArg OpV.st hb
    have g3 : o.bare.k = p.bare.k := congrArg OpV.k hb
    have g4 : o.bare.key = p.bare.key := congrArg OpV.key hb
    have g5 : o.bare.vk = p.bare.vk := congrArg OpV.vk hb
    have g6 : o.bare.num = p.bare.num := congrArg OpV.num hb
    have g7 : o.bare.bits = p.bare.bits := congrArg OpV.bits hb
    have g8 : o.bare.t = p.bare.t := congrArg OpV.t hb
    exact ⟨g0, g1, g2, ⟨g3, g4, g5, g6, g7, g8⟩, rfl, rfl⟩
  · rintro ⟨h1, h2, h3, ⟨h4, h5, h6, h7, h8, h9⟩, _⟩
    simp only [OpV.sig] at h1 h2 h3 h4 h5 h6 h7 h8 h9
    have hn : o.n = p.n := by rw [h2] at hl; omega
    unfold msgS
    rw [h1, h2, h3, h4, h5, h6, h7, h8, h9, hn]
/-- A state of the reader: whether an error was met, and what is left. -/
def numB (most : Int) (bad : Bool) (b : List Int) : Int × Bool × List Int :=
  match numR b with
  | some x => (x.1, bad || decide (most < x.1), x.2)
  | none => (0, true, b)
def oneB (bad : Bool) (b : List Int) : Int × Bool × List Int :=
  if bad then (0, true, b) else match b with
  | [] => (0, true, [])
  | x :: t => (x, false, t)
def idsB (bad : Bool) (b : List Int) : Nat × List Int × Bool × List Int :=
  match idsR b with
  | some x => (x.1, x.2.1, bad, x.2.2)
  | none => (0, [], true, b)
def keyB (bad : Bool) (b : List Int) : ByteArray × Bool × List Int :=
  match keyR b with
  | some x => (x.1, bad, x.2)
  | none => (.empty, true, b)
def valB (key : ByteArray) (bad : Bool) (b : List Int) : ActV × Bool × List Int :=
  match valV key b with
  | some x => (x.1, bad, x.2)
  | none => (⟨0, 0, 0, key, .empty⟩, true, b)
def actB (k : Int) (bad : Bool) (b : List Int) : ActV × Bool × List Int :=
  if k = 1 then (⟨0, 0, 0, .empty, .empty⟩, bad, b)
  else if k = 4 then valB (keyB bad b).1 (keyB bad b).2.1 (keyB bad b).2.2
  else (⟨0, 0, 0, (keyB bad b).1, .empty⟩, (keyB bad b).2.1, (keyB bad b).2.2)
/-- What the program reads, step by step. -/
structure Steps (b : List Int) where
  (h : Int × Bool × List Int) (a : Int × Bool × List Int) (l : Nat × List Int × Bool × List Int) (t k : Int × Bool × List Int) (x : ActV × Bool × List Int) (e s : Int × Bool × List Int)
  eh : h = oneB false b
  ea : a = numB 1000000007 h.2.1 h.2.2
  el : l = idsB a.2.1 a.2.2
  et : t = numB 1000000000000 l.2.2.1 l.2.2.2
  ek : k = oneB t.2.1 t.2.2
  ex : x = actB k.1 k.2.1 k.2.2
  ee : e = numB 500000003 x.2.1 x.2.2
  es : s = numB 500000003 e.2.1 e.2.2
def Steps.op {b : List Int} (p : Steps b) : OpV := ⟨p.a.1 % 4294967296, p.t.1, p.k.1, p.x.1.vk, p.x.1.num, p.x.1.bits, p.e.1 % 4294967296, p.s.1 % 4294967296, p.l.1, p.l.2.1, p.x.1.key, p.x.1.t⟩
end Go.Proofs.YtiohpiiiapjblaaDoor.S
namespace Go.Proofs.YtiohpiiiapjblaaDoor.W
open Go.RowKit Go.Proofs.YtiohpiiiapjblaaDoor.G
set_option linter.unusedVariables false
set_option maxRecDepth 20000
set_option maxHeartbeats 8000000
attribute [local irreducible] RS RX
theorem E24 : Enters Tryd.prog 24 := .mk Tryd.func24 (by kernel_rfl) rfl
theorem E29 : Enters Tryd.prog 29 := .mk Tryd.func29 (by kernel_rfl) rfl
theorem opDiffer {S0 S1 : Nat → Prop} (o : S.OpV) (hr : o.rng) (pa : Option Addr) (pc : Nat) (p : S.OpV) (hq : p.rng) (qa : Option Addr) (qc : Nat) (e s : Int) (he : 0 ≤ e ∧ e < 4294967296) (hs : 0 ≤ s ∧ s < 4294967296) (TK : TypeId) (w : World) (K0 : Kst w TK) (D0 : WRow .u8 32 S0 w pa o.n o.ids) (hc : o.n ≤ pc) (D1 : WRow .u8 32 S1 w qa p.n p.ids) (hd : p.n ≤ qc) :
  Calls Tryd.prog 5 #[.agg ([.int .u32 o.au, .slice pa o.n pc, .int .u64 o.st, .int .u8 o.k, .string o.key, .int .u8 o.vk, .int .i64 o.num, .int .u64 o.bits, .string o.t, .int .u32 o.e, .int .u32 o.s] : List Value).toArray, .agg ([.int .u32 p.au, .slice qa p.n qc, .int .u64 p.st, .int .u8 p.k, .string p.key, .int .u8 p.vk, .int .i64 p.num, .int .u64 p.bits, .string p.t, .int .u32 p.e, .int .u32 p.s] : List Value).toArray, .agg ([.int .u32 e, .int .u32 s] : List Value).toArray] w (Ret w fun v _ => v = .bool true) := by
 replace D0 := D0.weaken (T := fun k => k < w.heap.size) (fun k hk _ => hk)
 replace D1 := D1.weaken (T := fun k => k < w.heap.size) (fun k hk _ => hk)
 have el1 := D0.len
 have el2 := D1.len
 have hKl := K0.lt
 have hE := Ext.refl w
 refine enter (args := [.agg ([.int .u32 o.au, .slice pa o.n pc, .int .u64 o.st, .int .u8 o.k, .string o.key, .int .u8 o.vk, .int .i64 o.num, .int .u64 o.bits, .string o.t, .int .u32 o.e, .int .u32 o.s] : List Value).toArray, .agg ([.int .u32 p.au, .slice qa p.n qc, .int .u64 p.st, .int .u8 p.k, .string p.key, .int .u8 p.vk, .int .i64 p.num, .int .u64 p.bits, .string p.t, .int .u32 p.e, .int .u32 p.s] : List Value).toArray, .agg ([.int .u32 e, .int .u32 s] : List Value).toArray]) (l := [.agg ([.int .u32 o.au, .slice pa o.n pc, .int .u64 o.st, .int .u8 o.k, .string o.key, .int .u8 o.vk, .int .i64 o.num, .int .u64 o.bits, .string o.t, .int .u32 o.e, .int .u32 o.s] : List Value).toArray, .agg ([.int .u32 p.au, .slice qa p.n qc, .int .u64 p.st, .int .u8 p.k, .string p.key, .int .u8 p.vk, .int .i64 p.num, .int .u64 p.bits, .string p.t, .int .u32 p.e, .int .u32 p.s] : List Value).toArray, .agg ([.int .u32 e, .int .u32 s] : List Value).toArray, undef, undef, undef, undef, undef, undef, undef, undef, undef, undef, undef, undef, undef, undef, undef, undef, undef, undef, undef, undef, undef, undef, undef, undef, undef, undef, undef, undef, undef, undef, undef, undef, undef, undef, undef, undef, undef, undef, undef, undef, undef, undef, undef, undef, undef, undef, undef, undef, undef, undef, undef, undef, undef, undef, undef, undef, undef, undef, undef, undef, undef, undef, undef, undef, undef, undef, undef, undef, undef, undef, undef, undef, undef, undef, undef, undef, undef, undef, undef, undef, undef, undef, undef, undef, undef, undef, undef, undef, undef, undef]) Tryd.func5 rfl rfl ?_
 refine wp_seq_k (fun K1 hK1 => ?_)
 refine region ?_
 refine RS.box rfl rfl (fun b2 w2 e2 s2 x2 B2 => ?_)
 refine RS.norm (by dsimp only [List.set]) ?_
 replace hE := Ext.tr hE x2
 replace K0 := K0.ext x2
 replace D0 := D0.ext x2
 replace D1 := D1.ext x2
 have zw2 := x2.size
 refine RS.box rfl rfl (fun b3 w3 e3 s3 x3 B3 => ?_)
 refine RS.norm (by dsimp only [List.set]) ?_
 replace hE := Ext.tr hE x3
 replace K0 := K0.ext x3
 replace D0 := D0.ext x3
 replace D1 := D1.ext x3
 replace B2 := B2.ext x3
 have zw3 := x3.size
 refine RS.box rfl rfl (fun b4 w4 e4 s4 x4 B4 => ?_)
 refine RS.norm (by dsimp only [List.set]) ?_
 replace hE := Ext.tr hE x4
 replace K0 := K0.ext x4
 replace D0 := D0.ext x4
 replace D1 := D1.ext x4
 replace B2 := B2.ext x4
 replace B3 := B3.ext x4
 have zw4 := x4.size
 refine RS.assign (v := .bool false) rfl ?_
 refine RS.nil ?_
 refine hK1 _ _ ?_
 try clear hK1
 refine wp_seq_k (fun K5 hK5 => ?_)
 refine wp_seq_k (fun K6 hK6 => ?_)
 refine region ?_
 refine RS.o (D.loadAgg rfl Tryd.underlying32 rfl C32 (by decide) rfl (B2.cellsN 11 rfl)) ?_
 refine RS.call E29 (fitW o hr _ _ _ D0 hc) rfl (fun v7 w7 x7 A7 => ?_)
 replace hE := Ext.tr hE x7
 replace K0 := K0.ext x7
 replace D0 := D0.ext x7
 replace D1 := D1.ext x7
 replace B2 := B2.ext x7
 replace B3 := B3.ext x7
 replace B4 := B4.ext x7
 have zw7 := x7.size
 subst A7
 refine RS.norm (by dsimp only [List.set]) ?_
 refine RS.o (D.not rfl) ?_
 refine RS.move (v := .bool _) rfl ?_
 refine RS.splitnot 18 rfl rfl (fun c8 => ?_) (fun c8 => ?_)
 ·refine RS.norm (by dsimp only [List.set]) ?_
  refine RS.skipB (b := true) 18 rfl rfl rfl rfl ?_
  refine RS.norm (by dsimp only [putL, List.set]) ?_
  refine RS.skipB (b := true) 18 rfl rfl rfl rfl ?_
  refine RS.norm (by dsimp only [putL, List.set]) ?_
  refine RS.skipB (b := true) 18 rfl rfl rfl rfl ?_
  refine RS.norm (by dsimp only [putL, List.set]) ?_
  refine RS.pick (v := .bool true) rfl rfl ?_
  refine RS.nil ?_
  refine hK6 _ _ ?_
  try clear hK6
  refine C.ift rfl ?_
  refine wp_seq_k (fun K9 hK9 => ?_)
  refine region ?_
  refine RS.call E24 (aliveW _ _ K0) rfl (fun v10 w10 x10 A10 => ?_)
  replace hE := Ext.tr hE x10
  replace K0 := K0.ext x10
  replace D0 := D0.ext x10
  replace D1 := D1.ext x10
  replace B2 := B2.ext x10
  replace B3 := B3.ext x10
  replace B4 := B4.ext x10
  have zw10 := x10.size
  subst A10
  refine RS.norm (by dsimp only [List.set]) ?_
  refine RS.assign (v := .bool _) rfl ?_
  refine RS.nil ?_
  refine hK9 _ _ ?_
  try clear hK9
  refine wp_ret ?_
  refine ret (rs := [.tmp 6]) (vs := [.bool _]) (v := (.bool _)) rfl ⟨rfl, trivial⟩ rfl ?_
  exact ⟨_, rfl, hE, rfl⟩
 ·refine RS.norm (by dsimp only [List.set]) ?_
  have hF := of_decide_eq_true c8
  have ho : o.ok := hr.ok hF.1
  have ml1 := S.msg_len o ho (S.check_zero.1 hF.2).1 el1
  refine RS.wantB 18 rfl rfl rfl ?_
  refine RS.o (D.loadAgg rfl Tryd.underlying32 rfl C32 (by decide) rfl (B3.cellsN 11 rfl)) ?_
  refine RS.wantB 18 rfl rfl rfl ?_
  refine RS.call E29 (fitW p hq _ _ _ D1 hd) rfl (fun v11 w11 x11 A11 => ?_)
  replace hE := Ext.tr hE x11
  replace K0 := K0.ext x11
  replace D0 := D0.ext x11
  replace D1 := D1.ext x11
  replace B2 := B2.ext x11
  replace B3 := B3.ext x11
  replace B4 := B4.ext x11
  have zw11 := x11.size
  subst A11
  refine RS.norm (by dsimp only [List.set]) ?_
  refine RS.wantB 18 rfl rfl rfl ?_
  refine RS.o (D.not rfl) ?_
  refine RS.pick (v := .bool _) rfl rfl ?_
  refine RS.nil ?_
  refine hK6 _ _ ?_
  try clear hK6
  refine C.ifnot rfl (fun c12 => ?_) (fun c12 => ?_)
  ·refine wp_seq_k (fun K13 hK13 => ?_)
   refine region ?_
   refine RS.call E24 (aliveW _ _ K0) rfl (fun v14 w14 x14 A14 => ?_)
   replace hE := Ext.tr hE x14
   replace K0 := K0.ext x14
   replace D0 := D0.ext x14
   replace D1 := D1.ext x14
   replace B2 := B2.ext x14
   replace B3 := B3.ext x14
   replace B4 := B4.ext x14
   have zw14 := x14.size
   subst A14
   refine RS.norm (by dsimp only [List.set]) ?_
   refine RS.assign (v := .bool _) rfl ?_
   refine RS.nil ?_
   refine hK13 _ _ ?_
   try clear hK13
   refine wp_ret ?_
   refine ret (rs := [.tmp 6]) (vs := [.bool _]) (v := (.bool _)) rfl ⟨rfl, trivial⟩ rfl ?_
   exact ⟨_, rfl, hE, rfl⟩
  ·have hG := of_decide_eq_true c12
   have hp : p.ok := hq.ok hG.1
   have ml2 := S.msg_len p hp (S.check_zero.1 hG.2).1 el2
   have hso := S.OpV.sig_ok ho he hs
   have hsp := S.OpV.sig_ok hp he hs
   have hdf := S.differ hr hq el1 el2 hF.2 hG.2 e s
   have ge := S.enc_ge o
   refine wp_skip ?_
   refine hK5 _ _ ?_
   try clear hK5
   refine wp_seq_k (fun K15 hK15 => ?_)
   refine region ?_
   refine RS.o (D.loadAgg rfl Tryd.underlying32 rfl C32 (by decide) rfl (B2.cellsN 11 rfl)) ?_
   refine RS.call E12 (messageO o ho _ _ _ D0 hc) rfl (fun v16 w16 x16 A16 => ?_)
   replace hE := Ext.tr hE x16
   replace K0 := K0.ext x16
   replace D0 := D0.ext x16
   replace D1 := D1.ext x16
   replace B2 := B2.ext x16
   replace B3 := B3.ext x16
   replace B4 := B4.ext x16
   have zw16 := x16.size
   obtain ⟨aOM, nOM, cOM, xsOM, rfl, OM, hxs⟩ := A16
   rw [if_pos (S.check_bare hF.2)] at hxs
   rw [show S.checkE o.bare = 0 from (S.check_bare hF.2)]
   replace hxs : xsOM = S.msgS o := hxs
   subst hxs
   have hOM := OM.lo
   have lOM := OM.len
   refine RS.norm (by dsimp only [List.set]) ?_
   refine RS.move (v := .tuple _) rfl ?_
   refine RS.extract (v := .slice _ _ _) rfl rfl ?_
   refine RS.extract (v := .int _ _) rfl rfl ?_
   refine RS.assign (v := .slice _ _ _) rfl ?_
   refine RS.assign (v := .int _ _) rfl ?_
   refine RS.nil ?_
   refine hK15 _ _ ?_
   try clear hK15
   refine wp_seq_k (fun K17 hK17 => ?_)
   refine region ?_
   refine RS.o (D.loadAgg rfl Tryd.underlying32 rfl C32 (by decide) rfl (B3.cellsN 11 rfl)) ?_
   refine RS.call E12 (messageO p hp _ _ _ D1 hd) rfl (fun v18 w18 x18 A18 => ?_)
   replace hE := Ext.tr hE x18
   replace K0 := K0.ext x18
   replace D0 := D0.ext x18
   replace D1 := D1.ext x18
   replace B2 := B2.ext x18
   replace B3 := B3.ext x18
   replace B4 := B4.ext x18
   replace OM := OM.ext x18
   have zw18 := x18.size
   obtain ⟨aON, nON, cON, xsON, rfl, ON, hxs⟩ := A18
   rw [if_pos (S.check_bare hG.2)] at hxs
   rw [show S.checkE p.bare = 0 from (S.check_bare hG.2)]
   replace hxs : xsON = S.msgS p := hxs
   subst hxs
   have hON := ON.lo
   have lON := ON.len
   refine RS.norm (by dsimp only [List.set]) ?_
   refine RS.move (v := .tuple _) rfl ?_
   refine RS.extract (v := .slice _ _ _) rfl rfl ?_
   refine RS.extract (v := .int _ _) rfl rfl ?_
   refine RS.assign (v := .slice _ _ _) rfl ?_
   refine RS.assign (v := .int _ _) rfl ?_
   refine RS.nil ?_
   refine hK17 _ _ ?_
   try clear hK17
   refine wp_seq_k (fun K19 hK19 => ?_)
   refine region ?_
   refine RS.o (D.loadAgg rfl Tryd.underlying32 rfl C32 (by decide) rfl (B2.cellsN 11 rfl)) ?_
   refine RS.call E14 (encodeO o ho _ _ _ D0 hc) rfl (fun v20 w20 x20 A20 => ?_)
   replace hE := Ext.tr hE x20
   replace K0 := K0.ext x20
   replace D0 := D0.ext x20
   replace D1 := D1.ext x20
   replace B2 := B2.ext x20
   replace B3 := B3.ext x20
   replace B4 := B4.ext x20
   replace OM := OM.ext x20
   replace ON := ON.ext x20
   have zw20 := x20.size
   obtain ⟨aOE, nOE, cOE, xsOE, rfl, OE, hxs⟩ := A20
   rw [if_pos hF.2] at hxs
   rw [show S.checkE o = 0 from hF.2]
   replace hxs : xsOE = S.encS o := hxs
   subst hxs
   have hOE := OE.lo
   have lOE := OE.len
   have pOE := OE.own.pre
   refine RS.norm (by dsimp only [List.set]) ?_
   refine RS.move (v := .tuple _) rfl ?_
   refine RS.extract (v := .slice _ _ _) rfl rfl ?_
   refine RS.extract (v := .int _ _) rfl rfl ?_
   refine RS.assign (v := .slice _ _ _) rfl ?_
   refine RS.assign (v := .int _ _) rfl ?_
   refine RS.nil ?_
   refine hK19 _ _ ?_
   try clear hK19
   refine wp_seq_k (fun K21 hK21 => ?_)
   refine wp_seq_k (fun K22 hK22 => ?_)
   refine region ?_
   refine RS.move (v := .int _ _) rfl ?_
   refine RS.o (D.ne rfl rfl) ?_
   refine RS.move (v := .bool _) rfl ?_
   refine RS.splitn 41 rfl rfl (fun c23 => ?_) (fun c23 => ?_)
   ·refine RS.norm (by dsimp only [List.set]) ?_
    exact absurd rfl c23
   ·refine RS.norm (by dsimp only [List.set]) ?_
    refine RS.wantB 41 rfl rfl rfl ?_
    refine RS.move (v := .int _ _) rfl ?_
    refine RS.wantB 41 rfl rfl rfl ?_
    refine RS.o (D.ne rfl rfl) ?_
    refine RS.pick (v := .bool _) rfl rfl ?_
    refine RS.move (v := .bool _) rfl ?_
    refine RS.splitn 45 rfl rfl (fun c24 => ?_) (fun c24 => ?_)
    ·refine RS.norm (by dsimp only [List.set]) ?_
     exact absurd rfl c24
    ·refine RS.norm (by dsimp only [List.set]) ?_
     refine RS.wantB 45 rfl rfl rfl ?_
     refine RS.move (v := .int _ _) rfl ?_
     refine RS.wantB 45 rfl rfl rfl ?_
     refine RS.o (D.ne rfl rfl) ?_
     refine RS.pick (v := .bool _) rfl rfl ?_
     refine RS.move (v := .bool _) rfl ?_
     refine RS.splitn 49 rfl rfl (fun c25 => ?_) (fun c25 => ?_)
     ·refine RS.norm (by dsimp only [List.set]) ?_
      exact absurd rfl c25
     ·refine RS.norm (by dsimp only [List.set]) ?_
      refine RS.wantB 49 rfl rfl rfl ?_
      refine RS.move (v := .slice _ _ _) rfl ?_
      refine RS.wantB 49 rfl rfl rfl ?_
      refine RS.o (D.len rfl Tryd.underlying35) ?_
      refine RS.wantB 49 rfl rfl rfl ?_
      refine RS.move (v := .slice _ _ _) rfl ?_
      refine RS.wantB 49 rfl rfl rfl ?_
      refine RS.o (D.len rfl Tryd.underlying35) ?_
      refine RS.wantB 49 rfl rfl rfl ?_
      refine RS.o (D.lt rfl rfl) ?_
      refine RS.pick (v := .bool _) rfl rfl ?_
      refine RS.move (v := .bool _) rfl ?_
      refine RS.splitd 56 rfl rfl (fun c26 => ?_) (fun c26 => ?_)
      ·refine RS.norm (by dsimp only [List.set]) ?_
       exfalso; omega
      ·refine RS.norm (by dsimp only [List.set]) ?_
       have hle := c26
       refine RS.wantB 56 rfl rfl rfl ?_
       refine RS.move (v := .slice _ _ _) rfl ?_
       refine RS.wantB 56 rfl rfl rfl ?_
       refine RS.move (v := .slice _ _ _) rfl ?_
       refine RS.wantB 56 rfl rfl rfl ?_
       refine RS.o (D.len rfl Tryd.underlying35) ?_
       refine RS.wantB 56 rfl rfl rfl ?_
       refine RS.o (D.slice (kl := .i64) (kh := .i64) rfl Tryd.underlying35 C5 (by decide) rfl rfl (by omega) (by omega)) ?_
       refine RS.wantB 56 rfl rfl rfl ?_
       refine RS.move (v := .slice _ _ _) rfl ?_
       refine RS.wantB 56 rfl rfl rfl ?_
       refine RS.call E22 (sameBytes _ _ _ _ _ _ _ _ _ (OE.row.sub 0 nOM cOE (by omega) (by omega) (by omega)) OM.row (by omega) (by omega)) rfl (fun v27 w27 x27 A27 => ?_)
       replace hE := Ext.tr hE x27
       replace K0 := K0.ext x27
       replace D0 := D0.ext x27
       replace D1 := D1.ext x27
       replace B2 := B2.ext x27
       replace B3 := B3.ext x27
       replace B4 := B4.ext x27
       replace OM := OM.ext x27
       replace ON := ON.ext x27
       replace OE := OE.ext x27
       have zw27 := x27.size
       subst A27
       refine RS.norm (by dsimp only [List.set]) ?_
       refine RS.wantB 56 rfl rfl rfl ?_
       refine RS.o (D.not rfl) ?_
       refine RS.pick (v := .bool _) rfl rfl ?_
       refine RS.nil ?_
       refine hK22 _ _ ?_
       try clear hK22
       refine C.ifnot rfl (fun c28 => ?_) (fun c28 => ?_)
       ·exact Bool.noConfusion ((decide_eq_true (S.enc_pre o nOM lOM)).symm.trans c28)
       ·refine wp_skip ?_
        refine hK21 _ _ ?_
        try clear hK21
        refine wp_seq_k (fun K29 hK29 => ?_)
        refine regionX (Pr (fun k => k = b2 ∨ k = b3)) [(0, .q), (1, .q), (2, .q), (3, .e), (4, .q), (5, .g)] mixed (fun w => Pr.refl _ _) (fun h k => Pr.tr h k) (by kernel_rfl) (fun w30 x30 => ?_)
        replace hE := Ext.tr hE x30
        replace K0 := K0.ext x30
        replace D0 := D0.ext x30
        replace D1 := D1.ext x30
        replace B2 := B2.ext x30
        replace B3 := B3.ext x30
        replace B4 := B4.ext x30
        replace OM := OM.ext x30
        replace ON := ON.ext x30
        replace OE := OE.ext x30
        have zw30 := x30.size
        refine RX.o (fun w' hw => D.loadAgg rfl Tryd.underlying30 rfl C30 (by decide) rfl ((B4.pr hw (by intros; try (first | (intro _ _) | (intro _) | skip); first | omega | (dsimp only at *; omega) | (simp_all; done) | (simp at *; omega))).cellsN 2 rfl)) ?_
        refine RX.o (fun w' hw => D.loadAgg rfl Tryd.underlying30 rfl C30 (by decide) rfl ((B4.pr hw (by intros; try (first | (intro _ _) | (intro _) | skip); first | omega | (dsimp only at *; omega) | (simp_all; done) | (simp at *; omega))).cellsN 2 rfl)) ?_
        refine RX.o (fun w' hw => D.fieldL 9 rfl Tryd.underlying32 rfl C30 (by decide) rfl) ?_
        refine RX.eff ?_
        refine RS.storeAggB rfl rfl C30 (by decide) rfl rfl B2 rfl (fun w31 y31 N31 => ?_)
        replace hE := hE.trans (y31.below (by intros; try (first | (intro _ _) | (intro _) | skip); first | omega | (dsimp only at *; omega) | (simp_all; done) | (simp at *; omega)))
        replace K0 := K0.st y31 (by intros; try (first | (intro _ _) | (intro _) | skip); first | omega | (dsimp only at *; omega) | (simp_all; done) | (simp at *; omega))
        replace D0 := D0.st y31 (by intros; try (first | (intro _ _) | (intro _) | skip); first | omega | (dsimp only at *; omega) | (simp_all; done) | (simp at *; omega))
        replace D1 := D1.st y31 (by intros; try (first | (intro _ _) | (intro _) | skip); first | omega | (dsimp only at *; omega) | (simp_all; done) | (simp at *; omega))
        replace B3 := B3.st y31 (by intros; try (first | (intro _ _) | (intro _) | skip); first | omega | (dsimp only at *; omega) | (simp_all; done) | (simp at *; omega))
        replace B4 := B4.st y31 (by intros; try (first | (intro _ _) | (intro _) | skip); first | omega | (dsimp only at *; omega) | (simp_all; done) | (simp at *; omega))
        replace OM := OM.st y31 (by intros; try (first | (intro _ _) | (intro _) | skip); first | omega | (have hq := hOM _ (by assumption); first | omega | (dsimp only at *; omega)))
        replace ON := ON.st y31 (by intros; try (first | (intro _ _) | (intro _) | skip); first | omega | (have hq := hON _ (by assumption); first | omega | (dsimp only at *; omega)))
        replace OE := OE.st y31 (by intros; try (first | (intro _ _) | (intro _) | skip); first | omega | (have hq := hOE _ (by assumption); first | omega | (dsimp only at *; omega)))
        have zw31 := y31.size
        replace B2 := N31
        refine RS.nil ⟨((Pr.refl _ _).st y31 (by intros; try (first | (intro _ _) | (intro _) | skip); first | omega | (dsimp only at *; omega) | (simp_all; done) | (simp at *; omega))), ?_⟩
        refine RX.o (fun w' hw => D.fieldL 9 rfl Tryd.underlying32 rfl C30 (by decide) rfl) ?_
        refine RX.big ?_
        refine RS.storeAggB rfl rfl C30 (by decide) rfl rfl B3 rfl (fun w32 y32 N32 => ?_)
        replace hE := hE.trans (y32.below (by intros; try (first | (intro _ _) | (intro _) | skip); first | omega | (dsimp only at *; omega) | (simp_all; done) | (simp at *; omega)))
        replace K0 := K0.st y32 (by intros; try (first | (intro _ _) | (intro _) | skip); first | omega | (dsimp only at *; omega) | (simp_all; done) | (simp at *; omega))
        replace D0 := D0.st y32 (by intros; try (first | (intro _ _) | (intro _) | skip); first | omega | (dsimp only at *; omega) | (simp_all; done) | (simp at *; omega))
        replace D1 := D1.st y32 (by intros; try (first | (intro _ _) | (intro _) | skip); first | omega | (dsimp only at *; omega) | (simp_all; done) | (simp at *; omega))
        replace B2 := B2.st y32 (by intros; try (first | (intro _ _) | (intro _) | skip); first | omega | (dsimp only at *; omega) | (simp_all; done) | (simp at *; omega))
        replace B4 := B4.st y32 (by intros; try (first | (intro _ _) | (intro _) | skip); first | omega | (dsimp only at *; omega) | (simp_all; done) | (simp at *; omega))
        replace OM := OM.st y32 (by intros; try (first | (intro _ _) | (intro _) | skip); first | omega | (have hq := hOM _ (by assumption); first | omega | (dsimp only at *; omega)))
        replace ON := ON.st y32 (by intros; try (first | (intro _ _) | (intro _) | skip); first | omega | (have hq := hON _ (by assumption); first | omega | (dsimp only at *; omega)))
        replace OE := OE.st y32 (by intros; try (first | (intro _ _) | (intro _) | skip); first | omega | (have hq := hOE _ (by assumption); first | omega | (dsimp only at *; omega)))
        have zw32 := y32.size
        replace B3 := N32
        refine RS.nil ?_
        refine RX.nil ?_
        refine hK29 _ _ ?_
        try clear hK29
        refine wp_seq_k (fun K33 hK33 => ?_)
        refine region ?_
        refine RS.o (D.loadAgg rfl Tryd.underlying32 rfl C32 (by decide) rfl (B2.cellsN 11 rfl)) ?_
        refine RS.call E12 (messageO (o.sig e s) hso _ _ _ D0 hc) rfl (fun v34 w34 x34 A34 => ?_)
        replace hE := Ext.tr hE x34
        replace K0 := K0.ext x34
        replace D0 := D0.ext x34
        replace D1 := D1.ext x34
        replace B2 := B2.ext x34
        replace B3 := B3.ext x34
        replace B4 := B4.ext x34
        replace OM := OM.ext x34
        replace ON := ON.ext x34
        replace OE := OE.ext x34
        have zw34 := x34.size
        obtain ⟨aOS, nOS, cOS, xsOS, rfl, OS, hxs⟩ := A34
        rw [if_pos (show S.checkE (o.sig e s).bare = 0 from (S.check_bare hF.2 : S.checkE o.bare = 0))] at hxs
        rw [show S.checkE (o.sig e s).bare = 0 from (show S.checkE (o.sig e s).bare = 0 from (S.check_bare hF.2 : S.checkE o.bare = 0))]
        replace hxs : xsOS = S.msgS o := hxs
        subst hxs
        have hOS := OS.lo
        have lOS := OS.len
        refine RS.norm (by dsimp only [List.set]) ?_
        refine RS.move (v := .tuple _) rfl ?_
        refine RS.extract (v := .slice _ _ _) rfl rfl ?_
        refine RS.extract (v := .int _ _) rfl rfl ?_
        refine RS.assign (v := .slice _ _ _) rfl ?_
        refine RS.assign (v := .int _ _) rfl ?_
        refine RS.nil ?_
        refine hK33 _ _ ?_
        try clear hK33
        refine wp_seq_k (fun K35 hK35 => ?_)
        refine regionX Ext [(0, .q), (1, .q), (2, .q), (3, .q), (4, .q), (5, .e), (6, .q), (7, .q), (8, .q), (9, .q), (11, .q), (12, .q), (10, .e), (13, .e), (14, .q), (15, .q), (16, .q), (17, .e), (18, .q), (19, .q)] mixed Ext.refl (fun h k => h.tr k) (by kernel_rfl) (fun w36 x36 => ?_)
        replace hE := Ext.tr hE x36
        replace K0 := K0.ext x36
        replace D0 := D0.ext x36
        replace D1 := D1.ext x36
        replace B2 := B2.ext x36
        replace B3 := B3.ext x36
        replace B4 := B4.ext x36
        replace OM := OM.ext x36
        replace ON := ON.ext x36
        replace OE := OE.ext x36
        replace OS := OS.ext x36
        have zw36 := x36.size
        refine RX.move (v := .int _ _) rfl ?_
        refine RX.o (fun w' hw => D.eq rfl rfl) ?_
        refine RX.move (v := .bool _) rfl ?_
        refine RX.splite 76 rfl rfl (fun c37 => ?_) (fun c37 => ?_)
        ·refine RX.norm (by dsimp only [List.set]) ?_
         refine RX.wantB 76 rfl rfl rfl ?_
         refine RX.move (v := .slice _ _ _) rfl ?_
         refine RX.wantB 76 rfl rfl rfl ?_
         refine RX.move (v := .slice _ _ _) rfl ?_
         refine RX.wantB 76 rfl rfl rfl ?_
         refine RX.eff ?_
         refine RS.call E22 (sameBytes _ _ _ _ _ _ _ _ _ OM.row OS.row (by omega) (by omega)) rfl (fun v38 w38 x38 A38 => ?_)
         replace hE := Ext.tr hE x38
         replace K0 := K0.ext x38
         replace D0 := D0.ext x38
         replace D1 := D1.ext x38
         replace B2 := B2.ext x38
         replace B3 := B3.ext x38
         replace B4 := B4.ext x38
         replace OM := OM.ext x38
         replace ON := ON.ext x38
         replace OE := OE.ext x38
         replace OS := OS.ext x38
         have zw38 := x38.size
         subst A38
         refine RS.norm (by dsimp only [List.set]) ?_
         refine RS.nil ⟨x38, ?_⟩
         refine RX.pick (v := .bool _) rfl rfl ?_
         refine RX.move (v := .bool _) rfl ?_
         refine RX.splitb 81 rfl rfl (fun c39 => ?_) (fun c39 => ?_)
         ·refine RX.norm (by dsimp only [List.set]) ?_
          refine RX.wantB 81 rfl rfl rfl ?_
          refine RX.move (v := .slice _ _ _) rfl ?_
          refine RX.wantB 81 rfl rfl rfl ?_
          refine RX.move (v := .slice _ _ _) rfl ?_
          refine RX.wantB 81 rfl rfl rfl ?_
          refine RX.o (fun w' hw => D.loadAgg rfl Tryd.underlying32 rfl C32 (by decide) rfl ((B2.ext hw).cellsN 11 rfl)) ?_
          refine RX.wantB 81 rfl rfl rfl ?_
          refine RX.o (fun w' hw => D.loadAgg rfl Tryd.underlying32 rfl C32 (by decide) rfl ((B3.ext hw).cellsN 11 rfl)) ?_
          refine RX.wantB 81 rfl rfl rfl ?_
          refine RX.eff ?_
          refine RS.call E22 (sameBytes _ _ _ _ _ _ _ _ _ OM.row ON.row (by omega) (by omega)) rfl (fun v40 w40 x40 A40 => ?_)
          replace hE := Ext.tr hE x40
          replace K0 := K0.ext x40
          replace D0 := D0.ext x40
          replace D1 := D1.ext x40
          replace B2 := B2.ext x40
          replace B3 := B3.ext x40
          replace B4 := B4.ext x40
          replace OM := OM.ext x40
          replace ON := ON.ext x40
          replace OE := OE.ext x40
          replace OS := OS.ext x40
          have zw40 := x40.size
          subst A40
          refine RS.norm (by dsimp only [List.set]) ?_
          refine RS.nil ⟨x40, ?_⟩
          refine RX.wantB 81 rfl rfl rfl ?_
          refine RX.eff ?_
          refine RS.call E23 (sameO (o.sig e s) (p.sig e s) hso hsp _ _ _ _ _ D0 D1) rfl (fun v41 w41 x41 A41 => ?_)
          replace hE := Ext.tr hE x41
          replace K0 := K0.ext x41
          replace D0 := D0.ext x41
          replace D1 := D1.ext x41
          replace B2 := B2.ext x41
          replace B3 := B3.ext x41
          replace B4 := B4.ext x41
          replace OM := OM.ext x41
          replace ON := ON.ext x41
          replace OE := OE.ext x41
          replace OS := OS.ext x41
          have zw41 := x41.size
          subst A41
          refine RS.norm (by dsimp only [List.set]) ?_
          refine RS.nil ⟨x41, ?_⟩
          refine RX.wantB 81 rfl rfl rfl ?_
          refine RX.o (fun w' hw => D.eqB rfl rfl Tryd.underlying4) ?_
          refine RX.pick (v := .bool _) rfl rfl ?_
          refine RX.move (v := .bool _) rfl ?_
          refine RX.splitb 90 rfl rfl (fun c42 => ?_) (fun c42 => ?_)
          ·refine RX.norm (by dsimp only [List.set]) ?_
           refine RX.wantB 90 rfl rfl rfl ?_
           refine RX.eff ?_
           refine RS.call E24 (aliveW _ _ K0) rfl (fun v43 w43 x43 A43 => ?_)
           replace hE := Ext.tr hE x43
           replace K0 := K0.ext x43
           replace D0 := D0.ext x43
           replace D1 := D1.ext x43
           replace B2 := B2.ext x43
           replace B3 := B3.ext x43
           replace B4 := B4.ext x43
           replace OM := OM.ext x43
           replace ON := ON.ext x43
           replace OE := OE.ext x43
           replace OS := OS.ext x43
           have zw43 := x43.size
           subst A43
           refine RS.norm (by dsimp only [List.set]) ?_
           refine RS.nil ⟨x43, ?_⟩
           refine RX.pick (v := .bool _) rfl rfl ?_
           refine RX.assign (v := .bool _) rfl ?_
           refine RX.nil ?_
           refine hK35 _ _ ?_
           try clear hK35
           refine wp_ret ?_
           refine ret (rs := [.tmp 6]) (vs := [.bool _]) (v := (.bool _)) rfl ⟨rfl, trivial⟩ rfl ?_
           exact ⟨_, rfl, hE, rfl⟩
          ·refine RX.norm (by dsimp only [List.set]) ?_
           exact Bool.noConfusion ((S.beq_dec hdf).symm.trans c42)
         ·refine RX.norm (by dsimp only [List.set]) ?_
          exact Bool.noConfusion ((decide_eq_true rfl).symm.trans c39)
        ·refine RX.norm (by dsimp only [List.set]) ?_
         exact absurd rfl c37
end Go.Proofs.YtiohpiiiapjblaaDoor.W
namespace Go.Proofs.YtiohpiiiapjblaaDoor.L
open Go Go.Proofs.YtiohpiiiapjblaaDoor Go.Proofs.YtiohpiiiapjblaaDoor.G Go.Proofs.YtiohpiiiapjblaaDoor.W
open Go.ChangeShapes Go.WideShapes Go.ChangeAt Go.RowKit
set_option linter.unusedVariables false
set_option maxRecDepth 100000
theorem opDiffer_door (os : Os) (args : Array Value) : laidMetH Tryd.prog [("braid/digest.constants", Rows.laid_braid_digest_constants)] ((World.doorLaid Tryd.prog 400 os).forCall (fun _ _ => 0) ⟨#[], args, []⟩).memory :=
  laidMetH_of_parts3 (fuel := 8) (laidMet_of_run' 8 (by kernel_rfl) (by kernel_rfl)) (by kernel_rfl) (by kernel_rfl)
theorem opDiffer_lifted (os : Os) (started : os.Started) (H : Type) (enc : TypeId × Value → H) :
    ReturnsInHanded {} Tryd.checked os 5 .any (fun w args => (Rows.opDifferSpec.pre enc Tryd.prog Tryd.f5 [] false w args ∧ laidMetH Tryd.prog [("braid/digest.constants", Rows.laid_braid_digest_constants)] w) ∧ sizedMet enc Tryd.prog Tryd.f5 (OpenSpec.ofChange Rows.opDifferSpec) false w args)
      (Rows.opDifferSpec.post enc Tryd.prog Tryd.f5 false true false false) := by
  refine returnsInHanded_of_change_and (C := Tryd.checked) (X := fun w _ => laidMetH Tryd.prog [("braid/digest.constants", Rows.laid_braid_digest_constants)] w) (fun _ _ _ hh h => h.of_heap hh) own started (by kernel_rfl) Tryd.func5
    (ChangeSpec.witness_shaped (enc := enc) (C := Tryd.checked) (os := os) (X := fun w _ => laidMetH Tryd.prog [("braid/digest.constants", Rows.laid_braid_digest_constants)] w) false (World.doorLaid Tryd.prog 400 os) #[.agg #[.int .u32 0, .slice none 0 0, .int .u64 0, .int .u8 0, .string .empty, .int .u8 0, .int .i64 0, .int .u64 0, .string .empty, .int .u32 0, .int .u32 0], .agg #[.int .u32 0, .slice none 0 0, .int .u64 0, .int .u8 0, .string .empty, .int .u8 0, .int .i64 0, .int .u64 0, .string .empty, .int .u32 0, .int .u32 0], .agg #[.int .u32 0, .int .u32 0]] 8 rfl (World.shaped_of_RefB (by kernel_rfl) (by kernel_rfl)) (by kernel_rfl) (by kernel_rfl) (by kernel_rfl) (opDiffer_door os _)) ?_
  intro W base args ds gs before hval0 hW _ _ hL _
  have hval : ∀ (j : Nat) t v, Tryd.f5.params[j]? = some t → args[j]? = some v → Value.okWide Tryd.prog W .any base t v := hval0
  have hW' := hW
  obtain ⟨p, q, hA0, hV, rfl, hfz, hnd⟩ := hW
  have hA : DataW.TrodAll enc Tryd.prog W 0 (fun _ => true) true Tryd.f5.params.toList args.toList ds p := hA0
  rw [Tryd.params5] at hA hval
  obtain ⟨v0, vs0, d0, ds0, p0, q0, hargs, rfl, rfl, h0, r0⟩ := trodAll_cons hA
  obtain ⟨v1, vs1, d1, ds1, p1, q1, e1, rfl, rfl, h1, r1⟩ := trodAll_cons r0
  obtain ⟨v2, vs2, d2, ds2, p2, q2, e2, rfl, rfl, h2, r2⟩ := trodAll_cons r1
  obtain ⟨rfl, rfl, rfl⟩ := trodAll_nil r2
  subst e2
  subst e1
  obtain rfl : args = #[v0, v1, v2] := by cases args; simp_all
  obtain ⟨rfl, rfl⟩ := trodVars_none hV
  obtain ⟨cs0, rfl, _⟩ := okWide_struct Tryd.underlying32 (hval 0 32 v0 rfl rfl)
  obtain ⟨cs1, rfl, _⟩ := okWide_struct Tryd.underlying32 (hval 1 32 v1 rfl rfl)
  obtain ⟨cs2, rfl, _⟩ := okWide_struct Tryd.underlying30 (hval 2 30 v2 rfl rfl)
  have k0 := h0
  have lt0 : ∀ x ∈ p0, x.block < W.heap.size := by obtain ⟨m, hm⟩ := k0; exact DataW.trod_lt m _ _ _ hm
  obtain ⟨fuel0, hf0⟩ := h0
  obtain ⟨o0, pa0, pc0, hcs0, hr0, hc0, hR0⟩ := op_in hf0
  have hv0 : (Value.agg cs0) = .agg ([.int .u32 o0.au, .slice pa0 o0.n pc0, .int .u64 o0.st, .int .u8 o0.k, .string o0.key, .int .u8 o0.vk, .int .i64 o0.num, .int .u64 o0.bits, .string o0.t, .int .u32 o0.e, .int .u32 o0.s] : List Value).toArray := by
    congr 1
    apply Array.ext'
    exact hcs0
  have k1 := h1
  have lt1 : ∀ x ∈ p1, x.block < W.heap.size := by obtain ⟨m, hm⟩ := k1; exact DataW.trod_lt m _ _ _ hm
  obtain ⟨fuel1, hf1⟩ := h1
  obtain ⟨o1, pa1, pc1, hcs1, hr1, hc1, hR1⟩ := op_in hf1
  have hv1 : (Value.agg cs1) = .agg ([.int .u32 o1.au, .slice pa1 o1.n pc1, .int .u64 o1.st, .int .u8 o1.k, .string o1.key, .int .u8 o1.vk, .int .i64 o1.num, .int .u64 o1.bits, .string o1.t, .int .u32 o1.e, .int .u32 o1.s] : List Value).toArray := by
    congr 1
    apply Array.ext'
    exact hcs1
  have k2 := h2
  have lt2 : ∀ x ∈ p2, x.block < W.heap.size := by obtain ⟨m, hm⟩ := k2; exact DataW.trod_lt m _ _ _ hm
  obtain ⟨fuel2, hf2⟩ := h2
  obtain ⟨e2, s2, hcs2, he2, hs2⟩ := sig_in hf2
  have hv2 : (Value.agg cs2) = .agg ([.int .u32 e2, .int .u32 s2] : List Value).toArray := by
    congr 1
    apply Array.ext'
    exact hcs2
  have K0 := of_laid hL
  clear hA0 hval0
  have hwalk := opDiffer o0 hr0 pa0 pc0 o1 hr1 pa1 pc1 e2 s2 he2 hs2 0 W K0 hR0 hc0 hR1 hc1
  rw [← hv0, ← hv1, ← hv2] at hwalk
  refine hwalk.mono fun e W' hret => ?_
  obtain ⟨v, rfl, bel, rfl⟩ := hret
  exact ⟨_, rfl, _, _, _, [], _, [], hW', trodAll_mk1 (shut_bool Tryd.underlying4 _), (trodAll_cons_mk (Below.trod laidOut (by kernel_rfl) (of_decide_eq_true (by kernel_rfl)) k0 bel lt0) (trodAll_cons_mk (Below.trod laidOut (by kernel_rfl) (of_decide_eq_true (by kernel_rfl)) k1 bel lt1) (trodAll_cons_mk (Below.trod laidOut (by kernel_rfl) (of_decide_eq_true (by kernel_rfl)) k2 bel lt2) trodAll_mk0))), rfl, bel.frame _, fun h => by cases h⟩
theorem opDiffer_holds : Rows.OpDifferSaid :=
  OpenClaim.holds_of_wide 5 Tryd.f5 rfl rfl rfl rfl rfl rfl rfl ⟨rfl, rfl, rfl, rfl, rfl⟩ rfl rfl rfl rfl rfl (by kernel_rfl) Tryd.func5 (by kernel_rfl)
    (of_decide_eq_true (by kernel_rfl)) (by unfold Func.isWrapper; first | (rw [if_pos (by decide +kernel)]; kernel_rfl) | (rw [if_neg (by decide +kernel)]; exact ⟨rfl, rfl⟩))
    (fun os started H enc _ => opDiffer_lifted os started H enc)
theorem opDiffer_card : Rows.OpDifferCardSaid :=
  Claim7.holds_tied_plain_at .later [] [.data] true (true, "104f35b6784b2ea38b5d6679d4fffd1631d93a9a6896487cdb425c06aa7787e8") false
    opDiffer_holds (fun _ h => by cases h) (by kernel_rfl) (fun _ h => by cases h) opDiffer_row_tie rfl ⟨rfl, rfl⟩ (by kernel_rfl) rfl
    (fun f fn hf hfn => by
      obtain rfl : f = 5 := Option.some.inj ((show Tryd.prog.funcNamed "braid/braidlaw06.OpDiffer" = some 5 by kernel_rfl).symm.trans hf) |>.symm
      obtain rfl : fn = Tryd.f5 := (Option.some.inj (Tryd.func5.symm.trans hfn)).symm
      exact ⟨by kernel_rfl, fun j t ht => by
        rw [Tryd.params5] at ht
        have hm : t ∈ [32, 32, 30] := by simpa using Array.mem_of_getElem? ht
        have hall : ([32, 32, 30].all fun u => !Tryd.prog.wantsStandIn u) = true := by kernel_rfl
        exact (show Tryd.prog.wantsStandIn t = false by simpa using List.all_eq_true.1 hall t hm)⟩)
    (by kernel_rfl)
end Go.Proofs.YtiohpiiiapjblaaDoor.L
