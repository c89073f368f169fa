/-
  W20: walks of functions, printed by gen.py from the annotations ann20.py.
-/
import Derived.Test.YtiohpiiiapjblaaDoorW19

namespace Go.Proofs.YtiohpiiiapjblaaDoor.W
open Go.RowKit Go.Proofs.YtiohpiiiapjblaaDoor.G
set_option linter.unusedVariables false
set_option maxRecDepth 20000
set_option maxHeartbeats 8000000
attribute [local irreducible] RS RX

theorem F32 : SI Tryd.prog 32 [(0, 1), (1, 1), (2, 1), (3, 6), (9, 2)] := ⟨_, Tryd.underlying32, by kernel_rfl, by kernel_rfl⟩
theorem E25 : Enters Tryd.prog 25 := .mk Tryd.func25 (by kernel_rfl) rfl
theorem E27 : Enters Tryd.prog 27 := .mk Tryd.func27 (by kernel_rfl) rfl
theorem E28 : Enters Tryd.prog 28 := .mk Tryd.func28 (by kernel_rfl) rfl
theorem E32 : Enters Tryd.prog 32 := .mk Tryd.func32 (by kernel_rfl) rfl
theorem E64 : Enters Tryd.prog 64 := .mk Tryd.func64 (by kernel_rfl) rfl
theorem signO (x : Int) (hx : 0 ≤ x ∧ x < 4294967296) {S0 : Nat → Prop} (o : S.OpV) (ho : o.ok) (pa : Option Addr) (pc : Nat) (TK : TypeId) (w : World) (K0 : Kst w TK) (D0 : WRow .u8 32 S0 w pa o.n o.ids) (hc : o.n ≤ pc) :
    Calls Tryd.prog 25 #[.int .u32 x, .agg ([.int .u32 o.au, .slice pa o.n pc, .int .u64 o.st, .int .u8 o.k, .string o.key, .int .u8 o.vk, .int .i64 o.num, .int .u64 o.bits, .string o.t, .int .u32 o.e, .int .u32 o.s] : List Value).toArray] w (Ret w fun v w' => ∃ a' c', v = .tuple #[.agg ([.int .u32 (S.signS x o).au, .slice a' (S.signS x o).n c', .int .u64 (S.signS x o).st, .int .u8 (S.signS x o).k, .string (S.signS x o).key, .int .u8 (S.signS x o).vk, .int .i64 (S.signS x o).num, .int .u64 (S.signS x o).bits, .string (S.signS x o).t, .int .u32 (S.signS x o).e, .int .u32 (S.signS x o).s] : List Value).toArray, .int .i64 (S.signE x o)] ∧ (S.signS x o).n ≤ c' ∧ WRow .u8 32 (fun k => w.heap.size ≤ k) w' a' (S.signS x o).n (S.signS x o).ids) := by
  replace D0 := D0.weaken (T := fun k => k < w.heap.size) (fun k hk _ => hk)
  have o1 := ho.au
  have o2 := ho.st
  have o3 := ho.k
  have o4 := ho.vk
  have o5 := ho.num
  have o6 := ho.bits
  have o7 := ho.e
  have o8 := ho.s
  have o9 := ho.n
  have o10 := ho.key
  have o11 := ho.t
  have hKl := K0.lt
  have hb2 := S.pub_bd x
  have e4 := D0.len
  have hE := Ext.refl w
  refine enter (args := [.int .u32 x, .agg ([.int .u32 o.au, .slice pa o.n pc, .int .u64 o.st, .int .u8 o.k, .string o.key, .int .u8 o.vk, .int .i64 o.num, .int .u64 o.bits, .string o.t, .int .u32 o.e, .int .u32 o.s] : List Value).toArray]) (l := [.int .u32 x, .agg ([.int .u32 o.au, .slice pa o.n pc, .int .u64 o.st, .int .u8 o.k, .string o.key, .int .u8 o.vk, .int .i64 o.num, .int .u64 o.bits, .string o.t, .int .u32 o.e, .int .u32 o.s] : List Value).toArray, undef, undef, undef, undef, undef, undef, undef, undef, undef, undef, undef, undef, undef, undef, undef, undef, undef, undef, undef, undef, undef, undef, undef, undef, undef, undef, undef, undef, undef, undef, undef, undef, undef, undef, undef, undef, undef, undef, undef]) Tryd.func25 rfl rfl ?_
  refine wp_seq_k (fun K1 hK1 => ?_)
  refine region ?_
  refine RS.box rfl rfl (fun b2 w2 e2 s2 x2 B2 => ?_)
  refine RS.norm (by dsimp only [List.set]) ?_
  replace hE := Ext.tr hE x2
  replace K0 := K0.ext x2
  replace D0 := D0.ext x2
  have zw2 := x2.size
  refine RS.alloc T32 (fun b3 w3 e3 s3 x3 B3 => ?_)
  refine RS.norm (by dsimp only [List.set]) ?_
  replace hE := Ext.tr hE x3
  replace K0 := K0.ext x3
  replace D0 := D0.ext x3
  replace B2 := B2.ext x3
  have zw3 := x3.size
  refine RS.assign (v := .int .i64 0) rfl ?_
  refine RS.nil ?_
  refine hK1 _ _ ?_
  try clear hK1
  refine wp_seq_k (fun K4 hK4 => ?_)
  refine region ?_
  refine RS.move (v := .int _ _) rfl ?_
  refine RS.call E26 (publicW _ (by omega) _) rfl (fun v5 w5 x5 A5 => ?_)
  replace hE := Ext.tr hE x5
  replace K0 := K0.ext x5
  replace D0 := D0.ext x5
  replace B2 := B2.ext x5
  replace B3 := B3.ext x5
  have zw5 := x5.size
  subst A5
  refine RS.norm (by dsimp only [List.set]) ?_
  refine RS.move (v := .tuple _) rfl ?_
  refine RS.extract (v := .int _ _) rfl rfl ?_
  refine RS.extract (v := .int _ _) rfl rfl ?_
  refine RS.assign (v := .int _ _) rfl ?_
  refine RS.assign (v := .int _ _) rfl ?_
  refine RS.nil ?_
  refine hK4 _ _ ?_
  try clear hK4
  refine wp_seq_k (fun K6 hK6 => ?_)
  refine wp_seq_k (fun K7 hK7 => ?_)
  refine region ?_
  refine RS.move (v := .int _ _) rfl ?_
  refine RS.o (D.ne rfl rfl) ?_
  refine RS.nil ?_
  refine hK7 _ _ ?_
  try clear hK7
  refine C.ifn rfl (fun c8 => ?_) (fun c8 => ?_)
  · have hz := c8
    refine wp_seq_k (fun K9 hK9 => ?_)
    refine region ?_
    refine RS.o (D.buildS T32 F32 (ps := []) rfl rfl) ?_
    refine RS.move (v := .int _ _) rfl ?_
    refine RS.storeAggB rfl rfl C32 (by decide) rfl rfl B3 rfl (fun w10 y10 N10 => ?_)
    replace hE := hE.trans (y10.below (by intros; try (first | (intro _ _) | (intro _) | skip); first | omega | (dsimp only at *; omega) | (simp_all; done) | (simp at *; omega)))
    replace K0 := K0.st y10 (by intros; try (first | (intro _ _) | (intro _) | skip); first | omega | (dsimp only at *; omega) | (simp_all; done) | (simp at *; omega))
    replace D0 := D0.st y10 (by intros; try (first | (intro _ _) | (intro _) | skip); first | omega | (dsimp only at *; omega) | (simp_all; done) | (simp at *; omega))
    replace B2 := B2.st y10 (by intros; try (first | (intro _ _) | (intro _) | skip); first | omega | (dsimp only at *; omega) | (simp_all; done) | (simp at *; omega))
    have zw10 := y10.size
    replace B3 := N10
    refine RS.assign (v := .int _ _) rfl ?_
    refine RS.nil ?_
    refine hK9 _ _ ?_
    try clear hK9
    refine wp_ret ?_
    refine ret (rs := [.cell 4 32, .tmp 5]) (vs := [.agg _, .int _ _]) (v := (.tuple #[.agg _, .int _ _])) rfl ⟨⟨_, rfl, loadVar_agg Tryd.underlying32 rfl C32 (by decide) rfl (B3.cellsN 11 rfl)⟩, rfl, trivial⟩ rfl ?_
    have e1 : S.signE x o = S.secE x := by unfold S.signE; rw [if_neg hz, S.secE_two hz]
    have e2 : S.signS x o = S.OpV.zero := by unfold S.signS; rw [if_neg (by rw [e1]; exact hz)]
    rw [e1, e2]
    exact ⟨_, rfl, hE, _, _, rfl, Nat.le_refl _, WRow.nil⟩
  · have hz := c8
    rw [if_pos hz]
    refine wp_skip ?_
    refine hK6 _ _ ?_
    try clear hK6
    refine wp_seq_k (fun K11 hK11 => ?_)
    refine region ?_
    refine RS.move (v := .int _ _) rfl ?_
    refine RS.o (D.fieldL 1 rfl Tryd.underlying32 rfl C23 (by decide) rfl) ?_
    refine RS.o (D.load rfl Tryd.underlying23 rfl (B2.cell rfl)) ?_
    refine RS.call E58 (cloneID _ _ _ _ _ D0 hc (by omega)) rfl (fun v12 w12 x12 A12 => ?_)
    replace hE := Ext.tr hE x12
    replace K0 := K0.ext x12
    replace D0 := D0.ext x12
    replace B2 := B2.ext x12
    replace B3 := B3.ext x12
    have zw12 := x12.size
    obtain ⟨a12, _, c12, rfl, rfl, O1⟩ := A12
    have hcc := O1.own.pre
    refine RS.norm (by dsimp only [List.set]) ?_
    refine RS.o (D.fieldL 0 rfl Tryd.underlying32 rfl C22 (by decide) rfl) ?_
    refine RS.store rfl (v := .int _ _) rfl C22 rfl B2 rfl (fun w13 y13 N13 => ?_)
    replace hE := hE.trans (y13.below (by intros; try (first | (intro _ _) | (intro _) | skip); first | omega | (dsimp only at *; omega) | (simp_all; done) | (simp at *; omega)))
    replace K0 := K0.st y13 (by intros; try (first | (intro _ _) | (intro _) | skip); first | omega | (dsimp only at *; omega) | (simp_all; done) | (simp at *; omega))
    replace D0 := D0.st y13 (by intros; try (first | (intro _ _) | (intro _) | skip); first | omega | (dsimp only at *; omega) | (simp_all; done) | (simp at *; omega))
    replace B3 := B3.st y13 (by intros; try (first | (intro _ _) | (intro _) | skip); first | omega | (dsimp only at *; omega) | (simp_all; done) | (simp at *; omega))
    replace O1 := O1.st y13 (by intros; try (first | (intro _ _) | (intro _) | skip); first | omega | (have hq := O1.own.lo _ (by assumption); first | omega | (dsimp only at *; omega)))
    have zw13 := y13.size
    replace B2 := N13
    refine RS.o (D.fieldL 1 rfl Tryd.underlying32 rfl C23 (by decide) rfl) ?_
    refine RS.store rfl  rfl C23 rfl B2 rfl (fun w14 y14 N14 => ?_)
    replace hE := hE.trans (y14.below (by intros; try (first | (intro _ _) | (intro _) | skip); first | omega | (dsimp only at *; omega) | (simp_all; done) | (simp at *; omega)))
    replace K0 := K0.st y14 (by intros; try (first | (intro _ _) | (intro _) | skip); first | omega | (dsimp only at *; omega) | (simp_all; done) | (simp at *; omega))
    replace D0 := D0.st y14 (by intros; try (first | (intro _ _) | (intro _) | skip); first | omega | (dsimp only at *; omega) | (simp_all; done) | (simp at *; omega))
    replace B3 := B3.st y14 (by intros; try (first | (intro _ _) | (intro _) | skip); first | omega | (dsimp only at *; omega) | (simp_all; done) | (simp at *; omega))
    replace O1 := O1.st y14 (by intros; try (first | (intro _ _) | (intro _) | skip); first | omega | (have hq := O1.own.lo _ (by assumption); first | omega | (dsimp only at *; omega)))
    have zw14 := y14.size
    replace B2 := N14
    refine RS.nil ?_
    refine hK11 _ _ ?_
    try clear hK11
    refine wp_seq_k (fun K15 hK15 => ?_)
    refine region ?_
    refine RS.o (D.loadAgg rfl Tryd.underlying32 rfl C32 (by decide) rfl (B2.cellsN 11 rfl)) ?_
    refine RS.call E12 (messageO (o.wit x) (S.OpV.wit_ok x ho) _ _ _ O1.row hcc) rfl (fun v16 w16 x16 A16 => ?_)
    replace hE := Ext.tr hE x16
    replace K0 := K0.ext x16
    replace D0 := D0.ext x16
    replace B2 := B2.ext x16
    replace B3 := B3.ext x16
    replace O1 := O1.ext x16
    have zw16 := x16.size
    obtain ⟨a16, n16, c16, xs, rfl, OM, hxs⟩ := A16
    have hml := OM.len
    refine RS.norm (by dsimp only [List.set]) ?_
    refine RS.move (v := .tuple _) rfl ?_
    refine RS.extract (v := .slice _ _ _) rfl rfl ?_
    refine RS.extract (v := .int _ _) rfl rfl ?_
    refine RS.assign (v := .slice _ _ _) rfl ?_
    refine RS.assign (v := .int _ _) rfl ?_
    refine RS.nil ?_
    refine hK15 _ _ ?_
    try clear hK15
    refine wp_seq_k (fun K17 hK17 => ?_)
    refine wp_seq_k (fun K18 hK18 => ?_)
    refine region ?_
    refine RS.move (v := .int _ _) rfl ?_
    refine RS.o (D.ne rfl rfl) ?_
    refine RS.nil ?_
    refine hK18 _ _ ?_
    try clear hK18
    refine C.ifn rfl (fun c19 => ?_) (fun c19 => ?_)
    · have hk := c19
      refine wp_seq_k (fun K20 hK20 => ?_)
      refine region ?_
      refine RS.o (D.buildS T32 F32 (ps := []) rfl rfl) ?_
      refine RS.move (v := .int _ _) rfl ?_
      refine RS.storeAggB rfl rfl C32 (by decide) rfl rfl B3 rfl (fun w21 y21 N21 => ?_)
      replace hE := hE.trans (y21.below (by intros; try (first | (intro _ _) | (intro _) | skip); first | omega | (dsimp only at *; omega) | (simp_all; done) | (simp at *; omega)))
      replace K0 := K0.st y21 (by intros; try (first | (intro _ _) | (intro _) | skip); first | omega | (dsimp only at *; omega) | (simp_all; done) | (simp at *; omega))
      replace D0 := D0.st y21 (by intros; try (first | (intro _ _) | (intro _) | skip); first | omega | (dsimp only at *; omega) | (simp_all; done) | (simp at *; omega))
      replace B2 := B2.st y21 (by intros; try (first | (intro _ _) | (intro _) | skip); first | omega | (dsimp only at *; omega) | (simp_all; done) | (simp at *; omega))
      replace O1 := O1.st y21 (by intros; try (first | (intro _ _) | (intro _) | skip); first | omega | (have hq := O1.own.lo _ (by assumption); first | omega | (dsimp only at *; omega)))
      replace OM := OM.st y21 (by intros; try (first | (intro _ _) | (intro _) | skip); first | omega | (have hq := OM.own.lo _ (by assumption); first | omega | (dsimp only at *; omega)))
      have zw21 := y21.size
      replace B3 := N21
      refine RS.assign (v := .int _ _) rfl ?_
      refine RS.nil ?_
      refine hK20 _ _ ?_
      try clear hK20
      refine wp_ret ?_
      refine ret (rs := [.cell 4 32, .tmp 5]) (vs := [.agg _, .int _ _]) (v := (.tuple #[.agg _, .int _ _])) rfl ⟨⟨_, rfl, loadVar_agg Tryd.underlying32 rfl C32 (by decide) rfl (B3.cellsN 11 rfl)⟩, rfl, trivial⟩ rfl ?_
      have e1 : S.signE x o = S.checkE (o.wit x).bare := by unfold S.signE; rw [if_pos hz]
      have e2 : S.signS x o = S.OpV.zero := by unfold S.signS; rw [if_neg (by rw [e1]; exact hk)]
      rw [e1, e2]
      exact ⟨_, rfl, hE, _, _, rfl, Nat.le_refl _, WRow.nil⟩
    · have hk := c19
      rw [if_pos hk] at hxs
      subst hxs
      have hml2 := S.msg_len (o.wit x) (S.OpV.wit_ok x ho) (S.check_zero.1 hk).1 e4
      have hn0 : S.nonceE x (S.msgS (o.wit x)) = 0 := S.nonceE_zero.2 ⟨hz, by unfold S.hashE; rw [if_neg (by omega)]⟩
      refine wp_skip ?_
      refine hK17 _ _ ?_
      try clear hK17
      refine wp_seq_k (fun K22 hK22 => ?_)
      refine region ?_
      refine RS.move (v := .int _ _) rfl ?_
      refine RS.move (v := .slice _ _ _) rfl ?_
      refine RS.call E64 (signW _ (by omega) _ _ _ _ _ _ K0 OM.row OM.own.pre) rfl (fun v23 w23 x23 A23 => ?_)
      replace hE := Ext.tr hE x23
      replace K0 := K0.ext x23
      replace D0 := D0.ext x23
      replace B2 := B2.ext x23
      replace B3 := B3.ext x23
      replace O1 := O1.ext x23
      replace OM := OM.ext x23
      have zw23 := x23.size
      subst A23
      rw [if_pos hn0, if_pos hn0]
      refine RS.norm (by dsimp only [List.set]) ?_
      refine RS.move (v := .tuple _) rfl ?_
      refine RS.extract (v := .agg _) rfl rfl ?_
      refine RS.extract (v := .int _ _) rfl rfl ?_
      refine RS.o (D.fieldL 9 rfl Tryd.underlying32 rfl C30 (by decide) rfl) ?_
      refine RS.storeAggB rfl rfl C30 (by decide) rfl rfl B2 rfl (fun w24 y24 N24 => ?_)
      replace hE := hE.trans (y24.below (by intros; try (first | (intro _ _) | (intro _) | skip); first | omega | (dsimp only at *; omega) | (simp_all; done) | (simp at *; omega)))
      replace K0 := K0.st y24 (by intros; try (first | (intro _ _) | (intro _) | skip); first | omega | (dsimp only at *; omega) | (simp_all; done) | (simp at *; omega))
      replace D0 := D0.st y24 (by intros; try (first | (intro _ _) | (intro _) | skip); first | omega | (dsimp only at *; omega) | (simp_all; done) | (simp at *; omega))
      replace B3 := B3.st y24 (by intros; try (first | (intro _ _) | (intro _) | skip); first | omega | (dsimp only at *; omega) | (simp_all; done) | (simp at *; omega))
      replace O1 := O1.st y24 (by intros; try (first | (intro _ _) | (intro _) | skip); first | omega | (have hq := O1.own.lo _ (by assumption); first | omega | (dsimp only at *; omega)))
      replace OM := OM.st y24 (by intros; try (first | (intro _ _) | (intro _) | skip); first | omega | (have hq := OM.own.lo _ (by assumption); first | omega | (dsimp only at *; omega)))
      have zw24 := y24.size
      replace B2 := N24
      refine RS.nil ?_
      refine hK22 _ _ ?_
      try clear hK22
      refine wp_seq_k (fun K25 hK25 => ?_)
      refine region ?_
      refine RS.o (D.loadAgg rfl Tryd.underlying32 rfl C32 (by decide) rfl (B2.cellsN 11 rfl)) ?_
      refine RS.storeAggB rfl rfl C32 (by decide) rfl rfl B3 rfl (fun w26 y26 N26 => ?_)
      replace hE := hE.trans (y26.below (by intros; try (first | (intro _ _) | (intro _) | skip); first | omega | (dsimp only at *; omega) | (simp_all; done) | (simp at *; omega)))
      replace K0 := K0.st y26 (by intros; try (first | (intro _ _) | (intro _) | skip); first | omega | (dsimp only at *; omega) | (simp_all; done) | (simp at *; omega))
      replace D0 := D0.st y26 (by intros; try (first | (intro _ _) | (intro _) | skip); first | omega | (dsimp only at *; omega) | (simp_all; done) | (simp at *; omega))
      replace B2 := B2.st y26 (by intros; try (first | (intro _ _) | (intro _) | skip); first | omega | (dsimp only at *; omega) | (simp_all; done) | (simp at *; omega))
      replace O1 := O1.st y26 (by intros; try (first | (intro _ _) | (intro _) | skip); first | omega | (have hq := O1.own.lo _ (by assumption); first | omega | (dsimp only at *; omega)))
      replace OM := OM.st y26 (by intros; try (first | (intro _ _) | (intro _) | skip); first | omega | (have hq := OM.own.lo _ (by assumption); first | omega | (dsimp only at *; omega)))
      have zw26 := y26.size
      replace B3 := N26
      refine RS.assign (v := .int .i64 0) rfl ?_
      refine RS.nil ?_
      refine hK25 _ _ ?_
      try clear hK25
      refine wp_ret ?_
      refine ret (rs := [.cell 4 32, .tmp 5]) (vs := [.agg _, .int _ _]) (v := (.tuple #[.agg _, .int _ _])) rfl ⟨⟨_, rfl, loadVar_agg Tryd.underlying32 rfl C32 (by decide) rfl (B3.cellsN 11 rfl)⟩, rfl, trivial⟩ rfl ?_
      have e1 : S.signE x o = 0 := by unfold S.signE; rw [if_pos hz]; exact hk
      have e2 := S.signS_eq e1
      rw [e1, e2]
      exact ⟨_, rfl, hE, _, _, rfl, hcc, O1.row.weaken (fun k hk h => by omega)⟩

theorem verifyO {S0 : Nat → Prop} (o : S.OpV) (ho : o.ok) (pa : Option Addr) (pc : Nat) (TK : TypeId) (w : World) (K0 : Kst w TK) (D0 : WRow .u8 32 S0 w pa o.n o.ids) (hc : o.n ≤ pc) :
    Calls Tryd.prog 27 #[.agg ([.int .u32 o.au, .slice pa o.n pc, .int .u64 o.st, .int .u8 o.k, .string o.key, .int .u8 o.vk, .int .i64 o.num, .int .u64 o.bits, .string o.t, .int .u32 o.e, .int .u32 o.s] : List Value).toArray] w (Ret w fun v _ => v = .int .i64 (S.verE o)) := by
  replace D0 := D0.weaken (T := fun k => k < w.heap.size) (fun k hk _ => hk)
  have o1 := ho.au
  have o2 := ho.st
  have o3 := ho.k
  have o4 := ho.vk
  have o5 := ho.num
  have o6 := ho.bits
  have o7 := ho.e
  have o8 := ho.s
  have o9 := ho.n
  have o10 := ho.key
  have o11 := ho.t
  have hKl := K0.lt
  have e4 := D0.len
  have hE := Ext.refl w
  refine enter (args := [.agg ([.int .u32 o.au, .slice pa o.n pc, .int .u64 o.st, .int .u8 o.k, .string o.key, .int .u8 o.vk, .int .i64 o.num, .int .u64 o.bits, .string o.t, .int .u32 o.e, .int .u32 o.s] : List Value).toArray]) (l := [.agg ([.int .u32 o.au, .slice pa o.n pc, .int .u64 o.st, .int .u8 o.k, .string o.key, .int .u8 o.vk, .int .i64 o.num, .int .u64 o.bits, .string o.t, .int .u32 o.e, .int .u32 o.s] : List Value).toArray, undef, undef, undef, undef, undef, undef, undef, undef, undef, undef, undef, undef, undef, undef, undef, undef, undef, undef, undef, undef, undef]) Tryd.func27 rfl rfl ?_
  refine wp_seq_k (fun K1 hK1 => ?_)
  refine region ?_
  refine RS.box rfl rfl (fun b2 w2 e2 s2 x2 B2 => ?_)
  refine RS.norm (by dsimp only [List.set]) ?_
  replace hE := Ext.tr hE x2
  replace K0 := K0.ext x2
  replace D0 := D0.ext x2
  have zw2 := x2.size
  refine RS.assign (v := .int .i64 0) rfl ?_
  refine RS.nil ?_
  refine hK1 _ _ ?_
  try clear hK1
  refine wp_seq_k (fun K3 hK3 => ?_)
  refine wp_seq_k (fun K4 hK4 => ?_)
  refine region ?_
  refine RS.o (D.loadAgg rfl Tryd.underlying32 rfl C32 (by decide) rfl (B2.cellsN 11 rfl)) ?_
  refine RS.call E20 (checkO o ho _ _ _ D0 hc) rfl (fun v5 w5 x5 A5 => ?_)
  replace hE := Ext.tr hE x5
  replace K0 := K0.ext x5
  replace D0 := D0.ext x5
  replace B2 := B2.ext x5
  have zw5 := x5.size
  subst A5
  refine RS.norm (by dsimp only [List.set]) ?_
  refine RS.assign (v := .int _ _) rfl ?_
  refine RS.nil ?_
  refine hK4 _ _ ?_
  try clear hK4
  refine wp_seq_k (fun K6 hK6 => ?_)
  refine region ?_
  refine RS.move (v := .int _ _) rfl ?_
  refine RS.o (D.ne rfl rfl) ?_
  refine RS.nil ?_
  refine hK6 _ _ ?_
  try clear hK6
  refine C.ifn rfl (fun c7 => ?_) (fun c7 => ?_)
  · have hk := c7
    refine wp_seq_k (fun K8 hK8 => ?_)
    refine region ?_
    refine RS.move (v := .int _ _) rfl ?_
    refine RS.assign (v := .int _ _) rfl ?_
    refine RS.nil ?_
    refine hK8 _ _ ?_
    try clear hK8
    refine wp_ret ?_
    refine ret (rs := [.tmp 2]) (vs := [.int _ _]) (v := (.int _ _)) rfl ⟨rfl, trivial⟩ rfl ?_
    refine ⟨_, rfl, hE, ?_⟩
    unfold S.verE
    rw [if_neg hk]
  · have hk := c7
    refine wp_skip ?_
    refine hK3 _ _ ?_
    try clear hK3
    refine wp_seq_k (fun K9 hK9 => ?_)
    refine region ?_
    refine RS.o (D.loadAgg rfl Tryd.underlying32 rfl C32 (by decide) rfl (B2.cellsN 11 rfl)) ?_
    refine RS.call E12 (messageO o ho _ _ _ D0 hc) rfl (fun v10 w10 x10 A10 => ?_)
    replace hE := Ext.tr hE x10
    replace K0 := K0.ext x10
    replace D0 := D0.ext x10
    replace B2 := B2.ext x10
    have zw10 := x10.size
    obtain ⟨a10, n10, c10, xs, rfl, OM, hxs⟩ := A10
    rw [if_pos (S.check_bare hk)] at hxs
    subst hxs
    refine RS.norm (by dsimp only [List.set]) ?_
    refine RS.move (v := .tuple _) rfl ?_
    refine RS.extract (v := .slice _ _ _) rfl rfl ?_
    refine RS.extract (v := .int _ _) rfl rfl ?_
    refine RS.assign (v := .slice _ _ _) rfl ?_
    refine RS.assign (v := .int _ _) rfl ?_
    refine RS.nil ?_
    refine hK9 _ _ ?_
    try clear hK9
    refine wp_seq_k (fun K11 hK11 => ?_)
    refine region ?_
    refine RS.o (D.fieldL 0 rfl Tryd.underlying32 rfl C22 (by decide) rfl) ?_
    refine RS.o (D.load rfl Tryd.underlying22 rfl (B2.cell rfl)) ?_
    refine RS.move (v := .slice _ _ _) rfl ?_
    refine RS.o (D.fieldL 9 rfl Tryd.underlying32 rfl C30 (by decide) rfl) ?_
    refine RS.o (D.loadAgg rfl Tryd.underlying30 rfl C30 (by decide) rfl (B2.cellsN 2 rfl)) ?_
    refine RS.call E28 (verifyW _ (by omega) _ _ (by omega) (by omega) _ _ _ _ _ _ K0 OM.row OM.own.pre) rfl (fun v12 w12 x12 A12 => ?_)
    replace hE := Ext.tr hE x12
    replace K0 := K0.ext x12
    replace D0 := D0.ext x12
    replace B2 := B2.ext x12
    replace OM := OM.ext x12
    have zw12 := x12.size
    subst A12
    refine RS.norm (by dsimp only [List.set]) ?_
    refine RS.assign (v := .int _ _) rfl ?_
    refine RS.nil ?_
    refine hK11 _ _ ?_
    try clear hK11
    refine wp_ret ?_
    refine ret (rs := [.tmp 2]) (vs := [.int _ _]) (v := (.int _ _)) rfl ⟨rfl, trivial⟩ rfl ?_
    refine ⟨_, rfl, hE, ?_⟩
    unfold S.verE
    rw [if_pos hk]

theorem givenW  (w : World) :
    Calls Tryd.prog 32 #[] w (Ret w fun v _ => v = .agg ([.int .u32 S.givenO.au, .slice none S.givenO.n 0, .int .u64 S.givenO.st, .int .u8 S.givenO.k, .string S.givenO.key, .int .u8 S.givenO.vk, .int .i64 S.givenO.num, .int .u64 S.givenO.bits, .string S.givenO.t, .int .u32 S.givenO.e, .int .u32 S.givenO.s] : List Value).toArray) := by
  have hE := Ext.refl w
  refine enter (args := []) (l := [undef, undef, undef, undef]) Tryd.func32 rfl rfl ?_
  refine wp_seq_k (fun K1 hK1 => ?_)
  refine region ?_
  refine RS.alloc T32 (fun b2 w2 e2 s2 x2 B2 => ?_)
  refine RS.norm (by dsimp only [List.set]) ?_
  replace hE := Ext.tr hE x2
  have zw2 := x2.size
  refine RS.nil ?_
  refine hK1 _ _ ?_
  try clear hK1
  refine wp_seq_k (fun K3 hK3 => ?_)
  refine region ?_
  refine RS.o (D.buildS T28 F28 (ps := [(0, .int _ _), (1, .string _)]) rfl rfl) ?_
  refine RS.o (D.buildS T30 F30 (ps := [(0, .int _ _), (1, .int _ _)]) rfl rfl) ?_
  refine RS.o (D.buildS T32 F32 (ps := [(0, .int _ _), (2, .int _ _), (3, .agg _), (4, .agg _)]) rfl rfl) ?_
  refine RS.storeAggB rfl rfl C32 (by decide) rfl rfl B2 rfl (fun w4 y4 N4 => ?_)
  replace hE := hE.trans (y4.below (by intros; try (first | (intro _ _) | (intro _) | skip); first | omega | (dsimp only at *; omega) | (simp_all; done) | (simp at *; omega)))
  have zw4 := y4.size
  replace B2 := N4
  refine RS.nil ?_
  refine hK3 _ _ ?_
  try clear hK3
  refine wp_ret ?_
  refine ret (rs := [.cell 0 32]) (vs := [.agg _]) (v := (.agg _)) rfl ⟨⟨_, rfl, loadVar_agg Tryd.underlying32 rfl C32 (by decide) rfl (B2.cellsN 11 rfl)⟩, trivial⟩ rfl ?_
  exact ⟨_, rfl, hE, rfl⟩

theorem fitW {S0 : Nat → Prop} (o : S.OpV) (hr : o.rng) (pa : Option Addr) (pc : Nat) (w : World) (D0 : WRow .u8 32 S0 w pa o.n o.ids) (hc : o.n ≤ pc) :
    Calls Tryd.prog 29 #[.agg ([.int .u32 o.au, .slice pa o.n pc, .int .u64 o.st, .int .u8 o.k, .string o.key, .int .u8 o.vk, .int .i64 o.num, .int .u64 o.bits, .string o.t, .int .u32 o.e, .int .u32 o.s] : List Value).toArray] w (Ret w fun v _ => v = .bool (decide (S.Fit o))) := by
  have hE := Ext.refl w
  refine enter (args := [.agg ([.int .u32 o.au, .slice pa o.n pc, .int .u64 o.st, .int .u8 o.k, .string o.key, .int .u8 o.vk, .int .i64 o.num, .int .u64 o.bits, .string o.t, .int .u32 o.e, .int .u32 o.s] : List Value).toArray]) (l := [.agg ([.int .u32 o.au, .slice pa o.n pc, .int .u64 o.st, .int .u8 o.k, .string o.key, .int .u8 o.vk, .int .i64 o.num, .int .u64 o.bits, .string o.t, .int .u32 o.e, .int .u32 o.s] : List Value).toArray, undef, undef, undef, undef, undef, undef, undef, undef, undef, undef]) Tryd.func29 rfl rfl ?_
  refine wp_seq_k (fun K1 hK1 => ?_)
  refine region ?_
  refine RS.box rfl rfl (fun b2 w2 e2 s2 x2 B2 => ?_)
  refine RS.norm (by dsimp only [List.set]) ?_
  replace hE := Ext.tr hE x2
  replace D0 := D0.ext x2
  have zw2 := x2.size
  refine RS.assign (v := .bool false) rfl ?_
  refine RS.nil ?_
  refine hK1 _ _ ?_
  try clear hK1
  refine wp_seq_k (fun K3 hK3 => ?_)
  refine region ?_
  refine RS.o (D.loadAgg rfl Tryd.underlying32 rfl C32 (by decide) rfl (B2.cellsN 11 rfl)) ?_
  refine RS.call E10 (great o _ _ _) rfl (fun v4 w4 x4 A4 => ?_)
  replace hE := Ext.tr hE x4
  replace D0 := D0.ext x4
  replace B2 := B2.ext x4
  have zw4 := x4.size
  subst A4
  refine RS.norm (by dsimp only [List.set]) ?_
  refine RS.o (D.not rfl) ?_
  refine RS.move (v := .bool _) rfl ?_
  refine RS.splitnot 6 rfl rfl (fun c5 => ?_) (fun c5 => ?_)
  · refine RS.norm (by dsimp only [List.set]) ?_
    have hG := c5
    have ho : o.ok := hr.ok (by simpa using hG)
    refine RS.wantB 6 rfl rfl rfl ?_
    refine RS.o (D.loadAgg rfl Tryd.underlying32 rfl C32 (by decide) rfl (B2.cellsN 11 rfl)) ?_
    refine RS.wantB 6 rfl rfl rfl ?_
    refine RS.call E21 (checkOR o ho _ _ _ D0 hc) rfl (fun v6 w6 x6 A6 => ?_)
    replace hE := Ext.tr hE x6
    replace D0 := D0.ext x6
    replace B2 := B2.ext x6
    have zw6 := x6.size
    subst A6
    refine RS.norm (by dsimp only [List.set]) ?_
    refine RS.wantB 6 rfl rfl rfl ?_
    refine RS.o (D.eq rfl rfl) ?_
    refine RS.pick (v := .bool _) rfl rfl ?_
    refine RS.assign (v := .bool _) rfl ?_
    refine RS.nil ?_
    refine hK3 _ _ ?_
    try clear hK3
    refine wp_ret ?_
    refine ret (rs := [.tmp 2]) (vs := [.bool _]) (v := (.bool _)) rfl ⟨rfl, trivial⟩ rfl ?_
    refine ⟨_, rfl, hE, congrArg Value.bool ?_⟩
    simp_all [S.Fit]
    try (by_cases hq : S.checkE o = 0 <;> simp [hq])
  · refine RS.norm (by dsimp only [List.set]) ?_
    have hG := c5
    refine RS.skipB (b := false) 6 rfl rfl rfl rfl ?_
    refine RS.norm (by dsimp only [putL, List.set]) ?_
    refine RS.skipB (b := false) 6 rfl rfl rfl rfl ?_
    refine RS.norm (by dsimp only [putL, List.set]) ?_
    refine RS.skipB (b := false) 6 rfl rfl rfl rfl ?_
    refine RS.norm (by dsimp only [putL, List.set]) ?_
    refine RS.pick (v := .bool false) rfl rfl ?_
    refine RS.assign (v := .bool _) rfl ?_
    refine RS.nil ?_
    refine hK3 _ _ ?_
    try clear hK3
    refine wp_ret ?_
    refine ret (rs := [.tmp 2]) (vs := [.bool _]) (v := (.bool _)) rfl ⟨rfl, trivial⟩ rfl ?_
    refine ⟨_, rfl, hE, congrArg Value.bool ?_⟩
    simp_all [S.Fit]
    try (by_cases hq : S.checkE o = 0 <;> simp [hq])

theorem aliveW (TK : TypeId) (w : World) (K0 : Kst w TK) :
    Calls Tryd.prog 24 #[] w (Ret w fun v _ => v = .bool true) := by
  have hKl := K0.lt
  have hE := Ext.refl w
  refine enter (args := []) (l := [undef, undef, undef, undef, undef, undef, undef, undef, undef, undef, undef, undef, undef, undef, undef, undef, undef, undef, undef, undef, undef, undef, undef, undef, undef, undef, undef, undef, undef, undef, undef, undef, undef, undef, undef, undef, undef, undef, undef, undef, undef, undef, undef, undef, undef, undef, undef, undef, undef, undef, undef, undef, undef, undef, undef, undef, undef, undef, undef, undef]) Tryd.func24 rfl rfl ?_
  refine wp_seq_k (fun K1 hK1 => ?_)
  refine region ?_
  refine RS.assign (v := .bool false) rfl ?_
  refine RS.nil ?_
  refine hK1 _ _ ?_
  try clear hK1
  refine wp_seq_k (fun K2 hK2 => ?_)
  refine region ?_
  refine RS.call E32 (givenW _) rfl (fun v3 w3 x3 A3 => ?_)
  replace hE := Ext.tr hE x3
  replace K0 := K0.ext x3
  have zw3 := x3.size
  subst A3
  refine RS.norm (by dsimp only [List.set]) ?_
  refine RS.call E12 (messageO S.givenO S.given_ok _ _ _ (WRow.nil (S := fun _ => False)) (Nat.le_refl _)) rfl (fun v4 w4 x4 A4 => ?_)
  replace hE := Ext.tr hE x4
  replace K0 := K0.ext x4
  have zw4 := x4.size
  obtain ⟨a4, n4, c4, xs, rfl, OM, hxs⟩ := A4
  rw [if_pos S.given_bare] at hxs
  rw [S.given_bare]
  subst hxs
  have hOM := OM.lo
  refine RS.norm (by dsimp only [List.set]) ?_
  refine RS.move (v := .tuple _) rfl ?_
  refine RS.extract (v := .slice _ _ _) rfl rfl ?_
  refine RS.extract (v := .int _ _) rfl rfl ?_
  refine RS.assign (v := .slice _ _ _) rfl ?_
  refine RS.assign (v := .int _ _) rfl ?_
  refine RS.nil ?_
  refine hK2 _ _ ?_
  try clear hK2
  refine wp_seq_k (fun K5 hK5 => ?_)
  refine region ?_
  refine RS.call E32 (givenW _) rfl (fun v6 w6 x6 A6 => ?_)
  replace hE := Ext.tr hE x6
  replace K0 := K0.ext x6
  replace OM := OM.ext x6
  have zw6 := x6.size
  subst A6
  refine RS.norm (by dsimp only [List.set]) ?_
  refine RS.call E14 (encodeO S.givenO S.given_ok _ _ _ (WRow.nil (S := fun _ => False)) (Nat.le_refl _)) rfl (fun v7 w7 x7 A7 => ?_)
  replace hE := Ext.tr hE x7
  replace K0 := K0.ext x7
  replace OM := OM.ext x7
  have zw7 := x7.size
  obtain ⟨a7, n7, c7, xs, rfl, OE, hxs⟩ := A7
  rw [if_pos S.given_check] at hxs
  rw [S.given_check]
  subst hxs
  have hOE := OE.lo
  refine RS.norm (by dsimp only [List.set]) ?_
  refine RS.move (v := .tuple _) rfl ?_
  refine RS.extract (v := .slice _ _ _) rfl rfl ?_
  refine RS.extract (v := .int _ _) rfl rfl ?_
  refine RS.assign (v := .slice _ _ _) rfl ?_
  refine RS.assign (v := .int _ _) rfl ?_
  refine RS.nil ?_
  refine hK5 _ _ ?_
  try clear hK5
  refine wp_seq_k (fun K8 hK8 => ?_)
  refine region ?_
  refine RS.call E32 (givenW _) rfl (fun v9 w9 x9 A9 => ?_)
  replace hE := Ext.tr hE x9
  replace K0 := K0.ext x9
  replace OM := OM.ext x9
  replace OE := OE.ext x9
  have zw9 := x9.size
  subst A9
  refine RS.norm (by dsimp only [List.set]) ?_
  refine RS.alloc T32 (fun b10 w10 e10 s10 x10 B10 => ?_)
  refine RS.norm (by dsimp only [List.set]) ?_
  replace hE := Ext.tr hE x10
  replace K0 := K0.ext x10
  replace OM := OM.ext x10
  replace OE := OE.ext x10
  have zw10 := x10.size
  refine RS.storeAggB rfl rfl C32 (by decide) rfl rfl B10 rfl (fun w11 y11 N11 => ?_)
  replace hE := hE.trans (y11.below (by intros; try (first | (intro _ _) | (intro _) | skip); first | omega | (dsimp only at *; omega) | (simp_all; done) | (simp at *; omega)))
  replace K0 := K0.st y11 (by intros; try (first | (intro _ _) | (intro _) | skip); first | omega | (dsimp only at *; omega) | (simp_all; done) | (simp at *; omega))
  replace OM := OM.st y11 (by intros; try (first | (intro _ _) | (intro _) | skip); first | omega | (have hq := hOM _ (by assumption); first | omega | (dsimp only at *; omega)))
  replace OE := OE.st y11 (by intros; try (first | (intro _ _) | (intro _) | skip); first | omega | (have hq := hOE _ (by assumption); first | omega | (dsimp only at *; omega)))
  have zw11 := y11.size
  replace B10 := N11
  refine RS.nil ?_
  refine hK8 _ _ ?_
  try clear hK8
  refine wp_seq_k (fun K12 hK12 => ?_)
  refine region ?_
  refine RS.o (D.fieldL 0 rfl Tryd.underlying32 rfl C22 (by decide) rfl) ?_
  refine RS.store rfl (v := .int _ _) rfl C22 rfl B10 rfl (fun w13 y13 N13 => ?_)
  replace hE := hE.trans (y13.below (by intros; try (first | (intro _ _) | (intro _) | skip); first | omega | (dsimp only at *; omega) | (simp_all; done) | (simp at *; omega)))
  replace K0 := K0.st y13 (by intros; try (first | (intro _ _) | (intro _) | skip); first | omega | (dsimp only at *; omega) | (simp_all; done) | (simp at *; omega))
  replace OM := OM.st y13 (by intros; try (first | (intro _ _) | (intro _) | skip); first | omega | (have hq := hOM _ (by assumption); first | omega | (dsimp only at *; omega)))
  replace OE := OE.st y13 (by intros; try (first | (intro _ _) | (intro _) | skip); first | omega | (have hq := hOE _ (by assumption); first | omega | (dsimp only at *; omega)))
  have zw13 := y13.size
  replace B10 := N13
  refine RS.nil ?_
  refine hK12 _ _ ?_
  try clear hK12
  refine wp_seq_k (fun K14 hK14 => ?_)
  refine region ?_
  refine RS.call E32 (givenW _) rfl (fun v15 w15 x15 A15 => ?_)
  replace hE := Ext.tr hE x15
  replace K0 := K0.ext x15
  replace OM := OM.ext x15
  replace OE := OE.ext x15
  replace B10 := B10.ext x15
  have zw15 := x15.size
  subst A15
  refine RS.norm (by dsimp only [List.set]) ?_
  refine RS.call E25 (signO _ (by decide) S.givenO S.given_ok _ _ _ _ K0 (WRow.nil (S := fun _ => False)) (Nat.le_refl _)) rfl (fun v16 w16 x16 A16 => ?_)
  replace hE := Ext.tr hE x16
  replace K0 := K0.ext x16
  replace OM := OM.ext x16
  replace OE := OE.ext x16
  replace B10 := B10.ext x16
  have zw16 := x16.size
  obtain ⟨a16, c16, rfl, hcn, RG⟩ := A16
  rw [S.given_sign]
  obtain ⟨g1, g2, g3, g4, g5, g6, g7⟩ := S.sign_good S.given_ok rfl S.given_sign
  have hso := S.signS_ok 2 S.givenO S.given_ok
  replace RG := RG.weaken (T := fun k => k < w16.heap.size) (fun k hk _ => hk)
  refine RS.norm (by dsimp only [List.set]) ?_
  refine RS.move (v := .tuple _) rfl ?_
  refine RS.extract (v := .agg _) rfl rfl ?_
  refine RS.extract (v := .int _ _) rfl rfl ?_
  refine RS.alloc T32 (fun b17 w17 e17 s17 x17 B17 => ?_)
  refine RS.norm (by dsimp only [List.set]) ?_
  replace hE := Ext.tr hE x17
  replace K0 := K0.ext x17
  replace OM := OM.ext x17
  replace OE := OE.ext x17
  replace B10 := B10.ext x17
  replace RG := RG.ext x17
  have zw17 := x17.size
  refine RS.storeAggB rfl rfl C32 (by decide) rfl rfl B17 rfl (fun w18 y18 N18 => ?_)
  replace hE := hE.trans (y18.below (by intros; try (first | (intro _ _) | (intro _) | skip); first | omega | (dsimp only at *; omega) | (simp_all; done) | (simp at *; omega)))
  replace K0 := K0.st y18 (by intros; try (first | (intro _ _) | (intro _) | skip); first | omega | (dsimp only at *; omega) | (simp_all; done) | (simp at *; omega))
  replace OM := OM.st y18 (by intros; try (first | (intro _ _) | (intro _) | skip); first | omega | (have hq := hOM _ (by assumption); first | omega | (dsimp only at *; omega)))
  replace OE := OE.st y18 (by intros; try (first | (intro _ _) | (intro _) | skip); first | omega | (have hq := hOE _ (by assumption); first | omega | (dsimp only at *; omega)))
  replace B10 := B10.st y18 (by intros; try (first | (intro _ _) | (intro _) | skip); first | omega | (dsimp only at *; omega) | (simp_all; done) | (simp at *; omega))
  replace RG := RG.st y18 (by intros; try (first | (intro _ _) | (intro _) | skip); first | omega | (dsimp only at *; omega) | (simp_all; done) | (simp at *; omega))
  have zw18 := y18.size
  replace B17 := N18
  refine RS.assign (v := .int _ _) rfl ?_
  refine RS.nil ?_
  refine hK14 _ _ ?_
  try clear hK14
  refine wp_seq_k (fun K19 hK19 => ?_)
  refine region ?_
  refine RS.move (v := .int _ _) rfl ?_
  refine RS.o (D.eq rfl rfl) ?_
  refine RS.move (v := .bool _) rfl ?_
  refine RS.splite 27 rfl rfl (fun c20 => ?_) (fun c20 => ?_)
  · refine RS.norm (by dsimp only [List.set]) ?_
    refine RS.wantB 27 rfl rfl rfl ?_
    refine RS.move (v := .slice _ _ _) rfl ?_
    refine RS.wantB 27 rfl rfl rfl ?_
    refine RS.buildSlice (xs := [.const (.int .u8 111), .const (.int .u8 4), .const (.int .u8 0), .const (.int .u8 7), .const (.int .u8 2), .const (.int .u8 1), .const (.int .u8 97)]) (vs := [.int _ _, .int _ _, .int _ _, .int _ _, .int _ _, .int _ _, .int _ _]) (cs := [.int _ _, .int _ _, .int _ _, .int _ _, .int _ _, .int _ _, .int _ _]) Tryd.underlying35 T5 (by decide) rfl rfl rfl rfl rfl rfl (by intro v hv; simp only [List.mem_cons, List.not_mem_nil, or_false] at hv; rcases hv with rfl | rfl | rfl | rfl | rfl | rfl | rfl <;> rfl) rfl (fun b21 w21 e21 s21 x21 B21 => ?_)
    refine RS.norm (by dsimp only [List.set]) ?_
    replace hE := Ext.tr hE x21
    replace K0 := K0.ext x21
    replace OM := OM.ext x21
    replace OE := OE.ext x21
    replace B10 := B10.ext x21
    replace RG := RG.ext x21
    replace B17 := B17.ext x21
    have zw21 := x21.size
    refine RS.wantB 27 rfl rfl rfl ?_
    refine RS.call E22 (sameBytes _ _ _ _ _ _ _ _ _ OM.row (IRow.of_blk (S := fun k => k = b21) B21 rfl rfl rfl (.cons (by decide) (.cons (by decide) (.cons (by decide) (.cons (by decide) (.cons (by decide) (.cons (by decide) (.cons (by decide) (.nil _))))))))) (by rw [← OM.len]; decide +kernel) (by decide)) rfl (fun v22 w22 x22 A22 => ?_)
    replace hE := Ext.tr hE x22
    replace K0 := K0.ext x22
    replace OM := OM.ext x22
    replace OE := OE.ext x22
    replace B10 := B10.ext x22
    replace RG := RG.ext x22
    replace B17 := B17.ext x22
    replace B21 := B21.ext x22
    have zw22 := x22.size
    subst A22
    refine RS.norm (by dsimp only [List.set]) ?_
    refine RS.pick (v := .bool _) rfl rfl ?_
    refine RS.move (v := .bool _) rfl ?_
    refine RS.splitb 32 rfl rfl (fun c23 => ?_) (fun c23 => ?_)
    · refine RS.norm (by dsimp only [List.set]) ?_
      refine RS.wantB 32 rfl rfl rfl ?_
      refine RS.move (v := .int _ _) rfl ?_
      refine RS.wantB 32 rfl rfl rfl ?_
      refine RS.o (D.eq rfl rfl) ?_
      refine RS.pick (v := .bool _) rfl rfl ?_
      refine RS.move (v := .bool _) rfl ?_
      refine RS.splite 36 rfl rfl (fun c24 => ?_) (fun c24 => ?_)
      · refine RS.norm (by dsimp only [List.set]) ?_
        refine RS.wantB 36 rfl rfl rfl ?_
        refine RS.move (v := .slice _ _ _) rfl ?_
        refine RS.wantB 36 rfl rfl rfl ?_
        refine RS.buildSlice (xs := [.const (.int .u8 111), .const (.int .u8 4), .const (.int .u8 0), .const (.int .u8 7), .const (.int .u8 2), .const (.int .u8 1), .const (.int .u8 97), .const (.int .u8 5), .const (.int .u8 6)]) (vs := [.int _ _, .int _ _, .int _ _, .int _ _, .int _ _, .int _ _, .int _ _, .int _ _, .int _ _]) (cs := [.int _ _, .int _ _, .int _ _, .int _ _, .int _ _, .int _ _, .int _ _, .int _ _, .int _ _]) Tryd.underlying35 T5 (by decide) rfl rfl rfl rfl rfl rfl (by intro v hv; simp only [List.mem_cons, List.not_mem_nil, or_false] at hv; rcases hv with rfl | rfl | rfl | rfl | rfl | rfl | rfl | rfl | rfl <;> rfl) rfl (fun b25 w25 e25 s25 x25 B25 => ?_)
        refine RS.norm (by dsimp only [List.set]) ?_
        replace hE := Ext.tr hE x25
        replace K0 := K0.ext x25
        replace OM := OM.ext x25
        replace OE := OE.ext x25
        replace B10 := B10.ext x25
        replace RG := RG.ext x25
        replace B17 := B17.ext x25
        replace B21 := B21.ext x25
        have zw25 := x25.size
        refine RS.wantB 36 rfl rfl rfl ?_
        refine RS.call E22 (sameBytes _ _ _ _ _ _ _ _ _ OE.row (IRow.of_blk (S := fun k => k = b25) B25 rfl rfl rfl (.cons (by decide) (.cons (by decide) (.cons (by decide) (.cons (by decide) (.cons (by decide) (.cons (by decide) (.cons (by decide) (.cons (by decide) (.cons (by decide) (.nil _))))))))))) (by rw [← OE.len]; decide +kernel) (by decide)) rfl (fun v26 w26 x26 A26 => ?_)
        replace hE := Ext.tr hE x26
        replace K0 := K0.ext x26
        replace OM := OM.ext x26
        replace OE := OE.ext x26
        replace B10 := B10.ext x26
        replace RG := RG.ext x26
        replace B17 := B17.ext x26
        replace B21 := B21.ext x26
        replace B25 := B25.ext x26
        have zw26 := x26.size
        subst A26
        refine RS.norm (by dsimp only [List.set]) ?_
        refine RS.pick (v := .bool _) rfl rfl ?_
        refine RS.move (v := .bool _) rfl ?_
        refine RS.splitb 41 rfl rfl (fun c27 => ?_) (fun c27 => ?_)
        · refine RS.norm (by dsimp only [List.set]) ?_
          refine RS.wantB 41 rfl rfl rfl ?_
          refine RS.o (D.loadAgg rfl Tryd.underlying32 rfl C32 (by decide) rfl (B10.cellsN 11 rfl)) ?_
          refine RS.wantB 41 rfl rfl rfl ?_
          refine RS.call E20 (checkO S.wrongO S.wrong_ok _ _ _ (WRow.nil (S := fun _ => False)) (Nat.le_refl _)) rfl (fun v28 w28 x28 A28 => ?_)
          replace hE := Ext.tr hE x28
          replace K0 := K0.ext x28
          replace OM := OM.ext x28
          replace OE := OE.ext x28
          replace B10 := B10.ext x28
          replace RG := RG.ext x28
          replace B17 := B17.ext x28
          replace B21 := B21.ext x28
          replace B25 := B25.ext x28
          have zw28 := x28.size
          subst A28
          rw [S.wrong_check]
          refine RS.norm (by dsimp only [List.set]) ?_
          refine RS.wantB 41 rfl rfl rfl ?_
          refine RS.o (D.eq rfl rfl) ?_
          refine RS.pick (v := .bool _) rfl rfl ?_
          refine RS.move (v := .bool _) rfl ?_
          refine RS.splite 46 rfl rfl (fun c29 => ?_) (fun c29 => ?_)
          · refine RS.norm (by dsimp only [List.set]) ?_
            refine RS.wantB 46 rfl rfl rfl ?_
            refine RS.move (v := .int _ _) rfl ?_
            refine RS.wantB 46 rfl rfl rfl ?_
            refine RS.o (D.eq rfl rfl) ?_
            refine RS.pick (v := .bool _) rfl rfl ?_
            refine RS.move (v := .bool _) rfl ?_
            refine RS.splite 50 rfl rfl (fun c30 => ?_) (fun c30 => ?_)
            · refine RS.norm (by dsimp only [List.set]) ?_
              refine RS.wantB 50 rfl rfl rfl ?_
              refine RS.o (D.fieldL 0 rfl Tryd.underlying32 rfl C22 (by decide) rfl) ?_
              refine RS.wantB 50 rfl rfl rfl ?_
              refine RS.o (D.load rfl Tryd.underlying22 rfl (B17.cell rfl)) ?_
              refine RS.wantB 50 rfl rfl rfl ?_
              refine RS.o (D.eq rfl rfl) ?_
              refine RS.pick (v := .bool _) rfl rfl ?_
              refine RS.move (v := .bool _) rfl ?_
              refine RS.splite 55 rfl rfl (fun c31 => ?_) (fun c31 => ?_)
              · refine RS.norm (by dsimp only [List.set]) ?_
                refine RS.wantB 55 rfl rfl rfl ?_
                refine RS.o (D.loadAgg rfl Tryd.underlying32 rfl C32 (by decide) rfl (B17.cellsN 11 rfl)) ?_
                refine RS.wantB 55 rfl rfl rfl ?_
                refine RS.call E27 (verifyO (S.signS 2 S.givenO) hso _ _ _ _ K0 RG hcn) rfl (fun v32 w32 x32 A32 => ?_)
                replace hE := Ext.tr hE x32
                replace K0 := K0.ext x32
                replace OM := OM.ext x32
                replace OE := OE.ext x32
                replace B10 := B10.ext x32
                replace RG := RG.ext x32
                replace B17 := B17.ext x32
                replace B21 := B21.ext x32
                replace B25 := B25.ext x32
                have zw32 := x32.size
                subst A32
                rw [g7]
                refine RS.norm (by dsimp only [List.set]) ?_
                refine RS.wantB 55 rfl rfl rfl ?_
                refine RS.o (D.eq rfl rfl) ?_
                refine RS.pick (v := .bool _) rfl rfl ?_
                refine RS.assign (v := .bool _) rfl ?_
                refine RS.nil ?_
                refine hK19 _ _ ?_
                try clear hK19
                refine wp_ret ?_
                refine ret (rs := [.tmp 0]) (vs := [.bool _]) (v := (.bool _)) rfl ⟨rfl, trivial⟩ rfl ?_
                exact ⟨_, rfl, hE, rfl⟩
              · refine RS.norm (by dsimp only [List.set]) ?_
                exact absurd (g1.trans S.pub_two) c31
            · refine RS.norm (by dsimp only [List.set]) ?_
              exact absurd rfl c30
          · refine RS.norm (by dsimp only [List.set]) ?_
            exact absurd rfl c29
        · refine RS.norm (by dsimp only [List.set]) ?_
          exact Bool.noConfusion ((decide_eq_true S.given_enc).symm.trans c27)
      · refine RS.norm (by dsimp only [List.set]) ?_
        exact absurd rfl c24
    · refine RS.norm (by dsimp only [List.set]) ?_
      exact Bool.noConfusion ((decide_eq_true S.given_msg).symm.trans c23)
  · refine RS.norm (by dsimp only [List.set]) ?_
    exact absurd rfl c20

end Go.Proofs.YtiohpiiiapjblaaDoor.W
