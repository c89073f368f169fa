/-
  W18: walks of functions, printed by gen.py from the annotations ann18.py.
-/
import Derived.Test.YtiohpiiiapjblaaDoorW17
import Derived.Test.YtiohpiiiapjblaaDoorS10
namespace Go.Proofs.YtiohpiiiapjblaaDoor.W
open Go.RowKit Go.Proofs.YtiohpiiiapjblaaDoor.G
set_option linter.unusedVariables false
set_option maxRecDepth 20000
set_option maxHeartbeats 8000000
attribute [local irreducible] RS RX

theorem E10 : Enters Tryd.prog 10 := .mk Tryd.func10 (by kernel_rfl) rfl
theorem E11 : Enters Tryd.prog 11 := .mk Tryd.func11 (by kernel_rfl) rfl
theorem E13 : Enters Tryd.prog 13 := .mk Tryd.func13 (by kernel_rfl) rfl
theorem E15 : Enters Tryd.prog 15 := .mk Tryd.func15 (by kernel_rfl) rfl
theorem E16 : Enters Tryd.prog 16 := .mk Tryd.func16 (by kernel_rfl) rfl
theorem E17 : Enters Tryd.prog 17 := .mk Tryd.func17 (by kernel_rfl) rfl
theorem E22 : Enters Tryd.prog 22 := .mk Tryd.func22 (by kernel_rfl) rfl
theorem E23 : Enters Tryd.prog 23 := .mk Tryd.func23 (by kernel_rfl) rfl
theorem opMakes {S0 : Nat → Prop} (o : S.OpV) (hr : o.rng) (pa : Option Addr) (pc : Nat) (TK : TypeId) (w : World) (K0 : Kst w TK) (D0 : WRow .u8 32 S0 w pa o.n o.ids) (hc : o.n ≤ pc) :
    Calls Tryd.prog 3 #[.agg ([.int .u32 o.au, .slice pa o.n pc, .int .u64 o.st, .int .u8 o.k, .string o.key, .int .u8 o.vk, .int .i64 o.num, .int .u64 o.bits, .string o.t, .int .u32 o.e, .int .u32 o.s] : List Value).toArray] w (Ret w fun v _ => v = .bool true) := by
  replace D0 := D0.weaken (T := fun k => k < w.heap.size) (fun k hk _ => hk)
  have e4 := D0.len
  have hKl := K0.lt
  have hE := Ext.refl w
  refine enter (args := [.agg ([.int .u32 o.au, .slice pa o.n pc, .int .u64 o.st, .int .u8 o.k, .string o.key, .int .u8 o.vk, .int .i64 o.num, .int .u64 o.bits, .string o.t, .int .u32 o.e, .int .u32 o.s] : List Value).toArray]) (l := [.agg ([.int .u32 o.au, .slice pa o.n pc, .int .u64 o.st, .int .u8 o.k, .string o.key, .int .u8 o.vk, .int .i64 o.num, .int .u64 o.bits, .string o.t, .int .u32 o.e, .int .u32 o.s] : List Value).toArray, undef, undef, undef, undef, undef, undef, undef, undef, undef, undef, undef, undef, undef, undef, undef, undef, undef, undef, undef, undef, undef, undef, undef, undef, undef, undef, undef, undef, undef, undef, undef, undef, undef, undef, undef, undef, undef, undef, undef, undef, undef, undef, undef, undef, undef, undef, undef, undef, undef, undef, undef, undef, undef, undef, undef, undef, undef, undef, undef, undef, undef, undef, undef, undef, undef, undef, undef, undef, undef, undef, undef, undef, undef, undef, undef, undef, undef, undef, undef, undef, undef, undef, undef, undef, undef, undef, undef, undef, undef, undef, undef, undef, undef, undef, undef, undef, undef, undef]) Tryd.func3 rfl rfl ?_
  refine wp_seq_k (fun K1 hK1 => ?_)
  refine region ?_
  refine RS.box rfl rfl (fun b2 w2 e2 s2 x2 B2 => ?_)
  refine RS.norm (by dsimp only [List.set]) ?_
  replace hE := Ext.tr hE x2
  replace K0 := K0.ext x2
  replace D0 := D0.ext x2
  have zw2 := x2.size
  refine RS.assign (v := .bool false) rfl ?_
  refine RS.nil ?_
  refine hK1 _ _ ?_
  try clear hK1
  refine wp_seq_k (fun K3 hK3 => ?_)
  refine wp_seq_k (fun K4 hK4 => ?_)
  refine region ?_
  refine RS.o (D.loadAgg rfl Tryd.underlying32 rfl C32 (by decide) rfl (B2.cellsN 11 rfl)) ?_
  refine RS.call E10 (great o _ _ _) rfl (fun v5 w5 x5 A5 => ?_)
  replace hE := Ext.tr hE x5
  replace K0 := K0.ext x5
  replace D0 := D0.ext x5
  replace B2 := B2.ext x5
  have zw5 := x5.size
  subst A5
  refine RS.norm (by dsimp only [List.set]) ?_
  refine RS.nil ?_
  refine hK4 _ _ ?_
  try clear hK4
  refine C.ifb rfl (fun c6 => ?_) (fun c6 => ?_)
  · have hG := c6
    refine wp_seq_k (fun K7 hK7 => ?_)
    refine region ?_
    refine RS.assign (v := .bool true) rfl ?_
    refine RS.nil ?_
    refine hK7 _ _ ?_
    try clear hK7
    refine wp_ret ?_
    refine ret (rs := [.tmp 2]) (vs := [.bool _]) (v := (.bool _)) rfl ⟨rfl, trivial⟩ rfl ?_
    exact ⟨_, rfl, hE, rfl⟩
  · have ho : o.ok := hr.ok (of_decide_eq_false c6)
    have x1 := ho.key
    have x2 := ho.t
    have x3 := S.msgX_len o ho e4
    have x4 := S.encX_len o ho e4
    have hid := S.idX_arr o
    refine wp_skip ?_
    refine hK3 _ _ ?_
    try clear hK3
    refine wp_seq_k (fun K8 hK8 => ?_)
    refine region ?_
    refine RS.o (D.loadAgg rfl Tryd.underlying32 rfl C32 (by decide) rfl (B2.cellsN 11 rfl)) ?_
    refine RS.call E11 (twin o ho _ _ _ D0 hc) rfl (fun v9 w9 x9 A9 => ?_)
    replace hE := Ext.tr hE x9
    replace K0 := K0.ext x9
    replace D0 := D0.ext x9
    replace B2 := B2.ext x9
    have zw9 := x9.size
    obtain ⟨qa, qc, rfl, hqc, OT⟩ := A9
    have D1 := OT.row.weaken (T := fun k => k < w9.heap.size) (fun k hk _ => hk)
    refine RS.norm (by dsimp only [List.set]) ?_
    refine RS.alloc T32 (fun b10 w10 e10 s10 x10 B10 => ?_)
    refine RS.norm (by dsimp only [List.set]) ?_
    replace hE := Ext.tr hE x10
    replace K0 := K0.ext x10
    replace D0 := D0.ext x10
    replace B2 := B2.ext x10
    replace D1 := D1.ext x10
    have zw10 := x10.size
    refine RS.storeAggB rfl rfl C32 (by decide) rfl rfl B10 rfl (fun w11 y11 N11 => ?_)
    replace hE := hE.trans (y11.below (by intros; try (first | (intro _ _) | (intro _) | skip); first | omega | (dsimp only at *; omega) | (simp_all; done) | (simp at *; omega)))
    replace K0 := K0.st y11 (by intros; try (first | (intro _ _) | (intro _) | skip); first | omega | (dsimp only at *; omega) | (simp_all; done) | (simp at *; omega))
    replace D0 := D0.st y11 (by intros; try (first | (intro _ _) | (intro _) | skip); first | omega | (dsimp only at *; omega) | (simp_all; done) | (simp at *; omega))
    replace B2 := B2.st y11 (by intros; try (first | (intro _ _) | (intro _) | skip); first | omega | (dsimp only at *; omega) | (simp_all; done) | (simp at *; omega))
    replace D1 := D1.st y11 (by intros; try (first | (intro _ _) | (intro _) | skip); first | omega | (dsimp only at *; omega) | (simp_all; done) | (simp at *; omega))
    have zw11 := y11.size
    replace B10 := N11
    refine RS.nil ?_
    refine hK8 _ _ ?_
    try clear hK8
    refine wp_seq_k (fun K12 hK12 => ?_)
    refine region ?_
    refine RS.o (D.loadAgg rfl Tryd.underlying32 rfl C32 (by decide) rfl (B2.cellsN 11 rfl)) ?_
    refine RS.call E12 (messageO o ho _ _ _ D0 hc) rfl (fun v13 w13 x13 A13 => ?_)
    replace hE := Ext.tr hE x13
    replace K0 := K0.ext x13
    replace D0 := D0.ext x13
    replace B2 := B2.ext x13
    replace D1 := D1.ext x13
    replace B10 := B10.ext x13
    have zw13 := x13.size
    obtain ⟨a13, n13, c13, xs13, rfl, OM, hxs⟩ := A13
    subst hxs
    have lM := OM.len
    have RM := OM.row.weaken (T := fun k => k < w13.heap.size) (fun k hk _ => hk)
    refine RS.norm (by dsimp only [List.set]) ?_
    refine RS.move (v := .tuple _) rfl ?_
    refine RS.extract (v := .slice _ _ _) rfl rfl ?_
    refine RS.extract (v := .int _ _) rfl rfl ?_
    refine RS.assign (v := .slice _ _ _) rfl ?_
    refine RS.assign (v := .int _ _) rfl ?_
    refine RS.nil ?_
    refine hK12 _ _ ?_
    try clear hK12
    refine wp_seq_k (fun K14 hK14 => ?_)
    refine region ?_
    refine RS.o (D.loadAgg rfl Tryd.underlying32 rfl C32 (by decide) rfl (B10.cellsN 11 rfl)) ?_
    refine RS.call E13 (messageOR o ho _ _ _ D1 hqc) rfl (fun v15 w15 x15 A15 => ?_)
    replace hE := Ext.tr hE x15
    replace K0 := K0.ext x15
    replace D0 := D0.ext x15
    replace B2 := B2.ext x15
    replace D1 := D1.ext x15
    replace B10 := B10.ext x15
    replace RM := RM.ext x15
    have zw15 := x15.size
    obtain ⟨a15, n15, c15, xs15, rfl, ON, hxs⟩ := A15
    subst hxs
    have lN := ON.len
    have RN := ON.row.weaken (T := fun k => k < w15.heap.size) (fun k hk _ => hk)
    refine RS.norm (by dsimp only [List.set]) ?_
    refine RS.move (v := .tuple _) rfl ?_
    refine RS.extract (v := .slice _ _ _) rfl rfl ?_
    refine RS.extract (v := .int _ _) rfl rfl ?_
    refine RS.assign (v := .slice _ _ _) rfl ?_
    refine RS.assign (v := .int _ _) rfl ?_
    refine RS.nil ?_
    refine hK14 _ _ ?_
    try clear hK14
    refine wp_seq_k (fun K16 hK16 => ?_)
    refine region ?_
    refine RS.o (D.loadAgg rfl Tryd.underlying32 rfl C32 (by decide) rfl (B2.cellsN 11 rfl)) ?_
    refine RS.call E14 (encodeO o ho _ _ _ D0 hc) rfl (fun v17 w17 x17 A17 => ?_)
    replace hE := Ext.tr hE x17
    replace K0 := K0.ext x17
    replace D0 := D0.ext x17
    replace B2 := B2.ext x17
    replace D1 := D1.ext x17
    replace B10 := B10.ext x17
    replace RM := RM.ext x17
    replace RN := RN.ext x17
    have zw17 := x17.size
    obtain ⟨a17, n17, c17, xs17, rfl, OE, hxs⟩ := A17
    subst hxs
    have lE := OE.len
    have RE := OE.row.weaken (T := fun k => k < w17.heap.size) (fun k hk _ => hk)
    refine RS.norm (by dsimp only [List.set]) ?_
    refine RS.move (v := .tuple _) rfl ?_
    refine RS.extract (v := .slice _ _ _) rfl rfl ?_
    refine RS.extract (v := .int _ _) rfl rfl ?_
    refine RS.assign (v := .slice _ _ _) rfl ?_
    refine RS.assign (v := .int _ _) rfl ?_
    refine RS.nil ?_
    refine hK16 _ _ ?_
    try clear hK16
    refine wp_seq_k (fun K18 hK18 => ?_)
    refine region ?_
    refine RS.o (D.loadAgg rfl Tryd.underlying32 rfl C32 (by decide) rfl (B10.cellsN 11 rfl)) ?_
    refine RS.call E15 (encodeOR o ho _ _ _ D1 hqc) rfl (fun v19 w19 x19 A19 => ?_)
    replace hE := Ext.tr hE x19
    replace K0 := K0.ext x19
    replace D0 := D0.ext x19
    replace B2 := B2.ext x19
    replace D1 := D1.ext x19
    replace B10 := B10.ext x19
    replace RM := RM.ext x19
    replace RN := RN.ext x19
    replace RE := RE.ext x19
    have zw19 := x19.size
    obtain ⟨a19, n19, c19, xs19, rfl, OF, hxs⟩ := A19
    subst hxs
    have lF := OF.len
    have RF := OF.row.weaken (T := fun k => k < w19.heap.size) (fun k hk _ => hk)
    refine RS.norm (by dsimp only [List.set]) ?_
    refine RS.move (v := .tuple _) rfl ?_
    refine RS.extract (v := .slice _ _ _) rfl rfl ?_
    refine RS.extract (v := .int _ _) rfl rfl ?_
    refine RS.assign (v := .slice _ _ _) rfl ?_
    refine RS.assign (v := .int _ _) rfl ?_
    refine RS.nil ?_
    refine hK18 _ _ ?_
    try clear hK18
    refine wp_seq_k (fun K20 hK20 => ?_)
    refine region ?_
    refine RS.o (D.loadAgg rfl Tryd.underlying32 rfl C32 (by decide) rfl (B2.cellsN 11 rfl)) ?_
    refine RS.call E16 (idO o ho _ _ _ _ K0 D0 hc) rfl (fun v21 w21 x21 A21 => ?_)
    replace hE := Ext.tr hE x21
    replace K0 := K0.ext x21
    replace D0 := D0.ext x21
    replace B2 := B2.ext x21
    replace D1 := D1.ext x21
    replace B10 := B10.ext x21
    replace RM := RM.ext x21
    replace RN := RN.ext x21
    replace RE := RE.ext x21
    replace RF := RF.ext x21
    have zw21 := x21.size
    subst A21
    refine RS.norm (by dsimp only [List.set]) ?_
    refine RS.move (v := .tuple _) rfl ?_
    refine RS.extract (v := .agg _) rfl rfl ?_
    refine RS.extract (v := .int _ _) rfl rfl ?_
    refine RS.alloc T42 (fun b22 w22 e22 s22 x22 B22 => ?_)
    refine RS.norm (by dsimp only [List.set]) ?_
    replace hE := Ext.tr hE x22
    replace K0 := K0.ext x22
    replace D0 := D0.ext x22
    replace B2 := B2.ext x22
    replace D1 := D1.ext x22
    replace B10 := B10.ext x22
    replace RM := RM.ext x22
    replace RN := RN.ext x22
    replace RE := RE.ext x22
    replace RF := RF.ext x22
    have zw22 := x22.size
    have A22 : IArr .u8 w22 b22 32 (List.replicate 32 0) [] 42 := IArr.zero B22
    clear B22
    refine RS.storeArr A22 rfl rfl C42 (by decide) hid.1 hid.2 (fun w23 y23 N23 => ?_)
    replace hE := hE.trans (y23.below (by intros; try (first | (intro _ _) | (intro _) | skip); first | omega | (dsimp only at *; omega) | (simp_all; done) | (simp at *; omega)))
    replace K0 := K0.st y23 (by intros; try (first | (intro _ _) | (intro _) | skip); first | omega | (dsimp only at *; omega) | (simp_all; done) | (simp at *; omega))
    replace D0 := D0.st y23 (by intros; try (first | (intro _ _) | (intro _) | skip); first | omega | (dsimp only at *; omega) | (simp_all; done) | (simp at *; omega))
    replace B2 := B2.st y23 (by intros; try (first | (intro _ _) | (intro _) | skip); first | omega | (dsimp only at *; omega) | (simp_all; done) | (simp at *; omega))
    replace D1 := D1.st y23 (by intros; try (first | (intro _ _) | (intro _) | skip); first | omega | (dsimp only at *; omega) | (simp_all; done) | (simp at *; omega))
    replace B10 := B10.st y23 (by intros; try (first | (intro _ _) | (intro _) | skip); first | omega | (dsimp only at *; omega) | (simp_all; done) | (simp at *; omega))
    replace RM := RM.st y23 (by intros; try (first | (intro _ _) | (intro _) | skip); first | omega | (dsimp only at *; omega) | (simp_all; done) | (simp at *; omega))
    replace RN := RN.st y23 (by intros; try (first | (intro _ _) | (intro _) | skip); first | omega | (dsimp only at *; omega) | (simp_all; done) | (simp at *; omega))
    replace RE := RE.st y23 (by intros; try (first | (intro _ _) | (intro _) | skip); first | omega | (dsimp only at *; omega) | (simp_all; done) | (simp at *; omega))
    replace RF := RF.st y23 (by intros; try (first | (intro _ _) | (intro _) | skip); first | omega | (dsimp only at *; omega) | (simp_all; done) | (simp at *; omega))
    have zw23 := y23.size
    replace A22 := N23
    refine RS.assign (v := .int _ _) rfl ?_
    refine RS.nil ?_
    refine hK20 _ _ ?_
    try clear hK20
    refine wp_seq_k (fun K24 hK24 => ?_)
    refine region ?_
    refine RS.o (D.loadAgg rfl Tryd.underlying32 rfl C32 (by decide) rfl (B10.cellsN 11 rfl)) ?_
    refine RS.call E17 (idOR o ho _ _ _ D1 hqc) rfl (fun v25 w25 x25 A25 => ?_)
    replace hE := Ext.tr hE x25
    replace K0 := K0.ext x25
    replace D0 := D0.ext x25
    replace B2 := B2.ext x25
    replace D1 := D1.ext x25
    replace B10 := B10.ext x25
    replace RM := RM.ext x25
    replace RN := RN.ext x25
    replace RE := RE.ext x25
    replace RF := RF.ext x25
    replace A22 := A22.ext x25
    have zw25 := x25.size
    subst A25
    refine RS.norm (by dsimp only [List.set]) ?_
    refine RS.move (v := .tuple _) rfl ?_
    refine RS.extract (v := .agg _) rfl rfl ?_
    refine RS.extract (v := .int _ _) rfl rfl ?_
    refine RS.alloc T42 (fun b26 w26 e26 s26 x26 B26 => ?_)
    refine RS.norm (by dsimp only [List.set]) ?_
    replace hE := Ext.tr hE x26
    replace K0 := K0.ext x26
    replace D0 := D0.ext x26
    replace B2 := B2.ext x26
    replace D1 := D1.ext x26
    replace B10 := B10.ext x26
    replace RM := RM.ext x26
    replace RN := RN.ext x26
    replace RE := RE.ext x26
    replace RF := RF.ext x26
    replace A22 := A22.ext x26
    have zw26 := x26.size
    have A26 : IArr .u8 w26 b26 32 (List.replicate 32 0) [] 42 := IArr.zero B26
    clear B26
    refine RS.storeArr A26 rfl rfl C42 (by decide) hid.1 hid.2 (fun w27 y27 N27 => ?_)
    replace hE := hE.trans (y27.below (by intros; try (first | (intro _ _) | (intro _) | skip); first | omega | (dsimp only at *; omega) | (simp_all; done) | (simp at *; omega)))
    replace K0 := K0.st y27 (by intros; try (first | (intro _ _) | (intro _) | skip); first | omega | (dsimp only at *; omega) | (simp_all; done) | (simp at *; omega))
    replace D0 := D0.st y27 (by intros; try (first | (intro _ _) | (intro _) | skip); first | omega | (dsimp only at *; omega) | (simp_all; done) | (simp at *; omega))
    replace B2 := B2.st y27 (by intros; try (first | (intro _ _) | (intro _) | skip); first | omega | (dsimp only at *; omega) | (simp_all; done) | (simp at *; omega))
    replace D1 := D1.st y27 (by intros; try (first | (intro _ _) | (intro _) | skip); first | omega | (dsimp only at *; omega) | (simp_all; done) | (simp at *; omega))
    replace B10 := B10.st y27 (by intros; try (first | (intro _ _) | (intro _) | skip); first | omega | (dsimp only at *; omega) | (simp_all; done) | (simp at *; omega))
    replace RM := RM.st y27 (by intros; try (first | (intro _ _) | (intro _) | skip); first | omega | (dsimp only at *; omega) | (simp_all; done) | (simp at *; omega))
    replace RN := RN.st y27 (by intros; try (first | (intro _ _) | (intro _) | skip); first | omega | (dsimp only at *; omega) | (simp_all; done) | (simp at *; omega))
    replace RE := RE.st y27 (by intros; try (first | (intro _ _) | (intro _) | skip); first | omega | (dsimp only at *; omega) | (simp_all; done) | (simp at *; omega))
    replace RF := RF.st y27 (by intros; try (first | (intro _ _) | (intro _) | skip); first | omega | (dsimp only at *; omega) | (simp_all; done) | (simp at *; omega))
    replace A22 := A22.st y27 (by intros; try (first | (intro _ _) | (intro _) | skip); first | omega | (dsimp only at *; omega) | (simp_all; done) | (simp at *; omega))
    have zw27 := y27.size
    replace A26 := N27
    refine RS.assign (v := .int _ _) rfl ?_
    refine RS.nil ?_
    refine hK24 _ _ ?_
    try clear hK24
    refine wp_seq_k (fun K28 hK28 => ?_)
    refine regionX Ext [(0, .q), (1, .q), (3, .q), (4, .q), (2, .e), (5, .e), (6, .q), (7, .q), (8, .q), (10, .q), (9, .e), (11, .e), (12, .q), (13, .q), (14, .q), (15, .q), (16, .q), (17, .e), (18, .q), (19, .q), (20, .q), (21, .q), (22, .q), (23, .q), (24, .q), (25, .q), (26, .q), (27, .e), (28, .q), (29, .q), (30, .q), (31, .q), (32, .q), (33, .q), (34, .q), (35, .q), (36, .q), (37, .q), (38, .q), (39, .q), (40, .q), (41, .q), (42, .q), (43, .q), (44, .q), (45, .q), (46, .q), (47, .e), (48, .q), (49, .q)] mixed Ext.refl (fun h k => h.tr k) (by kernel_rfl) (fun w29 x29 => ?_)
    replace hE := Ext.tr hE x29
    replace K0 := K0.ext x29
    replace D0 := D0.ext x29
    replace B2 := B2.ext x29
    replace D1 := D1.ext x29
    replace B10 := B10.ext x29
    replace RM := RM.ext x29
    replace RN := RN.ext x29
    replace RE := RE.ext x29
    replace RF := RF.ext x29
    replace A22 := A22.ext x29
    replace A26 := A26.ext x29
    have zw29 := x29.size
    refine RX.o (fun w' hw => D.fieldL 3 rfl Tryd.underlying32 rfl C28 (by decide) rfl) ?_
    refine RX.o (fun w' hw => D.loadAgg rfl Tryd.underlying28 rfl C28 (by decide) rfl ((B2.ext hw).cellsN 6 rfl)) ?_
    refine RX.o (fun w' hw => D.fieldL 3 rfl Tryd.underlying32 rfl C28 (by decide) rfl) ?_
    refine RX.o (fun w' hw => D.loadAgg rfl Tryd.underlying28 rfl C28 (by decide) rfl ((B2.ext hw).cellsN 6 rfl)) ?_
    refine RX.eff ?_
    refine RS.call E18 (checkAct _ _ _ _ _ _ ho.k ho.vk ho.num ho.bits (by omega) (by omega) _) rfl (fun v30 w30 x30 A30 => ?_)
    replace hE := Ext.tr hE x30
    replace K0 := K0.ext x30
    replace D0 := D0.ext x30
    replace B2 := B2.ext x30
    replace D1 := D1.ext x30
    replace B10 := B10.ext x30
    replace RM := RM.ext x30
    replace RN := RN.ext x30
    replace RE := RE.ext x30
    replace RF := RF.ext x30
    replace A22 := A22.ext x30
    replace A26 := A26.ext x30
    have zw30 := x30.size
    subst A30
    refine RS.norm (by dsimp only [List.set]) ?_
    refine RS.nil ⟨x30, ?_⟩
    refine RX.eff ?_
    refine RS.call E19 (checkActR _ _ _ _ _ _ ho.k ho.vk ho.num ho.bits (by omega) (by omega) _) rfl (fun v31 w31 x31 A31 => ?_)
    replace hE := Ext.tr hE x31
    replace K0 := K0.ext x31
    replace D0 := D0.ext x31
    replace B2 := B2.ext x31
    replace D1 := D1.ext x31
    replace B10 := B10.ext x31
    replace RM := RM.ext x31
    replace RN := RN.ext x31
    replace RE := RE.ext x31
    replace RF := RF.ext x31
    replace A22 := A22.ext x31
    replace A26 := A26.ext x31
    have zw31 := x31.size
    subst A31
    refine RS.norm (by dsimp only [List.set]) ?_
    refine RS.nil ⟨x31, ?_⟩
    refine RX.o (fun w' hw => D.eq rfl rfl) ?_
    refine RX.move (v := .bool _) rfl ?_
    refine RX.splite 57 rfl rfl (fun c32 => ?_) (fun c32 => ?_)
    · refine RX.norm (by dsimp only [List.set]) ?_
      refine RX.wantB 57 rfl rfl rfl ?_
      refine RX.o (fun w' hw => D.loadAgg rfl Tryd.underlying32 rfl C32 (by decide) rfl ((B2.ext hw).cellsN 11 rfl)) ?_
      refine RX.wantB 57 rfl rfl rfl ?_
      refine RX.o (fun w' hw => D.loadAgg rfl Tryd.underlying32 rfl C32 (by decide) rfl ((B10.ext hw).cellsN 11 rfl)) ?_
      refine RX.wantB 57 rfl rfl rfl ?_
      refine RX.eff ?_
      refine RS.call E20 (checkO o ho _ _ _ D0 hc) rfl (fun v33 w33 x33 A33 => ?_)
      replace hE := Ext.tr hE x33
      replace K0 := K0.ext x33
      replace D0 := D0.ext x33
      replace B2 := B2.ext x33
      replace D1 := D1.ext x33
      replace B10 := B10.ext x33
      replace RM := RM.ext x33
      replace RN := RN.ext x33
      replace RE := RE.ext x33
      replace RF := RF.ext x33
      replace A22 := A22.ext x33
      replace A26 := A26.ext x33
      have zw33 := x33.size
      subst A33
      refine RS.norm (by dsimp only [List.set]) ?_
      refine RS.nil ⟨x33, ?_⟩
      refine RX.wantB 57 rfl rfl rfl ?_
      refine RX.eff ?_
      refine RS.call E21 (checkOR o ho _ _ _ D1 hqc) rfl (fun v34 w34 x34 A34 => ?_)
      replace hE := Ext.tr hE x34
      replace K0 := K0.ext x34
      replace D0 := D0.ext x34
      replace B2 := B2.ext x34
      replace D1 := D1.ext x34
      replace B10 := B10.ext x34
      replace RM := RM.ext x34
      replace RN := RN.ext x34
      replace RE := RE.ext x34
      replace RF := RF.ext x34
      replace A22 := A22.ext x34
      replace A26 := A26.ext x34
      have zw34 := x34.size
      subst A34
      refine RS.norm (by dsimp only [List.set]) ?_
      refine RS.nil ⟨x34, ?_⟩
      refine RX.wantB 57 rfl rfl rfl ?_
      refine RX.o (fun w' hw => D.eq rfl rfl) ?_
      refine RX.pick (v := .bool _) rfl rfl ?_
      refine RX.move (v := .bool _) rfl ?_
      refine RX.splite 64 rfl rfl (fun c35 => ?_) (fun c35 => ?_)
      · refine RX.norm (by dsimp only [List.set]) ?_
        refine RX.wantB 64 rfl rfl rfl ?_
        refine RX.move (v := .slice _ _ _) rfl ?_
        refine RX.wantB 64 rfl rfl rfl ?_
        refine RX.move (v := .slice _ _ _) rfl ?_
        refine RX.wantB 64 rfl rfl rfl ?_
        refine RX.eff ?_
        refine RS.call E22 (sameBytes _ _ _ _ _ _ _ _ _ RM RN (by omega) (by omega)) rfl (fun v36 w36 x36 A36 => ?_)
        replace hE := Ext.tr hE x36
        replace K0 := K0.ext x36
        replace D0 := D0.ext x36
        replace B2 := B2.ext x36
        replace D1 := D1.ext x36
        replace B10 := B10.ext x36
        replace RM := RM.ext x36
        replace RN := RN.ext x36
        replace RE := RE.ext x36
        replace RF := RF.ext x36
        replace A22 := A22.ext x36
        replace A26 := A26.ext x36
        have zw36 := x36.size
        subst A36
        refine RS.norm (by dsimp only [List.set]) ?_
        refine RS.nil ⟨x36, ?_⟩
        refine RX.pick (v := .bool _) rfl rfl ?_
        refine RX.move (v := .bool _) rfl ?_
        refine RX.splitb 69 rfl rfl (fun c37 => ?_) (fun c37 => ?_)
        · refine RX.norm (by dsimp only [List.set]) ?_
          refine RX.wantB 69 rfl rfl rfl ?_
          refine RX.move (v := .int _ _) rfl ?_
          refine RX.wantB 69 rfl rfl rfl ?_
          refine RX.move (v := .int _ _) rfl ?_
          refine RX.wantB 69 rfl rfl rfl ?_
          refine RX.o (fun w' hw => D.eq rfl rfl) ?_
          refine RX.pick (v := .bool _) rfl rfl ?_
          refine RX.move (v := .bool _) rfl ?_
          refine RX.splite 74 rfl rfl (fun c38 => ?_) (fun c38 => ?_)
          · refine RX.norm (by dsimp only [List.set]) ?_
            refine RX.wantB 74 rfl rfl rfl ?_
            refine RX.move (v := .slice _ _ _) rfl ?_
            refine RX.wantB 74 rfl rfl rfl ?_
            refine RX.move (v := .slice _ _ _) rfl ?_
            refine RX.wantB 74 rfl rfl rfl ?_
            refine RX.eff ?_
            refine RS.call E22 (sameBytes _ _ _ _ _ _ _ _ _ RE RF (by omega) (by omega)) rfl (fun v39 w39 x39 A39 => ?_)
            replace hE := Ext.tr hE x39
            replace K0 := K0.ext x39
            replace D0 := D0.ext x39
            replace B2 := B2.ext x39
            replace D1 := D1.ext x39
            replace B10 := B10.ext x39
            replace RM := RM.ext x39
            replace RN := RN.ext x39
            replace RE := RE.ext x39
            replace RF := RF.ext x39
            replace A22 := A22.ext x39
            replace A26 := A26.ext x39
            have zw39 := x39.size
            subst A39
            refine RS.norm (by dsimp only [List.set]) ?_
            refine RS.nil ⟨x39, ?_⟩
            refine RX.pick (v := .bool _) rfl rfl ?_
            refine RX.move (v := .bool _) rfl ?_
            refine RX.splitb 79 rfl rfl (fun c40 => ?_) (fun c40 => ?_)
            · refine RX.norm (by dsimp only [List.set]) ?_
              refine RX.wantB 79 rfl rfl rfl ?_
              refine RX.move (v := .int _ _) rfl ?_
              refine RX.wantB 79 rfl rfl rfl ?_
              refine RX.move (v := .int _ _) rfl ?_
              refine RX.wantB 79 rfl rfl rfl ?_
              refine RX.o (fun w' hw => D.eq rfl rfl) ?_
              refine RX.pick (v := .bool _) rfl rfl ?_
              refine RX.move (v := .bool _) rfl ?_
              refine RX.splite 84 rfl rfl (fun c41 => ?_) (fun c41 => ?_)
              · refine RX.norm (by dsimp only [List.set]) ?_
                refine RX.wantB 84 rfl rfl rfl ?_
                refine RX.o (fun w' hw => D.loadAgg rfl Tryd.underlying42 rfl C42 (by decide) (by rw [ints_length, A22.len]) (A22.ext hw).cells) ?_
                refine RX.wantB 84 rfl rfl rfl ?_
                refine RX.o (fun w' hw => D.loadAgg rfl Tryd.underlying42 rfl C42 (by decide) (by rw [ints_length, A26.len]) (A26.ext hw).cells) ?_
                refine RX.wantB 84 rfl rfl rfl ?_
                refine RX.o (fun w' hw => D.eqI rfl rfl Tryd.underlying42 Tryd.underlying5 C5 (by kernel_rfl) hid.1 hid.1 (by decide)) ?_
                refine RX.pick (v := .bool _) rfl rfl ?_
                refine RX.move (v := .bool _) rfl ?_
                refine RX.splitb 89 rfl rfl (fun c42 => ?_) (fun c42 => ?_)
                · refine RX.norm (by dsimp only [List.set]) ?_
                  refine RX.wantB 89 rfl rfl rfl ?_
                  refine RX.move (v := .int _ _) rfl ?_
                  refine RX.wantB 89 rfl rfl rfl ?_
                  refine RX.move (v := .int _ _) rfl ?_
                  refine RX.wantB 89 rfl rfl rfl ?_
                  refine RX.o (fun w' hw => D.eq rfl rfl) ?_
                  refine RX.pick (v := .bool _) rfl rfl ?_
                  refine RX.move (v := .bool _) rfl ?_
                  refine RX.splite 94 rfl rfl (fun c43 => ?_) (fun c43 => ?_)
                  · refine RX.norm (by dsimp only [List.set]) ?_
                    refine RX.wantB 94 rfl rfl rfl ?_
                    refine RX.o (fun w' hw => D.loadAgg rfl Tryd.underlying32 rfl C32 (by decide) rfl ((B2.ext hw).cellsN 11 rfl)) ?_
                    refine RX.wantB 94 rfl rfl rfl ?_
                    refine RX.o (fun w' hw => D.loadAgg rfl Tryd.underlying32 rfl C32 (by decide) rfl ((B10.ext hw).cellsN 11 rfl)) ?_
                    refine RX.wantB 94 rfl rfl rfl ?_
                    refine RX.eff ?_
                    refine RS.call E23 (sameO o o ho ho _ _ _ _ _ D0 D1) rfl (fun v44 w44 x44 A44 => ?_)
                    replace hE := Ext.tr hE x44
                    replace K0 := K0.ext x44
                    replace D0 := D0.ext x44
                    replace B2 := B2.ext x44
                    replace D1 := D1.ext x44
                    replace B10 := B10.ext x44
                    replace RM := RM.ext x44
                    replace RN := RN.ext x44
                    replace RE := RE.ext x44
                    replace RF := RF.ext x44
                    replace A22 := A22.ext x44
                    replace A26 := A26.ext x44
                    have zw44 := x44.size
                    subst A44
                    refine RS.norm (by dsimp only [List.set]) ?_
                    refine RS.nil ⟨x44, ?_⟩
                    refine RX.pick (v := .bool _) rfl rfl ?_
                    refine RX.assign (v := .bool _) rfl ?_
                    refine RX.nil ?_
                    refine hK28 _ _ ?_
                    try clear hK28
                    refine wp_ret ?_
                    refine ret (rs := [.tmp 2]) (vs := [.bool _]) (v := (.bool _)) rfl ⟨rfl, trivial⟩ rfl ?_
                    exact ⟨_, rfl, hE, congrArg Value.bool (decide_eq_true (S.sameO_refl o))⟩
                  · refine RX.norm (by dsimp only [List.set]) ?_
                    exact absurd rfl c43
                · refine RX.norm (by dsimp only [List.set]) ?_
                  exact Bool.noConfusion ((decide_eq_true rfl).symm.trans c42)
              · refine RX.norm (by dsimp only [List.set]) ?_
                exact absurd rfl c41
            · refine RX.norm (by dsimp only [List.set]) ?_
              exact Bool.noConfusion ((decide_eq_true rfl).symm.trans c40)
          · refine RX.norm (by dsimp only [List.set]) ?_
            exact absurd rfl c38
        · refine RX.norm (by dsimp only [List.set]) ?_
          exact Bool.noConfusion ((decide_eq_true rfl).symm.trans c37)
      · refine RX.norm (by dsimp only [List.set]) ?_
        exact absurd rfl c35
    · refine RX.norm (by dsimp only [List.set]) ?_
      exact absurd rfl c32

end Go.Proofs.YtiohpiiiapjblaaDoor.W
