/-
  W14: walks of functions, printed by gen.py from the annotations ann14.py.
-/
import Derived.Test.YtiohpiiiapjblaaDoorW13
import Derived.Test.YtiohpiiiapjblaaDoorG18
namespace Go.Proofs.YtiohpiiiapjblaaDoor.W
open Go.RowKit Go.Proofs.YtiohpiiiapjblaaDoor.G
set_option linter.unusedVariables false
set_option maxRecDepth 20000
set_option maxHeartbeats 8000000
attribute [local irreducible] RS RX

theorem C23 : Tryd.prog.cellsOf 23 = 1 := by kernel_rfl
theorem C30 : Tryd.prog.cellsOf 30 = 2 := by kernel_rfl
theorem E18 : Enters Tryd.prog 18 := .mk Tryd.func18 (by kernel_rfl) rfl
theorem E55 : Enters Tryd.prog 55 := .mk Tryd.func55 (by kernel_rfl) rfl
theorem E57 : Enters Tryd.prog 57 := .mk Tryd.func57 (by kernel_rfl) rfl
theorem E58 : Enters Tryd.prog 58 := .mk Tryd.func58 (by kernel_rfl) rfl
theorem checkO {S0 : Nat → Prop} (o : S.OpV) (ho : o.ok) (pa : Option Addr) (pc : Nat) (w : World) (D0 : WRow .u8 32 S0 w pa o.n o.ids) (hc : o.n ≤ pc) :
    Calls Tryd.prog 20 #[.agg ([.int .u32 o.au, .slice pa o.n pc, .int .u64 o.st, .int .u8 o.k, .string o.key, .int .u8 o.vk, .int .i64 o.num, .int .u64 o.bits, .string o.t, .int .u32 o.e, .int .u32 o.s] : List Value).toArray] w (Ret w fun v _ => v = .int .i64 (S.checkE o)) := by
  replace D0 := D0.weaken (T := fun k => k < w.heap.size) (fun k hk _ => hk)
  have o1 := ho.au
  have o2 := ho.st
  have o3 := ho.k
  have o4 := ho.vk
  have o5 := ho.num
  have o6 := ho.bits
  have o7 := ho.e
  have o8 := ho.s
  have o9 := ho.n
  have o10 := ho.key
  have o11 := ho.t
  have hE := Ext.refl w
  refine enter (args := [.agg ([.int .u32 o.au, .slice pa o.n pc, .int .u64 o.st, .int .u8 o.k, .string o.key, .int .u8 o.vk, .int .i64 o.num, .int .u64 o.bits, .string o.t, .int .u32 o.e, .int .u32 o.s] : List Value).toArray]) (l := [.agg ([.int .u32 o.au, .slice pa o.n pc, .int .u64 o.st, .int .u8 o.k, .string o.key, .int .u8 o.vk, .int .i64 o.num, .int .u64 o.bits, .string o.t, .int .u32 o.e, .int .u32 o.s] : List Value).toArray, undef, undef, undef, undef, undef, undef, undef, undef, undef, undef, undef, undef, undef, undef, undef, undef, undef, undef, undef, undef, undef, undef, undef, undef, undef, undef, undef, undef, undef, undef, undef, undef, undef, undef, undef, undef, undef, undef, undef, undef, undef, undef, undef, undef, undef, undef]) Tryd.func20 rfl rfl ?_
  refine wp_seq_k (fun K1 hK1 => ?_)
  refine region ?_
  refine RS.box rfl rfl (fun b2 w2 e2 s2 x2 B2 => ?_)
  refine RS.norm (by dsimp only [List.set]) ?_
  replace hE := Ext.tr hE x2
  replace D0 := D0.ext x2
  have zw2 := x2.size
  refine RS.assign (v := .int .i64 0) rfl ?_
  refine RS.nil ?_
  refine hK1 _ _ ?_
  try clear hK1
  refine wp_seq_k (fun K3 hK3 => ?_)
  refine wp_block ?_
  refine wp_seq_k (fun K4 hK4 => ?_)
  refine region ?_
  refine RS.o (D.fieldL 1 rfl Tryd.underlying32 rfl C23 (by decide) rfl) ?_
  refine RS.o (D.load rfl Tryd.underlying23 rfl (B2.cell rfl)) ?_
  refine RS.o (D.len rfl Tryd.underlying23) ?_
  refine RS.o (D.gt rfl rfl) ?_
  refine RS.assign (v := .bool _) rfl ?_
  refine RS.nil ?_
  refine hK4 _ _ ?_
  try clear hK4
  refine C.ifd rfl (fun c5 => ?_) (fun c5 => ?_)
  · have h4 := c5
    refine wp_seq_k (fun K6 hK6 => ?_)
    refine region ?_
    refine RS.assign (v := .int .i64 4) rfl ?_
    refine RS.nil ?_
    refine hK6 _ _ ?_
    try clear hK6
    refine wp_ret ?_
    refine ret (rs := [.tmp 2]) (vs := [.int _ _]) (v := (.int _ _)) rfl ⟨rfl, trivial⟩ rfl ?_
    refine ⟨_, rfl, hE, congrArg (Value.int .i64) ?_⟩
    exact S.check4 (by omega)
  · have h4 := c5
    refine wp_seq_k (fun K7 hK7 => ?_)
    refine regionX (Below w2.heap.size) [(0, .q), (1, .q), (2, .e), (3, .q), (4, .q), (5, .q), (6, .q), (10, .q), (11, .q), (12, .q), (7, .e), (8, .e), (9, .q), (13, .q), (14, .q), (15, .q)] mixed (fun w => Below.refl _ _) (fun h k => Below.trans h k) (by kernel_rfl) (fun w8 x8 => ?_)
    replace hE := Ext.tr hE x8
    replace D0 := D0.ext x8
    replace B2 := B2.ext x8
    have zw8 := x8.size
    refine RX.o (fun w' hw => D.fieldL 1 rfl Tryd.underlying32 rfl C23 (by decide) rfl) ?_
    refine RX.o (fun w' hw => D.load rfl Tryd.underlying23 rfl ((B2.bel hw (by omega)).cell rfl)) ?_
    refine RX.eff ?_
    refine RS.call E55 (isSorted _ _ _ _ _ D0 hc (by omega)) rfl (fun v9 w9 x9 A9 => ?_)
    replace hE := Ext.tr hE x9
    replace D0 := D0.ext x9
    replace B2 := B2.ext x9
    have zw9 := x9.size
    subst A9
    refine RS.norm (by dsimp only [List.set]) ?_
    refine RS.nil ⟨(x9.mono (by omega)), ?_⟩
    refine RX.o (fun w' hw => D.not rfl) ?_
    refine RX.move (v := .bool _) rfl ?_
    refine RX.splitnot 13 rfl rfl (fun c10 => ?_) (fun c10 => ?_)
    · refine RX.norm (by dsimp only [List.set]) ?_
      have hso := of_decide_eq_false c10
      refine RX.skipB (b := true) 13 rfl rfl rfl rfl ?_
      refine RX.norm (by dsimp only [putL, List.set]) ?_
      refine RX.skipB (b := true) 13 rfl rfl rfl rfl ?_
      refine RX.norm (by dsimp only [putL, List.set]) ?_
      refine RX.skipB (b := true) 13 rfl rfl rfl rfl ?_
      refine RX.norm (by dsimp only [putL, List.set]) ?_
      refine RX.skipB (b := true) 13 rfl rfl rfl rfl ?_
      refine RX.norm (by dsimp only [putL, List.set]) ?_
      refine RX.skipB (b := true) 13 rfl rfl rfl rfl ?_
      refine RX.norm (by dsimp only [putL, List.set]) ?_
      refine RX.skipB (b := true) 13 rfl rfl rfl rfl ?_
      refine RX.norm (by dsimp only [putL, List.set]) ?_
      refine RX.skipB (b := true) 13 rfl rfl rfl rfl ?_
      refine RX.norm (by dsimp only [putL, List.set]) ?_
      refine RX.skipB (b := true) 13 rfl rfl rfl rfl ?_
      refine RX.norm (by dsimp only [putL, List.set]) ?_
      refine RX.skipB (b := true) 13 rfl rfl rfl rfl ?_
      refine RX.norm (by dsimp only [putL, List.set]) ?_
      refine RX.pick (v := .bool true) rfl rfl ?_
      refine RX.assign (v := .bool _) rfl ?_
      refine RX.nil ?_
      refine hK7 _ _ ?_
      try clear hK7
      refine C.ift rfl ?_
      refine wp_seq_k (fun K11 hK11 => ?_)
      refine region ?_
      refine RS.assign (v := .int .i64 32) rfl ?_
      refine RS.nil ?_
      refine hK11 _ _ ?_
      try clear hK11
      refine wp_ret ?_
      refine ret (rs := [.tmp 2]) (vs := [.int _ _]) (v := (.int _ _)) rfl ⟨rfl, trivial⟩ rfl ?_
      refine ⟨_, rfl, hE, congrArg (Value.int .i64) ?_⟩
      exact S.check32 (by omega) (fun h => hso ((S.rising_iff _ _).1 h).1)
    · refine RX.norm (by dsimp only [List.set]) ?_
      have hso := of_decide_eq_true c10
      refine RX.wantB 13 rfl rfl rfl ?_
      refine RX.o (fun w' hw => D.fieldL 1 rfl Tryd.underlying32 rfl C23 (by decide) rfl) ?_
      refine RX.wantB 13 rfl rfl rfl ?_
      refine RX.o (fun w' hw => D.load rfl Tryd.underlying23 rfl ((B2.bel hw (by omega)).cell rfl)) ?_
      refine RX.wantB 13 rfl rfl rfl ?_
      refine RX.o (fun w' hw => D.fieldL 1 rfl Tryd.underlying32 rfl C23 (by decide) rfl) ?_
      refine RX.wantB 13 rfl rfl rfl ?_
      refine RX.o (fun w' hw => D.load rfl Tryd.underlying23 rfl ((B2.bel hw (by omega)).cell rfl)) ?_
      refine RX.wantB 13 rfl rfl rfl ?_
      refine RX.o (fun w' hw => D.len rfl Tryd.underlying23) ?_
      refine RX.wantB 13 rfl rfl rfl ?_
      refine RX.eff ?_
      refine RS.call E58 (cloneID _ _ _ _ _ D0 hc (by omega)) rfl (fun v12 w12 x12 A12 => ?_)
      replace hE := Ext.tr hE x12
      replace D0 := D0.ext x12
      replace B2 := B2.ext x12
      have zw12 := x12.size
      obtain ⟨a12, n12, c12, rfl, hnn, O1⟩ := A12
      obtain ⟨g0, hg, hgl⟩ : ∃ g0, (n12 < 2 ∨ a12 = some ⟨g0, 0, none⟩) ∧ w2.heap.size ≤ g0 := by
        by_cases h2 : n12 < 2
        · exact ⟨w12.heap.size, .inl h2, by omega⟩
        · obtain ⟨g, hg⟩ := O1.some (by omega)
          exact ⟨g, .inr hg, by have := O1.los g (by rw [hg]; rfl); omega⟩
      refine RS.norm (by dsimp only [List.set]) ?_
      refine RS.nil ⟨(x12.mono (by omega)), ?_⟩
      refine RX.wantB 13 rfl rfl rfl ?_
      refine RX.eff ?_
      refine RS.callx E57 (compact _ _ _ _ _ _ _ O1 hg (by omega)) rfl (fun e13 w13 A13 => ?_)
      obtain ⟨a13, n13, c13, rfl, X13, hap⟩ := A13
      refine ⟨_, rfl, ?_⟩
      refine RS.norm (by dsimp only [List.set]) ?_
      replace hE := hE.trans (X13.below (by intros; try (first | (intro _ _) | (intro _) | skip); first | omega | (dsimp only at *; omega) | (simp_all; done) | (simp at *; omega)) (by intros; try (first | (intro _ _) | (intro _) | skip); first | omega | (dsimp only at *; omega) | (simp_all; done) | (simp at *; omega)))
      replace D0 := D0.pr X13 (by intros; try (first | (intro _ _) | (intro _) | skip); first | omega | (dsimp only at *; omega) | (simp_all; done) | (simp at *; omega))
      replace B2 := B2.pr X13 (by intros; try (first | (intro _ _) | (intro _) | skip); first | omega | (dsimp only at *; omega) | (simp_all; done) | (simp at *; omega))
      have zw13 := X13.size
      have hnz := hnn
      refine RS.nil ⟨(X13.below (by intros; try (first | (intro _ _) | (intro _) | skip); first | omega | (dsimp only at *; omega) | (simp_all; done) | (simp at *; omega)) (by intros; try (first | (intro _ _) | (intro _) | skip); first | omega | (dsimp only at *; omega) | (simp_all; done) | (simp at *; omega))), ?_⟩
      refine RX.wantB 13 rfl rfl rfl ?_
      refine RX.o (fun w' hw => D.len rfl Tryd.underlying23) ?_
      refine RX.wantB 13 rfl rfl rfl ?_
      refine RX.o (fun w' hw => D.ne rfl rfl) ?_
      refine RX.pick (v := .bool _) rfl rfl ?_
      refine RX.assign (v := .bool _) rfl ?_
      refine RX.nil ?_
      refine hK7 _ _ ?_
      try clear hK7
      refine C.ifn rfl (fun c14 => ?_) (fun c14 => ?_)
      · try have hne := c14
        refine wp_seq_k (fun K15 hK15 => ?_)
        refine region ?_
        refine RS.assign (v := .int .i64 32) rfl ?_
        refine RS.nil ?_
        refine hK15 _ _ ?_
        try clear hK15
        refine wp_ret ?_
        refine ret (rs := [.tmp 2]) (vs := [.int _ _]) (v := (.int _ _)) rfl ⟨rfl, trivial⟩ rfl ?_
        refine ⟨_, rfl, hE, congrArg (Value.int .i64) ?_⟩
        exact S.check32 (by omega) (fun h => hne (by have := hap.2; rw [hnz] at this; exact congrArg Nat.cast (this ((S.rising_iff _ _).1 h).2)))
      · try have hne := c14
        refine wp_seq_k (fun K16 hK16 => ?_)
        refine region ?_
        refine RS.o (D.fieldL 0 rfl Tryd.underlying32 rfl C22 (by decide) rfl) ?_
        refine RS.o (D.load rfl Tryd.underlying22 rfl (B2.cell rfl)) ?_
        refine RS.call E59 (group_Is _ (by omega) _) rfl (fun v17 w17 x17 A17 => ?_)
        replace hE := Ext.tr hE x17
        replace D0 := D0.ext x17
        replace B2 := B2.ext x17
        have zw17 := x17.size
        subst A17
        refine RS.norm (by dsimp only [List.set]) ?_
        refine RS.o (D.not rfl) ?_
        refine RS.move (v := .bool _) rfl ?_
        refine RS.splitnot 29 rfl rfl (fun c18 => ?_) (fun c18 => ?_)
        · refine RS.norm (by dsimp only [List.set]) ?_
          have hG := c18
          refine RS.skipB (b := true) 29 rfl rfl rfl rfl ?_
          refine RS.norm (by dsimp only [putL, List.set]) ?_
          refine RS.skipB (b := true) 29 rfl rfl rfl rfl ?_
          refine RS.norm (by dsimp only [putL, List.set]) ?_
          refine RS.skipB (b := true) 29 rfl rfl rfl rfl ?_
          refine RS.norm (by dsimp only [putL, List.set]) ?_
          refine RS.pick (v := .bool true) rfl rfl ?_
          refine RS.move (v := .bool _) rfl ?_
          refine RS.skipB (b := true) 34 rfl rfl rfl rfl ?_
          refine RS.norm (by dsimp only [putL, List.set]) ?_
          refine RS.skipB (b := true) 34 rfl rfl rfl rfl ?_
          refine RS.norm (by dsimp only [putL, List.set]) ?_
          refine RS.skipB (b := true) 34 rfl rfl rfl rfl ?_
          refine RS.norm (by dsimp only [putL, List.set]) ?_
          refine RS.skipB (b := true) 34 rfl rfl rfl rfl ?_
          refine RS.norm (by dsimp only [putL, List.set]) ?_
          refine RS.skipB (b := true) 34 rfl rfl rfl rfl ?_
          refine RS.norm (by dsimp only [putL, List.set]) ?_
          refine RS.skipB (b := true) 34 rfl rfl rfl rfl ?_
          refine RS.norm (by dsimp only [putL, List.set]) ?_
          refine RS.skipB (b := true) 34 rfl rfl rfl rfl ?_
          refine RS.norm (by dsimp only [putL, List.set]) ?_
          refine RS.skipB (b := true) 34 rfl rfl rfl rfl ?_
          refine RS.norm (by dsimp only [putL, List.set]) ?_
          refine RS.pick (v := .bool true) rfl rfl ?_
          refine RS.assign (v := .bool _) rfl ?_
          refine RS.nil ?_
          refine hK16 _ _ ?_
          try clear hK16
          refine C.ift rfl ?_
          refine wp_seq_k (fun K19 hK19 => ?_)
          refine region ?_
          refine RS.assign (v := .int .i64 8) rfl ?_
          refine RS.nil ?_
          refine hK19 _ _ ?_
          try clear hK19
          refine wp_ret ?_
          refine ret (rs := [.tmp 2]) (vs := [.int _ _]) (v := (.int _ _)) rfl ⟨rfl, trivial⟩ rfl ?_
          refine ⟨_, rfl, hE, congrArg (Value.int .i64) ?_⟩
          have hri : S.Rising o.n o.ids := (S.rising_iff _ _).2 ⟨hso, by have h7 := hap.1; rw [hnz] at h7; exact h7 (by omega)⟩
          refine S.check8 (by omega) hri (fun h => ?_)
          have := h.1
          simp_all
        · refine RS.norm (by dsimp only [List.set]) ?_
          have hG := c18
          refine RS.wantB 29 rfl rfl rfl ?_
          refine RS.o (D.fieldL 2 rfl Tryd.underlying32 rfl C24 (by decide) rfl) ?_
          refine RS.wantB 29 rfl rfl rfl ?_
          refine RS.o (D.load rfl Tryd.underlying24 rfl (B2.cell rfl)) ?_
          refine RS.wantB 29 rfl rfl rfl ?_
          refine RS.o (D.gt rfl rfl) ?_
          refine RS.pick (v := .bool _) rfl rfl ?_
          refine RS.move (v := .bool _) rfl ?_
          refine RS.splitd 34 rfl rfl (fun c20 => ?_) (fun c20 => ?_)
          · refine RS.norm (by dsimp only [List.set]) ?_
            have hS := c20
            refine RS.skipB (b := true) 34 rfl rfl rfl rfl ?_
            refine RS.norm (by dsimp only [putL, List.set]) ?_
            refine RS.skipB (b := true) 34 rfl rfl rfl rfl ?_
            refine RS.norm (by dsimp only [putL, List.set]) ?_
            refine RS.skipB (b := true) 34 rfl rfl rfl rfl ?_
            refine RS.norm (by dsimp only [putL, List.set]) ?_
            refine RS.skipB (b := true) 34 rfl rfl rfl rfl ?_
            refine RS.norm (by dsimp only [putL, List.set]) ?_
            refine RS.skipB (b := true) 34 rfl rfl rfl rfl ?_
            refine RS.norm (by dsimp only [putL, List.set]) ?_
            refine RS.skipB (b := true) 34 rfl rfl rfl rfl ?_
            refine RS.norm (by dsimp only [putL, List.set]) ?_
            refine RS.skipB (b := true) 34 rfl rfl rfl rfl ?_
            refine RS.norm (by dsimp only [putL, List.set]) ?_
            refine RS.skipB (b := true) 34 rfl rfl rfl rfl ?_
            refine RS.norm (by dsimp only [putL, List.set]) ?_
            refine RS.pick (v := .bool true) rfl rfl ?_
            refine RS.assign (v := .bool _) rfl ?_
            refine RS.nil ?_
            refine hK16 _ _ ?_
            try clear hK16
            refine C.ift rfl ?_
            refine wp_seq_k (fun K21 hK21 => ?_)
            refine region ?_
            refine RS.assign (v := .int .i64 8) rfl ?_
            refine RS.nil ?_
            refine hK21 _ _ ?_
            try clear hK21
            refine wp_ret ?_
            refine ret (rs := [.tmp 2]) (vs := [.int _ _]) (v := (.int _ _)) rfl ⟨rfl, trivial⟩ rfl ?_
            refine ⟨_, rfl, hE, congrArg (Value.int .i64) ?_⟩
            have hri : S.Rising o.n o.ids := (S.rising_iff _ _).2 ⟨hso, by have h7 := hap.1; rw [hnz] at h7; exact h7 (by omega)⟩
            refine S.check8 (by omega) hri (fun h => ?_)
            have := h.2.1
            omega
          · refine RS.norm (by dsimp only [List.set]) ?_
            have hS := c20
            refine RS.wantB 34 rfl rfl rfl ?_
            refine RS.o (D.fieldL 9 rfl Tryd.underlying32 rfl C30 (by decide) rfl) ?_
            refine RS.wantB 34 rfl rfl rfl ?_
            refine RS.o (D.fieldL 9 rfl Tryd.underlying30 rfl C22 (by decide) rfl) ?_
            refine RS.wantB 34 rfl rfl rfl ?_
            refine RS.o (D.load rfl Tryd.underlying22 rfl (B2.cell rfl)) ?_
            refine RS.wantB 34 rfl rfl rfl ?_
            refine RS.o (D.fieldL 9 rfl Tryd.underlying32 rfl C30 (by decide) rfl) ?_
            refine RS.wantB 34 rfl rfl rfl ?_
            refine RS.o (D.fieldL 10 rfl Tryd.underlying30 rfl C22 (by decide) rfl) ?_
            refine RS.wantB 34 rfl rfl rfl ?_
            refine RS.o (D.load rfl Tryd.underlying22 rfl (B2.cell rfl)) ?_
            refine RS.wantB 34 rfl rfl rfl ?_
            refine RS.o (D.max2 rfl rfl) ?_
            refine RS.wantB 34 rfl rfl rfl ?_
            refine RS.o (D.ge rfl rfl) ?_
            refine RS.pick (v := .bool _) rfl rfl ?_
            refine RS.assign (v := .bool _) rfl ?_
            refine RS.nil ?_
            refine hK16 _ _ ?_
            try clear hK16
            refine C.ifd rfl (fun c22 => ?_) (fun c22 => ?_)
            · try have hQ := c22
              refine wp_seq_k (fun K23 hK23 => ?_)
              refine region ?_
              refine RS.assign (v := .int .i64 8) rfl ?_
              refine RS.nil ?_
              refine hK23 _ _ ?_
              try clear hK23
              refine wp_ret ?_
              refine ret (rs := [.tmp 2]) (vs := [.int _ _]) (v := (.int _ _)) rfl ⟨rfl, trivial⟩ rfl ?_
              refine ⟨_, rfl, hE, congrArg (Value.int .i64) ?_⟩
              have hri : S.Rising o.n o.ids := (S.rising_iff _ _).2 ⟨hso, by have h7 := hap.1; rw [hnz] at h7; exact h7 (by omega)⟩
              refine S.check8 (by omega) hri (fun h => ?_)
              have h1 := h.2.2.1
              have h2 := h.2.2.2.1
              split at hQ <;> omega
            · try have hQ := c22
              refine wp_skip ?_
              refine hK3 _ _ ?_
              try clear hK3
              refine wp_seq_k (fun K24 hK24 => ?_)
              refine region ?_
              refine RS.o (D.fieldL 3 rfl Tryd.underlying32 rfl C28 (by decide) rfl) ?_
              refine RS.o (D.loadAgg rfl Tryd.underlying28 rfl C28 (by decide) rfl (B2.cellsN 6 rfl)) ?_
              refine RS.call E18 (checkAct _ _ _ _ _ _ o3 o4 o5 o6 (by omega) (by omega) _) rfl (fun v25 w25 x25 A25 => ?_)
              replace hE := Ext.tr hE x25
              replace D0 := D0.ext x25
              replace B2 := B2.ext x25
              have zw25 := x25.size
              subst A25
              refine RS.norm (by dsimp only [List.set]) ?_
              refine RS.assign (v := .int _ _) rfl ?_
              refine RS.nil ?_
              refine hK24 _ _ ?_
              try clear hK24
              refine wp_ret ?_
              refine ret (rs := [.tmp 2]) (vs := [.int _ _]) (v := (.int _ _)) rfl ⟨rfl, trivial⟩ rfl ?_
              refine ⟨_, rfl, hE, congrArg (Value.int .i64) ?_⟩
              have hri : S.Rising o.n o.ids := (S.rising_iff _ _).2 ⟨hso, by have h7 := hap.1; rw [hnz] at h7; exact h7 (by omega)⟩
              refine S.checkA (by omega) hri (by simpa using hG) (by omega) ?_ ?_ <;> (split at hQ <;> omega)

end Go.Proofs.YtiohpiiiapjblaaDoor.W
