/-
  W9: walks of functions, printed by gen.py from the annotations ann9.py.
-/
import Derived.Test.YtiohpiiiapjblaaDoorW8

namespace Go.Proofs.YtiohpiiiapjblaaDoor.W
open Go.RowKit Go.Proofs.YtiohpiiiapjblaaDoor.G
set_option linter.unusedVariables false
set_option maxRecDepth 20000
set_option maxHeartbeats 8000000
attribute [local irreducible] RS RX

theorem T3 : TI Tryd.prog 3 1 8 [.int .i64 0] := by
  have h : (Tryd.prog.info? 3).map (fun i => (i.size, i.bytes, i.zero)) = some (1, 8, some (.int .i64 0)) := by kernel_rfl
  exact TI.of h rfl
theorem E56 : Enters Tryd.prog 56 := .mk Tryd.func56 (by kernel_rfl) rfl
theorem E114 : Enters Tryd.prog 114 := .mk Tryd.func114 (by kernel_rfl) rfl
theorem E115 : Enters Tryd.prog 115 := .mk Tryd.func115 (by kernel_rfl) rfl
theorem E130 : Enters Tryd.prog 130 := .mk Tryd.func130 (by kernel_rfl) rfl
theorem risingC (xs : List Int) (X : Arr .u8 32 xs) (v : Int) (a : Option Addr) (n c : Nat) (ids : List Int) (bA bB : Nat) (TA TB : TypeId) (w : World) (BA : Blk w bA [.int .i64 v] TA) (BB : Blk w bB [.slice a n c] TB) (D0 : WRow .u8 32 (fun k => k < bA) w a n ids) (hne : bB < bA) (hc : n ≤ c) (hn : n ≤ 1000) (hv : 0 ≤ v ∧ v < n) :
    Calls Tryd.prog 115 #[.agg (ints .u8 xs).toArray, .pointer (some ⟨bA, 0, none⟩), .pointer (some ⟨bB, 0, none⟩)] w (fun e w' => ∃ r, e = .returned (.bool r) ∧ Pr (fun k => k = bA) w w' ∧ Blk w' bA [.int .i64 (v + 1)] TA ∧ (r = true ↔ (v + 1 < n ∧ 0 ≤ S.cmpS (S.idAt ids v.toNat) (S.idAt ids (v + 1).toNat)))) := by
  have hlt := BA.lt
  have hlt2 := BB.lt
  have hE := Pr.refl (fun k => k = bA) w
  refine enter (args := [.agg (ints .u8 xs).toArray, .pointer (some ⟨bA, 0, none⟩), .pointer (some ⟨bB, 0, none⟩)]) (l := [.agg (ints .u8 xs).toArray, .pointer (some ⟨bA, 0, none⟩), .pointer (some ⟨bB, 0, none⟩), undef, undef, undef, undef, undef, undef, undef, undef, undef, undef, undef, undef, undef, undef, undef, undef, undef, undef, undef, undef, undef]) Tryd.func115 rfl rfl ?_
  refine wp_seq_k (fun K1 hK1 => ?_)
  refine region ?_
  refine RS.box rfl rfl (fun b2 w2 e2 s2 x2 B2 => ?_)
  refine RS.norm (by dsimp only [List.set]) ?_
  replace hE := hE.ext x2
  replace BA := BA.ext x2
  replace BB := BB.ext x2
  replace D0 := D0.ext x2
  have zw2 := x2.size
  have A2 := IArr.ofA (n := 32) B2 X
  clear B2
  refine RS.assign (v := .bool false) rfl ?_
  refine RS.nil ?_
  refine hK1 _ _ ?_
  try clear hK1
  refine wp_seq_k (fun K3 hK3 => ?_)
  refine region ?_
  refine RS.o (D.load rfl Tryd.underlying3 rfl (BA.cell rfl)) ?_
  refine RS.o (D.add rfl rfl (W.i64 (by omega))) ?_
  refine RS.store rfl (v := .int _ _) rfl C3 rfl BA rfl (fun w4 y4 N4 => ?_)
  replace hE := hE.stn y4 (by intros; try (first | (intro _ _) | (intro _) | skip); first | omega | (dsimp only at *; omega) | (simp_all; done) | (simp at *; omega))
  replace BB := BB.st y4 (by intros; try (first | (intro _ _) | (intro _) | skip); first | omega | (dsimp only at *; omega) | (simp_all; done) | (simp at *; omega))
  replace D0 := D0.st y4 (by intros; try (first | (intro _ _) | (intro _) | skip); first | omega | (dsimp only at *; omega) | (simp_all; done) | (simp at *; omega))
  replace A2 := A2.st y4 (by intros; try (first | (intro _ _) | (intro _) | skip); first | omega | (dsimp only at *; omega) | (simp_all; done) | (simp at *; omega))
  have zw4 := y4.size
  replace BA := N4
  refine RS.nil ?_
  refine hK3 _ _ ?_
  try clear hK3
  refine wp_seq_k (fun K5 hK5 => ?_)
  refine regionX Ext [(0, .q), (1, .q), (2, .q), (3, .q), (4, .q), (5, .q), (6, .q), (7, .q), (8, .q), (9, .q), (10, .q), (11, .q), (12, .q), (13, .q), (14, .e), (15, .q), (16, .q), (17, .q)] mixed Ext.refl (fun h k => h.tr k) (by kernel_rfl) (fun w6 x6 => ?_)
  replace hE := hE.ext x6
  replace BA := BA.ext x6
  replace BB := BB.ext x6
  replace D0 := D0.ext x6
  replace A2 := A2.ext x6
  have zw6 := x6.size
  refine RX.o (fun w' hw => D.load rfl Tryd.underlying3 rfl ((BA.ext hw).cell rfl)) ?_
  refine RX.o (fun w' hw => D.load rfl Tryd.underlying23 rfl ((BB.ext hw).cell rfl)) ?_
  refine RX.o (fun w' hw => D.len rfl Tryd.underlying23) ?_
  refine RX.o (fun w' hw => D.lt rfl rfl) ?_
  refine RX.move (v := .bool _) rfl ?_
  refine RX.splitd 11 rfl rfl (fun c7 => ?_) (fun c7 => ?_)
  · refine RX.norm (by dsimp only [List.set]) ?_
    refine RX.wantB 11 rfl rfl rfl ?_
    refine RX.o (fun w' hw => D.load rfl Tryd.underlying23 rfl ((BB.ext hw).cell rfl)) ?_
    refine RX.wantB 11 rfl rfl rfl ?_
    refine RX.o (fun w' hw => D.load rfl Tryd.underlying3 rfl ((BA.ext hw).cell rfl)) ?_
    refine RX.wantB 11 rfl rfl rfl ?_
    refine RX.o (fun w' hw => D.sub rfl rfl (W.i64 (by omega))) ?_
    refine RX.wantB 11 rfl rfl rfl ?_
    refine RX.idxW (fun _ h => h) D0 rfl rfl Tryd.underlying23 C42 (by decide) (by omega) (fun b8 o8 h8 q8 r8 => ?_)
    refine RX.norm (by dsimp only [List.set]) ?_
    have r1 := r8
    refine RX.wantB 11 rfl rfl rfl ?_
    refine RX.o (fun w' hw => D.loadW rfl Tryd.underlying42 rfl C42 (by decide) r8 (h8 w' hw)) ?_
    refine RX.wantB 11 rfl rfl rfl ?_
    refine RX.o (fun w' hw => D.load rfl Tryd.underlying23 rfl ((BB.ext hw).cell rfl)) ?_
    refine RX.wantB 11 rfl rfl rfl ?_
    refine RX.o (fun w' hw => D.load rfl Tryd.underlying3 rfl ((BA.ext hw).cell rfl)) ?_
    refine RX.wantB 11 rfl rfl rfl ?_
    refine RX.idxW (fun _ h => h) D0 rfl rfl Tryd.underlying23 C42 (by decide) (by omega) (fun b9 o9 h9 q9 r9 => ?_)
    refine RX.norm (by dsimp only [List.set]) ?_
    have r2 := r9
    refine RX.wantB 11 rfl rfl rfl ?_
    refine RX.o (fun w' hw => D.loadW rfl Tryd.underlying42 rfl C42 (by decide) r9 (h9 w' hw)) ?_
    refine RX.wantB 11 rfl rfl rfl ?_
    refine RX.eff ?_
    refine RS.call E56 (dcmp _ _ r1 r2 _) rfl (fun v10 w10 x10 A10 => ?_)
    replace hE := hE.ext x10
    replace BA := BA.ext x10
    replace BB := BB.ext x10
    replace D0 := D0.ext x10
    replace A2 := A2.ext x10
    have zw10 := x10.size
    subst A10
    refine RS.norm (by dsimp only [List.set]) ?_
    refine RS.nil ⟨x10, ?_⟩
    refine RX.wantB 11 rfl rfl rfl ?_
    refine RX.o (fun w' hw => D.ge rfl rfl) ?_
    refine RX.pick (v := .bool _) rfl rfl ?_
    refine RX.assign (v := .bool _) rfl ?_
    refine RX.nil ?_
    refine hK5 _ _ ?_
    try clear hK5
    refine wp_ret ?_
    change bodyPost Tryd.prog Tryd.f115 (fun e w' => ∃ r, e = .returned (.bool r) ∧ Pr (fun k => k = bA) w w' ∧ Blk w' bA [.int .i64 (v + 1)] TA ∧ (r = true ↔ (v + 1 < n ∧ 0 ≤ S.cmpS (S.idAt ids v.toNat) (S.idAt ids (v + 1).toNat)))) .ret _ _
    refine ret (rs := [.tmp 4]) (vs := [.bool _]) (v := (.bool _)) rfl ⟨rfl, trivial⟩ rfl ?_
    refine ⟨_, rfl, hE, BA, ?_⟩
    rw [decide_eq_true_iff, show v + 1 - 1 = v by omega]
    exact ⟨fun h => ⟨by omega, h⟩, fun h => h.2⟩
  · refine RX.norm (by dsimp only [List.set]) ?_
    refine RX.skipB (b := false) 11 rfl rfl rfl rfl ?_
    refine RX.norm (by dsimp only [putL, List.set]) ?_
    refine RX.skipB (b := false) 11 rfl rfl rfl rfl ?_
    refine RX.norm (by dsimp only [putL, List.set]) ?_
    refine RX.skipB (b := false) 11 rfl rfl rfl rfl ?_
    refine RX.norm (by dsimp only [putL, List.set]) ?_
    refine RX.skipB (b := false) 11 rfl rfl rfl rfl ?_
    refine RX.norm (by dsimp only [putL, List.set]) ?_
    refine RX.skipB (b := false) 11 rfl rfl rfl rfl ?_
    refine RX.norm (by dsimp only [putL, List.set]) ?_
    refine RX.skipB (b := false) 11 rfl rfl rfl rfl ?_
    refine RX.norm (by dsimp only [putL, List.set]) ?_
    refine RX.skipB (b := false) 11 rfl rfl rfl rfl ?_
    refine RX.norm (by dsimp only [putL, List.set]) ?_
    refine RX.skipB (b := false) 11 rfl rfl rfl rfl ?_
    refine RX.norm (by dsimp only [putL, List.set]) ?_
    refine RX.skipB (b := false) 11 rfl rfl rfl rfl ?_
    refine RX.norm (by dsimp only [putL, List.set]) ?_
    refine RX.skipB (b := false) 11 rfl rfl rfl rfl ?_
    refine RX.norm (by dsimp only [putL, List.set]) ?_
    refine RX.skipB (b := false) 11 rfl rfl rfl rfl ?_
    refine RX.norm (by dsimp only [putL, List.set]) ?_
    refine RX.pick (v := .bool false) rfl rfl ?_
    refine RX.assign (v := .bool _) rfl ?_
    refine RX.nil ?_
    refine hK5 _ _ ?_
    try clear hK5
    refine wp_ret ?_
    change bodyPost Tryd.prog Tryd.f115 (fun e w' => ∃ r, e = .returned (.bool r) ∧ Pr (fun k => k = bA) w w' ∧ Blk w' bA [.int .i64 (v + 1)] TA ∧ (r = true ↔ (v + 1 < n ∧ 0 ≤ S.cmpS (S.idAt ids v.toNat) (S.idAt ids (v + 1).toNat)))) .ret _ _
    refine ret (rs := [.tmp 4]) (vs := [.bool _]) (v := (.bool _)) rfl ⟨rfl, trivial⟩ rfl ?_
    refine ⟨_, rfl, hE, BA, ?_⟩
    constructor
    · intro h; cases h
    · intro h; omega

theorem indexID (a : Option Addr) (n c : Nat) (ids : List Int) (bA bB : Nat) (TA TB : TypeId) (w : World) (BA : Blk w bA [.int .i64 0] TA) (BB : Blk w bB [.slice a n c] TB) (D0 : WRow .u8 32 (fun k => k < bA) w a n ids) (hne : bB < bA) (hc : n ≤ c) (hn : n ≤ 1000) :
    Calls Tryd.prog 130 #[.slice a n c, .func (.func 115) #[] #[.pointer (some ⟨bA, 0, none⟩), .pointer (some ⟨bB, 0, none⟩)]] w (fun e w' => ∃ j, e = .returned (.int .i64 j) ∧ Pr (fun k => k = bA) w w' ∧ (j < 0 ↔ S.Rising n ids)) := by
  have hlt := BA.lt
  have hlt2 := BB.lt
  have hE := Pr.refl (fun k => k = bA) w
  refine enter (args := [.slice a n c, .func (.func 115) #[] #[.pointer (some ⟨bA, 0, none⟩), .pointer (some ⟨bB, 0, none⟩)]]) (l := [.slice a n c, .func (.func 115) #[] #[.pointer (some ⟨bA, 0, none⟩), .pointer (some ⟨bB, 0, none⟩)], undef, undef, undef, undef, undef, undef, undef, undef, undef, undef, undef, undef, undef, undef, undef, undef, undef]) Tryd.func130 rfl rfl ?_
  refine wp_seq_k (fun K1 hK1 => ?_)
  refine region ?_
  refine RS.assign (v := .int .i64 0) rfl ?_
  refine RS.nil ?_
  refine hK1 _ _ ?_
  try clear hK1
  refine wp_seq_k (fun K2 hK2 => ?_)
  refine wp_seq_k (fun K3 hK3 => ?_)
  refine region ?_
  refine RS.move (v := .slice _ _ _) rfl ?_
  refine RS.o (D.len rfl Tryd.underlying23) ?_
  refine RS.move (v := .int .i64 0) rfl ?_
  refine RS.nil ?_
  refine hK3 _ _ ?_
  try clear hK3
  refine wp_block ?_
  refine C.loop (A := Int) (fun p => [(8, .int .i64 p)]) [4, 5, 9, 10, 11, 12, 13, 14, 15, 16, 17, 18] (fun p w' => Pr (fun k => k = bA) w w' ∧ ((0 ≤ p ∧ p ≤ n) ∧ Blk w' bA [.int .i64 p] TA ∧ (∀ j, j < p.toNat → j < n - 1 → S.cmpS (S.idAt ids j) (S.idAt ids (j + 1)) < 0))) (fun p => (n - p.toNat)) 0 (by kernel_rfl) ?_ ?_
  · exact ⟨Pr.refl _ _, ⟨by omega, by omega⟩, BA, fun j hj => by omega⟩
  · rintro p j w4 ⟨x4, hI⟩
    replace hE := hE.prn x4 (by intros; try (first | (intro _ _) | (intro _) | skip); first | omega | (dsimp only at *; omega) | (simp_all; done) | (simp at *; omega))
    replace BB := BB.pr x4 (by intros; try (first | (intro _ _) | (intro _) | skip); first | omega | (dsimp only at *; omega) | (simp_all; done) | (simp at *; omega))
    replace D0 := D0.pr x4 (by intros; try (first | (intro _ _) | (intro _) | skip); first | omega | (dsimp only at *; omega) | (simp_all; done) | (simp at *; omega))
    have zw4 := x4.size
    obtain ⟨h1, BA, h2⟩ := hI
    refine C.norm (by simp only [upd, junk, List.map_cons, List.map_nil, List.set_cons_succ, List.set_cons_zero]; exact rfl) ?_
    refine wp_seq_k (fun K5 hK5 => ?_)
    refine region ?_
    refine RS.o (D.lt rfl rfl) ?_
    refine RS.nil ?_
    refine hK5 _ _ ?_
    try clear hK5
    refine wp_seq_k (fun K6 hK6 => ?_)
    refine C.ifd rfl (fun c7 => ?_) (fun c7 => ?_)
    · refine wp_skip ?_
      refine hK6 _ _ ?_
      try clear hK6
      refine wp_seq_k (fun K8 hK8 => ?_)
      refine wp_block ?_
      refine wp_seq_k (fun K9 hK9 => ?_)
      refine region ?_
      refine RS.move (v := .int _ _) rfl ?_
      refine RS.assign (v := .int _ _) rfl ?_
      refine RS.nil ?_
      refine hK9 _ _ ?_
      try clear hK9
      refine wp_seq_k (fun K10 hK10 => ?_)
      refine region ?_
      refine RS.move (v := .func _ _ _) rfl ?_
      refine RS.move (v := .slice _ _ _) rfl ?_
      refine RS.move (v := .int _ _) rfl ?_
      refine RS.idxW D0 rfl rfl Tryd.underlying23 C42 (by decide) (by omega) (fun b11 o11 h11 q11 r11 => ?_)
      refine RS.norm (by dsimp only [List.set]) ?_
      have r1 := r11
      refine RS.o (D.loadW rfl Tryd.underlying42 rfl C42 (by decide) r11 h11) ?_
      refine RS.callv E115 (risingC _ r1 _ _ _ _ _ _ _ _ _ _ BA BB D0 hne hc hn (by omega)) rfl rfl (fun e12 w12 A12 => ?_)
      obtain ⟨r12, rfl, X12, N12, hr⟩ := A12
      refine ⟨_, rfl, ?_⟩
      refine RS.norm (by dsimp only [List.set]) ?_
      replace hE := hE.prn X12 (by intros; try (first | (intro _ _) | (intro _) | skip); first | omega | (dsimp only at *; omega) | (simp_all; done) | (simp at *; omega))
      replace x4 := x4.prn X12 (by intros; try (first | (intro _ _) | (intro _) | skip); first | omega | (dsimp only at *; omega) | (simp_all; done) | (simp at *; omega))
      replace BB := BB.pr X12 (by intros; try (first | (intro _ _) | (intro _) | skip); first | omega | (dsimp only at *; omega) | (simp_all; done) | (simp at *; omega))
      replace D0 := D0.pr X12 (by intros; try (first | (intro _ _) | (intro _) | skip); first | omega | (dsimp only at *; omega) | (simp_all; done) | (simp at *; omega))
      have zw12 := X12.size
      replace BA := N12
      refine RS.nil ?_
      refine hK10 _ _ ?_
      try clear hK10
      refine C.ifb rfl (fun c13 => ?_) (fun c13 => ?_)
      · have hrt := c13
        refine wp_seq_k (fun K14 hK14 => ?_)
        refine region ?_
        refine RS.move (v := .int _ _) rfl ?_
        refine RS.assign (v := .int _ _) rfl ?_
        refine RS.nil ?_
        refine hK14 _ _ ?_
        try clear hK14
        refine wp_ret ?_
        change bodyPost Tryd.prog Tryd.f130 (fun e w' => ∃ j, e = .returned (.int .i64 j) ∧ Pr (fun k => k = bA) w w' ∧ (j < 0 ↔ S.Rising n ids)) .ret _ _
        refine ret (rs := [.tmp 4]) (vs := [.int _ _]) (v := (.int _ _)) rfl ⟨rfl, trivial⟩ rfl ?_
        have h3 := hr.1 hrt
        refine ⟨_, rfl, hE, ⟨fun h => by omega, fun h => ?_⟩⟩
        have := h p.toNat (by omega)
        rw [show (p + 1).toNat = p.toNat + 1 by omega] at h3
        omega
      · have hrf := c13
        refine wp_skip ?_
        refine hK8 _ _ ?_
        try clear hK8
        refine region ?_
        refine RS.o (D.add rfl rfl (W.i64 (by omega))) ?_
        refine RS.move (v := .int _ _) rfl ?_
        refine RS.nil ?_
        change Nx _ _ _ _ _ _ _ _
        refine C.next (p + 1) ⟨rfl, trivial⟩ (by kernel_rfl) ?_ ?_
        · refine ⟨x4, ⟨by omega, by omega⟩, BA, fun j hj hj2 => ?_⟩
          by_cases hjp : j < p.toNat
          · exact h2 j hjp hj2
          · have ej : j = p.toNat := by omega
            subst ej
            by_cases hb : S.cmpS (S.idAt ids p.toNat) (S.idAt ids (p.toNat + 1)) < 0
            · exact hb
            · have := hr.2 ⟨by omega, by rw [show (p + 1).toNat = p.toNat + 1 by omega]; omega⟩
              rw [hrf] at this; cases this
        · omega
    · have hlast := c7
      refine wp_exit ?_
      refine hK2 _ _ ?_
      try clear hK2
      refine wp_seq_k (fun K15 hK15 => ?_)
      refine region ?_
      refine RS.assign (v := .int .i64 (-1)) rfl ?_
      refine RS.nil ?_
      refine hK15 _ _ ?_
      try clear hK15
      refine wp_ret ?_
      change bodyPost Tryd.prog Tryd.f130 (fun e w' => ∃ j, e = .returned (.int .i64 j) ∧ Pr (fun k => k = bA) w w' ∧ (j < 0 ↔ S.Rising n ids)) .ret _ _
      refine ret (rs := [.tmp 4]) (vs := [.int _ _]) (v := (.int _ _)) rfl ⟨rfl, trivial⟩ rfl ?_
      refine ⟨_, rfl, hE, ⟨fun _ j hj => h2 j (by omega) hj, fun _ => by decide⟩⟩

theorem containsID (a : Option Addr) (n c : Nat) (ids : List Int) (bA bB : Nat) (TA TB : TypeId) (w : World) (BA : Blk w bA [.int .i64 0] TA) (BB : Blk w bB [.slice a n c] TB) (D0 : WRow .u8 32 (fun k => k < bA) w a n ids) (hne : bB < bA) (hc : n ≤ c) (hn : n ≤ 1000) :
    Calls Tryd.prog 114 #[.slice a n c, .func (.func 115) #[] #[.pointer (some ⟨bA, 0, none⟩), .pointer (some ⟨bB, 0, none⟩)]] w (fun e w' => ∃ r, e = .returned (.bool r) ∧ Pr (fun k => k = bA) w w' ∧ (r = true ↔ ¬ S.Rising n ids)) := by
  have hlt := BA.lt
  have hlt2 := BB.lt
  have hE := Pr.refl (fun k => k = bA) w
  refine enter (args := [.slice a n c, .func (.func 115) #[] #[.pointer (some ⟨bA, 0, none⟩), .pointer (some ⟨bB, 0, none⟩)]]) (l := [.slice a n c, .func (.func 115) #[] #[.pointer (some ⟨bA, 0, none⟩), .pointer (some ⟨bB, 0, none⟩)], undef, undef, undef, undef, undef, undef, undef]) Tryd.func114 rfl rfl ?_
  refine wp_seq_k (fun K1 hK1 => ?_)
  refine region ?_
  refine RS.assign (v := .bool false) rfl ?_
  refine RS.nil ?_
  refine hK1 _ _ ?_
  try clear hK1
  refine wp_seq_k (fun K2 hK2 => ?_)
  refine region ?_
  refine RS.move (v := .slice _ _ _) rfl ?_
  refine RS.move (v := .func _ _ _) rfl ?_
  refine RS.callx E130 (indexID _ _ _ _ _ _ _ _ _ BA BB D0 hne hc hn) rfl (fun e3 w3 A3 => ?_)
  obtain ⟨jr, rfl, X3, hr⟩ := A3
  refine ⟨_, rfl, ?_⟩
  refine RS.norm (by dsimp only [List.set]) ?_
  replace hE := hE.prn X3 (by intros; try (first | (intro _ _) | (intro _) | skip); first | omega | (dsimp only at *; omega) | (simp_all; done) | (simp at *; omega))
  replace BB := BB.pr X3 (by intros; try (first | (intro _ _) | (intro _) | skip); first | omega | (dsimp only at *; omega) | (simp_all; done) | (simp at *; omega))
  replace D0 := D0.pr X3 (by intros; try (first | (intro _ _) | (intro _) | skip); first | omega | (dsimp only at *; omega) | (simp_all; done) | (simp at *; omega))
  have zw3 := X3.size
  refine RS.o (D.ge rfl rfl) ?_
  refine RS.assign (v := .bool _) rfl ?_
  refine RS.nil ?_
  refine hK2 _ _ ?_
  try clear hK2
  refine wp_ret ?_
  change bodyPost Tryd.prog Tryd.f114 (fun e w' => ∃ r, e = .returned (.bool r) ∧ Pr (fun k => k = bA) w w' ∧ (r = true ↔ ¬ S.Rising n ids)) .ret _ _
  refine ret (rs := [.tmp 4]) (vs := [.bool _]) (v := (.bool _)) rfl ⟨rfl, trivial⟩ rfl ?_
  refine ⟨_, rfl, hE, ?_⟩
  rw [decide_eq_true_iff]
  have hj := hr
  constructor
  · intro h h2; have := hj.2 h2; omega
  · intro h; by_cases h0 : 0 ≤ jr
    · exact h0
    · exact (h (hj.1 (by omega))).elim

theorem risingW {S0 : Nat → Prop} (a : Option Addr) (n c : Nat) (ids : List Int) (w : World) (D0 : WRow .u8 32 S0 w a n ids) (hc : n ≤ c) (hn : n ≤ 1000) :
    Calls Tryd.prog 79 #[.slice a n c] w (Ret w fun v _ => v = .bool (decide (S.Rising n ids))) := by
  replace D0 := D0.weaken (T := fun k => k < w.heap.size) (fun k hk _ => hk)
  have hE := Ext.refl w
  refine enter (args := [.slice a n c]) (l := [.slice a n c, undef, undef, undef, undef, undef, undef, undef]) Tryd.func79 rfl rfl ?_
  refine wp_seq_k (fun K1 hK1 => ?_)
  refine region ?_
  refine RS.box rfl rfl (fun b2 w2 e2 s2 x2 B2 => ?_)
  refine RS.norm (by dsimp only [List.set]) ?_
  replace hE := Ext.tr hE x2
  replace D0 := D0.ext x2
  have zw2 := x2.size
  refine RS.assign (v := .bool false) rfl ?_
  refine RS.nil ?_
  refine hK1 _ _ ?_
  try clear hK1
  refine wp_seq_k (fun K3 hK3 => ?_)
  refine region ?_
  refine RS.alloc T3 (fun b4 w4 e4 s4 x4 B4 => ?_)
  refine RS.norm (by dsimp only [List.set]) ?_
  replace hE := Ext.tr hE x4
  replace D0 := D0.ext x4
  replace B2 := B2.ext x4
  have zw4 := x4.size
  refine RS.store rfl (v := .int _ _) rfl C3 rfl B4 rfl (fun w5 y5 N5 => ?_)
  replace hE := hE.trans (y5.below (by intros; try (first | (intro _ _) | (intro _) | skip); first | omega | (dsimp only at *; omega) | (simp_all; done) | (simp at *; omega)))
  replace D0 := D0.st y5 (by intros; try (first | (intro _ _) | (intro _) | skip); first | omega | (dsimp only at *; omega) | (simp_all; done) | (simp at *; omega))
  replace B2 := B2.st y5 (by intros; try (first | (intro _ _) | (intro _) | skip); first | omega | (dsimp only at *; omega) | (simp_all; done) | (simp at *; omega))
  have zw5 := y5.size
  replace B4 := N5
  refine RS.nil ?_
  refine hK3 _ _ ?_
  try clear hK3
  refine wp_seq_k (fun K6 hK6 => ?_)
  refine region ?_
  refine RS.o (D.load rfl Tryd.underlying23 rfl (B2.cell rfl)) ?_
  refine RS.o (D.func (fs := []) (cs := [.pointer _, .pointer _]) rfl rfl) ?_
  refine RS.callx E114 (containsID _ _ _ _ _ _ _ _ _ B4 B2 (D0.weaken (T := fun k => k < b4) (fun k _ h => by omega)) (by omega) hc hn) rfl (fun e7 w7 A7 => ?_)
  obtain ⟨r, rfl, X7, hr⟩ := A7
  refine ⟨_, rfl, ?_⟩
  refine RS.norm (by dsimp only [List.set]) ?_
  replace hE := hE.trans (X7.below (by intros; try (first | (intro _ _) | (intro _) | skip); first | omega | (dsimp only at *; omega) | (simp_all; done) | (simp at *; omega)) (by intros; try (first | (intro _ _) | (intro _) | skip); first | omega | (dsimp only at *; omega) | (simp_all; done) | (simp at *; omega)))
  replace D0 := D0.pr X7 (by intros; try (first | (intro _ _) | (intro _) | skip); first | omega | (dsimp only at *; omega) | (simp_all; done) | (simp at *; omega))
  replace B2 := B2.pr X7 (by intros; try (first | (intro _ _) | (intro _) | skip); first | omega | (dsimp only at *; omega) | (simp_all; done) | (simp at *; omega))
  have zw7 := X7.size
  refine RS.o (D.not rfl) ?_
  refine RS.assign (v := .bool _) rfl ?_
  refine RS.nil ?_
  refine hK6 _ _ ?_
  try clear hK6
  refine wp_ret ?_
  refine ret (rs := [.tmp 2]) (vs := [.bool _]) (v := (.bool _)) rfl ⟨rfl, trivial⟩ rfl ?_
  refine ⟨_, rfl, hE, congrArg Value.bool ?_⟩
  by_cases h : S.Rising n ids
  · rw [decide_eq_true h]; cases hb : r
    · rfl
    · exact (hr.1 hb h).elim
  · rw [decide_eq_false h, hr.2 h]; rfl

end Go.Proofs.YtiohpiiiapjblaaDoor.W
