/-
  W6: walks of functions, printed by gen.py from the annotations ann6.py.
-/
import Derived.Test.YtiohpiiiapjblaaDoorW5
import Derived.Test.YtiohpiiiapjblaaDoorS6
namespace Go.Proofs.YtiohpiiiapjblaaDoor.W
open Go.RowKit Go.Proofs.YtiohpiiiapjblaaDoor.G
set_option linter.unusedVariables false
set_option maxRecDepth 20000
set_option maxHeartbeats 8000000
attribute [local irreducible] RS RX

theorem E137 : Enters Tryd.prog 137 := .mk Tryd.func137 (by kernel_rfl) rfl
theorem E138 : Enters Tryd.prog 138 := .mk Tryd.func138 (by kernel_rfl) rfl
theorem ground {S0 : Nat → Prop} (h : List Int) (a : Option Addr) (n c : Nat) (bs : List Int) (w : World) (H : Arr .u32 8 h) (R0 : IRow .u8 S0 w a n bs) (hn : 64 ≤ n) (hc : n ≤ c) :
    Calls Tryd.prog 131 #[.agg (ints .u32 h).toArray, .slice a n c] w (Ret w fun v _ => v = .agg (ints .u32 (S.grind h bs)).toArray) := by
  replace R0 := R0.weaken (T := fun k => k < w.heap.size) (fun k hk _ => hk)
  have hl0 := R0.len
  have hhl := H.1
  have hE := Ext.refl w
  refine enter (args := [.agg (ints .u32 h).toArray, .slice a n c]) (l := [.agg (ints .u32 h).toArray, .slice a n c, undef, undef, undef, undef, undef, undef, undef, undef, undef, undef, undef, undef, undef, undef, undef, undef, undef, undef, undef, undef, undef, undef, undef, undef, undef, undef, undef, undef, undef, undef, undef, undef, undef, undef, undef, undef, undef, undef, undef, undef, undef, undef, undef, undef, undef, undef, undef, undef, undef, undef, undef, undef, undef, undef, undef, undef, undef, undef, undef, undef, undef, undef, undef, undef, undef, undef, undef, undef, undef, undef, undef, undef, undef, undef, undef, undef, undef, undef, undef, undef, undef, undef, undef, undef, undef, undef, undef, undef, undef, undef, undef, undef, undef, undef, undef, undef, undef, undef, undef, undef, undef, undef, undef, undef, undef, undef, undef, undef, undef, undef, undef, undef, undef, undef, undef, undef, undef, undef, undef, undef, undef, undef, undef, undef, undef, undef, undef, undef, undef, undef, undef, undef, undef, undef, undef, undef, undef, undef, undef, undef, undef, undef, undef, undef, undef, undef, undef, undef, undef, undef, undef, undef, undef, undef, undef, undef, undef, undef, undef, undef, undef, undef, undef, undef, undef, undef, undef, undef, undef, undef, undef, undef, undef, undef, undef, undef, undef, undef, undef, undef, undef, undef, undef, undef, undef, undef, undef, undef, undef, undef, undef, undef, undef, undef, undef, undef, undef, undef, undef, undef, undef]) Tryd.func131 rfl rfl ?_
  refine wp_seq_k (fun K1 hK1 => ?_)
  refine region ?_
  refine RS.box rfl rfl (fun b2 w2 e2 s2 x2 B2 => ?_)
  refine RS.norm (by dsimp only [List.set]) ?_
  replace hE := Ext.tr hE x2
  replace R0 := R0.ext x2
  have zw2 := x2.size
  have A2 := IArr.ofA (n := 8) B2 H
  clear B2
  refine RS.alloc T143 (fun b3 w3 e3 s3 x3 B3 => ?_)
  refine RS.norm (by dsimp only [List.set]) ?_
  replace hE := Ext.tr hE x3
  replace R0 := R0.ext x3
  replace A2 := A2.ext x3
  have zw3 := x3.size
  have A3 : IArr .u32 w3 b3 8 (List.replicate 8 0) [] 143 := IArr.zero B3
  clear B3
  refine RS.nil ?_
  refine hK1 _ _ ?_
  try clear hK1
  refine wp_seq_k (fun K4 hK4 => ?_)
  refine region ?_
  refine RS.assign (v := .slice none 0 0) rfl ?_
  refine RS.nil ?_
  refine hK4 _ _ ?_
  try clear hK4
  refine wp_seq_k (fun K5 hK5 => ?_)
  refine wp_seq_k (fun K6 hK6 => ?_)
  refine region ?_
  refine RS.assign (v := .int .i64 0) rfl ?_
  refine RS.nil ?_
  refine hK6 _ _ ?_
  try clear hK6
  refine wp_block ?_
  refine C.loop (A := Int × Option Addr × Nat × Nat) (fun p => [(5, .slice p.2.1 p.2.2.1 p.2.2.2), (6, .int .i64 p.1)]) [22, 23, 24, 25, 26, 27, 28, 29, 30, 31, 32, 33, 34, 35, 36, 37, 38, 39, 40, 41, 42, 43, 44, 45, 46, 47, 48, 49, 50, 51, 52, 53, 54, 55, 56, 57, 58, 59, 60, 61] (fun p w' => Pr (fun k => b3 < k) w3 w' ∧ ((0 ≤ p.1 ∧ p.1 ≤ 16) ∧ IOwn (b3 + 1) w' 22 .u32 p.2.1 p.2.2.1 p.2.2.2 ((S.words bs).take p.1.toNat))) (fun p => (16 - p.1.toNat)) (0, none, 0, 0) (by kernel_rfl) ?_ ?_
  · exact ⟨Pr.refl _ _, ⟨by dsimp only; omega, by dsimp only; omega⟩, IOwn.nil _ _ _ _⟩
  · rintro p j w7 ⟨x7, hI⟩
    replace hE := hE.trans (x7.below (by intros; try (first | (intro _ _) | (intro _) | skip); first | omega | (dsimp only at *; omega) | (simp_all; done) | (simp at *; omega)) (by intros; try (first | (intro _ _) | (intro _) | skip); first | omega | (dsimp only at *; omega) | (simp_all; done) | (simp at *; omega)))
    replace R0 := R0.pr x7 (by intros; try (first | (intro _ _) | (intro _) | skip); first | omega | (dsimp only at *; omega) | (simp_all; done) | (simp at *; omega))
    replace A2 := A2.pr x7 (by intros; try (first | (intro _ _) | (intro _) | skip); first | omega | (dsimp only at *; omega) | (simp_all; done) | (simp at *; omega))
    replace A3 := A3.pr x7 (by intros; try (first | (intro _ _) | (intro _) | skip); first | omega | (dsimp only at *; omega) | (simp_all; done) | (simp at *; omega))
    have zw7 := x7.size
    obtain ⟨i, ao, no, co⟩ := p
    dsimp only at hI
    obtain ⟨h1, O1⟩ := hI
    have hol := O1.len
    rw [List.length_take, S.words_len] at hol
    refine C.norm (by simp only [upd, junk, List.map_cons, List.map_nil, List.set_cons_succ, List.set_cons_zero]; exact rfl) ?_
    refine wp_seq_k (fun K8 hK8 => ?_)
    refine wp_seq_k (fun K9 hK9 => ?_)
    refine region ?_
    refine RS.move (v := .int _ _) rfl ?_
    refine RS.o (D.lt rfl rfl) ?_
    refine RS.nil ?_
    refine hK9 _ _ ?_
    try clear hK9
    refine C.ifd rfl (fun c10 => ?_) (fun c10 => ?_)
    · refine wp_skip ?_
      refine hK8 _ _ ?_
      try clear hK8
      refine wp_seq_k (fun K11 hK11 => ?_)
      refine wp_block ?_
      refine regionX Ext [(0, .q), (1, .q), (2, .q), (3, .q), (4, .q), (5, .q), (6, .q), (7, .q), (8, .q), (9, .q), (10, .q), (11, .q), (12, .q), (13, .q), (14, .q), (15, .q), (16, .q), (17, .q), (18, .q), (19, .q), (20, .q), (21, .q), (22, .q), (23, .q), (24, .q), (25, .q), (26, .q), (27, .q), (28, .q), (29, .q), (30, .q), (31, .q), (32, .q), (33, .q), (34, .e), (35, .g), (36, .q)] mixed Ext.refl (fun h k => h.tr k) (by kernel_rfl) (fun w12 x12 => ?_)
      replace hE := Ext.tr hE x12
      replace x7 := x7.ext x12
      replace R0 := R0.ext x12
      replace A2 := A2.ext x12
      replace A3 := A3.ext x12
      replace O1 := O1.ext x12
      have zw12 := x12.size
      refine RX.move (v := .slice _ _ _) rfl ?_
      refine RX.move (v := .slice _ _ _) rfl ?_
      refine RX.move (v := .int _ _) rfl ?_
      refine RX.o (fun w' hw => D.mul rfl rfl (W.i64 (by omega))) ?_
      refine RX.idx (fun _ h => h) R0 rfl rfl Tryd.underlying35 C5 (by omega) (fun b13 o13 v13 h13 q13 r13 => ?_)
      refine RX.norm (by dsimp only [List.set]) ?_
      simp only [lim] at r13
      have q0 := q13
      refine RX.o (fun w' hw => D.load rfl Tryd.underlying5 rfl (h13 w' hw)) ?_
      refine RX.o (fun w' hw => D.conv rfl Tryd.underlying5 Tryd.underlying22 (W.u32 (by omega))) ?_
      refine RX.o (fun w' hw => D.mul rfl rfl (W.u32 (by omega))) ?_
      refine RX.move (v := .slice _ _ _) rfl ?_
      refine RX.move (v := .int _ _) rfl ?_
      refine RX.o (fun w' hw => D.mul rfl rfl (W.i64 (by omega))) ?_
      refine RX.o (fun w' hw => D.add rfl rfl (W.i64 (by omega))) ?_
      refine RX.idx (fun _ h => h) R0 rfl rfl Tryd.underlying35 C5 (by omega) (fun b14 o14 v14 h14 q14 r14 => ?_)
      refine RX.norm (by dsimp only [List.set]) ?_
      simp only [lim] at r14
      have q1 := q14
      refine RX.o (fun w' hw => D.load rfl Tryd.underlying5 rfl (h14 w' hw)) ?_
      refine RX.o (fun w' hw => D.conv rfl Tryd.underlying5 Tryd.underlying22 (W.u32 (by omega))) ?_
      refine RX.o (fun w' hw => D.add rfl rfl (W.u32 (by omega))) ?_
      refine RX.o (fun w' hw => D.mul rfl rfl (W.u32 (by omega))) ?_
      refine RX.move (v := .slice _ _ _) rfl ?_
      refine RX.move (v := .int _ _) rfl ?_
      refine RX.o (fun w' hw => D.mul rfl rfl (W.i64 (by omega))) ?_
      refine RX.o (fun w' hw => D.add rfl rfl (W.i64 (by omega))) ?_
      refine RX.idx (fun _ h => h) R0 rfl rfl Tryd.underlying35 C5 (by omega) (fun b15 o15 v15 h15 q15 r15 => ?_)
      refine RX.norm (by dsimp only [List.set]) ?_
      simp only [lim] at r15
      have q2 := q15
      refine RX.o (fun w' hw => D.load rfl Tryd.underlying5 rfl (h15 w' hw)) ?_
      refine RX.o (fun w' hw => D.conv rfl Tryd.underlying5 Tryd.underlying22 (W.u32 (by omega))) ?_
      refine RX.o (fun w' hw => D.add rfl rfl (W.u32 (by omega))) ?_
      refine RX.o (fun w' hw => D.mul rfl rfl (W.u32 (by omega))) ?_
      refine RX.move (v := .slice _ _ _) rfl ?_
      refine RX.move (v := .int _ _) rfl ?_
      refine RX.o (fun w' hw => D.mul rfl rfl (W.i64 (by omega))) ?_
      refine RX.o (fun w' hw => D.add rfl rfl (W.i64 (by omega))) ?_
      refine RX.idx (fun _ h => h) R0 rfl rfl Tryd.underlying35 C5 (by omega) (fun b16 o16 v16 h16 q16 r16 => ?_)
      refine RX.norm (by dsimp only [List.set]) ?_
      simp only [lim] at r16
      have q3 := q16
      refine RX.o (fun w' hw => D.load rfl Tryd.underlying5 rfl (h16 w' hw)) ?_
      refine RX.o (fun w' hw => D.conv rfl Tryd.underlying5 Tryd.underlying22 (W.u32 (by omega))) ?_
      refine RX.o (fun w' hw => D.add rfl rfl (W.u32 (by omega))) ?_
      refine RX.eff ?_
      refine RS.buildSlice (xs := [.tmp 59]) (vs := [.int _ _]) (cs := [.int _ _]) Tryd.underlying157 T22 (by decide) rfl rfl rfl rfl rfl rfl (by intro v hv; simp only [List.mem_cons, List.not_mem_nil, or_false] at hv; subst hv; rfl) rfl (fun b17 w17 e17 s17 x17 B17 => ?_)
      refine RS.norm (by dsimp only [List.set]) ?_
      replace hE := Ext.tr hE x17
      replace x7 := x7.ext x17
      replace R0 := R0.ext x17
      replace A2 := A2.ext x17
      replace A3 := A3.ext x17
      replace O1 := O1.ext x17
      have zw17 := x17.size
      have Q1 : IRow .u32 (fun k => k = b17) w17 (some ⟨b17, 0, none⟩) 1 [_] := IRow.of_blk B17 rfl rfl rfl (.cons (by simp only [lim]; omega) (.nil _))
      refine RS.nil ⟨x17, ?_⟩
      refine RX.big ?_
      refine RS.appendI O1 Q1 rfl rfl Tryd.underlying157 T22 rfl (by omega) (by decide) (by omega) (fun a18 c18 w18 N18 x18 => ?_)
      refine RS.norm (by dsimp only [List.set]) ?_
      replace hE := hE.trans (x18.below (by intros; try (first | (intro _ _) | (intro _) | skip); first | omega | (have hq := O1.lo _ (by assumption); first | omega | (dsimp only at *; omega))) (by intros; try (first | (intro _ _) | (intro _) | skip); first | omega | (dsimp only at *; omega) | (simp_all; done) | (simp at *; omega)))
      replace x7 := x7.prn x18 (by intros; try (first | (intro _ _) | (intro _) | skip); first | omega | (have hq := O1.lo _ (by assumption); first | omega | (dsimp only at *; omega)))
      replace R0 := R0.pr x18 (by intros; try (first | (intro _ _) | (intro _) | skip); first | omega | (have hq := O1.lo _ (by assumption); first | omega | (dsimp only at *; omega)))
      replace A2 := A2.pr x18 (by intros; try (first | (intro _ _) | (intro _) | skip); first | omega | (have hq := O1.lo _ (by assumption); first | omega | (dsimp only at *; omega)))
      replace A3 := A3.pr x18 (by intros; try (first | (intro _ _) | (intro _) | skip); first | omega | (have hq := O1.lo _ (by assumption); first | omega | (dsimp only at *; omega)))
      have zw18 := x18.size
      replace O1 := N18
      refine RS.nil ?_
      refine RX.assign (v := .slice _ _ _) rfl ?_
      refine RX.nil ?_
      refine hK11 _ _ ?_
      try clear hK11
      refine region ?_
      refine RS.move (v := .int _ _) rfl ?_
      refine RS.o (D.add rfl rfl (W.i64 (by omega))) ?_
      refine RS.assign (v := .int _ _) rfl ?_
      refine RS.nil ?_
      change Nx _ _ _ _ _ _ _ _
      refine C.next (i + 1, _, _, _) ⟨rfl, rfl, trivial⟩ (by kernel_rfl) ?_ ?_
      · refine ⟨x7, ⟨by dsimp only; omega, by dsimp only; omega⟩, ?_⟩
        dsimp only
        rw [S.words_snoc bs i ⟨by omega, by omega⟩ (by omega) _ _ _ _ q0 q1 q2 q3]
        exact O1
      · dsimp only; omega
    · refine wp_exit ?_
      refine hK5 _ _ ?_
      try clear hK5
      refine wp_seq_k (fun K19 hK19 => ?_)
      refine wp_seq_k (fun K20 hK20 => ?_)
      refine region ?_
      refine RS.assign (v := .int .i64 16) rfl ?_
      refine RS.nil ?_
      refine hK20 _ _ ?_
      try clear hK20
      refine wp_block ?_
      refine C.loop (A := Int × Option Addr × Nat × Nat) (fun p => [(5, .slice p.2.1 p.2.2.1 p.2.2.2), (7, .int .i64 p.1)]) [8, 9, 62, 63, 64, 65, 66, 67, 68, 69, 70, 71, 72, 73, 74, 75, 76, 77, 78, 79, 80, 81, 82, 83, 84, 85, 86, 87, 88, 89, 90, 91, 92, 93, 94, 95, 96, 97, 98, 99, 100, 101, 102, 103, 104, 105, 106, 107] (fun p w' => Pr (fun k => b3 < k) w7 w' ∧ ((16 ≤ p.1 ∧ p.1 ≤ 64) ∧ IOwn (b3 + 1) w' 22 .u32 p.2.1 p.2.2.1 p.2.2.2 (S.sch bs (p.1.toNat - 16)))) (fun p => (64 - p.1.toNat)) (16, ao, no, co) (by kernel_rfl) ?_ ?_
      · rw [show i.toNat = 16 by omega, S.words_all] at O1
        exact ⟨Pr.refl _ _, ⟨by dsimp only; omega, by dsimp only; omega⟩, O1⟩
      · rintro p j w21 ⟨x21, hI⟩
        replace hE := hE.trans (x21.below (by intros; try (first | (intro _ _) | (intro _) | skip); first | omega | (dsimp only at *; omega) | (simp_all; done) | (simp at *; omega)) (by intros; try (first | (intro _ _) | (intro _) | skip); first | omega | (dsimp only at *; omega) | (simp_all; done) | (simp at *; omega)))
        replace R0 := R0.pr x21 (by intros; try (first | (intro _ _) | (intro _) | skip); first | omega | (dsimp only at *; omega) | (simp_all; done) | (simp at *; omega))
        replace A2 := A2.pr x21 (by intros; try (first | (intro _ _) | (intro _) | skip); first | omega | (dsimp only at *; omega) | (simp_all; done) | (simp at *; omega))
        replace A3 := A3.pr x21 (by intros; try (first | (intro _ _) | (intro _) | skip); first | omega | (dsimp only at *; omega) | (simp_all; done) | (simp at *; omega))
        have zw21 := x21.size
        obtain ⟨t, a5, n5, c5⟩ := p
        dsimp only at hI
        obtain ⟨h2, O1⟩ := hI
        have hol5 := O1.len
        rw [S.sch_len] at hol5
        have R5 := O1.row
        refine C.norm (by simp only [upd, junk, List.map_cons, List.map_nil, List.set_cons_succ, List.set_cons_zero]; exact rfl) ?_
        refine wp_seq_k (fun K22 hK22 => ?_)
        refine wp_seq_k (fun K23 hK23 => ?_)
        refine region ?_
        refine RS.move (v := .int _ _) rfl ?_
        refine RS.o (D.lt rfl rfl) ?_
        refine RS.nil ?_
        refine hK23 _ _ ?_
        try clear hK23
        refine C.ifd rfl (fun c24 => ?_) (fun c24 => ?_)
        · refine wp_skip ?_
          refine hK22 _ _ ?_
          try clear hK22
          refine wp_seq_k (fun K25 hK25 => ?_)
          refine wp_block ?_
          refine wp_seq_k (fun K26 hK26 => ?_)
          refine regionX Ext [(0, .q), (1, .q), (2, .q), (3, .q), (4, .q), (5, .q), (6, .q), (7, .q), (8, .q), (9, .q), (10, .q), (11, .q)] mixed Ext.refl (fun h k => h.tr k) (by kernel_rfl) (fun w27 x27 => ?_)
          replace hE := Ext.tr hE x27
          replace x21 := x21.ext x27
          replace R0 := R0.ext x27
          replace A2 := A2.ext x27
          replace A3 := A3.ext x27
          replace O1 := O1.ext x27
          replace R5 := R5.ext x27
          have zw27 := x27.size
          refine RX.move (v := .slice _ _ _) rfl ?_
          refine RX.move (v := .int _ _) rfl ?_
          refine RX.o (fun w' hw => D.sub rfl rfl (W.i64 (by omega))) ?_
          refine RX.idx (fun _ h => h) R5 rfl rfl Tryd.underlying157 C22 (by omega) (fun b28 o28 v28 h28 q28 r28 => ?_)
          refine RX.norm (by dsimp only [List.set]) ?_
          simp only [lim] at r28
          have p1 := q28
          refine RX.o (fun w' hw => D.load rfl Tryd.underlying22 rfl (h28 w' hw)) ?_
          refine RX.move (v := .slice _ _ _) rfl ?_
          refine RX.move (v := .int _ _) rfl ?_
          refine RX.o (fun w' hw => D.sub rfl rfl (W.i64 (by omega))) ?_
          refine RX.idx (fun _ h => h) R5 rfl rfl Tryd.underlying157 C22 (by omega) (fun b29 o29 v29 h29 q29 r29 => ?_)
          refine RX.norm (by dsimp only [List.set]) ?_
          simp only [lim] at r29
          have p2 := q29
          refine RX.o (fun w' hw => D.load rfl Tryd.underlying22 rfl (h29 w' hw)) ?_
          refine RX.assign (v := .int _ _) rfl ?_
          refine RX.assign (v := .int _ _) rfl ?_
          refine RX.nil ?_
          refine hK26 _ _ ?_
          try clear hK26
          refine regionX Ext [(0, .q), (1, .q), (2, .q), (3, .q), (4, .q), (5, .q), (6, .q), (7, .q), (8, .q), (9, .q), (10, .q), (11, .q), (12, .q), (14, .q), (17, .q), (18, .q), (21, .q), (23, .q), (26, .q), (27, .q), (13, .e), (15, .e), (16, .q), (19, .q), (20, .q), (22, .e), (24, .e), (25, .q), (28, .q), (29, .q), (30, .e), (31, .g), (32, .q)] mixed Ext.refl (fun h k => h.tr k) (by kernel_rfl) (fun w30 x30 => ?_)
          replace hE := Ext.tr hE x30
          replace x21 := x21.ext x30
          replace R0 := R0.ext x30
          replace A2 := A2.ext x30
          replace A3 := A3.ext x30
          replace O1 := O1.ext x30
          replace R5 := R5.ext x30
          have zw30 := x30.size
          refine RX.move (v := .slice _ _ _) rfl ?_
          refine RX.move (v := .slice _ _ _) rfl ?_
          refine RX.move (v := .int _ _) rfl ?_
          refine RX.o (fun w' hw => D.sub rfl rfl (W.i64 (by omega))) ?_
          refine RX.idx (fun _ h => h) R5 rfl rfl Tryd.underlying157 C22 (by omega) (fun b31 o31 v31 h31 q31 r31 => ?_)
          refine RX.norm (by dsimp only [List.set]) ?_
          simp only [lim] at r31
          have p3 := q31
          refine RX.o (fun w' hw => D.load rfl Tryd.underlying22 rfl (h31 w' hw)) ?_
          refine RX.move (v := .slice _ _ _) rfl ?_
          refine RX.move (v := .int _ _) rfl ?_
          refine RX.o (fun w' hw => D.sub rfl rfl (W.i64 (by omega))) ?_
          refine RX.idx (fun _ h => h) R5 rfl rfl Tryd.underlying157 C22 (by omega) (fun b32 o32 v32 h32 q32 r32 => ?_)
          refine RX.norm (by dsimp only [List.set]) ?_
          simp only [lim] at r32
          have p4 := q32
          refine RX.o (fun w' hw => D.load rfl Tryd.underlying22 rfl (h32 w' hw)) ?_
          refine RX.o (fun w' hw => D.add rfl rfl (W.u32m _)) ?_
          refine RX.move (v := .int _ _) rfl ?_
          refine RX.move (v := .int _ _) rfl ?_
          refine RX.move (v := .int _ _) rfl ?_
          refine RX.ob (Ext.refl _) (fun w' hw => D.shr_u32 rfl rfl (by omega) (by constructor <;> omega)) (fun z33 => ?_)
          refine RX.move (v := .int _ _) rfl ?_
          refine RX.move (v := .int _ _) rfl ?_
          refine RX.move (v := .int _ _) rfl ?_
          refine RX.ob (Ext.refl _) (fun w' hw => D.shr_u32 rfl rfl (by omega) (by constructor <;> omega)) (fun z34 => ?_)
          refine RX.eff ?_
          refine RS.call E137 (turn _ (by omega) 7 (by omega) _) rfl (fun v35 w35 x35 A35 => ?_)
          replace hE := Ext.tr hE x35
          replace x21 := x21.ext x35
          replace R0 := R0.ext x35
          replace A2 := A2.ext x35
          replace A3 := A3.ext x35
          replace O1 := O1.ext x35
          replace R5 := R5.ext x35
          have zw35 := x35.size
          subst A35
          have g35 := S.rotr_bd v28 7 (by omega)
          refine RS.norm (by dsimp only [List.set]) ?_
          refine RS.nil ⟨x35, ?_⟩
          refine RX.eff ?_
          refine RS.call E137 (turn _ (by omega) 18 (by omega) _) rfl (fun v36 w36 x36 A36 => ?_)
          replace hE := Ext.tr hE x36
          replace x21 := x21.ext x36
          replace R0 := R0.ext x36
          replace A2 := A2.ext x36
          replace A3 := A3.ext x36
          replace O1 := O1.ext x36
          replace R5 := R5.ext x36
          have zw36 := x36.size
          subst A36
          have g36 := S.rotr_bd v28 18 (by omega)
          refine RS.norm (by dsimp only [List.set]) ?_
          refine RS.nil ⟨x36, ?_⟩
          refine RX.ob (Ext.refl _) (fun w' hw => D.bxor_u32 rfl rfl (by omega) (by omega)) (fun z37 => ?_)
          refine RX.ob (Ext.refl _) (fun w' hw => D.bxor_u32 rfl rfl (by omega) (by omega)) (fun z38 => ?_)
          refine RX.o (fun w' hw => D.add rfl rfl (W.u32m _)) ?_
          refine RX.eff ?_
          refine RS.call E137 (turn _ (by omega) 17 (by omega) _) rfl (fun v39 w39 x39 A39 => ?_)
          replace hE := Ext.tr hE x39
          replace x21 := x21.ext x39
          replace R0 := R0.ext x39
          replace A2 := A2.ext x39
          replace A3 := A3.ext x39
          replace O1 := O1.ext x39
          replace R5 := R5.ext x39
          have zw39 := x39.size
          subst A39
          have g39 := S.rotr_bd v29 17 (by omega)
          refine RS.norm (by dsimp only [List.set]) ?_
          refine RS.nil ⟨x39, ?_⟩
          refine RX.eff ?_
          refine RS.call E137 (turn _ (by omega) 19 (by omega) _) rfl (fun v40 w40 x40 A40 => ?_)
          replace hE := Ext.tr hE x40
          replace x21 := x21.ext x40
          replace R0 := R0.ext x40
          replace A2 := A2.ext x40
          replace A3 := A3.ext x40
          replace O1 := O1.ext x40
          replace R5 := R5.ext x40
          have zw40 := x40.size
          subst A40
          have g40 := S.rotr_bd v29 19 (by omega)
          refine RS.norm (by dsimp only [List.set]) ?_
          refine RS.nil ⟨x40, ?_⟩
          refine RX.ob (Ext.refl _) (fun w' hw => D.bxor_u32 rfl rfl (by omega) (by omega)) (fun z41 => ?_)
          refine RX.ob (Ext.refl _) (fun w' hw => D.bxor_u32 rfl rfl (by omega) (by omega)) (fun z42 => ?_)
          refine RX.o (fun w' hw => D.add rfl rfl (W.u32m _)) ?_
          refine RX.eff ?_
          refine RS.buildSlice (xs := [.tmp 105]) (vs := [.int _ _]) (cs := [.int _ _]) Tryd.underlying157 T22 (by decide) rfl rfl rfl rfl rfl rfl (by intro v hv; simp only [List.mem_cons, List.not_mem_nil, or_false] at hv; subst hv; rfl) rfl (fun b43 w43 e43 s43 x43 B43 => ?_)
          refine RS.norm (by dsimp only [List.set]) ?_
          replace hE := Ext.tr hE x43
          replace x21 := x21.ext x43
          replace R0 := R0.ext x43
          replace A2 := A2.ext x43
          replace A3 := A3.ext x43
          replace O1 := O1.ext x43
          replace R5 := R5.ext x43
          have zw43 := x43.size
          have Q1 : IRow .u32 (fun k => k = b43) w43 (some ⟨b43, 0, none⟩) 1 [_] := IRow.of_blk B43 rfl rfl rfl (.cons (by simp only [lim]; omega) (.nil _))
          refine RS.nil ⟨x43, ?_⟩
          refine RX.big ?_
          refine RS.appendI O1 Q1 rfl rfl Tryd.underlying157 T22 rfl (by omega) (by decide) (by omega) (fun a44 c44 w44 N44 x44 => ?_)
          refine RS.norm (by dsimp only [List.set]) ?_
          replace hE := hE.trans (x44.below (by intros; try (first | (intro _ _) | (intro _) | skip); first | omega | (have hq := O1.lo _ (by assumption); first | omega | (dsimp only at *; omega))) (by intros; try (first | (intro _ _) | (intro _) | skip); first | omega | (dsimp only at *; omega) | (simp_all; done) | (simp at *; omega)))
          replace x21 := x21.prn x44 (by intros; try (first | (intro _ _) | (intro _) | skip); first | omega | (have hq := O1.lo _ (by assumption); first | omega | (dsimp only at *; omega)))
          replace R0 := R0.pr x44 (by intros; try (first | (intro _ _) | (intro _) | skip); first | omega | (have hq := O1.lo _ (by assumption); first | omega | (dsimp only at *; omega)))
          replace A2 := A2.pr x44 (by intros; try (first | (intro _ _) | (intro _) | skip); first | omega | (have hq := O1.lo _ (by assumption); first | omega | (dsimp only at *; omega)))
          replace A3 := A3.pr x44 (by intros; try (first | (intro _ _) | (intro _) | skip); first | omega | (have hq := O1.lo _ (by assumption); first | omega | (dsimp only at *; omega)))
          have zw44 := x44.size
          replace O1 := N44
          refine RS.nil ?_
          refine RX.assign (v := .slice _ _ _) rfl ?_
          refine RX.nil ?_
          refine hK25 _ _ ?_
          try clear hK25
          refine region ?_
          refine RS.move (v := .int _ _) rfl ?_
          refine RS.o (D.add rfl rfl (W.i64 (by omega))) ?_
          refine RS.assign (v := .int _ _) rfl ?_
          refine RS.nil ?_
          change Nx _ _ _ _ _ _ _ _
          refine C.next (t + 1, _, _, _) ⟨rfl, rfl, trivial⟩ (by kernel_rfl) ?_ ?_
          · refine ⟨x21, ⟨by dsimp only; omega, by dsimp only; omega⟩, ?_⟩
            dsimp only
            rw [S.sch_snoc bs t ⟨by omega, by omega⟩]
            subst p1 p2 p3 p4
            exact O1
          · dsimp only; omega
        · refine wp_exit ?_
          refine hK19 _ _ ?_
          try clear hK19
          refine wp_seq_k (fun K45 hK45 => ?_)
          rw [show t.toNat - 16 = 48 by omega] at O1
          have R6 := O1.row.weaken (T := fun k => b3 < k ∧ k < w21.heap.size) (fun k hk h => ⟨by omega, hk⟩)
          refine region ?_
          refine RS.call E138 (constants _) rfl (fun v46 w46 x46 A46 => ?_)
          replace hE := Ext.tr hE x46
          replace R0 := R0.ext x46
          replace A2 := A2.ext x46
          replace A3 := A3.ext x46
          replace R6 := R6.ext x46
          have zw46 := x46.size
          obtain ⟨b46, rfl, g46, RK⟩ := A46
          replace RK := RK.weaken (T := fun k => k < w46.heap.size) (fun k hk _ => hk)
          refine RS.norm (by dsimp only [List.set]) ?_
          refine RS.assign (v := .slice _ _ _) rfl ?_
          refine RS.nil ?_
          refine hK45 _ _ ?_
          try clear hK45
          refine wp_seq_k (fun K47 hK47 => ?_)
          refine region ?_
          refine RS.o (D.loadAgg rfl Tryd.underlying143 rfl C143 (by decide) (by rw [ints_length, A2.len]) A2.cells) ?_
          refine RS.alloc T143 (fun b48 w48 e48 s48 x48 B48 => ?_)
          refine RS.norm (by dsimp only [List.set]) ?_
          replace hE := Ext.tr hE x48
          replace R0 := R0.ext x48
          replace A2 := A2.ext x48
          replace A3 := A3.ext x48
          replace R6 := R6.ext x48
          replace RK := RK.ext x48
          have zw48 := x48.size
          have A48 : IArr .u32 w48 b48 8 (List.replicate 8 0) [] 143 := IArr.zero B48
          clear B48
          refine RS.storeArr A48 rfl rfl C143 (by decide) H.1 H.2 (fun w49 y49 N49 => ?_)
          replace hE := hE.trans (y49.below (by intros; try (first | (intro _ _) | (intro _) | skip); first | omega | (dsimp only at *; omega) | (simp_all; done) | (simp at *; omega)))
          replace R0 := R0.st y49 (by intros; try (first | (intro _ _) | (intro _) | skip); first | omega | (dsimp only at *; omega) | (simp_all; done) | (simp at *; omega))
          replace A2 := A2.st y49 (by intros; try (first | (intro _ _) | (intro _) | skip); first | omega | (dsimp only at *; omega) | (simp_all; done) | (simp at *; omega))
          replace A3 := A3.st y49 (by intros; try (first | (intro _ _) | (intro _) | skip); first | omega | (dsimp only at *; omega) | (simp_all; done) | (simp at *; omega))
          replace R6 := R6.st y49 (by intros; try (first | (intro _ _) | (intro _) | skip); first | omega | (dsimp only at *; omega) | (simp_all; done) | (simp at *; omega))
          replace RK := RK.st y49 (by intros; try (first | (intro _ _) | (intro _) | skip); first | omega | (dsimp only at *; omega) | (simp_all; done) | (simp at *; omega))
          have zw49 := y49.size
          replace A48 := N49
          refine RS.nil ?_
          refine hK47 _ _ ?_
          try clear hK47
          refine wp_seq_k (fun K50 hK50 => ?_)
          refine wp_seq_k (fun K51 hK51 => ?_)
          refine region ?_
          refine RS.assign (v := .int .i64 0) rfl ?_
          refine RS.nil ?_
          refine hK51 _ _ ?_
          try clear hK51
          refine wp_block ?_
          refine C.loop (A := Int × S.H8) (fun p => [(12, .int .i64 p.1)]) [13, 14, 15, 16, 17, 18, 19, 20, 110, 111, 112, 113, 114, 115, 116, 117, 118, 119, 120, 121, 122, 123, 124, 125, 126, 127, 128, 129, 130, 131, 132, 133, 134, 135, 136, 137, 138, 139, 140, 141, 142, 143, 144, 145, 146, 147, 148, 149, 150, 151, 152, 153, 154, 155, 156, 157, 158, 159, 160, 161, 162, 163, 164, 165, 166, 167, 168, 169, 170, 171, 172, 173, 174, 175, 176, 177, 178, 179, 180, 181, 182, 183, 184, 185, 186, 187, 188, 189] (fun p w' => Pr (fun k => k = b48) w49 w' ∧ (IArr .u32 w' b48 8 p.2.toL [] 143 ∧ (0 ≤ p.1 ∧ p.1 ≤ 64) ∧ p.2 = S.rounds (S.sch bs 48) (S.H8.of h) p.1.toNat)) (fun p => (64 - p.1.toNat)) (0, S.H8.of h) (by kernel_rfl) ?_ ?_
          · have e8 : h = (S.H8.of h).toL := S.toL_of h H.1
            refine ⟨Pr.refl _ _, ?_, ⟨by dsimp only; omega, by dsimp only; omega⟩, ?_⟩
            · dsimp only; rw [← e8]; exact A48
            · show S.H8.of h = S.rounds _ _ (0 : Int).toNat; rw [show (0 : Int).toNat = 0 from rfl, S.rounds_zero]
          · rintro p j w52 ⟨x52, hI⟩
            replace hE := hE.trans (x52.below (by intros; try (first | (intro _ _) | (intro _) | skip); first | omega | (dsimp only at *; omega) | (simp_all; done) | (simp at *; omega)) (by intros; try (first | (intro _ _) | (intro _) | skip); first | omega | (dsimp only at *; omega) | (simp_all; done) | (simp at *; omega)))
            replace R0 := R0.pr x52 (by intros; try (first | (intro _ _) | (intro _) | skip); first | omega | (dsimp only at *; omega) | (simp_all; done) | (simp at *; omega))
            replace A2 := A2.pr x52 (by intros; try (first | (intro _ _) | (intro _) | skip); first | omega | (dsimp only at *; omega) | (simp_all; done) | (simp at *; omega))
            replace A3 := A3.pr x52 (by intros; try (first | (intro _ _) | (intro _) | skip); first | omega | (dsimp only at *; omega) | (simp_all; done) | (simp at *; omega))
            replace R6 := R6.pr x52 (by intros; try (first | (intro _ _) | (intro _) | skip); first | omega | (dsimp only at *; omega) | (simp_all; done) | (simp at *; omega))
            replace RK := RK.pr x52 (by intros; try (first | (intro _ _) | (intro _) | skip); first | omega | (dsimp only at *; omega) | (simp_all; done) | (simp at *; omega))
            have zw52 := x52.size
            obtain ⟨i3, st⟩ := p
            dsimp only at hI
            obtain ⟨A48, g1, g2⟩ := hI
            have hok : st.ok := by rw [g2]; exact S.rounds_ok _ _ (S.H8.of_ok _ H.2) _
            have hst := S.ok_arr st hok
            refine C.norm (by simp only [upd, junk, List.map_cons, List.map_nil, List.set_cons_succ, List.set_cons_zero]; exact rfl) ?_
            refine wp_seq_k (fun K53 hK53 => ?_)
            refine wp_seq_k (fun K54 hK54 => ?_)
            refine region ?_
            refine RS.move (v := .int _ _) rfl ?_
            refine RS.o (D.lt rfl rfl) ?_
            refine RS.nil ?_
            refine hK54 _ _ ?_
            try clear hK54
            refine C.ifd rfl (fun c55 => ?_) (fun c55 => ?_)
            · refine wp_skip ?_
              refine hK53 _ _ ?_
              try clear hK53
              refine wp_seq_k (fun K56 hK56 => ?_)
              refine wp_block ?_
              refine wp_seq_k (fun K57 hK57 => ?_)
              refine regionX Ext [(0, .q), (1, .q), (2, .q), (3, .q), (4, .q), (5, .q), (6, .q), (7, .q), (8, .q), (9, .q), (10, .q), (11, .q), (12, .q), (13, .q), (14, .q), (15, .q), (16, .q), (17, .q)] mixed Ext.refl (fun h k => h.tr k) (by kernel_rfl) (fun w58 x58 => ?_)
              replace hE := Ext.tr hE x58
              replace x52 := x52.ext x58
              replace R0 := R0.ext x58
              replace A2 := A2.ext x58
              replace A3 := A3.ext x58
              replace R6 := R6.ext x58
              replace RK := RK.ext x58
              replace A48 := A48.ext x58
              have zw58 := x58.size
              refine RX.idxA (fun _ h => h) A48 rfl rfl Tryd.underlying143 C22 (by decide) (fun v59 h59 q59 r59 => ?_)
              refine RX.norm (by dsimp only [List.set]) ?_
              simp only [lim] at r59
              obtain rfl : v59 = st.a := q59
              refine RX.o (fun w' hw => D.load rfl Tryd.underlying22 rfl (h59 w' hw)) ?_
              refine RX.idxA (fun _ h => h) A48 rfl rfl Tryd.underlying143 C22 (by decide) (fun v60 h60 q60 r60 => ?_)
              refine RX.norm (by dsimp only [List.set]) ?_
              simp only [lim] at r60
              obtain rfl : v60 = st.b := q60
              refine RX.o (fun w' hw => D.load rfl Tryd.underlying22 rfl (h60 w' hw)) ?_
              refine RX.idxA (fun _ h => h) A48 rfl rfl Tryd.underlying143 C22 (by decide) (fun v61 h61 q61 r61 => ?_)
              refine RX.norm (by dsimp only [List.set]) ?_
              simp only [lim] at r61
              obtain rfl : v61 = st.c := q61
              refine RX.o (fun w' hw => D.load rfl Tryd.underlying22 rfl (h61 w' hw)) ?_
              refine RX.idxA (fun _ h => h) A48 rfl rfl Tryd.underlying143 C22 (by decide) (fun v62 h62 q62 r62 => ?_)
              refine RX.norm (by dsimp only [List.set]) ?_
              simp only [lim] at r62
              obtain rfl : v62 = st.e := q62
              refine RX.o (fun w' hw => D.load rfl Tryd.underlying22 rfl (h62 w' hw)) ?_
              refine RX.idxA (fun _ h => h) A48 rfl rfl Tryd.underlying143 C22 (by decide) (fun v63 h63 q63 r63 => ?_)
              refine RX.norm (by dsimp only [List.set]) ?_
              simp only [lim] at r63
              obtain rfl : v63 = st.f := q63
              refine RX.o (fun w' hw => D.load rfl Tryd.underlying22 rfl (h63 w' hw)) ?_
              refine RX.idxA (fun _ h => h) A48 rfl rfl Tryd.underlying143 C22 (by decide) (fun v64 h64 q64 r64 => ?_)
              refine RX.norm (by dsimp only [List.set]) ?_
              simp only [lim] at r64
              obtain rfl : v64 = st.g := q64
              refine RX.o (fun w' hw => D.load rfl Tryd.underlying22 rfl (h64 w' hw)) ?_
              refine RX.assign (v := .int _ _) rfl ?_
              refine RX.assign (v := .int _ _) rfl ?_
              refine RX.assign (v := .int _ _) rfl ?_
              refine RX.assign (v := .int _ _) rfl ?_
              refine RX.assign (v := .int _ _) rfl ?_
              refine RX.assign (v := .int _ _) rfl ?_
              refine RX.nil ?_
              refine hK57 _ _ ?_
              try clear hK57
              refine wp_seq_k (fun K65 hK65 => ?_)
              refine regionX Ext [(0, .q), (1, .q), (2, .q), (4, .q), (7, .q), (11, .q), (12, .q), (13, .q), (14, .q), (15, .q), (16, .q), (17, .q), (18, .q), (20, .q), (21, .q), (22, .q), (23, .q), (25, .q), (26, .q), (27, .q), (28, .q), (3, .e), (5, .e), (6, .q), (8, .e), (9, .q), (10, .q), (19, .q), (24, .q), (29, .q), (30, .q)] mixed Ext.refl (fun h k => h.tr k) (by kernel_rfl) (fun w66 x66 => ?_)
              replace hE := Ext.tr hE x66
              replace x52 := x52.ext x66
              replace R0 := R0.ext x66
              replace A2 := A2.ext x66
              replace A3 := A3.ext x66
              replace R6 := R6.ext x66
              replace RK := RK.ext x66
              replace A48 := A48.ext x66
              have zw66 := x66.size
              refine RX.idxA (fun _ h => h) A48 rfl rfl Tryd.underlying143 C22 (by decide) (fun v67 h67 q67 r67 => ?_)
              refine RX.norm (by dsimp only [List.set]) ?_
              simp only [lim] at r67
              obtain rfl : v67 = st.h := q67
              refine RX.o (fun w' hw => D.load rfl Tryd.underlying22 rfl (h67 w' hw)) ?_
              refine RX.move (v := .int _ _) rfl ?_
              refine RX.move (v := .int _ _) rfl ?_
              refine RX.move (v := .int _ _) rfl ?_
              refine RX.move (v := .int _ _) rfl ?_
              refine RX.move (v := .int _ _) rfl ?_
              refine RX.ob (Ext.refl _) (fun w' hw => D.band_u32 rfl rfl (by omega) (by omega)) (fun z68 => ?_)
              refine RX.move (v := .int _ _) rfl ?_
              refine RX.o (fun w' hw => D.inv rfl (by omega)) ?_
              refine RX.move (v := .int _ _) rfl ?_
              refine RX.ob (Ext.refl _) (fun w' hw => D.band_u32 rfl rfl (by omega) (by omega)) (fun z69 => ?_)
              refine RX.ob (Ext.refl _) (fun w' hw => D.bxor_u32 rfl rfl (by omega) (by omega)) (fun z70 => ?_)
              refine RX.move (v := .slice _ _ _) rfl ?_
              refine RX.move (v := .int _ _) rfl ?_
              refine RX.idx (fun _ h => h) RK rfl rfl Tryd.underlying157 C22 (by omega) (fun b71 o71 v71 h71 q71 r71 => ?_)
              refine RX.norm (by dsimp only [List.set]) ?_
              simp only [lim] at r71
              have qk := q71
              refine RX.o (fun w' hw => D.load rfl Tryd.underlying22 rfl (h71 w' hw)) ?_
              refine RX.move (v := .slice _ _ _) rfl ?_
              refine RX.move (v := .int _ _) rfl ?_
              refine RX.idx (fun _ h => h) R6 rfl rfl Tryd.underlying157 C22 (by omega) (fun b72 o72 v72 h72 q72 r72 => ?_)
              refine RX.norm (by dsimp only [List.set]) ?_
              simp only [lim] at r72
              have qw := q72
              refine RX.o (fun w' hw => D.load rfl Tryd.underlying22 rfl (h72 w' hw)) ?_
              refine RX.eff ?_
              refine RS.call E137 (turn _ (by omega) 6 (by omega) _) rfl (fun v73 w73 x73 A73 => ?_)
              replace hE := Ext.tr hE x73
              replace x52 := x52.ext x73
              replace R0 := R0.ext x73
              replace A2 := A2.ext x73
              replace A3 := A3.ext x73
              replace R6 := R6.ext x73
              replace RK := RK.ext x73
              replace A48 := A48.ext x73
              have zw73 := x73.size
              subst A73
              have g73 := S.rotr_bd st.e 6 (by omega)
              refine RS.norm (by dsimp only [List.set]) ?_
              refine RS.nil ⟨x73, ?_⟩
              refine RX.eff ?_
              refine RS.call E137 (turn _ (by omega) 11 (by omega) _) rfl (fun v74 w74 x74 A74 => ?_)
              replace hE := Ext.tr hE x74
              replace x52 := x52.ext x74
              replace R0 := R0.ext x74
              replace A2 := A2.ext x74
              replace A3 := A3.ext x74
              replace R6 := R6.ext x74
              replace RK := RK.ext x74
              replace A48 := A48.ext x74
              have zw74 := x74.size
              subst A74
              have g74 := S.rotr_bd st.e 11 (by omega)
              refine RS.norm (by dsimp only [List.set]) ?_
              refine RS.nil ⟨x74, ?_⟩
              refine RX.ob (Ext.refl _) (fun w' hw => D.bxor_u32 rfl rfl (by omega) (by omega)) (fun z75 => ?_)
              refine RX.eff ?_
              refine RS.call E137 (turn _ (by omega) 25 (by omega) _) rfl (fun v76 w76 x76 A76 => ?_)
              replace hE := Ext.tr hE x76
              replace x52 := x52.ext x76
              replace R0 := R0.ext x76
              replace A2 := A2.ext x76
              replace A3 := A3.ext x76
              replace R6 := R6.ext x76
              replace RK := RK.ext x76
              replace A48 := A48.ext x76
              have zw76 := x76.size
              subst A76
              have g76 := S.rotr_bd st.e 25 (by omega)
              refine RS.norm (by dsimp only [List.set]) ?_
              refine RS.nil ⟨x76, ?_⟩
              refine RX.ob (Ext.refl _) (fun w' hw => D.bxor_u32 rfl rfl (by omega) (by omega)) (fun z77 => ?_)
              refine RX.o (fun w' hw => D.add rfl rfl (W.u32m _)) ?_
              refine RX.o (fun w' hw => D.add rfl rfl (W.u32m _)) ?_
              refine RX.o (fun w' hw => D.add rfl rfl (W.u32m _)) ?_
              refine RX.o (fun w' hw => D.add rfl rfl (W.u32m _)) ?_
              refine RX.assign (v := .int _ _) rfl ?_
              refine RX.nil ?_
              refine hK65 _ _ ?_
              try clear hK65
              refine wp_seq_k (fun K78 hK78 => ?_)
              refine region ?_
              refine RS.move (v := .int _ _) rfl ?_
              refine RS.call E137 (turn _ (by omega) 2 (by omega) _) rfl (fun v79 w79 x79 A79 => ?_)
              replace hE := Ext.tr hE x79
              replace x52 := x52.ext x79
              replace R0 := R0.ext x79
              replace A2 := A2.ext x79
              replace A3 := A3.ext x79
              replace R6 := R6.ext x79
              replace RK := RK.ext x79
              replace A48 := A48.ext x79
              have zw79 := x79.size
              subst A79
              have g79 := S.rotr_bd st.a 2 (by omega)
              refine RS.norm (by dsimp only [List.set]) ?_
              refine RS.move (v := .int _ _) rfl ?_
              refine RS.call E137 (turn _ (by omega) 13 (by omega) _) rfl (fun v80 w80 x80 A80 => ?_)
              replace hE := Ext.tr hE x80
              replace x52 := x52.ext x80
              replace R0 := R0.ext x80
              replace A2 := A2.ext x80
              replace A3 := A3.ext x80
              replace R6 := R6.ext x80
              replace RK := RK.ext x80
              replace A48 := A48.ext x80
              have zw80 := x80.size
              subst A80
              have g80 := S.rotr_bd st.a 13 (by omega)
              refine RS.norm (by dsimp only [List.set]) ?_
              refine RS.ob (D.bxor_u32 rfl rfl (by omega) (by omega)) (fun z81 => ?_)
              refine RS.move (v := .int _ _) rfl ?_
              refine RS.call E137 (turn _ (by omega) 22 (by omega) _) rfl (fun v82 w82 x82 A82 => ?_)
              replace hE := Ext.tr hE x82
              replace x52 := x52.ext x82
              replace R0 := R0.ext x82
              replace A2 := A2.ext x82
              replace A3 := A3.ext x82
              replace R6 := R6.ext x82
              replace RK := RK.ext x82
              replace A48 := A48.ext x82
              have zw82 := x82.size
              subst A82
              have g82 := S.rotr_bd st.a 22 (by omega)
              refine RS.norm (by dsimp only [List.set]) ?_
              refine RS.ob (D.bxor_u32 rfl rfl (by omega) (by omega)) (fun z83 => ?_)
              refine RS.move (v := .int _ _) rfl ?_
              refine RS.move (v := .int _ _) rfl ?_
              refine RS.ob (D.band_u32 rfl rfl (by omega) (by omega)) (fun z84 => ?_)
              refine RS.move (v := .int _ _) rfl ?_
              refine RS.move (v := .int _ _) rfl ?_
              refine RS.ob (D.band_u32 rfl rfl (by omega) (by omega)) (fun z85 => ?_)
              refine RS.ob (D.bxor_u32 rfl rfl (by omega) (by omega)) (fun z86 => ?_)
              refine RS.move (v := .int _ _) rfl ?_
              refine RS.move (v := .int _ _) rfl ?_
              refine RS.ob (D.band_u32 rfl rfl (by omega) (by omega)) (fun z87 => ?_)
              refine RS.ob (D.bxor_u32 rfl rfl (by omega) (by omega)) (fun z88 => ?_)
              refine RS.o (D.add rfl rfl (W.u32m _)) ?_
              refine RS.assign (v := .int _ _) rfl ?_
              refine RS.nil ?_
              refine hK78 _ _ ?_
              try clear hK78
              refine region ?_
              refine RS.move (v := .int _ _) rfl ?_
              refine RS.move (v := .int _ _) rfl ?_
              refine RS.o (D.add rfl rfl (W.u32m _)) ?_
              refine RS.move (v := .int _ _) rfl ?_
              refine RS.move (v := .int _ _) rfl ?_
              refine RS.move (v := .int _ _) rfl ?_
              refine RS.idxA A48 rfl rfl Tryd.underlying143 C22 (by decide) (fun v89 h89 q89 r89 => ?_)
              refine RS.norm (by dsimp only [List.set]) ?_
              simp only [lim] at r89
              obtain rfl : v89 = st.d := q89
              refine RS.o (D.load rfl Tryd.underlying22 rfl (h89)) ?_
              refine RS.move (v := .int _ _) rfl ?_
              refine RS.o (D.add rfl rfl (W.u32m _)) ?_
              refine RS.move (v := .int _ _) rfl ?_
              refine RS.move (v := .int _ _) rfl ?_
              refine RS.move (v := .int _ _) rfl ?_
              refine RS.o (D.buildArr (xs := [.tmp 178, .tmp 179, .tmp 180, .tmp 181, .tmp 185, .tmp 186, .tmp 187, .tmp 188]) (vs := ints .u32 [_, _, _, _, _, _, _, _]) Tryd.underlying143 T143 (by simp [ints]) C22 rfl rfl rfl (by intro v hv; obtain ⟨x, _, rfl⟩ := List.mem_map.1 hv; rfl)) ?_
              refine RS.storeArr A48 rfl rfl C143 (by decide) (S.ok_arr _ (S.rnd_ok v71 v72 st hok)).1 (S.ok_arr _ (S.rnd_ok v71 v72 st hok)).2 (fun w90 y90 N90 => ?_)
              replace hE := hE.trans (y90.below (by intros; try (first | (intro _ _) | (intro _) | skip); first | omega | (dsimp only at *; omega) | (simp_all; done) | (simp at *; omega)))
              replace x52 := x52.stn y90 (by intros; try (first | (intro _ _) | (intro _) | skip); first | omega | (dsimp only at *; omega) | (simp_all; done) | (simp at *; omega))
              replace R0 := R0.st y90 (by intros; try (first | (intro _ _) | (intro _) | skip); first | omega | (dsimp only at *; omega) | (simp_all; done) | (simp at *; omega))
              replace A2 := A2.st y90 (by intros; try (first | (intro _ _) | (intro _) | skip); first | omega | (dsimp only at *; omega) | (simp_all; done) | (simp at *; omega))
              replace A3 := A3.st y90 (by intros; try (first | (intro _ _) | (intro _) | skip); first | omega | (dsimp only at *; omega) | (simp_all; done) | (simp at *; omega))
              replace R6 := R6.st y90 (by intros; try (first | (intro _ _) | (intro _) | skip); first | omega | (dsimp only at *; omega) | (simp_all; done) | (simp at *; omega))
              replace RK := RK.st y90 (by intros; try (first | (intro _ _) | (intro _) | skip); first | omega | (dsimp only at *; omega) | (simp_all; done) | (simp at *; omega))
              have zw90 := y90.size
              replace A48 := N90
              refine RS.nil ?_
              refine hK56 _ _ ?_
              try clear hK56
              refine region ?_
              refine RS.move (v := .int _ _) rfl ?_
              refine RS.o (D.add rfl rfl (W.i64 (by omega))) ?_
              refine RS.assign (v := .int _ _) rfl ?_
              refine RS.nil ?_
              change Nx _ _ _ _ _ _ _ _
              refine C.next (i3 + 1, S.rnd v71 v72 st) ⟨rfl, trivial⟩ (by kernel_rfl) ?_ ?_
              · refine ⟨x52, A48, ⟨by dsimp only; omega, by dsimp only; omega⟩, ?_⟩
                dsimp only
                rw [show (i3 + 1).toNat = i3.toNat + 1 by omega, S.rounds_succ, ← g2, qk, qw]
              · dsimp only; omega
            · refine wp_exit ?_
              refine hK50 _ _ ?_
              try clear hK50
              refine wp_seq_k (fun K91 hK91 => ?_)
              refine wp_seq_k (fun K92 hK92 => ?_)
              refine region ?_
              refine RS.assign (v := .int .i64 0) rfl ?_
              refine RS.nil ?_
              refine hK92 _ _ ?_
              try clear hK92
              refine wp_block ?_
              refine C.loop (A := Int × List Int) (fun p => [(21, .int .i64 p.1)]) [190, 191, 192, 193, 194, 195, 196, 197, 198, 199, 200, 201] (fun p w' => Pr (fun k => k = b2) w52 w' ∧ (IArr .u32 w' b2 8 p.2 [] 143 ∧ (0 ≤ p.1 ∧ p.1 ≤ 8) ∧ p.2 = (S.addW h st.toL).take p.1.toNat ++ h.drop p.1.toNat)) (fun p => (8 - p.1.toNat)) (0, h) (by kernel_rfl) ?_ ?_
              · exact ⟨Pr.refl _ _, A2, ⟨by dsimp only; omega, by dsimp only; omega⟩, rfl⟩
              · rintro p j w93 ⟨x93, hI⟩
                replace hE := hE.trans (x93.below (by intros; try (first | (intro _ _) | (intro _) | skip); first | omega | (dsimp only at *; omega) | (simp_all; done) | (simp at *; omega)) (by intros; try (first | (intro _ _) | (intro _) | skip); first | omega | (dsimp only at *; omega) | (simp_all; done) | (simp at *; omega)))
                replace R0 := R0.pr x93 (by intros; try (first | (intro _ _) | (intro _) | skip); first | omega | (dsimp only at *; omega) | (simp_all; done) | (simp at *; omega))
                replace A3 := A3.pr x93 (by intros; try (first | (intro _ _) | (intro _) | skip); first | omega | (dsimp only at *; omega) | (simp_all; done) | (simp at *; omega))
                replace A48 := A48.pr x93 (by intros; try (first | (intro _ _) | (intro _) | skip); first | omega | (dsimp only at *; omega) | (simp_all; done) | (simp at *; omega))
                have zw93 := x93.size
                obtain ⟨j, xs⟩ := p
                dsimp only at hI
                obtain ⟨A2, f1, f2⟩ := hI
                have hxl := A2.len
                refine C.norm (by simp only [upd, junk, List.map_cons, List.map_nil, List.set_cons_succ, List.set_cons_zero]; exact rfl) ?_
                refine wp_seq_k (fun K94 hK94 => ?_)
                refine wp_seq_k (fun K95 hK95 => ?_)
                refine region ?_
                refine RS.move (v := .int _ _) rfl ?_
                refine RS.o (D.lt rfl rfl) ?_
                refine RS.nil ?_
                refine hK95 _ _ ?_
                try clear hK95
                refine C.ifd rfl (fun c96 => ?_) (fun c96 => ?_)
                · refine wp_skip ?_
                  refine hK94 _ _ ?_
                  try clear hK94
                  refine wp_seq_k (fun K97 hK97 => ?_)
                  refine wp_block ?_
                  refine regionX Ext [(0, .q), (1, .q), (2, .q), (3, .q), (4, .q), (5, .q), (6, .q), (7, .q), (8, .g)] mixed Ext.refl (fun h k => h.tr k) (by kernel_rfl) (fun w98 x98 => ?_)
                  replace hE := Ext.tr hE x98
                  replace x93 := x93.ext x98
                  replace R0 := R0.ext x98
                  replace A2 := A2.ext x98
                  replace A3 := A3.ext x98
                  replace A48 := A48.ext x98
                  have zw98 := x98.size
                  refine RX.move (v := .int _ _) rfl ?_
                  refine RX.idxA (fun _ h => h) A2 rfl rfl Tryd.underlying143 C22 (by omega) (fun v99 h99 q99 r99 => ?_)
                  refine RX.norm (by dsimp only [List.set]) ?_
                  simp only [lim] at r99
                  have qz := q99
                  refine RX.o (fun w' hw => D.load rfl Tryd.underlying22 rfl (h99 w' hw)) ?_
                  refine RX.move (v := .int _ _) rfl ?_
                  refine RX.idxA (fun _ h => h) A48 rfl rfl Tryd.underlying143 C22 (by omega) (fun v100 h100 q100 r100 => ?_)
                  refine RX.norm (by dsimp only [List.set]) ?_
                  simp only [lim] at r100
                  have qy := q100
                  refine RX.o (fun w' hw => D.load rfl Tryd.underlying22 rfl (h100 w' hw)) ?_
                  refine RX.o (fun w' hw => D.add rfl rfl (W.u32m _)) ?_
                  refine RX.idxA (fun _ h => h) A2 rfl rfl Tryd.underlying143 C22 (by omega) (fun v101 h101 q101 r101 => ?_)
                  refine RX.norm (by dsimp only [List.set]) ?_
                  simp only [lim] at r101
                  refine RX.big ?_
                  refine RS.storeA A2 rfl rfl C22 (by omega) (by simp only [lim]; omega) (fun w102 y102 N102 => ?_)
                  replace hE := hE.trans (y102.below (by intros; try (first | (intro _ _) | (intro _) | skip); first | omega | (dsimp only at *; omega) | (simp_all; done) | (simp at *; omega)))
                  replace x93 := x93.stn y102 (by intros; try (first | (intro _ _) | (intro _) | skip); first | omega | (dsimp only at *; omega) | (simp_all; done) | (simp at *; omega))
                  replace R0 := R0.st y102 (by intros; try (first | (intro _ _) | (intro _) | skip); first | omega | (dsimp only at *; omega) | (simp_all; done) | (simp at *; omega))
                  replace A3 := A3.st y102 (by intros; try (first | (intro _ _) | (intro _) | skip); first | omega | (dsimp only at *; omega) | (simp_all; done) | (simp at *; omega))
                  replace A48 := A48.st y102 (by intros; try (first | (intro _ _) | (intro _) | skip); first | omega | (dsimp only at *; omega) | (simp_all; done) | (simp at *; omega))
                  have zw102 := y102.size
                  replace A2 := N102
                  refine RS.nil ?_
                  refine RX.nil ?_
                  refine hK97 _ _ ?_
                  try clear hK97
                  refine region ?_
                  refine RS.move (v := .int _ _) rfl ?_
                  refine RS.o (D.add rfl rfl (W.i64 (by omega))) ?_
                  refine RS.assign (v := .int _ _) rfl ?_
                  refine RS.nil ?_
                  change Nx _ _ _ _ _ _ _ _
                  refine C.next (j + 1, xs.set j.toNat ((v99 + v100) % 4294967296)) ⟨rfl, trivial⟩ (by kernel_rfl) ?_ ?_
                  · refine ⟨x93, A2, ⟨by dsimp only; omega, by dsimp only; omega⟩, ?_⟩
                    dsimp only
                    have e := S.add_step h st.toL xs j (by omega) hxl f2 hhl
                    rw [qz, qy]
                    exact e
                  · dsimp only; omega
                · refine wp_exit ?_
                  refine hK91 _ _ ?_
                  try clear hK91
                  refine wp_seq_k (fun K103 hK103 => ?_)
                  have harr := A2.arr
                  refine region ?_
                  refine RS.o (D.loadAgg rfl Tryd.underlying143 rfl C143 (by decide) (by rw [ints_length, A2.len]) A2.cells) ?_
                  refine RS.storeArr A3 rfl rfl C143 (by decide) (by first | assumption | exact And.left (by assumption) | exact IArr.len (by assumption)) (by first | assumption | exact And.right (by assumption) | exact IArr.bd (by assumption)) (fun w104 y104 N104 => ?_)
                  replace hE := hE.trans (y104.below (by intros; try (first | (intro _ _) | (intro _) | skip); first | omega | (dsimp only at *; omega) | (simp_all; done) | (simp at *; omega)))
                  replace R0 := R0.st y104 (by intros; try (first | (intro _ _) | (intro _) | skip); first | omega | (dsimp only at *; omega) | (simp_all; done) | (simp at *; omega))
                  replace A2 := A2.st y104 (by intros; try (first | (intro _ _) | (intro _) | skip); first | omega | (dsimp only at *; omega) | (simp_all; done) | (simp at *; omega))
                  replace A48 := A48.st y104 (by intros; try (first | (intro _ _) | (intro _) | skip); first | omega | (dsimp only at *; omega) | (simp_all; done) | (simp at *; omega))
                  have zw104 := y104.size
                  replace A3 := N104
                  refine RS.nil ?_
                  refine hK103 _ _ ?_
                  try clear hK103
                  refine wp_ret ?_
                  refine ret (rs := [.cell 4 143]) (vs := [.agg _]) (v := (.agg _)) rfl ⟨⟨_, rfl, loadVar_agg Tryd.underlying143 rfl C143 (by decide) (by rw [ints_length, A3.len]) A3.cells⟩, trivial⟩ rfl ?_
                  refine ⟨_, rfl, hE, ?_⟩
                  rw [← S.grind_last h xs bs st (by rw [g2, show i3.toNat = 64 by omega]) (by rw [f2, show j.toNat = 8 by omega]) hhl]

end Go.Proofs.YtiohpiiiapjblaaDoor.W
