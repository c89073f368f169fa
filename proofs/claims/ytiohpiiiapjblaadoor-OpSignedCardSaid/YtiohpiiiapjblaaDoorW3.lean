/-
  W3: walks of functions, printed by gen.py from the annotations ann3.py.
-/
import Derived.Test.YtiohpiiiapjblaaDoorW2
import Derived.Test.YtiohpiiiapjblaaDoorS3
namespace Go.Proofs.YtiohpiiiapjblaaDoor.W
open Go.RowKit Go.Proofs.YtiohpiiiapjblaaDoor.G
set_option linter.unusedVariables false
set_option maxRecDepth 20000
set_option maxHeartbeats 8000000
attribute [local irreducible] RS RX

theorem T143 : TI Tryd.prog 143 8 32 (ints .u32 (List.replicate 8 0)) := by
  have h : (Tryd.prog.info? 143).map (fun i => (i.size, i.bytes, i.zero)) = some (8, 32, some (.agg #[.int .u32 0, .int .u32 0, .int .u32 0, .int .u32 0, .int .u32 0, .int .u32 0, .int .u32 0, .int .u32 0])) := by kernel_rfl
  exact TI.of h rfl
theorem E135 : Enters Tryd.prog 135 := .mk Tryd.func135 (by kernel_rfl) rfl
theorem E136 : Enters Tryd.prog 136 := .mk Tryd.func136 (by kernel_rfl) rfl
theorem grind {S0 : Nat → Prop} (b : Nat) (h : List Int) (tl : List Value) (T TK : TypeId) (a : Option Addr) (n c : Nat) (bs : List Int) (w : World) (A0 : IArr .u32 w b 8 h tl T) (K0 : Kst w TK) (R0 : IRow .u8 S0 w a n bs) (hn : 64 ≤ n) (hc : n ≤ c) (hbk : b ≠ gK) :
    Calls Tryd.prog 128 #[.pointer (some ⟨b, 0, none⟩), .slice a n c] w (fun e w' => e = .returned (.tuple #[]) ∧ Pr (fun k => k = b) w w' ∧ IArr .u32 w' b 8 (S.grind h bs) tl T) := by
  have hlt := A0.lt
  have hhl := A0.len
  have hhb := A0.bd
  have hsa := S.sch_arr bs R0.bd
  have hKl := K0.lt
  have hE := Pr.refl (fun k => k = b) w
  refine enter (args := [.pointer (some ⟨b, 0, none⟩), .slice a n c]) (l := [.pointer (some ⟨b, 0, none⟩), .slice a n c, undef, undef, undef, undef, undef, undef, undef, undef, undef, undef, undef, undef, undef, undef, undef, undef, undef, undef, undef, undef, undef, undef, undef, undef, undef, undef, undef, undef, undef, undef, undef, undef, undef, undef, undef, undef, undef, undef, undef, undef, undef, undef, undef, undef, undef, undef, undef, undef, undef, undef, undef, undef, undef, undef, undef, undef, undef, undef, undef, undef, undef, undef, undef, undef, undef, undef, undef, undef, undef, undef, undef, undef, undef, undef, undef, undef, undef, undef, undef, undef, undef, undef, undef, undef, undef, undef, undef, undef, undef, undef, undef, undef, undef, undef, undef, undef, undef, undef, undef, undef, undef, undef, undef, undef, undef, undef, undef, undef, undef, undef, undef, undef, undef, undef, undef, undef, undef, undef, undef, undef, undef, undef, undef, undef]) Tryd.func128 rfl rfl ?_
  refine wp_seq_k (fun K1 hK1 => ?_)
  refine region ?_
  refine RS.move (v := .slice _ _ _) rfl ?_
  refine RS.call E135 (schedule (S0 := S0) _ _ _ _ _ R0 hn hc) rfl (fun v2 w2 x2 A2 => ?_)
  replace hE := hE.ext x2
  replace A0 := A0.ext x2
  replace K0 := K0.ext x2
  have zw2 := x2.size
  subst A2
  refine RS.norm (by dsimp only [List.set]) ?_
  refine RS.alloc T162 (fun b3 w3 e3 s3 x3 B3 => ?_)
  refine RS.norm (by dsimp only [List.set]) ?_
  replace hE := hE.ext x3
  replace A0 := A0.ext x3
  replace K0 := K0.ext x3
  have zw3 := x3.size
  have A3 : IArr .u32 w3 b3 64 (List.replicate 64 0) [] 162 := IArr.zero B3
  clear B3
  refine RS.storeArr A3 rfl rfl C162 (by decide) (by first | assumption | exact And.left (by assumption) | exact IArr.len (by assumption)) (by first | assumption | exact And.right (by assumption) | exact IArr.bd (by assumption)) (fun w4 y4 N4 => ?_)
  replace hE := hE.stn y4 (by intros; try (first | (intro _ _) | (intro _) | skip); first | omega | (dsimp only at *; omega) | (simp_all; done) | (simp at *; omega))
  replace A0 := A0.st y4 (by intros; try (first | (intro _ _) | (intro _) | skip); first | omega | (dsimp only at *; omega) | (simp_all; done) | (simp at *; omega))
  replace K0 := K0.st y4 (by intros; try (first | (intro _ _) | (intro _) | skip); first | omega | (dsimp only at *; omega) | (simp_all; done) | (simp at *; omega))
  have zw4 := y4.size
  replace A3 := N4
  refine RS.nil ?_
  refine hK1 _ _ ?_
  try clear hK1
  refine wp_seq_k (fun K5 hK5 => ?_)
  refine regionX Ext [(0, .q), (1, .q), (2, .q), (3, .q), (4, .q), (5, .q), (6, .q), (7, .q), (8, .q), (9, .q), (10, .q), (11, .q), (12, .q), (13, .q), (14, .q), (15, .q), (16, .q), (17, .q), (18, .q), (19, .q), (20, .q), (21, .q), (22, .q), (23, .q), (24, .q), (25, .q), (26, .q), (27, .q), (28, .q), (29, .q), (30, .q), (31, .q), (32, .q), (33, .q), (34, .q), (35, .q), (36, .q), (37, .q), (38, .q), (39, .q)] mixed Ext.refl (fun h k => h.tr k) (by kernel_rfl) (fun w6 x6 => ?_)
  replace hE := hE.ext x6
  replace A0 := A0.ext x6
  replace K0 := K0.ext x6
  replace A3 := A3.ext x6
  have zw6 := x6.size
  refine RX.move (v := .pointer _) rfl ?_
  refine RX.nilCheck rfl ?_
  refine RX.idxA (fun _ h => h) A0 rfl rfl Tryd.underlying143 C22 (by decide) (fun v7 h7 q7 r7 => ?_)
  refine RX.norm (by dsimp only [List.set]) ?_
  simp only [lim] at r7
  subst q7
  refine RX.o (fun w' hw => D.load rfl Tryd.underlying22 rfl (h7 w' hw)) ?_
  refine RX.move (v := .pointer _) rfl ?_
  refine RX.nilCheck rfl ?_
  refine RX.idxA (fun _ h => h) A0 rfl rfl Tryd.underlying143 C22 (by decide) (fun v8 h8 q8 r8 => ?_)
  refine RX.norm (by dsimp only [List.set]) ?_
  simp only [lim] at r8
  subst q8
  refine RX.o (fun w' hw => D.load rfl Tryd.underlying22 rfl (h8 w' hw)) ?_
  refine RX.move (v := .pointer _) rfl ?_
  refine RX.nilCheck rfl ?_
  refine RX.idxA (fun _ h => h) A0 rfl rfl Tryd.underlying143 C22 (by decide) (fun v9 h9 q9 r9 => ?_)
  refine RX.norm (by dsimp only [List.set]) ?_
  simp only [lim] at r9
  subst q9
  refine RX.o (fun w' hw => D.load rfl Tryd.underlying22 rfl (h9 w' hw)) ?_
  refine RX.move (v := .pointer _) rfl ?_
  refine RX.nilCheck rfl ?_
  refine RX.idxA (fun _ h => h) A0 rfl rfl Tryd.underlying143 C22 (by decide) (fun v10 h10 q10 r10 => ?_)
  refine RX.norm (by dsimp only [List.set]) ?_
  simp only [lim] at r10
  subst q10
  refine RX.o (fun w' hw => D.load rfl Tryd.underlying22 rfl (h10 w' hw)) ?_
  refine RX.move (v := .pointer _) rfl ?_
  refine RX.nilCheck rfl ?_
  refine RX.idxA (fun _ h => h) A0 rfl rfl Tryd.underlying143 C22 (by decide) (fun v11 h11 q11 r11 => ?_)
  refine RX.norm (by dsimp only [List.set]) ?_
  simp only [lim] at r11
  subst q11
  refine RX.o (fun w' hw => D.load rfl Tryd.underlying22 rfl (h11 w' hw)) ?_
  refine RX.move (v := .pointer _) rfl ?_
  refine RX.nilCheck rfl ?_
  refine RX.idxA (fun _ h => h) A0 rfl rfl Tryd.underlying143 C22 (by decide) (fun v12 h12 q12 r12 => ?_)
  refine RX.norm (by dsimp only [List.set]) ?_
  simp only [lim] at r12
  subst q12
  refine RX.o (fun w' hw => D.load rfl Tryd.underlying22 rfl (h12 w' hw)) ?_
  refine RX.move (v := .pointer _) rfl ?_
  refine RX.nilCheck rfl ?_
  refine RX.idxA (fun _ h => h) A0 rfl rfl Tryd.underlying143 C22 (by decide) (fun v13 h13 q13 r13 => ?_)
  refine RX.norm (by dsimp only [List.set]) ?_
  simp only [lim] at r13
  subst q13
  refine RX.o (fun w' hw => D.load rfl Tryd.underlying22 rfl (h13 w' hw)) ?_
  refine RX.move (v := .pointer _) rfl ?_
  refine RX.nilCheck rfl ?_
  refine RX.idxA (fun _ h => h) A0 rfl rfl Tryd.underlying143 C22 (by decide) (fun v14 h14 q14 r14 => ?_)
  refine RX.norm (by dsimp only [List.set]) ?_
  simp only [lim] at r14
  subst q14
  refine RX.o (fun w' hw => D.load rfl Tryd.underlying22 rfl (h14 w' hw)) ?_
  refine RX.assign (v := .int _ _) rfl ?_
  refine RX.assign (v := .int _ _) rfl ?_
  refine RX.assign (v := .int _ _) rfl ?_
  refine RX.assign (v := .int _ _) rfl ?_
  refine RX.assign (v := .int _ _) rfl ?_
  refine RX.assign (v := .int _ _) rfl ?_
  refine RX.assign (v := .int _ _) rfl ?_
  refine RX.assign (v := .int _ _) rfl ?_
  refine RX.nil ?_
  refine hK5 _ _ ?_
  try clear hK5
  refine wp_seq_k (fun K15 hK15 => ?_)
  refine wp_seq_k (fun K16 hK16 => ?_)
  refine region ?_
  refine RS.move (v := .int .i64 0) rfl ?_
  refine RS.nil ?_
  refine hK16 _ _ ?_
  try clear hK16
  refine wp_block ?_
  refine C.loop (A := Int × S.H8) (fun p => [(5, .int .u32 p.2.a), (6, .int .u32 p.2.b), (7, .int .u32 p.2.c), (8, .int .u32 p.2.d), (9, .int .u32 p.2.e), (10, .int .u32 p.2.f), (11, .int .u32 p.2.g), (12, .int .u32 p.2.h), (52, .int .i64 p.1)]) [13, 14, 15, 53, 54, 55, 56, 57, 58, 59, 60, 61, 62, 63, 64, 65, 66, 67, 68, 69, 70, 71, 72, 73, 74, 75, 76, 77, 78, 79, 80, 81, 82, 83, 84, 85, 86, 87, 88, 89, 90, 91, 92, 93, 94, 95, 96, 97, 98, 99, 100, 101, 102] (fun p w' => Ext w6 w' ∧ ((0 ≤ p.1 ∧ p.1 ≤ 64) ∧ p.2 = S.rounds (S.sch bs 48) (S.H8.of h) p.1.toNat)) (fun p => (64 - p.1.toNat)) (0, S.H8.of h) (by kernel_rfl) ?_ ?_
  · exact ⟨Ext.refl _, ⟨by dsimp only; omega, by dsimp only; omega⟩, by show S.H8.of h = S.rounds _ _ (0 : Int).toNat; rw [show (0 : Int).toNat = 0 from rfl, S.rounds_zero]⟩
  · rintro p j w17 ⟨x17, hI⟩
    replace hE := hE.ext x17
    replace A0 := A0.ext x17
    replace K0 := K0.ext x17
    replace A3 := A3.ext x17
    have zw17 := x17.size
    obtain ⟨i, st⟩ := p
    dsimp only at hI
    obtain ⟨h1, h2⟩ := hI
    have hok : st.ok := by rw [h2]; exact S.rounds_ok _ _ (S.H8.of_ok _ hhb) _
    have hst := S.ok_arr st hok
    obtain ⟨o1, o2, o3, o4, o5, o6, o7, o8⟩ := hok
    simp only [S.W32] at o1 o2 o3 o4 o5 o6 o7 o8
    refine C.norm (by simp only [upd, junk, List.map_cons, List.map_nil, List.set_cons_succ, List.set_cons_zero]; exact rfl) ?_
    refine wp_seq_k (fun K18 hK18 => ?_)
    refine region ?_
    refine RS.o (D.lt rfl rfl) ?_
    refine RS.nil ?_
    refine hK18 _ _ ?_
    try clear hK18
    refine wp_seq_k (fun K19 hK19 => ?_)
    refine C.ifd rfl (fun c20 => ?_) (fun c20 => ?_)
    · refine wp_skip ?_
      refine hK19 _ _ ?_
      try clear hK19
      refine wp_seq_k (fun K21 hK21 => ?_)
      refine wp_block ?_
      refine wp_seq_k (fun K22 hK22 => ?_)
      refine region ?_
      refine RS.move (v := .int _ _) rfl ?_
      refine RS.assign (v := .int _ _) rfl ?_
      refine RS.nil ?_
      refine hK22 _ _ ?_
      try clear hK22
      refine wp_seq_k (fun K23 hK23 => ?_)
      refine regionX Ext [(0, .q), (1, .q), (4, .q), (5, .q), (6, .q), (7, .q), (8, .q), (9, .q), (10, .q), (11, .q), (13, .q), (14, .q), (15, .q), (17, .q), (18, .q), (19, .q), (2, .e), (3, .q), (12, .q), (16, .q), (20, .q), (21, .q)] mixed Ext.refl (fun h k => h.tr k) (by kernel_rfl) (fun w24 x24 => ?_)
      replace hE := hE.ext x24
      replace x17 := Ext.tr x17 x24
      replace A0 := A0.ext x24
      replace K0 := K0.ext x24
      replace A3 := A3.ext x24
      have zw24 := x24.size
      refine RX.move (v := .int _ _) rfl ?_
      refine RX.move (v := .int _ _) rfl ?_
      refine RX.move (v := .int _ _) rfl ?_
      refine RX.move (v := .int _ _) rfl ?_
      refine RX.ob (Ext.refl _) (fun w' hw => D.band_u32 rfl rfl (by omega) (by omega)) (fun z25 => ?_)
      refine RX.move (v := .int _ _) rfl ?_
      refine RX.o (fun w' hw => D.inv rfl (by omega)) ?_
      refine RX.move (v := .int _ _) rfl ?_
      refine RX.ob (Ext.refl _) (fun w' hw => D.band_u32 rfl rfl (by omega) (by omega)) (fun z26 => ?_)
      refine RX.ob (Ext.refl _) (fun w' hw => D.bxor_u32 rfl rfl (by omega) (by omega)) (fun z27 => ?_)
      refine RX.move (v := .int _ _) rfl ?_
      refine RX.idxK (fun _ h => h) K0 rfl rfl Tryd.underlying162 C22 (by omega) (fun v28 h28 q28 r28 => ?_)
      refine RX.norm (by dsimp only [List.set]) ?_
      simp only [lim] at r28
      have qk := q28
      refine RX.o (fun w' hw => D.load rfl Tryd.underlying22 rfl (h28 w' hw)) ?_
      refine RX.move (v := .int _ _) rfl ?_
      refine RX.idxA (fun _ h => h) A3 rfl rfl Tryd.underlying162 C22 (by omega) (fun v29 h29 q29 r29 => ?_)
      refine RX.norm (by dsimp only [List.set]) ?_
      simp only [lim] at r29
      have qw := q29
      refine RX.o (fun w' hw => D.load rfl Tryd.underlying22 rfl (h29 w' hw)) ?_
      refine RX.eff ?_
      refine RS.call E136 (mix st.e (by omega) _ (by omega) _ (by omega) _ (by omega) _) rfl (fun v30 w30 x30 A30 => ?_)
      replace hE := hE.ext x30
      replace x17 := Ext.tr x17 x30
      replace A0 := A0.ext x30
      replace K0 := K0.ext x30
      replace A3 := A3.ext x30
      have zw30 := x30.size
      subst A30
      have g30 := S.mix_bd st.e 6 11 25 (by omega)
      refine RS.norm (by dsimp only [List.set]) ?_
      refine RS.nil ⟨x30, ?_⟩
      refine RX.o (fun w' hw => D.add rfl rfl (W.u32m _)) ?_
      refine RX.o (fun w' hw => D.add rfl rfl (W.u32m _)) ?_
      refine RX.o (fun w' hw => D.add rfl rfl (W.u32m _)) ?_
      refine RX.o (fun w' hw => D.add rfl rfl (W.u32m _)) ?_
      refine RX.assign (v := .int _ _) rfl ?_
      refine RX.nil ?_
      refine hK23 _ _ ?_
      try clear hK23
      refine wp_seq_k (fun K31 hK31 => ?_)
      refine region ?_
      refine RS.move (v := .int _ _) rfl ?_
      refine RS.call E136 (mix st.a (by omega) _ (by omega) _ (by omega) _ (by omega) _) rfl (fun v32 w32 x32 A32 => ?_)
      replace hE := hE.ext x32
      replace x17 := Ext.tr x17 x32
      replace A0 := A0.ext x32
      replace K0 := K0.ext x32
      replace A3 := A3.ext x32
      have zw32 := x32.size
      subst A32
      have g32 := S.mix_bd st.a 2 13 22 (by omega)
      refine RS.norm (by dsimp only [List.set]) ?_
      refine RS.move (v := .int _ _) rfl ?_
      refine RS.move (v := .int _ _) rfl ?_
      refine RS.ob (D.band_u32 rfl rfl (by omega) (by omega)) (fun z33 => ?_)
      refine RS.move (v := .int _ _) rfl ?_
      refine RS.move (v := .int _ _) rfl ?_
      refine RS.ob (D.band_u32 rfl rfl (by omega) (by omega)) (fun z34 => ?_)
      refine RS.ob (D.bxor_u32 rfl rfl (by omega) (by omega)) (fun z35 => ?_)
      refine RS.move (v := .int _ _) rfl ?_
      refine RS.move (v := .int _ _) rfl ?_
      refine RS.ob (D.band_u32 rfl rfl (by omega) (by omega)) (fun z36 => ?_)
      refine RS.ob (D.bxor_u32 rfl rfl (by omega) (by omega)) (fun z37 => ?_)
      refine RS.o (D.add rfl rfl (W.u32m _)) ?_
      refine RS.assign (v := .int _ _) rfl ?_
      refine RS.nil ?_
      refine hK31 _ _ ?_
      try clear hK31
      refine region ?_
      refine RS.move (v := .int _ _) rfl ?_
      refine RS.move (v := .int _ _) rfl ?_
      refine RS.o (D.add rfl rfl (W.u32m _)) ?_
      refine RS.move (v := .int _ _) rfl ?_
      refine RS.move (v := .int _ _) rfl ?_
      refine RS.move (v := .int _ _) rfl ?_
      refine RS.move (v := .int _ _) rfl ?_
      refine RS.move (v := .int _ _) rfl ?_
      refine RS.o (D.add rfl rfl (W.u32m _)) ?_
      refine RS.move (v := .int _ _) rfl ?_
      refine RS.move (v := .int _ _) rfl ?_
      refine RS.move (v := .int _ _) rfl ?_
      refine RS.assign (v := .int _ _) rfl ?_
      refine RS.assign (v := .int _ _) rfl ?_
      refine RS.assign (v := .int _ _) rfl ?_
      refine RS.assign (v := .int _ _) rfl ?_
      refine RS.assign (v := .int _ _) rfl ?_
      refine RS.assign (v := .int _ _) rfl ?_
      refine RS.assign (v := .int _ _) rfl ?_
      refine RS.assign (v := .int _ _) rfl ?_
      refine RS.nil ?_
      refine hK21 _ _ ?_
      try clear hK21
      refine region ?_
      refine RS.o (D.add rfl rfl (W.i64 (by omega))) ?_
      refine RS.move (v := .int _ _) rfl ?_
      refine RS.nil ?_
      change Nx _ _ _ _ _ _ _ _
      refine C.next (i + 1, S.rnd v28 v29 st) ⟨rfl, rfl, rfl, rfl, rfl, rfl, rfl, rfl, rfl, trivial⟩ (by kernel_rfl) ?_ ?_
      · refine ⟨x17, ⟨by dsimp only; omega, by dsimp only; omega⟩, ?_⟩
        dsimp only
        rw [show (i + 1).toNat = i.toNat + 1 by omega, S.rounds_succ, ← h2, qk, qw]
      · dsimp only; omega
    · refine wp_exit ?_
      refine hK15 _ _ ?_
      try clear hK15
      refine wp_seq_k (fun K38 hK38 => ?_)
      refine region ?_
      refine RS.move (v := .int _ _) rfl ?_
      refine RS.move (v := .int _ _) rfl ?_
      refine RS.move (v := .int _ _) rfl ?_
      refine RS.move (v := .int _ _) rfl ?_
      refine RS.move (v := .int _ _) rfl ?_
      refine RS.move (v := .int _ _) rfl ?_
      refine RS.move (v := .int _ _) rfl ?_
      refine RS.move (v := .int _ _) rfl ?_
      refine RS.o (D.buildArr (xs := [.tmp 103, .tmp 104, .tmp 105, .tmp 106, .tmp 107, .tmp 108, .tmp 109, .tmp 110]) (vs := ints .u32 [_, _, _, _, _, _, _, _]) Tryd.underlying143 T143 (by simp [ints]) C22 rfl rfl rfl (by intro v hv; obtain ⟨x, _, rfl⟩ := List.mem_map.1 hv; rfl)) ?_
      refine RS.move (v := .int .i64 0) rfl ?_
      refine RS.nil ?_
      refine hK38 _ _ ?_
      try clear hK38
      refine wp_block ?_
      refine C.loop (A := Int × List Int) (fun p => [(112, .int .i64 p.1)]) [16, 17, 113, 114, 115, 116, 117, 118, 119, 120, 121, 122, 123, 124, 125] (fun p w' => Pr (fun k => k = b) w17 w' ∧ (IArr .u32 w' b 8 p.2 tl T ∧ (0 ≤ p.1 ∧ p.1 ≤ 8) ∧ p.2 = (S.addW h st.toL).take p.1.toNat ++ h.drop p.1.toNat)) (fun p => (8 - p.1.toNat)) (0, h) (by kernel_rfl) ?_ ?_
      · exact ⟨Pr.refl _ _, A0, ⟨by dsimp only; omega, by dsimp only; omega⟩, rfl⟩
      · rintro p j w39 ⟨x39, hI⟩
        replace hE := hE.prn x39 (by intros; try (first | (intro _ _) | (intro _) | skip); first | omega | (dsimp only at *; omega) | (simp_all; done) | (simp at *; omega))
        replace K0 := K0.pr x39 (by intros; try (first | (intro _ _) | (intro _) | skip); first | omega | (dsimp only at *; omega) | (simp_all; done) | (simp at *; omega))
        replace A3 := A3.pr x39 (by intros; try (first | (intro _ _) | (intro _) | skip); first | omega | (dsimp only at *; omega) | (simp_all; done) | (simp at *; omega))
        have zw39 := x39.size
        obtain ⟨j, xs⟩ := p
        dsimp only at hI
        obtain ⟨A0, g1, g2⟩ := hI
        have hxl := A0.len
        refine C.norm (by simp only [upd, junk, List.map_cons, List.map_nil, List.set_cons_succ, List.set_cons_zero]; exact rfl) ?_
        refine wp_seq_k (fun K40 hK40 => ?_)
        refine region ?_
        refine RS.o (D.lt rfl rfl) ?_
        refine RS.nil ?_
        refine hK40 _ _ ?_
        try clear hK40
        refine wp_seq_k (fun K41 hK41 => ?_)
        refine C.ifd rfl (fun c42 => ?_) (fun c42 => ?_)
        · refine wp_skip ?_
          refine hK41 _ _ ?_
          try clear hK41
          refine wp_seq_k (fun K43 hK43 => ?_)
          refine wp_block ?_
          refine wp_seq_k (fun K44 hK44 => ?_)
          refine region ?_
          refine RS.move (v := .int _ _) rfl ?_
          refine RS.idxV rfl rfl Tryd.underlying143 Tryd.underlying22 rfl C22 (by omega) hst.1 hst.2 (fun v45 q45 r45 => ?_)
          refine RS.norm (by dsimp only [List.set]) ?_
          simp only [lim] at r45
          have qy := q45
          refine RS.assign (v := .int _ _) rfl ?_
          refine RS.assign (v := .int _ _) rfl ?_
          refine RS.nil ?_
          refine hK44 _ _ ?_
          try clear hK44
          refine regionX Ext [(0, .q), (1, .q), (2, .q), (3, .q), (4, .q), (5, .q), (6, .q), (7, .q), (8, .q), (9, .g)] mixed Ext.refl (fun h k => h.tr k) (by kernel_rfl) (fun w46 x46 => ?_)
          replace hE := hE.ext x46
          replace x39 := x39.ext x46
          replace A0 := A0.ext x46
          replace K0 := K0.ext x46
          replace A3 := A3.ext x46
          have zw46 := x46.size
          refine RX.move (v := .pointer _) rfl ?_
          refine RX.move (v := .int _ _) rfl ?_
          refine RX.nilCheck rfl ?_
          refine RX.idxA (fun _ h => h) A0 rfl rfl Tryd.underlying143 C22 (by omega) (fun v47 h47 q47 r47 => ?_)
          refine RX.norm (by dsimp only [List.set]) ?_
          simp only [lim] at r47
          have qz := q47
          refine RX.o (fun w' hw => D.load rfl Tryd.underlying22 rfl (h47 w' hw)) ?_
          refine RX.move (v := .int _ _) rfl ?_
          refine RX.o (fun w' hw => D.add rfl rfl (W.u32m _)) ?_
          refine RX.nilCheck rfl ?_
          refine RX.idxA (fun _ h => h) A0 rfl rfl Tryd.underlying143 C22 (by omega) (fun v48 h48 q48 r48 => ?_)
          refine RX.norm (by dsimp only [List.set]) ?_
          simp only [lim] at r48
          refine RX.big ?_
          refine RS.storeA A0 rfl rfl C22 (by omega) (by simp only [lim]; omega) (fun w49 y49 N49 => ?_)
          replace hE := hE.stn y49 (by intros; try (first | (intro _ _) | (intro _) | skip); first | omega | (dsimp only at *; omega) | (simp_all; done) | (simp at *; omega))
          replace x39 := x39.stn y49 (by intros; try (first | (intro _ _) | (intro _) | skip); first | omega | (dsimp only at *; omega) | (simp_all; done) | (simp at *; omega))
          replace K0 := K0.st y49 (by intros; try (first | (intro _ _) | (intro _) | skip); first | omega | (dsimp only at *; omega) | (simp_all; done) | (simp at *; omega))
          replace A3 := A3.st y49 (by intros; try (first | (intro _ _) | (intro _) | skip); first | omega | (dsimp only at *; omega) | (simp_all; done) | (simp at *; omega))
          have zw49 := y49.size
          replace A0 := N49
          refine RS.nil ?_
          refine RX.nil ?_
          refine hK43 _ _ ?_
          try clear hK43
          refine region ?_
          refine RS.o (D.add rfl rfl (W.i64 (by omega))) ?_
          refine RS.move (v := .int _ _) rfl ?_
          refine RS.nil ?_
          change Nx _ _ _ _ _ _ _ _
          refine C.next (j + 1, xs.set j.toNat ((v47 + v45) % 4294967296)) ⟨rfl, trivial⟩ (by kernel_rfl) ?_ ?_
          · refine ⟨x39, A0, ⟨by dsimp only; omega, by dsimp only; omega⟩, ?_⟩
            dsimp only
            have e := S.add_step h st.toL xs j (by omega) hxl g2 hhl
            rw [qz, qy]
            exact e
          · dsimp only; omega
        · refine wp_exit ?_
          change bodyPost Tryd.prog Tryd.f128 (fun e w' => e = .returned (.tuple #[]) ∧ Pr (fun k => k = b) w w' ∧ IArr .u32 w' b 8 (S.grind h bs) tl T) .normal _ _
          refine retN (rs := []) (vs := []) rfl trivial rfl ?_
          refine ⟨rfl, hE, ?_⟩
          have e9 : xs = S.grind h bs := by rw [g2, show j.toNat = 8 by omega, List.take_of_length_le (by rw [S.addW_len]; omega), List.drop_eq_nil_of_le (by omega), List.append_nil, S.grind_eq, show (64 : Nat) = i.toNat by omega, ← h2]
          rw [← e9]
          exact A0

end Go.Proofs.YtiohpiiiapjblaaDoor.W
