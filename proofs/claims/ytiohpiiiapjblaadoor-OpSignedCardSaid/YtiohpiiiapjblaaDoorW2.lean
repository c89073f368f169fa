/-
  W2: walks of functions, printed by gen.py from the annotations ann2.py.
-/
import Derived.Test.YtiohpiiiapjblaaDoorW1
import Derived.Test.YtiohpiiiapjblaaDoorS3
namespace Go.Proofs.YtiohpiiiapjblaaDoor.W
open Go.RowKit Go.Proofs.YtiohpiiiapjblaaDoor.G
set_option linter.unusedVariables false
set_option maxRecDepth 20000
set_option maxHeartbeats 8000000
attribute [local irreducible] RS RX

theorem C5 : Tryd.prog.cellsOf 5 = 1 := by kernel_rfl
theorem C162 : Tryd.prog.cellsOf 162 = 64 := by kernel_rfl
theorem T162 : TI Tryd.prog 162 64 256 (ints .u32 (List.replicate 64 0)) := by
  have h : (Tryd.prog.info? 162).map (fun i => (i.size, i.bytes, i.zero)) = some (64, 256, some (.agg #[.int .u32 0, .int .u32 0, .int .u32 0, .int .u32 0, .int .u32 0, .int .u32 0, .int .u32 0, .int .u32 0, .int .u32 0, .int .u32 0, .int .u32 0, .int .u32 0, .int .u32 0, .int .u32 0, .int .u32 0, .int .u32 0, .int .u32 0, .int .u32 0, .int .u32 0, .int .u32 0, .int .u32 0, .int .u32 0, .int .u32 0, .int .u32 0, .int .u32 0, .int .u32 0, .int .u32 0, .int .u32 0, .int .u32 0, .int .u32 0, .int .u32 0, .int .u32 0, .int .u32 0, .int .u32 0, .int .u32 0, .int .u32 0, .int .u32 0, .int .u32 0, .int .u32 0, .int .u32 0, .int .u32 0, .int .u32 0, .int .u32 0, .int .u32 0, .int .u32 0, .int .u32 0, .int .u32 0, .int .u32 0, .int .u32 0, .int .u32 0, .int .u32 0, .int .u32 0, .int .u32 0, .int .u32 0, .int .u32 0, .int .u32 0, .int .u32 0, .int .u32 0, .int .u32 0, .int .u32 0, .int .u32 0, .int .u32 0, .int .u32 0, .int .u32 0])) := by kernel_rfl
  exact TI.of h rfl
theorem E140 : Enters Tryd.prog 140 := .mk Tryd.func140 (by kernel_rfl) rfl
theorem rotl (x : Int) (hx : 0 ≤ x ∧ x < 4294967296) (n : Int) (hn : 0 < n ∧ n < 32) (m : Int) (hm : m = -n) (w : World) :
    Calls Tryd.prog 140 #[.int .u32 x, .int .i64 m] w (Ret w fun v _ => v = .int .u32 (S.rotr x n)) := by
  have hE := Ext.refl w
  refine enter (args := [.int .u32 x, .int .i64 m]) (l := [.int .u32 x, .int .i64 m, undef, undef, undef, undef, undef, undef, undef, undef, undef, undef, undef, undef, undef, undef, undef]) Tryd.func140 rfl rfl ?_
  refine wp_seq_k (fun K1 hK1 => ?_)
  refine region ?_
  refine RS.assign (v := .int .u32 0) rfl ?_
  refine RS.nil ?_
  refine hK1 _ _ ?_
  try clear hK1
  refine wp_seq_k (fun K2 hK2 => ?_)
  refine region ?_
  refine RS.move (v := .int _ _) rfl ?_
  refine RS.o (D.conv rfl Tryd.underlying3 Tryd.underlying141 (by first | exact W.u64 (by omega) | exact W.u64m _)) ?_
  refine RS.ob (D.band_u64 rfl rfl (by omega) (by omega)) (fun z3 => ?_)
  refine RS.assign (v := .int _ _) rfl ?_
  refine RS.nil ?_
  refine hK2 _ _ ?_
  try clear hK2
  refine wp_seq_k (fun K4 hK4 => ?_)
  rw [hm, S.rot_amt n hn]
  have g1 := S.rotr_bd x n hx
  refine region ?_
  refine RS.move (v := .int _ _) rfl ?_
  refine RS.move (v := .int _ _) rfl ?_
  refine RS.o (D.shl rfl rfl (by constructor <;> (try simp only [IntKind.bits]) <;> omega) (W.u32m _)) ?_
  refine RS.move (v := .int _ _) rfl ?_
  refine RS.move (v := .int _ _) rfl ?_
  refine RS.o (D.sub rfl rfl (by first | exact W.u64 (by omega) | exact W.u64m _)) ?_
  refine RS.ob (D.shr_u32 rfl rfl (by omega) (by constructor <;> omega)) (fun z5 => ?_)
  refine RS.ob (D.bor_u32 rfl rfl (by omega) (by omega)) (fun z6 => ?_)
  refine RS.assign (v := .int _ _) rfl ?_
  refine RS.nil ?_
  refine hK4 _ _ ?_
  try clear hK4
  refine wp_ret ?_
  refine ret (rs := [.tmp 4]) (vs := [.int _ _]) (v := (.int _ _)) rfl ⟨rfl, trivial⟩ rfl ?_
  refine ⟨_, rfl, hE, congrArg (Value.int .u32) (S.rotr_eq x n hn)⟩

theorem mix (x : Int) (hx : 0 ≤ x ∧ x < 4294967296) (i : Int) (hi : 0 < i ∧ i < 32) (j : Int) (hj : 0 < j ∧ j < 32) (k : Int) (hk : 0 < k ∧ k < 32) (w : World) :
    Calls Tryd.prog 136 #[.int .u32 x, .int .i64 i, .int .i64 j, .int .i64 k] w (Ret w fun v _ => v = .int .u32 (S.mix x i j k)) := by
  have g1 := S.rotr_bd x i hx
  have g2 := S.rotr_bd x j hx
  have g3 := S.rotr_bd x k hx
  have hE := Ext.refl w
  refine enter (args := [.int .u32 x, .int .i64 i, .int .i64 j, .int .i64 k]) (l := [.int .u32 x, .int .i64 i, .int .i64 j, .int .i64 k, undef, undef, undef, undef, undef, undef, undef, undef, undef, undef, undef, undef, undef, undef, undef, undef, undef, undef, undef]) Tryd.func136 rfl rfl ?_
  refine wp_seq_k (fun K1 hK1 => ?_)
  refine region ?_
  refine RS.assign (v := .int .u32 0) rfl ?_
  refine RS.nil ?_
  refine hK1 _ _ ?_
  try clear hK1
  refine wp_seq_k (fun K2 hK2 => ?_)
  refine region ?_
  refine RS.move (v := .int _ _) rfl ?_
  refine RS.move (v := .int _ _) rfl ?_
  refine RS.o (D.neg rfl (W.i64 (by omega))) ?_
  refine RS.call E140 (rotl _ (by omega) i (by omega) _ (by omega) _) rfl (fun v3 w3 x3 A3 => ?_)
  replace hE := Ext.tr hE x3
  have zw3 := x3.size
  subst A3
  refine RS.norm (by dsimp only [List.set]) ?_
  refine RS.move (v := .int _ _) rfl ?_
  refine RS.move (v := .int _ _) rfl ?_
  refine RS.o (D.neg rfl (W.i64 (by omega))) ?_
  refine RS.call E140 (rotl _ (by omega) j (by omega) _ (by omega) _) rfl (fun v4 w4 x4 A4 => ?_)
  replace hE := Ext.tr hE x4
  have zw4 := x4.size
  subst A4
  refine RS.norm (by dsimp only [List.set]) ?_
  refine RS.ob (D.bxor_u32 rfl rfl (by omega) (by omega)) (fun z5 => ?_)
  refine RS.move (v := .int _ _) rfl ?_
  refine RS.move (v := .int _ _) rfl ?_
  refine RS.o (D.neg rfl (W.i64 (by omega))) ?_
  refine RS.call E140 (rotl _ (by omega) k (by omega) _ (by omega) _) rfl (fun v6 w6 x6 A6 => ?_)
  replace hE := Ext.tr hE x6
  have zw6 := x6.size
  subst A6
  refine RS.norm (by dsimp only [List.set]) ?_
  refine RS.ob (D.bxor_u32 rfl rfl (by omega) (by omega)) (fun z7 => ?_)
  refine RS.assign (v := .int _ _) rfl ?_
  refine RS.nil ?_
  refine hK2 _ _ ?_
  try clear hK2
  refine wp_ret ?_
  refine ret (rs := [.tmp 8]) (vs := [.int _ _]) (v := (.int _ _)) rfl ⟨rfl, trivial⟩ rfl ?_
  exact ⟨_, rfl, hE, rfl⟩

theorem turn (x : Int) (hx : 0 ≤ x ∧ x < 4294967296) (n : Int) (hn : 0 < n ∧ n < 32) (w : World) :
    Calls Tryd.prog 137 #[.int .u32 x, .int .i64 n] w (Ret w fun v _ => v = .int .u32 (S.rotr x n)) := by
  have hE := Ext.refl w
  refine enter (args := [.int .u32 x, .int .i64 n]) (l := [.int .u32 x, .int .i64 n, undef, undef, undef, undef, undef, undef, undef, undef, undef, undef, undef]) Tryd.func137 rfl rfl ?_
  refine wp_seq_k (fun K1 hK1 => ?_)
  refine region ?_
  refine RS.assign (v := .int .u32 0) rfl ?_
  refine RS.nil ?_
  refine hK1 _ _ ?_
  try clear hK1
  refine wp_seq_k (fun K2 hK2 => ?_)
  refine regionX Ext [(0, .q), (1, .q), (2, .q), (3, .q), (4, .q), (5, .q), (6, .q), (7, .q), (8, .q)] mixed Ext.refl (fun h k => h.tr k) (by kernel_rfl) (fun w3 x3 => ?_)
  replace hE := Ext.tr hE x3
  have zw3 := x3.size
  refine RX.move (v := .int _ _) rfl ?_
  refine RX.move (v := .int _ _) rfl ?_
  refine RX.ob (Ext.refl _) (fun w' hw => D.shr_u32 rfl rfl (by omega) (by constructor <;> omega)) (fun z4 => ?_)
  refine RX.move (v := .int _ _) rfl ?_
  refine RX.move (v := .int _ _) rfl ?_
  refine RX.o (fun w' hw => D.sub rfl rfl (W.i64 (by omega))) ?_
  refine RX.o (fun w' hw => D.shl rfl rfl (by constructor <;> (try simp only [IntKind.bits]) <;> omega) (W.u32m _)) ?_
  refine RX.ob (Ext.refl _) (fun w' hw => D.bor_u32 rfl rfl (by omega) (by omega)) (fun z5 => ?_)
  refine RX.assign (v := .int _ _) rfl ?_
  refine RX.nil ?_
  refine hK2 _ _ ?_
  try clear hK2
  refine wp_ret ?_
  refine ret (rs := [.tmp 4]) (vs := [.int _ _]) (v := (.int _ _)) rfl ⟨rfl, trivial⟩ rfl ?_
  exact ⟨_, rfl, hE, rfl⟩

theorem schedule {S0 : Nat → Prop} (a : Option Addr) (n c : Nat) (b : List Int) (w : World) (R0 : IRow .u8 S0 w a n b) (hn : 64 ≤ n) (hc : n ≤ c) :
    Calls Tryd.prog 135 #[.slice a n c] w (Ret w fun v _ => v = .agg (ints .u32 (S.sch b 48)).toArray) := by
  replace R0 := R0.weaken (T := fun k => k < w.heap.size) (fun k hk _ => hk)
  have hbl := R0.len
  have hbd := R0.bd
  have R1 := R0.sub 0 64 c (by omega) (by omega) (by omega)
  have hE := Ext.refl w
  refine enter (args := [.slice a n c]) (l := [.slice a n c, undef, undef, undef, undef, undef, undef, undef, undef, undef, undef, undef, undef, undef, undef, undef, undef, undef, undef, undef, undef, undef, undef, undef, undef, undef, undef, undef, undef, undef, undef, undef, undef, undef, undef, undef, undef, undef, undef, undef, undef, undef, undef, undef, undef, undef, undef, undef, undef, undef, undef, undef, undef, undef, undef, undef, undef, undef, undef, undef, undef, undef, undef, undef, undef, undef, undef, undef, undef, undef, undef, undef, undef, undef]) Tryd.func135 rfl rfl ?_
  refine wp_seq_k (fun K1 hK1 => ?_)
  refine region ?_
  refine RS.alloc T162 (fun b2 w2 e2 s2 x2 B2 => ?_)
  refine RS.norm (by dsimp only [List.set]) ?_
  replace hE := Ext.tr hE x2
  replace R1 := R1.ext x2
  have zw2 := x2.size
  have A2 : IArr .u32 w2 b2 64 (List.replicate 64 0) [] 162 := IArr.zero B2
  clear B2
  refine RS.nil ?_
  refine hK1 _ _ ?_
  try clear hK1
  refine wp_seq_k (fun K3 hK3 => ?_)
  refine wp_seq_k (fun K4 hK4 => ?_)
  refine region ?_
  refine RS.move (v := .slice _ _ _) rfl ?_
  refine RS.o (D.slice (kl := .i64) (kh := .i64) rfl Tryd.underlying35 C5 (by decide) rfl rfl (by omega) (by omega)) ?_
  refine RS.o (D.len rfl Tryd.underlying35) ?_
  refine RS.move (v := .int .i64 0) rfl ?_
  refine RS.nil ?_
  refine hK4 _ _ ?_
  try clear hK4
  refine wp_block ?_
  refine C.loop (A := Int × List Int) (fun p => [(13, .int .i64 p.1)]) [3, 4, 14, 15, 16, 17, 18, 19, 20, 21, 22, 23, 24, 25, 26, 27, 28, 29] (fun p w' => Pr (fun k => k = b2) w2 w' ∧ (IArr .u32 w' b2 64 p.2 [] 162 ∧ (0 ≤ p.1 ∧ p.1 ≤ 64) ∧ S.PW b p.1.toNat p.2)) (fun p => (64 - p.1.toNat)) (0, List.replicate 64 0) (by kernel_rfl) ?_ ?_
  · exact ⟨Pr.refl _ _, A2, by decide, S.PW_zero b⟩
  · rintro p j w5 ⟨x5, hI⟩
    replace hE := hE.trans (x5.below (by intros; try (first | (intro _ _) | (intro _) | skip); first | omega | (dsimp only at *; omega) | (simp_all; done) | (simp at *; omega)) (by intros; try (first | (intro _ _) | (intro _) | skip); first | omega | (dsimp only at *; omega) | (simp_all; done) | (simp at *; omega)))
    replace R1 := R1.pr x5 (by intros; try (first | (intro _ _) | (intro _) | skip); first | omega | (dsimp only at *; omega) | (simp_all; done) | (simp at *; omega))
    have zw5 := x5.size
    obtain ⟨i, U⟩ := p
    dsimp only at hI
    obtain ⟨A2, h1, h2⟩ := hI
    have hWl := A2.len
    have hlt := A2.lt
    refine C.norm (by simp only [upd, junk, List.map_cons, List.map_nil, List.set_cons_succ, List.set_cons_zero]; exact rfl) ?_
    refine wp_seq_k (fun K6 hK6 => ?_)
    refine region ?_
    refine RS.o (D.lt rfl rfl) ?_
    refine RS.nil ?_
    refine hK6 _ _ ?_
    try clear hK6
    refine wp_seq_k (fun K7 hK7 => ?_)
    refine C.ifd rfl (fun c8 => ?_) (fun c8 => ?_)
    · refine wp_skip ?_
      refine hK7 _ _ ?_
      try clear hK7
      refine wp_seq_k (fun K9 hK9 => ?_)
      refine wp_block ?_
      refine wp_seq_k (fun K10 hK10 => ?_)
      refine region ?_
      refine RS.move (v := .int _ _) rfl ?_
      refine RS.idx R1 rfl rfl Tryd.underlying35 C5 (by omega) (fun b11 o11 v11 h11 q11 r11 => ?_)
      refine RS.norm (by dsimp only [List.set]) ?_
      simp only [lim] at r11
      have qa := q11
      refine RS.o (D.load rfl Tryd.underlying5 rfl (h11)) ?_
      refine RS.assign (v := .int _ _) rfl ?_
      refine RS.assign (v := .int _ _) rfl ?_
      refine RS.nil ?_
      refine hK10 _ _ ?_
      try clear hK10
      refine region ?_
      refine RS.move (v := .int _ _) rfl ?_
      refine RS.o (D.quo rfl rfl (by omega) (by omega) (W.i64 (by omega))) ?_
      refine RS.move (v := .int _ _) rfl ?_
      refine RS.o (D.quo rfl rfl (by omega) (by omega) (W.i64 (by omega))) ?_
      refine RS.idxA A2 rfl rfl Tryd.underlying162 C22 (by omega) (fun v12 h12 q12 r12 => ?_)
      refine RS.norm (by dsimp only [List.set]) ?_
      simp only [lim] at r12
      have qb := q12
      refine RS.o (D.load rfl Tryd.underlying22 rfl (h12)) ?_
      refine RS.o (D.shl rfl rfl (by constructor <;> (try simp only [IntKind.bits]) <;> omega) (W.u32m _)) ?_
      refine RS.move (v := .int _ _) rfl ?_
      refine RS.o (D.conv rfl Tryd.underlying5 Tryd.underlying22 (W.u32 (by omega))) ?_
      refine RS.ob (D.bor_u32 rfl rfl (by omega) (by omega)) (fun z13 => ?_)
      refine RS.idxA A2 rfl rfl Tryd.underlying162 C22 (by omega) (fun v14 h14 q14 r14 => ?_)
      refine RS.norm (by dsimp only [List.set]) ?_
      simp only [lim] at r14
      refine RS.storeA A2 rfl rfl C22 (by omega) (by simp only [lim]; omega) (fun w15 y15 N15 => ?_)
      replace hE := hE.trans (y15.below (by intros; try (first | (intro _ _) | (intro _) | skip); first | omega | (dsimp only at *; omega) | (simp_all; done) | (simp at *; omega)))
      replace x5 := x5.stn y15 (by intros; try (first | (intro _ _) | (intro _) | skip); first | omega | (dsimp only at *; omega) | (simp_all; done) | (simp at *; omega))
      replace R1 := R1.st y15 (by intros; try (first | (intro _ _) | (intro _) | skip); first | omega | (dsimp only at *; omega) | (simp_all; done) | (simp at *; omega))
      have zw15 := y15.size
      replace A2 := N15
      refine RS.nil ?_
      refine hK9 _ _ ?_
      try clear hK9
      refine region ?_
      refine RS.o (D.add rfl rfl (W.i64 (by omega))) ?_
      refine RS.move (v := .int _ _) rfl ?_
      refine RS.nil ?_
      change Nx _ _ _ _ _ _ _ _
      refine C.next (i + 1, U.set (i / 4).toNat (ior (v12 * 2 ^ (8 : Int).toNat % 4294967296) v11)) ⟨rfl, trivial⟩ (by kernel_rfl) ?_ ?_
      · refine ⟨x5, A2, ⟨by dsimp only; omega, by dsimp only; omega⟩, ?_⟩
        dsimp only
        subst qb
        exact S.PW_step b U i _ ⟨h1.1, by omega⟩ hWl (by omega) hbd (qa.trans (S.take64 b i (by omega))) h2
      · dsimp only; omega
    · refine wp_exit ?_
      refine hK3 _ _ ?_
      try clear hK3
      refine wp_seq_k (fun K16 hK16 => ?_)
      refine wp_seq_k (fun K17 hK17 => ?_)
      refine region ?_
      refine RS.assign (v := .int .i64 16) rfl ?_
      refine RS.nil ?_
      refine hK17 _ _ ?_
      try clear hK17
      refine wp_block ?_
      refine C.loop (A := Int × List Int) (fun p => [(5, .int .i64 p.1)]) [6, 7, 8, 9, 30, 31, 32, 33, 34, 35, 36, 37, 38, 39, 40, 41, 42, 43, 44, 45, 46, 47, 48, 49, 50, 51, 52, 53, 54, 55, 56, 57, 58, 59, 60, 61, 62, 63, 64, 65, 66, 67, 68, 69, 70, 71, 72] (fun p w' => Pr (fun k => k = b2) w5 w' ∧ (IArr .u32 w' b2 64 p.2 [] 162 ∧ (16 ≤ p.1 ∧ p.1 ≤ 64) ∧ p.2.take p.1.toNat = S.sch b (p.1.toNat - 16))) (fun p => (64 - p.1.toNat)) (16, U) (by kernel_rfl) ?_ ?_
      · exact ⟨Pr.refl _ _, A2, ⟨by dsimp only; omega, by dsimp only; omega⟩, S.take_words b U (by omega) hWl (by rw [show (64 : Nat) = i.toNat by omega]; exact h2)⟩
      · rintro p j w18 ⟨x18, hI⟩
        replace hE := hE.trans (x18.below (by intros; try (first | (intro _ _) | (intro _) | skip); first | omega | (dsimp only at *; omega) | (simp_all; done) | (simp at *; omega)) (by intros; try (first | (intro _ _) | (intro _) | skip); first | omega | (dsimp only at *; omega) | (simp_all; done) | (simp at *; omega)))
        replace R1 := R1.pr x18 (by intros; try (first | (intro _ _) | (intro _) | skip); first | omega | (dsimp only at *; omega) | (simp_all; done) | (simp at *; omega))
        have zw18 := x18.size
        obtain ⟨t, V⟩ := p
        dsimp only at hI
        obtain ⟨A2, g1, g2⟩ := hI
        have hVl := A2.len
        have hlt2 := A2.lt
        refine C.norm (by simp only [upd, junk, List.map_cons, List.map_nil, List.set_cons_succ, List.set_cons_zero]; exact rfl) ?_
        refine wp_seq_k (fun K19 hK19 => ?_)
        refine wp_seq_k (fun K20 hK20 => ?_)
        refine region ?_
        refine RS.move (v := .int _ _) rfl ?_
        refine RS.o (D.lt rfl rfl) ?_
        refine RS.nil ?_
        refine hK20 _ _ ?_
        try clear hK20
        refine C.ifd rfl (fun c21 => ?_) (fun c21 => ?_)
        · refine wp_skip ?_
          refine hK19 _ _ ?_
          try clear hK19
          refine wp_seq_k (fun K22 hK22 => ?_)
          refine wp_block ?_
          refine wp_seq_k (fun K23 hK23 => ?_)
          refine regionX Ext [(0, .q), (1, .q), (2, .q), (3, .q), (4, .q), (5, .q), (6, .q), (7, .q), (8, .q), (9, .q)] mixed Ext.refl (fun h k => h.tr k) (by kernel_rfl) (fun w24 x24 => ?_)
          replace hE := Ext.tr hE x24
          replace x18 := x18.ext x24
          replace R1 := R1.ext x24
          replace A2 := A2.ext x24
          have zw24 := x24.size
          refine RX.move (v := .int _ _) rfl ?_
          refine RX.o (fun w' hw => D.sub rfl rfl (W.i64 (by omega))) ?_
          refine RX.idxA (fun _ h => h) A2 rfl rfl Tryd.underlying162 C22 (by omega) (fun v25 h25 q25 r25 => ?_)
          refine RX.norm (by dsimp only [List.set]) ?_
          simp only [lim] at r25
          have q1 := q25
          refine RX.o (fun w' hw => D.load rfl Tryd.underlying22 rfl (h25 w' hw)) ?_
          refine RX.move (v := .int _ _) rfl ?_
          refine RX.o (fun w' hw => D.sub rfl rfl (W.i64 (by omega))) ?_
          refine RX.idxA (fun _ h => h) A2 rfl rfl Tryd.underlying162 C22 (by omega) (fun v26 h26 q26 r26 => ?_)
          refine RX.norm (by dsimp only [List.set]) ?_
          simp only [lim] at r26
          have q2 := q26
          refine RX.o (fun w' hw => D.load rfl Tryd.underlying22 rfl (h26 w' hw)) ?_
          refine RX.assign (v := .int _ _) rfl ?_
          refine RX.assign (v := .int _ _) rfl ?_
          refine RX.nil ?_
          refine hK23 _ _ ?_
          try clear hK23
          refine wp_seq_k (fun K27 hK27 => ?_)
          refine region ?_
          refine RS.move (v := .int _ _) rfl ?_
          refine RS.call E140 (rotl _ (by omega) 7 (by omega) _ (by omega) _) rfl (fun v28 w28 x28 A28 => ?_)
          replace hE := Ext.tr hE x28
          replace x18 := x18.ext x28
          replace R1 := R1.ext x28
          replace A2 := A2.ext x28
          have zw28 := x28.size
          subst A28
          have g28 := S.rotr_bd v25 7 (by omega)
          refine RS.norm (by dsimp only [List.set]) ?_
          refine RS.move (v := .int _ _) rfl ?_
          refine RS.call E140 (rotl _ (by omega) 18 (by omega) _ (by omega) _) rfl (fun v29 w29 x29 A29 => ?_)
          replace hE := Ext.tr hE x29
          replace x18 := x18.ext x29
          replace R1 := R1.ext x29
          replace A2 := A2.ext x29
          have zw29 := x29.size
          subst A29
          have g29 := S.rotr_bd v25 18 (by omega)
          refine RS.norm (by dsimp only [List.set]) ?_
          refine RS.ob (D.bxor_u32 rfl rfl (by omega) (by omega)) (fun z30 => ?_)
          refine RS.move (v := .int _ _) rfl ?_
          refine RS.ob (D.shr_u32 rfl rfl (by omega) (by constructor <;> omega)) (fun z31 => ?_)
          refine RS.ob (D.bxor_u32 rfl rfl (by omega) (by omega)) (fun z32 => ?_)
          refine RS.assign (v := .int _ _) rfl ?_
          refine RS.nil ?_
          refine hK27 _ _ ?_
          try clear hK27
          refine wp_seq_k (fun K33 hK33 => ?_)
          refine region ?_
          refine RS.move (v := .int _ _) rfl ?_
          refine RS.call E140 (rotl _ (by omega) 17 (by omega) _ (by omega) _) rfl (fun v34 w34 x34 A34 => ?_)
          replace hE := Ext.tr hE x34
          replace x18 := x18.ext x34
          replace R1 := R1.ext x34
          replace A2 := A2.ext x34
          have zw34 := x34.size
          subst A34
          have g34 := S.rotr_bd v26 17 (by omega)
          refine RS.norm (by dsimp only [List.set]) ?_
          refine RS.move (v := .int _ _) rfl ?_
          refine RS.call E140 (rotl _ (by omega) 19 (by omega) _ (by omega) _) rfl (fun v35 w35 x35 A35 => ?_)
          replace hE := Ext.tr hE x35
          replace x18 := x18.ext x35
          replace R1 := R1.ext x35
          replace A2 := A2.ext x35
          have zw35 := x35.size
          subst A35
          have g35 := S.rotr_bd v26 19 (by omega)
          refine RS.norm (by dsimp only [List.set]) ?_
          refine RS.ob (D.bxor_u32 rfl rfl (by omega) (by omega)) (fun z36 => ?_)
          refine RS.move (v := .int _ _) rfl ?_
          refine RS.ob (D.shr_u32 rfl rfl (by omega) (by constructor <;> omega)) (fun z37 => ?_)
          refine RS.ob (D.bxor_u32 rfl rfl (by omega) (by omega)) (fun z38 => ?_)
          refine RS.assign (v := .int _ _) rfl ?_
          refine RS.nil ?_
          refine hK33 _ _ ?_
          try clear hK33
          refine regionX Ext [(0, .q), (1, .q), (2, .q), (3, .q), (4, .q), (5, .q), (6, .q), (7, .q), (8, .q), (9, .q), (10, .q), (11, .q), (12, .q), (13, .q), (14, .q), (15, .g)] mixed Ext.refl (fun h k => h.tr k) (by kernel_rfl) (fun w39 x39 => ?_)
          replace hE := Ext.tr hE x39
          replace x18 := x18.ext x39
          replace R1 := R1.ext x39
          replace A2 := A2.ext x39
          have zw39 := x39.size
          refine RX.move (v := .int _ _) rfl ?_
          refine RX.move (v := .int _ _) rfl ?_
          refine RX.o (fun w' hw => D.sub rfl rfl (W.i64 (by omega))) ?_
          refine RX.idxA (fun _ h => h) A2 rfl rfl Tryd.underlying162 C22 (by omega) (fun v40 h40 q40 r40 => ?_)
          refine RX.norm (by dsimp only [List.set]) ?_
          simp only [lim] at r40
          have q3 := q40
          refine RX.o (fun w' hw => D.load rfl Tryd.underlying22 rfl (h40 w' hw)) ?_
          refine RX.move (v := .int _ _) rfl ?_
          refine RX.o (fun w' hw => D.sub rfl rfl (W.i64 (by omega))) ?_
          refine RX.idxA (fun _ h => h) A2 rfl rfl Tryd.underlying162 C22 (by omega) (fun v41 h41 q41 r41 => ?_)
          refine RX.norm (by dsimp only [List.set]) ?_
          simp only [lim] at r41
          have q4 := q41
          refine RX.o (fun w' hw => D.load rfl Tryd.underlying22 rfl (h41 w' hw)) ?_
          refine RX.o (fun w' hw => D.add rfl rfl (W.u32m _)) ?_
          refine RX.move (v := .int _ _) rfl ?_
          refine RX.o (fun w' hw => D.add rfl rfl (W.u32m _)) ?_
          refine RX.move (v := .int _ _) rfl ?_
          refine RX.o (fun w' hw => D.add rfl rfl (W.u32m _)) ?_
          refine RX.idxA (fun _ h => h) A2 rfl rfl Tryd.underlying162 C22 (by omega) (fun v42 h42 q42 r42 => ?_)
          refine RX.norm (by dsimp only [List.set]) ?_
          simp only [lim] at r42
          refine RX.big ?_
          refine RS.storeA A2 rfl rfl C22 (by omega) (by simp only [lim]; omega) (fun w43 y43 N43 => ?_)
          replace hE := hE.trans (y43.below (by intros; try (first | (intro _ _) | (intro _) | skip); first | omega | (dsimp only at *; omega) | (simp_all; done) | (simp at *; omega)))
          replace x18 := x18.stn y43 (by intros; try (first | (intro _ _) | (intro _) | skip); first | omega | (dsimp only at *; omega) | (simp_all; done) | (simp at *; omega))
          replace R1 := R1.st y43 (by intros; try (first | (intro _ _) | (intro _) | skip); first | omega | (dsimp only at *; omega) | (simp_all; done) | (simp at *; omega))
          have zw43 := y43.size
          replace A2 := N43
          refine RS.nil ?_
          refine RX.nil ?_
          refine hK22 _ _ ?_
          try clear hK22
          refine region ?_
          refine RS.move (v := .int _ _) rfl ?_
          refine RS.o (D.add rfl rfl (W.i64 (by omega))) ?_
          refine RS.assign (v := .int _ _) rfl ?_
          refine RS.nil ?_
          change Nx _ _ _ _ _ _ _ _
          refine C.next (t + 1, V.set t.toNat (S.nextW V t)) ⟨rfl, trivial⟩ (by kernel_rfl) ?_ ?_
          · subst q1 q2 q3 q4
            refine ⟨x18, A2, ⟨by dsimp only; omega, by dsimp only; omega⟩, ?_⟩
            dsimp only
            exact S.sch_step b V t (by omega) hVl g2
          · dsimp only; omega
        · refine wp_exit ?_
          refine hK16 _ _ ?_
          try clear hK16
          refine wp_seq_k (fun K44 hK44 => ?_)
          refine region ?_
          refine RS.o (D.loadAgg rfl Tryd.underlying162 rfl C162 (by decide) (by rw [ints_length, A2.len]) A2.cells) ?_
          refine RS.storeArr A2 rfl rfl C162 (by decide) (by first | assumption | exact And.left (by assumption) | exact IArr.len (by assumption)) (by first | assumption | exact And.right (by assumption) | exact IArr.bd (by assumption)) (fun w45 y45 N45 => ?_)
          replace hE := hE.trans (y45.below (by intros; try (first | (intro _ _) | (intro _) | skip); first | omega | (dsimp only at *; omega) | (simp_all; done) | (simp at *; omega)))
          replace R1 := R1.st y45 (by intros; try (first | (intro _ _) | (intro _) | skip); first | omega | (dsimp only at *; omega) | (simp_all; done) | (simp at *; omega))
          have zw45 := y45.size
          replace A2 := N45
          refine RS.nil ?_
          refine hK44 _ _ ?_
          try clear hK44
          refine wp_ret ?_
          refine ret (rs := [.cell 2 162]) (vs := [.agg _]) (v := (.agg _)) rfl ⟨⟨_, rfl, loadVar_agg Tryd.underlying162 rfl C162 (by decide) (by rw [ints_length, A2.len]) A2.cells⟩, trivial⟩ rfl ?_
          refine ⟨_, rfl, hE, ?_⟩
          rw [show t.toNat = 64 by omega, List.take_of_length_le (by omega)] at g2
          rw [g2]

end Go.Proofs.YtiohpiiiapjblaaDoor.W
