/-
  W1: walks of functions, printed by gen.py from the annotations ann1.py.
-/
import Derived.Test.YtiohpiiiapjblaaDoorTy
import Derived.Test.YtiohpiiiapjblaaDoorS1
namespace Go.Proofs.YtiohpiiiapjblaaDoor.W
open Go.RowKit Go.Proofs.YtiohpiiiapjblaaDoor.G
set_option linter.unusedVariables false
set_option maxRecDepth 20000
set_option maxHeartbeats 8000000
attribute [local irreducible] RS RX

theorem C22 : Tryd.prog.cellsOf 22 = 1 := by kernel_rfl
theorem T22 : TI Tryd.prog 22 1 4 [.int .u32 0] := by
  have h : (Tryd.prog.info? 22).map (fun i => (i.size, i.bytes, i.zero)) = some (1, 4, some (.int .u32 0)) := by kernel_rfl
  exact TI.of h rfl
theorem E59 : Enters Tryd.prog 59 := .mk Tryd.func59 (by kernel_rfl) rfl
theorem E96 : Enters Tryd.prog 96 := .mk Tryd.func96 (by kernel_rfl) rfl
theorem E98 : Enters Tryd.prog 98 := .mk Tryd.func98 (by kernel_rfl) rfl
theorem E102 : Enters Tryd.prog 102 := .mk Tryd.func102 (by kernel_rfl) rfl
theorem E103 : Enters Tryd.prog 103 := .mk Tryd.func103 (by kernel_rfl) rfl
theorem E126 : Enters Tryd.prog 126 := .mk Tryd.func126 (by kernel_rfl) rfl
theorem ref_power (a n m : Int) (ha : 0 ≤ a ∧ a < 4294967296) (hn : 0 ≤ n ∧ n < 18446744073709551616) (hm : 1 < m ∧ m < 4294967296) (w : World) :
    Calls Tryd.prog 98 #[.int .u64 a, .int .u64 n, .int .u64 m] w (Ret w fun v _ => v = .int .u64 (S.pw a n m)) := by
  have hE := Ext.refl w
  refine enter (args := [.int .u64 a, .int .u64 n, .int .u64 m]) (l := [.int .u64 a, .int .u64 n, .int .u64 m, undef, undef, undef, undef, undef, undef, undef, undef, undef, undef, undef, undef, undef, undef, undef, undef, undef, undef, undef, undef, undef, undef, undef]) Tryd.func98 rfl rfl ?_
  refine wp_seq_k (fun K1 hK1 => ?_)
  refine region ?_
  refine RS.assign (v := .int .u64 0) rfl ?_
  refine RS.nil ?_
  refine hK1 _ _ ?_
  try clear hK1
  refine wp_seq_k (fun K2 hK2 => ?_)
  refine region ?_
  refine RS.assign (v := .int .u64 1) rfl ?_
  refine RS.nil ?_
  refine hK2 _ _ ?_
  try clear hK2
  refine wp_seq_k (fun K3 hK3 => ?_)
  refine wp_block ?_
  refine C.loop (A := Int × Int × Int) (fun p => [(0, .int .u64 p.1), (1, .int .u64 p.2.1), (7, .int .u64 p.2.2)]) [8, 9, 10, 11, 12, 13, 14, 15, 16, 17, 18, 19, 20, 21, 22, 23, 24] (fun p w' => Ext w w' ∧ ((0 ≤ p.1 ∧ p.1 < 4294967296) ∧ (0 ≤ p.2.1 ∧ p.2.1 < 18446744073709551616) ∧ (0 ≤ p.2.2 ∧ p.2.2 < m) ∧ p.2.2 * p.1 ^ p.2.1.toNat % m = a ^ n.toNat % m)) (fun p => p.2.1.toNat) (a, n, 1) (by kernel_rfl) ?_ ?_
  · exact ⟨Ext.refl _, ha, hn, ⟨by dsimp only; omega, hm.1⟩, by dsimp only; rw [Int.one_mul]⟩
  · rintro p j w4 ⟨x4, hI⟩
    replace hE := Ext.tr hE x4
    have zw4 := x4.size
    obtain ⟨a1, n1, r1⟩ := p
    dsimp only at hI
    obtain ⟨h1, h2, h3, h4⟩ := hI
    have g1 := S.mul32 (show 0 ≤ r1 ∧ r1 < 4294967296 by omega) h1
    have g2 := S.mul32 h1 h1
    have g5 := Int.emod_nonneg (r1 * a1) (show m ≠ 0 by omega)
    have g6 := Int.emod_lt_of_pos (r1 * a1) (show 0 < m by omega)
    have g7 := Int.emod_nonneg (a1 * a1) (show m ≠ 0 by omega)
    have g8 := Int.emod_lt_of_pos (a1 * a1) (show 0 < m by omega)
    refine C.norm (by simp only [upd, junk, List.map_cons, List.map_nil, List.set_cons_succ, List.set_cons_zero]; exact rfl) ?_
    refine wp_seq_k (fun K5 hK5 => ?_)
    refine wp_seq_k (fun K6 hK6 => ?_)
    refine region ?_
    refine RS.move (v := .int _ _) rfl ?_
    refine RS.o (D.gt rfl rfl) ?_
    refine RS.nil ?_
    refine hK6 _ _ ?_
    try clear hK6
    refine C.ifd rfl (fun c7 => ?_) (fun c7 => ?_)
    · refine wp_skip ?_
      refine hK5 _ _ ?_
      try clear hK5
      refine wp_block ?_
      refine wp_seq_k (fun K8 hK8 => ?_)
      refine wp_seq_k (fun K9 hK9 => ?_)
      refine region ?_
      refine RS.move (v := .int _ _) rfl ?_
      refine RS.o (D.rem rfl rfl (by omega) (by omega)) ?_
      refine RS.o (D.eq rfl rfl) ?_
      refine RS.nil ?_
      refine hK9 _ _ ?_
      try clear hK9
      refine C.ife rfl (fun c10 => ?_) (fun c10 => ?_)
      · refine region ?_
        refine RS.move (v := .int _ _) rfl ?_
        refine RS.move (v := .int _ _) rfl ?_
        refine RS.o (D.mul rfl rfl (W.u64 (by omega))) ?_
        refine RS.move (v := .int _ _) rfl ?_
        refine RS.o (D.rem rfl rfl (by omega) (by omega)) ?_
        refine RS.assign (v := .int _ _) rfl ?_
        refine RS.nil ?_
        refine hK8 _ _ ?_
        try clear hK8
        refine wp_seq_k (fun K11 hK11 => ?_)
        refine region ?_
        refine RS.move (v := .int _ _) rfl ?_
        refine RS.move (v := .int _ _) rfl ?_
        refine RS.o (D.mul rfl rfl (W.u64 (by omega))) ?_
        refine RS.move (v := .int _ _) rfl ?_
        refine RS.o (D.rem rfl rfl (by omega) (by omega)) ?_
        refine RS.assign (v := .int _ _) rfl ?_
        refine RS.nil ?_
        refine hK11 _ _ ?_
        try clear hK11
        refine region ?_
        refine RS.move (v := .int _ _) rfl ?_
        refine RS.o (D.quo rfl rfl (by omega) (by omega) (W.u64 (by omega))) ?_
        refine RS.assign (v := .int _ _) rfl ?_
        refine RS.nil ?_
        change Nx _ _ _ _ _ _ _ _
        refine C.next (_, _, _) ⟨rfl, rfl, rfl, trivial⟩ (by kernel_rfl) ?_ ?_
        · exact ⟨x4, ⟨g7, by dsimp only; omega⟩, ⟨by dsimp only; omega, by dsimp only; omega⟩, ⟨g5, g6⟩, by dsimp only; rw [← h4]; exact S.power_odd a1 r1 m n1 h2.1 ‹_›⟩
        · dsimp only; omega
      · refine wp_skip ?_
        refine hK8 _ _ ?_
        try clear hK8
        refine wp_seq_k (fun K12 hK12 => ?_)
        refine region ?_
        refine RS.move (v := .int _ _) rfl ?_
        refine RS.move (v := .int _ _) rfl ?_
        refine RS.o (D.mul rfl rfl (W.u64 (by omega))) ?_
        refine RS.move (v := .int _ _) rfl ?_
        refine RS.o (D.rem rfl rfl (by omega) (by omega)) ?_
        refine RS.assign (v := .int _ _) rfl ?_
        refine RS.nil ?_
        refine hK12 _ _ ?_
        try clear hK12
        refine region ?_
        refine RS.move (v := .int _ _) rfl ?_
        refine RS.o (D.quo rfl rfl (by omega) (by omega) (W.u64 (by omega))) ?_
        refine RS.assign (v := .int _ _) rfl ?_
        refine RS.nil ?_
        change Nx _ _ _ _ _ _ _ _
        refine C.next (_, _, _) ⟨rfl, rfl, rfl, trivial⟩ (by kernel_rfl) ?_ ?_
        · exact ⟨x4, ⟨g7, by dsimp only; omega⟩, ⟨by dsimp only; omega, by dsimp only; omega⟩, h3, by dsimp only; rw [← h4]; exact S.power_even a1 r1 m n1 h2.1 ‹_›⟩
        · dsimp only; omega
    · refine wp_exit ?_
      refine hK3 _ _ ?_
      try clear hK3
      refine wp_seq_k (fun K13 hK13 => ?_)
      refine region ?_
      refine RS.move (v := .int _ _) rfl ?_
      refine RS.assign (v := .int _ _) rfl ?_
      refine RS.nil ?_
      refine hK13 _ _ ?_
      try clear hK13
      refine wp_ret ?_
      refine ret (rs := [.tmp 6]) (vs := [.int _ _]) (v := (.int _ _)) rfl ⟨rfl, trivial⟩ rfl ?_
      refine ⟨_, rfl, hE, ?_⟩
      have h0 : n1 = 0 := by omega
      rw [h0] at h4
      unfold S.pw
      rw [← h4]
      congr 1
      rw [show (0 : Int).toNat = 0 from rfl, Int.pow_zero, Int.mul_one, Int.emod_eq_of_lt h3.1 h3.2]

theorem group_mul {S0 : Nat → Prop} (m : Int) (a : Option Addr) (n c : Nat) (xs : List Int) (hm : 1 < m ∧ m < 4294967296) (w : World) (R0 : IRow .u32 S0 w a n xs) (hn : n ≤ 1000) :
    Calls Tryd.prog 103 #[.int .u64 m, .slice a n c] w (Ret w fun v _ => v = .int .u32 (S.mulf m xs)) := by
  have hE := Ext.refl w
  refine enter (args := [.int .u64 m, .slice a n c]) (l := [.int .u64 m, .slice a n c, undef, undef, undef, undef, undef, undef, undef, undef, undef, undef, undef, undef, undef, undef, undef, undef, undef, undef, undef, undef, undef]) Tryd.func103 rfl rfl ?_
  refine wp_seq_k (fun K1 hK1 => ?_)
  refine region ?_
  refine RS.assign (v := .int .u32 0) rfl ?_
  refine RS.nil ?_
  refine hK1 _ _ ?_
  try clear hK1
  refine wp_seq_k (fun K2 hK2 => ?_)
  refine region ?_
  refine RS.assign (v := .int .u64 1) rfl ?_
  refine RS.nil ?_
  refine hK2 _ _ ?_
  try clear hK2
  refine wp_seq_k (fun K3 hK3 => ?_)
  refine wp_seq_k (fun K4 hK4 => ?_)
  refine region ?_
  refine RS.move (v := .slice _ _ _) rfl ?_
  refine RS.o (D.len rfl Tryd.underlying157) ?_
  refine RS.move (v := .int .i64 0) rfl ?_
  refine RS.nil ?_
  refine hK4 _ _ ?_
  try clear hK4
  refine wp_block ?_
  refine C.loop (A := Int × Int) (fun p => [(5, .int .u64 p.2), (10, .int .i64 p.1)]) [7, 11, 12, 13, 14, 15, 16, 17, 18, 19, 20] (fun p w' => Ext w w' ∧ ((0 ≤ p.1 ∧ p.1 ≤ n) ∧ (0 ≤ p.2 ∧ p.2 < m) ∧ p.2 = S.mulf m (xs.take p.1.toNat))) (fun p => (n - p.1.toNat)) (0, 1) (by kernel_rfl) ?_ ?_
  · exact ⟨Ext.refl _, ⟨by decide, by dsimp only; omega⟩, ⟨by decide, hm.1⟩, rfl⟩
  · rintro p j w5 ⟨x5, hI⟩
    replace hE := Ext.tr hE x5
    replace R0 := R0.ext x5
    have zw5 := x5.size
    obtain ⟨i, r⟩ := p
    dsimp only at hI
    obtain ⟨h1, h2, h3⟩ := hI
    refine C.norm (by simp only [upd, junk, List.map_cons, List.map_nil, List.set_cons_succ, List.set_cons_zero]; exact rfl) ?_
    refine wp_seq_k (fun K6 hK6 => ?_)
    refine region ?_
    refine RS.o (D.lt rfl rfl) ?_
    refine RS.nil ?_
    refine hK6 _ _ ?_
    try clear hK6
    refine wp_seq_k (fun K7 hK7 => ?_)
    refine C.ifd rfl (fun c8 => ?_) (fun c8 => ?_)
    · refine wp_skip ?_
      refine hK7 _ _ ?_
      try clear hK7
      refine wp_seq_k (fun K9 hK9 => ?_)
      refine wp_block ?_
      refine wp_seq_k (fun K10 hK10 => ?_)
      refine region ?_
      refine RS.idx R0 rfl rfl Tryd.underlying157 C22 (by omega) (fun b11 o11 v11 h11 q11 r11 => ?_)
      refine RS.norm (by dsimp only [List.set]) ?_
      simp only [lim] at r11
      refine RS.o (D.load rfl Tryd.underlying22 rfl (h11)) ?_
      refine RS.assign (v := .int _ _) rfl ?_
      refine RS.nil ?_
      refine hK10 _ _ ?_
      try clear hK10
      have g1 := S.mul32 (show 0 ≤ r ∧ r < 4294967296 by omega) r11
      refine region ?_
      refine RS.move (v := .int _ _) rfl ?_
      refine RS.move (v := .int _ _) rfl ?_
      refine RS.o (D.conv rfl Tryd.underlying22 Tryd.underlying24 (W.u64 (by omega))) ?_
      refine RS.o (D.mul rfl rfl (W.u64 (by omega))) ?_
      refine RS.move (v := .int _ _) rfl ?_
      refine RS.o (D.rem rfl rfl (by omega) (by omega)) ?_
      refine RS.assign (v := .int _ _) rfl ?_
      refine RS.nil ?_
      refine hK9 _ _ ?_
      try clear hK9
      refine region ?_
      refine RS.o (D.add rfl rfl (W.i64 (by omega))) ?_
      refine RS.move (v := .int _ _) rfl ?_
      refine RS.nil ?_
      change Nx _ _ _ _ _ _ _ _
      refine C.next (_, _) ⟨rfl, rfl, trivial⟩ (by kernel_rfl) ?_ ?_
      · refine ⟨x5, ⟨by dsimp only; omega, by dsimp only; omega⟩, ⟨Int.emod_nonneg _ (by omega), Int.emod_lt_of_pos _ (by omega)⟩, ?_⟩
        dsimp only
        rw [show (i + 1).toNat = i.toNat + 1 by omega, S.mulf_succ m xs _ (by rw [R0.len]; omega), ← h3, ← q11]
      · dsimp only; omega
    · refine wp_exit ?_
      refine hK3 _ _ ?_
      try clear hK3
      refine wp_seq_k (fun K12 hK12 => ?_)
      refine region ?_
      refine RS.move (v := .int _ _) rfl ?_
      refine RS.o (D.conv rfl Tryd.underlying24 Tryd.underlying22 (W.u32 (by omega))) ?_
      refine RS.assign (v := .int _ _) rfl ?_
      refine RS.nil ?_
      refine hK12 _ _ ?_
      try clear hK12
      refine wp_ret ?_
      refine ret (rs := [.tmp 4]) (vs := [.int _ _]) (v := (.int _ _)) rfl ⟨rfl, trivial⟩ rfl ?_
      refine ⟨_, rfl, hE, ?_⟩
      have h0 : i.toNat = xs.length := by rw [R0.len]; omega
      rw [h3, h0, List.take_length]

theorem group_sq (b : Nat) (o : Int) (T : TypeId) (ho : 0 ≤ o ∧ o < 1000000007) (w : World) (B0 : Blk w b [.int .u32 o] T) :
    Calls Tryd.prog 126 #[.pointer (some ⟨b, 0, none⟩)] w (fun e w' => e = .returned (.tuple #[]) ∧ Pr (fun k => k = b) w w' ∧ Blk w' b [.int .u32 (o * o % 1000000007)] T) := by
  have hb := B0.lt
  have gg := Int.emod_nonneg (o * o) (show (1000000007 : Int) ≠ 0 by decide)
  have gl := Int.emod_lt_of_pos (o * o) (show (0 : Int) < 1000000007 by decide)
  have hE := Pr.refl (fun k => k = b) w
  refine enter (args := [.pointer (some ⟨b, 0, none⟩)]) (l := [.pointer (some ⟨b, 0, none⟩), undef, undef, undef, undef]) Tryd.func126 rfl rfl ?_
  refine region ?_
  refine RS.o (D.load rfl Tryd.underlying22 rfl (B0.cell rfl)) ?_
  refine RS.o (D.load rfl Tryd.underlying22 rfl (B0.cell rfl)) ?_
  refine RS.buildSlice (xs := [.tmp 1, .tmp 2]) (vs := [.int _ _, .int _ _]) (cs := [.int _ _, .int _ _]) Tryd.underlying157 T22 (by decide) rfl rfl rfl rfl rfl rfl (by intro v hv; simp only [List.mem_cons, List.not_mem_nil, or_false] at hv; rcases hv with rfl | rfl <;> rfl) rfl (fun b1 w1 e1 s1 x1 B1 => ?_)
  refine RS.norm (by dsimp only [List.set]) ?_
  replace hE := hE.ext x1
  replace B0 := B0.ext x1
  have zw1 := x1.size
  refine RS.call E103 (group_mul (S0 := fun b => b = b1) _ _ 2 _ [o, o] (by omega) _ (.of_blk B1 rfl rfl rfl (.cons (k := .u32) (by simp only [lim]; omega) (.cons (k := .u32) (by simp only [lim]; omega) (.nil _)))) (by omega)) rfl (fun v2 w2 x2 A2 => ?_)
  replace hE := hE.ext x2
  replace B0 := B0.ext x2
  replace B1 := B1.ext x2
  have zw2 := x2.size
  subst A2
  rw [S.mulf_two]
  refine RS.norm (by dsimp only [List.set]) ?_
  refine RS.store rfl (v := .int _ _) rfl C22 rfl B0 rfl (fun w3 y3 N3 => ?_)
  replace hE := hE.stn y3 (by intros; try (first | (intro _ _) | (intro _) | skip); first | omega | (dsimp only at *; omega) | (simp_all; done) | (simp at *; omega))
  replace B1 := B1.st y3 (by intros; try (first | (intro _ _) | (intro _) | skip); first | omega | (dsimp only at *; omega) | (simp_all; done) | (simp at *; omega))
  have zw3 := y3.size
  replace B0 := N3
  refine RS.nil ?_
  refine retN (rs := []) (vs := []) rfl trivial rfl ?_
  exact ⟨rfl, hE, B0⟩

theorem group_pow (a n : Int) (ha : 0 ≤ a ∧ a < 4294967296) (hn : 0 ≤ n ∧ n < 18446744073709551616) (w : World) :
    Calls Tryd.prog 96 #[.int .u32 a, .int .u64 n] w (Ret w fun v _ => v = .int .u32 (S.pw a n 1000000007)) := by
  have gl : ∀ x : Int, 0 ≤ x % 1000000007 ∧ x % 1000000007 < 1000000007 := fun x => ⟨Int.emod_nonneg _ (by decide), Int.emod_lt_of_pos _ (by decide)⟩
  have hE := Ext.refl w
  refine enter (args := [.int .u32 a, .int .u64 n]) (l := [.int .u32 a, .int .u64 n, undef, undef, undef, undef, undef, undef, undef, undef, undef, undef, undef, undef, undef, undef, undef, undef, undef, undef, undef, undef, undef, undef, undef, undef]) Tryd.func96 rfl rfl ?_
  refine wp_seq_k (fun K1 hK1 => ?_)
  refine region ?_
  refine RS.assign (v := .int .u32 0) rfl ?_
  refine RS.nil ?_
  refine hK1 _ _ ?_
  try clear hK1
  refine wp_seq_k (fun K2 hK2 => ?_)
  refine region ?_
  refine RS.alloc T22 (fun b3 w3 e3 s3 x3 B3 => ?_)
  refine RS.norm (by dsimp only [List.set]) ?_
  replace hE := Ext.tr hE x3
  have zw3 := x3.size
  refine RS.store rfl (v := .int _ _) rfl C22 rfl B3 rfl (fun w4 y4 N4 => ?_)
  replace hE := hE.trans (y4.below (by intros; try (first | (intro _ _) | (intro _) | skip); first | omega | (dsimp only at *; omega) | (simp_all; done) | (simp at *; omega)))
  have zw4 := y4.size
  replace B3 := N4
  refine RS.nil ?_
  refine hK2 _ _ ?_
  try clear hK2
  refine wp_seq_k (fun K5 hK5 => ?_)
  refine region ?_
  refine RS.o (D.func (fs := []) (cs := [.pointer _]) rfl rfl) ?_
  refine RS.assign (v := .func _ _ _) rfl ?_
  refine RS.nil ?_
  refine hK5 _ _ ?_
  try clear hK5
  refine wp_seq_k (fun K6 hK6 => ?_)
  refine wp_seq_k (fun K7 hK7 => ?_)
  refine region ?_
  refine RS.move (v := .int .i64 0) rfl ?_
  refine RS.nil ?_
  refine hK7 _ _ ?_
  try clear hK7
  refine wp_block ?_
  refine C.loop (A := Int × Int) (fun p => [(9, .int .i64 p.1)]) [7, 10, 11, 12, 13, 14, 15, 16, 17, 18, 19, 20, 21, 22, 23, 24] (fun p w' => Pr (fun b => b = b3) w4 w' ∧ (Blk w' b3 [.int .u32 p.2] 22 ∧ (0 ≤ p.1 ∧ p.1 ≤ 64) ∧ (0 ≤ p.2 ∧ p.2 < 1000000007) ∧ p.2 = S.pw a (S.hi64 n p.1.toNat) 1000000007)) (fun p => (64 - p.1.toNat)) (0, 1) (by kernel_rfl) ?_ ?_
  · exact ⟨Pr.refl _ _, B3, by decide, by decide, by rw [show (0 : Int).toNat = 0 from rfl, S.hi64_zero n hn]; show (1 : Int) = a ^ (0 : Nat) % 1000000007; rw [Int.pow_zero]; rfl⟩
  · rintro p j w8 ⟨x8, hI⟩
    replace hE := hE.trans (x8.below (by intros; try (first | (intro _ _) | (intro _) | skip); first | omega | (dsimp only at *; omega) | (simp_all; done) | (simp at *; omega)) (by intros; try (first | (intro _ _) | (intro _) | skip); first | omega | (dsimp only at *; omega) | (simp_all; done) | (simp at *; omega)))
    have zw8 := x8.size
    obtain ⟨i, r⟩ := p
    dsimp only at hI
    obtain ⟨B3, h1, h2, h3⟩ := hI
    have s3b := B3.lt
    refine C.norm (by simp only [upd, junk, List.map_cons, List.map_nil, List.set_cons_succ, List.set_cons_zero]; exact rfl) ?_
    refine wp_seq_k (fun K9 hK9 => ?_)
    refine region ?_
    refine RS.o (D.lt rfl rfl) ?_
    refine RS.nil ?_
    refine hK9 _ _ ?_
    try clear hK9
    refine wp_seq_k (fun K10 hK10 => ?_)
    refine C.ifd rfl (fun c11 => ?_) (fun c11 => ?_)
    · refine wp_skip ?_
      refine hK10 _ _ ?_
      try clear hK10
      refine wp_seq_k (fun K12 hK12 => ?_)
      refine wp_block ?_
      refine wp_seq_k (fun K13 hK13 => ?_)
      have gs := S.shr_bd (63 - i).toNat hn
      refine region ?_
      refine RS.move (v := .int _ _) rfl ?_
      refine RS.assign (v := .int _ _) rfl ?_
      refine RS.nil ?_
      refine hK13 _ _ ?_
      try clear hK13
      refine wp_seq_k (fun K14 hK14 => ?_)
      refine region ?_
      refine RS.move (v := .func _ _ _) rfl ?_
      refine RS.callv E126 (group_sq _ r _ h2 _ B3) rfl rfl (fun e15 w15 A15 => ?_)
      obtain ⟨rfl, X15, N15⟩ := A15
      refine ⟨_, rfl, ?_⟩
      refine RS.norm (by dsimp only [List.set]) ?_
      replace hE := hE.trans (X15.below (by intros; try (first | (intro _ _) | (intro _) | skip); first | omega | (dsimp only at *; omega) | (simp_all; done) | (simp at *; omega)) (by intros; try (first | (intro _ _) | (intro _) | skip); first | omega | (dsimp only at *; omega) | (simp_all; done) | (simp at *; omega)))
      replace x8 := x8.prn X15 (by intros; try (first | (intro _ _) | (intro _) | skip); first | omega | (dsimp only at *; omega) | (simp_all; done) | (simp at *; omega))
      have zw15 := X15.size
      replace B3 := N15
      refine RS.nil ?_
      refine hK14 _ _ ?_
      try clear hK14
      refine wp_seq_k (fun K16 hK16 => ?_)
      refine region ?_
      refine RS.move (v := .int _ _) rfl ?_
      refine RS.move (v := .int _ _) rfl ?_
      refine RS.o (D.sub rfl rfl (W.i64 (by omega))) ?_
      refine RS.ob (D.shr_u64 rfl rfl (by omega) (by constructor <;> omega)) (fun z17 => ?_)
      refine RS.ob (D.band_u64 rfl rfl (by omega) (by omega)) (fun z18 => ?_)
      refine RS.o (D.eq rfl rfl) ?_
      refine RS.nil ?_
      refine hK16 _ _ ?_
      try clear hK16
      refine C.ife rfl (fun c19 => ?_) (fun c19 => ?_)
      · refine region ?_
        refine RS.o (D.load rfl Tryd.underlying22 rfl (B3.cell rfl)) ?_
        refine RS.move (v := .int _ _) rfl ?_
        refine RS.buildSlice (xs := [.tmp 20, .tmp 21]) (vs := [.int _ _, .int _ _]) (cs := [.int _ _, .int _ _]) Tryd.underlying157 T22 (by decide) rfl rfl rfl rfl rfl rfl (by intro v hv; simp only [List.mem_cons, List.not_mem_nil, or_false] at hv; rcases hv with rfl | rfl <;> rfl) rfl (fun b20 w20 e20 s20 x20 B20 => ?_)
        refine RS.norm (by dsimp only [List.set]) ?_
        replace hE := Ext.tr hE x20
        replace x8 := x8.ext x20
        replace B3 := B3.ext x20
        have zw20 := x20.size
        refine RS.call E103 (group_mul (S0 := fun b => b = b20) _ _ 2 _ [r * r % 1000000007, a] (by omega) _ (.of_blk B20 rfl rfl rfl (.cons (k := .u32) (by simp only [lim]; omega) (.cons (k := .u32) (by simp only [lim]; omega) (.nil _)))) (by omega)) rfl (fun v21 w21 x21 A21 => ?_)
        replace hE := Ext.tr hE x21
        replace x8 := x8.ext x21
        replace B3 := B3.ext x21
        replace B20 := B20.ext x21
        have zw21 := x21.size
        subst A21
        rw [S.mulf_two]
        refine RS.norm (by dsimp only [List.set]) ?_
        refine RS.store rfl (v := .int _ _) rfl C22 rfl B3 rfl (fun w22 y22 N22 => ?_)
        replace hE := hE.trans (y22.below (by intros; try (first | (intro _ _) | (intro _) | skip); first | omega | (dsimp only at *; omega) | (simp_all; done) | (simp at *; omega)))
        replace x8 := x8.stn y22 (by intros; try (first | (intro _ _) | (intro _) | skip); first | omega | (dsimp only at *; omega) | (simp_all; done) | (simp at *; omega))
        replace B20 := B20.st y22 (by intros; try (first | (intro _ _) | (intro _) | skip); first | omega | (dsimp only at *; omega) | (simp_all; done) | (simp at *; omega))
        have zw22 := y22.size
        replace B3 := N22
        refine RS.nil ?_
        refine hK12 _ _ ?_
        try clear hK12
        refine region ?_
        refine RS.o (D.add rfl rfl (W.i64 (by omega))) ?_
        refine RS.move (v := .int _ _) rfl ?_
        refine RS.nil ?_
        change Nx _ _ _ _ _ _ _ _
        refine C.next (_, r * r % 1000000007 * a % 1000000007) ⟨rfl, trivial⟩ (by kernel_rfl) ?_ ?_
        · refine ⟨x8, B3, ⟨by dsimp only; omega, by dsimp only; omega⟩, gl _, ?_⟩
          dsimp only
          rw [show (i + 1).toNat = i.toNat + 1 by omega, ← S.pw_step_one a n 1000000007 i.toNat hn.1 (by omega) (S.bit_one n i hn.1 (by omega) (by assumption)), ← h3]
        · dsimp only; omega
      · refine wp_skip ?_
        refine hK12 _ _ ?_
        try clear hK12
        refine region ?_
        refine RS.o (D.add rfl rfl (W.i64 (by omega))) ?_
        refine RS.move (v := .int _ _) rfl ?_
        refine RS.nil ?_
        change Nx _ _ _ _ _ _ _ _
        refine C.next (_, r * r % 1000000007) ⟨rfl, trivial⟩ (by kernel_rfl) ?_ ?_
        · refine ⟨x8, B3, ⟨by dsimp only; omega, by dsimp only; omega⟩, gl _, ?_⟩
          dsimp only
          rw [show (i + 1).toNat = i.toNat + 1 by omega, ← S.pw_step_zero a n 1000000007 i.toNat hn.1 (by omega) (S.bit_zero n i hn.1 (by omega) (by assumption)), ← h3]
        · dsimp only; omega
    · refine wp_exit ?_
      refine hK6 _ _ ?_
      try clear hK6
      refine wp_seq_k (fun K23 hK23 => ?_)
      refine region ?_
      refine RS.o (D.load rfl Tryd.underlying22 rfl (B3.cell rfl)) ?_
      refine RS.assign (v := .int _ _) rfl ?_
      refine RS.nil ?_
      refine hK23 _ _ ?_
      try clear hK23
      refine wp_ret ?_
      refine ret (rs := [.tmp 4]) (vs := [.int _ _]) (v := (.int _ _)) rfl ⟨rfl, trivial⟩ rfl ?_
      refine ⟨_, rfl, hE, ?_⟩
      have h0 : i.toNat = 64 := by omega
      rw [h3, h0, S.hi64_all]

theorem group_Is (a : Int) (ha : 0 ≤ a ∧ a < 4294967296) (w : World) :
    Calls Tryd.prog 59 #[.int .u32 a] w (Ret w fun v _ => v = .bool (S.isG a)) := by
  have hE := Ext.refl w
  refine enter (args := [.int .u32 a]) (l := [.int .u32 a, undef, undef, undef, undef, undef, undef, undef, undef, undef, undef, undef, undef, undef]) Tryd.func59 rfl rfl ?_
  refine wp_seq_k (fun K1 hK1 => ?_)
  refine region ?_
  refine RS.assign (v := .bool false) rfl ?_
  refine RS.nil ?_
  refine hK1 _ _ ?_
  try clear hK1
  refine wp_seq_k (fun K2 hK2 => ?_)
  refine region ?_
  refine RS.move (v := .int _ _) rfl ?_
  refine RS.o (D.gt rfl rfl) ?_
  refine RS.move (v := .bool _) rfl ?_
  refine RS.splitd 5 rfl rfl (fun c3 => ?_) (fun c3 => ?_)
  · refine RS.norm (by dsimp only [List.set]) ?_
    refine RS.wantB 5 rfl rfl rfl ?_
    refine RS.move (v := .int _ _) rfl ?_
    refine RS.wantB 5 rfl rfl rfl ?_
    refine RS.o (D.lt rfl rfl) ?_
    refine RS.pick (v := .bool _) rfl rfl ?_
    refine RS.move (v := .bool _) rfl ?_
    refine RS.splitd 9 rfl rfl (fun c4 => ?_) (fun c4 => ?_)
    · refine RS.norm (by dsimp only [List.set]) ?_
      refine RS.wantB 9 rfl rfl rfl ?_
      refine RS.move (v := .int _ _) rfl ?_
      refine RS.wantB 9 rfl rfl rfl ?_
      refine RS.call E96 (group_pow _ _ (by omega) (by omega) _) rfl (fun v5 w5 x5 A5 => ?_)
      replace hE := Ext.tr hE x5
      have zw5 := x5.size
      subst A5
      refine RS.norm (by dsimp only [List.set]) ?_
      refine RS.wantB 9 rfl rfl rfl ?_
      refine RS.o (D.eq rfl rfl) ?_
      refine RS.pick (v := .bool _) rfl rfl ?_
      refine RS.assign (v := .bool _) rfl ?_
      refine RS.nil ?_
      refine hK2 _ _ ?_
      try clear hK2
      refine wp_ret ?_
      refine ret (rs := [.tmp 2]) (vs := [.bool _]) (v := (.bool _)) rfl ⟨rfl, trivial⟩ rfl ?_
      refine ⟨_, rfl, hE, congrArg Value.bool ?_⟩
      first | exact (S.isG_true (by omega) (by omega)).symm | exact (S.isG_lo (by omega)).symm | exact (S.isG_hi (by omega)).symm
    · refine RS.norm (by dsimp only [List.set]) ?_
      refine RS.skipB (b := false) 9 rfl rfl rfl rfl ?_
      refine RS.norm (by dsimp only [putL, List.set]) ?_
      refine RS.skipB (b := false) 9 rfl rfl rfl rfl ?_
      refine RS.norm (by dsimp only [putL, List.set]) ?_
      refine RS.skipB (b := false) 9 rfl rfl rfl rfl ?_
      refine RS.norm (by dsimp only [putL, List.set]) ?_
      refine RS.pick (v := .bool false) rfl rfl ?_
      refine RS.assign (v := .bool _) rfl ?_
      refine RS.nil ?_
      refine hK2 _ _ ?_
      try clear hK2
      refine wp_ret ?_
      refine ret (rs := [.tmp 2]) (vs := [.bool _]) (v := (.bool _)) rfl ⟨rfl, trivial⟩ rfl ?_
      refine ⟨_, rfl, hE, congrArg Value.bool ?_⟩
      first | exact (S.isG_true (by omega) (by omega)).symm | exact (S.isG_lo (by omega)).symm | exact (S.isG_hi (by omega)).symm
  · refine RS.norm (by dsimp only [List.set]) ?_
    refine RS.skipB (b := false) 5 rfl rfl rfl rfl ?_
    refine RS.norm (by dsimp only [putL, List.set]) ?_
    refine RS.skipB (b := false) 5 rfl rfl rfl rfl ?_
    refine RS.norm (by dsimp only [putL, List.set]) ?_
    refine RS.pick (v := .bool false) rfl rfl ?_
    refine RS.move (v := .bool _) rfl ?_
    refine RS.skipB (b := false) 9 rfl rfl rfl rfl ?_
    refine RS.norm (by dsimp only [putL, List.set]) ?_
    refine RS.skipB (b := false) 9 rfl rfl rfl rfl ?_
    refine RS.norm (by dsimp only [putL, List.set]) ?_
    refine RS.skipB (b := false) 9 rfl rfl rfl rfl ?_
    refine RS.norm (by dsimp only [putL, List.set]) ?_
    refine RS.pick (v := .bool false) rfl rfl ?_
    refine RS.assign (v := .bool _) rfl ?_
    refine RS.nil ?_
    refine hK2 _ _ ?_
    try clear hK2
    refine wp_ret ?_
    refine ret (rs := [.tmp 2]) (vs := [.bool _]) (v := (.bool _)) rfl ⟨rfl, trivial⟩ rfl ?_
    refine ⟨_, rfl, hE, congrArg Value.bool ?_⟩
    first | exact (S.isG_true (by omega) (by omega)).symm | exact (S.isG_lo (by omega)).symm | exact (S.isG_hi (by omega)).symm

theorem ref_Is (a : Int) (ha : 0 ≤ a ∧ a < 4294967296) (w : World) :
    Calls Tryd.prog 61 #[.int .u32 a] w (Ret w fun v _ => v = .bool (S.isG a)) := by
  have hE := Ext.refl w
  refine enter (args := [.int .u32 a]) (l := [.int .u32 a, undef, undef, undef, undef, undef, undef, undef, undef, undef, undef, undef, undef, undef, undef]) Tryd.func61 rfl rfl ?_
  refine wp_seq_k (fun K1 hK1 => ?_)
  refine region ?_
  refine RS.assign (v := .bool false) rfl ?_
  refine RS.nil ?_
  refine hK1 _ _ ?_
  try clear hK1
  refine wp_seq_k (fun K2 hK2 => ?_)
  refine region ?_
  refine RS.move (v := .int _ _) rfl ?_
  refine RS.o (D.ge rfl rfl) ?_
  refine RS.move (v := .bool _) rfl ?_
  refine RS.splitd 5 rfl rfl (fun c3 => ?_) (fun c3 => ?_)
  · refine RS.norm (by dsimp only [List.set]) ?_
    refine RS.wantB 5 rfl rfl rfl ?_
    refine RS.move (v := .int _ _) rfl ?_
    refine RS.wantB 5 rfl rfl rfl ?_
    refine RS.o (D.lt rfl rfl) ?_
    refine RS.pick (v := .bool _) rfl rfl ?_
    refine RS.move (v := .bool _) rfl ?_
    refine RS.splitd 9 rfl rfl (fun c4 => ?_) (fun c4 => ?_)
    · refine RS.norm (by dsimp only [List.set]) ?_
      refine RS.wantB 9 rfl rfl rfl ?_
      refine RS.move (v := .int _ _) rfl ?_
      refine RS.wantB 9 rfl rfl rfl ?_
      refine RS.o (D.conv rfl Tryd.underlying22 Tryd.underlying24 (by first | exact W.u64 (by omega) | exact W.u64m _)) ?_
      refine RS.wantB 9 rfl rfl rfl ?_
      refine RS.call E98 (ref_power _ _ _ (by omega) (by omega) (by omega) _) rfl (fun v5 w5 x5 A5 => ?_)
      replace hE := Ext.tr hE x5
      have zw5 := x5.size
      subst A5
      refine RS.norm (by dsimp only [List.set]) ?_
      refine RS.wantB 9 rfl rfl rfl ?_
      refine RS.o (D.eq rfl rfl) ?_
      refine RS.pick (v := .bool _) rfl rfl ?_
      refine RS.assign (v := .bool _) rfl ?_
      refine RS.nil ?_
      refine hK2 _ _ ?_
      try clear hK2
      refine wp_ret ?_
      refine ret (rs := [.tmp 2]) (vs := [.bool _]) (v := (.bool _)) rfl ⟨rfl, trivial⟩ rfl ?_
      refine ⟨_, rfl, hE, congrArg Value.bool ?_⟩
      first | exact (S.isG_true (by omega) (by omega)).symm | exact (S.isG_lo (by omega)).symm | exact (S.isG_hi (by omega)).symm
    · refine RS.norm (by dsimp only [List.set]) ?_
      refine RS.skipB (b := false) 9 rfl rfl rfl rfl ?_
      refine RS.norm (by dsimp only [putL, List.set]) ?_
      refine RS.skipB (b := false) 9 rfl rfl rfl rfl ?_
      refine RS.norm (by dsimp only [putL, List.set]) ?_
      refine RS.skipB (b := false) 9 rfl rfl rfl rfl ?_
      refine RS.norm (by dsimp only [putL, List.set]) ?_
      refine RS.skipB (b := false) 9 rfl rfl rfl rfl ?_
      refine RS.norm (by dsimp only [putL, List.set]) ?_
      refine RS.pick (v := .bool false) rfl rfl ?_
      refine RS.assign (v := .bool _) rfl ?_
      refine RS.nil ?_
      refine hK2 _ _ ?_
      try clear hK2
      refine wp_ret ?_
      refine ret (rs := [.tmp 2]) (vs := [.bool _]) (v := (.bool _)) rfl ⟨rfl, trivial⟩ rfl ?_
      refine ⟨_, rfl, hE, congrArg Value.bool ?_⟩
      first | exact (S.isG_true (by omega) (by omega)).symm | exact (S.isG_lo (by omega)).symm | exact (S.isG_hi (by omega)).symm
  · refine RS.norm (by dsimp only [List.set]) ?_
    refine RS.skipB (b := false) 5 rfl rfl rfl rfl ?_
    refine RS.norm (by dsimp only [putL, List.set]) ?_
    refine RS.skipB (b := false) 5 rfl rfl rfl rfl ?_
    refine RS.norm (by dsimp only [putL, List.set]) ?_
    refine RS.pick (v := .bool false) rfl rfl ?_
    refine RS.move (v := .bool _) rfl ?_
    refine RS.skipB (b := false) 9 rfl rfl rfl rfl ?_
    refine RS.norm (by dsimp only [putL, List.set]) ?_
    refine RS.skipB (b := false) 9 rfl rfl rfl rfl ?_
    refine RS.norm (by dsimp only [putL, List.set]) ?_
    refine RS.skipB (b := false) 9 rfl rfl rfl rfl ?_
    refine RS.norm (by dsimp only [putL, List.set]) ?_
    refine RS.skipB (b := false) 9 rfl rfl rfl rfl ?_
    refine RS.norm (by dsimp only [putL, List.set]) ?_
    refine RS.pick (v := .bool false) rfl rfl ?_
    refine RS.assign (v := .bool _) rfl ?_
    refine RS.nil ?_
    refine hK2 _ _ ?_
    try clear hK2
    refine wp_ret ?_
    refine ret (rs := [.tmp 2]) (vs := [.bool _]) (v := (.bool _)) rfl ⟨rfl, trivial⟩ rfl ?_
    refine ⟨_, rfl, hE, congrArg Value.bool ?_⟩
    first | exact (S.isG_true (by omega) (by omega)).symm | exact (S.isG_lo (by omega)).symm | exact (S.isG_hi (by omega)).symm

theorem ref_Exponent (a : Int) (ha : 0 ≤ a ∧ a < 4294967296) (w : World) :
    Calls Tryd.prog 62 #[.int .u32 a] w (Ret w fun v _ => v = .bool (decide (a < 500000003))) := by
  have hE := Ext.refl w
  refine enter (args := [.int .u32 a]) (l := [.int .u32 a, undef, undef, undef, undef, undef]) Tryd.func62 rfl rfl ?_
  refine wp_seq_k (fun K1 hK1 => ?_)
  refine region ?_
  refine RS.assign (v := .bool false) rfl ?_
  refine RS.nil ?_
  refine hK1 _ _ ?_
  try clear hK1
  refine wp_seq_k (fun K2 hK2 => ?_)
  refine region ?_
  refine RS.move (v := .int _ _) rfl ?_
  refine RS.o (D.conv rfl Tryd.underlying22 Tryd.underlying24 (W.u64 (by omega))) ?_
  refine RS.o (D.lt rfl rfl) ?_
  refine RS.assign (v := .bool _) rfl ?_
  refine RS.nil ?_
  refine hK2 _ _ ?_
  try clear hK2
  refine wp_ret ?_
  refine ret (rs := [.tmp 2]) (vs := [.bool _]) (v := (.bool _)) rfl ⟨rfl, trivial⟩ rfl ?_
  exact ⟨_, rfl, hE, rfl⟩

theorem group_all {S0 : Nat → Prop} (a : Option Addr) (n c : Nat) (xs : List Int) (w : World) (R0 : IRow .u32 S0 w a n xs) (hn : n ≤ 1000) :
    Calls Tryd.prog 102 #[.slice a n c] w (Ret w fun v _ => v = .bool (S.allG xs)) := by
  have hE := Ext.refl w
  refine enter (args := [.slice a n c]) (l := [.slice a n c, undef, undef, undef, undef, undef, undef, undef, undef, undef, undef, undef, undef, undef, undef]) Tryd.func102 rfl rfl ?_
  refine wp_seq_k (fun K1 hK1 => ?_)
  refine region ?_
  refine RS.assign (v := .bool false) rfl ?_
  refine RS.nil ?_
  refine hK1 _ _ ?_
  try clear hK1
  refine wp_seq_k (fun K2 hK2 => ?_)
  refine wp_seq_k (fun K3 hK3 => ?_)
  refine region ?_
  refine RS.move (v := .slice _ _ _) rfl ?_
  refine RS.o (D.len rfl Tryd.underlying157) ?_
  refine RS.move (v := .int .i64 0) rfl ?_
  refine RS.nil ?_
  refine hK3 _ _ ?_
  try clear hK3
  refine wp_block ?_
  refine C.loop (A := Int) (fun p => [(7, .int .i64 p)]) [2, 4, 8, 9, 10, 11, 12, 13, 14] (fun p w' => Ext w w' ∧ ((0 ≤ p ∧ p ≤ n) ∧ S.allG (xs.take p.toNat) = true)) (fun p => (n - p.toNat)) 0 (by kernel_rfl) ?_ ?_
  · exact ⟨Ext.refl _, ⟨by decide, by omega⟩, rfl⟩
  · rintro p j w4 ⟨x4, hI⟩
    replace hE := Ext.tr hE x4
    replace R0 := R0.ext x4
    have zw4 := x4.size
    obtain ⟨h1, h2⟩ := hI
    have hl := R0.len
    refine C.norm (by simp only [upd, junk, List.map_cons, List.map_nil, List.set_cons_succ, List.set_cons_zero]; exact rfl) ?_
    refine wp_seq_k (fun K5 hK5 => ?_)
    refine region ?_
    refine RS.o (D.lt rfl rfl) ?_
    refine RS.nil ?_
    refine hK5 _ _ ?_
    try clear hK5
    refine wp_seq_k (fun K6 hK6 => ?_)
    refine C.ifd rfl (fun c7 => ?_) (fun c7 => ?_)
    · refine wp_skip ?_
      refine hK6 _ _ ?_
      try clear hK6
      refine wp_seq_k (fun K8 hK8 => ?_)
      refine wp_block ?_
      refine wp_seq_k (fun K9 hK9 => ?_)
      refine region ?_
      refine RS.idx R0 rfl rfl Tryd.underlying157 C22 (by omega) (fun b10 o10 v10 h10 q10 r10 => ?_)
      refine RS.norm (by dsimp only [List.set]) ?_
      simp only [lim] at r10
      refine RS.o (D.load rfl Tryd.underlying22 rfl (h10)) ?_
      refine RS.assign (v := .int _ _) rfl ?_
      refine RS.nil ?_
      refine hK9 _ _ ?_
      try clear hK9
      refine wp_seq_k (fun K11 hK11 => ?_)
      refine region ?_
      refine RS.move (v := .int _ _) rfl ?_
      refine RS.call E59 (group_Is _ (by omega) _) rfl (fun v12 w12 x12 A12 => ?_)
      replace hE := Ext.tr hE x12
      replace x4 := Ext.tr x4 x12
      replace R0 := R0.ext x12
      have zw12 := x12.size
      subst A12
      refine RS.norm (by dsimp only [List.set]) ?_
      refine RS.o (D.not rfl) ?_
      refine RS.nil ?_
      refine hK11 _ _ ?_
      try clear hK11
      refine C.ifnot rfl (fun c13 => ?_) (fun c13 => ?_)
      · refine wp_seq_k (fun K14 hK14 => ?_)
        refine region ?_
        refine RS.assign (v := .bool false) rfl ?_
        refine RS.nil ?_
        refine hK14 _ _ ?_
        try clear hK14
        refine wp_ret ?_
        refine ret (rs := [.tmp 2]) (vs := [.bool _]) (v := (.bool _)) rfl ⟨rfl, trivial⟩ rfl ?_
        refine ⟨_, rfl, hE, congrArg Value.bool ?_⟩
        exact (S.allG_false xs p.toNat (by omega) (by rw [← q10]; assumption)).symm
      · refine wp_skip ?_
        refine hK8 _ _ ?_
        try clear hK8
        refine region ?_
        refine RS.o (D.add rfl rfl (W.i64 (by omega))) ?_
        refine RS.move (v := .int _ _) rfl ?_
        refine RS.nil ?_
        change Nx _ _ _ _ _ _ _ _
        refine C.next _ ⟨rfl, trivial⟩ (by kernel_rfl) ?_ ?_
        · refine ⟨x4, ⟨by omega, by omega⟩, ?_⟩
          rw [show (p + 1).toNat = p.toNat + 1 by omega, S.allG_take xs _ (by omega) h2, ← q10]
          assumption
        · omega
    · refine wp_exit ?_
      refine hK2 _ _ ?_
      try clear hK2
      refine wp_seq_k (fun K15 hK15 => ?_)
      refine region ?_
      refine RS.assign (v := .bool true) rfl ?_
      refine RS.nil ?_
      refine hK15 _ _ ?_
      try clear hK15
      refine wp_ret ?_
      refine ret (rs := [.tmp 2]) (vs := [.bool _]) (v := (.bool _)) rfl ⟨rfl, trivial⟩ rfl ?_
      refine ⟨_, rfl, hE, congrArg Value.bool ?_⟩
      rw [show p.toNat = xs.length by omega, List.take_length] at h2
      exact h2.symm

theorem group_Base (n : Int) (hn : 0 ≤ n ∧ n < 18446744073709551616) (w : World) :
    Calls Tryd.prog 66 #[.int .u64 n] w (Ret w fun v _ => v = .int .u32 (S.pw 4 n 1000000007)) := by
  have hE := Ext.refl w
  refine enter (args := [.int .u64 n]) (l := [.int .u64 n, undef, undef, undef, undef]) Tryd.func66 rfl rfl ?_
  refine wp_seq_k (fun K1 hK1 => ?_)
  refine region ?_
  refine RS.assign (v := .int .u32 0) rfl ?_
  refine RS.nil ?_
  refine hK1 _ _ ?_
  try clear hK1
  refine wp_seq_k (fun K2 hK2 => ?_)
  refine region ?_
  refine RS.move (v := .int _ _) rfl ?_
  refine RS.call E96 (group_pow _ _ (by omega) (by omega) _) rfl (fun v3 w3 x3 A3 => ?_)
  replace hE := Ext.tr hE x3
  have zw3 := x3.size
  subst A3
  refine RS.norm (by dsimp only [List.set]) ?_
  refine RS.assign (v := .int _ _) rfl ?_
  refine RS.nil ?_
  refine hK2 _ _ ?_
  try clear hK2
  refine wp_ret ?_
  refine ret (rs := [.tmp 2]) (vs := [.int _ _]) (v := (.int _ _)) rfl ⟨rfl, trivial⟩ rfl ?_
  exact ⟨_, rfl, hE, rfl⟩

theorem group_Pow (a : Int) (ha : 0 ≤ a ∧ a < 4294967296) (n : Int) (hn : 0 ≤ n ∧ n < 18446744073709551616) (w : World) :
    Calls Tryd.prog 67 #[.int .u32 a, .int .u64 n] w (Ret w fun v _ => v = .tuple #[.int .u32 (if S.isG a then S.pw a n 1000000007 else 0), .int .i64 (if S.isG a then 0 else 2)]) := by
  have hE := Ext.refl w
  refine enter (args := [.int .u32 a, .int .u64 n]) (l := [.int .u32 a, .int .u64 n, undef, undef, undef, undef, undef, undef, undef, undef, undef, undef, undef]) Tryd.func67 rfl rfl ?_
  refine wp_seq_k (fun K1 hK1 => ?_)
  refine region ?_
  refine RS.assign (v := .int .u32 0) rfl ?_
  refine RS.assign (v := .int .i64 0) rfl ?_
  refine RS.nil ?_
  refine hK1 _ _ ?_
  try clear hK1
  refine wp_seq_k (fun K2 hK2 => ?_)
  refine wp_seq_k (fun K3 hK3 => ?_)
  refine region ?_
  refine RS.move (v := .int _ _) rfl ?_
  refine RS.buildSlice (xs := [.tmp 6]) (vs := [.int _ _]) (cs := [.int _ _]) Tryd.underlying157 T22 (by decide) rfl rfl rfl rfl rfl rfl (by intro v hv; simp only [List.mem_cons, List.not_mem_nil, or_false] at hv; subst hv; rfl) rfl (fun b4 w4 e4 s4 x4 B4 => ?_)
  refine RS.norm (by dsimp only [List.set]) ?_
  replace hE := Ext.tr hE x4
  have zw4 := x4.size
  refine RS.call E102 (group_all (S0 := fun b => b = b4) _ 1 _ [a] _ (.of_blk B4 rfl rfl rfl (.cons (k := .u32) (by simp only [lim]; omega) (.nil _))) (by omega)) rfl (fun v5 w5 x5 A5 => ?_)
  replace hE := Ext.tr hE x5
  replace B4 := B4.ext x5
  have zw5 := x5.size
  subst A5
  rw [S.allG_one]
  refine RS.norm (by dsimp only [List.set]) ?_
  refine RS.o (D.not rfl) ?_
  refine RS.nil ?_
  refine hK3 _ _ ?_
  try clear hK3
  refine C.ifnot rfl (fun c6 => ?_) (fun c6 => ?_)
  · refine wp_seq_k (fun K7 hK7 => ?_)
    refine region ?_
    refine RS.assign (v := .int .u32 0) rfl ?_
    refine RS.assign (v := .int .i64 2) rfl ?_
    refine RS.nil ?_
    refine hK7 _ _ ?_
    try clear hK7
    refine wp_ret ?_
    refine ret (rs := [.tmp 4, .tmp 5]) (vs := [.int _ _, .int _ _]) (v := (.tuple #[.int _ _, .int _ _])) rfl ⟨rfl, rfl, trivial⟩ rfl ?_
    refine ⟨_, rfl, hE, ?_⟩
    simp [*]
  · refine wp_skip ?_
    refine hK2 _ _ ?_
    try clear hK2
    refine wp_seq_k (fun K8 hK8 => ?_)
    refine region ?_
    refine RS.move (v := .int _ _) rfl ?_
    refine RS.move (v := .int _ _) rfl ?_
    refine RS.call E96 (group_pow _ _ (by omega) (by omega) _) rfl (fun v9 w9 x9 A9 => ?_)
    replace hE := Ext.tr hE x9
    replace B4 := B4.ext x9
    have zw9 := x9.size
    subst A9
    refine RS.norm (by dsimp only [List.set]) ?_
    refine RS.assign (v := .int _ _) rfl ?_
    refine RS.assign (v := .int .i64 0) rfl ?_
    refine RS.nil ?_
    refine hK8 _ _ ?_
    try clear hK8
    refine wp_ret ?_
    refine ret (rs := [.tmp 4, .tmp 5]) (vs := [.int _ _, .int _ _]) (v := (.tuple #[.int _ _, .int _ _])) rfl ⟨rfl, rfl, trivial⟩ rfl ?_
    refine ⟨_, rfl, hE, ?_⟩
    simp [*]

theorem group_Mul (a : Int) (ha : 0 ≤ a ∧ a < 4294967296) (b : Int) (hb : 0 ≤ b ∧ b < 4294967296) (w : World) :
    Calls Tryd.prog 68 #[.int .u32 a, .int .u32 b] w (Ret w fun v _ => v = .tuple #[.int .u32 (if S.isG a && S.isG b then a * b % 1000000007 else 0), .int .i64 (if S.isG a && S.isG b then 0 else 2)]) := by
  have hE := Ext.refl w
  refine enter (args := [.int .u32 a, .int .u32 b]) (l := [.int .u32 a, .int .u32 b, undef, undef, undef, undef, undef, undef, undef, undef, undef, undef, undef, undef, undef]) Tryd.func68 rfl rfl ?_
  refine wp_seq_k (fun K1 hK1 => ?_)
  refine region ?_
  refine RS.assign (v := .int .u32 0) rfl ?_
  refine RS.assign (v := .int .i64 0) rfl ?_
  refine RS.nil ?_
  refine hK1 _ _ ?_
  try clear hK1
  refine wp_seq_k (fun K2 hK2 => ?_)
  refine wp_seq_k (fun K3 hK3 => ?_)
  refine region ?_
  refine RS.move (v := .int _ _) rfl ?_
  refine RS.move (v := .int _ _) rfl ?_
  refine RS.buildSlice (xs := [.tmp 6, .tmp 7]) (vs := [.int _ _, .int _ _]) (cs := [.int _ _, .int _ _]) Tryd.underlying157 T22 (by decide) rfl rfl rfl rfl rfl rfl (by intro v hv; simp only [List.mem_cons, List.not_mem_nil, or_false] at hv; rcases hv with rfl | rfl <;> rfl) rfl (fun b4 w4 e4 s4 x4 B4 => ?_)
  refine RS.norm (by dsimp only [List.set]) ?_
  replace hE := Ext.tr hE x4
  have zw4 := x4.size
  refine RS.call E102 (group_all (S0 := fun b => b = b4) _ 2 _ [a, b] _ (.of_blk B4 rfl rfl rfl (.cons (k := .u32) (by simp only [lim]; omega) (.cons (k := .u32) (by simp only [lim]; omega) (.nil _)))) (by omega)) rfl (fun v5 w5 x5 A5 => ?_)
  replace hE := Ext.tr hE x5
  replace B4 := B4.ext x5
  have zw5 := x5.size
  subst A5
  rw [S.allG_two]
  refine RS.norm (by dsimp only [List.set]) ?_
  refine RS.o (D.not rfl) ?_
  refine RS.nil ?_
  refine hK3 _ _ ?_
  try clear hK3
  refine C.ifnot rfl (fun c6 => ?_) (fun c6 => ?_)
  · refine wp_seq_k (fun K7 hK7 => ?_)
    refine region ?_
    refine RS.assign (v := .int .u32 0) rfl ?_
    refine RS.assign (v := .int .i64 2) rfl ?_
    refine RS.nil ?_
    refine hK7 _ _ ?_
    try clear hK7
    refine wp_ret ?_
    refine ret (rs := [.tmp 4, .tmp 5]) (vs := [.int _ _, .int _ _]) (v := (.tuple #[.int _ _, .int _ _])) rfl ⟨rfl, rfl, trivial⟩ rfl ?_
    refine ⟨_, rfl, hE, ?_⟩
    simp [*]
  · refine wp_skip ?_
    refine hK2 _ _ ?_
    try clear hK2
    refine wp_seq_k (fun K8 hK8 => ?_)
    refine region ?_
    refine RS.move (v := .int _ _) rfl ?_
    refine RS.move (v := .int _ _) rfl ?_
    refine RS.buildSlice (xs := [.tmp 11, .tmp 12]) (vs := [.int _ _, .int _ _]) (cs := [.int _ _, .int _ _]) Tryd.underlying157 T22 (by decide) rfl rfl rfl rfl rfl rfl (by intro v hv; simp only [List.mem_cons, List.not_mem_nil, or_false] at hv; rcases hv with rfl | rfl <;> rfl) rfl (fun b9 w9 e9 s9 x9 B9 => ?_)
    refine RS.norm (by dsimp only [List.set]) ?_
    replace hE := Ext.tr hE x9
    replace B4 := B4.ext x9
    have zw9 := x9.size
    refine RS.call E103 (group_mul (S0 := fun b => b = b9) _ _ 2 _ [a, b] (by omega) _ (.of_blk B9 rfl rfl rfl (.cons (k := .u32) (by simp only [lim]; omega) (.cons (k := .u32) (by simp only [lim]; omega) (.nil _)))) (by omega)) rfl (fun v10 w10 x10 A10 => ?_)
    replace hE := Ext.tr hE x10
    replace B4 := B4.ext x10
    replace B9 := B9.ext x10
    have zw10 := x10.size
    subst A10
    rw [S.mulf_two]
    refine RS.norm (by dsimp only [List.set]) ?_
    refine RS.assign (v := .int _ _) rfl ?_
    refine RS.assign (v := .int .i64 0) rfl ?_
    refine RS.nil ?_
    refine hK8 _ _ ?_
    try clear hK8
    refine wp_ret ?_
    refine ret (rs := [.tmp 4, .tmp 5]) (vs := [.int _ _, .int _ _]) (v := (.tuple #[.int _ _, .int _ _])) rfl ⟨rfl, rfl, trivial⟩ rfl ?_
    refine ⟨_, rfl, hE, ?_⟩
    simp [*]

theorem group_Plus (a : Int) (ha : 0 ≤ a ∧ a < 4294967296) (b : Int) (hb : 0 ≤ b ∧ b < 4294967296) (w : World) :
    Calls Tryd.prog 101 #[.int .u32 a, .int .u32 b] w (Ret w fun v _ => v = .tuple #[.int .u32 (if max a b < 500000003 then (a + b) % 500000003 else 0), .int .i64 (if max a b < 500000003 then 0 else 2)]) := by
  have hE := Ext.refl w
  refine enter (args := [.int .u32 a, .int .u32 b]) (l := [.int .u32 a, .int .u32 b, undef, undef, undef, undef, undef, undef, undef, undef, undef, undef, undef, undef]) Tryd.func101 rfl rfl ?_
  refine wp_seq_k (fun K1 hK1 => ?_)
  refine region ?_
  refine RS.assign (v := .int .u32 0) rfl ?_
  refine RS.assign (v := .int .i64 0) rfl ?_
  refine RS.nil ?_
  refine hK1 _ _ ?_
  try clear hK1
  refine wp_seq_k (fun K2 hK2 => ?_)
  refine wp_seq_k (fun K3 hK3 => ?_)
  refine region ?_
  refine RS.move (v := .int _ _) rfl ?_
  refine RS.move (v := .int _ _) rfl ?_
  refine RS.o (D.max2 rfl rfl) ?_
  refine RS.o (D.ge rfl rfl) ?_
  refine RS.nil ?_
  refine hK3 _ _ ?_
  try clear hK3
  refine C.ifd rfl (fun c4 => ?_) (fun c4 => ?_)
  · refine wp_seq_k (fun K5 hK5 => ?_)
    refine region ?_
    refine RS.assign (v := .int .u32 0) rfl ?_
    refine RS.assign (v := .int .i64 2) rfl ?_
    refine RS.nil ?_
    refine hK5 _ _ ?_
    try clear hK5
    refine wp_ret ?_
    refine ret (rs := [.tmp 4, .tmp 5]) (vs := [.int _ _, .int _ _]) (v := (.tuple #[.int _ _, .int _ _])) rfl ⟨rfl, rfl, trivial⟩ rfl ?_
    refine ⟨_, rfl, hE, ?_⟩
    first | rw [if_pos (by omega), if_pos (by omega)] | rw [if_neg (by omega), if_neg (by omega)]
  · refine wp_skip ?_
    refine hK2 _ _ ?_
    try clear hK2
    refine wp_seq_k (fun K6 hK6 => ?_)
    refine region ?_
    refine RS.move (v := .int _ _) rfl ?_
    refine RS.move (v := .int _ _) rfl ?_
    refine RS.o (D.add rfl rfl (W.u32 (by omega))) ?_
    refine RS.o (D.rem rfl rfl (by omega) (by omega)) ?_
    refine RS.assign (v := .int _ _) rfl ?_
    refine RS.assign (v := .int .i64 0) rfl ?_
    refine RS.nil ?_
    refine hK6 _ _ ?_
    try clear hK6
    refine wp_ret ?_
    refine ret (rs := [.tmp 4, .tmp 5]) (vs := [.int _ _, .int _ _]) (v := (.tuple #[.int _ _, .int _ _])) rfl ⟨rfl, rfl, trivial⟩ rfl ?_
    refine ⟨_, rfl, hE, ?_⟩
    first | rw [if_pos (by omega), if_pos (by omega)] | rw [if_neg (by omega), if_neg (by omega)]

theorem group_Times (a : Int) (ha : 0 ≤ a ∧ a < 4294967296) (b : Int) (hb : 0 ≤ b ∧ b < 4294967296) (w : World) :
    Calls Tryd.prog 100 #[.int .u32 a, .int .u32 b] w (Ret w fun v _ => v = .tuple #[.int .u32 (if max a b < 500000003 then a * b % 500000003 else 0), .int .i64 (if max a b < 500000003 then 0 else 2)]) := by
  have hE := Ext.refl w
  refine enter (args := [.int .u32 a, .int .u32 b]) (l := [.int .u32 a, .int .u32 b, undef, undef, undef, undef, undef, undef, undef, undef, undef, undef, undef, undef]) Tryd.func100 rfl rfl ?_
  refine wp_seq_k (fun K1 hK1 => ?_)
  refine region ?_
  refine RS.assign (v := .int .u32 0) rfl ?_
  refine RS.assign (v := .int .i64 0) rfl ?_
  refine RS.nil ?_
  refine hK1 _ _ ?_
  try clear hK1
  refine wp_seq_k (fun K2 hK2 => ?_)
  refine wp_seq_k (fun K3 hK3 => ?_)
  refine region ?_
  refine RS.move (v := .int _ _) rfl ?_
  refine RS.move (v := .int _ _) rfl ?_
  refine RS.o (D.max2 rfl rfl) ?_
  refine RS.o (D.ge rfl rfl) ?_
  refine RS.nil ?_
  refine hK3 _ _ ?_
  try clear hK3
  refine C.ifd rfl (fun c4 => ?_) (fun c4 => ?_)
  · refine wp_seq_k (fun K5 hK5 => ?_)
    refine region ?_
    refine RS.assign (v := .int .u32 0) rfl ?_
    refine RS.assign (v := .int .i64 2) rfl ?_
    refine RS.nil ?_
    refine hK5 _ _ ?_
    try clear hK5
    refine wp_ret ?_
    refine ret (rs := [.tmp 4, .tmp 5]) (vs := [.int _ _, .int _ _]) (v := (.tuple #[.int _ _, .int _ _])) rfl ⟨rfl, rfl, trivial⟩ rfl ?_
    refine ⟨_, rfl, hE, ?_⟩
    first | rw [if_pos (by omega), if_pos (by omega)] | rw [if_neg (by omega), if_neg (by omega)]
  · refine wp_skip ?_
    refine hK2 _ _ ?_
    try clear hK2
    refine wp_seq_k (fun K6 hK6 => ?_)
    refine region ?_
    refine RS.move (v := .int _ _) rfl ?_
    refine RS.move (v := .int _ _) rfl ?_
    refine RS.buildSlice (xs := [.tmp 10, .tmp 11]) (vs := [.int _ _, .int _ _]) (cs := [.int _ _, .int _ _]) Tryd.underlying157 T22 (by decide) rfl rfl rfl rfl rfl rfl (by intro v hv; simp only [List.mem_cons, List.not_mem_nil, or_false] at hv; rcases hv with rfl | rfl <;> rfl) rfl (fun b7 w7 e7 s7 x7 B7 => ?_)
    refine RS.norm (by dsimp only [List.set]) ?_
    replace hE := Ext.tr hE x7
    have zw7 := x7.size
    refine RS.call E103 (group_mul (S0 := fun b => b = b7) _ _ 2 _ [a, b] (by omega) _ (.of_blk B7 rfl rfl rfl (.cons (k := .u32) (by simp only [lim]; omega) (.cons (k := .u32) (by simp only [lim]; omega) (.nil _)))) (by omega)) rfl (fun v8 w8 x8 A8 => ?_)
    replace hE := Ext.tr hE x8
    replace B7 := B7.ext x8
    have zw8 := x8.size
    subst A8
    rw [S.mulf_two]
    refine RS.norm (by dsimp only [List.set]) ?_
    refine RS.assign (v := .int _ _) rfl ?_
    refine RS.assign (v := .int .i64 0) rfl ?_
    refine RS.nil ?_
    refine hK6 _ _ ?_
    try clear hK6
    refine wp_ret ?_
    refine ret (rs := [.tmp 4, .tmp 5]) (vs := [.int _ _, .int _ _]) (v := (.tuple #[.int _ _, .int _ _])) rfl ⟨rfl, rfl, trivial⟩ rfl ?_
    refine ⟨_, rfl, hE, ?_⟩
    first | rw [if_pos (by omega), if_pos (by omega)] | rw [if_neg (by omega), if_neg (by omega)]

end Go.Proofs.YtiohpiiiapjblaaDoor.W
