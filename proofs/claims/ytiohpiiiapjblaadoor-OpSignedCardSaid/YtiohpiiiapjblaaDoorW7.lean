/-
  W7: walks of functions, printed by gen.py from the annotations ann7.py.
-/
import Derived.Test.YtiohpiiiapjblaaDoorW6

namespace Go.Proofs.YtiohpiiiapjblaaDoor.W
open Go.RowKit Go.Proofs.YtiohpiiiapjblaaDoor.G
set_option linter.unusedVariables false
set_option maxRecDepth 20000
set_option maxHeartbeats 8000000
attribute [local irreducible] RS RX

theorem E117 : Enters Tryd.prog 117 := .mk Tryd.func117 (by kernel_rfl) rfl
theorem E118 : Enters Tryd.prog 118 := .mk Tryd.func118 (by kernel_rfl) rfl
theorem E119 : Enters Tryd.prog 119 := .mk Tryd.func119 (by kernel_rfl) rfl
theorem E120 : Enters Tryd.prog 120 := .mk Tryd.func120 (by kernel_rfl) rfl
theorem E131 : Enters Tryd.prog 131 := .mk Tryd.func131 (by kernel_rfl) rfl
theorem blocks {S0 : Nat → Prop} (h : List Int) (a : Option Addr) (n c : Nat) (bs : List Int) (w : World) (H : Arr .u32 8 h) (R0 : IRow .u8 S0 w a n bs) (hn : n ≤ 1000000) (hc : n ≤ c) :
    Calls Tryd.prog 118 #[.agg (ints .u32 h).toArray, .slice a n c] w (Ret w fun v _ => v = .agg (ints .u32 (S.blocksS h bs)).toArray) := by
  replace R0 := R0.weaken (T := fun k => k < w.heap.size) (fun k hk _ => hk)
  have hl0 := R0.len
  have hE := Ext.refl w
  refine enter (args := [.agg (ints .u32 h).toArray, .slice a n c]) (l := [.agg (ints .u32 h).toArray, .slice a n c, undef, undef, undef, undef, undef, undef, undef, undef, undef, undef, undef, undef, undef, undef, undef, undef, undef, undef, undef]) Tryd.func118 rfl rfl ?_
  refine wp_seq_k (fun K1 hK1 => ?_)
  refine region ?_
  refine RS.box rfl rfl (fun b2 w2 e2 s2 x2 B2 => ?_)
  refine RS.norm (by dsimp only [List.set]) ?_
  replace hE := Ext.tr hE x2
  replace R0 := R0.ext x2
  have zw2 := x2.size
  have A2 := IArr.ofA (n := 8) B2 H
  clear B2
  refine RS.alloc T143 (fun b3 w3 e3 s3 x3 B3 => ?_)
  refine RS.norm (by dsimp only [List.set]) ?_
  replace hE := Ext.tr hE x3
  replace R0 := R0.ext x3
  replace A2 := A2.ext x3
  have zw3 := x3.size
  have A3 : IArr .u32 w3 b3 8 (List.replicate 8 0) [] 143 := IArr.zero B3
  clear B3
  refine RS.nil ?_
  refine hK1 _ _ ?_
  try clear hK1
  refine wp_seq_k (fun K4 hK4 => ?_)
  refine wp_seq_k (fun K5 hK5 => ?_)
  refine region ?_
  refine RS.assign (v := .int .i64 0) rfl ?_
  refine RS.nil ?_
  refine hK5 _ _ ?_
  try clear hK5
  refine wp_block ?_
  refine C.loop (A := Int × List Int) (fun p => [(5, .int .i64 p.1)]) [6, 7, 8, 9, 10, 11, 12, 13, 14, 15, 16, 17, 18, 19] (fun p w' => Pr (fun k => k = b2) w3 w' ∧ (IArr .u32 w' b2 8 p.2 [] 143 ∧ (0 ≤ p.1 ∧ p.1 ≤ n) ∧ S.blocksS p.2 (bs.drop p.1.toNat) = S.blocksS h bs)) (fun p => (n - p.1.toNat)) (0, h) (by kernel_rfl) ?_ ?_
  · exact ⟨Pr.refl _ _, A2, ⟨by dsimp only; omega, by dsimp only; omega⟩, rfl⟩
  · rintro p j w6 ⟨x6, hI⟩
    replace hE := hE.trans (x6.below (by intros; try (first | (intro _ _) | (intro _) | skip); first | omega | (dsimp only at *; omega) | (simp_all; done) | (simp at *; omega)) (by intros; try (first | (intro _ _) | (intro _) | skip); first | omega | (dsimp only at *; omega) | (simp_all; done) | (simp at *; omega)))
    replace R0 := R0.pr x6 (by intros; try (first | (intro _ _) | (intro _) | skip); first | omega | (dsimp only at *; omega) | (simp_all; done) | (simp at *; omega))
    replace A3 := A3.pr x6 (by intros; try (first | (intro _ _) | (intro _) | skip); first | omega | (dsimp only at *; omega) | (simp_all; done) | (simp at *; omega))
    have zw6 := x6.size
    obtain ⟨at_, hh⟩ := p
    dsimp only at hI
    obtain ⟨A2, h1, h2⟩ := hI
    refine C.norm (by simp only [upd, junk, List.map_cons, List.map_nil, List.set_cons_succ, List.set_cons_zero]; exact rfl) ?_
    refine wp_seq_k (fun K7 hK7 => ?_)
    refine wp_seq_k (fun K8 hK8 => ?_)
    refine region ?_
    refine RS.move (v := .int _ _) rfl ?_
    refine RS.o (D.add rfl rfl (W.i64 (by omega))) ?_
    refine RS.move (v := .slice _ _ _) rfl ?_
    refine RS.o (D.len rfl Tryd.underlying35) ?_
    refine RS.o (D.le rfl rfl) ?_
    refine RS.nil ?_
    refine hK8 _ _ ?_
    try clear hK8
    refine C.ifd rfl (fun c9 => ?_) (fun c9 => ?_)
    · refine wp_skip ?_
      refine hK7 _ _ ?_
      try clear hK7
      refine wp_seq_k (fun K10 hK10 => ?_)
      refine wp_block ?_
      refine regionX Ext [(0, .q), (1, .q), (2, .q), (3, .q), (4, .q), (5, .q), (6, .e), (7, .g)] mixed Ext.refl (fun h k => h.tr k) (by kernel_rfl) (fun w11 x11 => ?_)
      replace hE := Ext.tr hE x11
      replace x6 := x6.ext x11
      replace R0 := R0.ext x11
      replace A2 := A2.ext x11
      replace A3 := A3.ext x11
      have zw11 := x11.size
      refine RX.o (fun w' hw => D.loadAgg rfl Tryd.underlying143 rfl C143 (by decide) (by rw [ints_length, A2.len]) (A2.ext hw).cells) ?_
      refine RX.move (v := .slice _ _ _) rfl ?_
      refine RX.move (v := .int _ _) rfl ?_
      refine RX.move (v := .int _ _) rfl ?_
      refine RX.o (fun w' hw => D.add rfl rfl (W.i64 (by omega))) ?_
      refine RX.o (fun w' hw => D.slice (kl := .i64) (kh := .i64) rfl Tryd.underlying35 C5 (by decide) rfl rfl (by omega) (by omega)) ?_
      refine RX.eff ?_
      refine RS.call E131 (ground _ _ _ _ _ _ A2.arr (R0.sub at_.toNat (at_ + 64).toNat c (by omega) (by omega) (by omega)) (by omega) (by omega)) rfl (fun v12 w12 x12 A12 => ?_)
      replace hE := Ext.tr hE x12
      replace x6 := x6.ext x12
      replace R0 := R0.ext x12
      replace A2 := A2.ext x12
      replace A3 := A3.ext x12
      have zw12 := x12.size
      subst A12
      have hg := S.grind_arr hh (bs.drop at_.toNat)
      have eg : S.grind hh ((bs.drop at_.toNat).take ((at_ + 64).toNat - at_.toNat)) = S.grind hh (bs.drop at_.toNat) := by rw [show (at_ + 64).toNat - at_.toNat = 64 by omega, S.grind_take _ _ (by rw [List.length_drop]; omega)]
      rw [eg]
      refine RS.norm (by dsimp only [List.set]) ?_
      refine RS.nil ⟨x12, ?_⟩
      refine RX.big ?_
      refine RS.storeArr A2 rfl rfl C143 (by decide) hg.1 hg.2 (fun w13 y13 N13 => ?_)
      replace hE := hE.trans (y13.below (by intros; try (first | (intro _ _) | (intro _) | skip); first | omega | (dsimp only at *; omega) | (simp_all; done) | (simp at *; omega)))
      replace x6 := x6.stn y13 (by intros; try (first | (intro _ _) | (intro _) | skip); first | omega | (dsimp only at *; omega) | (simp_all; done) | (simp at *; omega))
      replace R0 := R0.st y13 (by intros; try (first | (intro _ _) | (intro _) | skip); first | omega | (dsimp only at *; omega) | (simp_all; done) | (simp at *; omega))
      replace A3 := A3.st y13 (by intros; try (first | (intro _ _) | (intro _) | skip); first | omega | (dsimp only at *; omega) | (simp_all; done) | (simp at *; omega))
      have zw13 := y13.size
      replace A2 := N13
      refine RS.nil ?_
      refine RX.nil ?_
      refine hK10 _ _ ?_
      try clear hK10
      refine region ?_
      refine RS.move (v := .int _ _) rfl ?_
      refine RS.o (D.add rfl rfl (W.i64 (by omega))) ?_
      refine RS.assign (v := .int _ _) rfl ?_
      refine RS.nil ?_
      change Nx _ _ _ _ _ _ _ _
      refine C.next (at_ + 64, S.grind hh (bs.drop at_.toNat)) ⟨rfl, trivial⟩ (by kernel_rfl) ?_ ?_
      · refine ⟨x6, A2, ⟨by dsimp only; omega, by dsimp only; omega⟩, ?_⟩
        dsimp only
        rw [← S.blocks_ge _ _ (by rw [List.length_drop]; omega), List.drop_drop] at h2
        rw [show (at_ + 64).toNat = at_.toNat + 64 by omega]
        exact h2
      · dsimp only; omega
    · have hlt := c9
      rw [S.blocks_lt _ _ (by rw [List.length_drop]; omega)] at h2
      refine wp_exit ?_
      refine hK4 _ _ ?_
      try clear hK4
      refine wp_seq_k (fun K14 hK14 => ?_)
      have harr := A2.arr
      refine region ?_
      refine RS.o (D.loadAgg rfl Tryd.underlying143 rfl C143 (by decide) (by rw [ints_length, A2.len]) A2.cells) ?_
      refine RS.storeArr A3 rfl rfl C143 (by decide) (by first | assumption | exact And.left (by assumption) | exact IArr.len (by assumption)) (by first | assumption | exact And.right (by assumption) | exact IArr.bd (by assumption)) (fun w15 y15 N15 => ?_)
      replace hE := hE.trans (y15.below (by intros; try (first | (intro _ _) | (intro _) | skip); first | omega | (dsimp only at *; omega) | (simp_all; done) | (simp at *; omega)))
      replace R0 := R0.st y15 (by intros; try (first | (intro _ _) | (intro _) | skip); first | omega | (dsimp only at *; omega) | (simp_all; done) | (simp at *; omega))
      replace A2 := A2.st y15 (by intros; try (first | (intro _ _) | (intro _) | skip); first | omega | (dsimp only at *; omega) | (simp_all; done) | (simp at *; omega))
      have zw15 := y15.size
      replace A3 := N15
      refine RS.nil ?_
      refine hK14 _ _ ?_
      try clear hK14
      refine wp_ret ?_
      refine ret (rs := [.cell 4 143]) (vs := [.agg _]) (v := (.agg _)) rfl ⟨⟨_, rfl, loadVar_agg Tryd.underlying143 rfl C143 (by decide) (by rw [ints_length, A3.len]) A3.cells⟩, trivial⟩ rfl ?_
      rw [← h2]
      exact ⟨_, rfl, hE, rfl⟩

theorem of {S0 : Nat → Prop} (a : Option Addr) (n c : Nat) (bs : List Int) (w : World) (R0 : IRow .u8 S0 w a n bs) (hn : n ≤ 200000) (hc : n ≤ c) :
    Calls Tryd.prog 87 #[.slice a n c] w (Ret w fun v _ => v = .agg (ints .u8 (S.sha bs)).toArray) := by
  replace R0 := R0.weaken (T := fun k => k < w.heap.size) (fun k hk _ => hk)
  have hl0 := R0.len
  have hE := Ext.refl w
  refine enter (args := [.slice a n c]) (l := [.slice a n c, undef, undef, undef, undef, undef, undef, undef, undef, undef, undef, undef, undef]) Tryd.func87 rfl rfl ?_
  refine wp_seq_k (fun K1 hK1 => ?_)
  refine region ?_
  refine RS.alloc T42 (fun b2 w2 e2 s2 x2 B2 => ?_)
  refine RS.norm (by dsimp only [List.set]) ?_
  replace hE := Ext.tr hE x2
  replace R0 := R0.ext x2
  have zw2 := x2.size
  have A2 : IArr .u8 w2 b2 32 (List.replicate 32 0) [] 42 := IArr.zero B2
  clear B2
  refine RS.nil ?_
  refine hK1 _ _ ?_
  try clear hK1
  refine wp_seq_k (fun K3 hK3 => ?_)
  refine region ?_
  refine RS.call E119 (first _) rfl (fun v4 w4 x4 A4 => ?_)
  replace hE := Ext.tr hE x4
  replace R0 := R0.ext x4
  replace A2 := A2.ext x4
  have zw4 := x4.size
  subst A4
  refine RS.norm (by dsimp only [List.set]) ?_
  refine RS.buildNone Tryd.underlying35 T5 (fun b5 w5 e5 s5 x5 B5 => ?_)
  refine RS.norm (by dsimp only [List.set]) ?_
  replace hE := Ext.tr hE x5
  replace R0 := R0.ext x5
  replace A2 := A2.ext x5
  have zw5 := x5.size
  have O1 : IOwn w4.heap.size w5 5 .u8 (some ⟨b5, 0, none⟩) 0 0 [] := IOwn.of_blk B5 rfl rfl (by omega) (Bd.nil _) (by decide)
  refine RS.move (v := .slice _ _ _) rfl ?_
  refine RS.appendI O1 R0 rfl rfl Tryd.underlying35 T5 rfl (by omega) (by decide) (by omega) (fun a6 c6 w6 N6 x6 => ?_)
  refine RS.norm (by dsimp only [List.set]) ?_
  replace hE := hE.trans (x6.below (by intros; try (first | (intro _ _) | (intro _) | skip); first | omega | (have hq := O1.lo _ (by assumption); first | omega | (dsimp only at *; omega))) (by intros; try (first | (intro _ _) | (intro _) | skip); first | omega | (dsimp only at *; omega) | (simp_all; done) | (simp at *; omega)))
  replace R0 := R0.pr x6 (by intros; try (first | (intro _ _) | (intro _) | skip); first | omega | (have hq := O1.lo _ (by assumption); first | omega | (dsimp only at *; omega)))
  replace A2 := A2.pr x6 (by intros; try (first | (intro _ _) | (intro _) | skip); first | omega | (have hq := O1.lo _ (by assumption); first | omega | (dsimp only at *; omega)))
  have zw6 := x6.size
  replace O1 := N6
  refine RS.move (v := .slice _ _ _) rfl ?_
  refine RS.o (D.len rfl Tryd.underlying35) ?_
  refine RS.call E120 (tail _ (by omega) _) rfl (fun v7 w7 x7 A7 => ?_)
  replace hE := Ext.tr hE x7
  replace R0 := R0.ext x7
  replace A2 := A2.ext x7
  replace O1 := O1.ext x7
  have zw7 := x7.size
  obtain ⟨a7, n7, c7, rfl, O2⟩ := A7
  have hl2 := O2.len
  rw [S.pad_len] at hl2
  refine RS.norm (by dsimp only [List.set]) ?_
  refine RS.appendI O1 O2.row rfl rfl Tryd.underlying35 T5 rfl (by omega) (by decide) (by omega) (fun a8 c8 w8 N8 x8 => ?_)
  refine RS.norm (by dsimp only [List.set]) ?_
  replace hE := hE.trans (x8.below (by intros; try (first | (intro _ _) | (intro _) | skip); first | omega | (have hq := O1.lo _ (by assumption); first | omega | (dsimp only at *; omega))) (by intros; try (first | (intro _ _) | (intro _) | skip); first | omega | (dsimp only at *; omega) | (simp_all; done) | (simp at *; omega)))
  replace R0 := R0.pr x8 (by intros; try (first | (intro _ _) | (intro _) | skip); first | omega | (have hq := O1.lo _ (by assumption); first | omega | (dsimp only at *; omega)))
  replace A2 := A2.pr x8 (by intros; try (first | (intro _ _) | (intro _) | skip); first | omega | (have hq := O1.lo _ (by assumption); first | omega | (dsimp only at *; omega)))
  have zw8 := x8.size
  replace O1 := N8
  refine RS.norm (by dsimp only [List.set]) ?_
  have ho := O1.len
  rw [List.nil_append] at O1
  rw [List.length_append, S.pad_len, List.nil_append] at ho
  have hoc := O1.own.cap
  refine RS.call E118 (blocks _ _ _ _ _ _ S.IV_arr O1.row (by omega) (by omega)) rfl (fun v9 w9 x9 A9 => ?_)
  replace hE := Ext.tr hE x9
  replace R0 := R0.ext x9
  replace A2 := A2.ext x9
  replace O1 := O1.ext x9
  have zw9 := x9.size
  subst A9
  have hb := S.blocks_arr S.IV (bs ++ S.padS n) S.IV_arr
  refine RS.norm (by dsimp only [List.set]) ?_
  refine RS.call E117 (written _ hb _) rfl (fun v10 w10 x10 A10 => ?_)
  replace hE := Ext.tr hE x10
  replace R0 := R0.ext x10
  replace A2 := A2.ext x10
  replace O1 := O1.ext x10
  have zw10 := x10.size
  subst A10
  rw [S.sha_of _ _ (by omega)]
  have hsa := S.sha_arr bs
  refine RS.norm (by dsimp only [List.set]) ?_
  refine RS.storeArr A2 rfl rfl C42 (by decide) (by first | assumption | exact And.left (by assumption) | exact IArr.len (by assumption)) (by first | assumption | exact And.right (by assumption) | exact IArr.bd (by assumption)) (fun w11 y11 N11 => ?_)
  replace hE := hE.trans (y11.below (by intros; try (first | (intro _ _) | (intro _) | skip); first | omega | (dsimp only at *; omega) | (simp_all; done) | (simp at *; omega)))
  replace R0 := R0.st y11 (by intros; try (first | (intro _ _) | (intro _) | skip); first | omega | (dsimp only at *; omega) | (simp_all; done) | (simp at *; omega))
  replace O1 := O1.st y11 (by intros; try (first | (intro _ _) | (intro _) | skip); first | omega | (have hq := O1.own.lo _ (by assumption); first | omega | (dsimp only at *; omega)))
  have zw11 := y11.size
  replace A2 := N11
  refine RS.nil ?_
  refine hK3 _ _ ?_
  try clear hK3
  refine wp_ret ?_
  refine ret (rs := [.cell 2 42]) (vs := [.agg _]) (v := (.agg _)) rfl ⟨⟨_, rfl, loadVar_agg Tryd.underlying42 rfl C42 (by decide) (by rw [ints_length, A2.len]) A2.cells⟩, trivial⟩ rfl ?_
  exact ⟨_, rfl, hE, rfl⟩

end Go.Proofs.YtiohpiiiapjblaaDoor.W
