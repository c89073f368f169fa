/-
  W5: walks of functions, printed by gen.py from the annotations ann5.py.
-/
import Derived.Test.YtiohpiiiapjblaaDoorW4
import Derived.Test.YtiohpiiiapjblaaDoorG14
namespace Go.Proofs.YtiohpiiiapjblaaDoor.W
open Go.RowKit Go.Proofs.YtiohpiiiapjblaaDoor.G
set_option linter.unusedVariables false
set_option maxRecDepth 20000
set_option maxHeartbeats 8000000
attribute [local irreducible] RS RX

theorem E77 : Enters Tryd.prog 77 := .mk Tryd.func77 (by kernel_rfl) rfl
theorem E95 : Enters Tryd.prog 95 := .mk Tryd.func95 (by kernel_rfl) rfl
theorem E109 : Enters Tryd.prog 109 := .mk Tryd.func109 (by kernel_rfl) rfl
theorem E111 : Enters Tryd.prog 111 := .mk Tryd.func111 (by kernel_rfl) rfl
theorem E113 : Enters Tryd.prog 113 := .mk Tryd.func113 (by kernel_rfl) rfl
theorem pieces {S0 : Nat → Prop} (ps : List Pc) (a : Option Addr) (n c : Nat) (TK : TypeId) (w : World) (K0 : Kst w TK) (P0 : PRow .u8 S0 w a n ps) (hn : n ≤ 20) (hx : ∀ p ∈ ps, p.xs.length ≤ 10000) (hT : (cat ps).length ≤ 200000) :
    Calls Tryd.prog 77 #[.slice a n c] w (Ret w fun v _ => v = .tuple #[.agg (ints .u8 (S.sha (cat ps))).toArray, .int .i64 0]) := by
  replace P0 := P0.weaken (T := fun k => k < w.heap.size) (fun k hk _ => hk)
  have hPl := P0.len
  have hKl := K0.lt
  have hE := Ext.refl w
  refine enter (args := [.slice a n c]) (l := [.slice a n c, undef, undef, undef, undef, undef, undef, undef, undef, undef, undef, undef, undef, undef, undef, undef, undef, undef, undef, undef, undef, undef, undef, undef, undef, undef, undef, undef]) Tryd.func77 rfl rfl ?_
  refine wp_seq_k (fun K1 hK1 => ?_)
  refine region ?_
  refine RS.alloc T42 (fun b2 w2 e2 s2 x2 B2 => ?_)
  refine RS.norm (by dsimp only [List.set]) ?_
  replace hE := Ext.tr hE x2
  replace K0 := K0.ext x2
  replace P0 := P0.ext x2
  have zw2 := x2.size
  have A2 : IArr .u8 w2 b2 32 (List.replicate 32 0) [] 42 := IArr.zero B2
  clear B2
  refine RS.assign (v := .int .i64 0) rfl ?_
  refine RS.nil ?_
  refine hK1 _ _ ?_
  try clear hK1
  refine wp_seq_k (fun K3 hK3 => ?_)
  refine wp_seq_k (fun K4 hK4 => ?_)
  refine region ?_
  refine RS.move (v := .slice _ _ _) rfl ?_
  refine RS.o (D.len rfl Tryd.underlying70) ?_
  refine RS.o (D.gt rfl rfl) ?_
  refine RS.move (v := .bool _) rfl ?_
  refine RS.splitd 10 rfl rfl (fun c5 => ?_) (fun c5 => ?_)
  · refine RS.norm (by dsimp only [List.set]) ?_
    exact absurd c5 (by omega)
  · refine RS.norm (by dsimp only [List.set]) ?_
    refine RS.wantB 10 rfl rfl rfl ?_
    refine RS.move (v := .slice _ _ _) rfl ?_
    refine RS.wantB 10 rfl rfl rfl ?_
    refine RS.call E109 (containsP _ _ _ _ _ P0 (by omega) hx) rfl (fun v6 w6 x6 A6 => ?_)
    replace hE := Ext.tr hE x6
    replace K0 := K0.ext x6
    replace P0 := P0.ext x6
    replace A2 := A2.ext x6
    have zw6 := x6.size
    subst A6
    refine RS.norm (by dsimp only [List.set]) ?_
    refine RS.pick (v := .bool _) rfl rfl ?_
    refine RS.nil ?_
    refine hK4 _ _ ?_
    try clear hK4
    refine C.ifb rfl (fun c7 => ?_) (fun c7 => ?_)
    · cases c7
    · refine wp_skip ?_
      refine hK3 _ _ ?_
      try clear hK3
      refine wp_seq_k (fun K8 hK8 => ?_)
      refine region ?_
      refine RS.call E111 (start _) rfl (fun v9 w9 x9 A9 => ?_)
      replace hE := Ext.tr hE x9
      replace K0 := K0.ext x9
      replace P0 := P0.ext x9
      replace A2 := A2.ext x9
      have zw9 := x9.size
      subst A9
      have hIV := S.IV_arr
      refine RS.norm (by dsimp only [List.set]) ?_
      refine RS.alloc T145 (fun b10 w10 e10 s10 x10 B10 => ?_)
      refine RS.norm (by dsimp only [List.set]) ?_
      replace hE := Ext.tr hE x10
      replace K0 := K0.ext x10
      replace P0 := P0.ext x10
      replace A2 := A2.ext x10
      have zw10 := x10.size
      have A10 : IArr .u32 w10 b10 8 (List.replicate 8 0) [.slice none 0 0, .int .i64 0] 145 := ⟨B10, by simp, Bd.zeros _ _⟩
      clear B10
      refine RS.storeRec A10 rfl rfl C145 (by decide) (by assumption) rfl rfl (by intro v hv; simp at hv; rcases hv with rfl | rfl <;> rfl) (fun w11 y11 N11 => ?_)
      replace hE := hE.trans (y11.below (by intros; try (first | (intro _ _) | (intro _) | skip); first | omega | (dsimp only at *; omega) | (simp_all; done) | (simp at *; omega)))
      replace K0 := K0.st y11 (by intros; try (first | (intro _ _) | (intro _) | skip); first | omega | (dsimp only at *; omega) | (simp_all; done) | (simp at *; omega))
      replace P0 := P0.st y11 (by intros; try (first | (intro _ _) | (intro _) | skip); first | omega | (dsimp only at *; omega) | (simp_all; done) | (simp at *; omega))
      replace A2 := A2.st y11 (by intros; try (first | (intro _ _) | (intro _) | skip); first | omega | (dsimp only at *; omega) | (simp_all; done) | (simp at *; omega))
      have zw11 := y11.size
      replace A10 := N11
      refine RS.nil ?_
      refine hK8 _ _ ?_
      try clear hK8
      refine wp_seq_k (fun K12 hK12 => ?_)
      refine wp_seq_k (fun K13 hK13 => ?_)
      refine region ?_
      refine RS.move (v := .slice _ _ _) rfl ?_
      refine RS.o (D.len rfl Tryd.underlying70) ?_
      refine RS.move (v := .int .i64 0) rfl ?_
      refine RS.nil ?_
      refine hK13 _ _ ?_
      try clear hK13
      refine wp_block ?_
      refine C.loop (A := Int × Option Addr × Nat × Nat) (fun p => [(18, .int .i64 p.1)]) [6, 19, 20, 21, 22, 23, 24, 25] (fun p w' => Pr (fun k => k = b10) w11 w' ∧ (IArr .u32 w' b10 8 (S.blocksS S.IV (cat (ps.take p.1.toNat))) [.slice p.2.1 p.2.2.1 p.2.2.2, .int .i64 (cat (ps.take p.1.toNat)).length] 145 ∧ IRow .u8 (fun k => b10 < k) w' p.2.1 p.2.2.1 (S.restS (cat (ps.take p.1.toNat))) ∧ p.2.2.1 ≤ p.2.2.2 ∧ (0 ≤ p.1 ∧ p.1 ≤ n))) (fun p => (n - p.1.toNat)) (0, none, 0, 0) (by kernel_rfl) ?_ ?_
      · have e9 : cat (ps.take (0 : Int).toNat) = [] := by simp [cat]
        refine ⟨Pr.refl _ _, ?_⟩
        dsimp only
        rw [e9, S.blocks_lt _ _ (by decide), S.rest_lt _ (by decide)]
        exact ⟨A10, IRow.nil, by omega, by omega, by omega⟩
      · rintro p j w14 ⟨x14, hI⟩
        replace hE := hE.trans (x14.below (by intros; try (first | (intro _ _) | (intro _) | skip); first | omega | (dsimp only at *; omega) | (simp_all; done) | (simp at *; omega)) (by intros; try (first | (intro _ _) | (intro _) | skip); first | omega | (dsimp only at *; omega) | (simp_all; done) | (simp at *; omega)))
        replace K0 := K0.pr x14 (by intros; try (first | (intro _ _) | (intro _) | skip); first | omega | (dsimp only at *; omega) | (simp_all; done) | (simp at *; omega))
        replace P0 := P0.pr x14 (by intros; try (first | (intro _ _) | (intro _) | skip); first | omega | (dsimp only at *; omega) | (simp_all; done) | (simp at *; omega))
        replace A2 := A2.pr x14 (by intros; try (first | (intro _ _) | (intro _) | skip); first | omega | (dsimp only at *; omega) | (simp_all; done) | (simp at *; omega))
        have zw14 := x14.size
        obtain ⟨i, ar, nr, cr⟩ := p
        dsimp only at hI
        obtain ⟨A10, R1, hc, h1⟩ := hI
        have hh := S.blocks_arr S.IV (cat (ps.take i.toNat)) S.IV_arr
        have hal := A10.lt
        have hrl := R1.len
        have hrl2 := S.rest_le (cat (ps.take i.toNat))
        have hrl3 := cat_le ps i.toNat
        refine C.norm (by simp only [upd, junk, List.map_cons, List.map_nil, List.set_cons_succ, List.set_cons_zero]; exact rfl) ?_
        refine wp_seq_k (fun K15 hK15 => ?_)
        refine region ?_
        refine RS.o (D.lt rfl rfl) ?_
        refine RS.nil ?_
        refine hK15 _ _ ?_
        try clear hK15
        refine wp_seq_k (fun K16 hK16 => ?_)
        refine C.ifd rfl (fun c17 => ?_) (fun c17 => ?_)
        · refine wp_skip ?_
          refine hK16 _ _ ?_
          try clear hK16
          refine wp_seq_k (fun K18 hK18 => ?_)
          refine wp_block ?_
          refine wp_seq_k (fun K19 hK19 => ?_)
          refine region ?_
          refine RS.idxP P0 rfl rfl Tryd.underlying70 C35 (by omega) (fun b20 o20 p20 h20 q20 F20 G20 => ?_)
          refine RS.norm (by dsimp only [List.set]) ?_
          have k1 := cat_snoc ps i.toNat (by omega)
          rw [← q20] at k1
          have k2 := cat_le ps (i.toNat + 1)
          have k3 := congrArg List.length k1
          rw [List.length_append, F20.len] at k3
          refine RS.o (D.load rfl Tryd.underlying35 rfl (h20)) ?_
          refine RS.assign (v := .slice _ _ _) rfl ?_
          refine RS.nil ?_
          refine hK19 _ _ ?_
          try clear hK19
          refine region ?_
          refine RS.o (D.loadAgg rfl Tryd.underlying145 rfl C145 (by decide) (A10.allLen rfl) A10.all) ?_
          refine RS.move (v := .slice _ _ _) rfl ?_
          refine RS.call E112 (feed _ _ _ _ _ _ _ _ _ _ _ _ hh K0 R1 F20 hc G20 (by omega) (by omega)) rfl (fun v21 w21 x21 A21 => ?_)
          replace hE := Ext.tr hE x21
          replace x14 := x14.ext x21
          replace K0 := K0.ext x21
          replace P0 := P0.ext x21
          replace A2 := A2.ext x21
          replace A10 := A10.ext x21
          replace R1 := R1.ext x21
          replace F20 := F20.ext x21
          have zw21 := x21.size
          obtain ⟨a21, n21, c21, rfl, O2⟩ := A21
          rw [← S.blocks_append _ _ _ _ rfl, ← S.rest_append _ _ _ rfl, ← k1] at *
          have hoc := O2.own.cap
          have hfa := S.blocks_arr S.IV (cat (ps.take (i.toNat + 1))) S.IV_arr
          refine RS.norm (by dsimp only [List.set]) ?_
          refine RS.storeRec A10 rfl rfl C145 (by decide) (by assumption) rfl rfl (by intro v hv; simp at hv; rcases hv with rfl | rfl <;> rfl) (fun w22 y22 N22 => ?_)
          replace hE := hE.trans (y22.below (by intros; try (first | (intro _ _) | (intro _) | skip); first | omega | (dsimp only at *; omega) | (simp_all; done) | (simp at *; omega)))
          replace x14 := x14.stn y22 (by intros; try (first | (intro _ _) | (intro _) | skip); first | omega | (dsimp only at *; omega) | (simp_all; done) | (simp at *; omega))
          replace K0 := K0.st y22 (by intros; try (first | (intro _ _) | (intro _) | skip); first | omega | (dsimp only at *; omega) | (simp_all; done) | (simp at *; omega))
          replace P0 := P0.st y22 (by intros; try (first | (intro _ _) | (intro _) | skip); first | omega | (dsimp only at *; omega) | (simp_all; done) | (simp at *; omega))
          replace A2 := A2.st y22 (by intros; try (first | (intro _ _) | (intro _) | skip); first | omega | (dsimp only at *; omega) | (simp_all; done) | (simp at *; omega))
          replace F20 := F20.st y22 (by intros; try (first | (intro _ _) | (intro _) | skip); first | omega | (dsimp only at *; omega) | (simp_all; done) | (simp at *; omega))
          replace O2 := O2.st y22 (by intros; try (first | (intro _ _) | (intro _) | skip); first | omega | (have hq := O2.own.lo _ (by assumption); first | omega | (dsimp only at *; omega)))
          have zw22 := y22.size
          replace A10 := N22
          refine RS.nil ?_
          refine hK18 _ _ ?_
          try clear hK18
          refine region ?_
          refine RS.o (D.add rfl rfl (W.i64 (by omega))) ?_
          refine RS.move (v := .int _ _) rfl ?_
          refine RS.nil ?_
          change Nx _ _ _ _ _ _ _ _
          refine C.next (i + 1, a21, n21, c21) ⟨rfl, trivial⟩ (by kernel_rfl) ?_ ?_
          · have e9 : ((cat (ps.take i.toNat)).length : Int) + (p20.n : Int) = (((cat (ps.take (i.toNat + 1))).length : Nat) : Int) := by omega
            rw [e9] at A10
            rw [show (i + 1).toNat = i.toNat + 1 by omega]
            refine ⟨x14, A10, O2.row.weaken (T := fun k => b10 < k) (fun k _ hk => by omega), by dsimp only; omega, by dsimp only; omega, by dsimp only; omega⟩
          · dsimp only; omega
        · have e0 : ps.take i.toNat = ps := List.take_of_length_le (by omega)
          refine wp_exit ?_
          refine hK12 _ _ ?_
          try clear hK12
          refine wp_seq_k (fun K23 hK23 => ?_)
          refine region ?_
          refine RS.o (D.loadAgg rfl Tryd.underlying145 rfl C145 (by decide) (A10.allLen rfl) A10.all) ?_
          refine RS.call E113 (endd _ _ _ _ _ _ _ _ hh K0 R1 hc (by omega) (by omega)) rfl (fun v24 w24 x24 A24 => ?_)
          replace hE := Ext.tr hE x24
          replace K0 := K0.ext x24
          replace P0 := P0.ext x24
          replace A2 := A2.ext x24
          replace A10 := A10.ext x24
          replace R1 := R1.ext x24
          have zw24 := x24.size
          subst A24
          rw [e0, S.sha_eq _ _ rfl]
          have hsa := S.sha_arr (cat ps)
          refine RS.norm (by dsimp only [List.set]) ?_
          refine RS.storeArr A2 rfl rfl C42 (by decide) (by first | assumption | exact And.left (by assumption) | exact IArr.len (by assumption)) (by first | assumption | exact And.right (by assumption) | exact IArr.bd (by assumption)) (fun w25 y25 N25 => ?_)
          replace hE := hE.trans (y25.below (by intros; try (first | (intro _ _) | (intro _) | skip); first | omega | (dsimp only at *; omega) | (simp_all; done) | (simp at *; omega)))
          replace K0 := K0.st y25 (by intros; try (first | (intro _ _) | (intro _) | skip); first | omega | (dsimp only at *; omega) | (simp_all; done) | (simp at *; omega))
          replace P0 := P0.st y25 (by intros; try (first | (intro _ _) | (intro _) | skip); first | omega | (dsimp only at *; omega) | (simp_all; done) | (simp at *; omega))
          replace A10 := A10.st y25 (by intros; try (first | (intro _ _) | (intro _) | skip); first | omega | (dsimp only at *; omega) | (simp_all; done) | (simp at *; omega))
          replace R1 := R1.st y25 (by intros; try (first | (intro _ _) | (intro _) | skip); first | omega | (dsimp only at *; omega) | (simp_all; done) | (simp at *; omega))
          have zw25 := y25.size
          replace A2 := N25
          refine RS.assign (v := .int .i64 0) rfl ?_
          refine RS.nil ?_
          refine hK23 _ _ ?_
          try clear hK23
          refine wp_ret ?_
          refine ret (rs := [.cell 2 42, .tmp 3]) (vs := [.agg _, .int _ _]) (v := (.tuple #[.agg _, .int _ _])) rfl ⟨⟨_, rfl, loadVar_agg Tryd.underlying42 rfl C42 (by decide) (by rw [ints_length, A2.len]) A2.cells⟩, rfl, trivial⟩ rfl ?_
          exact ⟨_, rfl, hE, rfl⟩

theorem sum {S0 : Nat → Prop} (a : Option Addr) (n c : Nat) (xs : List Int) (TK : TypeId) (w : World) (K0 : Kst w TK) (R0 : IRow .u8 S0 w a n xs) (hc : n ≤ c) (hn : n ≤ 10000) :
    Calls Tryd.prog 36 #[.slice a n c] w (Ret w fun v _ => v = .tuple #[.agg (ints .u8 (S.sha xs)).toArray, .int .i64 0]) := by
  replace R0 := R0.weaken (T := fun k => k < w.heap.size) (fun k hk _ => hk)
  have hKl := K0.lt
  have hl0 := R0.len
  have hE := Ext.refl w
  refine enter (args := [.slice a n c]) (l := [.slice a n c, undef, undef, undef, undef, undef, undef, undef, undef]) Tryd.func36 rfl rfl ?_
  refine wp_seq_k (fun K1 hK1 => ?_)
  refine region ?_
  refine RS.alloc T42 (fun b2 w2 e2 s2 x2 B2 => ?_)
  refine RS.norm (by dsimp only [List.set]) ?_
  replace hE := Ext.tr hE x2
  replace K0 := K0.ext x2
  replace R0 := R0.ext x2
  have zw2 := x2.size
  have A2 : IArr .u8 w2 b2 32 (List.replicate 32 0) [] 42 := IArr.zero B2
  clear B2
  refine RS.assign (v := .int .i64 0) rfl ?_
  refine RS.nil ?_
  refine hK1 _ _ ?_
  try clear hK1
  refine wp_seq_k (fun K3 hK3 => ?_)
  refine region ?_
  refine RS.move (v := .slice _ _ _) rfl ?_
  refine RS.buildSlice (xs := [.tmp 4]) (vs := [.slice _ _ _]) (cs := [.slice _ _ _]) Tryd.underlying70 T35 (by decide) rfl rfl rfl rfl rfl rfl (by intro v hv; simp only [List.mem_cons, List.not_mem_nil, or_false] at hv; subst hv; rfl) rfl (fun b4 w4 e4 s4 x4 B4 => ?_)
  refine RS.norm (by dsimp only [List.set]) ?_
  replace hE := Ext.tr hE x4
  replace K0 := K0.ext x4
  replace R0 := R0.ext x4
  replace A2 := A2.ext x4
  have zw4 := x4.size
  refine RS.call E77 (pieces [⟨a, n, c, xs⟩] _ _ _ _ _ K0 (PRow.of_blkE B4 rfl rfl ⟨⟨_, R0, hc⟩, trivial⟩) (show (1 : Nat) ≤ 20 by decide) (by intro p hp; obtain rfl := List.mem_singleton.1 hp; dsimp only; omega) (by simp [cat]; omega)) rfl (fun v5 w5 x5 A5 => ?_)
  replace hE := Ext.tr hE x5
  replace K0 := K0.ext x5
  replace R0 := R0.ext x5
  replace A2 := A2.ext x5
  replace B4 := B4.ext x5
  have zw5 := x5.size
  subst A5
  have ecat : cat [⟨a, n, c, xs⟩] = xs := by simp [cat]
  rw [ecat]
  have hsa := S.sha_arr xs
  refine RS.norm (by dsimp only [List.set]) ?_
  refine RS.extract (v := .agg _) rfl rfl ?_
  refine RS.extract (v := .int _ _) rfl rfl ?_
  refine RS.storeArr A2 rfl rfl C42 (by decide) (by first | assumption | exact And.left (by assumption) | exact IArr.len (by assumption)) (by first | assumption | exact And.right (by assumption) | exact IArr.bd (by assumption)) (fun w6 y6 N6 => ?_)
  replace hE := hE.trans (y6.below (by intros; try (first | (intro _ _) | (intro _) | skip); first | omega | (dsimp only at *; omega) | (simp_all; done) | (simp at *; omega)))
  replace K0 := K0.st y6 (by intros; try (first | (intro _ _) | (intro _) | skip); first | omega | (dsimp only at *; omega) | (simp_all; done) | (simp at *; omega))
  replace R0 := R0.st y6 (by intros; try (first | (intro _ _) | (intro _) | skip); first | omega | (dsimp only at *; omega) | (simp_all; done) | (simp at *; omega))
  replace B4 := B4.st y6 (by intros; try (first | (intro _ _) | (intro _) | skip); first | omega | (dsimp only at *; omega) | (simp_all; done) | (simp at *; omega))
  have zw6 := y6.size
  replace A2 := N6
  refine RS.assign (v := .int _ _) rfl ?_
  refine RS.nil ?_
  refine hK3 _ _ ?_
  try clear hK3
  refine wp_ret ?_
  refine ret (rs := [.cell 2 42, .tmp 3]) (vs := [.agg _, .int _ _]) (v := (.tuple #[.agg _, .int _ _])) rfl ⟨⟨_, rfl, loadVar_agg Tryd.underlying42 rfl C42 (by decide) (by rw [ints_length, A2.len]) A2.cells⟩, rfl, trivial⟩ rfl ?_
  exact ⟨_, rfl, hE, rfl⟩

theorem bcompare {S0 S1 : Nat → Prop} (a : Option Addr) (n c : Nat) (xs : List Int) (a2 : Option Addr) (n2 c2 : Nat) (ys : List Int) (w : World) (R0 : IRow .u8 S0 w a n xs) (R1 : IRow .u8 S1 w a2 n2 ys) :
    Calls Tryd.prog 95 #[.slice a n c, .slice a2 n2 c2] w (Ret w fun v _ => v = .int .i64 (S.cmpS xs ys)) := by
  have hE := Ext.refl w
  refine enter (args := [.slice a n c, .slice a2 n2 c2]) (l := [.slice a n c, .slice a2 n2 c2, undef, undef, undef, undef, undef, undef]) Tryd.func95 rfl rfl ?_
  refine wp_seq_k (fun K1 hK1 => ?_)
  refine region ?_
  refine RS.assign (v := .int .i64 0) rfl ?_
  refine RS.nil ?_
  refine hK1 _ _ ?_
  try clear hK1
  refine wp_seq_k (fun K2 hK2 => ?_)
  refine region ?_
  refine RS.move (v := .slice _ _ _) rfl ?_
  refine RS.move (v := .slice _ _ _) rfl ?_
  refine RS.o (D.ext (av := [_, _]) Tryd.func125 (by kernel_rfl) (by kernel_rfl) (by kernel_rfl) (by kernel_rfl) rfl (S.cmp_run R0 R1)) ?_
  refine RS.assign (v := .int _ _) rfl ?_
  refine RS.nil ?_
  refine hK2 _ _ ?_
  try clear hK2
  refine wp_ret ?_
  refine ret (rs := [.tmp 4]) (vs := [.int _ _]) (v := (.int _ _)) rfl ⟨rfl, trivial⟩ rfl ?_
  exact ⟨_, rfl, hE, rfl⟩

theorem dcmp (xs ys : List Int) (hx : Arr .u8 32 xs) (hy : Arr .u8 32 ys) (w : World) :
    Calls Tryd.prog 56 #[.agg (ints .u8 xs).toArray, .agg (ints .u8 ys).toArray] w (Ret w fun v _ => v = .int .i64 (S.cmpS xs ys)) := by
  have hE := Ext.refl w
  refine enter (args := [.agg (ints .u8 xs).toArray, .agg (ints .u8 ys).toArray]) (l := [.agg (ints .u8 xs).toArray, .agg (ints .u8 ys).toArray, undef, undef, undef, undef, undef, undef]) Tryd.func56 rfl rfl ?_
  refine wp_seq_k (fun K1 hK1 => ?_)
  refine region ?_
  refine RS.box rfl rfl (fun b2 w2 e2 s2 x2 B2 => ?_)
  refine RS.norm (by dsimp only [List.set]) ?_
  replace hE := Ext.tr hE x2
  have zw2 := x2.size
  have A2 := IArr.ofA (n := 32) B2 hx
  clear B2
  refine RS.box rfl rfl (fun b3 w3 e3 s3 x3 B3 => ?_)
  refine RS.norm (by dsimp only [List.set]) ?_
  replace hE := Ext.tr hE x3
  replace A2 := A2.ext x3
  have zw3 := x3.size
  have A3 := IArr.ofA (n := 32) B3 hy
  clear B3
  refine RS.assign (v := .int .i64 0) rfl ?_
  refine RS.nil ?_
  refine hK1 _ _ ?_
  try clear hK1
  refine wp_seq_k (fun K4 hK4 => ?_)
  refine regionX Ext [(0, .q), (1, .q), (2, .e), (3, .q)] mixed Ext.refl (fun h k => h.tr k) (by kernel_rfl) (fun w5 x5 => ?_)
  replace hE := Ext.tr hE x5
  replace A2 := A2.ext x5
  replace A3 := A3.ext x5
  have zw5 := x5.size
  refine RX.o (fun w' hw => D.sliceArr (kl := .i64) (kh := .i64) rfl Tryd.underlying42 C5 rfl rfl (by omega)) ?_
  refine RX.o (fun w' hw => D.sliceArr (kl := .i64) (kh := .i64) rfl Tryd.underlying42 C5 rfl rfl (by omega)) ?_
  refine RX.eff ?_
  refine RS.call E95 (bcompare _ _ _ _ _ _ _ _ _ (A2.row (S := fun _ => True) trivial) (A3.row (S := fun _ => True) trivial)) rfl (fun v6 w6 x6 A6 => ?_)
  replace hE := Ext.tr hE x6
  replace A2 := A2.ext x6
  replace A3 := A3.ext x6
  have zw6 := x6.size
  subst A6
  refine RS.norm (by dsimp only [List.set]) ?_
  refine RS.nil ⟨x6, ?_⟩
  refine RX.assign (v := .int _ _) rfl ?_
  refine RX.nil ?_
  refine hK4 _ _ ?_
  try clear hK4
  refine wp_ret ?_
  refine ret (rs := [.tmp 4]) (vs := [.int _ _]) (v := (.int _ _)) rfl ⟨rfl, trivial⟩ rfl ?_
  exact ⟨_, rfl, hE, rfl⟩

theorem rcmp (xs ys : List Int) (hx : Arr .u8 32 xs) (hy : Arr .u8 32 ys) (w : World) :
    Calls Tryd.prog 97 #[.agg (ints .u8 xs).toArray, .agg (ints .u8 ys).toArray] w (Ret w fun v _ => v = .int .i64 (S.cmpS xs ys)) := by
  have hl1 := hx.1
  have hl2 := hy.1
  have hE := Ext.refl w
  refine enter (args := [.agg (ints .u8 xs).toArray, .agg (ints .u8 ys).toArray]) (l := [.agg (ints .u8 xs).toArray, .agg (ints .u8 ys).toArray, undef, undef, undef, undef, undef, undef, undef, undef, undef, undef, undef, undef, undef, undef, undef, undef, undef, undef, undef, undef, undef, undef]) Tryd.func97 rfl rfl ?_
  refine wp_seq_k (fun K1 hK1 => ?_)
  refine region ?_
  refine RS.box rfl rfl (fun b2 w2 e2 s2 x2 B2 => ?_)
  refine RS.norm (by dsimp only [List.set]) ?_
  replace hE := Ext.tr hE x2
  have zw2 := x2.size
  have A2 := IArr.ofA (n := 32) B2 hx
  clear B2
  refine RS.box rfl rfl (fun b3 w3 e3 s3 x3 B3 => ?_)
  refine RS.norm (by dsimp only [List.set]) ?_
  replace hE := Ext.tr hE x3
  replace A2 := A2.ext x3
  have zw3 := x3.size
  have A3 := IArr.ofA (n := 32) B3 hy
  clear B3
  refine RS.assign (v := .int .i64 0) rfl ?_
  refine RS.nil ?_
  refine hK1 _ _ ?_
  try clear hK1
  refine wp_seq_k (fun K4 hK4 => ?_)
  refine wp_seq_k (fun K5 hK5 => ?_)
  refine region ?_
  refine RS.assign (v := .int .i64 0) rfl ?_
  refine RS.nil ?_
  refine hK5 _ _ ?_
  try clear hK5
  refine wp_block ?_
  refine C.loop (A := Int) (fun p => [(5, .int .i64 p)]) [4, 6, 7, 8, 9, 10, 11, 12, 13, 14, 15, 16, 17, 18, 19, 20, 21, 22, 23] (fun p w' => Ext w3 w' ∧ ((0 ≤ p ∧ p ≤ 32) ∧ S.cmpS (xs.drop p.toNat) (ys.drop p.toNat) = S.cmpS xs ys)) (fun p => (32 - p.toNat)) 0 (by kernel_rfl) ?_ ?_
  · exact ⟨Ext.refl _, ⟨by omega, by omega⟩, rfl⟩
  · rintro p j w6 ⟨x6, hI⟩
    replace hE := Ext.tr hE x6
    replace A2 := A2.ext x6
    replace A3 := A3.ext x6
    have zw6 := x6.size
    obtain ⟨h1, h2⟩ := hI
    refine C.norm (by simp only [upd, junk, List.map_cons, List.map_nil, List.set_cons_succ, List.set_cons_zero]; exact rfl) ?_
    refine wp_seq_k (fun K7 hK7 => ?_)
    refine wp_seq_k (fun K8 hK8 => ?_)
    refine region ?_
    refine RS.move (v := .int _ _) rfl ?_
    refine RS.o (D.lt rfl rfl) ?_
    refine RS.nil ?_
    refine hK8 _ _ ?_
    try clear hK8
    refine C.ifd rfl (fun c9 => ?_) (fun c9 => ?_)
    · refine wp_skip ?_
      refine hK7 _ _ ?_
      try clear hK7
      refine wp_seq_k (fun K10 hK10 => ?_)
      refine wp_block ?_
      refine wp_seq_k (fun K11 hK11 => ?_)
      refine wp_seq_k (fun K12 hK12 => ?_)
      refine regionX Ext [(0, .q), (1, .q), (2, .q), (3, .q), (4, .q), (5, .q), (6, .q)] mixed Ext.refl (fun h k => h.tr k) (by kernel_rfl) (fun w13 x13 => ?_)
      replace hE := Ext.tr hE x13
      replace x6 := Ext.tr x6 x13
      replace A2 := A2.ext x13
      replace A3 := A3.ext x13
      have zw13 := x13.size
      refine RX.move (v := .int _ _) rfl ?_
      refine RX.idxA (fun _ h => h) A2 rfl rfl Tryd.underlying42 C5 (by omega) (fun v14 h14 q14 r14 => ?_)
      refine RX.norm (by dsimp only [List.set]) ?_
      simp only [lim] at r14
      have q1 := q14
      refine RX.o (fun w' hw => D.load rfl Tryd.underlying5 rfl (h14 w' hw)) ?_
      refine RX.move (v := .int _ _) rfl ?_
      refine RX.idxA (fun _ h => h) A3 rfl rfl Tryd.underlying42 C5 (by omega) (fun v15 h15 q15 r15 => ?_)
      refine RX.norm (by dsimp only [List.set]) ?_
      simp only [lim] at r15
      have q2 := q15
      refine RX.o (fun w' hw => D.load rfl Tryd.underlying5 rfl (h15 w' hw)) ?_
      refine RX.o (fun w' hw => D.lt rfl rfl) ?_
      refine RX.nil ?_
      refine hK12 _ _ ?_
      try clear hK12
      refine C.ifd rfl (fun c16 => ?_) (fun c16 => ?_)
      · refine wp_seq_k (fun K17 hK17 => ?_)
        refine region ?_
        refine RS.assign (v := .int .i64 (-1)) rfl ?_
        refine RS.nil ?_
        refine hK17 _ _ ?_
        try clear hK17
        refine wp_ret ?_
        refine ret (rs := [.tmp 4]) (vs := [.int _ _]) (v := (.int _ _)) rfl ⟨rfl, trivial⟩ rfl ?_
        refine ⟨_, rfl, hE, ?_⟩
        rw [← h2, S.cmpS_step _ _ _ (by omega) (by omega)]
        rw [if_pos (by omega)]
      · refine wp_skip ?_
        refine hK11 _ _ ?_
        try clear hK11
        refine wp_seq_k (fun K18 hK18 => ?_)
        refine regionX Ext [(0, .q), (1, .q), (2, .q), (3, .q), (4, .q), (5, .q), (6, .q)] mixed Ext.refl (fun h k => h.tr k) (by kernel_rfl) (fun w19 x19 => ?_)
        replace hE := Ext.tr hE x19
        replace x6 := Ext.tr x6 x19
        replace A2 := A2.ext x19
        replace A3 := A3.ext x19
        have zw19 := x19.size
        refine RX.move (v := .int _ _) rfl ?_
        refine RX.idxA (fun _ h => h) A2 rfl rfl Tryd.underlying42 C5 (by omega) (fun v20 h20 q20 r20 => ?_)
        refine RX.norm (by dsimp only [List.set]) ?_
        simp only [lim] at r20
        have q3 := q20
        refine RX.o (fun w' hw => D.load rfl Tryd.underlying5 rfl (h20 w' hw)) ?_
        refine RX.move (v := .int _ _) rfl ?_
        refine RX.idxA (fun _ h => h) A3 rfl rfl Tryd.underlying42 C5 (by omega) (fun v21 h21 q21 r21 => ?_)
        refine RX.norm (by dsimp only [List.set]) ?_
        simp only [lim] at r21
        have q4 := q21
        refine RX.o (fun w' hw => D.load rfl Tryd.underlying5 rfl (h21 w' hw)) ?_
        refine RX.o (fun w' hw => D.gt rfl rfl) ?_
        refine RX.nil ?_
        refine hK18 _ _ ?_
        try clear hK18
        refine C.ifd rfl (fun c22 => ?_) (fun c22 => ?_)
        · refine wp_seq_k (fun K23 hK23 => ?_)
          refine region ?_
          refine RS.assign (v := .int .i64 1) rfl ?_
          refine RS.nil ?_
          refine hK23 _ _ ?_
          try clear hK23
          refine wp_ret ?_
          refine ret (rs := [.tmp 4]) (vs := [.int _ _]) (v := (.int _ _)) rfl ⟨rfl, trivial⟩ rfl ?_
          refine ⟨_, rfl, hE, ?_⟩
          rw [← h2, S.cmpS_step _ _ _ (by omega) (by omega)]
          rw [if_neg (by omega), if_pos (by omega)]
        · refine wp_skip ?_
          refine hK10 _ _ ?_
          try clear hK10
          refine region ?_
          refine RS.move (v := .int _ _) rfl ?_
          refine RS.o (D.add rfl rfl (W.i64 (by omega))) ?_
          refine RS.assign (v := .int _ _) rfl ?_
          refine RS.nil ?_
          change Nx _ _ _ _ _ _ _ _
          refine C.next (p + 1) ⟨rfl, trivial⟩ (by kernel_rfl) ?_ ?_
          · refine ⟨x6, ⟨by omega, by omega⟩, ?_⟩
            rw [S.cmpS_step _ _ _ (by omega) (by omega), if_neg (by omega), if_neg (by omega)] at h2
            rw [show (p + 1).toNat = p.toNat + 1 by omega]
            exact h2
          · omega
    · have hlt := c9
      refine wp_exit ?_
      refine hK4 _ _ ?_
      try clear hK4
      refine wp_seq_k (fun K24 hK24 => ?_)
      refine region ?_
      refine RS.assign (v := .int .i64 0) rfl ?_
      refine RS.nil ?_
      refine hK24 _ _ ?_
      try clear hK24
      refine wp_ret ?_
      refine ret (rs := [.tmp 4]) (vs := [.int _ _]) (v := (.int _ _)) rfl ⟨rfl, trivial⟩ rfl ?_
      refine ⟨_, rfl, hE, ?_⟩
      rw [← h2, List.drop_eq_nil_of_le (by omega), List.drop_eq_nil_of_le (by omega)]
      rfl

theorem sameBytes {S0 S1 : Nat → Prop} (a : Option Addr) (n c : Nat) (xs : List Int) (a2 : Option Addr) (n2 c2 : Nat) (ys : List Int) (w : World) (R0 : IRow .u8 S0 w a n xs) (R1 : IRow .u8 S1 w a2 n2 ys) (hn : n ≤ 1000000) (hn2 : n2 ≤ 1000000) :
    Calls Tryd.prog 22 #[.slice a n c, .slice a2 n2 c2] w (Ret w fun v _ => v = .bool (decide (xs = ys))) := by
  have hl0 := R0.len
  have hl1 := R1.len
  have hE := Ext.refl w
  refine enter (args := [.slice a n c, .slice a2 n2 c2]) (l := [.slice a n c, .slice a2 n2 c2, undef, undef, undef, undef, undef, undef, undef, undef, undef, undef, undef, undef, undef, undef, undef, undef, undef, undef, undef, undef, undef, undef, undef, undef]) Tryd.func22 rfl rfl ?_
  refine wp_seq_k (fun K1 hK1 => ?_)
  refine region ?_
  refine RS.assign (v := .bool false) rfl ?_
  refine RS.nil ?_
  refine hK1 _ _ ?_
  try clear hK1
  refine wp_seq_k (fun K2 hK2 => ?_)
  refine wp_seq_k (fun K3 hK3 => ?_)
  refine region ?_
  refine RS.move (v := .slice _ _ _) rfl ?_
  refine RS.o (D.len rfl Tryd.underlying35) ?_
  refine RS.move (v := .slice _ _ _) rfl ?_
  refine RS.o (D.len rfl Tryd.underlying35) ?_
  refine RS.o (D.ne rfl rfl) ?_
  refine RS.nil ?_
  refine hK3 _ _ ?_
  try clear hK3
  refine C.ifn rfl (fun c4 => ?_) (fun c4 => ?_)
  · have hne := c4
    refine wp_seq_k (fun K5 hK5 => ?_)
    refine region ?_
    refine RS.assign (v := .bool false) rfl ?_
    refine RS.nil ?_
    refine hK5 _ _ ?_
    try clear hK5
    refine wp_ret ?_
    refine ret (rs := [.tmp 4]) (vs := [.bool _]) (v := (.bool _)) rfl ⟨rfl, trivial⟩ rfl ?_
    refine ⟨_, rfl, hE, congrArg Value.bool (decide_eq_false ?_).symm⟩
    intro e
    rw [e] at hl0
    omega
  · have hne := c4
    refine wp_skip ?_
    refine hK2 _ _ ?_
    try clear hK2
    refine wp_seq_k (fun K6 hK6 => ?_)
    refine wp_seq_k (fun K7 hK7 => ?_)
    refine region ?_
    refine RS.assign (v := .int .i64 0) rfl ?_
    refine RS.nil ?_
    refine hK7 _ _ ?_
    try clear hK7
    refine wp_block ?_
    refine C.loop (A := Int) (fun p => [(5, .int .i64 p)]) [4, 11, 12, 13, 14, 15, 16, 17, 18, 19, 20, 21, 22, 23, 24, 25] (fun p w' => Ext w w' ∧ ((0 ≤ p ∧ p ≤ n) ∧ xs.take p.toNat = ys.take p.toNat)) (fun p => (n - p.toNat)) 0 (by kernel_rfl) ?_ ?_
    · exact ⟨Ext.refl _, ⟨by omega, by omega⟩, rfl⟩
    · rintro p j w8 ⟨x8, hI⟩
      replace hE := Ext.tr hE x8
      replace R0 := R0.ext x8
      replace R1 := R1.ext x8
      have zw8 := x8.size
      obtain ⟨h1, h2⟩ := hI
      refine C.norm (by simp only [upd, junk, List.map_cons, List.map_nil, List.set_cons_succ, List.set_cons_zero]; exact rfl) ?_
      refine wp_seq_k (fun K9 hK9 => ?_)
      refine wp_seq_k (fun K10 hK10 => ?_)
      refine region ?_
      refine RS.move (v := .int _ _) rfl ?_
      refine RS.move (v := .slice _ _ _) rfl ?_
      refine RS.o (D.len rfl Tryd.underlying35) ?_
      refine RS.o (D.lt rfl rfl) ?_
      refine RS.nil ?_
      refine hK10 _ _ ?_
      try clear hK10
      refine C.ifd rfl (fun c11 => ?_) (fun c11 => ?_)
      · refine wp_skip ?_
        refine hK9 _ _ ?_
        try clear hK9
        refine wp_seq_k (fun K12 hK12 => ?_)
        refine wp_block ?_
        refine wp_seq_k (fun K13 hK13 => ?_)
        refine regionX Ext [(0, .q), (1, .q), (2, .q), (3, .q), (4, .q), (5, .q), (6, .q), (7, .q), (8, .q)] mixed Ext.refl (fun h k => h.tr k) (by kernel_rfl) (fun w14 x14 => ?_)
        replace hE := Ext.tr hE x14
        replace x8 := Ext.tr x8 x14
        replace R0 := R0.ext x14
        replace R1 := R1.ext x14
        have zw14 := x14.size
        refine RX.move (v := .slice _ _ _) rfl ?_
        refine RX.move (v := .int _ _) rfl ?_
        refine RX.idx (fun _ h => h) R0 rfl rfl Tryd.underlying35 C5 (by omega) (fun b15 o15 v15 h15 q15 r15 => ?_)
        refine RX.norm (by dsimp only [List.set]) ?_
        simp only [lim] at r15
        have q1 := q15
        refine RX.o (fun w' hw => D.load rfl Tryd.underlying5 rfl (h15 w' hw)) ?_
        refine RX.move (v := .slice _ _ _) rfl ?_
        refine RX.move (v := .int _ _) rfl ?_
        refine RX.idx (fun _ h => h) R1 rfl rfl Tryd.underlying35 C5 (by omega) (fun b16 o16 v16 h16 q16 r16 => ?_)
        refine RX.norm (by dsimp only [List.set]) ?_
        simp only [lim] at r16
        have q2 := q16
        refine RX.o (fun w' hw => D.load rfl Tryd.underlying5 rfl (h16 w' hw)) ?_
        refine RX.o (fun w' hw => D.ne rfl rfl) ?_
        refine RX.nil ?_
        refine hK13 _ _ ?_
        try clear hK13
        refine C.ifn rfl (fun c17 => ?_) (fun c17 => ?_)
        · have hd := c17
          refine wp_seq_k (fun K18 hK18 => ?_)
          refine region ?_
          refine RS.assign (v := .bool false) rfl ?_
          refine RS.nil ?_
          refine hK18 _ _ ?_
          try clear hK18
          refine wp_ret ?_
          refine ret (rs := [.tmp 4]) (vs := [.bool _]) (v := (.bool _)) rfl ⟨rfl, trivial⟩ rfl ?_
          refine ⟨_, rfl, hE, congrArg Value.bool (decide_eq_false ?_).symm⟩
          intro e
          rw [e] at q1
          omega
        · refine wp_skip ?_
          refine hK12 _ _ ?_
          try clear hK12
          refine region ?_
          refine RS.move (v := .int _ _) rfl ?_
          refine RS.o (D.add rfl rfl (W.i64 (by omega))) ?_
          refine RS.assign (v := .int _ _) rfl ?_
          refine RS.nil ?_
          change Nx _ _ _ _ _ _ _ _
          refine C.next (p + 1) ⟨rfl, trivial⟩ (by kernel_rfl) ?_ ?_
          · refine ⟨x8, ⟨by omega, by omega⟩, ?_⟩
            rw [show (p + 1).toNat = p.toNat + 1 by omega, S.take_snoc _ _ (by omega), S.take_snoc _ _ (by omega), h2, ← q1, ← q2]
            congr 2
          · omega
      · have hlt := c11
        refine wp_exit ?_
        refine hK6 _ _ ?_
        try clear hK6
        refine wp_seq_k (fun K19 hK19 => ?_)
        refine region ?_
        refine RS.assign (v := .bool true) rfl ?_
        refine RS.nil ?_
        refine hK19 _ _ ?_
        try clear hK19
        refine wp_ret ?_
        refine ret (rs := [.tmp 4]) (vs := [.bool _]) (v := (.bool _)) rfl ⟨rfl, trivial⟩ rfl ?_
        refine ⟨_, rfl, hE, congrArg Value.bool (decide_eq_true ?_).symm⟩
        rw [List.take_of_length_le (by omega), List.take_of_length_le (by omega)] at h2
        exact h2

theorem constants  (w : World) :
    Calls Tryd.prog 138 #[] w (Ret w fun v w' => ∃ b, v = .slice (some ⟨b, 0, none⟩) 64 64 ∧ w.heap.size ≤ b ∧ IRow .u32 (fun k => k = b) w' (some ⟨b, 0, none⟩) 64 S.KK) := by
  have hE := Ext.refl w
  refine enter (args := []) (l := [undef, undef]) Tryd.func138 rfl rfl ?_
  refine wp_seq_k (fun K1 hK1 => ?_)
  refine region ?_
  refine RS.assign (v := .slice none 0 0) rfl ?_
  refine RS.nil ?_
  refine hK1 _ _ ?_
  try clear hK1
  refine wp_seq_k (fun K2 hK2 => ?_)
  refine region ?_
  refine RS.buildI (xs := [.const (.int .u32 1116352408), .const (.int .u32 1899447441), .const (.int .u32 3049323471), .const (.int .u32 3921009573), .const (.int .u32 961987163), .const (.int .u32 1508970993), .const (.int .u32 2453635748), .const (.int .u32 2870763221), .const (.int .u32 3624381080), .const (.int .u32 310598401), .const (.int .u32 607225278), .const (.int .u32 1426881987), .const (.int .u32 1925078388), .const (.int .u32 2162078206), .const (.int .u32 2614888103), .const (.int .u32 3248222580), .const (.int .u32 3835390401), .const (.int .u32 4022224774), .const (.int .u32 264347078), .const (.int .u32 604807628), .const (.int .u32 770255983), .const (.int .u32 1249150122), .const (.int .u32 1555081692), .const (.int .u32 1996064986), .const (.int .u32 2554220882), .const (.int .u32 2821834349), .const (.int .u32 2952996808), .const (.int .u32 3210313671), .const (.int .u32 3336571891), .const (.int .u32 3584528711), .const (.int .u32 113926993), .const (.int .u32 338241895), .const (.int .u32 666307205), .const (.int .u32 773529912), .const (.int .u32 1294757372), .const (.int .u32 1396182291), .const (.int .u32 1695183700), .const (.int .u32 1986661051), .const (.int .u32 2177026350), .const (.int .u32 2456956037), .const (.int .u32 2730485921), .const (.int .u32 2820302411), .const (.int .u32 3259730800), .const (.int .u32 3345764771), .const (.int .u32 3516065817), .const (.int .u32 3600352804), .const (.int .u32 4094571909), .const (.int .u32 275423344), .const (.int .u32 430227734), .const (.int .u32 506948616), .const (.int .u32 659060556), .const (.int .u32 883997877), .const (.int .u32 958139571), .const (.int .u32 1322822218), .const (.int .u32 1537002063), .const (.int .u32 1747873779), .const (.int .u32 1955562222), .const (.int .u32 2024104815), .const (.int .u32 2227730452), .const (.int .u32 2361852424), .const (.int .u32 2428436474), .const (.int .u32 2756734187), .const (.int .u32 3204031479), .const (.int .u32 3329325298)]) (ys := S.KK) Tryd.underlying157 T22 rfl rfl rfl rfl rfl (fun b3 w3 e3 s3 x3 B3 => ?_)
  refine RS.norm (by dsimp only [List.set]) ?_
  replace hE := Ext.tr hE x3
  have zw3 := x3.size
  refine RS.assign (v := .slice _ _ _) rfl ?_
  refine RS.nil ?_
  refine hK2 _ _ ?_
  try clear hK2
  refine wp_ret ?_
  refine ret (rs := [.tmp 0]) (vs := [.slice _ _ _]) (v := (.slice _ _ _)) rfl ⟨rfl, trivial⟩ rfl ?_
  exact ⟨_, rfl, hE, _, rfl, by omega, IRow.of_blk B3 rfl rfl rfl (show ∀ x ∈ S.KK, 0 ≤ x ∧ x < 4294967296 by decide)⟩

theorem written (h : List Int) (H : Arr .u32 8 h) (w : World) :
    Calls Tryd.prog 117 #[.agg (ints .u32 h).toArray] w (Ret w fun v _ => v = .agg (ints .u8 (S.outS h)).toArray) := by
  have hE := Ext.refl w
  refine enter (args := [.agg (ints .u32 h).toArray]) (l := [.agg (ints .u32 h).toArray, undef, undef, undef, undef, undef, undef, undef, undef, undef, undef, undef, undef, undef, undef, undef, undef, undef, undef, undef, undef, undef]) Tryd.func117 rfl rfl ?_
  refine wp_seq_k (fun K1 hK1 => ?_)
  refine region ?_
  refine RS.box rfl rfl (fun b2 w2 e2 s2 x2 B2 => ?_)
  refine RS.norm (by dsimp only [List.set]) ?_
  replace hE := Ext.tr hE x2
  have zw2 := x2.size
  have A2 := IArr.ofA (n := 8) B2 H
  clear B2
  refine RS.alloc T42 (fun b3 w3 e3 s3 x3 B3 => ?_)
  refine RS.norm (by dsimp only [List.set]) ?_
  replace hE := Ext.tr hE x3
  replace A2 := A2.ext x3
  have zw3 := x3.size
  have A3 : IArr .u8 w3 b3 32 (List.replicate 32 0) [] 42 := IArr.zero B3
  clear B3
  refine RS.nil ?_
  refine hK1 _ _ ?_
  try clear hK1
  refine wp_seq_k (fun K4 hK4 => ?_)
  refine region ?_
  refine RS.alloc T42 (fun b5 w5 e5 s5 x5 B5 => ?_)
  refine RS.norm (by dsimp only [List.set]) ?_
  replace hE := Ext.tr hE x5
  replace A2 := A2.ext x5
  replace A3 := A3.ext x5
  have zw5 := x5.size
  have A5 : IArr .u8 w5 b5 32 (List.replicate 32 0) [] 42 := IArr.zero B5
  clear B5
  refine RS.nil ?_
  refine hK4 _ _ ?_
  try clear hK4
  refine wp_seq_k (fun K6 hK6 => ?_)
  refine wp_seq_k (fun K7 hK7 => ?_)
  refine region ?_
  refine RS.assign (v := .int .i64 0) rfl ?_
  refine RS.nil ?_
  refine hK7 _ _ ?_
  try clear hK7
  refine wp_block ?_
  refine C.loop (A := Int × List Int) (fun p => [(4, .int .i64 p.1)]) [5, 6, 7, 8, 9, 10, 11, 12, 13, 14, 15, 16, 17, 18, 19, 20] (fun p w' => Pr (fun k => k = b5) w5 w' ∧ (IArr .u8 w' b5 32 p.2 [] 42 ∧ (0 ≤ p.1 ∧ p.1 ≤ 32) ∧ p.2 = (S.outS h).take p.1.toNat ++ (List.replicate 32 0).drop p.1.toNat)) (fun p => (32 - p.1.toNat)) (0, List.replicate 32 0) (by kernel_rfl) ?_ ?_
  · exact ⟨Pr.refl _ _, A5, ⟨by dsimp only; omega, by dsimp only; omega⟩, by simp⟩
  · rintro p j w8 ⟨x8, hI⟩
    replace hE := hE.trans (x8.below (by intros; try (first | (intro _ _) | (intro _) | skip); first | omega | (dsimp only at *; omega) | (simp_all; done) | (simp at *; omega)) (by intros; try (first | (intro _ _) | (intro _) | skip); first | omega | (dsimp only at *; omega) | (simp_all; done) | (simp at *; omega)))
    replace A2 := A2.pr x8 (by intros; try (first | (intro _ _) | (intro _) | skip); first | omega | (dsimp only at *; omega) | (simp_all; done) | (simp at *; omega))
    replace A3 := A3.pr x8 (by intros; try (first | (intro _ _) | (intro _) | skip); first | omega | (dsimp only at *; omega) | (simp_all; done) | (simp at *; omega))
    have zw8 := x8.size
    obtain ⟨j, ids⟩ := p
    dsimp only at hI
    obtain ⟨A5, g1, g2⟩ := hI
    have hil := A5.len
    refine C.norm (by simp only [upd, junk, List.map_cons, List.map_nil, List.set_cons_succ, List.set_cons_zero]; exact rfl) ?_
    refine wp_seq_k (fun K9 hK9 => ?_)
    refine wp_seq_k (fun K10 hK10 => ?_)
    refine region ?_
    refine RS.move (v := .int _ _) rfl ?_
    refine RS.o (D.lt rfl rfl) ?_
    refine RS.nil ?_
    refine hK10 _ _ ?_
    try clear hK10
    refine C.ifd rfl (fun c11 => ?_) (fun c11 => ?_)
    · refine wp_skip ?_
      refine hK9 _ _ ?_
      try clear hK9
      refine wp_seq_k (fun K12 hK12 => ?_)
      refine wp_block ?_
      refine region ?_
      refine RS.move (v := .int _ _) rfl ?_
      refine RS.move (v := .int _ _) rfl ?_
      refine RS.o (D.quo rfl rfl (by omega) (by omega) (W.i64 (by omega))) ?_
      refine RS.idxA A2 rfl rfl Tryd.underlying143 C22 (by omega) (fun v13 h13 q13 r13 => ?_)
      refine RS.norm (by dsimp only [List.set]) ?_
      simp only [lim] at r13
      have q1 := q13
      refine RS.o (D.load rfl Tryd.underlying22 rfl (h13)) ?_
      refine RS.move (v := .int _ _) rfl ?_
      refine RS.o (D.rem rfl rfl (by omega) (by omega)) ?_
      refine RS.o (D.mul rfl rfl (W.i64 (by omega))) ?_
      refine RS.o (D.sub rfl rfl (W.i64 (by omega))) ?_
      refine RS.ob (D.shr_u32 rfl rfl (by omega) (by constructor <;> omega)) (fun z14 => ?_)
      refine RS.o (D.conv rfl Tryd.underlying22 Tryd.underlying5 (W.u8m _)) ?_
      refine RS.idxA A5 rfl rfl Tryd.underlying42 C5 (by omega) (fun v15 h15 q15 r15 => ?_)
      refine RS.norm (by dsimp only [List.set]) ?_
      simp only [lim] at r15
      refine RS.storeA A5 rfl rfl C5 (by omega) (by simp only [lim]; omega) (fun w16 y16 N16 => ?_)
      replace hE := hE.trans (y16.below (by intros; try (first | (intro _ _) | (intro _) | skip); first | omega | (dsimp only at *; omega) | (simp_all; done) | (simp at *; omega)))
      replace x8 := x8.stn y16 (by intros; try (first | (intro _ _) | (intro _) | skip); first | omega | (dsimp only at *; omega) | (simp_all; done) | (simp at *; omega))
      replace A2 := A2.st y16 (by intros; try (first | (intro _ _) | (intro _) | skip); first | omega | (dsimp only at *; omega) | (simp_all; done) | (simp at *; omega))
      replace A3 := A3.st y16 (by intros; try (first | (intro _ _) | (intro _) | skip); first | omega | (dsimp only at *; omega) | (simp_all; done) | (simp at *; omega))
      have zw16 := y16.size
      replace A5 := N16
      refine RS.nil ?_
      refine hK12 _ _ ?_
      try clear hK12
      refine region ?_
      refine RS.move (v := .int _ _) rfl ?_
      refine RS.o (D.add rfl rfl (W.i64 (by omega))) ?_
      refine RS.assign (v := .int _ _) rfl ?_
      refine RS.nil ?_
      change Nx _ _ _ _ _ _ _ _
      refine C.next (j + 1, ids.set j.toNat (v13 / 2 ^ (24 - 8 * (j % 4)).toNat % 256)) ⟨rfl, trivial⟩ (by kernel_rfl) ?_ ?_
      · refine ⟨x8, A5, ⟨by dsimp only; omega, by dsimp only; omega⟩, ?_⟩
        dsimp only
        exact S.out_step1 _ _ j _ ⟨by omega, by omega⟩ q1 g2
      · dsimp only; omega
    · refine wp_exit ?_
      refine hK6 _ _ ?_
      try clear hK6
      refine wp_seq_k (fun K17 hK17 => ?_)
      refine region ?_
      refine RS.o (D.loadAgg rfl Tryd.underlying42 rfl C42 (by decide) (by rw [ints_length, A5.len]) A5.cells) ?_
      refine RS.storeArr A3 rfl rfl C42 (by decide) (by first | assumption | exact And.left (by assumption) | exact IArr.len (by assumption)) (by first | assumption | exact And.right (by assumption) | exact IArr.bd (by assumption)) (fun w18 y18 N18 => ?_)
      replace hE := hE.trans (y18.below (by intros; try (first | (intro _ _) | (intro _) | skip); first | omega | (dsimp only at *; omega) | (simp_all; done) | (simp at *; omega)))
      replace A2 := A2.st y18 (by intros; try (first | (intro _ _) | (intro _) | skip); first | omega | (dsimp only at *; omega) | (simp_all; done) | (simp at *; omega))
      replace A5 := A5.st y18 (by intros; try (first | (intro _ _) | (intro _) | skip); first | omega | (dsimp only at *; omega) | (simp_all; done) | (simp at *; omega))
      have zw18 := y18.size
      replace A3 := N18
      refine RS.nil ?_
      refine hK17 _ _ ?_
      try clear hK17
      refine wp_ret ?_
      refine ret (rs := [.cell 2 42]) (vs := [.agg _]) (v := (.agg _)) rfl ⟨⟨_, rfl, loadVar_agg Tryd.underlying42 rfl C42 (by decide) (by rw [ints_length, A3.len]) A3.cells⟩, trivial⟩ rfl ?_
      refine ⟨_, rfl, hE, ?_⟩
      rw [g2, show j.toNat = 32 by omega, List.take_of_length_le (by rw [(S.out_arr _).1]; exact Nat.le_refl _), List.drop_eq_nil_of_le (by simp), List.append_nil]

theorem tail (N : Int) (hN : 0 ≤ N ∧ N ≤ 200000) (w : World) :
    Calls Tryd.prog 120 #[.int .i64 N] w (Ret w fun v w' => ∃ a' n' c', v = .slice a' n' c' ∧ IOwn w.heap.size w' 5 .u8 a' n' c' (S.padS N)) := by
  have hE := Ext.refl w
  refine enter (args := [.int .i64 N]) (l := [.int .i64 N, undef, undef, undef, undef, undef, undef, undef, undef, undef, undef, undef, undef, undef, undef, undef, undef, undef, undef, undef, undef, undef, undef, undef, undef, undef, undef, undef, undef, undef, undef]) Tryd.func120 rfl rfl ?_
  refine wp_seq_k (fun K1 hK1 => ?_)
  refine region ?_
  refine RS.assign (v := .slice none 0 0) rfl ?_
  refine RS.nil ?_
  refine hK1 _ _ ?_
  try clear hK1
  refine wp_seq_k (fun K2 hK2 => ?_)
  refine region ?_
  refine RS.buildSlice (xs := [.const (.int .u8 128)]) (vs := [.int _ _]) (cs := [.int _ _]) Tryd.underlying35 T5 (by decide) rfl rfl rfl rfl rfl rfl (by intro v hv; simp only [List.mem_cons, List.not_mem_nil, or_false] at hv; subst hv; rfl) rfl (fun b3 w3 e3 s3 x3 B3 => ?_)
  refine RS.norm (by dsimp only [List.set]) ?_
  replace hE := Ext.tr hE x3
  have zw3 := x3.size
  have O1 : IOwn w.heap.size w3 5 .u8 (some ⟨b3, 0, none⟩) 1 1 [_] := IOwn.of_blk B3 rfl rfl (by omega) (.cons (by simp only [lim]; omega) (.nil _)) (by decide)
  refine RS.assign (v := .slice _ _ _) rfl ?_
  refine RS.nil ?_
  refine hK2 _ _ ?_
  try clear hK2
  refine wp_seq_k (fun K4 hK4 => ?_)
  refine wp_block ?_
  refine C.loop (A := Nat × Option Addr × Nat × Nat) (fun p => [(3, .slice p.2.1 p.2.2.1 p.2.2.2)]) [6, 7, 8, 9, 10, 11, 12, 13, 14, 15] (fun p w' => Pr (fun k => w.heap.size ≤ k) w3 w' ∧ (((p.1 : Nat) : Int) ≤ (119 - N % 64) % 64 ∧ IOwn w.heap.size w' 5 .u8 p.2.1 p.2.2.1 p.2.2.2 ([128] ++ List.replicate p.1 0))) (fun p => (64 - p.1)) (0, some ⟨b3, 0, none⟩, 1, 1) (by kernel_rfl) ?_ ?_
  · exact ⟨Pr.refl _ _, by dsimp only; omega, O1⟩
  · rintro p j w5 ⟨x5, hI⟩
    replace hE := hE.trans (x5.below (by intros; try (first | (intro _ _) | (intro _) | skip); first | omega | (dsimp only at *; omega) | (simp_all; done) | (simp at *; omega)) (by intros; try (first | (intro _ _) | (intro _) | skip); first | omega | (dsimp only at *; omega) | (simp_all; done) | (simp at *; omega)))
    have zw5 := x5.size
    obtain ⟨j, ao, no, co⟩ := p
    dsimp only at hI
    obtain ⟨h1, O1⟩ := hI
    have hol := O1.len
    simp only [List.length_append, List.length_singleton, List.length_replicate] at hol
    have e6 : (N + (no : Int) + 8) % 64 = (N + (1 + (j : Int)) + 8) % 64 := by rw [← hol]; rfl
    refine C.norm (by simp only [upd, junk, List.map_cons, List.map_nil, List.set_cons_succ, List.set_cons_zero]; exact rfl) ?_
    refine wp_seq_k (fun K6 hK6 => ?_)
    refine wp_seq_k (fun K7 hK7 => ?_)
    refine region ?_
    refine RS.move (v := .int _ _) rfl ?_
    refine RS.move (v := .slice _ _ _) rfl ?_
    refine RS.o (D.len rfl Tryd.underlying35) ?_
    refine RS.o (D.add rfl rfl (W.i64 (by omega))) ?_
    refine RS.o (D.add rfl rfl (W.i64 (by omega))) ?_
    refine RS.o (D.rem rfl rfl (by omega) (by omega)) ?_
    refine RS.o (D.ne rfl rfl) ?_
    refine RS.nil ?_
    refine hK7 _ _ ?_
    try clear hK7
    refine C.ifn rfl (fun c8 => ?_) (fun c8 => ?_)
    · refine wp_skip ?_
      refine hK6 _ _ ?_
      try clear hK6
      refine wp_block ?_
      refine region ?_
      refine RS.move (v := .slice _ _ _) rfl ?_
      refine RS.buildSlice (xs := [.const (.int .u8 0)]) (vs := [.int _ _]) (cs := [.int _ _]) Tryd.underlying35 T5 (by decide) rfl rfl rfl rfl rfl rfl (by intro v hv; simp only [List.mem_cons, List.not_mem_nil, or_false] at hv; subst hv; rfl) rfl (fun b9 w9 e9 s9 x9 B9 => ?_)
      refine RS.norm (by dsimp only [List.set]) ?_
      replace hE := Ext.tr hE x9
      replace x5 := x5.ext x9
      replace O1 := O1.ext x9
      have zw9 := x9.size
      have Q1 : IRow .u8 (fun k => k = b9) w9 (some ⟨b9, 0, none⟩) 1 [_] := IRow.of_blk B9 rfl rfl rfl (.cons (by simp only [lim]; omega) (.nil _))
      refine RS.appendI O1 Q1 rfl rfl Tryd.underlying35 T5 rfl (by omega) (by decide) (by omega) (fun a10 c10 w10 N10 x10 => ?_)
      refine RS.norm (by dsimp only [List.set]) ?_
      replace hE := hE.trans (x10.below (by intros; try (first | (intro _ _) | (intro _) | skip); first | omega | (have hq := O1.lo _ (by assumption); first | omega | (dsimp only at *; omega))) (by intros; try (first | (intro _ _) | (intro _) | skip); first | omega | (dsimp only at *; omega) | (simp_all; done) | (simp at *; omega)))
      replace x5 := x5.prn x10 (by intros; try (first | (intro _ _) | (intro _) | skip); first | omega | (have hq := O1.lo _ (by assumption); first | omega | (dsimp only at *; omega)))
      have zw10 := x10.size
      replace O1 := N10
      refine RS.assign (v := .slice _ _ _) rfl ?_
      refine RS.nil ?_
      change Nx _ _ _ _ _ _ _ _
      refine C.next (j + 1, _, _, _) ⟨rfl, trivial⟩ (by kernel_rfl) ?_ ?_
      · have hm := S.pad_more N j (by omega) h1 (by omega)
        refine ⟨x5, hm, ?_⟩
        dsimp only
        rw [List.replicate_succ', ← List.append_assoc]
        exact O1
      · dsimp only; omega
    · have hz := S.pad_zero N j (by omega) h1 (by omega)
      rw [hz] at O1
      refine wp_exit ?_
      refine hK4 _ _ ?_
      try clear hK4
      refine wp_seq_k (fun K11 hK11 => ?_)
      refine wp_seq_k (fun K12 hK12 => ?_)
      refine region ?_
      refine RS.assign (v := .int .i64 7) rfl ?_
      refine RS.nil ?_
      refine hK12 _ _ ?_
      try clear hK12
      refine wp_block ?_
      refine C.loop (A := Int × Option Addr × Nat × Nat) (fun p => [(3, .slice p.2.1 p.2.2.1 p.2.2.2), (4, .int .i64 p.1)]) [16, 17, 18, 19, 20, 21, 22, 23, 24, 25, 26, 27, 28, 29] (fun p w' => Pr (fun k => w.heap.size ≤ k) w5 w' ∧ ((-1 ≤ p.1 ∧ p.1 ≤ 7) ∧ IOwn w.heap.size w' 5 .u8 p.2.1 p.2.2.1 p.2.2.2 (([128] ++ List.replicate ((119 - N % 64) % 64).toNat 0) ++ (S.be8 (8 * N)).take (7 - p.1).toNat))) (fun p => (p.1 + 1).toNat) (7, ao, no, co) (by kernel_rfl) ?_ ?_
      · exact ⟨Pr.refl _ _, ⟨by dsimp only; omega, by dsimp only; omega⟩, by simpa using O1⟩
      · rintro p j w13 ⟨x13, hI⟩
        replace hE := hE.trans (x13.below (by intros; try (first | (intro _ _) | (intro _) | skip); first | omega | (dsimp only at *; omega) | (simp_all; done) | (simp at *; omega)) (by intros; try (first | (intro _ _) | (intro _) | skip); first | omega | (dsimp only at *; omega) | (simp_all; done) | (simp at *; omega)))
        have zw13 := x13.size
        obtain ⟨i, a5, n5, c5⟩ := p
        dsimp only at hI
        obtain ⟨g1, O1⟩ := hI
        have hol5 := O1.len
        simp only [List.length_append, List.length_singleton, List.length_replicate, List.length_take, S.be8_len] at hol5
        refine C.norm (by simp only [upd, junk, List.map_cons, List.map_nil, List.set_cons_succ, List.set_cons_zero]; exact rfl) ?_
        refine wp_seq_k (fun K14 hK14 => ?_)
        refine wp_seq_k (fun K15 hK15 => ?_)
        refine region ?_
        refine RS.move (v := .int _ _) rfl ?_
        refine RS.o (D.ge rfl rfl) ?_
        refine RS.nil ?_
        refine hK15 _ _ ?_
        try clear hK15
        refine C.ifd rfl (fun c16 => ?_) (fun c16 => ?_)
        · refine wp_skip ?_
          refine hK14 _ _ ?_
          try clear hK14
          refine wp_seq_k (fun K17 hK17 => ?_)
          refine wp_block ?_
          refine region ?_
          refine RS.move (v := .slice _ _ _) rfl ?_
          refine RS.move (v := .int _ _) rfl ?_
          refine RS.o (D.conv rfl Tryd.underlying3 Tryd.underlying24 (W.u64 (by omega))) ?_
          refine RS.o (D.mul rfl rfl (W.u64 (by omega))) ?_
          refine RS.move (v := .int _ _) rfl ?_
          refine RS.o (D.mul rfl rfl (W.i64 (by omega))) ?_
          refine RS.ob (D.shr_u64 rfl rfl (by omega) (by constructor <;> omega)) (fun z18 => ?_)
          refine RS.o (D.conv rfl Tryd.underlying24 Tryd.underlying5 (W.u8m _)) ?_
          refine RS.buildSlice (xs := [.tmp 27]) (vs := [.int _ _]) (cs := [.int _ _]) Tryd.underlying35 T5 (by decide) rfl rfl rfl rfl rfl rfl (by intro v hv; simp only [List.mem_cons, List.not_mem_nil, or_false] at hv; subst hv; rfl) rfl (fun b19 w19 e19 s19 x19 B19 => ?_)
          refine RS.norm (by dsimp only [List.set]) ?_
          replace hE := Ext.tr hE x19
          replace x13 := x13.ext x19
          replace O1 := O1.ext x19
          have zw19 := x19.size
          have Q1 : IRow .u8 (fun k => k = b19) w19 (some ⟨b19, 0, none⟩) 1 [_] := IRow.of_blk B19 rfl rfl rfl (.cons (by simp only [lim]; omega) (.nil _))
          refine RS.appendI O1 Q1 rfl rfl Tryd.underlying35 T5 rfl (by omega) (by decide) (by omega) (fun a20 c20 w20 N20 x20 => ?_)
          refine RS.norm (by dsimp only [List.set]) ?_
          replace hE := hE.trans (x20.below (by intros; try (first | (intro _ _) | (intro _) | skip); first | omega | (have hq := O1.lo _ (by assumption); first | omega | (dsimp only at *; omega))) (by intros; try (first | (intro _ _) | (intro _) | skip); first | omega | (dsimp only at *; omega) | (simp_all; done) | (simp at *; omega)))
          replace x13 := x13.prn x20 (by intros; try (first | (intro _ _) | (intro _) | skip); first | omega | (have hq := O1.lo _ (by assumption); first | omega | (dsimp only at *; omega)))
          have zw20 := x20.size
          replace O1 := N20
          refine RS.assign (v := .slice _ _ _) rfl ?_
          refine RS.nil ?_
          refine hK17 _ _ ?_
          try clear hK17
          refine region ?_
          refine RS.move (v := .int _ _) rfl ?_
          refine RS.o (D.sub rfl rfl (W.i64 (by omega))) ?_
          refine RS.assign (v := .int _ _) rfl ?_
          refine RS.nil ?_
          change Nx _ _ _ _ _ _ _ _
          refine C.next (i - 1, _, _, _) ⟨rfl, rfl, trivial⟩ (by kernel_rfl) ?_ ?_
          · refine ⟨x13, ⟨by dsimp only; omega, by dsimp only; omega⟩, ?_⟩
            dsimp only
            rw [S.be8_snoc' _ _ (by omega), ← List.append_assoc]
            exact O1
          · dsimp only; omega
        · refine wp_exit ?_
          refine hK11 _ _ ?_
          try clear hK11
          refine wp_seq_k (fun K21 hK21 => ?_)
          refine region ?_
          refine RS.move (v := .slice _ _ _) rfl ?_
          refine RS.assign (v := .slice _ _ _) rfl ?_
          refine RS.nil ?_
          refine hK21 _ _ ?_
          try clear hK21
          refine wp_ret ?_
          refine ret (rs := [.tmp 2]) (vs := [.slice _ _ _]) (v := (.slice _ _ _)) rfl ⟨rfl, trivial⟩ rfl ?_
          rw [show i = -1 by omega, show (7 - (-1 : Int)).toNat = 8 from rfl, List.take_of_length_le (by rw [S.be8_len]; exact Nat.le_refl _), S.pad_eq N _ rfl] at O1
          exact ⟨_, rfl, hE, _, _, _, rfl, O1⟩

end Go.Proofs.YtiohpiiiapjblaaDoor.W
