/-
  W10: walks of functions, printed by gen.py from the annotations ann10.py.
-/
import Derived.Test.YtiohpiiiapjblaaDoorW9

namespace Go.Proofs.YtiohpiiiapjblaaDoor.W
open Go.RowKit Go.Proofs.YtiohpiiiapjblaaDoor.G
set_option linter.unusedVariables false
set_option maxRecDepth 20000
set_option maxHeartbeats 8000000
attribute [local irreducible] RS RX

theorem E79 : Enters Tryd.prog 79 := .mk Tryd.func79 (by kernel_rfl) rfl
theorem E97 : Enters Tryd.prog 97 := .mk Tryd.func97 (by kernel_rfl) rfl
theorem idsW {S0 : Nat → Prop} (a : Option Addr) (n c : Nat) (ids : List Int) (w : World) (D0 : WRow .u8 32 S0 w a n ids) (hc : n ≤ c) (hn : n ≤ 60) (hr : S.Rising n ids) :
    Calls Tryd.prog 42 #[.slice a n c] w (Ret w fun v w' => ∃ a' n' c', v = .tuple #[.slice a' n' c', .int .i64 0] ∧ IOwn w.heap.size w' 5 .u8 a' n' c' (S.listS n ids)) := by
  replace D0 := D0.weaken (T := fun k => k < w.heap.size) (fun k hk _ => hk)
  have hE := Ext.refl w
  refine enter (args := [.slice a n c]) (l := [.slice a n c, undef, undef, undef, undef, undef, undef, undef, undef, undef, undef, undef, undef, undef, undef, undef, undef, undef, undef, undef, undef, undef, undef, undef, undef, undef, undef, undef]) Tryd.func42 rfl rfl ?_
  refine wp_seq_k (fun K1 hK1 => ?_)
  refine region ?_
  refine RS.assign (v := .slice none 0 0) rfl ?_
  refine RS.assign (v := .int .i64 0) rfl ?_
  refine RS.nil ?_
  refine hK1 _ _ ?_
  try clear hK1
  refine wp_seq_k (fun K2 hK2 => ?_)
  refine wp_seq_k (fun K3 hK3 => ?_)
  refine region ?_
  refine RS.move (v := .slice _ _ _) rfl ?_
  refine RS.o (D.len rfl Tryd.underlying23) ?_
  refine RS.o (D.gt rfl rfl) ?_
  refine RS.nil ?_
  refine hK3 _ _ ?_
  try clear hK3
  refine C.ifd rfl (fun c4 => ?_) (fun c4 => ?_)
  · exact absurd c4 (by omega)
  · refine wp_skip ?_
    refine hK2 _ _ ?_
    try clear hK2
    refine wp_seq_k (fun K5 hK5 => ?_)
    refine wp_seq_k (fun K6 hK6 => ?_)
    refine region ?_
    refine RS.move (v := .slice _ _ _) rfl ?_
    refine RS.call E79 (risingW _ _ _ _ _ D0 hc (by omega)) rfl (fun v7 w7 x7 A7 => ?_)
    replace hE := Ext.tr hE x7
    replace D0 := D0.ext x7
    have zw7 := x7.size
    subst A7
    refine RS.norm (by dsimp only [List.set]) ?_
    refine RS.o (D.not rfl) ?_
    refine RS.nil ?_
    refine hK6 _ _ ?_
    try clear hK6
    refine C.ifnot rfl (fun c8 => ?_) (fun c8 => ?_)
    · rw [decide_eq_true hr] at c8; cases c8
    · refine wp_skip ?_
      refine hK5 _ _ ?_
      try clear hK5
      refine wp_seq_k (fun K9 hK9 => ?_)
      refine region ?_
      refine RS.move (v := .slice _ _ _) rfl ?_
      refine RS.o (D.len rfl Tryd.underlying23) ?_
      refine RS.o (D.conv rfl Tryd.underlying3 Tryd.underlying24 (W.u64 (by omega))) ?_
      refine RS.call E44 (numW _ (by omega) _) rfl (fun v10 w10 x10 A10 => ?_)
      replace hE := Ext.tr hE x10
      replace D0 := D0.ext x10
      have zw10 := x10.size
      obtain ⟨a10, n10, c10, rfl, O1⟩ := A10
      replace O1 := O1.base (lo' := w.heap.size) (fun k hk => by have := O1.lo k hk; omega)
      have hnl := S.numS_len (n : Int)
      have hol0 := O1.len
      refine RS.norm (by dsimp only [List.set]) ?_
      refine RS.assign (v := .slice _ _ _) rfl ?_
      refine RS.nil ?_
      refine hK9 _ _ ?_
      try clear hK9
      refine wp_seq_k (fun K11 hK11 => ?_)
      refine wp_seq_k (fun K12 hK12 => ?_)
      refine region ?_
      refine RS.move (v := .slice _ _ _) rfl ?_
      refine RS.o (D.len rfl Tryd.underlying23) ?_
      refine RS.move (v := .int .i64 0) rfl ?_
      refine RS.nil ?_
      refine hK12 _ _ ?_
      try clear hK12
      refine wp_block ?_
      refine C.loop (A := Int × Option Addr × Nat × Nat) (fun p => [(4, .slice p.2.1 p.2.2.1 p.2.2.2), (19, .int .i64 p.1)]) [6, 20, 21, 22, 23, 24, 25, 26] (fun p w' => Pr (fun k => w.heap.size ≤ k) w10 w' ∧ ((0 ≤ p.1 ∧ p.1 ≤ n) ∧ IOwn w.heap.size w' 5 .u8 p.2.1 p.2.2.1 p.2.2.2 (S.numS n ++ ids.take (32 * p.1.toNat)))) (fun p => (n - p.1.toNat)) (0, a10, n10, c10) (by kernel_rfl) ?_ ?_
      · refine ⟨Pr.refl _ _, ⟨by dsimp only; omega, by dsimp only; omega⟩, ?_⟩
        dsimp only
        rw [show (0 : Int).toNat = 0 from rfl, Nat.mul_zero, List.take_zero, List.append_nil]
        exact O1
      · rintro p j w13 ⟨x13, hI⟩
        replace hE := hE.trans (x13.below (by intros; try (first | (intro _ _) | (intro _) | skip); first | omega | (dsimp only at *; omega) | (simp_all; done) | (simp at *; omega)) (by intros; try (first | (intro _ _) | (intro _) | skip); first | omega | (dsimp only at *; omega) | (simp_all; done) | (simp at *; omega)))
        replace D0 := D0.pr x13 (by intros; try (first | (intro _ _) | (intro _) | skip); first | omega | (dsimp only at *; omega) | (simp_all; done) | (simp at *; omega))
        have zw13 := x13.size
        obtain ⟨i, ao, no, co⟩ := p
        dsimp only at hI
        obtain ⟨h1, O1⟩ := hI
        have hol := O1.len
        rw [List.length_append, List.length_take, D0.len] at hol
        have hob := O1.lo
        refine C.norm (by simp only [upd, junk, List.map_cons, List.map_nil, List.set_cons_succ, List.set_cons_zero]; exact rfl) ?_
        refine wp_seq_k (fun K14 hK14 => ?_)
        refine region ?_
        refine RS.o (D.lt rfl rfl) ?_
        refine RS.nil ?_
        refine hK14 _ _ ?_
        try clear hK14
        refine wp_seq_k (fun K15 hK15 => ?_)
        refine C.ifd rfl (fun c16 => ?_) (fun c16 => ?_)
        · refine wp_skip ?_
          refine hK15 _ _ ?_
          try clear hK15
          refine wp_seq_k (fun K17 hK17 => ?_)
          refine wp_block ?_
          refine wp_seq_k (fun K18 hK18 => ?_)
          refine region ?_
          refine RS.idxW D0 rfl rfl Tryd.underlying23 C42 (by decide) (by omega) (fun b19 o19 h19 q19 r19 => ?_)
          refine RS.norm (by dsimp only [List.set]) ?_
          have r1 := r19
          refine RS.o (D.loadW rfl Tryd.underlying42 rfl C42 (by decide) r19 h19) ?_
          refine RS.alloc T42 (fun b20 w20 e20 s20 x20 B20 => ?_)
          refine RS.norm (by dsimp only [List.set]) ?_
          replace hE := Ext.tr hE x20
          replace x13 := x13.ext x20
          replace D0 := D0.ext x20
          replace O1 := O1.ext x20
          have zw20 := x20.size
          have A20 : IArr .u8 w20 b20 32 (List.replicate 32 0) [] 42 := IArr.zero B20
          clear B20
          refine RS.storeArr A20 rfl rfl C42 (by decide) (by first | assumption | exact And.left (by assumption) | exact IArr.len (by assumption)) (by first | assumption | exact And.right (by assumption) | exact IArr.bd (by assumption)) (fun w21 y21 N21 => ?_)
          replace hE := hE.trans (y21.below (by intros; try (first | (intro _ _) | (intro _) | skip); first | omega | (dsimp only at *; omega) | (simp_all; done) | (simp at *; omega)))
          replace x13 := x13.stn y21 (by intros; try (first | (intro _ _) | (intro _) | skip); first | omega | (dsimp only at *; omega) | (simp_all; done) | (simp at *; omega))
          replace D0 := D0.st y21 (by intros; try (first | (intro _ _) | (intro _) | skip); first | omega | (dsimp only at *; omega) | (simp_all; done) | (simp at *; omega))
          replace O1 := O1.st y21 (by intros; try (first | (intro _ _) | (intro _) | skip); first | omega | (have hq := hob _ (by assumption); first | omega | (dsimp only at *; omega)))
          have zw21 := y21.size
          replace A20 := N21
          refine RS.nil ?_
          refine hK18 _ _ ?_
          try clear hK18
          refine region ?_
          refine RS.move (v := .slice _ _ _) rfl ?_
          refine RS.o (D.sliceArr (kl := .i64) (kh := .i64) rfl Tryd.underlying42 C5 rfl rfl (by omega)) ?_
          refine RS.appendI O1 (A20.row (S := fun k => k = b20) rfl) rfl rfl Tryd.underlying35 T5 rfl (by omega) (by decide) (by omega) (fun a22 c22 w22 N22 x22 => ?_)
          refine RS.norm (by dsimp only [List.set]) ?_
          replace hE := hE.trans (x22.below (by intros; try (first | (intro _ _) | (intro _) | skip); first | omega | (have hq := O1.lo _ (by assumption); first | omega | (dsimp only at *; omega))) (by intros; try (first | (intro _ _) | (intro _) | skip); first | omega | (dsimp only at *; omega) | (simp_all; done) | (simp at *; omega)))
          replace x13 := x13.prn x22 (by intros; try (first | (intro _ _) | (intro _) | skip); first | omega | (have hq := O1.lo _ (by assumption); first | omega | (dsimp only at *; omega)))
          replace D0 := D0.pr x22 (by intros; try (first | (intro _ _) | (intro _) | skip); first | omega | (have hq := O1.lo _ (by assumption); first | omega | (dsimp only at *; omega)))
          have zw22 := x22.size
          replace O1 := N22
          refine RS.assign (v := .slice _ _ _) rfl ?_
          refine RS.nil ?_
          refine hK17 _ _ ?_
          try clear hK17
          refine region ?_
          refine RS.o (D.add rfl rfl (W.i64 (by omega))) ?_
          refine RS.move (v := .int _ _) rfl ?_
          refine RS.nil ?_
          change Nx _ _ _ _ _ _ _ _
          refine C.next (i + 1, _, _, _) ⟨rfl, rfl, trivial⟩ (by kernel_rfl) ?_ ?_
          · refine ⟨x13, ⟨by dsimp only; omega, by dsimp only; omega⟩, ?_⟩
            dsimp only
            rw [show (i + 1).toNat = i.toNat + 1 by omega, elt_cat, ← List.append_assoc]
            exact O1
          · dsimp only; omega
        · refine wp_exit ?_
          refine hK11 _ _ ?_
          try clear hK11
          refine wp_seq_k (fun K23 hK23 => ?_)
          refine region ?_
          refine RS.move (v := .slice _ _ _) rfl ?_
          refine RS.assign (v := .slice _ _ _) rfl ?_
          refine RS.assign (v := .int .i64 0) rfl ?_
          refine RS.nil ?_
          refine hK23 _ _ ?_
          try clear hK23
          refine wp_ret ?_
          refine ret (rs := [.tmp 2, .tmp 3]) (vs := [.slice _ _ _, .int _ _]) (v := (.tuple #[.slice _ _ _, .int _ _])) rfl ⟨rfl, rfl, trivial⟩ rfl ?_
          have hdl := D0.len
          rw [show i.toNat = n by omega, List.take_of_length_le (by omega)] at O1
          exact ⟨_, rfl, hE, _, _, _, rfl, O1⟩

theorem listR {S0 : Nat → Prop} (a : Option Addr) (n c : Nat) (ids : List Int) (w : World) (D0 : WRow .u8 32 S0 w a n ids) (hc : n ≤ c) (hn : n ≤ 60) :
    Calls Tryd.prog 84 #[.slice a n c] w (Ret w fun v w' => ∃ a' n' c', v = .slice a' n' c' ∧ IOwn w.heap.size w' 5 .u8 a' n' c' (S.listS n ids)) := by
  replace D0 := D0.weaken (T := fun k => k < w.heap.size) (fun k hk _ => hk)
  have hE := Ext.refl w
  refine enter (args := [.slice a n c]) (l := [.slice a n c, undef, undef, undef, undef, undef, undef, undef, undef, undef, undef, undef, undef, undef, undef, undef, undef, undef, undef, undef, undef, undef]) Tryd.func84 rfl rfl ?_
  refine wp_seq_k (fun K1 hK1 => ?_)
  refine region ?_
  refine RS.assign (v := .slice none 0 0) rfl ?_
  refine RS.nil ?_
  refine hK1 _ _ ?_
  try clear hK1
  refine wp_seq_k (fun K2 hK2 => ?_)
  refine region ?_
  refine RS.move (v := .slice _ _ _) rfl ?_
  refine RS.o (D.len rfl Tryd.underlying23) ?_
  refine RS.o (D.conv rfl Tryd.underlying3 Tryd.underlying24 (W.u64 (by omega))) ?_
  refine RS.call E83 (numR _ (by omega) _) rfl (fun v3 w3 x3 A3 => ?_)
  replace hE := Ext.tr hE x3
  replace D0 := D0.ext x3
  have zw3 := x3.size
  obtain ⟨a3, n3, c3, rfl, O1⟩ := A3
  replace O1 := O1.base (lo' := w.heap.size) (fun k hk => by have := O1.lo k hk; omega)
  have hnl := S.numS_len (n : Int)
  have hol0 := O1.len
  refine RS.norm (by dsimp only [List.set]) ?_
  refine RS.assign (v := .slice _ _ _) rfl ?_
  refine RS.nil ?_
  refine hK2 _ _ ?_
  try clear hK2
  refine wp_seq_k (fun K4 hK4 => ?_)
  refine wp_seq_k (fun K5 hK5 => ?_)
  refine region ?_
  refine RS.assign (v := .int .i64 0) rfl ?_
  refine RS.nil ?_
  refine hK5 _ _ ?_
  try clear hK5
  refine wp_block ?_
  refine C.loop (A := Int × Option Addr × Nat × Nat) (fun p => [(3, .slice p.2.1 p.2.2.1 p.2.2.2), (4, .int .i64 p.1)]) [9, 10, 11, 12, 13, 14, 15, 16, 17, 18, 19, 20] (fun p w' => Pr (fun k => w.heap.size ≤ k) w3 w' ∧ ((0 ≤ p.1 ∧ p.1 ≤ n) ∧ IOwn w.heap.size w' 5 .u8 p.2.1 p.2.2.1 p.2.2.2 (S.numS n ++ ids.take (32 * p.1.toNat)))) (fun p => (n - p.1.toNat)) (0, a3, n3, c3) (by kernel_rfl) ?_ ?_
  · refine ⟨Pr.refl _ _, ⟨by dsimp only; omega, by dsimp only; omega⟩, ?_⟩
    dsimp only
    rw [show (0 : Int).toNat = 0 from rfl, Nat.mul_zero, List.take_zero, List.append_nil]
    exact O1
  · rintro p j w6 ⟨x6, hI⟩
    replace hE := hE.trans (x6.below (by intros; try (first | (intro _ _) | (intro _) | skip); first | omega | (dsimp only at *; omega) | (simp_all; done) | (simp at *; omega)) (by intros; try (first | (intro _ _) | (intro _) | skip); first | omega | (dsimp only at *; omega) | (simp_all; done) | (simp at *; omega)))
    replace D0 := D0.pr x6 (by intros; try (first | (intro _ _) | (intro _) | skip); first | omega | (dsimp only at *; omega) | (simp_all; done) | (simp at *; omega))
    have zw6 := x6.size
    obtain ⟨i, ao, no, co⟩ := p
    dsimp only at hI
    obtain ⟨h1, O1⟩ := hI
    have hol := O1.len
    rw [List.length_append, List.length_take, D0.len] at hol
    have hob := O1.lo
    refine C.norm (by simp only [upd, junk, List.map_cons, List.map_nil, List.set_cons_succ, List.set_cons_zero]; exact rfl) ?_
    refine wp_seq_k (fun K7 hK7 => ?_)
    refine wp_seq_k (fun K8 hK8 => ?_)
    refine region ?_
    refine RS.move (v := .int _ _) rfl ?_
    refine RS.move (v := .slice _ _ _) rfl ?_
    refine RS.o (D.len rfl Tryd.underlying23) ?_
    refine RS.o (D.lt rfl rfl) ?_
    refine RS.nil ?_
    refine hK8 _ _ ?_
    try clear hK8
    refine C.ifd rfl (fun c9 => ?_) (fun c9 => ?_)
    · refine wp_skip ?_
      refine hK7 _ _ ?_
      try clear hK7
      refine wp_seq_k (fun K10 hK10 => ?_)
      refine wp_block ?_
      refine region ?_
      refine RS.move (v := .slice _ _ _) rfl ?_
      refine RS.move (v := .slice _ _ _) rfl ?_
      refine RS.move (v := .int _ _) rfl ?_
      refine RS.idxW D0 rfl rfl Tryd.underlying23 C42 (by decide) (by omega) (fun b11 o11 h11 q11 r11 => ?_)
      refine RS.norm (by dsimp only [List.set]) ?_
      have QI := IRow.of_cells (S := fun k => k < w.heap.size) h11 q11 r11
      refine RS.o (D.sliceAt rfl Tryd.underlying42 C5 (by decide)) ?_
      refine RS.appendI O1 QI rfl rfl Tryd.underlying35 T5 rfl (by omega) (by decide) (by omega) (fun a12 c12 w12 N12 x12 => ?_)
      refine RS.norm (by dsimp only [List.set]) ?_
      replace hE := hE.trans (x12.below (by intros; try (first | (intro _ _) | (intro _) | skip); first | omega | (have hq := O1.lo _ (by assumption); first | omega | (dsimp only at *; omega))) (by intros; try (first | (intro _ _) | (intro _) | skip); first | omega | (dsimp only at *; omega) | (simp_all; done) | (simp at *; omega)))
      replace x6 := x6.prn x12 (by intros; try (first | (intro _ _) | (intro _) | skip); first | omega | (have hq := O1.lo _ (by assumption); first | omega | (dsimp only at *; omega)))
      replace D0 := D0.pr x12 (by intros; try (first | (intro _ _) | (intro _) | skip); first | omega | (have hq := O1.lo _ (by assumption); first | omega | (dsimp only at *; omega)))
      have zw12 := x12.size
      replace O1 := N12
      refine RS.assign (v := .slice _ _ _) rfl ?_
      refine RS.nil ?_
      refine hK10 _ _ ?_
      try clear hK10
      refine region ?_
      refine RS.move (v := .int _ _) rfl ?_
      refine RS.o (D.add rfl rfl (W.i64 (by omega))) ?_
      refine RS.assign (v := .int _ _) rfl ?_
      refine RS.nil ?_
      change Nx _ _ _ _ _ _ _ _
      refine C.next (i + 1, _, _, _) ⟨rfl, rfl, trivial⟩ (by kernel_rfl) ?_ ?_
      · refine ⟨x6, ⟨by dsimp only; omega, by dsimp only; omega⟩, ?_⟩
        dsimp only
        rw [show (i + 1).toNat = i.toNat + 1 by omega, elt_cat, ← List.append_assoc]
        exact O1
      · dsimp only; omega
    · refine wp_exit ?_
      refine hK4 _ _ ?_
      try clear hK4
      refine wp_seq_k (fun K13 hK13 => ?_)
      refine region ?_
      refine RS.move (v := .slice _ _ _) rfl ?_
      refine RS.assign (v := .slice _ _ _) rfl ?_
      refine RS.nil ?_
      refine hK13 _ _ ?_
      try clear hK13
      refine wp_ret ?_
      refine ret (rs := [.tmp 2]) (vs := [.slice _ _ _]) (v := (.slice _ _ _)) rfl ⟨rfl, trivial⟩ rfl ?_
      have hdl := D0.len
      rw [show i.toNat = n by omega, List.take_of_length_le (by omega)] at O1
      exact ⟨_, rfl, hE, _, _, _, rfl, O1⟩

theorem risingR {S0 : Nat → Prop} (a : Option Addr) (n c : Nat) (ids : List Int) (w : World) (D0 : WRow .u8 32 S0 w a n ids) (hc : n ≤ c) (hn : n ≤ 1000) :
    Calls Tryd.prog 60 #[.slice a n c] w (Ret w fun v _ => v = .bool (decide (S.Rising n ids))) := by
  replace D0 := D0.weaken (T := fun k => k < w.heap.size) (fun k hk _ => hk)
  have hE := Ext.refl w
  refine enter (args := [.slice a n c]) (l := [.slice a n c, undef, undef, undef, undef, undef, undef, undef, undef, undef, undef, undef, undef, undef, undef, undef, undef, undef, undef, undef, undef]) Tryd.func60 rfl rfl ?_
  refine wp_seq_k (fun K1 hK1 => ?_)
  refine region ?_
  refine RS.assign (v := .bool false) rfl ?_
  refine RS.nil ?_
  refine hK1 _ _ ?_
  try clear hK1
  refine wp_seq_k (fun K2 hK2 => ?_)
  refine wp_seq_k (fun K3 hK3 => ?_)
  refine region ?_
  refine RS.assign (v := .int .i64 1) rfl ?_
  refine RS.nil ?_
  refine hK3 _ _ ?_
  try clear hK3
  refine wp_block ?_
  refine C.loop (A := Int) (fun p => [(3, .int .i64 p)]) [2, 4, 5, 6, 7, 8, 9, 10, 11, 12, 13, 14, 15, 16, 17, 18, 19, 20] (fun p w' => Ext w w' ∧ ((1 ≤ p ∧ p ≤ 2000) ∧ (∀ j, j < p.toNat - 1 → S.cmpS (S.idAt ids j) (S.idAt ids (j + 1)) < 0))) (fun p => (2000 - p.toNat)) 1 (by kernel_rfl) ?_ ?_
  · exact ⟨Ext.refl _, ⟨by omega, by omega⟩, fun j hj => by omega⟩
  · rintro p j w4 ⟨x4, hI⟩
    replace hE := Ext.tr hE x4
    replace D0 := D0.ext x4
    have zw4 := x4.size
    obtain ⟨h1, h2⟩ := hI
    refine C.norm (by simp only [upd, junk, List.map_cons, List.map_nil, List.set_cons_succ, List.set_cons_zero]; exact rfl) ?_
    refine wp_seq_k (fun K5 hK5 => ?_)
    refine wp_seq_k (fun K6 hK6 => ?_)
    refine region ?_
    refine RS.move (v := .int _ _) rfl ?_
    refine RS.move (v := .slice _ _ _) rfl ?_
    refine RS.o (D.len rfl Tryd.underlying23) ?_
    refine RS.o (D.lt rfl rfl) ?_
    refine RS.nil ?_
    refine hK6 _ _ ?_
    try clear hK6
    refine C.ifd rfl (fun c7 => ?_) (fun c7 => ?_)
    · refine wp_skip ?_
      refine hK5 _ _ ?_
      try clear hK5
      refine wp_seq_k (fun K8 hK8 => ?_)
      refine wp_block ?_
      refine wp_seq_k (fun K9 hK9 => ?_)
      refine regionX Ext [(0, .q), (1, .q), (2, .q), (3, .q), (4, .q), (5, .q), (6, .q), (7, .q), (8, .q), (9, .e), (10, .q)] mixed Ext.refl (fun h k => h.tr k) (by kernel_rfl) (fun w10 x10 => ?_)
      replace hE := Ext.tr hE x10
      replace x4 := Ext.tr x4 x10
      replace D0 := D0.ext x10
      have zw10 := x10.size
      refine RX.move (v := .slice _ _ _) rfl ?_
      refine RX.move (v := .int _ _) rfl ?_
      refine RX.o (fun w' hw => D.sub rfl rfl (W.i64 (by omega))) ?_
      refine RX.idxW (fun _ h => h) D0 rfl rfl Tryd.underlying23 C42 (by decide) (by omega) (fun b11 o11 h11 q11 r11 => ?_)
      refine RX.norm (by dsimp only [List.set]) ?_
      have r1 := r11
      refine RX.o (fun w' hw => D.loadW rfl Tryd.underlying42 rfl C42 (by decide) r11 (h11 w' hw)) ?_
      refine RX.move (v := .slice _ _ _) rfl ?_
      refine RX.move (v := .int _ _) rfl ?_
      refine RX.idxW (fun _ h => h) D0 rfl rfl Tryd.underlying23 C42 (by decide) (by omega) (fun b12 o12 h12 q12 r12 => ?_)
      refine RX.norm (by dsimp only [List.set]) ?_
      have r2 := r12
      refine RX.o (fun w' hw => D.loadW rfl Tryd.underlying42 rfl C42 (by decide) r12 (h12 w' hw)) ?_
      refine RX.eff ?_
      refine RS.call E97 (rcmp _ _ r1 r2 _) rfl (fun v13 w13 x13 A13 => ?_)
      replace hE := Ext.tr hE x13
      replace x4 := Ext.tr x4 x13
      replace D0 := D0.ext x13
      have zw13 := x13.size
      subst A13
      refine RS.norm (by dsimp only [List.set]) ?_
      refine RS.nil ⟨x13, ?_⟩
      refine RX.o (fun w' hw => D.ge rfl rfl) ?_
      refine RX.nil ?_
      refine hK9 _ _ ?_
      try clear hK9
      refine C.ifd rfl (fun c14 => ?_) (fun c14 => ?_)
      · have hg := c14
        refine wp_seq_k (fun K15 hK15 => ?_)
        refine region ?_
        refine RS.assign (v := .bool false) rfl ?_
        refine RS.nil ?_
        refine hK15 _ _ ?_
        try clear hK15
        refine wp_ret ?_
        refine ret (rs := [.tmp 2]) (vs := [.bool _]) (v := (.bool _)) rfl ⟨rfl, trivial⟩ rfl ?_
        refine ⟨_, rfl, hE, congrArg Value.bool (decide_eq_false ?_).symm⟩
        intro h
        have := h (p.toNat - 1) (by omega)
        rw [S.idAt_elt, S.idAt_elt, show p.toNat - 1 = (p - 1).toNat by omega, show (p - 1).toNat + 1 = p.toNat by omega] at this
        omega
      · have hg := c14
        refine wp_skip ?_
        refine hK8 _ _ ?_
        try clear hK8
        refine region ?_
        refine RS.move (v := .int _ _) rfl ?_
        refine RS.o (D.add rfl rfl (W.i64 (by omega))) ?_
        refine RS.assign (v := .int _ _) rfl ?_
        refine RS.nil ?_
        change Nx _ _ _ _ _ _ _ _
        refine C.next (p + 1) ⟨rfl, trivial⟩ (by kernel_rfl) ?_ ?_
        · refine ⟨x4, ⟨by omega, by omega⟩, S.rising_step n ids p (by omega) h2 ?_⟩
          rw [S.idAt_elt, S.idAt_elt]
          omega
        · omega
    · have hl := c7
      refine wp_exit ?_
      refine hK2 _ _ ?_
      try clear hK2
      refine wp_seq_k (fun K16 hK16 => ?_)
      refine region ?_
      refine RS.assign (v := .bool true) rfl ?_
      refine RS.nil ?_
      refine hK16 _ _ ?_
      try clear hK16
      refine wp_ret ?_
      refine ret (rs := [.tmp 2]) (vs := [.bool _]) (v := (.bool _)) rfl ⟨rfl, trivial⟩ rfl ?_
      exact ⟨_, rfl, hE, congrArg Value.bool (decide_eq_true (fun j hj => h2 j (by omega))).symm⟩

theorem sameIDs {S0 S1 : Nat → Prop} (a : Option Addr) (n c : Nat) (xs : List Int) (a2 : Option Addr) (n2 c2 : Nat) (ys : List Int) (w : World) (D0 : WRow .u8 32 S0 w a n xs) (D1 : WRow .u8 32 S1 w a2 n2 ys) (hn : n ≤ 1000) (hn2 : n2 ≤ 1000) :
    Calls Tryd.prog 63 #[.slice a n c, .slice a2 n2 c2] w (Ret w fun v _ => v = .bool (decide (xs = ys))) := by
  have hl0 := D0.len
  have hl1 := D1.len
  have hE := Ext.refl w
  refine enter (args := [.slice a n c, .slice a2 n2 c2]) (l := [.slice a n c, .slice a2 n2 c2, undef, undef, undef, undef, undef, undef, undef, undef, undef, undef, undef, undef, undef, undef, undef, undef, undef, undef, undef, undef, undef, undef, undef, undef]) Tryd.func63 rfl rfl ?_
  refine wp_seq_k (fun K1 hK1 => ?_)
  refine region ?_
  refine RS.assign (v := .bool false) rfl ?_
  refine RS.nil ?_
  refine hK1 _ _ ?_
  try clear hK1
  refine wp_seq_k (fun K2 hK2 => ?_)
  refine wp_seq_k (fun K3 hK3 => ?_)
  refine region ?_
  refine RS.move (v := .slice _ _ _) rfl ?_
  refine RS.o (D.len rfl Tryd.underlying23) ?_
  refine RS.move (v := .slice _ _ _) rfl ?_
  refine RS.o (D.len rfl Tryd.underlying23) ?_
  refine RS.o (D.ne rfl rfl) ?_
  refine RS.nil ?_
  refine hK3 _ _ ?_
  try clear hK3
  refine C.ifn rfl (fun c4 => ?_) (fun c4 => ?_)
  · have hne := c4
    refine wp_seq_k (fun K5 hK5 => ?_)
    refine region ?_
    refine RS.assign (v := .bool false) rfl ?_
    refine RS.nil ?_
    refine hK5 _ _ ?_
    try clear hK5
    refine wp_ret ?_
    refine ret (rs := [.tmp 4]) (vs := [.bool _]) (v := (.bool _)) rfl ⟨rfl, trivial⟩ rfl ?_
    refine ⟨_, rfl, hE, congrArg Value.bool (decide_eq_false ?_).symm⟩
    intro e
    rw [e] at hl0
    omega
  · have hne := c4
    refine wp_skip ?_
    refine hK2 _ _ ?_
    try clear hK2
    refine wp_seq_k (fun K6 hK6 => ?_)
    refine wp_seq_k (fun K7 hK7 => ?_)
    refine region ?_
    refine RS.assign (v := .int .i64 0) rfl ?_
    refine RS.nil ?_
    refine hK7 _ _ ?_
    try clear hK7
    refine wp_block ?_
    refine C.loop (A := Int) (fun p => [(5, .int .i64 p)]) [4, 11, 12, 13, 14, 15, 16, 17, 18, 19, 20, 21, 22, 23, 24, 25] (fun p w' => Ext w w' ∧ ((0 ≤ p ∧ p ≤ n) ∧ xs.take (32 * p.toNat) = ys.take (32 * p.toNat))) (fun p => (n - p.toNat)) 0 (by kernel_rfl) ?_ ?_
    · exact ⟨Ext.refl _, ⟨by omega, by omega⟩, rfl⟩
    · rintro p j w8 ⟨x8, hI⟩
      replace hE := Ext.tr hE x8
      replace D0 := D0.ext x8
      replace D1 := D1.ext x8
      have zw8 := x8.size
      obtain ⟨h1, h2⟩ := hI
      refine C.norm (by simp only [upd, junk, List.map_cons, List.map_nil, List.set_cons_succ, List.set_cons_zero]; exact rfl) ?_
      refine wp_seq_k (fun K9 hK9 => ?_)
      refine wp_seq_k (fun K10 hK10 => ?_)
      refine region ?_
      refine RS.move (v := .int _ _) rfl ?_
      refine RS.move (v := .slice _ _ _) rfl ?_
      refine RS.o (D.len rfl Tryd.underlying23) ?_
      refine RS.o (D.lt rfl rfl) ?_
      refine RS.nil ?_
      refine hK10 _ _ ?_
      try clear hK10
      refine C.ifd rfl (fun c11 => ?_) (fun c11 => ?_)
      · refine wp_skip ?_
        refine hK9 _ _ ?_
        try clear hK9
        refine wp_seq_k (fun K12 hK12 => ?_)
        refine wp_block ?_
        refine wp_seq_k (fun K13 hK13 => ?_)
        refine regionX Ext [(0, .q), (1, .q), (2, .q), (3, .q), (4, .q), (5, .q), (6, .q), (7, .q), (8, .q)] mixed Ext.refl (fun h k => h.tr k) (by kernel_rfl) (fun w14 x14 => ?_)
        replace hE := Ext.tr hE x14
        replace x8 := Ext.tr x8 x14
        replace D0 := D0.ext x14
        replace D1 := D1.ext x14
        have zw14 := x14.size
        refine RX.move (v := .slice _ _ _) rfl ?_
        refine RX.move (v := .int _ _) rfl ?_
        refine RX.idxW (fun _ h => h) D0 rfl rfl Tryd.underlying23 C42 (by decide) (by omega) (fun b15 o15 h15 q15 r15 => ?_)
        refine RX.norm (by dsimp only [List.set]) ?_
        have r1 := r15
        refine RX.o (fun w' hw => D.loadW rfl Tryd.underlying42 rfl C42 (by decide) r15 (h15 w' hw)) ?_
        refine RX.move (v := .slice _ _ _) rfl ?_
        refine RX.move (v := .int _ _) rfl ?_
        refine RX.idxW (fun _ h => h) D1 rfl rfl Tryd.underlying23 C42 (by decide) (by omega) (fun b16 o16 h16 q16 r16 => ?_)
        refine RX.norm (by dsimp only [List.set]) ?_
        have r2 := r16
        refine RX.o (fun w' hw => D.loadW rfl Tryd.underlying42 rfl C42 (by decide) r16 (h16 w' hw)) ?_
        refine RX.o (fun w' hw => D.neI rfl rfl Tryd.underlying42 Tryd.underlying5 C5 (by kernel_rfl) r1.1 r2.1 (by decide)) ?_
        refine RX.nil ?_
        refine hK13 _ _ ?_
        try clear hK13
        refine C.ifb rfl (fun c17 => ?_) (fun c17 => ?_)
        · have hd := c17
          refine wp_seq_k (fun K18 hK18 => ?_)
          refine region ?_
          refine RS.assign (v := .bool false) rfl ?_
          refine RS.nil ?_
          refine hK18 _ _ ?_
          try clear hK18
          refine wp_ret ?_
          refine ret (rs := [.tmp 4]) (vs := [.bool _]) (v := (.bool _)) rfl ⟨rfl, trivial⟩ rfl ?_
          refine ⟨_, rfl, hE, congrArg Value.bool (decide_eq_false ?_).symm⟩
          intro e
          rw [e] at hd
          exact of_decide_eq_true hd rfl
        · have hd := c17
          refine wp_skip ?_
          refine hK12 _ _ ?_
          try clear hK12
          refine region ?_
          refine RS.move (v := .int _ _) rfl ?_
          refine RS.o (D.add rfl rfl (W.i64 (by omega))) ?_
          refine RS.assign (v := .int _ _) rfl ?_
          refine RS.nil ?_
          change Nx _ _ _ _ _ _ _ _
          refine C.next (p + 1) ⟨rfl, trivial⟩ (by kernel_rfl) ?_ ?_
          · refine ⟨x8, ⟨by omega, by omega⟩, ?_⟩
            rw [show (p + 1).toNat = p.toNat + 1 by omega, elt_cat, elt_cat, h2]
            rw [Decidable.not_not.1 (of_decide_eq_false hd)]
          · omega
      · have hlt := c11
        refine wp_exit ?_
        refine hK6 _ _ ?_
        try clear hK6
        refine wp_seq_k (fun K19 hK19 => ?_)
        refine region ?_
        refine RS.assign (v := .bool true) rfl ?_
        refine RS.nil ?_
        refine hK19 _ _ ?_
        try clear hK19
        refine wp_ret ?_
        refine ret (rs := [.tmp 4]) (vs := [.bool _]) (v := (.bool _)) rfl ⟨rfl, trivial⟩ rfl ?_
        refine ⟨_, rfl, hE, congrArg Value.bool (decide_eq_true ?_).symm⟩
        rw [List.take_of_length_le (by omega), List.take_of_length_le (by omega)] at h2
        exact h2

theorem isSorted {S0 : Nat → Prop} (a : Option Addr) (n c : Nat) (ids : List Int) (w : World) (D0 : WRow .u8 32 S0 w a n ids) (hc : n ≤ c) (hn : n ≤ 1000) :
    Calls Tryd.prog 55 #[.slice a n c, .func (.func 56) #[] #[]] w (Ret w fun v _ => v = .bool (decide (S.Sorted n ids))) := by
  replace D0 := D0.weaken (T := fun k => k < w.heap.size) (fun k hk _ => hk)
  have hE := Ext.refl w
  refine enter (args := [.slice a n c, .func (.func 56) #[] #[]]) (l := [.slice a n c, .func (.func 56) #[] #[], undef, undef, undef, undef, undef, undef, undef, undef, undef, undef, undef, undef, undef, undef, undef, undef, undef, undef, undef, undef, undef, undef, undef]) Tryd.func55 rfl rfl ?_
  refine wp_seq_k (fun K1 hK1 => ?_)
  refine region ?_
  refine RS.assign (v := .bool false) rfl ?_
  refine RS.nil ?_
  refine hK1 _ _ ?_
  try clear hK1
  refine wp_seq_k (fun K2 hK2 => ?_)
  refine wp_seq_k (fun K3 hK3 => ?_)
  refine region ?_
  refine RS.move (v := .slice _ _ _) rfl ?_
  refine RS.o (D.len rfl Tryd.underlying23) ?_
  refine RS.o (D.sub rfl rfl (W.i64 (by omega))) ?_
  refine RS.assign (v := .int _ _) rfl ?_
  refine RS.nil ?_
  refine hK3 _ _ ?_
  try clear hK3
  refine wp_block ?_
  refine C.loop (A := Int) (fun p => [(5, .int .i64 p)]) [4, 9, 10, 11, 12, 13, 14, 15, 16, 17, 18, 19, 20, 21, 22, 23, 24] (fun p w' => Ext w w' ∧ ((-1 ≤ p ∧ p < n) ∧ (∀ j, p.toNat ≤ j → j < n - 1 → ¬ S.cmpS (S.idAt ids (j + 1)) (S.idAt ids j) < 0))) (fun p => (p + 1).toNat) ((n : Int) - 1) (by kernel_rfl) ?_ ?_
  · exact ⟨Ext.refl _, ⟨by omega, by omega⟩, fun j hj hj2 => by omega⟩
  · rintro p j w4 ⟨x4, hI⟩
    replace hE := Ext.tr hE x4
    replace D0 := D0.ext x4
    have zw4 := x4.size
    obtain ⟨h1, h2⟩ := hI
    refine C.norm (by simp only [upd, junk, List.map_cons, List.map_nil, List.set_cons_succ, List.set_cons_zero]; exact rfl) ?_
    refine wp_seq_k (fun K5 hK5 => ?_)
    refine wp_seq_k (fun K6 hK6 => ?_)
    refine region ?_
    refine RS.move (v := .int _ _) rfl ?_
    refine RS.o (D.gt rfl rfl) ?_
    refine RS.nil ?_
    refine hK6 _ _ ?_
    try clear hK6
    refine C.ifd rfl (fun c7 => ?_) (fun c7 => ?_)
    · refine wp_skip ?_
      refine hK5 _ _ ?_
      try clear hK5
      refine wp_seq_k (fun K8 hK8 => ?_)
      refine wp_block ?_
      refine wp_seq_k (fun K9 hK9 => ?_)
      refine regionX Ext [(0, .q), (1, .q), (2, .q), (3, .q), (4, .q), (5, .q), (6, .q), (7, .q), (8, .q), (9, .q), (10, .e), (11, .q)] mixed Ext.refl (fun h k => h.tr k) (by kernel_rfl) (fun w10 x10 => ?_)
      replace hE := Ext.tr hE x10
      replace x4 := Ext.tr x4 x10
      replace D0 := D0.ext x10
      have zw10 := x10.size
      refine RX.move (v := .func _ _ _) rfl ?_
      refine RX.move (v := .slice _ _ _) rfl ?_
      refine RX.move (v := .int _ _) rfl ?_
      refine RX.idxW (fun _ h => h) D0 rfl rfl Tryd.underlying23 C42 (by decide) (by omega) (fun b11 o11 h11 q11 r11 => ?_)
      refine RX.norm (by dsimp only [List.set]) ?_
      have r1 := r11
      refine RX.o (fun w' hw => D.loadW rfl Tryd.underlying42 rfl C42 (by decide) r11 (h11 w' hw)) ?_
      refine RX.move (v := .slice _ _ _) rfl ?_
      refine RX.move (v := .int _ _) rfl ?_
      refine RX.o (fun w' hw => D.sub rfl rfl (W.i64 (by omega))) ?_
      refine RX.idxW (fun _ h => h) D0 rfl rfl Tryd.underlying23 C42 (by decide) (by omega) (fun b12 o12 h12 q12 r12 => ?_)
      refine RX.norm (by dsimp only [List.set]) ?_
      have r2 := r12
      refine RX.o (fun w' hw => D.loadW rfl Tryd.underlying42 rfl C42 (by decide) r12 (h12 w' hw)) ?_
      refine RX.eff ?_
      refine RS.callv E56 (dcmp _ _ r1 r2 _) rfl rfl (fun e13 w13 A13 => ?_)
      obtain ⟨v13, rfl, x13, A13⟩ := A13
      refine ⟨_, rfl, ?_⟩
      replace hE := Ext.tr hE x13
      replace x4 := Ext.tr x4 x13
      replace D0 := D0.ext x13
      have zw13 := x13.size
      subst A13
      refine RS.norm (by dsimp only [List.set]) ?_
      refine RS.nil ⟨x13, ?_⟩
      refine RX.o (fun w' hw => D.lt rfl rfl) ?_
      refine RX.nil ?_
      refine hK9 _ _ ?_
      try clear hK9
      refine C.ifd rfl (fun c14 => ?_) (fun c14 => ?_)
      · have hg := c14
        refine wp_seq_k (fun K15 hK15 => ?_)
        refine region ?_
        refine RS.assign (v := .bool false) rfl ?_
        refine RS.nil ?_
        refine hK15 _ _ ?_
        try clear hK15
        refine wp_ret ?_
        refine ret (rs := [.tmp 4]) (vs := [.bool _]) (v := (.bool _)) rfl ⟨rfl, trivial⟩ rfl ?_
        refine ⟨_, rfl, hE, congrArg Value.bool (decide_eq_false ?_).symm⟩
        intro h
        have := h (p - 1).toNat (by omega)
        rw [S.idAt_elt, S.idAt_elt, show (p - 1).toNat + 1 = p.toNat by omega] at this
        exact this hg
      · have hg := c14
        refine wp_skip ?_
        refine hK8 _ _ ?_
        try clear hK8
        refine region ?_
        refine RS.move (v := .int _ _) rfl ?_
        refine RS.o (D.sub rfl rfl (W.i64 (by omega))) ?_
        refine RS.assign (v := .int _ _) rfl ?_
        refine RS.nil ?_
        change Nx _ _ _ _ _ _ _ _
        refine C.next (p - 1) ⟨rfl, trivial⟩ (by kernel_rfl) ?_ ?_
        · refine ⟨x4, ⟨by omega, by omega⟩, fun j hj hj2 => ?_⟩
          by_cases hjp : p.toNat ≤ j
          · exact h2 j hjp hj2
          · rw [S.idAt_elt, S.idAt_elt, show j + 1 = p.toNat by omega, show j = (p - 1).toNat by omega]
            exact hg
        · omega
    · have hl := c7
      refine wp_exit ?_
      refine hK2 _ _ ?_
      try clear hK2
      refine wp_seq_k (fun K16 hK16 => ?_)
      refine region ?_
      refine RS.assign (v := .bool true) rfl ?_
      refine RS.nil ?_
      refine hK16 _ _ ?_
      try clear hK16
      refine wp_ret ?_
      refine ret (rs := [.tmp 4]) (vs := [.bool _]) (v := (.bool _)) rfl ⟨rfl, trivial⟩ rfl ?_
      exact ⟨_, rfl, hE, congrArg Value.bool (decide_eq_true (fun j hj => h2 j (by omega) hj)).symm⟩

theorem cloneID {S0 : Nat → Prop} (a : Option Addr) (n c : Nat) (ids : List Int) (w : World) (D0 : WRow .u8 32 S0 w a n ids) (hc : n ≤ c) (hn : n ≤ 1000) :
    Calls Tryd.prog 58 #[.slice a n c] w (Ret w fun v w' => ∃ a' n' c', v = .slice a' n' c' ∧ n' = n ∧ WOwn w.heap.size w' 42 .u8 32 a' n' c' ids) := by
  replace D0 := D0.weaken (T := fun k => k < w.heap.size) (fun k hk _ => hk)
  have hE := Ext.refl w
  refine enter (args := [.slice a n c]) (l := [.slice a n c, undef, undef, undef, undef, undef, undef, undef]) Tryd.func58 rfl rfl ?_
  refine wp_seq_k (fun K1 hK1 => ?_)
  refine region ?_
  refine RS.assign (v := .slice none 0 0) rfl ?_
  refine RS.nil ?_
  refine hK1 _ _ ?_
  try clear hK1
  refine wp_seq_k (fun K2 hK2 => ?_)
  refine wp_seq_k (fun K3 hK3 => ?_)
  refine region ?_
  refine RS.move (v := .slice _ _ _) rfl ?_
  refine RS.o (D.nilS rfl rfl Tryd.underlying23) ?_
  refine RS.nil ?_
  refine hK3 _ _ ?_
  try clear hK3
  refine C.ifb rfl (fun c4 => ?_) (fun c4 => ?_)
  · have hc0 := c4
    refine wp_seq_k (fun K5 hK5 => ?_)
    refine region ?_
    refine RS.assign (v := .slice none 0 0) rfl ?_
    refine RS.nil ?_
    refine hK5 _ _ ?_
    try clear hK5
    refine wp_ret ?_
    refine ret (rs := [.tmp 2]) (vs := [.slice _ _ _]) (v := (.slice _ _ _)) rfl ⟨rfl, trivial⟩ rfl ?_
    obtain ⟨rfl, rfl⟩ := D0.none (by decide) hc0
    exact ⟨_, rfl, hE, _, _, _, rfl, rfl, WOwn.nil _ _ _ _ _⟩
  · refine wp_skip ?_
    refine hK2 _ _ ?_
    try clear hK2
    refine wp_seq_k (fun K6 hK6 => ?_)
    refine region ?_
    refine RS.buildNone Tryd.underlying23 T42 (fun b7 w7 e7 s7 x7 B7 => ?_)
    refine RS.norm (by dsimp only [List.set]) ?_
    replace hE := Ext.tr hE x7
    replace D0 := D0.ext x7
    have zw7 := x7.size
    have O1 : WOwn w.heap.size w7 42 .u8 32 (some ⟨b7, 0, none⟩) 0 0 [] := WOwn.of_blk B7 rfl rfl (by omega) (Bd.nil _) (by decide)
    refine RS.move (v := .slice _ _ _) rfl ?_
    refine RS.appendW O1 D0 rfl rfl Tryd.underlying23 T42 (by simp [ints]) (by decide) (by omega) (by decide) (by omega) (fun a8 c8 w8 N8 x8 => ?_)
    refine RS.norm (by dsimp only [List.set]) ?_
    replace hE := hE.trans (x8.below (by intros; try (first | (intro _ _) | (intro _) | skip); first | omega | (have hq := O1.los _ (by assumption); first | omega | (dsimp only at *; omega))) (by intros; try (first | (intro _ _) | (intro _) | skip); first | omega | (dsimp only at *; omega) | (simp_all; done) | (simp at *; omega)))
    replace D0 := D0.pr x8 (by intros; try (first | (intro _ _) | (intro _) | skip); first | omega | (have hq := O1.los _ (by assumption); first | omega | (dsimp only at *; omega)))
    have zw8 := x8.size
    replace O1 := N8
    refine RS.assign (v := .slice _ _ _) rfl ?_
    refine RS.nil ?_
    refine hK6 _ _ ?_
    try clear hK6
    refine wp_ret ?_
    refine ret (rs := [.tmp 2]) (vs := [.slice _ _ _]) (v := (.slice _ _ _)) rfl ⟨rfl, trivial⟩ rfl ?_
    exact ⟨_, rfl, hE, _, _, _, rfl, Nat.zero_add _, O1⟩

theorem compact (lo : Nat) (a : Option Addr) (n c : Nat) (ids : List Int) (g0 : Nat) (w : World) (O1 : WOwn lo w 42 .u8 32 a n c ids) (hg : n < 2 ∨ a = some ⟨g0, 0, none⟩) (hn : n ≤ 1000) :
    Calls Tryd.prog 57 #[.slice a n c] w (fun e w' => ∃ a' n' c', e = .returned (.slice a' n' c') ∧ Pr (fun k => k = g0) w w' ∧ (n' = n ↔ S.Apart n ids)) := by
  have D0 := O1.row
  have hcap := O1.own.pre
  have hdl := D0.len
  have hE := Pr.refl (fun k => k = g0) w
  refine enter (args := [.slice a n c]) (l := [.slice a n c, undef, undef, undef, undef, undef, undef, undef, undef, undef, undef, undef, undef, undef, undef, undef, undef, undef, undef, undef, undef, undef, undef, undef, undef, undef, undef, undef, undef, undef, undef, undef, undef, undef, undef, undef, undef, undef, undef, undef, undef, undef, undef, undef, undef, undef, undef, undef, undef, undef, undef, undef, undef, undef, undef, undef, undef, undef, undef, undef, undef]) Tryd.func57 rfl rfl ?_
  refine wp_seq_k (fun K1 hK1 => ?_)
  refine region ?_
  refine RS.assign (v := .slice none 0 0) rfl ?_
  refine RS.nil ?_
  refine hK1 _ _ ?_
  try clear hK1
  refine wp_seq_k (fun K2 hK2 => ?_)
  refine wp_seq_k (fun K3 hK3 => ?_)
  refine region ?_
  refine RS.move (v := .slice _ _ _) rfl ?_
  refine RS.o (D.len rfl Tryd.underlying23) ?_
  refine RS.o (D.lt rfl rfl) ?_
  refine RS.nil ?_
  refine hK3 _ _ ?_
  try clear hK3
  refine C.ifd rfl (fun c4 => ?_) (fun c4 => ?_)
  · have h8 := c4
    refine wp_seq_k (fun K5 hK5 => ?_)
    refine region ?_
    refine RS.move (v := .slice _ _ _) rfl ?_
    refine RS.assign (v := .slice _ _ _) rfl ?_
    refine RS.nil ?_
    refine hK5 _ _ ?_
    try clear hK5
    refine wp_ret ?_
    change bodyPost Tryd.prog Tryd.f57 (fun e w' => ∃ a' n' c', e = .returned (.slice a' n' c') ∧ Pr (fun k => k = g0) w w' ∧ (n' = n ↔ S.Apart n ids)) .ret _ _
    refine ret (rs := [.tmp 2]) (vs := [.slice _ _ _]) (v := (.slice _ _ _)) rfl ⟨rfl, trivial⟩ rfl ?_
    exact ⟨_, _, _, rfl, hE, ⟨fun _ i hi => by omega, fun _ => rfl⟩⟩
  · have h8 := c4
    refine wp_skip ?_
    refine hK2 _ _ ?_
    try clear hK2
    refine wp_seq_k (fun K6 hK6 => ?_)
    refine wp_seq_k (fun K7 hK7 => ?_)
    obtain rfl : a = some ⟨g0, 0, none⟩ := by rcases hg with h | h; omega; exact h
    refine region ?_
    refine RS.assign (v := .int .i64 1) rfl ?_
    refine RS.nil ?_
    refine hK7 _ _ ?_
    try clear hK7
    refine wp_block ?_
    refine C.loop (A := Int) (fun p => [(3, .int .i64 p)]) [2, 4, 5, 10, 11, 12, 13, 14, 15, 16, 17, 18, 19, 20, 21, 22, 23, 24, 25, 26, 27, 28, 29, 30, 31, 32, 33, 34, 35, 36, 37, 38, 39, 40, 41, 42, 43, 44, 45, 46, 47, 48, 49, 50, 51, 52, 53, 54, 55, 56, 57, 58, 59] (fun p w' => Ext w w' ∧ ((1 ≤ p ∧ p ≤ n) ∧ (∀ j, j < p.toNat - 1 → S.idAt ids (j + 1) ≠ S.idAt ids j))) (fun p => (n - p.toNat)) 1 (by kernel_rfl) ?_ ?_
    · exact ⟨Ext.refl _, ⟨by omega, by omega⟩, fun j hj => by omega⟩
    · rintro p j w8 ⟨x8, hI⟩
      replace hE := hE.ext x8
      replace O1 := O1.ext x8
      replace D0 := D0.ext x8
      have zw8 := x8.size
      obtain ⟨h1, h2⟩ := hI
      obtain ⟨k, hk⟩ : ∃ k, k = p := ⟨p, rfl⟩
      subst hk
      refine C.norm (by simp only [upd, junk, List.map_cons, List.map_nil, List.set_cons_succ, List.set_cons_zero]; exact rfl) ?_
      refine wp_seq_k (fun K9 hK9 => ?_)
      refine wp_seq_k (fun K10 hK10 => ?_)
      refine region ?_
      refine RS.move (v := .int _ _) rfl ?_
      refine RS.move (v := .slice _ _ _) rfl ?_
      refine RS.o (D.len rfl Tryd.underlying23) ?_
      refine RS.o (D.lt rfl rfl) ?_
      refine RS.nil ?_
      refine hK10 _ _ ?_
      try clear hK10
      refine C.ifd rfl (fun c11 => ?_) (fun c11 => ?_)
      · refine wp_skip ?_
        refine hK9 _ _ ?_
        try clear hK9
        refine wp_seq_k (fun K12 hK12 => ?_)
        refine wp_block ?_
        refine wp_seq_k (fun K13 hK13 => ?_)
        refine regionX Ext [(0, .q), (1, .q), (2, .q), (3, .q), (4, .q), (5, .q), (6, .q), (7, .q), (8, .q), (9, .q)] mixed Ext.refl (fun h k => h.tr k) (by kernel_rfl) (fun w14 x14 => ?_)
        replace hE := hE.ext x14
        replace x8 := Ext.tr x8 x14
        replace O1 := O1.ext x14
        replace D0 := D0.ext x14
        have zw14 := x14.size
        refine RX.move (v := .slice _ _ _) rfl ?_
        refine RX.move (v := .int _ _) rfl ?_
        refine RX.idxW (fun _ h => h) D0 rfl rfl Tryd.underlying23 C42 (by decide) (by omega) (fun b15 o15 h15 q15 r15 => ?_)
        refine RX.norm (by dsimp only [List.set]) ?_
        have r1 := r15
        refine RX.o (fun w' hw => D.loadW rfl Tryd.underlying42 rfl C42 (by decide) r15 (h15 w' hw)) ?_
        refine RX.move (v := .slice _ _ _) rfl ?_
        refine RX.move (v := .int _ _) rfl ?_
        refine RX.o (fun w' hw => D.sub rfl rfl (W.i64 (by omega))) ?_
        refine RX.idxW (fun _ h => h) D0 rfl rfl Tryd.underlying23 C42 (by decide) (by omega) (fun b16 o16 h16 q16 r16 => ?_)
        refine RX.norm (by dsimp only [List.set]) ?_
        have r2 := r16
        refine RX.o (fun w' hw => D.loadW rfl Tryd.underlying42 rfl C42 (by decide) r16 (h16 w' hw)) ?_
        refine RX.o (fun w' hw => D.eqI rfl rfl Tryd.underlying42 Tryd.underlying5 C5 (by kernel_rfl) r1.1 r2.1 (by decide)) ?_
        refine RX.nil ?_
        refine hK13 _ _ ?_
        try clear hK13
        refine C.ifb rfl (fun c17 => ?_) (fun c17 => ?_)
        · have heq := of_decide_eq_true c17
          refine wp_seq_k (fun K18 hK18 => ?_)
          refine region ?_
          refine RS.move (v := .slice _ _ _) rfl ?_
          refine RS.move (v := .int _ _) rfl ?_
          refine RS.o (D.slice (kl := .i64) (kh := .i64) rfl Tryd.underlying23 C42 (by decide) rfl rfl (by omega) (by omega)) ?_
          refine RS.assign (v := .slice _ _ _) rfl ?_
          refine RS.nil ?_
          refine hK18 _ _ ?_
          try clear hK18
          refine wp_seq_k (fun K19 hK19 => ?_)
          refine wp_seq_k (fun K20 hK20 => ?_)
          have hA2 : subA (some ⟨g0, 0, none⟩) k.toNat 32 c = some ⟨g0, k.toNat * 32, none⟩ := by unfold subA; rw [if_neg (by omega)]; simp [add_mk]
          have U1 := O1.ub
          refine region ?_
          refine RS.assign (v := .int .i64 1) rfl ?_
          refine RS.nil ?_
          refine hK20 _ _ ?_
          try clear hK20
          refine wp_block ?_
          refine C.loop (A := Int × Int) (fun p => [(3, .int .i64 p.1), (5, .int .i64 p.2)]) [29, 30, 31, 32, 33, 34, 35, 36, 37, 38, 39, 40, 41, 42, 43, 44, 45, 46, 47, 48, 49, 50, 51, 52, 53] (fun p w' => Pr (fun k => k = g0) w14 w' ∧ (UB w' g0 (32 * n) 42 ∧ (k ≤ p.1 ∧ 1 ≤ p.2 ∧ p.1 + 1 ≤ k + p.2 ∧ p.2 ≤ n - k))) (fun p => (n - p.2.toNat)) (k, 1) (by kernel_rfl) ?_ ?_
          · exact ⟨Pr.refl _ _, U1, by dsimp only; omega⟩
          · rintro p j w21 ⟨x21, hI⟩
            replace hE := hE.prn x21 (by intros; try (first | (intro _ _) | (intro _) | skip); first | omega | (dsimp only at *; omega) | (simp_all; done) | (simp at *; omega))
            have zw21 := x21.size
            obtain ⟨k1, k2⟩ := p
            dsimp only at hI
            obtain ⟨U1, g1⟩ := hI
            refine C.norm (by simp only [upd, junk, List.map_cons, List.map_nil, List.set_cons_succ, List.set_cons_zero]; exact rfl) ?_
            refine wp_seq_k (fun K22 hK22 => ?_)
            refine wp_seq_k (fun K23 hK23 => ?_)
            refine region ?_
            refine RS.move (v := .int _ _) rfl ?_
            refine RS.move (v := .slice _ _ _) rfl ?_
            refine RS.o (D.len rfl Tryd.underlying23) ?_
            refine RS.o (D.lt rfl rfl) ?_
            refine RS.nil ?_
            refine hK23 _ _ ?_
            try clear hK23
            refine C.ifd rfl (fun c24 => ?_) (fun c24 => ?_)
            · refine wp_skip ?_
              refine hK22 _ _ ?_
              try clear hK22
              refine wp_seq_k (fun K25 hK25 => ?_)
              refine wp_block ?_
              refine wp_seq_k (fun K26 hK26 => ?_)
              refine regionX Ext [(0, .q), (1, .q), (2, .q), (3, .q), (4, .q), (5, .q), (6, .q), (7, .q), (8, .q), (9, .q)] mixed Ext.refl (fun h k => h.tr k) (by kernel_rfl) (fun w27 x27 => ?_)
              replace hE := hE.ext x27
              replace x21 := x21.ext x27
              replace U1 := U1.ext x27
              have zw27 := x27.size
              refine RX.move (v := .slice _ _ _) rfl ?_
              refine RX.move (v := .int _ _) rfl ?_
              refine RX.idxU (fun _ h => h) U1 hA2 rfl rfl Tryd.underlying23 C42 (by decide) (by omega) (by omega) (fun u28 o28 g28 h28 r28 => ?_)
              refine RX.norm (by dsimp only [List.set]) ?_
              have r3 := r28
              refine RX.o (fun w' hw => D.loadW rfl Tryd.underlying42 rfl C42 (by decide) r28 (h28 w' hw)) ?_
              refine RX.move (v := .slice _ _ _) rfl ?_
              refine RX.move (v := .int _ _) rfl ?_
              refine RX.o (fun w' hw => D.sub rfl rfl (W.i64 (by omega))) ?_
              refine RX.idxU (fun _ h => h) U1 hA2 rfl rfl Tryd.underlying23 C42 (by decide) (by omega) (by omega) (fun u29 o29 g29 h29 r29 => ?_)
              refine RX.norm (by dsimp only [List.set]) ?_
              have r4 := r29
              refine RX.o (fun w' hw => D.loadW rfl Tryd.underlying42 rfl C42 (by decide) r29 (h29 w' hw)) ?_
              refine RX.o (fun w' hw => D.neI rfl rfl Tryd.underlying42 Tryd.underlying5 C5 (by kernel_rfl) r3.1 r4.1 (by decide)) ?_
              refine RX.nil ?_
              refine hK26 _ _ ?_
              try clear hK26
              refine C.ifb rfl (fun c30 => ?_) (fun c30 => ?_)
              · refine wp_seq_k (fun K31 hK31 => ?_)
                refine region ?_
                refine RS.move (v := .slice _ _ _) rfl ?_
                refine RS.move (v := .int _ _) rfl ?_
                refine RS.move (v := .slice _ _ _) rfl ?_
                refine RS.move (v := .int _ _) rfl ?_
                refine RS.idxU U1 hA2 rfl rfl Tryd.underlying23 C42 (by decide) (by omega) (by omega) (fun u32 o32 g32 h32 r32 => ?_)
                refine RS.norm (by dsimp only [List.set]) ?_
                have r5 := r32
                refine RS.o (D.loadW rfl Tryd.underlying42 rfl C42 (by decide) r32 h32) ?_
                refine RS.idxU U1 rfl rfl rfl Tryd.underlying23 C42 (by decide) (by omega) (by omega) (fun u33 o33 g33 h33 r33 => ?_)
                refine RS.norm (by dsimp only [List.set]) ?_
                refine RS.storeU U1 rfl rfl C42 (by decide) (by assumption) (by omega) (fun w34 y34 N34 => ?_)
                replace hE := hE.stn y34 (by intros; try (first | (intro _ _) | (intro _) | skip); first | omega | (dsimp only at *; omega) | (simp_all; done) | (simp at *; omega))
                replace x21 := x21.stn y34 (by intros; try (first | (intro _ _) | (intro _) | skip); first | omega | (dsimp only at *; omega) | (simp_all; done) | (simp at *; omega))
                have zw34 := y34.size
                replace U1 := N34
                refine RS.nil ?_
                refine hK31 _ _ ?_
                try clear hK31
                refine region ?_
                refine RS.move (v := .int _ _) rfl ?_
                refine RS.o (D.add rfl rfl (W.i64 (by omega))) ?_
                refine RS.assign (v := .int _ _) rfl ?_
                refine RS.nil ?_
                refine hK25 _ _ ?_
                try clear hK25
                refine region ?_
                refine RS.move (v := .int _ _) rfl ?_
                refine RS.o (D.add rfl rfl (W.i64 (by omega))) ?_
                refine RS.assign (v := .int _ _) rfl ?_
                refine RS.nil ?_
                change Nx _ _ _ _ _ _ _ _
                refine C.next (k1 + 1, k2 + 1) ⟨rfl, rfl, trivial⟩ (by kernel_rfl) ?_ ?_
                · exact ⟨x21, U1, by dsimp only; omega⟩
                · dsimp only; omega
              · refine wp_skip ?_
                refine hK25 _ _ ?_
                try clear hK25
                refine region ?_
                refine RS.move (v := .int _ _) rfl ?_
                refine RS.o (D.add rfl rfl (W.i64 (by omega))) ?_
                refine RS.assign (v := .int _ _) rfl ?_
                refine RS.nil ?_
                change Nx _ _ _ _ _ _ _ _
                refine C.next (k1, k2 + 1) ⟨rfl, rfl, trivial⟩ (by kernel_rfl) ?_ ?_
                · exact ⟨x21, U1, by dsimp only; omega⟩
                · dsimp only; omega
            · refine wp_exit ?_
              refine hK19 _ _ ?_
              try clear hK19
              refine wp_seq_k (fun K35 hK35 => ?_)
              have hA3 : subA (some ⟨g0, 0, none⟩) k1.toNat 32 c = some ⟨g0, k1.toNat * 32, none⟩ := by unfold subA; rw [if_neg (by omega)]; simp [add_mk]
              refine region ?_
              refine RS.move (v := .slice _ _ _) rfl ?_
              refine RS.move (v := .int _ _) rfl ?_
              refine RS.o (D.slice (kl := .i64) (kh := .i64) rfl Tryd.underlying23 C42 (by decide) rfl rfl (by omega) (by omega)) ?_
              refine RS.clearU U1 hA3 rfl Tryd.underlying23 T42 (by intro v hv; obtain ⟨x, hx, rfl⟩ := List.mem_map.1 hv; rw [(List.mem_replicate.1 hx).2]) (by simp [ints]) (by decide) (by omega) (fun w36 y36 N36 => ?_)
              replace hE := hE.stn y36 (by intros; try (first | (intro _ _) | (intro _) | skip); first | omega | (dsimp only at *; omega) | (simp_all; done) | (simp at *; omega))
              have zw36 := y36.size
              replace U1 := N36
              refine RS.nil ?_
              refine hK35 _ _ ?_
              try clear hK35
              refine wp_seq_k (fun K37 hK37 => ?_)
              refine region ?_
              refine RS.move (v := .slice _ _ _) rfl ?_
              refine RS.move (v := .int _ _) rfl ?_
              refine RS.o (D.slice (kl := .i64) (kh := .i64) rfl Tryd.underlying23 C42 (by decide) rfl rfl (by omega) (by omega)) ?_
              refine RS.assign (v := .slice _ _ _) rfl ?_
              refine RS.nil ?_
              refine hK37 _ _ ?_
              try clear hK37
              refine wp_ret ?_
              change bodyPost Tryd.prog Tryd.f57 (fun e w' => ∃ a' n' c', e = .returned (.slice a' n' c') ∧ Pr (fun k => k = g0) w w' ∧ (n' = n ↔ S.Apart n ids)) .ret _ _
              refine ret (rs := [.tmp 2]) (vs := [.slice _ _ _]) (v := (.slice _ _ _)) rfl ⟨rfl, trivial⟩ rfl ?_
              refine ⟨_, _, _, rfl, hE, ⟨fun h => ?_, fun h => ?_⟩⟩
              · omega
              · have := h (k.toNat - 1) (by omega)
                rw [S.idAt_elt, S.idAt_elt, show k.toNat - 1 + 1 = k.toNat by omega, show k.toNat - 1 = (k - 1).toNat by omega] at this
                exact (this heq).elim
        · have hne := of_decide_eq_false c17
          refine wp_skip ?_
          refine hK12 _ _ ?_
          try clear hK12
          refine region ?_
          refine RS.move (v := .int _ _) rfl ?_
          refine RS.o (D.add rfl rfl (W.i64 (by omega))) ?_
          refine RS.assign (v := .int _ _) rfl ?_
          refine RS.nil ?_
          change Nx _ _ _ _ _ _ _ _
          refine C.next (k + 1) ⟨rfl, trivial⟩ (by kernel_rfl) ?_ ?_
          · refine ⟨x8, ⟨by omega, by omega⟩, fun j hj => ?_⟩
            by_cases hjp : j < k.toNat - 1
            · exact h2 j hjp
            · rw [S.idAt_elt, S.idAt_elt, show j + 1 = k.toNat by omega, show j = (k - 1).toNat by omega]
              exact hne
          · omega
      · have hlast := c11
        refine wp_exit ?_
        refine hK6 _ _ ?_
        try clear hK6
        refine wp_seq_k (fun K38 hK38 => ?_)
        refine region ?_
        refine RS.move (v := .slice _ _ _) rfl ?_
        refine RS.assign (v := .slice _ _ _) rfl ?_
        refine RS.nil ?_
        refine hK38 _ _ ?_
        try clear hK38
        refine wp_ret ?_
        change bodyPost Tryd.prog Tryd.f57 (fun e w' => ∃ a' n' c', e = .returned (.slice a' n' c') ∧ Pr (fun k => k = g0) w w' ∧ (n' = n ↔ S.Apart n ids)) .ret _ _
        refine ret (rs := [.tmp 2]) (vs := [.slice _ _ _]) (v := (.slice _ _ _)) rfl ⟨rfl, trivial⟩ rfl ?_
        exact ⟨_, _, _, rfl, hE, ⟨fun _ i hi => h2 i (by omega), fun _ => rfl⟩⟩

end Go.Proofs.YtiohpiiiapjblaaDoor.W
