/-
  Part 5 of the lemmas of these laws: OpNames, JudgeNames.
-/
import Derived.Test.YtiohpiiiapjblaaDoorPQn4
namespace Go.Proofs.YtiohpiiiapjblaaDoor.W
open Go.RowKit Go.Proofs.YtiohpiiiapjblaaDoor.G
set_option linter.unusedVariables false
set_option maxRecDepth 20000
set_option maxHeartbeats 8000000
attribute [local irreducible] RS RX
theorem E79 : Enters Tryd.prog 79 := .mk Tryd.func79 (by kernel_rfl) rfl
theorem idsW {S0 : Nat → Prop} (a : Option Addr) (n c : Nat) (ids : List Int) (w : World) (D0 : WRow .u8 32 S0 w a n ids) (hc : n ≤ c) (hn : n ≤ 60) (hr : S.Rising n ids) :
  Calls Tryd.prog 42 #[.slice a n c] w (Ret w fun v w' => ∃ a' n' c', v = .tuple #[.slice a' n' c', .int .i64 0] ∧ IOwn w.heap.size w' 5 .u8 a' n' c' (S.listS n ids)) := by
 replace D0 := D0.weaken (T := fun k => k < w.heap.size) (fun k hk _ => hk)
 have hE := Ext.refl w
 refine enterU 27 Tryd.func42 rfl rfl ?_
 refine sq fun K1 hK1 => ?_
 refine RS.asS rfl ?_
 refine RS.asI rfl ?_
 refine nl hK1 ?_
 refine wp_seq_k (fun K2 hK2 => ?_)
 refine sq fun K3 hK3 => ?_
 refine RS.mvS rfl ?_
 refine RS.o (D.len rfl Tryd.underlying23) ?_
 refine RS.o (D.gt rfl rfl) ?_
 refine nl hK3 ?_
 refine C.ifd rfl (fun c4 => ?_) (fun c4 => ?_)
 ·exact absurd c4 (by omega)
 refine wp_skip ?_
 refine hK2 _ _ ?_
 refine wp_seq_k (fun K5 hK5 => ?_)
 refine sq fun K6 hK6 => ?_
 refine RS.mvS rfl ?_
 refine RS.call E79 (risingW _ _ _ _ _ D0 hc (by omega)) rfl (fun v7 w7 x7 A7 => ?_)
 replace hE := Ext.tr hE x7
 replace D0 := D0.ext x7
 have zw7 := x7.size
 subst A7
 refine RS.nm ?_
 refine RS.o (D.not rfl) ?_
 refine nl hK6 ?_
 refine C.ifnot rfl (fun c8 => ?_) (fun c8 => ?_)
 ·rw [decide_eq_true hr] at c8; cases c8
 refine wp_skip ?_
 refine hK5 _ _ ?_
 refine sq fun K9 hK9 => ?_
 refine RS.mvS rfl ?_
 refine RS.o (D.len rfl Tryd.underlying23) ?_
 refine RS.o (D.conv rfl Tryd.underlying3 Tryd.underlying24 (W.u64 (by omega))) ?_
 refine RS.call E44 (numW _ (by omega) _) rfl (fun v10 w10 x10 A10 => ?_)
 replace hE := Ext.tr hE x10
 replace D0 := D0.ext x10
 have zw10 := x10.size
 obtain ⟨a10, n10, c10, rfl, O1⟩ := A10
 replace O1 := O1.base (lo' := w.heap.size) (fun k hk => by have := O1.lo k hk; omega)
 have hnl := S.numS_len (n : Int)
 have hol0 := O1.len
 refine RS.nm ?_
 refine RS.asS rfl ?_
 refine nl hK9 ?_
 refine wp_seq_k (fun K11 hK11 => ?_)
 refine sq fun K12 hK12 => ?_
 refine RS.mvS rfl ?_
 refine RS.o (D.len rfl Tryd.underlying23) ?_
 refine RS.mvI rfl ?_
 refine nl hK12 ?_
 refine wp_block ?_
 refine C.loop (A := Int × Option Addr × Nat × Nat) (fun p => [(4, .slice p.2.1 p.2.2.1 p.2.2.2), (19, .int .i64 p.1)]) [6, 20, 21, 22, 23, 24, 25, 26] (fun p w' => Pr (fun k => w.heap.size ≤ k) w10 w' ∧ ((0 ≤ p.1 ∧ p.1 ≤ n) ∧ IOwn w.heap.size w' 5 .u8 p.2.1 p.2.2.1 p.2.2.2 (S.numS n ++ ids.take (32 * p.1.toNat)))) (fun p => (n - p.1.toNat)) (0, a10, n10, c10) (by kernel_rfl) ?_ ?_
 ·refine ⟨Pr.refl _ _, ⟨by dsimp only; omega, by dsimp only; omega⟩, ?_⟩
  dsimp only
  rw [show (0 : Int).toNat = 0 from rfl, Nat.mul_zero, List.take_zero, List.append_nil]
  exact O1
 rintro p j w13 ⟨x13, hI⟩
 replace hE := hE.trans (x13.belo)
 replace D0 := D0.pro x13
 have zw13 := x13.size
 obtain ⟨i, ao, no, co⟩ := p
 dsimp only at hI
 obtain ⟨h1, O1⟩ := hI
 have hol := O1.len
 rw [List.length_append, List.length_take, D0.len] at hol
 have hob := O1.lo
 refine C.norm (by simp only [upd, junk, List.map_cons, List.map_nil, List.set_cons_succ, List.set_cons_zero]; exact rfl) ?_
 refine sq fun K14 hK14 => ?_
 refine RS.o (D.lt rfl rfl) ?_
 refine nl hK14 ?_
 refine wp_seq_k (fun K15 hK15 => ?_)
 refine C.ifd rfl (fun c16 => ?_) (fun c16 => ?_)
 ·refine wp_skip ?_
  refine hK15 _ _ ?_
  refine wp_seq_k (fun K17 hK17 => ?_)
  refine wp_block ?_
  refine sq fun K18 hK18 => ?_
  refine RS.idxW D0 rfl rfl Tryd.underlying23 C42 (by decide) (by omega) (fun b19 o19 h19 q19 r19 => ?_)
  refine RS.nm ?_
  have r1 := r19
  refine RS.o (D.loadW rfl Tryd.underlying42 rfl C42 (by decide) r19 h19) ?_
  refine RS.alloc T42 (fun b20 w20 e20 s20 x20 B20 => ?_)
  refine RS.nm ?_
  replace hE := Ext.tr hE x20
  replace x13 := x13.ext x20
  replace D0 := D0.ext x20
  replace O1 := O1.ext x20
  have zw20 := x20.size
  have A20 : IArr .u8 w20 b20 32 (List.replicate 32 0) [] 42 := IArr.zero B20
  clear B20
  refine RS.storeArr A20 rfl rfl C42 (by decide) (by first | assumption | exact And.left (by assumption) | exact IArr.len (by assumption)) (by first | assumption | exact And.right (by assumption) | exact IArr.bd (by assumption)) (fun w21 y21 N21 => ?_)
  replace hE := hE.trans (y21.belo)
  replace x13 := x13.stno y21
  replace D0 := D0.sto y21
  replace O1 := O1.st y21 (by intros; try (first | (intro _ _) | (intro _) | skip); first | omega | (have hq := hob _ (by assumption); first | omega | (dsimp only at *; omega)))
  have zw21 := y21.size
  replace A20 := N21
  refine nl hK18 ?_
  refine region ?_
  refine RS.mvS rfl ?_
  refine RS.o (D.sliceArr (kl := .i64) (kh := .i64) rfl Tryd.underlying42 C5 rfl rfl (by omega)) ?_
  refine RS.appendI O1 (A20.row (S := fun k => k = b20) rfl) rfl rfl Tryd.underlying35 T5 rfl (by omega) (by decide) (by omega) (fun a22 c22 w22 N22 x22 => ?_)
  refine RS.nm ?_
  replace hE := hE.trans (x22.below (by intros; try (first | (intro _ _) | (intro _) | skip); first | omega | (have hq := O1.lo _ (by assumption); first | omega | (dsimp only at *; omega))) (by intros; try (first | (intro _ _) | (intro _) | skip); first | omega | (dsimp only at *; omega) | (simp_all; done) | (simp at *; omega)))
  replace x13 := x13.prn x22 (by intros; try (first | (intro _ _) | (intro _) | skip); first | omega | (have hq := O1.lo _ (by assumption); first | omega | (dsimp only at *; omega)))
  replace D0 := D0.pr x22 (by intros; try (first | (intro _ _) | (intro _) | skip); first | omega | (have hq := O1.lo _ (by assumption); first | omega | (dsimp only at *; omega)))
  have zw22 := x22.size
  replace O1 := N22
  refine RS.asS rfl ?_
  refine nl hK17 ?_
  refine region ?_
  refine RS.o (D.add rfl rfl (W.i64 (by omega))) ?_
  refine RS.mvI rfl ?_
  refine RS.nil ?_
  change Nx _ _ _ _ _ _ _ _
  refine C.next (i + 1, _, _, _) ⟨rfl, rfl, trivial⟩ (by kernel_rfl) ?_ ?_
  ·refine ⟨x13, ⟨by dsimp only; omega, by dsimp only; omega⟩, ?_⟩
   dsimp only
   rw [show (i + 1).toNat = i.toNat + 1 by omega, elt_cat, ← List.append_assoc]
   exact O1
  dsimp only; omega
 refine wp_exit ?_
 refine hK11 _ _ ?_
 refine sq fun K23 hK23 => ?_
 refine RS.mvS rfl ?_
 refine RS.asS rfl ?_
 refine RS.asI rfl ?_
 refine nl hK23 ?_
 refine wp_ret ?_
 refine ret (rs := [.tmp 2, .tmp 3]) (vs := [.slice _ _ _, .int _ _]) (v := (.tuple #[.slice _ _ _, .int _ _])) rfl ⟨rfl, rfl, trivial⟩ rfl ?_
 have hdl := D0.len
 rw [show i.toNat = n by omega, List.take_of_length_le (by omega)] at O1
 exact ⟨_, rfl, hE, _, _, _, rfl, O1⟩
theorem sameIDs {S0 S1 : Nat → Prop} (a : Option Addr) (n c : Nat) (xs : List Int) (a2 : Option Addr) (n2 c2 : Nat) (ys : List Int) (w : World) (D0 : WRow .u8 32 S0 w a n xs) (D1 : WRow .u8 32 S1 w a2 n2 ys) (hn : n ≤ 1000) (hn2 : n2 ≤ 1000) :
  Calls Tryd.prog 63 #[.slice a n c, .slice a2 n2 c2] w (Ret w fun v _ => v = .bool (decide (xs = ys))) := by
 have hl0 := D0.len
 have hl1 := D1.len
 have hE := Ext.refl w
 refine enterU 24 Tryd.func63 rfl rfl ?_
 refine sq fun K1 hK1 => ?_
 refine RS.asB rfl ?_
 refine nl hK1 ?_
 refine wp_seq_k (fun K2 hK2 => ?_)
 refine sq fun K3 hK3 => ?_
 refine RS.mvS rfl ?_
 refine RS.o (D.len rfl Tryd.underlying23) ?_
 refine RS.mvS rfl ?_
 refine RS.o (D.len rfl Tryd.underlying23) ?_
 refine RS.o (D.ne rfl rfl) ?_
 refine nl hK3 ?_
 refine C.ifn rfl (fun c4 => ?_) (fun c4 => ?_)
 ·have hne := c4
  refine sq fun K5 hK5 => ?_
  refine RS.asB rfl ?_
  refine nl hK5 ?_
  refine wp_ret ?_
  refine retB rfl rfl ?_
  refine ⟨_, rfl, hE, congrArg Value.bool (decide_eq_false ?_).symm⟩
  intro e
  rw [e] at hl0
  omega
 have hne := c4
 refine wp_skip ?_
 refine hK2 _ _ ?_
 refine wp_seq_k (fun K6 hK6 => ?_)
 refine sq fun K7 hK7 => ?_
 refine RS.asI rfl ?_
 refine nl hK7 ?_
 refine wp_block ?_
 refine C.loop (A := Int) (fun p => [(5, .int .i64 p)]) [4, 11, 12, 13, 14, 15, 16, 17, 18, 19, 20, 21, 22, 23, 24, 25] (fun p w' => Ext w w' ∧ ((0 ≤ p ∧ p ≤ n) ∧ xs.take (32 * p.toNat) = ys.take (32 * p.toNat))) (fun p => (n - p.toNat)) 0 (by kernel_rfl) ?_ ?_
 ·exact ⟨Ext.refl _, ⟨by omega, by omega⟩, rfl⟩
 rintro p j w8 ⟨x8, hI⟩
 replace hE := Ext.tr hE x8
 replace D0 := D0.ext x8
 replace D1 := D1.ext x8
 have zw8 := x8.size
 obtain ⟨h1, h2⟩ := hI
 refine C.norm (by simp only [upd, junk, List.map_cons, List.map_nil, List.set_cons_succ, List.set_cons_zero]; exact rfl) ?_
 refine wp_seq_k (fun K9 hK9 => ?_)
 refine sq fun K10 hK10 => ?_
 refine RS.mvI rfl ?_
 refine RS.mvS rfl ?_
 refine RS.o (D.len rfl Tryd.underlying23) ?_
 refine RS.o (D.lt rfl rfl) ?_
 refine nl hK10 ?_
 refine C.ifd rfl (fun c11 => ?_) (fun c11 => ?_)
 ·refine wp_skip ?_
  refine hK9 _ _ ?_
  refine wp_seq_k (fun K12 hK12 => ?_)
  refine wp_block ?_
  refine wp_seq_k (fun K13 hK13 => ?_)
  refine regionX Ext [(0, .q), (1, .q), (2, .q), (3, .q), (4, .q), (5, .q), (6, .q), (7, .q), (8, .q)] mixed Ext.refl (fun h k => h.tr k) (by kernel_rfl) (fun w14 x14 => ?_)
  replace hE := Ext.tr hE x14
  replace x8 := Ext.tr x8 x14
  replace D0 := D0.ext x14
  replace D1 := D1.ext x14
  have zw14 := x14.size
  refine RX.mvS rfl ?_
  refine RX.mvI rfl ?_
  refine RX.idxW (fun _ h => h) D0 rfl rfl Tryd.underlying23 C42 (by decide) (by omega) (fun b15 o15 h15 q15 r15 => ?_)
  refine RX.nm ?_
  have r1 := r15
  refine RX.o (fun w' hw => D.loadW rfl Tryd.underlying42 rfl C42 (by decide) r15 (h15 w' hw)) ?_
  refine RX.mvS rfl ?_
  refine RX.mvI rfl ?_
  refine RX.idxW (fun _ h => h) D1 rfl rfl Tryd.underlying23 C42 (by decide) (by omega) (fun b16 o16 h16 q16 r16 => ?_)
  refine RX.nm ?_
  have r2 := r16
  refine RX.o (fun w' hw => D.loadW rfl Tryd.underlying42 rfl C42 (by decide) r16 (h16 w' hw)) ?_
  refine RX.o (fun w' hw => D.neI rfl rfl Tryd.underlying42 Tryd.underlying5 C5 (by kernel_rfl) r1.1 r2.1 (by decide)) ?_
  refine RX.nil (hK13 _ _ ?_)
  refine C.ifb rfl (fun c17 => ?_) (fun c17 => ?_)
  ·have hd := c17
   refine sq fun K18 hK18 => ?_
   refine RS.asB rfl ?_
   refine nl hK18 ?_
   refine wp_ret ?_
   refine retB rfl rfl ?_
   refine ⟨_, rfl, hE, congrArg Value.bool (decide_eq_false ?_).symm⟩
   intro e
   rw [e] at hd
   exact of_decide_eq_true hd rfl
  have hd := c17
  refine wp_skip ?_
  refine hK12 _ _ ?_
  refine region ?_
  refine RS.mvI rfl ?_
  refine RS.o (D.add rfl rfl (W.i64 (by omega))) ?_
  refine RS.asI rfl ?_
  refine RS.nil ?_
  change Nx _ _ _ _ _ _ _ _
  refine C.next (p + 1) ⟨rfl, trivial⟩ (by kernel_rfl) ?_ ?_
  ·refine ⟨x8, ⟨by omega, by omega⟩, ?_⟩
   rw [show (p + 1).toNat = p.toNat + 1 by omega, elt_cat, elt_cat, h2]
   rw [Decidable.not_not.1 (of_decide_eq_false hd)]
  omega
 have hlt := c11
 refine wp_exit ?_
 refine hK6 _ _ ?_
 refine sq fun K19 hK19 => ?_
 refine RS.asB rfl ?_
 refine nl hK19 ?_
 refine wp_ret ?_
 refine retB rfl rfl ?_
 refine ⟨_, rfl, hE, congrArg Value.bool (decide_eq_true ?_).symm⟩
 rw [List.take_of_length_le (by omega), List.take_of_length_le (by omega)] at h2
 exact h2
theorem isSorted {S0 : Nat → Prop} (a : Option Addr) (n c : Nat) (ids : List Int) (w : World) (D0 : WRow .u8 32 S0 w a n ids) (hc : n ≤ c) (hn : n ≤ 1000) :
  Calls Tryd.prog 55 #[.slice a n c, .func (.func 56) #[] #[]] w (Ret w fun v _ => v = .bool (decide (S.Sorted n ids))) := by
 replace D0 := D0.weaken (T := fun k => k < w.heap.size) (fun k hk _ => hk)
 have hE := Ext.refl w
 refine enterU 23 Tryd.func55 rfl rfl ?_
 refine sq fun K1 hK1 => ?_
 refine RS.asB rfl ?_
 refine nl hK1 ?_
 refine wp_seq_k (fun K2 hK2 => ?_)
 refine sq fun K3 hK3 => ?_
 refine RS.mvS rfl ?_
 refine RS.o (D.len rfl Tryd.underlying23) ?_
 refine RS.o (D.sub rfl rfl (W.i64 (by omega))) ?_
 refine RS.asI rfl ?_
 refine nl hK3 ?_
 refine wp_block ?_
 refine C.loop (A := Int) (fun p => [(5, .int .i64 p)]) [4, 9, 10, 11, 12, 13, 14, 15, 16, 17, 18, 19, 20, 21, 22, 23, 24] (fun p w' => Ext w w' ∧ ((-1 ≤ p ∧ p < n) ∧ (∀ j, p.toNat ≤ j → j < n - 1 → ¬ S.cmpS (S.idAt ids (j + 1)) (S.idAt ids j) < 0))) (fun p => (p + 1).toNat) ((n : Int) - 1) (by kernel_rfl) ?_ ?_
 ·exact ⟨Ext.refl _, ⟨by omega, by omega⟩, fun j hj hj2 => by omega⟩
 rintro p j w4 ⟨x4, hI⟩
 replace hE := Ext.tr hE x4
 replace D0 := D0.ext x4
 have zw4 := x4.size
 obtain ⟨h1, h2⟩ := hI
 refine C.norm (by simp only [upd, junk, List.map_cons, List.map_nil, List.set_cons_succ, List.set_cons_zero]; exact rfl) ?_
 refine wp_seq_k (fun K5 hK5 => ?_)
 refine sq fun K6 hK6 => ?_
 refine RS.mvI rfl ?_
 refine RS.o (D.gt rfl rfl) ?_
 refine nl hK6 ?_
 refine C.ifd rfl (fun c7 => ?_) (fun c7 => ?_)
 ·refine wp_skip ?_
  refine hK5 _ _ ?_
  refine wp_seq_k (fun K8 hK8 => ?_)
  refine wp_block ?_
  refine wp_seq_k (fun K9 hK9 => ?_)
  refine regionX Ext [(0, .q), (1, .q), (2, .q), (3, .q), (4, .q), (5, .q), (6, .q), (7, .q), (8, .q), (9, .q), (10, .e), (11, .q)] mixed Ext.refl (fun h k => h.tr k) (by kernel_rfl) (fun w10 x10 => ?_)
  replace hE := Ext.tr hE x10
  replace x4 := Ext.tr x4 x10
  replace D0 := D0.ext x10
  have zw10 := x10.size
  refine RX.move (v := .func _ _ _) rfl ?_
  refine RX.mvS rfl ?_
  refine RX.mvI rfl ?_
  refine RX.idxW (fun _ h => h) D0 rfl rfl Tryd.underlying23 C42 (by decide) (by omega) (fun b11 o11 h11 q11 r11 => ?_)
  refine RX.nm ?_
  have r1 := r11
  refine RX.o (fun w' hw => D.loadW rfl Tryd.underlying42 rfl C42 (by decide) r11 (h11 w' hw)) ?_
  refine RX.mvS rfl ?_
  refine RX.mvI rfl ?_
  refine RX.o (fun w' hw => D.sub rfl rfl (W.i64 (by omega))) ?_
  refine RX.idxW (fun _ h => h) D0 rfl rfl Tryd.underlying23 C42 (by decide) (by omega) (fun b12 o12 h12 q12 r12 => ?_)
  refine RX.nm ?_
  have r2 := r12
  refine RX.o (fun w' hw => D.loadW rfl Tryd.underlying42 rfl C42 (by decide) r12 (h12 w' hw)) ?_
  refine RX.eff ?_
  refine RS.callv E56 (dcmp _ _ r1 r2 _) rfl rfl (fun e13 w13 A13 => ?_)
  obtain ⟨v13, rfl, x13, A13⟩ := A13
  refine ⟨_, rfl, ?_⟩
  replace hE := Ext.tr hE x13
  replace x4 := Ext.tr x4 x13
  replace D0 := D0.ext x13
  have zw13 := x13.size
  subst A13
  refine RS.nm ?_
  refine RS.nil ⟨x13, ?_⟩
  refine RX.o (fun w' hw => D.lt rfl rfl) ?_
  refine RX.nil (hK9 _ _ ?_)
  refine C.ifd rfl (fun c14 => ?_) (fun c14 => ?_)
  ·have hg := c14
   refine sq fun K15 hK15 => ?_
   refine RS.asB rfl ?_
   refine nl hK15 ?_
   refine wp_ret ?_
   refine retB rfl rfl ?_
   refine ⟨_, rfl, hE, congrArg Value.bool (decide_eq_false ?_).symm⟩
   intro h
   have := h (p - 1).toNat (by omega)
   rw [S.idAt_elt, S.idAt_elt, show (p - 1).toNat + 1 = p.toNat by omega] at this
   exact this hg
  have hg := c14
  refine wp_skip ?_
  refine hK8 _ _ ?_
  refine region ?_
  refine RS.mvI rfl ?_
  refine RS.o (D.sub rfl rfl (W.i64 (by omega))) ?_
  refine RS.asI rfl ?_
  refine RS.nil ?_
  change Nx _ _ _ _ _ _ _ _
  refine C.next (p - 1) ⟨rfl, trivial⟩ (by kernel_rfl) ?_ ?_
  ·refine ⟨x4, ⟨by omega, by omega⟩, fun j hj hj2 => ?_⟩
   by_cases hjp : p.toNat ≤ j
   ·exact h2 j hjp hj2
   rw [S.idAt_elt, S.idAt_elt, show j + 1 = p.toNat by omega, show j = (p - 1).toNat by omega]
   exact hg
  omega
 have hl := c7
 refine wp_exit ?_
 refine hK2 _ _ ?_
 refine sq fun K16 hK16 => ?_
 refine RS.asB rfl ?_
 refine nl hK16 ?_
 refine wp_ret ?_
 refine retB rfl rfl ?_
 exact ⟨_, rfl, hE, congrArg Value.bool (decide_eq_true (fun j hj => h2 j (by omega) hj)).symm⟩
theorem cloneID {S0 : Nat → Prop} (a : Option Addr) (n c : Nat) (ids : List Int) (w : World) (D0 : WRow .u8 32 S0 w a n ids) (hc : n ≤ c) (hn : n ≤ 1000) :
  Calls Tryd.prog 58 #[.slice a n c] w (Ret w fun v w' => ∃ a' n' c', v = .slice a' n' c' ∧ n' = n ∧ WOwn w.heap.size w' 42 .u8 32 a' n' c' ids) := by
 replace D0 := D0.weaken (T := fun k => k < w.heap.size) (fun k hk _ => hk)
 have hE := Ext.refl w
 refine enterU 7 Tryd.func58 rfl rfl ?_
 refine sq fun K1 hK1 => ?_
 refine RS.asS rfl ?_
 refine nl hK1 ?_
 refine wp_seq_k (fun K2 hK2 => ?_)
 refine sq fun K3 hK3 => ?_
 refine RS.mvS rfl ?_
 refine RS.o (D.nilS rfl rfl Tryd.underlying23) ?_
 refine nl hK3 ?_
 refine C.ifb rfl (fun c4 => ?_) (fun c4 => ?_)
 ·have hc0 := c4
  refine sq fun K5 hK5 => ?_
  refine RS.asS rfl ?_
  refine nl hK5 ?_
  refine wp_ret ?_
  refine ret (rs := [.tmp 2]) (vs := [.slice _ _ _]) (v := (.slice _ _ _)) rfl ⟨rfl, trivial⟩ rfl ?_
  obtain ⟨rfl, rfl⟩ := D0.none (by decide) hc0
  exact ⟨_, rfl, hE, _, _, _, rfl, rfl, WOwn.nil _ _ _ _ _⟩
 refine wp_skip ?_
 refine hK2 _ _ ?_
 refine sq fun K6 hK6 => ?_
 refine RS.buildNone Tryd.underlying23 T42 (fun b7 w7 e7 s7 x7 B7 => ?_)
 refine RS.nm ?_
 replace hE := Ext.tr hE x7
 replace D0 := D0.ext x7
 have zw7 := x7.size
 have O1 : WOwn w.heap.size w7 42 .u8 32 (some ⟨b7, 0, none⟩) 0 0 [] := WOwn.of_blk B7 rfl rfl (by omega) (Bd.nil _) (by decide)
 refine RS.mvS rfl ?_
 refine RS.appendW O1 D0 rfl rfl Tryd.underlying23 T42 (by simp [ints]) (by decide) (by omega) (by decide) (by omega) (fun a8 c8 w8 N8 x8 => ?_)
 refine RS.nm ?_
 replace hE := hE.trans (x8.below (by intros; try (first | (intro _ _) | (intro _) | skip); first | omega | (have hq := O1.los _ (by assumption); first | omega | (dsimp only at *; omega))) (by intros; try (first | (intro _ _) | (intro _) | skip); first | omega | (dsimp only at *; omega) | (simp_all; done) | (simp at *; omega)))
 replace D0 := D0.pr x8 (by intros; try (first | (intro _ _) | (intro _) | skip); first | omega | (have hq := O1.los _ (by assumption); first | omega | (dsimp only at *; omega)))
 have zw8 := x8.size
 replace O1 := N8
 refine RS.asS rfl ?_
 refine nl hK6 ?_
 refine wp_ret ?_
 refine ret (rs := [.tmp 2]) (vs := [.slice _ _ _]) (v := (.slice _ _ _)) rfl ⟨rfl, trivial⟩ rfl ?_
 exact ⟨_, rfl, hE, _, _, _, rfl, Nat.zero_add _, O1⟩
theorem compact (lo : Nat) (a : Option Addr) (n c : Nat) (ids : List Int) (g0 : Nat) (w : World) (O1 : WOwn lo w 42 .u8 32 a n c ids) (hg : n < 2 ∨ a = some ⟨g0, 0, none⟩) (hn : n ≤ 1000) :
  Calls Tryd.prog 57 #[.slice a n c] w (fun e w' => ∃ a' n' c', e = .returned (.slice a' n' c') ∧ Pr (fun k => k = g0) w w' ∧ (n' = n ↔ S.Apart n ids)) := by
 have D0 := O1.row
 have hcap := O1.own.pre
 have hdl := D0.len
 have hE := Pr.refl (fun k => k = g0) w
 refine enterU 60 Tryd.func57 rfl rfl ?_
 refine sq fun K1 hK1 => ?_
 refine RS.asS rfl ?_
 refine nl hK1 ?_
 refine wp_seq_k (fun K2 hK2 => ?_)
 refine sq fun K3 hK3 => ?_
 refine RS.mvS rfl ?_
 refine RS.o (D.len rfl Tryd.underlying23) ?_
 refine RS.o (D.lt rfl rfl) ?_
 refine nl hK3 ?_
 refine C.ifd rfl (fun c4 => ?_) (fun c4 => ?_)
 ·have h8 := c4
  refine sq fun K5 hK5 => ?_
  refine RS.mvS rfl ?_
  refine RS.asS rfl ?_
  refine nl hK5 ?_
  refine wp_ret ?_
  change bodyPost Tryd.prog Tryd.f57 (fun e w' => ∃ a' n' c', e = .returned (.slice a' n' c') ∧ Pr (fun k => k = g0) w w' ∧ (n' = n ↔ S.Apart n ids)) .ret _ _
  refine ret (rs := [.tmp 2]) (vs := [.slice _ _ _]) (v := (.slice _ _ _)) rfl ⟨rfl, trivial⟩ rfl ?_
  exact ⟨_, _, _, rfl, hE, ⟨fun _ i hi => by omega, fun _ => rfl⟩⟩
 have h8 := c4
 refine wp_skip ?_
 refine hK2 _ _ ?_
 refine wp_seq_k (fun K6 hK6 => ?_)
 refine wp_seq_k (fun K7 hK7 => ?_)
 obtain rfl : a = some ⟨g0, 0, none⟩ := by rcases hg with h | h; omega; exact h
 refine region ?_
 refine RS.asI rfl ?_
 refine nl hK7 ?_
 refine wp_block ?_
 refine C.loop (A := Int) (fun p => [(3, .int .i64 p)]) [2, 4, 5, 10, 11, 12, 13, 14, 15, 16, 17, 18, 19, 20, 21, 22, 23, 24, 25, 26, 27, 28, 29, 30, 31, 32, 33, 34, 35, 36, 37, 38, 39, 40, 41, 42, 43, 44, 45, 46, 47, 48, 49, 50, 51, 52, 53, 54, 55, 56, 57, 58, 59] (fun p w' => Ext w w' ∧ ((1 ≤ p ∧ p ≤ n) ∧ (∀ j, j < p.toNat - 1 → S.idAt ids (j + 1) ≠ S.idAt ids j))) (fun p => (n - p.toNat)) 1 (by kernel_rfl) ?_ ?_
 ·exact ⟨Ext.refl _, ⟨by omega, by omega⟩, fun j hj => by omega⟩
 rintro p j w8 ⟨x8, hI⟩
 replace hE := hE.ext x8
 replace O1 := O1.ext x8
 replace D0 := D0.ext x8
 have zw8 := x8.size
 obtain ⟨h1, h2⟩ := hI
 obtain ⟨k, hk⟩ : ∃ k, k = p := ⟨p, rfl⟩
 subst hk
 refine C.norm (by simp only [upd, junk, List.map_cons, List.map_nil, List.set_cons_succ, List.set_cons_zero]; exact rfl) ?_
 refine wp_seq_k (fun K9 hK9 => ?_)
 refine sq fun K10 hK10 => ?_
 refine RS.mvI rfl ?_
 refine RS.mvS rfl ?_
 refine RS.o (D.len rfl Tryd.underlying23) ?_
 refine RS.o (D.lt rfl rfl) ?_
 refine nl hK10 ?_
 refine C.ifd rfl (fun c11 => ?_) (fun c11 => ?_)
 ·refine wp_skip ?_
  refine hK9 _ _ ?_
  refine wp_seq_k (fun K12 hK12 => ?_)
  refine wp_block ?_
  refine wp_seq_k (fun K13 hK13 => ?_)
  refine regionX Ext [(0, .q), (1, .q), (2, .q), (3, .q), (4, .q), (5, .q), (6, .q), (7, .q), (8, .q), (9, .q)] mixed Ext.refl (fun h k => h.tr k) (by kernel_rfl) (fun w14 x14 => ?_)
  replace hE := hE.ext x14
  replace x8 := Ext.tr x8 x14
  replace O1 := O1.ext x14
  replace D0 := D0.ext x14
  have zw14 := x14.size
  refine RX.mvS rfl ?_
  refine RX.mvI rfl ?_
  refine RX.idxW (fun _ h => h) D0 rfl rfl Tryd.underlying23 C42 (by decide) (by omega) (fun b15 o15 h15 q15 r15 => ?_)
  refine RX.nm ?_
  have r1 := r15
  refine RX.o (fun w' hw => D.loadW rfl Tryd.underlying42 rfl C42 (by decide) r15 (h15 w' hw)) ?_
  refine RX.mvS rfl ?_
  refine RX.mvI rfl ?_
  refine RX.o (fun w' hw => D.sub rfl rfl (W.i64 (by omega))) ?_
  refine RX.idxW (fun _ h => h) D0 rfl rfl Tryd.underlying23 C42 (by decide) (by omega) (fun b16 o16 h16 q16 r16 => ?_)
  refine RX.nm ?_
  have r2 := r16
  refine RX.o (fun w' hw => D.loadW rfl Tryd.underlying42 rfl C42 (by decide) r16 (h16 w' hw)) ?_
  refine RX.o (fun w' hw => D.eqI rfl rfl Tryd.underlying42 Tryd.underlying5 C5 (by kernel_rfl) r1.1 r2.1 (by decide)) ?_
  refine RX.nil (hK13 _ _ ?_)
  refine C.ifb rfl (fun c17 => ?_) (fun c17 => ?_)
  ·have heq := of_decide_eq_true c17
   refine sq fun K18 hK18 => ?_
   refine RS.mvS rfl ?_
   refine RS.mvI rfl ?_
   refine RS.o (D.slice (kl := .i64) (kh := .i64) rfl Tryd.underlying23 C42 (by decide) rfl rfl (by omega) (by omega)) ?_
   refine RS.asS rfl ?_
   refine nl hK18 ?_
   refine wp_seq_k (fun K19 hK19 => ?_)
   refine wp_seq_k (fun K20 hK20 => ?_)
   have hA2 : subA (some ⟨g0, 0, none⟩) k.toNat 32 c = some ⟨g0, k.toNat * 32, none⟩ := by unfold subA; rw [if_neg (by omega)]; simp [add_mk]
   have U1 := O1.ub
   refine region ?_
   refine RS.asI rfl ?_
   refine nl hK20 ?_
   refine wp_block ?_
   refine C.loop (A := Int × Int) (fun p => [(3, .int .i64 p.1), (5, .int .i64 p.2)]) [29, 30, 31, 32, 33, 34, 35, 36, 37, 38, 39, 40, 41, 42, 43, 44, 45, 46, 47, 48, 49, 50, 51, 52, 53] (fun p w' => Pr (fun k => k = g0) w14 w' ∧ (UB w' g0 (32 * n) 42 ∧ (k ≤ p.1 ∧ 1 ≤ p.2 ∧ p.1 + 1 ≤ k + p.2 ∧ p.2 ≤ n - k))) (fun p => (n - p.2.toNat)) (k, 1) (by kernel_rfl) ?_ ?_
   ·exact ⟨Pr.refl _ _, U1, by dsimp only; omega⟩
   rintro p j w21 ⟨x21, hI⟩
   replace hE := hE.prno x21
   have zw21 := x21.size
   obtain ⟨k1, k2⟩ := p
   dsimp only at hI
   obtain ⟨U1, g1⟩ := hI
   refine C.norm (by simp only [upd, junk, List.map_cons, List.map_nil, List.set_cons_succ, List.set_cons_zero]; exact rfl) ?_
   refine wp_seq_k (fun K22 hK22 => ?_)
   refine sq fun K23 hK23 => ?_
   refine RS.mvI rfl ?_
   refine RS.mvS rfl ?_
   refine RS.o (D.len rfl Tryd.underlying23) ?_
   refine RS.o (D.lt rfl rfl) ?_
   refine nl hK23 ?_
   refine C.ifd rfl (fun c24 => ?_) (fun c24 => ?_)
   ·refine wp_skip ?_
    refine hK22 _ _ ?_
    refine wp_seq_k (fun K25 hK25 => ?_)
    refine wp_block ?_
    refine wp_seq_k (fun K26 hK26 => ?_)
    refine regionX Ext [(0, .q), (1, .q), (2, .q), (3, .q), (4, .q), (5, .q), (6, .q), (7, .q), (8, .q), (9, .q)] mixed Ext.refl (fun h k => h.tr k) (by kernel_rfl) (fun w27 x27 => ?_)
    replace hE := hE.ext x27
    replace x21 := x21.ext x27
    replace U1 := U1.ext x27
    have zw27 := x27.size
    refine RX.mvS rfl ?_
    refine RX.mvI rfl ?_
    refine RX.idxU (fun _ h => h) U1 hA2 rfl rfl Tryd.underlying23 C42 (by decide) (by omega) (by omega) (fun u28 o28 g28 h28 r28 => ?_)
    refine RX.nm ?_
    have r3 := r28
    refine RX.o (fun w' hw => D.loadW rfl Tryd.underlying42 rfl C42 (by decide) r28 (h28 w' hw)) ?_
    refine RX.mvS rfl ?_
    refine RX.mvI rfl ?_
    refine RX.o (fun w' hw => D.sub rfl rfl (W.i64 (by omega))) ?_
    refine RX.idxU (fun _ h => h) U1 hA2 rfl rfl Tryd.underlying23 C42 (by decide) (by omega) (by omega) (fun u29 o29 g29 h29 r29 => ?_)
    refine RX.nm ?_
    have r4 := r29
    refine RX.o (fun w' hw => D.loadW rfl Tryd.underlying42 rfl C42 (by decide) r29 (h29 w' hw)) ?_
    refine RX.o (fun w' hw => D.neI rfl rfl Tryd.underlying42 Tryd.underlying5 C5 (by kernel_rfl) r3.1 r4.1 (by decide)) ?_
    refine RX.nil (hK26 _ _ ?_)
    refine C.ifb rfl (fun c30 => ?_) (fun c30 => ?_)
    ·refine wp_seq_k (fun K31 hK31 => ?_)
     refine region ?_
     refine RS.mvS rfl ?_
     refine RS.mvI rfl ?_
     refine RS.mvS rfl ?_
     refine RS.mvI rfl ?_
     refine RS.idxU U1 hA2 rfl rfl Tryd.underlying23 C42 (by decide) (by omega) (by omega) (fun u32 o32 g32 h32 r32 => ?_)
     refine RS.nm ?_
     have r5 := r32
     refine RS.o (D.loadW rfl Tryd.underlying42 rfl C42 (by decide) r32 h32) ?_
     refine RS.idxU U1 rfl rfl rfl Tryd.underlying23 C42 (by decide) (by omega) (by omega) (fun u33 o33 g33 h33 r33 => ?_)
     refine RS.nm ?_
     refine RS.storeU U1 rfl rfl C42 (by decide) (by assumption) (by omega) (fun w34 y34 N34 => ?_)
     replace hE := hE.stno y34
     replace x21 := x21.stno y34
     have zw34 := y34.size
     replace U1 := N34
     refine nl hK31 ?_
     refine region ?_
     refine RS.mvI rfl ?_
     refine RS.o (D.add rfl rfl (W.i64 (by omega))) ?_
     refine RS.asI rfl ?_
     refine nl hK25 ?_
     refine region ?_
     refine RS.mvI rfl ?_
     refine RS.o (D.add rfl rfl (W.i64 (by omega))) ?_
     refine RS.asI rfl ?_
     refine RS.nil ?_
     change Nx _ _ _ _ _ _ _ _
     refine C.next (k1 + 1, k2 + 1) ⟨rfl, rfl, trivial⟩ (by kernel_rfl) ?_ ?_
     ·exact ⟨x21, U1, by dsimp only; omega⟩
     dsimp only; omega
    refine wp_skip ?_
    refine hK25 _ _ ?_
    refine region ?_
    refine RS.mvI rfl ?_
    refine RS.o (D.add rfl rfl (W.i64 (by omega))) ?_
    refine RS.asI rfl ?_
    refine RS.nil ?_
    change Nx _ _ _ _ _ _ _ _
    refine C.next (k1, k2 + 1) ⟨rfl, rfl, trivial⟩ (by kernel_rfl) ?_ ?_
    ·exact ⟨x21, U1, by dsimp only; omega⟩
    dsimp only; omega
   refine wp_exit ?_
   refine hK19 _ _ ?_
   refine wp_seq_k (fun K35 hK35 => ?_)
   have hA3 : subA (some ⟨g0, 0, none⟩) k1.toNat 32 c = some ⟨g0, k1.toNat * 32, none⟩ := by unfold subA; rw [if_neg (by omega)]; simp [add_mk]
   refine region ?_
   refine RS.mvS rfl ?_
   refine RS.mvI rfl ?_
   refine RS.o (D.slice (kl := .i64) (kh := .i64) rfl Tryd.underlying23 C42 (by decide) rfl rfl (by omega) (by omega)) ?_
   refine RS.clearU U1 hA3 rfl Tryd.underlying23 T42 (by intro v hv; obtain ⟨x, hx, rfl⟩ := List.mem_map.1 hv; rw [(List.mem_replicate.1 hx).2]) (by simp [ints]) (by decide) (by omega) (fun w36 y36 N36 => ?_)
   replace hE := hE.stno y36
   have zw36 := y36.size
   replace U1 := N36
   refine nl hK35 ?_
   refine sq fun K37 hK37 => ?_
   refine RS.mvS rfl ?_
   refine RS.mvI rfl ?_
   refine RS.o (D.slice (kl := .i64) (kh := .i64) rfl Tryd.underlying23 C42 (by decide) rfl rfl (by omega) (by omega)) ?_
   refine RS.asS rfl ?_
   refine nl hK37 ?_
   refine wp_ret ?_
   change bodyPost Tryd.prog Tryd.f57 (fun e w' => ∃ a' n' c', e = .returned (.slice a' n' c') ∧ Pr (fun k => k = g0) w w' ∧ (n' = n ↔ S.Apart n ids)) .ret _ _
   refine ret (rs := [.tmp 2]) (vs := [.slice _ _ _]) (v := (.slice _ _ _)) rfl ⟨rfl, trivial⟩ rfl ?_
   refine ⟨_, _, _, rfl, hE, ⟨fun h => ?_, fun h => ?_⟩⟩
   ·omega
   have := h (k.toNat - 1) (by omega)
   rw [S.idAt_elt, S.idAt_elt, show k.toNat - 1 + 1 = k.toNat by omega, show k.toNat - 1 = (k - 1).toNat by omega] at this
   exact (this heq).elim
  have hne := of_decide_eq_false c17
  refine wp_skip ?_
  refine hK12 _ _ ?_
  refine region ?_
  refine RS.mvI rfl ?_
  refine RS.o (D.add rfl rfl (W.i64 (by omega))) ?_
  refine RS.asI rfl ?_
  refine RS.nil ?_
  change Nx _ _ _ _ _ _ _ _
  refine C.next (k + 1) ⟨rfl, trivial⟩ (by kernel_rfl) ?_ ?_
  ·refine ⟨x8, ⟨by omega, by omega⟩, fun j hj => ?_⟩
   by_cases hjp : j < k.toNat - 1
   ·exact h2 j hjp
   rw [S.idAt_elt, S.idAt_elt, show j + 1 = k.toNat by omega, show j = (k - 1).toNat by omega]
   exact hne
  omega
 have hlast := c11
 refine wp_exit ?_
 refine hK6 _ _ ?_
 refine sq fun K38 hK38 => ?_
 refine RS.mvS rfl ?_
 refine RS.asS rfl ?_
 refine nl hK38 ?_
 refine wp_ret ?_
 change bodyPost Tryd.prog Tryd.f57 (fun e w' => ∃ a' n' c', e = .returned (.slice a' n' c') ∧ Pr (fun k => k = g0) w w' ∧ (n' = n ↔ S.Apart n ids)) .ret _ _
 refine ret (rs := [.tmp 2]) (vs := [.slice _ _ _]) (v := (.slice _ _ _)) rfl ⟨rfl, trivial⟩ rfl ?_
 exact ⟨_, _, _, rfl, hE, ⟨fun _ i hi => h2 i (by omega), fun _ => rfl⟩⟩
end Go.Proofs.YtiohpiiiapjblaaDoor.W
namespace Go.Proofs.YtiohpiiiapjblaaDoor.W
open Go.RowKit Go.Proofs.YtiohpiiiapjblaaDoor.G
set_option linter.unusedVariables false
set_option maxRecDepth 20000
set_option maxHeartbeats 8000000
attribute [local irreducible] RS RX
theorem C26 : Tryd.prog.cellsOf 26 = 4 := by kernel_rfl
theorem T26 : TI Tryd.prog 26 4 40 [.int .u8 0, .int .i64 0, .int .u64 0, .string .empty] := by
 have h : (Tryd.prog.info? 26).map (fun i => (i.size, i.bytes, i.zero)) = some (4, 40, some (.agg #[.int .u8 0, .int .i64 0, .int .u64 0, .string .empty])) := by kernel_rfl
 exact TI.of h rfl
theorem F26 : SI Tryd.prog 26 [(0, 1), (1, 1), (2, 1), (3, 1)] := ⟨_, Tryd.underlying26, by kernel_rfl, by kernel_rfl⟩
theorem E88 : Enters Tryd.prog 88 := .mk Tryd.func88 (by kernel_rfl) rfl
theorem E89 : Enters Tryd.prog 89 := .mk Tryd.func89 (by kernel_rfl) rfl
theorem E121 : Enters Tryd.prog 121 := .mk Tryd.func121 (by kernel_rfl) rfl
theorem E122 : Enters Tryd.prog 122 := .mk Tryd.func122 (by kernel_rfl) rfl
theorem E123 : Enters Tryd.prog 123 := .mk Tryd.func123 (by kernel_rfl) rfl
theorem E132 : Enters Tryd.prog 132 := .mk Tryd.func132 (by kernel_rfl) rfl
theorem E139 : Enters Tryd.prog 139 := .mk Tryd.func139 (by kernel_rfl) rfl
theorem rune33 (r : Int) (w : World) :
  Calls Tryd.prog 89 #[.int .i32 r] w (Ret w fun v _ => v = .bool (decide (r < 33 ∨ 126 < r))) := by
 have hE := Ext.refl w
 refine enterU 8 Tryd.func89 rfl rfl ?_
 refine sq fun K1 hK1 => ?_
 refine RS.asB rfl ?_
 refine nl hK1 ?_
 refine sq fun K2 hK2 => ?_
 refine RS.mvI rfl ?_
 refine RS.o (D.lt rfl rfl) ?_
 refine RS.mvB rfl ?_
 refine RS.splitd 5 rfl rfl (fun c3 => ?_) (fun c3 => ?_)
 ·refine RS.nm ?_
  refine RS.skT 5 ?_
  refine RS.skT 5 ?_
  refine RS.pick (v := .bool true) rfl rfl ?_
  refine RS.asB rfl ?_
  refine nl hK2 ?_
  refine wp_ret ?_
  refine retB rfl rfl ?_
  refine ⟨_, rfl, hE, congrArg Value.bool (decide_eq_true ?_).symm⟩
  omega
 refine RS.nm ?_
 refine RS.wt 5 ?_
 refine RS.mvI rfl ?_
 refine RS.wt 5 ?_
 refine RS.o (D.gt rfl rfl) ?_
 refine RS.pick (v := .bool _) rfl rfl ?_
 refine RS.asB rfl ?_
 refine nl hK2 ?_
 refine wp_ret ?_
 refine retB rfl rfl ?_
 refine ⟨_, rfl, hE, congrArg Value.bool (decide_eq_decide.2 ?_)⟩
 omega
theorem index33 (s : ByteArray) (w : World) :
  Calls Tryd.prog 121 #[.string s, .func (.func 89) #[] #[], .bool true] w (Ret w fun v _ => ∃ j, v = .int .i64 j ∧ (j < 0 ↔ S.Asc 33 s)) := by
 have hE := Ext.refl w
 refine enterU 18 Tryd.func121 rfl rfl ?_
 refine sq fun K1 hK1 => ?_
 refine RS.asI rfl ?_
 refine nl hK1 ?_
 refine wp_seq_k (fun K2 hK2 => ?_)
 refine sq fun K3 hK3 => ?_
 refine RS.move (v := .string _) rfl ?_
 refine RS.range rfl Tryd.underlying9 (fun b4 w4 e4 s4 x4 I4 => ?_)
 refine RS.nm ?_
 replace hE := Ext.tr hE x4
 have zw4 := x4.size
 refine nl hK3 ?_
 refine wp_block ?_
 refine C.loop (A := Int) (fun p => []) [6, 7, 8, 11, 12, 13, 14, 15, 16, 17, 18, 19, 20] (fun p w' => Pr (fun k => k = b4) w4 w' ∧ ((0 ≤ p ∧ p ≤ s.size) ∧ It w' b4 s p.toNat ∧ (∀ j, j < p.toNat → 33 ≤ (bys s).getD j 0 ∧ (bys s).getD j 0 ≤ 126))) (fun p => (s.size - p.toNat)) 0 (by kernel_rfl) ?_ ?_
 ·exact ⟨Pr.refl _ _, ⟨by omega, by omega⟩, I4, fun j hj => by omega⟩
 rintro p j w5 ⟨x5, hI⟩
 replace hE := hE.trans (x5.belo)
 have zw5 := x5.size
 obtain ⟨h1, I4, h2⟩ := hI
 have hdc := S.dec_case s p.toNat
 refine C.norm (by simp only [upd, junk, List.map_cons, List.map_nil, List.set_cons_succ, List.set_cons_zero]; exact rfl) ?_
 refine sq fun K6 hK6 => ?_
 refine RS.next I4 rfl (fun c7 w7 y7 N7 => ?_) (fun c7 => ?_)
 ·refine RS.nm ?_
  replace hE := hE.trans (y7.belo)
  replace x5 := x5.stno y7
  have zw7 := y7.size
  replace I4 := N7
  have hp := c7
  refine RS.extract (v := .bool true) rfl rfl ?_
  refine nl hK6 ?_
  refine wp_seq_k (fun K8 hK8 => ?_)
  refine C.ift rfl ?_
  refine wp_skip ?_
  refine hK8 _ _ ?_
  refine wp_block ?_
  refine sq fun K9 hK9 => ?_
  refine RS.extract (v := .int _ _) rfl rfl ?_
  refine RS.extract (v := .int _ _) rfl rfl ?_
  refine RS.asI rfl ?_
  refine RS.asI rfl ?_
  refine nl hK9 ?_
  refine sq fun K10 hK10 => ?_
  refine RS.move (v := .func _ _ _) rfl ?_
  refine RS.mvI rfl ?_
  refine RS.callv E89 (rune33 _ _) rfl rfl (fun e11 w11 A11 => ?_)
  obtain ⟨v11, rfl, x11, A11⟩ := A11
  refine ⟨_, rfl, ?_⟩
  replace hE := Ext.tr hE x11
  replace x5 := x5.ext x11
  replace I4 := I4.ext x11
  have zw11 := x11.size
  subst A11
  refine RS.nm ?_
  refine RS.mvB rfl ?_
  refine RS.o (D.eqB rfl rfl Tryd.underlying4) ?_
  refine nl hK10 ?_
  refine C.ifb rfl (fun c12 => ?_) (fun c12 => ?_)
  ·have hf := c12
   refine sq fun K13 hK13 => ?_
   refine RS.mvI rfl ?_
   refine RS.asI rfl ?_
   refine nl hK13 ?_
   refine wp_ret ?_
   refine retI rfl rfl ?_
   have hd := hdc hp
   rw [beq_true] at hf
   have hf2 := of_decide_eq_true hf
   refine ⟨_, rfl, hE, _, rfl, ⟨fun h => by omega, fun h => ?_⟩⟩
   have := h p.toNat hp
   omega
  have hf := c12
  refine wp_skip ?_
  change Nx _ _ _ _ _ _ _ _
  refine C.next (p + 1) trivial (by kernel_rfl) ?_ ?_
  ·have hd := hdc hp
   rw [beq_true] at hf
   have hf2 := of_decide_eq_false hf
   have hw : (Utf8.decode s p.toNat).2 = 1 := by omega
   rw [hw] at I4
   refine ⟨x5, ⟨by omega, by omega⟩, ?_, fun j hj => ?_⟩
   ·rw [show (p + 1).toNat = p.toNat + 1 by omega]; exact I4
   by_cases hjp : j < p.toNat
   ·exact h2 j hjp
   obtain rfl : j = p.toNat := by omega
   omega
  omega
 refine RS.nm ?_
 have hp := c7
 refine RS.extract (v := .bool false) rfl rfl ?_
 refine nl hK6 ?_
 refine wp_seq_k (fun K14 hK14 => ?_)
 refine C.iff rfl ?_
 refine wp_exit ?_
 refine hK2 _ _ ?_
 refine sq fun K15 hK15 => ?_
 refine RS.asI rfl ?_
 refine nl hK15 ?_
 refine wp_ret ?_
 refine retI rfl rfl ?_
 refine ⟨_, rfl, hE, _, rfl, ⟨fun _ j hj => h2 j (by omega), fun _ => by decide⟩⟩
theorem Index33 (s : ByteArray) (w : World) :
  Calls Tryd.prog 88 #[.string s, .func (.func 89) #[] #[]] w (Ret w fun v _ => ∃ j, v = .int .i64 j ∧ (j < 0 ↔ S.Asc 33 s)) := by
 have hE := Ext.refl w
 refine enterU 6 Tryd.func88 rfl rfl ?_
 refine sq fun K1 hK1 => ?_
 refine RS.asI rfl ?_
 refine nl hK1 ?_
 refine sq fun K2 hK2 => ?_
 refine RS.move (v := .string _) rfl ?_
 refine RS.move (v := .func _ _ _) rfl ?_
 refine RS.call E121 (index33 _ _) rfl (fun v3 w3 x3 A3 => ?_)
 replace hE := Ext.tr hE x3
 have zw3 := x3.size
 obtain ⟨j, rfl, hj⟩ := A3
 refine RS.nm ?_
 refine RS.asI rfl ?_
 refine nl hK2 ?_
 refine wp_ret ?_
 refine retI rfl rfl ?_
 exact ⟨_, rfl, hE, _, rfl, hj⟩
theorem rune32 (r : Int) (w : World) :
  Calls Tryd.prog 123 #[.int .i32 r] w (Ret w fun v _ => v = .bool (decide (r < 32 ∨ 126 < r))) := by
 have hE := Ext.refl w
 refine enterU 8 Tryd.func123 rfl rfl ?_
 refine sq fun K1 hK1 => ?_
 refine RS.asB rfl ?_
 refine nl hK1 ?_
 refine sq fun K2 hK2 => ?_
 refine RS.mvI rfl ?_
 refine RS.o (D.lt rfl rfl) ?_
 refine RS.mvB rfl ?_
 refine RS.splitd 5 rfl rfl (fun c3 => ?_) (fun c3 => ?_)
 ·refine RS.nm ?_
  refine RS.skT 5 ?_
  refine RS.skT 5 ?_
  refine RS.pick (v := .bool true) rfl rfl ?_
  refine RS.asB rfl ?_
  refine nl hK2 ?_
  refine wp_ret ?_
  refine retB rfl rfl ?_
  refine ⟨_, rfl, hE, congrArg Value.bool (decide_eq_true ?_).symm⟩
  omega
 refine RS.nm ?_
 refine RS.wt 5 ?_
 refine RS.mvI rfl ?_
 refine RS.wt 5 ?_
 refine RS.o (D.gt rfl rfl) ?_
 refine RS.pick (v := .bool _) rfl rfl ?_
 refine RS.asB rfl ?_
 refine nl hK2 ?_
 refine wp_ret ?_
 refine retB rfl rfl ?_
 refine ⟨_, rfl, hE, congrArg Value.bool (decide_eq_decide.2 ?_)⟩
 omega
theorem index32 (s : ByteArray) (w : World) :
  Calls Tryd.prog 121 #[.string s, .func (.func 123) #[] #[], .bool true] w (Ret w fun v _ => ∃ j, v = .int .i64 j ∧ (j < 0 ↔ S.Asc 32 s)) := by
 have hE := Ext.refl w
 refine enterU 18 Tryd.func121 rfl rfl ?_
 refine sq fun K1 hK1 => ?_
 refine RS.asI rfl ?_
 refine nl hK1 ?_
 refine wp_seq_k (fun K2 hK2 => ?_)
 refine sq fun K3 hK3 => ?_
 refine RS.move (v := .string _) rfl ?_
 refine RS.range rfl Tryd.underlying9 (fun b4 w4 e4 s4 x4 I4 => ?_)
 refine RS.nm ?_
 replace hE := Ext.tr hE x4
 have zw4 := x4.size
 refine nl hK3 ?_
 refine wp_block ?_
 refine C.loop (A := Int) (fun p => []) [6, 7, 8, 11, 12, 13, 14, 15, 16, 17, 18, 19, 20] (fun p w' => Pr (fun k => k = b4) w4 w' ∧ ((0 ≤ p ∧ p ≤ s.size) ∧ It w' b4 s p.toNat ∧ (∀ j, j < p.toNat → 32 ≤ (bys s).getD j 0 ∧ (bys s).getD j 0 ≤ 126))) (fun p => (s.size - p.toNat)) 0 (by kernel_rfl) ?_ ?_
 ·exact ⟨Pr.refl _ _, ⟨by omega, by omega⟩, I4, fun j hj => by omega⟩
 rintro p j w5 ⟨x5, hI⟩
 replace hE := hE.trans (x5.belo)
 have zw5 := x5.size
 obtain ⟨h1, I4, h2⟩ := hI
 have hdc := S.dec_case s p.toNat
 refine C.norm (by simp only [upd, junk, List.map_cons, List.map_nil, List.set_cons_succ, List.set_cons_zero]; exact rfl) ?_
 refine sq fun K6 hK6 => ?_
 refine RS.next I4 rfl (fun c7 w7 y7 N7 => ?_) (fun c7 => ?_)
 ·refine RS.nm ?_
  replace hE := hE.trans (y7.belo)
  replace x5 := x5.stno y7
  have zw7 := y7.size
  replace I4 := N7
  have hp := c7
  refine RS.extract (v := .bool true) rfl rfl ?_
  refine nl hK6 ?_
  refine wp_seq_k (fun K8 hK8 => ?_)
  refine C.ift rfl ?_
  refine wp_skip ?_
  refine hK8 _ _ ?_
  refine wp_block ?_
  refine sq fun K9 hK9 => ?_
  refine RS.extract (v := .int _ _) rfl rfl ?_
  refine RS.extract (v := .int _ _) rfl rfl ?_
  refine RS.asI rfl ?_
  refine RS.asI rfl ?_
  refine nl hK9 ?_
  refine sq fun K10 hK10 => ?_
  refine RS.move (v := .func _ _ _) rfl ?_
  refine RS.mvI rfl ?_
  refine RS.callv E123 (rune32 _ _) rfl rfl (fun e11 w11 A11 => ?_)
  obtain ⟨v11, rfl, x11, A11⟩ := A11
  refine ⟨_, rfl, ?_⟩
  replace hE := Ext.tr hE x11
  replace x5 := x5.ext x11
  replace I4 := I4.ext x11
  have zw11 := x11.size
  subst A11
  refine RS.nm ?_
  refine RS.mvB rfl ?_
  refine RS.o (D.eqB rfl rfl Tryd.underlying4) ?_
  refine nl hK10 ?_
  refine C.ifb rfl (fun c12 => ?_) (fun c12 => ?_)
  ·have hf := c12
   refine sq fun K13 hK13 => ?_
   refine RS.mvI rfl ?_
   refine RS.asI rfl ?_
   refine nl hK13 ?_
   refine wp_ret ?_
   refine retI rfl rfl ?_
   have hd := hdc hp
   rw [beq_true] at hf
   have hf2 := of_decide_eq_true hf
   refine ⟨_, rfl, hE, _, rfl, ⟨fun h => by omega, fun h => ?_⟩⟩
   have := h p.toNat hp
   omega
  have hf := c12
  refine wp_skip ?_
  change Nx _ _ _ _ _ _ _ _
  refine C.next (p + 1) trivial (by kernel_rfl) ?_ ?_
  ·have hd := hdc hp
   rw [beq_true] at hf
   have hf2 := of_decide_eq_false hf
   have hw : (Utf8.decode s p.toNat).2 = 1 := by omega
   rw [hw] at I4
   refine ⟨x5, ⟨by omega, by omega⟩, ?_, fun j hj => ?_⟩
   ·rw [show (p + 1).toNat = p.toNat + 1 by omega]; exact I4
   by_cases hjp : j < p.toNat
   ·exact h2 j hjp
   obtain rfl : j = p.toNat := by omega
   omega
  omega
 refine RS.nm ?_
 have hp := c7
 refine RS.extract (v := .bool false) rfl rfl ?_
 refine nl hK6 ?_
 refine wp_seq_k (fun K14 hK14 => ?_)
 refine C.iff rfl ?_
 refine wp_exit ?_
 refine hK2 _ _ ?_
 refine sq fun K15 hK15 => ?_
 refine RS.asI rfl ?_
 refine nl hK15 ?_
 refine wp_ret ?_
 refine retI rfl rfl ?_
 refine ⟨_, rfl, hE, _, rfl, ⟨fun _ j hj => h2 j (by omega), fun _ => by decide⟩⟩
theorem Index32 (s : ByteArray) (w : World) :
  Calls Tryd.prog 88 #[.string s, .func (.func 123) #[] #[]] w (Ret w fun v _ => ∃ j, v = .int .i64 j ∧ (j < 0 ↔ S.Asc 32 s)) := by
 have hE := Ext.refl w
 refine enterU 6 Tryd.func88 rfl rfl ?_
 refine sq fun K1 hK1 => ?_
 refine RS.asI rfl ?_
 refine nl hK1 ?_
 refine sq fun K2 hK2 => ?_
 refine RS.move (v := .string _) rfl ?_
 refine RS.move (v := .func _ _ _) rfl ?_
 refine RS.call E121 (index32 _ _) rfl (fun v3 w3 x3 A3 => ?_)
 replace hE := Ext.tr hE x3
 have zw3 := x3.size
 obtain ⟨j, rfl, hj⟩ := A3
 refine RS.nm ?_
 refine RS.asI rfl ?_
 refine nl hK2 ?_
 refine wp_ret ?_
 refine retI rfl rfl ?_
 exact ⟨_, rfl, hE, _, rfl, hj⟩
theorem key (s : ByteArray) (w : World) :
  Calls Tryd.prog 51 #[.string s] w (Ret w fun v _ => v = .bool (decide (S.KeyOk s))) := by
 have hE := Ext.refl w
 refine enterU 15 Tryd.func51 rfl rfl ?_
 refine sq fun K1 hK1 => ?_
 refine RS.asB rfl ?_
 refine nl hK1 ?_
 refine sq fun K2 hK2 => ?_
 refine RS.move (v := .string _) rfl ?_
 refine RS.o (D.lenStr rfl Tryd.underlying9) ?_
 refine RS.o (D.ge rfl rfl) ?_
 refine RS.mvB rfl ?_
 refine RS.splitd 6 rfl rfl (fun c3 => ?_) (fun c3 => ?_)
 ·refine RS.nm ?_
  have h1 := c3
  refine RS.wt 6 ?_
  refine RS.move (v := .string _) rfl ?_
  refine RS.wt 6 ?_
  refine RS.o (D.lenStr rfl Tryd.underlying9) ?_
  refine RS.wt 6 ?_
  refine RS.o (D.le rfl rfl) ?_
  refine RS.pick (v := .bool _) rfl rfl ?_
  refine RS.mvB rfl ?_
  refine RS.splitd 11 rfl rfl (fun c4 => ?_) (fun c4 => ?_)
  ·refine RS.nm ?_
   have h2 := c4
   refine RS.wt 11 ?_
   refine RS.move (v := .string _) rfl ?_
   refine RS.wt 11 ?_
   refine RS.call E88 (Index33 _ _) rfl (fun v5 w5 x5 A5 => ?_)
   replace hE := Ext.tr hE x5
   have zw5 := x5.size
   obtain ⟨j, rfl, hj⟩ := A5
   refine RS.nm ?_
   refine RS.wt 11 ?_
   refine RS.o (D.lt rfl rfl) ?_
   refine RS.pick (v := .bool _) rfl rfl ?_
   refine RS.asB rfl ?_
   refine nl hK2 ?_
   refine wp_ret ?_
   refine retB rfl rfl ?_
   refine ⟨_, rfl, hE, congrArg Value.bool (decide_eq_decide.2 ?_)⟩
   unfold S.KeyOk
   rw [hj]
   exact ⟨fun h => ⟨by omega, by omega, h⟩, fun h => h.2.2⟩
  refine RS.nm ?_
  have h2 := c4
  refine RS.skF 11 ?_
  refine RS.skF 11 ?_
  refine RS.skF 11 ?_
  refine RS.pick (v := .bool false) rfl rfl ?_
  refine RS.asB rfl ?_
  refine nl hK2 ?_
  refine wp_ret ?_
  refine retB rfl rfl ?_
  refine ⟨_, rfl, hE, congrArg Value.bool (decide_eq_false ?_).symm⟩
  intro h
  have := h.2.1
  omega
 refine RS.nm ?_
 have h1 := c3
 refine RS.skF 6 ?_
 refine RS.skF 6 ?_
 refine RS.skF 6 ?_
 refine RS.pick (v := .bool false) rfl rfl ?_
 refine RS.mvB rfl ?_
 refine RS.skF 11 ?_
 refine RS.skF 11 ?_
 refine RS.skF 11 ?_
 refine RS.pick (v := .bool false) rfl rfl ?_
 refine RS.asB rfl ?_
 refine nl hK2 ?_
 refine wp_ret ?_
 refine retB rfl rfl ?_
 refine ⟨_, rfl, hE, congrArg Value.bool (decide_eq_false ?_).symm⟩
 intro h
 have := h.1
 omega
theorem splitV (b : Int) (hb : 0 ≤ b ∧ b < 18446744073709551616) (w : World) :
  Calls Tryd.prog 139 #[.int .u64 b] w (Ret w fun v _ => v = .tuple #[.int .i64 (b / 4503599627370496 % 2048), .int .u64 (b % 4503599627370496)]) := by
 have e52 : (2 : Int) ^ (52 : Int).toNat = 4503599627370496 := by decide
 have hE := Ext.refl w
 refine enterU 9 Tryd.func139 rfl rfl ?_
 refine sq fun K1 hK1 => ?_
 refine RS.asI rfl ?_
 refine RS.asI rfl ?_
 refine nl hK1 ?_
 refine sq fun K2 hK2 => ?_
 refine RS.mvI rfl ?_
 refine RS.ob (D.shr_u64 rfl rfl (by omega) (by constructor <;> omega)) (fun z3 => ?_)
 refine RS.o (D.conv rfl Tryd.underlying24 Tryd.underlying3 (W.i64 (by rw [e52]; omega))) ?_
 refine RS.o (D.sand rfl rfl) ?_
 refine RS.mvI rfl ?_
 refine RS.ob (D.band_u64 rfl rfl (by omega) (by omega)) (fun z4 => ?_)
 refine RS.asI rfl ?_
 refine RS.asI rfl ?_
 refine nl hK2 ?_
 refine wp_ret ?_
 refine ret (rs := [.tmp 2, .tmp 3]) (vs := [.int _ _, .int _ _]) (v := (.tuple #[.int _ _, .int _ _])) rfl ⟨rfl, rfl, trivial⟩ rfl ?_
 refine ⟨_, rfl, hE, ?_⟩
 rw [e52, S.sand_2047 _ (by omega), S.iand_full _ (by omega)]
theorem classV (b : Int) (hb : 0 ≤ b ∧ b < 18446744073709551616) (w : World) :
  Calls Tryd.prog 132 #[.int .u64 b] w (Ret w fun v _ => v = .int .u8 (S.clsS b)) := by
 have hE := Ext.refl w
 refine enterU 25 Tryd.func132 rfl rfl ?_
 refine sq fun K1 hK1 => ?_
 refine RS.asI rfl ?_
 refine nl hK1 ?_
 refine sq fun K2 hK2 => ?_
 refine RS.mvI rfl ?_
 refine RS.call E139 (splitV _ (by omega) _) rfl (fun v3 w3 x3 A3 => ?_)
 replace hE := Ext.tr hE x3
 have zw3 := x3.size
 subst A3
 refine RS.nm ?_
 refine RS.move (v := .tuple _) rfl ?_
 refine RS.extract (v := .int _ _) rfl rfl ?_
 refine RS.extract (v := .int _ _) rfl rfl ?_
 refine RS.asI rfl ?_
 refine RS.asI rfl ?_
 refine nl hK2 ?_
 refine wp_seq_k (fun K4 hK4 => ?_)
 refine wp_block ?_
 refine sq fun K5 hK5 => ?_
 refine RS.mvI rfl ?_
 refine RS.o (D.eq rfl rfl) ?_
 refine RS.mvB rfl ?_
 refine RS.splite 13 rfl rfl (fun c6 => ?_) (fun c6 => ?_)
 ·refine RS.nm ?_
  refine RS.wt 13 ?_
  refine RS.mvI rfl ?_
  refine RS.wt 13 ?_
  refine RS.o (D.ne rfl rfl) ?_
  refine RS.pick (v := .bool _) rfl rfl ?_
  refine RS.asB rfl ?_
  refine nl hK5 ?_
  refine C.ifn rfl (fun c7 => ?_) (fun c7 => ?_)
  ·refine wp_seq_k (fun K8 hK8 => ?_)
   refine region ?_
   refine RS.asI rfl ?_
   refine nl hK8 ?_
   refine wp_ret ?_
   refine retI rfl rfl ?_
   refine ⟨_, rfl, hE, congrArg (Value.int .u8) ?_⟩
   unfold S.clsS
   (repeat' split) <;> omega
  refine wp_seq_k (fun K9 hK9 => ?_)
  refine region ?_
  refine RS.mvI rfl ?_
  refine RS.o (D.eq rfl rfl) ?_
  refine RS.asB rfl ?_
  refine nl hK9 ?_
  refine C.ife rfl (fun c10 => ?_) (fun c10 => ?_)
  ·refine wp_seq_k (fun K11 hK11 => ?_)
   refine region ?_
   refine RS.asI rfl ?_
   refine nl hK11 ?_
   refine wp_ret ?_
   refine retI rfl rfl ?_
   refine ⟨_, rfl, hE, congrArg (Value.int .u8) ?_⟩
   unfold S.clsS
   (repeat' split) <;> omega
  refine wp_seq_k (fun K12 hK12 => ?_)
  refine region ?_
  refine RS.mvI rfl ?_
  refine RS.o (D.ne rfl rfl) ?_
  refine RS.asB rfl ?_
  refine nl hK12 ?_
  refine C.ifn rfl (fun c13 => ?_) (fun c13 => ?_)
  ·refine wp_seq_k (fun K14 hK14 => ?_)
   refine region ?_
   refine RS.asI rfl ?_
   refine nl hK14 ?_
   refine wp_ret ?_
   refine retI rfl rfl ?_
   refine ⟨_, rfl, hE, congrArg (Value.int .u8) ?_⟩
   unfold S.clsS
   (repeat' split) <;> omega
  refine wp_seq_k (fun K15 hK15 => ?_)
  refine region ?_
  refine RS.mvI rfl ?_
  refine RS.o (D.ne rfl rfl) ?_
  refine RS.asB rfl ?_
  refine nl hK15 ?_
  refine C.ifn rfl (fun c16 => ?_) (fun c16 => ?_)
  ·refine wp_seq_k (fun K17 hK17 => ?_)
   refine region ?_
   refine RS.asI rfl ?_
   refine nl hK17 ?_
   refine wp_ret ?_
   refine retI rfl rfl ?_
   refine ⟨_, rfl, hE, congrArg (Value.int .u8) ?_⟩
   unfold S.clsS
   (repeat' split) <;> omega
  refine wp_skip ?_
  refine hK4 _ _ ?_
  refine sq fun K18 hK18 => ?_
  refine RS.asI rfl ?_
  refine nl hK18 ?_
  refine wp_ret ?_
  refine retI rfl rfl ?_
  refine ⟨_, rfl, hE, congrArg (Value.int .u8) ?_⟩
  unfold S.clsS
  (repeat' split) <;> omega
 refine RS.nm ?_
 refine RS.skF 13 ?_
 refine RS.skF 13 ?_
 refine RS.pick (v := .bool false) rfl rfl ?_
 refine RS.asB rfl ?_
 refine nl hK5 ?_
 refine C.iff rfl ?_
 refine sq fun K19 hK19 => ?_
 refine RS.mvI rfl ?_
 refine RS.o (D.eq rfl rfl) ?_
 refine RS.asB rfl ?_
 refine nl hK19 ?_
 refine C.ife rfl (fun c20 => ?_) (fun c20 => ?_)
 ·refine wp_seq_k (fun K21 hK21 => ?_)
  refine region ?_
  refine RS.asI rfl ?_
  refine nl hK21 ?_
  refine wp_ret ?_
  refine retI rfl rfl ?_
  refine ⟨_, rfl, hE, congrArg (Value.int .u8) ?_⟩
  unfold S.clsS
  (repeat' split) <;> omega
 refine wp_seq_k (fun K22 hK22 => ?_)
 refine region ?_
 refine RS.mvI rfl ?_
 refine RS.o (D.ne rfl rfl) ?_
 refine RS.asB rfl ?_
 refine nl hK22 ?_
 refine C.ifn rfl (fun c23 => ?_) (fun c23 => ?_)
 ·refine wp_seq_k (fun K24 hK24 => ?_)
  refine region ?_
  refine RS.asI rfl ?_
  refine nl hK24 ?_
  refine wp_ret ?_
  refine retI rfl rfl ?_
  refine ⟨_, rfl, hE, congrArg (Value.int .u8) ?_⟩
  unfold S.clsS
  (repeat' split) <;> omega
 refine wp_seq_k (fun K25 hK25 => ?_)
 refine region ?_
 refine RS.mvI rfl ?_
 refine RS.o (D.ne rfl rfl) ?_
 refine RS.asB rfl ?_
 refine nl hK25 ?_
 refine C.ifn rfl (fun c26 => ?_) (fun c26 => ?_)
 ·refine wp_seq_k (fun K27 hK27 => ?_)
  refine region ?_
  refine RS.asI rfl ?_
  refine nl hK27 ?_
  refine wp_ret ?_
  refine retI rfl rfl ?_
  refine ⟨_, rfl, hE, congrArg (Value.int .u8) ?_⟩
  unfold S.clsS
  (repeat' split) <;> omega
 refine wp_skip ?_
 refine hK4 _ _ ?_
 refine sq fun K28 hK28 => ?_
 refine RS.asI rfl ?_
 refine nl hK28 ?_
 refine wp_ret ?_
 refine retI rfl rfl ?_
 refine ⟨_, rfl, hE, congrArg (Value.int .u8) ?_⟩
 unfold S.clsS
 (repeat' split) <;> omega
theorem canonV (b : Int) (hb : 0 ≤ b ∧ b < 18446744073709551616) (w : World) :
  Calls Tryd.prog 122 #[.int .u64 b] w (Ret w fun v _ => v = .int .u64 (S.canS b)) := by
 have hE := Ext.refl w
 refine enterU 6 Tryd.func122 rfl rfl ?_
 refine sq fun K1 hK1 => ?_
 refine RS.asI rfl ?_
 refine nl hK1 ?_
 refine wp_seq_k (fun K2 hK2 => ?_)
 refine sq fun K3 hK3 => ?_
 refine RS.mvI rfl ?_
 refine RS.call E132 (classV _ (by omega) _) rfl (fun v4 w4 x4 A4 => ?_)
 replace hE := Ext.tr hE x4
 have zw4 := x4.size
 subst A4
 refine RS.nm ?_
 refine RS.o (D.eq rfl rfl) ?_
 refine nl hK3 ?_
 refine C.ife rfl (fun c5 => ?_) (fun c5 => ?_)
 ·refine wp_seq_k (fun K6 hK6 => ?_)
  refine region ?_
  refine RS.asI rfl ?_
  refine nl hK6 ?_
  refine wp_ret ?_
  refine retI rfl rfl ?_
  refine ⟨_, rfl, hE, congrArg (Value.int .u64) ?_⟩
  unfold S.canS
  split <;> omega
 refine wp_skip ?_
 refine hK2 _ _ ?_
 refine sq fun K7 hK7 => ?_
 refine RS.mvI rfl ?_
 refine RS.asI rfl ?_
 refine nl hK7 ?_
 refine wp_ret ?_
 refine retI rfl rfl ?_
 refine ⟨_, rfl, hE, congrArg (Value.int .u64) ?_⟩
 unfold S.canS
 split <;> omega
theorem numberV (n : Int) (w : World) :
  Calls Tryd.prog 90 #[.int .i64 n] w (Ret w fun v _ => v = .agg ([.int .u8 1, .int .i64 n, .int .u64 0, .string .empty] : List Value).toArray) := by
 have hE := Ext.refl w
 refine enterU 4 Tryd.func90 rfl rfl ?_
 refine sq fun K1 hK1 => ?_
 refine RS.alloc T26 (fun b2 w2 e2 s2 x2 B2 => ?_)
 refine RS.nm ?_
 replace hE := Ext.tr hE x2
 have zw2 := x2.size
 refine nl hK1 ?_
 refine sq fun K3 hK3 => ?_
 refine RS.mvI rfl ?_
 refine RS.o (D.buildS T26 F26 (ps := [(0, .int _ _), (1, .int _ _)]) rfl rfl) ?_
 refine RS.storeAggB rfl rfl C26 (by decide) rfl rfl B2 rfl (fun w4 y4 N4 => ?_)
 replace hE := hE.trans (y4.belo)
 have zw4 := y4.size
 replace B2 := N4
 refine nl hK3 ?_
 refine wp_ret ?_
 refine ret (rs := [.cell 2 26]) (vs := [.agg _]) (v := (.agg _)) rfl ⟨⟨_, rfl, loadVar_agg Tryd.underlying26 rfl C26 (by decide) rfl (B2.cellsN 4 rfl)⟩, trivial⟩ rfl ?_
 exact ⟨_, rfl, hE, rfl⟩
theorem floatV (b : Int) (hb : 0 ≤ b ∧ b < 18446744073709551616) (w : World) :
  Calls Tryd.prog 91 #[.int .u64 b] w (Ret w fun v _ => v = .agg ([.int .u8 2, .int .i64 0, .int .u64 (S.canS b), .string .empty] : List Value).toArray) := by
 have hE := Ext.refl w
 refine enterU 5 Tryd.func91 rfl rfl ?_
 refine sq fun K1 hK1 => ?_
 refine RS.alloc T26 (fun b2 w2 e2 s2 x2 B2 => ?_)
 refine RS.nm ?_
 replace hE := Ext.tr hE x2
 have zw2 := x2.size
 refine nl hK1 ?_
 refine sq fun K3 hK3 => ?_
 refine RS.mvI rfl ?_
 refine RS.call E122 (canonV _ (by omega) _) rfl (fun v4 w4 x4 A4 => ?_)
 replace hE := Ext.tr hE x4
 replace B2 := B2.ext x4
 have zw4 := x4.size
 subst A4
 refine RS.nm ?_
 refine RS.o (D.buildS T26 F26 (ps := [(0, .int _ _), (2, .int _ _)]) rfl rfl) ?_
 refine RS.storeAggB rfl rfl C26 (by decide) rfl rfl B2 rfl (fun w5 y5 N5 => ?_)
 replace hE := hE.trans (y5.belo)
 have zw5 := y5.size
 replace B2 := N5
 refine nl hK3 ?_
 refine wp_ret ?_
 refine ret (rs := [.cell 2 26]) (vs := [.agg _]) (v := (.agg _)) rfl ⟨⟨_, rfl, loadVar_agg Tryd.underlying26 rfl C26 (by decide) rfl (B2.cellsN 4 rfl)⟩, trivial⟩ rfl ?_
 exact ⟨_, rfl, hE, rfl⟩
theorem textV (s : ByteArray) (w : World) :
  Calls Tryd.prog 92 #[.string s] w (Ret w fun v _ => ∃ k2 t2 e2, v = .tuple #[.agg ([.int .u8 k2, .int .i64 0, .int .u64 0, .string t2] : List Value).toArray, .int .i64 e2] ∧ ((S.TextOk s ∧ k2 = 3 ∧ t2 = s ∧ e2 = 0) ∨ (¬ S.TextOk s ∧ k2 = 0 ∧ t2 = ByteArray.empty))) := by
 have hE := Ext.refl w
 refine enterU 13 Tryd.func92 rfl rfl ?_
 refine sq fun K1 hK1 => ?_
 refine RS.alloc T26 (fun b2 w2 e2 s2 x2 B2 => ?_)
 refine RS.nm ?_
 replace hE := Ext.tr hE x2
 have zw2 := x2.size
 refine RS.asI rfl ?_
 refine nl hK1 ?_
 refine wp_seq_k (fun K3 hK3 => ?_)
 refine sq fun K4 hK4 => ?_
 refine RS.move (v := .string _) rfl ?_
 refine RS.o (D.lenStr rfl Tryd.underlying9) ?_
 refine RS.o (D.gt rfl rfl) ?_
 refine nl hK4 ?_
 refine C.ifd rfl (fun c5 => ?_) (fun c5 => ?_)
 ·have h1 := c5
  refine sq fun K6 hK6 => ?_
  refine RS.o (D.buildS T26 F26 (ps := []) rfl rfl) ?_
  refine RS.storeAggB rfl rfl C26 (by decide) rfl rfl B2 rfl (fun w7 y7 N7 => ?_)
  replace hE := hE.trans (y7.belo)
  have zw7 := y7.size
  replace B2 := N7
  refine RS.asI rfl ?_
  refine nl hK6 ?_
  refine wp_ret ?_
  refine ret (rs := [.cell 2 26, .tmp 3]) (vs := [.agg _, .int _ _]) (v := (.tuple #[.agg _, .int _ _])) rfl ⟨⟨_, rfl, loadVar_agg Tryd.underlying26 rfl C26 (by decide) rfl (B2.cellsN 4 rfl)⟩, rfl, trivial⟩ rfl ?_
  exact ⟨_, rfl, hE, _, _, _, rfl, .inr ⟨fun h => by have := h.1; omega, rfl, rfl⟩⟩
 have h1 := c5
 refine wp_skip ?_
 refine hK3 _ _ ?_
 refine wp_seq_k (fun K8 hK8 => ?_)
 refine sq fun K9 hK9 => ?_
 refine RS.move (v := .string _) rfl ?_
 refine RS.call E88 (Index32 _ _) rfl (fun v10 w10 x10 A10 => ?_)
 replace hE := Ext.tr hE x10
 replace B2 := B2.ext x10
 have zw10 := x10.size
 obtain ⟨j, rfl, hj⟩ := A10
 refine RS.nm ?_
 refine RS.o (D.ge rfl rfl) ?_
 refine nl hK9 ?_
 refine C.ifd rfl (fun c11 => ?_) (fun c11 => ?_)
 ·have h2 := c11
  refine sq fun K12 hK12 => ?_
  refine RS.o (D.buildS T26 F26 (ps := []) rfl rfl) ?_
  refine RS.storeAggB rfl rfl C26 (by decide) rfl rfl B2 rfl (fun w13 y13 N13 => ?_)
  replace hE := hE.trans (y13.belo)
  have zw13 := y13.size
  replace B2 := N13
  refine RS.asI rfl ?_
  refine nl hK12 ?_
  refine wp_ret ?_
  refine ret (rs := [.cell 2 26, .tmp 3]) (vs := [.agg _, .int _ _]) (v := (.tuple #[.agg _, .int _ _])) rfl ⟨⟨_, rfl, loadVar_agg Tryd.underlying26 rfl C26 (by decide) rfl (B2.cellsN 4 rfl)⟩, rfl, trivial⟩ rfl ?_
  exact ⟨_, rfl, hE, _, _, _, rfl, .inr ⟨fun h => by have := hj.2 h.2; omega, rfl, rfl⟩⟩
 have h2 := c11
 refine wp_skip ?_
 refine hK8 _ _ ?_
 refine sq fun K14 hK14 => ?_
 refine RS.move (v := .string _) rfl ?_
 refine RS.o (D.buildS T26 F26 (ps := [(0, .int _ _), (3, .string _)]) rfl rfl) ?_
 refine RS.storeAggB rfl rfl C26 (by decide) rfl rfl B2 rfl (fun w15 y15 N15 => ?_)
 replace hE := hE.trans (y15.belo)
 have zw15 := y15.size
 replace B2 := N15
 refine RS.asI rfl ?_
 refine nl hK14 ?_
 refine wp_ret ?_
 refine ret (rs := [.cell 2 26, .tmp 3]) (vs := [.agg _, .int _ _]) (v := (.tuple #[.agg _, .int _ _])) rfl ⟨⟨_, rfl, loadVar_agg Tryd.underlying26 rfl C26 (by decide) rfl (B2.cellsN 4 rfl)⟩, rfl, trivial⟩ rfl ?_
 exact ⟨_, rfl, hE, _, _, _, rfl, .inl ⟨⟨by omega, hj.1 (by omega)⟩, rfl, rfl, rfl⟩⟩
end Go.Proofs.YtiohpiiiapjblaaDoor.W
namespace Go.Proofs.YtiohpiiiapjblaaDoor.W
open Go.RowKit Go.Proofs.YtiohpiiiapjblaaDoor.G
set_option linter.unusedVariables false
set_option maxRecDepth 20000
set_option maxHeartbeats 8000000
attribute [local irreducible] RS RX
theorem C2 : Tryd.prog.cellsOf 2 = 1 := by kernel_rfl
theorem C9 : Tryd.prog.cellsOf 9 = 1 := by kernel_rfl
theorem C24 : Tryd.prog.cellsOf 24 = 1 := by kernel_rfl
theorem E45 : Enters Tryd.prog 45 := .mk Tryd.func45 (by kernel_rfl) rfl
theorem E52 : Enters Tryd.prog 52 := .mk Tryd.func52 (by kernel_rfl) rfl
theorem E82 : Enters Tryd.prog 82 := .mk Tryd.func82 (by kernel_rfl) rfl
theorem E90 : Enters Tryd.prog 90 := .mk Tryd.func90 (by kernel_rfl) rfl
theorem E91 : Enters Tryd.prog 91 := .mk Tryd.func91 (by kernel_rfl) rfl
theorem E92 : Enters Tryd.prog 92 := .mk Tryd.func92 (by kernel_rfl) rfl
theorem checkV (k num bits : Int) (t : ByteArray) (hk : 0 ≤ k ∧ k < 256) (hnum : -9223372036854775808 ≤ num ∧ num ≤ 9223372036854775807) (hb : 0 ≤ bits ∧ bits < 18446744073709551616) (w : World) :
  Calls Tryd.prog 52 #[.agg ([.int .u8 k, .int .i64 num, .int .u64 bits, .string t] : List Value).toArray] w (Ret w fun v _ => v = .int .i64 (S.valE k num bits t)) := by
 have hE := Ext.refl w
 refine enterU 31 Tryd.func52 rfl rfl ?_
 refine sq fun K1 hK1 => ?_
 refine RS.box rfl rfl (fun b2 w2 e2 s2 x2 B2 => ?_)
 refine RS.nm ?_
 replace hE := Ext.tr hE x2
 have zw2 := x2.size
 refine RS.asI rfl ?_
 refine nl hK1 ?_
 refine sq fun K3 hK3 => ?_
 refine RS.alloc T26 (fun b4 w4 e4 s4 x4 B4 => ?_)
 refine RS.nm ?_
 replace hE := Ext.tr hE x4
 replace B2 := B2.ext x4
 have zw4 := x4.size
 refine nl hK3 ?_
 refine wp_seq_k (fun K5 hK5 => ?_)
 refine sq fun K6 hK6 => ?_
 refine RS.o (D.fieldL 0 rfl Tryd.underlying26 rfl C5 (by decide) rfl) ?_
 refine RS.o (D.load rfl Tryd.underlying5 rfl (B2.cell rfl)) ?_
 refine nl hK6 ?_
 refine wp_block ?_
 refine sq fun K7 hK7 => ?_
 refine RS.o (D.eq rfl rfl) ?_
 refine RS.asB rfl ?_
 refine nl hK7 ?_
 refine C.ife rfl (fun c8 => ?_) (fun c8 => ?_)
 ·refine region ?_
  refine RS.o (D.fieldL 1 rfl Tryd.underlying26 rfl C2 (by decide) rfl) ?_
  refine RS.o (D.load rfl Tryd.underlying2 rfl (B2.cell rfl)) ?_
  refine RS.call E90 (numberV _ _) rfl (fun v9 w9 x9 A9 => ?_)
  replace hE := Ext.tr hE x9
  replace B2 := B2.ext x9
  replace B4 := B4.ext x9
  have zw9 := x9.size
  subst A9
  refine RS.nm ?_
  refine RS.storeAggB rfl rfl C26 (by decide) rfl rfl B4 rfl (fun w10 y10 N10 => ?_)
  replace hE := hE.trans (y10.belo)
  replace B2 := B2.sto y10
  have zw10 := y10.size
  replace B4 := N10
  refine nl hK5 ?_
  refine wp_seq_k (fun K11 hK11 => ?_)
  refine sq fun K12 hK12 => ?_
  refine RS.o (D.loadAgg rfl Tryd.underlying26 rfl C26 (by decide) rfl (B2.cellsN 4 rfl)) ?_
  refine RS.o (D.loadAgg rfl Tryd.underlying26 rfl C26 (by decide) rfl (B4.cellsN 4 rfl)) ?_
  refine RS.o (D.neA rfl rfl Tryd.underlying26 rfl (by kernel_rfl) (by kernel_rfl) (by kernel_rfl)) ?_
  refine RS.mvB rfl ?_
  refine RS.splitb 27 rfl rfl (fun c13 => ?_) (fun c13 => ?_)
  ·refine RS.nm ?_
   have hq := of_decide_eq_false ((S.eqV _ _ _ _ _ _ _ _).symm.trans (Eq.mp (Bool.not_eq_true' _) c13))
   refine RS.skT 27 ?_
   refine RS.skT 27 ?_
   refine RS.skT 27 ?_
   refine RS.pick (v := .bool true) rfl rfl ?_
   refine nl hK12 ?_
   refine C.ift rfl ?_
   refine sq fun K14 hK14 => ?_
   refine RS.asI rfl ?_
   refine nl hK14 ?_
   refine wp_ret ?_
   refine retI rfl rfl ?_
   refine ⟨_, rfl, hE, congrArg (Value.int .i64) ?_⟩
   first | (refine S.valE_pos ?_; grind [S.FineV, S.TextOk]) | (refine S.valE_neg ?_; grind [S.FineV, S.TextOk])
  refine RS.nm ?_
  have hq := of_decide_eq_true ((S.eqV _ _ _ _ _ _ _ _).symm.trans (Eq.mp (Bool.not_eq_false' _) c13))
  refine RS.wt 27 ?_
  refine RS.o (D.fieldL 0 rfl Tryd.underlying26 rfl C5 (by decide) rfl) ?_
  refine RS.wt 27 ?_
  refine RS.o (D.load rfl Tryd.underlying5 rfl (B2.cell rfl)) ?_
  refine RS.wt 27 ?_
  refine RS.o (D.eq rfl rfl) ?_
  refine RS.pick (v := .bool _) rfl rfl ?_
  refine nl hK12 ?_
  refine C.ife rfl (fun c15 => ?_) (fun c15 => ?_)
  ·refine wp_seq_k (fun K16 hK16 => ?_)
   refine region ?_
   refine RS.asI rfl ?_
   refine nl hK16 ?_
   refine wp_ret ?_
   refine retI rfl rfl ?_
   refine ⟨_, rfl, hE, congrArg (Value.int .i64) ?_⟩
   first | (refine S.valE_pos ?_; grind [S.FineV, S.TextOk]) | (refine S.valE_neg ?_; grind [S.FineV, S.TextOk])
  refine wp_skip ?_
  refine hK11 _ _ ?_
  refine sq fun K17 hK17 => ?_
  refine RS.asI rfl ?_
  refine nl hK17 ?_
  refine wp_ret ?_
  refine retI rfl rfl ?_
  refine ⟨_, rfl, hE, congrArg (Value.int .i64) ?_⟩
  first | (refine S.valE_pos ?_; grind [S.FineV, S.TextOk]) | (refine S.valE_neg ?_; grind [S.FineV, S.TextOk])
 refine wp_seq_k (fun K18 hK18 => ?_)
 refine region ?_
 refine RS.o (D.eq rfl rfl) ?_
 refine RS.asB rfl ?_
 refine nl hK18 ?_
 refine C.ife rfl (fun c19 => ?_) (fun c19 => ?_)
 ·refine region ?_
  refine RS.o (D.fieldL 2 rfl Tryd.underlying26 rfl C24 (by decide) rfl) ?_
  refine RS.o (D.load rfl Tryd.underlying24 rfl (B2.cell rfl)) ?_
  refine RS.call E91 (floatV _ (by omega) _) rfl (fun v20 w20 x20 A20 => ?_)
  replace hE := Ext.tr hE x20
  replace B2 := B2.ext x20
  replace B4 := B4.ext x20
  have zw20 := x20.size
  subst A20
  refine RS.nm ?_
  refine RS.storeAggB rfl rfl C26 (by decide) rfl rfl B4 rfl (fun w21 y21 N21 => ?_)
  replace hE := hE.trans (y21.belo)
  replace B2 := B2.sto y21
  have zw21 := y21.size
  replace B4 := N21
  refine nl hK5 ?_
  refine wp_seq_k (fun K22 hK22 => ?_)
  refine sq fun K23 hK23 => ?_
  refine RS.o (D.loadAgg rfl Tryd.underlying26 rfl C26 (by decide) rfl (B2.cellsN 4 rfl)) ?_
  refine RS.o (D.loadAgg rfl Tryd.underlying26 rfl C26 (by decide) rfl (B4.cellsN 4 rfl)) ?_
  refine RS.o (D.neA rfl rfl Tryd.underlying26 rfl (by kernel_rfl) (by kernel_rfl) (by kernel_rfl)) ?_
  refine RS.mvB rfl ?_
  refine RS.splitb 27 rfl rfl (fun c24 => ?_) (fun c24 => ?_)
  ·refine RS.nm ?_
   have hq := of_decide_eq_false ((S.eqV _ _ _ _ _ _ _ _).symm.trans (Eq.mp (Bool.not_eq_true' _) c24))
   refine RS.skT 27 ?_
   refine RS.skT 27 ?_
   refine RS.skT 27 ?_
   refine RS.pick (v := .bool true) rfl rfl ?_
   refine nl hK23 ?_
   refine C.ift rfl ?_
   refine sq fun K25 hK25 => ?_
   refine RS.asI rfl ?_
   refine nl hK25 ?_
   refine wp_ret ?_
   refine retI rfl rfl ?_
   refine ⟨_, rfl, hE, congrArg (Value.int .i64) ?_⟩
   first | (refine S.valE_pos ?_; grind [S.FineV, S.TextOk]) | (refine S.valE_neg ?_; grind [S.FineV, S.TextOk])
  refine RS.nm ?_
  have hq := of_decide_eq_true ((S.eqV _ _ _ _ _ _ _ _).symm.trans (Eq.mp (Bool.not_eq_false' _) c24))
  refine RS.wt 27 ?_
  refine RS.o (D.fieldL 0 rfl Tryd.underlying26 rfl C5 (by decide) rfl) ?_
  refine RS.wt 27 ?_
  refine RS.o (D.load rfl Tryd.underlying5 rfl (B2.cell rfl)) ?_
  refine RS.wt 27 ?_
  refine RS.o (D.eq rfl rfl) ?_
  refine RS.pick (v := .bool _) rfl rfl ?_
  refine nl hK23 ?_
  refine C.ife rfl (fun c26 => ?_) (fun c26 => ?_)
  ·refine wp_seq_k (fun K27 hK27 => ?_)
   refine region ?_
   refine RS.asI rfl ?_
   refine nl hK27 ?_
   refine wp_ret ?_
   refine retI rfl rfl ?_
   refine ⟨_, rfl, hE, congrArg (Value.int .i64) ?_⟩
   first | (refine S.valE_pos ?_; grind [S.FineV, S.TextOk]) | (refine S.valE_neg ?_; grind [S.FineV, S.TextOk])
  refine wp_skip ?_
  refine hK22 _ _ ?_
  refine sq fun K28 hK28 => ?_
  refine RS.asI rfl ?_
  refine nl hK28 ?_
  refine wp_ret ?_
  refine retI rfl rfl ?_
  refine ⟨_, rfl, hE, congrArg (Value.int .i64) ?_⟩
  first | (refine S.valE_pos ?_; grind [S.FineV, S.TextOk]) | (refine S.valE_neg ?_; grind [S.FineV, S.TextOk])
 refine wp_seq_k (fun K29 hK29 => ?_)
 refine region ?_
 refine RS.o (D.eq rfl rfl) ?_
 refine RS.asB rfl ?_
 refine nl hK29 ?_
 refine C.ife rfl (fun c30 => ?_) (fun c30 => ?_)
 ·refine region ?_
  refine RS.o (D.fieldL 3 rfl Tryd.underlying26 rfl C9 (by decide) rfl) ?_
  refine RS.o (D.load rfl Tryd.underlying9 rfl (B2.cell rfl)) ?_
  refine RS.call E92 (textV _ _) rfl (fun v31 w31 x31 A31 => ?_)
  replace hE := Ext.tr hE x31
  replace B2 := B2.ext x31
  replace B4 := B4.ext x31
  have zw31 := x31.size
  obtain ⟨k2, t2, e2, rfl, hT⟩ := A31
  refine RS.nm ?_
  refine RS.move (v := .tuple _) rfl ?_
  refine RS.extract (v := .agg _) rfl rfl ?_
  refine RS.extract (v := .int _ _) rfl rfl ?_
  refine RS.storeAggB rfl rfl C26 (by decide) rfl rfl B4 rfl (fun w32 y32 N32 => ?_)
  replace hE := hE.trans (y32.belo)
  replace B2 := B2.sto y32
  have zw32 := y32.size
  replace B4 := N32
  refine nl hK5 ?_
  refine wp_seq_k (fun K33 hK33 => ?_)
  refine sq fun K34 hK34 => ?_
  refine RS.o (D.loadAgg rfl Tryd.underlying26 rfl C26 (by decide) rfl (B2.cellsN 4 rfl)) ?_
  refine RS.o (D.loadAgg rfl Tryd.underlying26 rfl C26 (by decide) rfl (B4.cellsN 4 rfl)) ?_
  refine RS.o (D.neA rfl rfl Tryd.underlying26 rfl (by kernel_rfl) (by kernel_rfl) (by kernel_rfl)) ?_
  refine RS.mvB rfl ?_
  refine RS.splitb 27 rfl rfl (fun c35 => ?_) (fun c35 => ?_)
  ·refine RS.nm ?_
   have hq := of_decide_eq_false ((S.eqV _ _ _ _ _ _ _ _).symm.trans (Eq.mp (Bool.not_eq_true' _) c35))
   refine RS.skT 27 ?_
   refine RS.skT 27 ?_
   refine RS.skT 27 ?_
   refine RS.pick (v := .bool true) rfl rfl ?_
   refine nl hK34 ?_
   refine C.ift rfl ?_
   refine sq fun K36 hK36 => ?_
   refine RS.asI rfl ?_
   refine nl hK36 ?_
   refine wp_ret ?_
   refine retI rfl rfl ?_
   refine ⟨_, rfl, hE, congrArg (Value.int .i64) ?_⟩
   first | (refine S.valE_pos ?_; grind [S.FineV, S.TextOk]) | (refine S.valE_neg ?_; grind [S.FineV, S.TextOk])
  refine RS.nm ?_
  have hq := of_decide_eq_true ((S.eqV _ _ _ _ _ _ _ _).symm.trans (Eq.mp (Bool.not_eq_false' _) c35))
  refine RS.wt 27 ?_
  refine RS.o (D.fieldL 0 rfl Tryd.underlying26 rfl C5 (by decide) rfl) ?_
  refine RS.wt 27 ?_
  refine RS.o (D.load rfl Tryd.underlying5 rfl (B2.cell rfl)) ?_
  refine RS.wt 27 ?_
  refine RS.o (D.eq rfl rfl) ?_
  refine RS.pick (v := .bool _) rfl rfl ?_
  refine nl hK34 ?_
  refine C.ife rfl (fun c37 => ?_) (fun c37 => ?_)
  ·refine wp_seq_k (fun K38 hK38 => ?_)
   refine region ?_
   refine RS.asI rfl ?_
   refine nl hK38 ?_
   refine wp_ret ?_
   refine retI rfl rfl ?_
   refine ⟨_, rfl, hE, congrArg (Value.int .i64) ?_⟩
   first | (refine S.valE_pos ?_; grind [S.FineV, S.TextOk]) | (refine S.valE_neg ?_; grind [S.FineV, S.TextOk])
  refine wp_skip ?_
  refine hK33 _ _ ?_
  refine sq fun K39 hK39 => ?_
  refine RS.asI rfl ?_
  refine nl hK39 ?_
  refine wp_ret ?_
  refine retI rfl rfl ?_
  refine ⟨_, rfl, hE, congrArg (Value.int .i64) ?_⟩
  first | (refine S.valE_pos ?_; grind [S.FineV, S.TextOk]) | (refine S.valE_neg ?_; grind [S.FineV, S.TextOk])
 refine wp_skip ?_
 refine hK5 _ _ ?_
 refine wp_seq_k (fun K40 hK40 => ?_)
 refine sq fun K41 hK41 => ?_
 refine RS.o (D.loadAgg rfl Tryd.underlying26 rfl C26 (by decide) rfl (B2.cellsN 4 rfl)) ?_
 refine RS.o (D.loadAgg rfl Tryd.underlying26 rfl C26 (by decide) rfl (B4.cellsN 4 rfl)) ?_
 refine RS.o (D.neA rfl rfl Tryd.underlying26 rfl (by kernel_rfl) (by kernel_rfl) (by kernel_rfl)) ?_
 refine RS.mvB rfl ?_
 refine RS.splitb 27 rfl rfl (fun c42 => ?_) (fun c42 => ?_)
 ·refine RS.nm ?_
  have hq := of_decide_eq_false ((S.eqV _ _ _ _ _ _ _ _).symm.trans (Eq.mp (Bool.not_eq_true' _) c42))
  refine RS.skT 27 ?_
  refine RS.skT 27 ?_
  refine RS.skT 27 ?_
  refine RS.pick (v := .bool true) rfl rfl ?_
  refine nl hK41 ?_
  refine C.ift rfl ?_
  refine sq fun K43 hK43 => ?_
  refine RS.asI rfl ?_
  refine nl hK43 ?_
  refine wp_ret ?_
  refine retI rfl rfl ?_
  refine ⟨_, rfl, hE, congrArg (Value.int .i64) ?_⟩
  first | (refine S.valE_pos ?_; grind [S.FineV, S.TextOk]) | (refine S.valE_neg ?_; grind [S.FineV, S.TextOk])
 refine RS.nm ?_
 have hq := of_decide_eq_true ((S.eqV _ _ _ _ _ _ _ _).symm.trans (Eq.mp (Bool.not_eq_false' _) c42))
 refine RS.wt 27 ?_
 refine RS.o (D.fieldL 0 rfl Tryd.underlying26 rfl C5 (by decide) rfl) ?_
 refine RS.wt 27 ?_
 refine RS.o (D.load rfl Tryd.underlying5 rfl (B2.cell rfl)) ?_
 refine RS.wt 27 ?_
 refine RS.o (D.eq rfl rfl) ?_
 refine RS.pick (v := .bool _) rfl rfl ?_
 refine nl hK41 ?_
 refine C.ife rfl (fun c44 => ?_) (fun c44 => ?_)
 ·refine wp_seq_k (fun K45 hK45 => ?_)
  refine region ?_
  refine RS.asI rfl ?_
  refine nl hK45 ?_
  refine wp_ret ?_
  refine retI rfl rfl ?_
  refine ⟨_, rfl, hE, congrArg (Value.int .i64) ?_⟩
  first | (refine S.valE_pos ?_; grind [S.FineV, S.TextOk]) | (refine S.valE_neg ?_; grind [S.FineV, S.TextOk])
 refine wp_skip ?_
 refine hK40 _ _ ?_
 refine sq fun K46 hK46 => ?_
 refine RS.asI rfl ?_
 refine nl hK46 ?_
 refine wp_ret ?_
 refine retI rfl rfl ?_
 refine ⟨_, rfl, hE, congrArg (Value.int .i64) ?_⟩
 first | (refine S.valE_pos ?_; grind [S.FineV, S.TextOk]) | (refine S.valE_neg ?_; grind [S.FineV, S.TextOk])
theorem encV (k num bits : Int) (t : ByteArray) (hk : 0 ≤ k ∧ k < 256) (hnum : -9223372036854775808 ≤ num ∧ num ≤ 9223372036854775807) (hb : 0 ≤ bits ∧ bits < 18446744073709551616) (hF : S.FineV k num bits t) (hs : t.size ≤ 1000) (w : World) :
  Calls Tryd.prog 46 #[.agg ([.int .u8 k, .int .i64 num, .int .u64 bits, .string t] : List Value).toArray] w (Ret w fun v w' => ∃ a' n' c', v = .tuple #[.slice a' n' c', .int .i64 0] ∧ IOwn w.heap.size w' 5 .u8 a' n' c' (S.valS k num bits t)) := by
 have hk3 : k = 1 ∨ k = 2 ∨ k = 3 := by rcases hF with h | h | h <;> simp [h.1]
 have hE := Ext.refl w
 refine enterU 52 Tryd.func46 rfl rfl ?_
 refine sq fun K1 hK1 => ?_
 refine RS.box rfl rfl (fun b2 w2 e2 s2 x2 B2 => ?_)
 refine RS.nm ?_
 replace hE := Ext.tr hE x2
 have zw2 := x2.size
 refine RS.asS rfl ?_
 refine RS.asI rfl ?_
 refine nl hK1 ?_
 refine wp_seq_k (fun K3 hK3 => ?_)
 refine sq fun K4 hK4 => ?_
 refine RS.o (D.loadAgg rfl Tryd.underlying26 rfl C26 (by decide) rfl (B2.cellsN 4 rfl)) ?_
 refine RS.call E52 (checkV _ _ _ _ hk hnum hb _) rfl (fun v5 w5 x5 A5 => ?_)
 replace hE := Ext.tr hE x5
 replace B2 := B2.ext x5
 have zw5 := x5.size
 subst A5
 rw [← S.valE_pos hF]
 refine RS.nm ?_
 refine RS.asI rfl ?_
 refine nl hK4 ?_
 refine sq fun K6 hK6 => ?_
 refine RS.mvI rfl ?_
 refine RS.o (D.ne rfl rfl) ?_
 refine nl hK6 ?_
 refine C.ifn rfl (fun c7 => ?_) (fun c7 => ?_)
 ·exact absurd rfl c7
 refine wp_skip ?_
 refine hK3 _ _ ?_
 refine sq fun K8 hK8 => ?_
 refine RS.o (D.fieldL 0 rfl Tryd.underlying26 rfl C5 (by decide) rfl) ?_
 refine RS.o (D.load rfl Tryd.underlying5 rfl (B2.cell rfl)) ?_
 refine RS.buildSlice (xs := [.tmp 15]) (vs := [.int _ _]) (cs := [.int _ _]) Tryd.underlying35 T5 (by decide) rfl rfl rfl rfl rfl rfl (by intro v hv; simp only [List.mem_cons, List.not_mem_nil, or_false] at hv; subst hv; rfl) rfl (fun b9 w9 e9 s9 x9 B9 => ?_)
 refine RS.nm ?_
 replace hE := Ext.tr hE x9
 replace B2 := B2.ext x9
 have zw9 := x9.size
 have O1 : IOwn w5.heap.size w9 5 .u8 (some ⟨b9, 0, none⟩) 1 1 [_] := IOwn.of_blk B9 rfl rfl (by omega) (.cons (by simp only [lim]; omega) (.nil _)) (by decide)
 refine RS.asS rfl ?_
 refine nl hK8 ?_
 refine wp_seq_k (fun K10 hK10 => ?_)
 refine sq fun K11 hK11 => ?_
 refine RS.o (D.fieldL 0 rfl Tryd.underlying26 rfl C5 (by decide) rfl) ?_
 refine RS.o (D.load rfl Tryd.underlying5 rfl (B2.cell rfl)) ?_
 refine nl hK11 ?_
 refine wp_block ?_
 refine sq fun K12 hK12 => ?_
 refine RS.o (D.eq rfl rfl) ?_
 refine RS.asB rfl ?_
 refine nl hK12 ?_
 refine C.ife rfl (fun c13 => ?_) (fun c13 => ?_)
 ·refine region ?_
  refine RS.mvS rfl ?_
  refine RS.o (D.fieldL 1 rfl Tryd.underlying26 rfl C2 (by decide) rfl) ?_
  refine RS.o (D.load rfl Tryd.underlying2 rfl (B2.cell rfl)) ?_
  refine RS.call E82 (signedW _ hnum _) rfl (fun v14 w14 x14 A14 => ?_)
  replace hE := Ext.tr hE x14
  replace B2 := B2.ext x14
  replace O1 := O1.ext x14
  have zw14 := x14.size
  obtain ⟨a14, n14, c14, rfl, O2⟩ := A14
  have hnl := O2.len
  have hnb := S.numS_len (S.zig num)
  refine RS.nm ?_
  refine RS.appendI O1 O2.row rfl rfl Tryd.underlying35 T5 rfl (by omega) (by decide) (by omega) (fun a15 c15 w15 N15 x15 => ?_)
  refine RS.nm ?_
  replace hE := hE.trans (x15.below (by intros; try (first | (intro _ _) | (intro _) | skip); first | omega | (have hq := O1.lo _ (by assumption); first | omega | (dsimp only at *; omega))) (by intros; try (first | (intro _ _) | (intro _) | skip); first | omega | (dsimp only at *; omega) | (simp_all; done) | (simp at *; omega)))
  replace B2 := B2.pr x15 (by intros; try (first | (intro _ _) | (intro _) | skip); first | omega | (have hq := O1.lo _ (by assumption); first | omega | (dsimp only at *; omega)))
  have zw15 := x15.size
  replace O1 := N15
  refine RS.asS rfl ?_
  refine nl hK10 ?_
  refine sq fun K16 hK16 => ?_
  refine RS.mvS rfl ?_
  refine RS.asS rfl ?_
  refine RS.asI rfl ?_
  refine nl hK16 ?_
  refine wp_ret ?_
  refine ret (rs := [.tmp 2, .tmp 3]) (vs := [.slice _ _ _, .int _ _]) (v := (.tuple #[.slice _ _ _, .int _ _])) rfl ⟨rfl, rfl, trivial⟩ rfl ?_
  have e9 : S.valS k num bits t = [k] ++ S.numS (S.zig num) := by unfold S.valS; rw [if_pos (by omega)]
  rw [e9]
  refine ⟨_, rfl, hE, _, _, _, rfl, O1.base (fun k hk => by have := O1.lo k hk; omega)⟩
 refine wp_seq_k (fun K17 hK17 => ?_)
 refine region ?_
 refine RS.o (D.eq rfl rfl) ?_
 refine RS.asB rfl ?_
 refine nl hK17 ?_
 refine C.ife rfl (fun c18 => ?_) (fun c18 => ?_)
 ·refine wp_seq_k (fun K19 hK19 => ?_)
  refine region ?_
  refine RS.asI rfl ?_
  refine nl hK19 ?_
  refine wp_block ?_
  refine C.loop (A := Int × Option Addr × Nat × Nat) (fun p => [(5, .slice p.2.1 p.2.2.1 p.2.2.2), (6, .int .i64 p.1)]) [28, 29, 30, 31, 32, 33, 34, 35, 36, 37, 38, 39] (fun p w' => Pr (fun k => w5.heap.size ≤ k) w9 w' ∧ ((-8 ≤ p.1 ∧ p.1 ≤ 56) ∧ p.1 % 8 = 0 ∧ IOwn w5.heap.size w' 5 .u8 p.2.1 p.2.2.1 p.2.2.2 ([k] ++ (S.be8 bits).take ((56 - p.1) / 8).toNat))) (fun p => (p.1 + 8).toNat) (56, some ⟨b9, 0, none⟩, 1, 1) (by kernel_rfl) ?_ ?_
  ·exact ⟨Pr.refl _ _, ⟨by dsimp only; omega, by dsimp only; omega⟩, by dsimp only; omega, by simpa using O1⟩
  rintro p j w20 ⟨x20, hI⟩
  replace hE := hE.trans (x20.belo)
  replace B2 := B2.pro x20
  have zw20 := x20.size
  obtain ⟨i, ao, no, co⟩ := p
  dsimp only at hI
  obtain ⟨h1, h2, O1⟩ := hI
  have hol := O1.len
  simp only [List.length_append, List.length_singleton, List.length_take, S.be8_len] at hol
  refine C.norm (by simp only [upd, junk, List.map_cons, List.map_nil, List.set_cons_succ, List.set_cons_zero]; exact rfl) ?_
  refine wp_seq_k (fun K21 hK21 => ?_)
  refine sq fun K22 hK22 => ?_
  refine RS.mvI rfl ?_
  refine RS.o (D.ge rfl rfl) ?_
  refine nl hK22 ?_
  refine C.ifd rfl (fun c23 => ?_) (fun c23 => ?_)
  ·refine wp_skip ?_
   refine hK21 _ _ ?_
   refine wp_seq_k (fun K24 hK24 => ?_)
   refine wp_block ?_
   refine region ?_
   refine RS.mvS rfl ?_
   refine RS.o (D.fieldL 2 rfl Tryd.underlying26 rfl C24 (by decide) rfl) ?_
   refine RS.o (D.load rfl Tryd.underlying24 rfl (B2.cell rfl)) ?_
   refine RS.mvI rfl ?_
   refine RS.ob (D.shr_u64 rfl rfl (by omega) (by constructor <;> omega)) (fun z25 => ?_)
   refine RS.o (D.conv rfl Tryd.underlying24 Tryd.underlying5 (W.u8m _)) ?_
   refine RS.buildSlice (xs := [.tmp 37]) (vs := [.int _ _]) (cs := [.int _ _]) Tryd.underlying35 T5 (by decide) rfl rfl rfl rfl rfl rfl (by intro v hv; simp only [List.mem_cons, List.not_mem_nil, or_false] at hv; subst hv; rfl) rfl (fun b26 w26 e26 s26 x26 B26 => ?_)
   refine RS.nm ?_
   replace hE := Ext.tr hE x26
   replace x20 := x20.ext x26
   replace B2 := B2.ext x26
   replace O1 := O1.ext x26
   have zw26 := x26.size
   have Q1 : IRow .u8 (fun k => k = b26) w26 (some ⟨b26, 0, none⟩) 1 [_] := IRow.of_blk B26 rfl rfl rfl (.cons (by simp only [lim]; omega) (.nil _))
   refine RS.appendI O1 Q1 rfl rfl Tryd.underlying35 T5 rfl (by omega) (by decide) (by omega) (fun a27 c27 w27 N27 x27 => ?_)
   refine RS.nm ?_
   replace hE := hE.trans (x27.below (by intros; try (first | (intro _ _) | (intro _) | skip); first | omega | (have hq := O1.lo _ (by assumption); first | omega | (dsimp only at *; omega))) (by intros; try (first | (intro _ _) | (intro _) | skip); first | omega | (dsimp only at *; omega) | (simp_all; done) | (simp at *; omega)))
   replace x20 := x20.prn x27 (by intros; try (first | (intro _ _) | (intro _) | skip); first | omega | (have hq := O1.lo _ (by assumption); first | omega | (dsimp only at *; omega)))
   replace B2 := B2.pr x27 (by intros; try (first | (intro _ _) | (intro _) | skip); first | omega | (have hq := O1.lo _ (by assumption); first | omega | (dsimp only at *; omega)))
   have zw27 := x27.size
   replace O1 := N27
   refine RS.asS rfl ?_
   refine nl hK24 ?_
   refine region ?_
   refine RS.mvI rfl ?_
   refine RS.o (D.sub rfl rfl (W.i64 (by omega))) ?_
   refine RS.asI rfl ?_
   refine RS.nil ?_
   change Nx _ _ _ _ _ _ _ _
   refine C.next (i - 8, _, _, _) ⟨rfl, rfl, trivial⟩ (by kernel_rfl) ?_ ?_
   ·refine ⟨x20, ⟨by dsimp only; omega, by dsimp only; omega⟩, by dsimp only; omega, ?_⟩
    dsimp only
    rw [S.be8_snoc _ _ (by omega) h2, ← List.append_assoc]
    exact O1
   dsimp only; omega
  have hneg := c23
  rw [show i = -8 by omega, show ((56 - (-8 : Int)) / 8).toNat = 8 from rfl, List.take_of_length_le (by rw [S.be8_len]; exact Nat.le_refl _)] at O1
  refine wp_exit ?_
  refine hK10 _ _ ?_
  refine sq fun K28 hK28 => ?_
  refine RS.mvS rfl ?_
  refine RS.asS rfl ?_
  refine RS.asI rfl ?_
  refine nl hK28 ?_
  refine wp_ret ?_
  refine ret (rs := [.tmp 2, .tmp 3]) (vs := [.slice _ _ _, .int _ _]) (v := (.tuple #[.slice _ _ _, .int _ _])) rfl ⟨rfl, rfl, trivial⟩ rfl ?_
  have e9 : S.valS k num bits t = [k] ++ S.be8 bits := by unfold S.valS; rw [if_neg (by omega), if_pos (by omega)]
  rw [e9]
  refine ⟨_, rfl, hE, _, _, _, rfl, O1.base (fun k hk => by have := O1.lo k hk; omega)⟩
 refine wp_seq_k (fun K29 hK29 => ?_)
 refine region ?_
 refine RS.o (D.eq rfl rfl) ?_
 refine RS.asB rfl ?_
 refine nl hK29 ?_
 refine C.ife rfl (fun c30 => ?_) (fun c30 => ?_)
 ·refine wp_seq_k (fun K31 hK31 => ?_)
  refine region ?_
  refine RS.o (D.fieldL 3 rfl Tryd.underlying26 rfl C9 (by decide) rfl) ?_
  refine RS.o (D.load rfl Tryd.underlying9 rfl (B2.cell rfl)) ?_
  refine RS.convSB rfl Tryd.underlying9 Tryd.underlying35 Tryd.underlying5 (fun a32 c32 w32 x32 g32 s32 R32 => ?_)
  refine RS.nm ?_
  replace hE := Ext.tr hE x32
  replace B2 := B2.ext x32
  replace O1 := O1.ext x32
  have zw32 := x32.size
  have RT := R32
  refine RS.call E45 (bytesW _ _ _ _ _ RT (by omega)) rfl (fun v33 w33 x33 A33 => ?_)
  replace hE := Ext.tr hE x33
  replace B2 := B2.ext x33
  replace O1 := O1.ext x33
  replace RT := RT.ext x33
  have zw33 := x33.size
  obtain ⟨a33, n33, c33, rfl, O2⟩ := A33
  have hnl := O2.len
  have hnb := S.numS_len (t.size : Int)
  rw [List.length_append, bys_len] at hnl
  refine RS.nm ?_
  refine RS.move (v := .tuple _) rfl ?_
  refine RS.extract (v := .slice _ _ _) rfl rfl ?_
  refine RS.extract (v := .int _ _) rfl rfl ?_
  refine RS.asS rfl ?_
  refine RS.asI rfl ?_
  refine nl hK31 ?_
  refine region ?_
  refine RS.mvS rfl ?_
  refine RS.mvS rfl ?_
  refine RS.appendI O1 O2.row rfl rfl Tryd.underlying35 T5 rfl (by omega) (by decide) (by omega) (fun a34 c34 w34 N34 x34 => ?_)
  refine RS.nm ?_
  replace hE := hE.trans (x34.below (by intros; try (first | (intro _ _) | (intro _) | skip); first | omega | (have hq := O1.lo _ (by assumption); first | omega | (dsimp only at *; omega))) (by intros; try (first | (intro _ _) | (intro _) | skip); first | omega | (dsimp only at *; omega) | (simp_all; done) | (simp at *; omega)))
  replace B2 := B2.pr x34 (by intros; try (first | (intro _ _) | (intro _) | skip); first | omega | (have hq := O1.lo _ (by assumption); first | omega | (dsimp only at *; omega)))
  have zw34 := x34.size
  replace O1 := N34
  refine RS.asS rfl ?_
  refine nl hK10 ?_
  refine sq fun K35 hK35 => ?_
  refine RS.mvS rfl ?_
  refine RS.asS rfl ?_
  refine RS.asI rfl ?_
  refine nl hK35 ?_
  refine wp_ret ?_
  refine ret (rs := [.tmp 2, .tmp 3]) (vs := [.slice _ _ _, .int _ _]) (v := (.tuple #[.slice _ _ _, .int _ _])) rfl ⟨rfl, rfl, trivial⟩ rfl ?_
  have e9 : S.valS k num bits t = [k] ++ (S.numS t.size ++ bys t) := by unfold S.valS; rw [if_neg (by omega), if_neg (by omega), if_pos (by omega)]
  rw [e9]
  refine ⟨_, rfl, hE, _, _, _, rfl, O1.base (fun k hk => by have := O1.lo k hk; omega)⟩
 exfalso; omega
end Go.Proofs.YtiohpiiiapjblaaDoor.W
namespace Go.Proofs.YtiohpiiiapjblaaDoor.W
open Go.RowKit Go.Proofs.YtiohpiiiapjblaaDoor.G
set_option linter.unusedVariables false
set_option maxRecDepth 20000
set_option maxHeartbeats 8000000
attribute [local irreducible] RS RX
theorem C28 : Tryd.prog.cellsOf 28 = 6 := by kernel_rfl
theorem T28 : TI Tryd.prog 28 6 64 [.int .u8 0, .string .empty, .int .u8 0, .int .i64 0, .int .u64 0, .string .empty] := by
 have h : (Tryd.prog.info? 28).map (fun i => (i.size, i.bytes, i.zero)) = some (6, 64, some (.agg #[.int .u8 0, .string .empty, .int .u8 0, .int .i64 0, .int .u64 0, .string .empty])) := by kernel_rfl
 exact TI.of h rfl
theorem F28 : SI Tryd.prog 28 [(0, 1), (1, 1), (2, 4)] := ⟨_, Tryd.underlying28, by kernel_rfl, by kernel_rfl⟩
theorem E51 : Enters Tryd.prog 51 := .mk Tryd.func51 (by kernel_rfl) rfl
theorem checkAct (k vk num bits : Int) (ky t : ByteArray) (hk : 0 ≤ k ∧ k < 256) (hvk : 0 ≤ vk ∧ vk < 256) (hnum : -9223372036854775808 ≤ num ∧ num ≤ 9223372036854775807) (hb : 0 ≤ bits ∧ bits < 18446744073709551616) (hkey : ky.size ≤ 100000) (ht : t.size ≤ 100000) (w : World) :
  Calls Tryd.prog 18 #[.agg ([.int .u8 k, .string ky, .int .u8 vk, .int .i64 num, .int .u64 bits, .string t] : List Value).toArray] w (Ret w fun v _ => v = .int .i64 (S.actE k ky vk num bits t)) := by
 have hE := Ext.refl w
 refine enterU 35 Tryd.func18 rfl rfl ?_
 refine sq fun K1 hK1 => ?_
 refine RS.box rfl rfl (fun b2 w2 e2 s2 x2 B2 => ?_)
 refine RS.nm ?_
 replace hE := Ext.tr hE x2
 have zw2 := x2.size
 refine RS.asI rfl ?_
 refine nl hK1 ?_
 refine sq fun K3 hK3 => ?_
 refine RS.asB rfl ?_
 refine nl hK3 ?_
 refine wp_seq_k (fun K4 hK4 => ?_)
 refine sq fun K5 hK5 => ?_
 refine RS.o (D.fieldL 0 rfl Tryd.underlying28 rfl C5 (by decide) rfl) ?_
 refine RS.o (D.load rfl Tryd.underlying5 rfl (B2.cell rfl)) ?_
 refine nl hK5 ?_
 refine wp_block ?_
 refine sq fun K6 hK6 => ?_
 refine RS.o (D.eq rfl rfl) ?_
 refine RS.asB rfl ?_
 refine nl hK6 ?_
 refine C.ife rfl (fun c7 => ?_) (fun c7 => ?_)
 ·refine region ?_
  refine RS.o (D.loadAgg rfl Tryd.underlying28 rfl C28 (by decide) rfl (B2.cellsN 6 rfl)) ?_
  refine RS.o (D.buildS T28 F28 (ps := [(0, .int _ _)]) rfl rfl) ?_
  refine RS.o (D.eqA rfl rfl Tryd.underlying28 rfl (by kernel_rfl) (by kernel_rfl) (by kernel_rfl)) ?_
  refine RS.asB rfl ?_
  refine nl hK4 ?_
  refine wp_seq_k (fun K8 hK8 => ?_)
  refine sq fun K9 hK9 => ?_
  refine RS.mvB rfl ?_
  refine RS.o (D.not rfl) ?_
  refine nl hK9 ?_
  refine C.ifnot rfl (fun c10 => ?_) (fun c10 => ?_)
  ·first | (have hqa := of_decide_eq_false ((S.eqA6 _ _ _ _ _ _ _ _ _ _ _ _).symm.trans c10)) | (have hqa := of_decide_eq_false ((S.eqV _ _ _ _ _ _ _ _).symm.trans c10)) | (have hqa := of_decide_eq_false ((strEq _ _).symm.trans c10)) | (have hqa := of_decide_eq_false c10) | (have hqa := c10)
   refine sq fun K11 hK11 => ?_
   refine RS.asI rfl ?_
   refine nl hK11 ?_
   refine wp_ret ?_
   refine retI rfl rfl ?_
   refine ⟨_, rfl, hE, congrArg (Value.int .i64) ?_⟩
   first | (refine S.actE_pos ?_; grind [S.FineAct, S.valE_zero]) | (refine S.actE_neg ?_; grind [S.FineAct, S.valE_zero])
  first | (have hqa := of_decide_eq_true ((S.eqA6 _ _ _ _ _ _ _ _ _ _ _ _).symm.trans c10)) | (have hqa := of_decide_eq_true ((S.eqV _ _ _ _ _ _ _ _).symm.trans c10)) | (have hqa := of_decide_eq_true ((strEq _ _).symm.trans c10)) | (have hqa := of_decide_eq_true c10) | (have hqa := c10)
  refine wp_skip ?_
  refine hK8 _ _ ?_
  refine sq fun K12 hK12 => ?_
  refine RS.asI rfl ?_
  refine nl hK12 ?_
  refine wp_ret ?_
  refine retI rfl rfl ?_
  refine ⟨_, rfl, hE, congrArg (Value.int .i64) ?_⟩
  first | (refine S.actE_pos ?_; grind [S.FineAct, S.valE_zero]) | (refine S.actE_neg ?_; grind [S.FineAct, S.valE_zero])
 refine wp_seq_k (fun K13 hK13 => ?_)
 refine sq fun K14 hK14 => ?_
 refine RS.o (D.eq rfl rfl) ?_
 refine RS.asB rfl ?_
 refine nl hK14 ?_
 refine C.ife rfl (fun c15 => ?_) (fun c15 => ?_)
 ·refine wp_skip ?_
  refine hK13 _ _ ?_
  refine C.ifb rfl (fun z16 => ?_) (fun z16 => ?_)
  ·refine region ?_
   refine RS.o (D.fieldL 1 rfl Tryd.underlying28 rfl C9 (by decide) rfl) ?_
   refine RS.o (D.load rfl Tryd.underlying9 rfl (B2.cell rfl)) ?_
   refine RS.call E51 (key _ _) rfl (fun v17 w17 x17 A17 => ?_)
   replace hE := Ext.tr hE x17
   replace B2 := B2.ext x17
   have zw17 := x17.size
   subst A17
   refine RS.nm ?_
   refine RS.mvB rfl ?_
   refine RS.splitb 17 rfl rfl (fun c18 => ?_) (fun c18 => ?_)
   ·refine RS.nm ?_
    have hkt := of_decide_eq_true c18
    refine RS.wt 17 ?_
    refine RS.o (D.fieldL 2 rfl Tryd.underlying28 rfl C26 (by decide) rfl) ?_
    refine RS.wt 17 ?_
    refine RS.o (D.loadAgg rfl Tryd.underlying26 rfl C26 (by decide) rfl (B2.cellsN 4 rfl)) ?_
    refine RS.wt 17 ?_
    refine RS.o (D.buildS T26 F26 (ps := []) rfl rfl) ?_
    refine RS.wt 17 ?_
    refine RS.o (D.eqA rfl rfl Tryd.underlying26 rfl (by kernel_rfl) (by kernel_rfl) (by kernel_rfl)) ?_
    refine RS.pick (v := .bool _) rfl rfl ?_
    refine RS.asB rfl ?_
    refine nl hK4 ?_
    refine wp_seq_k (fun K19 hK19 => ?_)
    refine sq fun K20 hK20 => ?_
    refine RS.mvB rfl ?_
    refine RS.o (D.not rfl) ?_
    refine nl hK20 ?_
    refine C.ifnot rfl (fun c21 => ?_) (fun c21 => ?_)
    ·first | (have hqa := of_decide_eq_false ((S.eqA6 _ _ _ _ _ _ _ _ _ _ _ _).symm.trans c21)) | (have hqa := of_decide_eq_false ((S.eqV _ _ _ _ _ _ _ _).symm.trans c21)) | (have hqa := of_decide_eq_false ((strEq _ _).symm.trans c21)) | (have hqa := of_decide_eq_false c21) | (have hqa := c21)
     refine sq fun K22 hK22 => ?_
     refine RS.asI rfl ?_
     refine nl hK22 ?_
     refine wp_ret ?_
     refine retI rfl rfl ?_
     refine ⟨_, rfl, hE, congrArg (Value.int .i64) ?_⟩
     first | (refine S.actE_pos ?_; grind [S.FineAct, S.valE_zero]) | (refine S.actE_neg ?_; grind [S.FineAct, S.valE_zero])
    first | (have hqa := of_decide_eq_true ((S.eqA6 _ _ _ _ _ _ _ _ _ _ _ _).symm.trans c21)) | (have hqa := of_decide_eq_true ((S.eqV _ _ _ _ _ _ _ _).symm.trans c21)) | (have hqa := of_decide_eq_true ((strEq _ _).symm.trans c21)) | (have hqa := of_decide_eq_true c21) | (have hqa := c21)
    refine wp_skip ?_
    refine hK19 _ _ ?_
    refine sq fun K23 hK23 => ?_
    refine RS.asI rfl ?_
    refine nl hK23 ?_
    refine wp_ret ?_
    refine retI rfl rfl ?_
    refine ⟨_, rfl, hE, congrArg (Value.int .i64) ?_⟩
    first | (refine S.actE_pos ?_; grind [S.FineAct, S.valE_zero]) | (refine S.actE_neg ?_; grind [S.FineAct, S.valE_zero])
   refine RS.nm ?_
   have hkf := of_decide_eq_false c18
   refine RS.skF 17 ?_
   refine RS.skF 17 ?_
   refine RS.skF 17 ?_
   refine RS.skF 17 ?_
   refine RS.pick (v := .bool false) rfl rfl ?_
   refine RS.asB rfl ?_
   refine nl hK4 ?_
   refine wp_seq_k (fun K24 hK24 => ?_)
   refine sq fun K25 hK25 => ?_
   refine RS.mvB rfl ?_
   refine RS.o (D.not rfl) ?_
   refine nl hK25 ?_
   refine C.ifnot rfl (fun c26 => ?_) (fun c26 => ?_)
   ·first | (have hqa := of_decide_eq_false ((S.eqA6 _ _ _ _ _ _ _ _ _ _ _ _).symm.trans c26)) | (have hqa := of_decide_eq_false ((S.eqV _ _ _ _ _ _ _ _).symm.trans c26)) | (have hqa := of_decide_eq_false ((strEq _ _).symm.trans c26)) | (have hqa := of_decide_eq_false c26) | (have hqa := c26)
    refine sq fun K27 hK27 => ?_
    refine RS.asI rfl ?_
    refine nl hK27 ?_
    refine wp_ret ?_
    refine retI rfl rfl ?_
    refine ⟨_, rfl, hE, congrArg (Value.int .i64) ?_⟩
    first | (refine S.actE_pos ?_; grind [S.FineAct, S.valE_zero]) | (refine S.actE_neg ?_; grind [S.FineAct, S.valE_zero])
   first | (have hqa := of_decide_eq_true ((S.eqA6 _ _ _ _ _ _ _ _ _ _ _ _).symm.trans c26)) | (have hqa := of_decide_eq_true ((S.eqV _ _ _ _ _ _ _ _).symm.trans c26)) | (have hqa := of_decide_eq_true ((strEq _ _).symm.trans c26)) | (have hqa := of_decide_eq_true c26) | (have hqa := c26)
   refine wp_skip ?_
   refine hK24 _ _ ?_
   refine sq fun K28 hK28 => ?_
   refine RS.asI rfl ?_
   refine nl hK28 ?_
   refine wp_ret ?_
   refine retI rfl rfl ?_
   refine ⟨_, rfl, hE, congrArg (Value.int .i64) ?_⟩
   first | (refine S.actE_pos ?_; grind [S.FineAct, S.valE_zero]) | (refine S.actE_neg ?_; grind [S.FineAct, S.valE_zero])
  exact absurd z16 (by first | (simp [c15]; done) | (simp_all; done) | omega)
 refine region ?_
 refine RS.o (D.eq rfl rfl) ?_
 refine RS.asB rfl ?_
 refine nl hK13 ?_
 refine C.ife rfl (fun c29 => ?_) (fun c29 => ?_)
 ·refine region ?_
  refine RS.o (D.fieldL 1 rfl Tryd.underlying28 rfl C9 (by decide) rfl) ?_
  refine RS.o (D.load rfl Tryd.underlying9 rfl (B2.cell rfl)) ?_
  refine RS.call E51 (key _ _) rfl (fun v30 w30 x30 A30 => ?_)
  replace hE := Ext.tr hE x30
  replace B2 := B2.ext x30
  have zw30 := x30.size
  subst A30
  refine RS.nm ?_
  refine RS.mvB rfl ?_
  refine RS.splitb 17 rfl rfl (fun c31 => ?_) (fun c31 => ?_)
  ·refine RS.nm ?_
   have hkt := of_decide_eq_true c31
   refine RS.wt 17 ?_
   refine RS.o (D.fieldL 2 rfl Tryd.underlying28 rfl C26 (by decide) rfl) ?_
   refine RS.wt 17 ?_
   refine RS.o (D.loadAgg rfl Tryd.underlying26 rfl C26 (by decide) rfl (B2.cellsN 4 rfl)) ?_
   refine RS.wt 17 ?_
   refine RS.o (D.buildS T26 F26 (ps := []) rfl rfl) ?_
   refine RS.wt 17 ?_
   refine RS.o (D.eqA rfl rfl Tryd.underlying26 rfl (by kernel_rfl) (by kernel_rfl) (by kernel_rfl)) ?_
   refine RS.pick (v := .bool _) rfl rfl ?_
   refine RS.asB rfl ?_
   refine nl hK4 ?_
   refine wp_seq_k (fun K32 hK32 => ?_)
   refine sq fun K33 hK33 => ?_
   refine RS.mvB rfl ?_
   refine RS.o (D.not rfl) ?_
   refine nl hK33 ?_
   refine C.ifnot rfl (fun c34 => ?_) (fun c34 => ?_)
   ·first | (have hqa := of_decide_eq_false ((S.eqA6 _ _ _ _ _ _ _ _ _ _ _ _).symm.trans c34)) | (have hqa := of_decide_eq_false ((S.eqV _ _ _ _ _ _ _ _).symm.trans c34)) | (have hqa := of_decide_eq_false ((strEq _ _).symm.trans c34)) | (have hqa := of_decide_eq_false c34) | (have hqa := c34)
    refine sq fun K35 hK35 => ?_
    refine RS.asI rfl ?_
    refine nl hK35 ?_
    refine wp_ret ?_
    refine retI rfl rfl ?_
    refine ⟨_, rfl, hE, congrArg (Value.int .i64) ?_⟩
    first | (refine S.actE_pos ?_; grind [S.FineAct, S.valE_zero]) | (refine S.actE_neg ?_; grind [S.FineAct, S.valE_zero])
   first | (have hqa := of_decide_eq_true ((S.eqA6 _ _ _ _ _ _ _ _ _ _ _ _).symm.trans c34)) | (have hqa := of_decide_eq_true ((S.eqV _ _ _ _ _ _ _ _).symm.trans c34)) | (have hqa := of_decide_eq_true ((strEq _ _).symm.trans c34)) | (have hqa := of_decide_eq_true c34) | (have hqa := c34)
   refine wp_skip ?_
   refine hK32 _ _ ?_
   refine sq fun K36 hK36 => ?_
   refine RS.asI rfl ?_
   refine nl hK36 ?_
   refine wp_ret ?_
   refine retI rfl rfl ?_
   refine ⟨_, rfl, hE, congrArg (Value.int .i64) ?_⟩
   first | (refine S.actE_pos ?_; grind [S.FineAct, S.valE_zero]) | (refine S.actE_neg ?_; grind [S.FineAct, S.valE_zero])
  refine RS.nm ?_
  have hkf := of_decide_eq_false c31
  refine RS.skF 17 ?_
  refine RS.skF 17 ?_
  refine RS.skF 17 ?_
  refine RS.skF 17 ?_
  refine RS.pick (v := .bool false) rfl rfl ?_
  refine RS.asB rfl ?_
  refine nl hK4 ?_
  refine wp_seq_k (fun K37 hK37 => ?_)
  refine sq fun K38 hK38 => ?_
  refine RS.mvB rfl ?_
  refine RS.o (D.not rfl) ?_
  refine nl hK38 ?_
  refine C.ifnot rfl (fun c39 => ?_) (fun c39 => ?_)
  ·first | (have hqa := of_decide_eq_false ((S.eqA6 _ _ _ _ _ _ _ _ _ _ _ _).symm.trans c39)) | (have hqa := of_decide_eq_false ((S.eqV _ _ _ _ _ _ _ _).symm.trans c39)) | (have hqa := of_decide_eq_false ((strEq _ _).symm.trans c39)) | (have hqa := of_decide_eq_false c39) | (have hqa := c39)
   refine sq fun K40 hK40 => ?_
   refine RS.asI rfl ?_
   refine nl hK40 ?_
   refine wp_ret ?_
   refine retI rfl rfl ?_
   refine ⟨_, rfl, hE, congrArg (Value.int .i64) ?_⟩
   first | (refine S.actE_pos ?_; grind [S.FineAct, S.valE_zero]) | (refine S.actE_neg ?_; grind [S.FineAct, S.valE_zero])
  first | (have hqa := of_decide_eq_true ((S.eqA6 _ _ _ _ _ _ _ _ _ _ _ _).symm.trans c39)) | (have hqa := of_decide_eq_true ((S.eqV _ _ _ _ _ _ _ _).symm.trans c39)) | (have hqa := of_decide_eq_true ((strEq _ _).symm.trans c39)) | (have hqa := of_decide_eq_true c39) | (have hqa := c39)
  refine wp_skip ?_
  refine hK37 _ _ ?_
  refine sq fun K41 hK41 => ?_
  refine RS.asI rfl ?_
  refine nl hK41 ?_
  refine wp_ret ?_
  refine retI rfl rfl ?_
  refine ⟨_, rfl, hE, congrArg (Value.int .i64) ?_⟩
  first | (refine S.actE_pos ?_; grind [S.FineAct, S.valE_zero]) | (refine S.actE_neg ?_; grind [S.FineAct, S.valE_zero])
 refine wp_seq_k (fun K42 hK42 => ?_)
 refine region ?_
 refine RS.o (D.eq rfl rfl) ?_
 refine RS.asB rfl ?_
 refine nl hK42 ?_
 refine C.ife rfl (fun c43 => ?_) (fun c43 => ?_)
 ·refine region ?_
  refine RS.o (D.fieldL 1 rfl Tryd.underlying28 rfl C9 (by decide) rfl) ?_
  refine RS.o (D.load rfl Tryd.underlying9 rfl (B2.cell rfl)) ?_
  refine RS.call E51 (key _ _) rfl (fun v44 w44 x44 A44 => ?_)
  replace hE := Ext.tr hE x44
  replace B2 := B2.ext x44
  have zw44 := x44.size
  subst A44
  refine RS.nm ?_
  refine RS.mvB rfl ?_
  refine RS.splitb 28 rfl rfl (fun c45 => ?_) (fun c45 => ?_)
  ·refine RS.nm ?_
   have hkt := of_decide_eq_true c45
   refine RS.wt 28 ?_
   refine RS.o (D.fieldL 2 rfl Tryd.underlying28 rfl C26 (by decide) rfl) ?_
   refine RS.wt 28 ?_
   refine RS.o (D.loadAgg rfl Tryd.underlying26 rfl C26 (by decide) rfl (B2.cellsN 4 rfl)) ?_
   refine RS.wt 28 ?_
   refine RS.call E52 (checkV _ _ _ _ hvk hnum hb _) rfl (fun v46 w46 x46 A46 => ?_)
   replace hE := Ext.tr hE x46
   replace B2 := B2.ext x46
   have zw46 := x46.size
   subst A46
   refine RS.nm ?_
   refine RS.wt 28 ?_
   refine RS.o (D.eq rfl rfl) ?_
   refine RS.pick (v := .bool _) rfl rfl ?_
   refine RS.asB rfl ?_
   refine nl hK4 ?_
   refine wp_seq_k (fun K47 hK47 => ?_)
   refine sq fun K48 hK48 => ?_
   refine RS.mvB rfl ?_
   refine RS.o (D.not rfl) ?_
   refine nl hK48 ?_
   refine C.ifnot rfl (fun c49 => ?_) (fun c49 => ?_)
   ·first | (have hqa := of_decide_eq_false ((S.eqA6 _ _ _ _ _ _ _ _ _ _ _ _).symm.trans c49)) | (have hqa := of_decide_eq_false ((S.eqV _ _ _ _ _ _ _ _).symm.trans c49)) | (have hqa := of_decide_eq_false ((strEq _ _).symm.trans c49)) | (have hqa := of_decide_eq_false c49) | (have hqa := c49)
    refine sq fun K50 hK50 => ?_
    refine RS.asI rfl ?_
    refine nl hK50 ?_
    refine wp_ret ?_
    refine retI rfl rfl ?_
    refine ⟨_, rfl, hE, congrArg (Value.int .i64) ?_⟩
    first | (refine S.actE_pos ?_; grind [S.FineAct, S.valE_zero]) | (refine S.actE_neg ?_; grind [S.FineAct, S.valE_zero])
   first | (have hqa := of_decide_eq_true ((S.eqA6 _ _ _ _ _ _ _ _ _ _ _ _).symm.trans c49)) | (have hqa := of_decide_eq_true ((S.eqV _ _ _ _ _ _ _ _).symm.trans c49)) | (have hqa := of_decide_eq_true ((strEq _ _).symm.trans c49)) | (have hqa := of_decide_eq_true c49) | (have hqa := c49)
   refine wp_skip ?_
   refine hK47 _ _ ?_
   refine sq fun K51 hK51 => ?_
   refine RS.asI rfl ?_
   refine nl hK51 ?_
   refine wp_ret ?_
   refine retI rfl rfl ?_
   refine ⟨_, rfl, hE, congrArg (Value.int .i64) ?_⟩
   first | (refine S.actE_pos ?_; grind [S.FineAct, S.valE_zero]) | (refine S.actE_neg ?_; grind [S.FineAct, S.valE_zero])
  refine RS.nm ?_
  have hkf := of_decide_eq_false c45
  refine RS.skF 28 ?_
  refine RS.skF 28 ?_
  refine RS.skF 28 ?_
  refine RS.skF 28 ?_
  refine RS.pick (v := .bool false) rfl rfl ?_
  refine RS.asB rfl ?_
  refine nl hK4 ?_
  refine wp_seq_k (fun K52 hK52 => ?_)
  refine sq fun K53 hK53 => ?_
  refine RS.mvB rfl ?_
  refine RS.o (D.not rfl) ?_
  refine nl hK53 ?_
  refine C.ifnot rfl (fun c54 => ?_) (fun c54 => ?_)
  ·first | (have hqa := of_decide_eq_false ((S.eqA6 _ _ _ _ _ _ _ _ _ _ _ _).symm.trans c54)) | (have hqa := of_decide_eq_false ((S.eqV _ _ _ _ _ _ _ _).symm.trans c54)) | (have hqa := of_decide_eq_false ((strEq _ _).symm.trans c54)) | (have hqa := of_decide_eq_false c54) | (have hqa := c54)
   refine sq fun K55 hK55 => ?_
   refine RS.asI rfl ?_
   refine nl hK55 ?_
   refine wp_ret ?_
   refine retI rfl rfl ?_
   refine ⟨_, rfl, hE, congrArg (Value.int .i64) ?_⟩
   first | (refine S.actE_pos ?_; grind [S.FineAct, S.valE_zero]) | (refine S.actE_neg ?_; grind [S.FineAct, S.valE_zero])
  first | (have hqa := of_decide_eq_true ((S.eqA6 _ _ _ _ _ _ _ _ _ _ _ _).symm.trans c54)) | (have hqa := of_decide_eq_true ((S.eqV _ _ _ _ _ _ _ _).symm.trans c54)) | (have hqa := of_decide_eq_true ((strEq _ _).symm.trans c54)) | (have hqa := of_decide_eq_true c54) | (have hqa := c54)
  refine wp_skip ?_
  refine hK52 _ _ ?_
  refine sq fun K56 hK56 => ?_
  refine RS.asI rfl ?_
  refine nl hK56 ?_
  refine wp_ret ?_
  refine retI rfl rfl ?_
  refine ⟨_, rfl, hE, congrArg (Value.int .i64) ?_⟩
  first | (refine S.actE_pos ?_; grind [S.FineAct, S.valE_zero]) | (refine S.actE_neg ?_; grind [S.FineAct, S.valE_zero])
 refine wp_skip ?_
 refine hK4 _ _ ?_
 refine wp_seq_k (fun K57 hK57 => ?_)
 refine sq fun K58 hK58 => ?_
 refine RS.mvB rfl ?_
 refine RS.o (D.not rfl) ?_
 refine nl hK58 ?_
 refine C.ifnot rfl (fun c59 => ?_) (fun c59 => ?_)
 ·first | (have hqa := of_decide_eq_false ((S.eqA6 _ _ _ _ _ _ _ _ _ _ _ _).symm.trans c59)) | (have hqa := of_decide_eq_false ((S.eqV _ _ _ _ _ _ _ _).symm.trans c59)) | (have hqa := of_decide_eq_false ((strEq _ _).symm.trans c59)) | (have hqa := of_decide_eq_false c59) | (have hqa := c59)
  refine sq fun K60 hK60 => ?_
  refine RS.asI rfl ?_
  refine nl hK60 ?_
  refine wp_ret ?_
  refine retI rfl rfl ?_
  refine ⟨_, rfl, hE, congrArg (Value.int .i64) ?_⟩
  first | (refine S.actE_pos ?_; grind [S.FineAct, S.valE_zero]) | (refine S.actE_neg ?_; grind [S.FineAct, S.valE_zero])
 first | (have hqa := of_decide_eq_true ((S.eqA6 _ _ _ _ _ _ _ _ _ _ _ _).symm.trans c59)) | (have hqa := of_decide_eq_true ((S.eqV _ _ _ _ _ _ _ _).symm.trans c59)) | (have hqa := of_decide_eq_true ((strEq _ _).symm.trans c59)) | (have hqa := of_decide_eq_true c59) | (have hqa := c59)
 refine wp_skip ?_
 refine hK57 _ _ ?_
 refine sq fun K61 hK61 => ?_
 refine RS.asI rfl ?_
 refine nl hK61 ?_
 refine wp_ret ?_
 refine retI rfl rfl ?_
 refine ⟨_, rfl, hE, congrArg (Value.int .i64) ?_⟩
 first | (refine S.actE_pos ?_; grind [S.FineAct, S.valE_zero]) | (refine S.actE_neg ?_; grind [S.FineAct, S.valE_zero])
end Go.Proofs.YtiohpiiiapjblaaDoor.W
namespace Go.Proofs.YtiohpiiiapjblaaDoor.W
open Go.RowKit Go.Proofs.YtiohpiiiapjblaaDoor.G
set_option linter.unusedVariables false
set_option maxRecDepth 20000
set_option maxHeartbeats 8000000
attribute [local irreducible] RS RX
theorem C23 : Tryd.prog.cellsOf 23 = 1 := by kernel_rfl
theorem C30 : Tryd.prog.cellsOf 30 = 2 := by kernel_rfl
theorem E18 : Enters Tryd.prog 18 := .mk Tryd.func18 (by kernel_rfl) rfl
theorem E55 : Enters Tryd.prog 55 := .mk Tryd.func55 (by kernel_rfl) rfl
theorem E57 : Enters Tryd.prog 57 := .mk Tryd.func57 (by kernel_rfl) rfl
theorem E58 : Enters Tryd.prog 58 := .mk Tryd.func58 (by kernel_rfl) rfl
theorem checkO {S0 : Nat → Prop} (o : S.OpV) (ho : o.ok) (pa : Option Addr) (pc : Nat) (w : World) (D0 : WRow .u8 32 S0 w pa o.n o.ids) (hc : o.n ≤ pc) :
  Calls Tryd.prog 20 #[.agg ([.int .u32 o.au, .slice pa o.n pc, .int .u64 o.st, .int .u8 o.k, .string o.key, .int .u8 o.vk, .int .i64 o.num, .int .u64 o.bits, .string o.t, .int .u32 o.e, .int .u32 o.s] : List Value).toArray] w (Ret w fun v _ => v = .int .i64 (S.checkE o)) := by
 replace D0 := D0.weaken (T := fun k => k < w.heap.size) (fun k hk _ => hk)
 have o1 := ho.au
 have o2 := ho.st
 have o3 := ho.k
 have o4 := ho.vk
 have o5 := ho.num
 have o6 := ho.bits
 have o7 := ho.e
 have o8 := ho.s
 have o9 := ho.n
 have o10 := ho.key
 have o11 := ho.t
 have hE := Ext.refl w
 refine enterU 46 Tryd.func20 rfl rfl ?_
 refine sq fun K1 hK1 => ?_
 refine RS.box rfl rfl (fun b2 w2 e2 s2 x2 B2 => ?_)
 refine RS.nm ?_
 replace hE := Ext.tr hE x2
 replace D0 := D0.ext x2
 have zw2 := x2.size
 refine RS.asI rfl ?_
 refine nl hK1 ?_
 refine wp_seq_k (fun K3 hK3 => ?_)
 refine wp_block ?_
 refine sq fun K4 hK4 => ?_
 refine RS.o (D.fieldL 1 rfl Tryd.underlying32 rfl C23 (by decide) rfl) ?_
 refine RS.o (D.load rfl Tryd.underlying23 rfl (B2.cell rfl)) ?_
 refine RS.o (D.len rfl Tryd.underlying23) ?_
 refine RS.o (D.gt rfl rfl) ?_
 refine RS.asB rfl ?_
 refine nl hK4 ?_
 refine C.ifd rfl (fun c5 => ?_) (fun c5 => ?_)
 ·have h4 := c5
  refine sq fun K6 hK6 => ?_
  refine RS.asI rfl ?_
  refine nl hK6 ?_
  refine wp_ret ?_
  refine retI rfl rfl ?_
  refine ⟨_, rfl, hE, congrArg (Value.int .i64) ?_⟩
  exact S.check4 (by omega)
 have h4 := c5
 refine wp_seq_k (fun K7 hK7 => ?_)
 refine regionX (Below w2.heap.size) [(0, .q), (1, .q), (2, .e), (3, .q), (4, .q), (5, .q), (6, .q), (10, .q), (11, .q), (12, .q), (7, .e), (8, .e), (9, .q), (13, .q), (14, .q), (15, .q)] mixed (fun w => Below.refl _ _) (fun h k => Below.trans h k) (by kernel_rfl) (fun w8 x8 => ?_)
 replace hE := Ext.tr hE x8
 replace D0 := D0.ext x8
 replace B2 := B2.ext x8
 have zw8 := x8.size
 refine RX.o (fun w' hw => D.fieldL 1 rfl Tryd.underlying32 rfl C23 (by decide) rfl) ?_
 refine RX.o (fun w' hw => D.load rfl Tryd.underlying23 rfl ((B2.bel hw (by omega)).cell rfl)) ?_
 refine RX.eff ?_
 refine RS.call E55 (isSorted _ _ _ _ _ D0 hc (by omega)) rfl (fun v9 w9 x9 A9 => ?_)
 replace hE := Ext.tr hE x9
 replace D0 := D0.ext x9
 replace B2 := B2.ext x9
 have zw9 := x9.size
 subst A9
 refine RS.nm ?_
 refine RS.nil ⟨(x9.mono (by omega)), ?_⟩
 refine RX.o (fun w' hw => D.not rfl) ?_
 refine RX.mvB rfl ?_
 refine RX.splitnot 13 rfl rfl (fun c10 => ?_) (fun c10 => ?_)
 ·refine RX.nm ?_
  have hso := of_decide_eq_false c10
  refine RX.skT 13 ?_
  refine RX.skT 13 ?_
  refine RX.skT 13 ?_
  refine RX.skT 13 ?_
  refine RX.skT 13 ?_
  refine RX.skT 13 ?_
  refine RX.skT 13 ?_
  refine RX.skT 13 ?_
  refine RX.skT 13 ?_
  refine RX.pick (v := .bool true) rfl rfl ?_
  refine RX.assign (v := .bool _) rfl ?_
  refine RX.nil (hK7 _ _ ?_)
  refine C.ift rfl ?_
  refine sq fun K11 hK11 => ?_
  refine RS.asI rfl ?_
  refine nl hK11 ?_
  refine wp_ret ?_
  refine retI rfl rfl ?_
  refine ⟨_, rfl, hE, congrArg (Value.int .i64) ?_⟩
  exact S.check32 (by omega) (fun h => hso ((S.rising_iff _ _).1 h).1)
 refine RX.nm ?_
 have hso := of_decide_eq_true c10
 refine RX.wt 13 ?_
 refine RX.o (fun w' hw => D.fieldL 1 rfl Tryd.underlying32 rfl C23 (by decide) rfl) ?_
 refine RX.wt 13 ?_
 refine RX.o (fun w' hw => D.load rfl Tryd.underlying23 rfl ((B2.bel hw (by omega)).cell rfl)) ?_
 refine RX.wt 13 ?_
 refine RX.o (fun w' hw => D.fieldL 1 rfl Tryd.underlying32 rfl C23 (by decide) rfl) ?_
 refine RX.wt 13 ?_
 refine RX.o (fun w' hw => D.load rfl Tryd.underlying23 rfl ((B2.bel hw (by omega)).cell rfl)) ?_
 refine RX.wt 13 ?_
 refine RX.o (fun w' hw => D.len rfl Tryd.underlying23) ?_
 refine RX.wt 13 ?_
 refine RX.eff ?_
 refine RS.call E58 (cloneID _ _ _ _ _ D0 hc (by omega)) rfl (fun v12 w12 x12 A12 => ?_)
 replace hE := Ext.tr hE x12
 replace D0 := D0.ext x12
 replace B2 := B2.ext x12
 have zw12 := x12.size
 obtain ⟨a12, n12, c12, rfl, hnn, O1⟩ := A12
 obtain ⟨g0, hg, hgl⟩ : ∃ g0, (n12 < 2 ∨ a12 = some ⟨g0, 0, none⟩) ∧ w2.heap.size ≤ g0 := by
  by_cases h2 : n12 < 2
  ·exact ⟨w12.heap.size, .inl h2, by omega⟩
  obtain ⟨g, hg⟩ := O1.some (by omega)
  exact ⟨g, .inr hg, by have := O1.los g (by rw [hg]; rfl); omega⟩
 refine RS.nm ?_
 refine RS.nil ⟨(x12.mono (by omega)), ?_⟩
 refine RX.wt 13 ?_
 refine RX.eff ?_
 refine RS.callx E57 (compact _ _ _ _ _ _ _ O1 hg (by omega)) rfl (fun e13 w13 A13 => ?_)
 obtain ⟨a13, n13, c13, rfl, X13, hap⟩ := A13
 refine ⟨_, rfl, ?_⟩
 refine RS.nm ?_
 replace hE := hE.trans (X13.belo)
 replace D0 := D0.pro X13
 replace B2 := B2.pro X13
 have zw13 := X13.size
 have hnz := hnn
 refine RS.nil ⟨(X13.belo), ?_⟩
 refine RX.wt 13 ?_
 refine RX.o (fun w' hw => D.len rfl Tryd.underlying23) ?_
 refine RX.wt 13 ?_
 refine RX.o (fun w' hw => D.ne rfl rfl) ?_
 refine RX.pick (v := .bool _) rfl rfl ?_
 refine RX.assign (v := .bool _) rfl ?_
 refine RX.nil (hK7 _ _ ?_)
 refine C.ifn rfl (fun c14 => ?_) (fun c14 => ?_)
 ·try have hne := c14
  refine sq fun K15 hK15 => ?_
  refine RS.asI rfl ?_
  refine nl hK15 ?_
  refine wp_ret ?_
  refine retI rfl rfl ?_
  refine ⟨_, rfl, hE, congrArg (Value.int .i64) ?_⟩
  exact S.check32 (by omega) (fun h => hne (by have := hap.2; rw [hnz] at this; exact congrArg Nat.cast (this ((S.rising_iff _ _).1 h).2)))
 try have hne := c14
 refine sq fun K16 hK16 => ?_
 refine RS.o (D.fieldL 0 rfl Tryd.underlying32 rfl C22 (by decide) rfl) ?_
 refine RS.o (D.load rfl Tryd.underlying22 rfl (B2.cell rfl)) ?_
 refine RS.call E59 (group_Is _ (by omega) _) rfl (fun v17 w17 x17 A17 => ?_)
 replace hE := Ext.tr hE x17
 replace D0 := D0.ext x17
 replace B2 := B2.ext x17
 have zw17 := x17.size
 subst A17
 refine RS.nm ?_
 refine RS.o (D.not rfl) ?_
 refine RS.mvB rfl ?_
 refine RS.splitnot 29 rfl rfl (fun c18 => ?_) (fun c18 => ?_)
 ·refine RS.nm ?_
  have hG := c18
  refine RS.skT 29 ?_
  refine RS.skT 29 ?_
  refine RS.skT 29 ?_
  refine RS.pick (v := .bool true) rfl rfl ?_
  refine RS.mvB rfl ?_
  refine RS.skT 34 ?_
  refine RS.skT 34 ?_
  refine RS.skT 34 ?_
  refine RS.skT 34 ?_
  refine RS.skT 34 ?_
  refine RS.skT 34 ?_
  refine RS.skT 34 ?_
  refine RS.skT 34 ?_
  refine RS.pick (v := .bool true) rfl rfl ?_
  refine RS.asB rfl ?_
  refine nl hK16 ?_
  refine C.ift rfl ?_
  refine sq fun K19 hK19 => ?_
  refine RS.asI rfl ?_
  refine nl hK19 ?_
  refine wp_ret ?_
  refine retI rfl rfl ?_
  refine ⟨_, rfl, hE, congrArg (Value.int .i64) ?_⟩
  have hri : S.Rising o.n o.ids := (S.rising_iff _ _).2 ⟨hso, by have h7 := hap.1; rw [hnz] at h7; exact h7 (by omega)⟩
  refine S.check8 (by omega) hri (fun h => ?_)
  have := h.1
  simp_all
 refine RS.nm ?_
 have hG := c18
 refine RS.wt 29 ?_
 refine RS.o (D.fieldL 2 rfl Tryd.underlying32 rfl C24 (by decide) rfl) ?_
 refine RS.wt 29 ?_
 refine RS.o (D.load rfl Tryd.underlying24 rfl (B2.cell rfl)) ?_
 refine RS.wt 29 ?_
 refine RS.o (D.gt rfl rfl) ?_
 refine RS.pick (v := .bool _) rfl rfl ?_
 refine RS.mvB rfl ?_
 refine RS.splitd 34 rfl rfl (fun c20 => ?_) (fun c20 => ?_)
 ·refine RS.nm ?_
  have hS := c20
  refine RS.skT 34 ?_
  refine RS.skT 34 ?_
  refine RS.skT 34 ?_
  refine RS.skT 34 ?_
  refine RS.skT 34 ?_
  refine RS.skT 34 ?_
  refine RS.skT 34 ?_
  refine RS.skT 34 ?_
  refine RS.pick (v := .bool true) rfl rfl ?_
  refine RS.asB rfl ?_
  refine nl hK16 ?_
  refine C.ift rfl ?_
  refine sq fun K21 hK21 => ?_
  refine RS.asI rfl ?_
  refine nl hK21 ?_
  refine wp_ret ?_
  refine retI rfl rfl ?_
  refine ⟨_, rfl, hE, congrArg (Value.int .i64) ?_⟩
  have hri : S.Rising o.n o.ids := (S.rising_iff _ _).2 ⟨hso, by have h7 := hap.1; rw [hnz] at h7; exact h7 (by omega)⟩
  refine S.check8 (by omega) hri (fun h => ?_)
  have := h.2.1
  omega
 refine RS.nm ?_
 have hS := c20
 refine RS.wt 34 ?_
 refine RS.o (D.fieldL 9 rfl Tryd.underlying32 rfl C30 (by decide) rfl) ?_
 refine RS.wt 34 ?_
 refine RS.o (D.fieldL 9 rfl Tryd.underlying30 rfl C22 (by decide) rfl) ?_
 refine RS.wt 34 ?_
 refine RS.o (D.load rfl Tryd.underlying22 rfl (B2.cell rfl)) ?_
 refine RS.wt 34 ?_
 refine RS.o (D.fieldL 9 rfl Tryd.underlying32 rfl C30 (by decide) rfl) ?_
 refine RS.wt 34 ?_
 refine RS.o (D.fieldL 10 rfl Tryd.underlying30 rfl C22 (by decide) rfl) ?_
 refine RS.wt 34 ?_
 refine RS.o (D.load rfl Tryd.underlying22 rfl (B2.cell rfl)) ?_
 refine RS.wt 34 ?_
 refine RS.o (D.max2 rfl rfl) ?_
 refine RS.wt 34 ?_
 refine RS.o (D.ge rfl rfl) ?_
 refine RS.pick (v := .bool _) rfl rfl ?_
 refine RS.asB rfl ?_
 refine nl hK16 ?_
 refine C.ifd rfl (fun c22 => ?_) (fun c22 => ?_)
 ·try have hQ := c22
  refine sq fun K23 hK23 => ?_
  refine RS.asI rfl ?_
  refine nl hK23 ?_
  refine wp_ret ?_
  refine retI rfl rfl ?_
  refine ⟨_, rfl, hE, congrArg (Value.int .i64) ?_⟩
  have hri : S.Rising o.n o.ids := (S.rising_iff _ _).2 ⟨hso, by have h7 := hap.1; rw [hnz] at h7; exact h7 (by omega)⟩
  refine S.check8 (by omega) hri (fun h => ?_)
  have h1 := h.2.2.1
  have h2 := h.2.2.2.1
  split at hQ <;> omega
 try have hQ := c22
 refine wp_skip ?_
 refine hK3 _ _ ?_
 refine sq fun K24 hK24 => ?_
 refine RS.o (D.fieldL 3 rfl Tryd.underlying32 rfl C28 (by decide) rfl) ?_
 refine RS.o (D.loadAgg rfl Tryd.underlying28 rfl C28 (by decide) rfl (B2.cellsN 6 rfl)) ?_
 refine RS.call E18 (checkAct _ _ _ _ _ _ o3 o4 o5 o6 (by omega) (by omega) _) rfl (fun v25 w25 x25 A25 => ?_)
 replace hE := Ext.tr hE x25
 replace D0 := D0.ext x25
 replace B2 := B2.ext x25
 have zw25 := x25.size
 subst A25
 refine RS.nm ?_
 refine RS.asI rfl ?_
 refine nl hK24 ?_
 refine wp_ret ?_
 refine retI rfl rfl ?_
 refine ⟨_, rfl, hE, congrArg (Value.int .i64) ?_⟩
 have hri : S.Rising o.n o.ids := (S.rising_iff _ _).2 ⟨hso, by have h7 := hap.1; rw [hnz] at h7; exact h7 (by omega)⟩
 refine S.checkA (by omega) hri (by simpa using hG) (by omega) ?_ ?_ <;> (split at hQ <;> omega)
end Go.Proofs.YtiohpiiiapjblaaDoor.W
namespace Go.Proofs.YtiohpiiiapjblaaDoor.W
open Go.RowKit Go.Proofs.YtiohpiiiapjblaaDoor.G
set_option linter.unusedVariables false
set_option maxRecDepth 20000
set_option maxHeartbeats 8000000
attribute [local irreducible] RS RX
theorem C32 : Tryd.prog.cellsOf 32 = 11 := by kernel_rfl
theorem T30 : TI Tryd.prog 30 2 8 [.int .u32 0, .int .u32 0] := by
 have h : (Tryd.prog.info? 30).map (fun i => (i.size, i.bytes, i.zero)) = some (2, 8, some (.agg #[.int .u32 0, .int .u32 0])) := by kernel_rfl
 exact TI.of h rfl
theorem T32 : TI Tryd.prog 32 11 112 [.int .u32 0, .slice none 0 0, .int .u64 0, .int .u8 0, .string .empty, .int .u8 0, .int .i64 0, .int .u64 0, .string .empty, .int .u32 0, .int .u32 0] := by
 have h : (Tryd.prog.info? 32).map (fun i => (i.size, i.bytes, i.zero)) = some (11, 112, some (.agg #[.int .u32 0, .slice none 0 0, .int .u64 0, .int .u8 0, .string .empty, .int .u8 0, .int .i64 0, .int .u64 0, .string .empty, .int .u32 0, .int .u32 0])) := by kernel_rfl
 exact TI.of h rfl
theorem F30 : SI Tryd.prog 30 [(0, 1), (1, 1)] := ⟨_, Tryd.underlying30, by kernel_rfl, by kernel_rfl⟩
theorem E63 : Enters Tryd.prog 63 := .mk Tryd.func63 (by kernel_rfl) rfl
theorem sameO {S0 S1 : Nat → Prop} (o u : S.OpV) (ho : o.ok) (hu : u.ok) (pa qa : Option Addr) (pc qc : Nat) (w : World) (D0 : WRow .u8 32 S0 w pa o.n o.ids) (D1 : WRow .u8 32 S1 w qa u.n u.ids) :
  Calls Tryd.prog 23 #[.agg ([.int .u32 o.au, .slice pa o.n pc, .int .u64 o.st, .int .u8 o.k, .string o.key, .int .u8 o.vk, .int .i64 o.num, .int .u64 o.bits, .string o.t, .int .u32 o.e, .int .u32 o.s] : List Value).toArray, .agg ([.int .u32 u.au, .slice qa u.n qc, .int .u64 u.st, .int .u8 u.k, .string u.key, .int .u8 u.vk, .int .i64 u.num, .int .u64 u.bits, .string u.t, .int .u32 u.e, .int .u32 u.s] : List Value).toArray] w (Ret w fun v _ => v = .bool (decide (S.SameO o u))) := by
 have h1 := ho.n
 have h2 := hu.n
 have hE := Ext.refl w
 refine enterU 36 Tryd.func23 rfl rfl ?_
 refine sq fun K1 hK1 => ?_
 refine RS.box rfl rfl (fun b2 w2 e2 s2 x2 B2 => ?_)
 refine RS.nm ?_
 replace hE := Ext.tr hE x2
 replace D0 := D0.ext x2
 replace D1 := D1.ext x2
 have zw2 := x2.size
 refine RS.box rfl rfl (fun b3 w3 e3 s3 x3 B3 => ?_)
 refine RS.nm ?_
 replace hE := Ext.tr hE x3
 replace D0 := D0.ext x3
 replace D1 := D1.ext x3
 replace B2 := B2.ext x3
 have zw3 := x3.size
 refine RS.asB rfl ?_
 refine nl hK1 ?_
 refine sq fun K4 hK4 => ?_
 refine RS.o (D.fieldL 0 rfl Tryd.underlying32 rfl C22 (by decide) rfl) ?_
 refine RS.o (D.load rfl Tryd.underlying22 rfl (B2.cell rfl)) ?_
 refine RS.o (D.fieldL 0 rfl Tryd.underlying32 rfl C22 (by decide) rfl) ?_
 refine RS.o (D.load rfl Tryd.underlying22 rfl (B3.cell rfl)) ?_
 refine RS.o (D.eq rfl rfl) ?_
 refine RS.mvB rfl ?_
 refine RS.splite 10 rfl rfl (fun c5 => ?_) (fun c5 => ?_)
 ·refine RS.nm ?_
  have e1 := c5
  refine RS.wt 10 ?_
  refine RS.o (D.fieldL 1 rfl Tryd.underlying32 rfl C23 (by decide) rfl) ?_
  refine RS.wt 10 ?_
  refine RS.o (D.load rfl Tryd.underlying23 rfl (B2.cell rfl)) ?_
  refine RS.wt 10 ?_
  refine RS.o (D.fieldL 1 rfl Tryd.underlying32 rfl C23 (by decide) rfl) ?_
  refine RS.wt 10 ?_
  refine RS.o (D.load rfl Tryd.underlying23 rfl (B3.cell rfl)) ?_
  refine RS.wt 10 ?_
  refine RS.call E63 (sameIDs _ _ _ _ _ _ _ _ _ D0 D1 (by omega) (by omega)) rfl (fun v6 w6 x6 A6 => ?_)
  replace hE := Ext.tr hE x6
  replace D0 := D0.ext x6
  replace D1 := D1.ext x6
  replace B2 := B2.ext x6
  replace B3 := B3.ext x6
  have zw6 := x6.size
  subst A6
  refine RS.nm ?_
  refine RS.pick (v := .bool _) rfl rfl ?_
  refine RS.mvB rfl ?_
  refine RS.splitb 17 rfl rfl (fun c7 => ?_) (fun c7 => ?_)
  ·refine RS.nm ?_
   have e2 := of_decide_eq_true c7
   refine RS.wt 17 ?_
   refine RS.o (D.fieldL 2 rfl Tryd.underlying32 rfl C24 (by decide) rfl) ?_
   refine RS.wt 17 ?_
   refine RS.o (D.load rfl Tryd.underlying24 rfl (B2.cell rfl)) ?_
   refine RS.wt 17 ?_
   refine RS.o (D.fieldL 2 rfl Tryd.underlying32 rfl C24 (by decide) rfl) ?_
   refine RS.wt 17 ?_
   refine RS.o (D.load rfl Tryd.underlying24 rfl (B3.cell rfl)) ?_
   refine RS.wt 17 ?_
   refine RS.o (D.eq rfl rfl) ?_
   refine RS.pick (v := .bool _) rfl rfl ?_
   refine RS.mvB rfl ?_
   refine RS.splite 24 rfl rfl (fun c8 => ?_) (fun c8 => ?_)
   ·refine RS.nm ?_
    have e3 := c8
    refine RS.wt 24 ?_
    refine RS.o (D.fieldL 3 rfl Tryd.underlying32 rfl C28 (by decide) rfl) ?_
    refine RS.wt 24 ?_
    refine RS.o (D.loadAgg rfl Tryd.underlying28 rfl C28 (by decide) rfl (B2.cellsN 6 rfl)) ?_
    refine RS.wt 24 ?_
    refine RS.o (D.fieldL 3 rfl Tryd.underlying32 rfl C28 (by decide) rfl) ?_
    refine RS.wt 24 ?_
    refine RS.o (D.loadAgg rfl Tryd.underlying28 rfl C28 (by decide) rfl (B3.cellsN 6 rfl)) ?_
    refine RS.wt 24 ?_
    refine RS.o (D.eqA rfl rfl Tryd.underlying28 rfl (by kernel_rfl) (by kernel_rfl) (by kernel_rfl)) ?_
    refine RS.pick (v := .bool _) rfl rfl ?_
    refine RS.mvB rfl ?_
    refine RS.splitb 31 rfl rfl (fun c9 => ?_) (fun c9 => ?_)
    ·refine RS.nm ?_
     have e4 := of_decide_eq_true ((S.eqA6 _ _ _ _ _ _ _ _ _ _ _ _).symm.trans c9)
     refine RS.wt 31 ?_
     refine RS.o (D.fieldL 9 rfl Tryd.underlying32 rfl C30 (by decide) rfl) ?_
     refine RS.wt 31 ?_
     refine RS.o (D.loadAgg rfl Tryd.underlying30 rfl C30 (by decide) rfl (B2.cellsN 2 rfl)) ?_
     refine RS.wt 31 ?_
     refine RS.o (D.fieldL 9 rfl Tryd.underlying32 rfl C30 (by decide) rfl) ?_
     refine RS.wt 31 ?_
     refine RS.o (D.loadAgg rfl Tryd.underlying30 rfl C30 (by decide) rfl (B3.cellsN 2 rfl)) ?_
     refine RS.wt 31 ?_
     refine RS.o (D.eqA rfl rfl Tryd.underlying30 rfl (by kernel_rfl) (by kernel_rfl) (by kernel_rfl)) ?_
     refine RS.pick (v := .bool _) rfl rfl ?_
     refine RS.asB rfl ?_
     refine nl hK4 ?_
     refine wp_ret ?_
     refine retB rfl rfl ?_
     refine ⟨_, rfl, hE, congrArg Value.bool ?_⟩
     refine Eq.trans (S.eqS2 _ _ _ _) (decide_eq_decide.2 ?_)
     exact ⟨fun h => ⟨e1, e2, e3, e4, h⟩, fun h => h.2.2.2.2⟩
    refine RS.nm ?_
    have e4 := of_decide_eq_false ((S.eqA6 _ _ _ _ _ _ _ _ _ _ _ _).symm.trans c9)
    refine RS.skF 31 ?_
    refine RS.skF 31 ?_
    refine RS.skF 31 ?_
    refine RS.skF 31 ?_
    refine RS.skF 31 ?_
    refine RS.pick (v := .bool false) rfl rfl ?_
    refine RS.asB rfl ?_
    refine nl hK4 ?_
    refine wp_ret ?_
    refine retB rfl rfl ?_
    refine ⟨_, rfl, hE, congrArg Value.bool ?_⟩
    refine (decide_eq_false (fun h => ?_)).symm
    exact absurd h.2.2.2.1 e4
   refine RS.nm ?_
   have e3 := c8
   refine RS.skF 24 ?_
   refine RS.skF 24 ?_
   refine RS.skF 24 ?_
   refine RS.skF 24 ?_
   refine RS.skF 24 ?_
   refine RS.pick (v := .bool false) rfl rfl ?_
   refine RS.mvB rfl ?_
   refine RS.skF 31 ?_
   refine RS.skF 31 ?_
   refine RS.skF 31 ?_
   refine RS.skF 31 ?_
   refine RS.skF 31 ?_
   refine RS.pick (v := .bool false) rfl rfl ?_
   refine RS.asB rfl ?_
   refine nl hK4 ?_
   refine wp_ret ?_
   refine retB rfl rfl ?_
   refine ⟨_, rfl, hE, congrArg Value.bool ?_⟩
   refine (decide_eq_false (fun h => ?_)).symm
   exact absurd h.2.2.1 e3
  refine RS.nm ?_
  have e2 := of_decide_eq_false c7
  refine RS.skF 17 ?_
  refine RS.skF 17 ?_
  refine RS.skF 17 ?_
  refine RS.skF 17 ?_
  refine RS.skF 17 ?_
  refine RS.pick (v := .bool false) rfl rfl ?_
  refine RS.mvB rfl ?_
  refine RS.skF 24 ?_
  refine RS.skF 24 ?_
  refine RS.skF 24 ?_
  refine RS.skF 24 ?_
  refine RS.skF 24 ?_
  refine RS.pick (v := .bool false) rfl rfl ?_
  refine RS.mvB rfl ?_
  refine RS.skF 31 ?_
  refine RS.skF 31 ?_
  refine RS.skF 31 ?_
  refine RS.skF 31 ?_
  refine RS.skF 31 ?_
  refine RS.pick (v := .bool false) rfl rfl ?_
  refine RS.asB rfl ?_
  refine nl hK4 ?_
  refine wp_ret ?_
  refine retB rfl rfl ?_
  refine ⟨_, rfl, hE, congrArg Value.bool ?_⟩
  refine (decide_eq_false (fun h => ?_)).symm
  exact absurd h.2.1 e2
 refine RS.nm ?_
 have e1 := c5
 refine RS.skF 10 ?_
 refine RS.skF 10 ?_
 refine RS.skF 10 ?_
 refine RS.skF 10 ?_
 refine RS.skF 10 ?_
 refine RS.pick (v := .bool false) rfl rfl ?_
 refine RS.mvB rfl ?_
 refine RS.skF 17 ?_
 refine RS.skF 17 ?_
 refine RS.skF 17 ?_
 refine RS.skF 17 ?_
 refine RS.skF 17 ?_
 refine RS.pick (v := .bool false) rfl rfl ?_
 refine RS.mvB rfl ?_
 refine RS.skF 24 ?_
 refine RS.skF 24 ?_
 refine RS.skF 24 ?_
 refine RS.skF 24 ?_
 refine RS.skF 24 ?_
 refine RS.pick (v := .bool false) rfl rfl ?_
 refine RS.mvB rfl ?_
 refine RS.skF 31 ?_
 refine RS.skF 31 ?_
 refine RS.skF 31 ?_
 refine RS.skF 31 ?_
 refine RS.skF 31 ?_
 refine RS.pick (v := .bool false) rfl rfl ?_
 refine RS.asB rfl ?_
 refine nl hK4 ?_
 refine wp_ret ?_
 refine retB rfl rfl ?_
 refine ⟨_, rfl, hE, congrArg Value.bool ?_⟩
 refine (decide_eq_false (fun h => ?_)).symm
 exact absurd h.1 e1
end Go.Proofs.YtiohpiiiapjblaaDoor.W
