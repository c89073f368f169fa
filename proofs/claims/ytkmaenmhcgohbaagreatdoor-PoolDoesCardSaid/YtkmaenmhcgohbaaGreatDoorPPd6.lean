/-
  Part 6 of the lemmas of these laws: PoolDoes.
-/
import Derived.Test.YtkmaenmhcgohbaaGreatDoorPPd5
set_option linter.unusedSimpArgs false
namespace Go.Proofs.YtkmaenmhcgohbaaGreatDoor.W
open Go.RowKit Go.Proofs.YtkmaenmhcgohbaaGreatDoor.G
set_option linter.unusedVariables false
set_option maxRecDepth 20000
set_option maxHeartbeats 8000000
attribute [local irreducible] RS RX
theorem E91 : Enters Tryz.prog 91 := .mk Tryz.func91 (by kernel_rfl) rfl
theorem E276 : Enters Tryz.prog 276 := .mk Tryz.func276 (by kernel_rfl) rfl
theorem idsW {S0 : Nat → Prop} (a : Option Addr) (n c : Nat) (ids : List Int) (w : World) (D0 : WRow .u8 32 S0 w a n ids) (hc : n ≤ c) (hn : n ≤ 60) (hr : S.Rising n ids) :
  Calls Tryz.prog 240 #[.slice a n c] w (Ret w fun v w' => ∃ a' n' c', v = .tuple #[.slice a' n' c', .int .i64 0] ∧ IOwn w.heap.size w' 5 .u8 a' n' c' (S.listS n ids)) := by
 replace D0 := D0.weaken (T := fun k => k < w.heap.size) (fun k hk _ => hk)
 have hE := Ext.refl w
 refine enterU 27 Tryz.func240 rfl rfl ?_
 refine sq fun _ J1 => ?_
 refine RS.asS rfl ?_
 refine RS.asI rfl ?_
 refine nl J1 ?_
 refine wx fun _ J2 => ?_
 refine sq fun _ J3 => ?_
 refine RS.mvS rfl ?_
 refine RS.ln V38 ?_
 refine RS.o (D.gt rfl rfl) ?_
 refine nl J3 ?_
 refine C.ifd rfl (fun c4 => ?_) (fun c4 => ?_)
 ·exact absurd c4 (by omega)
 refine wp_skip ?_
 refine J2 _ _ ?_
 refine wx fun _ J5 => ?_
 refine sq fun _ J6 => ?_
 refine RS.mvS rfl ?_
 refine RS.call E276 (risingW _ _ _ _ _ D0 hc (by omega)) rfl (fun v7 w7 x7 A7 => ?_)
 replace hE := Ext.tr hE x7
 replace D0 := D0.ext x7
 have zw7 := x7.size
 subst A7
 refine RS.nm ?_
 refine RS.o (D.not rfl) ?_
 refine nl J6 ?_
 refine C.ifnot rfl (fun c8 => ?_) (fun c8 => ?_)
 ·rw [decide_eq_true hr] at c8; cases c8
 refine wp_skip ?_
 refine J5 _ _ ?_
 refine sq fun _ J9 => ?_
 refine RS.mvS rfl ?_
 refine RS.ln V38 ?_
 refine RS.o (D.conv rfl V3 V22 (W.u64 (by omega))) ?_
 refine RS.call E207 (numW _ (by omega) _) rfl (fun v10 w10 x10 A10 => ?_)
 replace hE := Ext.tr hE x10
 replace D0 := D0.ext x10
 have zw10 := x10.size
 obtain ⟨a10, n10, c10, rfl, O1⟩ := A10
 replace O1 := O1.base (lo' := w.heap.size) (fun k hk => by have := O1.lo k hk; omega)
 have hnl := S.numS_len (n : Int)
 have hol0 := O1.len
 refine RS.nm ?_
 refine RS.asS rfl ?_
 refine nl J9 ?_
 refine wx fun _ J11 => ?_
 refine sq fun _ J12 => ?_
 refine RS.mvS rfl ?_
 refine RS.ln V38 ?_
 refine RS.mvI rfl ?_
 refine nl J12 ?_
 refine wp_block ?_
 refine C.loop (A := Int × Option Addr × Nat × Nat) (fun p => [(4, .slice p.2.1 p.2.2.1 p.2.2.2), (19, .int .i64 p.1)]) [6, 20, 21, 22, 23, 24, 25, 26] (fun p w' => Pr (fun k => w.heap.size ≤ k) w10 w' ∧ ((0 ≤ p.1 ∧ p.1 ≤ n) ∧ IOwn w.heap.size w' 5 .u8 p.2.1 p.2.2.1 p.2.2.2 (S.numS n ++ ids.take (32 * p.1.toNat)))) (fun p => (n - p.1.toNat)) (0, a10, n10, c10) (by kernel_rfl) ?_ ?_
 ·refine ⟨Pr.refl _ _, ⟨by dsimp only; omega, by dsimp only; omega⟩, ?_⟩
  dsimp only
  rw [show (0 : Int).toNat = 0 from rfl, Nat.mul_zero, List.take_zero, List.append_nil]
  exact O1
 rintro p j w13 ⟨x13, hI⟩
 replace hE := hE.trans (x13.belo)
 replace D0 := D0.pro x13
 have zw13 := x13.size
 obtain ⟨i, ao, no, co⟩ := p
 dsimp only at hI
 obtain ⟨h1, O1⟩ := hI
 have hol := O1.len
 rw [List.length_append, List.length_take, D0.len] at hol
 have hob := O1.lo
 refine C.nmU ?_
 refine sq fun _ J14 => ?_
 refine RS.o (D.lt rfl rfl) ?_
 refine nl J14 ?_
 refine wx fun _ J15 => ?_
 refine C.ifd rfl (fun c16 => ?_) (fun c16 => ?_)
 ·refine wp_skip ?_
  refine J15 _ _ ?_
  refine wx fun _ J17 => ?_
  refine wp_block ?_
  refine sq fun _ J18 => ?_
  refine RS.idxW D0 rfl rfl V38 C27 (by decide) (by omega) (fun b19 o19 h19 q19 r19 => ?_)
  refine RS.nm ?_
  have r1 := r19
  refine RS.o (D.loadW rfl V27 rfl C27 (by decide) r19 h19) ?_
  refine RS.alloc T27 (fun b20 w20 e20 s20 x20 B20 => ?_)
  refine RS.nm ?_
  replace hE := Ext.tr hE x20
  replace x13 := x13.ext x20
  replace D0 := D0.ext x20
  replace O1 := O1.ext x20
  have zw20 := x20.size
  have A20 : IArr .u8 w20 b20 32 (List.replicate 32 0) [] 27 := IArr.zero B20
  clear B20
  refine RS.storeArr A20 rfl rfl C27 (by decide) (by first | assumption | exact And.left (by assumption) | exact IArr.len (by assumption)) (by first | assumption | exact And.right (by assumption) | exact IArr.bd (by assumption)) (fun w21 y21 N21 => ?_)
  replace hE := hE.trans (y21.belo)
  replace x13 := x13.stno y21
  replace D0 := D0.sto y21
  replace O1 := O1.st y21 (by intros; try (first | (intro _ _) | (intro _) | skip); first | omega | (have hq := hob _ (by assumption); first | omega | (dsimp only at *; omega)))
  have zw21 := y21.size
  replace A20 := N21
  refine nl J18 ?_
  refine region ?_
  refine RS.mvS rfl ?_
  refine RS.o (D.sliceArr (kl := .i64) (kh := .i64) rfl V27 C5 rfl rfl (by omega)) ?_
  refine RS.appendI O1 (A20.row (S := fun k => k = b20) rfl) rfl rfl V51 T5 rfl (by omega) (by decide) (by omega) (fun a22 c22 w22 N22 x22 => ?_)
  refine RS.nm ?_
  replace hE := hE.trans (x22.belQ (fun _ h => (O1.lo _ h).1))
  replace x13 := x13.prnQ x22 (fun _ h => (O1.lo _ h).1)
  replace D0 := D0.prQ x22 (fun _ h => (O1.lo _ h).1)
  have zw22 := x22.size
  replace O1 := N22
  refine RS.asS rfl ?_
  refine nl J17 ?_
  refine region ?_
  refine RS.o (D.add rfl rfl (W.i64 (by omega))) ?_
  refine RS.mvI rfl ?_
  refine RS.nil ?_
  change Nx _ _ _ _ _ _ _ _
  refine C.next (i + 1, _, _, _) ⟨rfl, rfl, trivial⟩ (by kernel_rfl) ?_ ?_
  ·refine ⟨x13, ⟨by dsimp only; omega, by dsimp only; omega⟩, ?_⟩
   dsimp only
   rw [show (i + 1).toNat = i.toNat + 1 by omega, elt_cat, ← List.append_assoc]
   exact O1
  dsimp only; omega
 refine wp_exit ?_
 refine J11 _ _ ?_
 refine sq fun _ J23 => ?_
 refine RS.mvS rfl ?_
 refine RS.asS rfl ?_
 refine RS.asI rfl ?_
 refine nl J23 ?_
 refine wp_ret ?_
 refine retSI ?_
 have hdl := D0.len
 rw [show i.toNat = n by omega, List.take_of_length_le (by omega)] at O1
 exact ⟨_, rfl, hE, _, _, _, rfl, O1⟩
theorem listR {S0 : Nat → Prop} (a : Option Addr) (n c : Nat) (ids : List Int) (w : World) (D0 : WRow .u8 32 S0 w a n ids) (hc : n ≤ c) (hn : n ≤ 60) :
  Calls Tryz.prog 227 #[.slice a n c] w (Ret w fun v w' => ∃ a' n' c', v = .slice a' n' c' ∧ IOwn w.heap.size w' 5 .u8 a' n' c' (S.listS n ids)) := by
 replace D0 := D0.weaken (T := fun k => k < w.heap.size) (fun k hk _ => hk)
 have hE := Ext.refl w
 refine enterU 21 Tryz.func227 rfl rfl ?_
 refine sq fun _ J1 => ?_
 refine RS.asS rfl ?_
 refine nl J1 (sq fun _ J2 => ?_)
 refine RS.mvS rfl ?_
 refine RS.ln V38 ?_
 refine RS.o (D.conv rfl V3 V22 (W.u64 (by omega))) ?_
 refine RS.call E173 (numR _ (by omega) _) rfl (fun v3 w3 x3 A3 => ?_)
 replace hE := Ext.tr hE x3
 replace D0 := D0.ext x3
 have zw3 := x3.size
 obtain ⟨a3, n3, c3, rfl, O1⟩ := A3
 replace O1 := O1.base (lo' := w.heap.size) (fun k hk => by have := O1.lo k hk; omega)
 have hnl := S.numS_len (n : Int)
 have hol0 := O1.len
 refine RS.nm ?_
 refine RS.asS rfl ?_
 refine nl J2 ?_
 refine wx fun _ J4 => ?_
 refine sq fun _ J5 => ?_
 refine RS.asI rfl ?_
 refine nl J5 ?_
 refine wp_block ?_
 refine C.loop (A := Int × Option Addr × Nat × Nat) (fun p => [(3, .slice p.2.1 p.2.2.1 p.2.2.2), (4, .int .i64 p.1)]) [9, 10, 11, 12, 13, 14, 15, 16, 17, 18, 19, 20] (fun p w' => Pr (fun k => w.heap.size ≤ k) w3 w' ∧ ((0 ≤ p.1 ∧ p.1 ≤ n) ∧ IOwn w.heap.size w' 5 .u8 p.2.1 p.2.2.1 p.2.2.2 (S.numS n ++ ids.take (32 * p.1.toNat)))) (fun p => (n - p.1.toNat)) (0, a3, n3, c3) (by kernel_rfl) ?_ ?_
 ·refine ⟨Pr.refl _ _, ⟨by dsimp only; omega, by dsimp only; omega⟩, ?_⟩
  dsimp only
  rw [show (0 : Int).toNat = 0 from rfl, Nat.mul_zero, List.take_zero, List.append_nil]
  exact O1
 rintro p j w6 ⟨x6, hI⟩
 replace hE := hE.trans (x6.belo)
 replace D0 := D0.pro x6
 have zw6 := x6.size
 obtain ⟨i, ao, no, co⟩ := p
 dsimp only at hI
 obtain ⟨h1, O1⟩ := hI
 have hol := O1.len
 rw [List.length_append, List.length_take, D0.len] at hol
 have hob := O1.lo
 refine C.nmU ?_
 refine wx fun _ J7 => ?_
 refine sq fun _ J8 => ?_
 refine RS.mvI rfl ?_
 refine RS.mvS rfl ?_
 refine RS.ln V38 ?_
 refine RS.o (D.lt rfl rfl) ?_
 refine nl J8 ?_
 refine C.ifd rfl (fun c9 => ?_) (fun c9 => ?_)
 ·refine wp_skip ?_
  refine J7 _ _ ?_
  refine wx fun _ J10 => ?_
  refine wp_block ?_
  refine region ?_
  refine RS.mvS rfl ?_
  refine RS.mvS rfl ?_
  refine RS.mvI rfl ?_
  refine RS.idxW D0 rfl rfl V38 C27 (by decide) (by omega) (fun b11 o11 h11 q11 r11 => ?_)
  refine RS.nm ?_
  have QI := IRow.of_cells (S := fun k => k < w.heap.size) h11 q11 r11
  refine RS.o (D.sliceAt rfl V27 C5 (by decide)) ?_
  refine RS.appendI O1 QI rfl rfl V51 T5 rfl (by omega) (by decide) (by omega) (fun a12 c12 w12 N12 x12 => ?_)
  refine RS.nm ?_
  replace hE := hE.trans (x12.belQ (fun _ h => (O1.lo _ h).1))
  replace x6 := x6.prnQ x12 (fun _ h => (O1.lo _ h).1)
  replace D0 := D0.prQ x12 (fun _ h => (O1.lo _ h).1)
  have zw12 := x12.size
  replace O1 := N12
  refine RS.asS rfl ?_
  refine nl J10 ?_
  refine region ?_
  refine RS.mvI rfl ?_
  refine RS.o (D.add rfl rfl (W.i64 (by omega))) ?_
  refine RS.asI rfl ?_
  refine RS.nil ?_
  change Nx _ _ _ _ _ _ _ _
  refine C.next (i + 1, _, _, _) ⟨rfl, rfl, trivial⟩ (by kernel_rfl) ?_ ?_
  ·refine ⟨x6, ⟨by dsimp only; omega, by dsimp only; omega⟩, ?_⟩
   dsimp only
   rw [show (i + 1).toNat = i.toNat + 1 by omega, elt_cat, ← List.append_assoc]
   exact O1
  dsimp only; omega
 refine wp_exit ?_
 refine J4 _ _ ?_
 refine sq fun _ J13 => ?_
 refine RS.mvS rfl ?_
 refine RS.asS rfl ?_
 refine nl J13 ?_
 refine wp_ret ?_
 refine retS ?_
 have hdl := D0.len
 rw [show i.toNat = n by omega, List.take_of_length_le (by omega)] at O1
 exact ⟨_, rfl, hE, _, _, _, rfl, O1⟩
theorem risingR {S0 : Nat → Prop} (a : Option Addr) (n c : Nat) (ids : List Int) (w : World) (D0 : WRow .u8 32 S0 w a n ids) (hc : n ≤ c) (hn : n ≤ 1000) :
  Calls Tryz.prog 219 #[.slice a n c] w (Ret w fun v _ => v = .bool (decide (S.Rising n ids))) := by
 replace D0 := D0.weaken (T := fun k => k < w.heap.size) (fun k hk _ => hk)
 have hE := Ext.refl w
 refine enterU 20 Tryz.func219 rfl rfl ?_
 refine sq fun _ J1 => ?_
 refine RS.asB rfl ?_
 refine nl J1 ?_
 refine wx fun _ J2 => ?_
 refine sq fun _ J3 => ?_
 refine RS.asI rfl ?_
 refine nl J3 ?_
 refine wp_block ?_
 refine C.loop (A := Int) (fun p => [(3, .int .i64 p)]) [2, 4, 5, 6, 7, 8, 9, 10, 11, 12, 13, 14, 15, 16, 17, 18, 19, 20] (fun p w' => Ext w w' ∧ ((1 ≤ p ∧ p ≤ 2000) ∧ (∀ j, j < p.toNat - 1 → S.cmpS (S.idAt ids j) (S.idAt ids (j + 1)) < 0))) (fun p => (2000 - p.toNat)) 1 (by kernel_rfl) ?_ ?_
 ·exact ⟨Ext.refl _, ⟨by omega, by omega⟩, fun j hj => by omega⟩
 rintro p j w4 ⟨x4, hI⟩
 replace hE := Ext.tr hE x4
 replace D0 := D0.ext x4
 have zw4 := x4.size
 obtain ⟨h1, h2⟩ := hI
 refine C.nmU ?_
 refine wx fun _ J5 => ?_
 refine sq fun _ J6 => ?_
 refine RS.mvI rfl ?_
 refine RS.mvS rfl ?_
 refine RS.ln V38 ?_
 refine RS.o (D.lt rfl rfl) ?_
 refine nl J6 ?_
 refine C.ifd rfl (fun c7 => ?_) (fun c7 => ?_)
 ·refine wp_skip ?_
  refine J5 _ _ ?_
  refine wx fun _ J8 => ?_
  refine wp_block ?_
  refine wx fun _ J9 => ?_
  refine regionX Ext [(0, .q), (1, .q), (2, .q), (3, .q), (4, .q), (5, .q), (6, .q), (7, .q), (8, .q), (9, .e), (10, .q)] mixed Ext.refl (fun h k => h.tr k) (by kernel_rfl) (fun w10 x10 => ?_)
  replace hE := Ext.tr hE x10
  replace x4 := Ext.tr x4 x10
  replace D0 := D0.ext x10
  have zw10 := x10.size
  refine RX.mvS rfl ?_
  refine RX.mvI rfl ?_
  refine RX.o (fun w' hw => D.sub rfl rfl (W.i64 (by omega))) ?_
  refine RX.idxW (fun _ h => h) D0 rfl rfl V38 C27 (by decide) (by omega) (fun b11 o11 h11 q11 r11 => ?_)
  refine RX.nm ?_
  have r1 := r11
  refine RX.o (fun w' hw => D.loadW rfl V27 rfl C27 (by decide) r11 (h11 w' hw)) ?_
  refine RX.mvS rfl ?_
  refine RX.mvI rfl ?_
  refine RX.idxW (fun _ h => h) D0 rfl rfl V38 C27 (by decide) (by omega) (fun b12 o12 h12 q12 r12 => ?_)
  refine RX.nm ?_
  have r2 := r12
  refine RX.o (fun w' hw => D.loadW rfl V27 rfl C27 (by decide) r12 (h12 w' hw)) ?_
  refine RX.eff ?_
  refine RS.call E91 (rcmp _ _ r1 r2 _) rfl (fun v13 w13 x13 A13 => ?_)
  replace hE := Ext.tr hE x13
  replace x4 := Ext.tr x4 x13
  replace D0 := D0.ext x13
  have zw13 := x13.size
  subst A13
  refine RS.nm ?_
  refine RS.nil ⟨x13, ?_⟩
  refine RX.o (fun w' hw => D.ge rfl rfl) ?_
  refine RX.nil (J9 _ _ ?_)
  refine C.ifd rfl (fun c14 => ?_) (fun c14 => ?_)
  ·have hg := c14
   refine sq fun _ J15 => ?_
   refine RS.asB rfl ?_
   refine nl J15 ?_
   refine wp_ret ?_
   refine retB rfl rfl ?_
   refine ⟨_, rfl, hE, congrArg Value.bool (decide_eq_false ?_).symm⟩
   intro h
   have := h (p.toNat - 1) (by omega)
   rw [S.idAt_elt, S.idAt_elt, show p.toNat - 1 = (p - 1).toNat by omega, show (p - 1).toNat + 1 = p.toNat by omega] at this
   omega
  have hg := c14
  refine wp_skip ?_
  refine J8 _ _ ?_
  refine region ?_
  refine RS.mvI rfl ?_
  refine RS.o (D.add rfl rfl (W.i64 (by omega))) ?_
  refine RS.asI rfl ?_
  refine RS.nil ?_
  change Nx _ _ _ _ _ _ _ _
  refine C.next (p + 1) ⟨rfl, trivial⟩ (by kernel_rfl) ?_ ?_
  ·refine ⟨x4, ⟨by omega, by omega⟩, S.rising_step n ids p (by omega) h2 ?_⟩
   rw [S.idAt_elt, S.idAt_elt]
   omega
  omega
 have hl := c7
 refine wp_exit ?_
 refine J2 _ _ ?_
 refine sq fun _ J16 => ?_
 refine RS.asB rfl ?_
 refine nl J16 ?_
 refine wp_ret ?_
 refine retB rfl rfl ?_
 exact ⟨_, rfl, hE, congrArg Value.bool (decide_eq_true (fun j hj => h2 j (by omega))).symm⟩
theorem sameIDs {S0 S1 : Nat → Prop} (a : Option Addr) (n c : Nat) (xs : List Int) (a2 : Option Addr) (n2 c2 : Nat) (ys : List Int) (w : World) (D0 : WRow .u8 32 S0 w a n xs) (D1 : WRow .u8 32 S1 w a2 n2 ys) (hn : n ≤ 1000) (hn2 : n2 ≤ 1000) :
  Calls Tryz.prog 39 #[.slice a n c, .slice a2 n2 c2] w (Ret w fun v _ => v = .bool (decide (xs = ys))) := by
 have hl0 := D0.len
 have hl1 := D1.len
 have hE := Ext.refl w
 refine enterU 24 Tryz.func39 rfl rfl ?_
 refine sq fun _ J1 => ?_
 refine RS.asB rfl ?_
 refine nl J1 ?_
 refine wx fun _ J2 => ?_
 refine sq fun _ J3 => ?_
 refine RS.mvS rfl ?_
 refine RS.ln V38 ?_
 refine RS.mvS rfl ?_
 refine RS.ln V38 ?_
 refine RS.o (D.ne rfl rfl) ?_
 refine nl J3 ?_
 refine C.ifn rfl (fun c4 => ?_) (fun c4 => ?_)
 ·have hne := c4
  refine sq fun _ J5 => ?_
  refine RS.asB rfl ?_
  refine nl J5 ?_
  refine wp_ret ?_
  refine retB rfl rfl ?_
  refine ⟨_, rfl, hE, congrArg Value.bool (decide_eq_false ?_).symm⟩
  intro e
  rw [e] at hl0
  omega
 have hne := c4
 refine wp_skip ?_
 refine J2 _ _ ?_
 refine wx fun _ J6 => ?_
 refine sq fun _ J7 => ?_
 refine RS.asI rfl ?_
 refine nl J7 ?_
 refine wp_block ?_
 refine C.loop (A := Int) (fun p => [(5, .int .i64 p)]) [4, 11, 12, 13, 14, 15, 16, 17, 18, 19, 20, 21, 22, 23, 24, 25] (fun p w' => Ext w w' ∧ ((0 ≤ p ∧ p ≤ n) ∧ xs.take (32 * p.toNat) = ys.take (32 * p.toNat))) (fun p => (n - p.toNat)) 0 (by kernel_rfl) ?_ ?_
 ·exact ⟨Ext.refl _, ⟨by omega, by omega⟩, rfl⟩
 rintro p j w8 ⟨x8, hI⟩
 replace hE := Ext.tr hE x8
 replace D0 := D0.ext x8
 replace D1 := D1.ext x8
 have zw8 := x8.size
 obtain ⟨h1, h2⟩ := hI
 refine C.nmU ?_
 refine wx fun _ J9 => ?_
 refine sq fun _ J10 => ?_
 refine RS.mvI rfl ?_
 refine RS.mvS rfl ?_
 refine RS.ln V38 ?_
 refine RS.o (D.lt rfl rfl) ?_
 refine nl J10 ?_
 refine C.ifd rfl (fun c11 => ?_) (fun c11 => ?_)
 ·refine wp_skip ?_
  refine J9 _ _ ?_
  refine wx fun _ J12 => ?_
  refine wp_block ?_
  refine wx fun _ J13 => ?_
  refine regionX Ext [(0, .q), (1, .q), (2, .q), (3, .q), (4, .q), (5, .q), (6, .q), (7, .q), (8, .q)] mixed Ext.refl (fun h k => h.tr k) (by kernel_rfl) (fun w14 x14 => ?_)
  replace hE := Ext.tr hE x14
  replace x8 := Ext.tr x8 x14
  replace D0 := D0.ext x14
  replace D1 := D1.ext x14
  have zw14 := x14.size
  refine RX.mvS rfl ?_
  refine RX.mvI rfl ?_
  refine RX.idxW (fun _ h => h) D0 rfl rfl V38 C27 (by decide) (by omega) (fun b15 o15 h15 q15 r15 => ?_)
  refine RX.nm ?_
  have r1 := r15
  refine RX.o (fun w' hw => D.loadW rfl V27 rfl C27 (by decide) r15 (h15 w' hw)) ?_
  refine RX.mvS rfl ?_
  refine RX.mvI rfl ?_
  refine RX.idxW (fun _ h => h) D1 rfl rfl V38 C27 (by decide) (by omega) (fun b16 o16 h16 q16 r16 => ?_)
  refine RX.nm ?_
  have r2 := r16
  refine RX.o (fun w' hw => D.loadW rfl V27 rfl C27 (by decide) r16 (h16 w' hw)) ?_
  refine RX.o (fun w' hw => D.neI rfl rfl V27 V5 C5 (by kernel_rfl) r1.1 r2.1 (by decide)) ?_
  refine RX.nil (J13 _ _ ?_)
  refine C.ifb rfl (fun c17 => ?_) (fun c17 => ?_)
  ·have hd := c17
   refine sq fun _ J18 => ?_
   refine RS.asB rfl ?_
   refine nl J18 ?_
   refine wp_ret ?_
   refine retB rfl rfl ?_
   refine ⟨_, rfl, hE, congrArg Value.bool (decide_eq_false ?_).symm⟩
   intro e
   rw [e] at hd
   exact of_decide_eq_true hd rfl
  have hd := c17
  refine wp_skip ?_
  refine J12 _ _ ?_
  refine region ?_
  refine RS.mvI rfl ?_
  refine RS.o (D.add rfl rfl (W.i64 (by omega))) ?_
  refine RS.asI rfl ?_
  refine RS.nil ?_
  change Nx _ _ _ _ _ _ _ _
  refine C.next (p + 1) ⟨rfl, trivial⟩ (by kernel_rfl) ?_ ?_
  ·refine ⟨x8, ⟨by omega, by omega⟩, ?_⟩
   rw [show (p + 1).toNat = p.toNat + 1 by omega, elt_cat, elt_cat, h2]
   rw [Decidable.not_not.1 (of_decide_eq_false hd)]
  omega
 have hlt := c11
 refine wp_exit ?_
 refine J6 _ _ ?_
 refine sq fun _ J19 => ?_
 refine RS.asB rfl ?_
 refine nl J19 ?_
 refine wp_ret ?_
 refine retB rfl rfl ?_
 refine ⟨_, rfl, hE, congrArg Value.bool (decide_eq_true ?_).symm⟩
 rw [List.take_of_length_le (by omega), List.take_of_length_le (by omega)] at h2
 exact h2
theorem isSorted {S0 : Nat → Prop} (a : Option Addr) (n c : Nat) (ids : List Int) (w : World) (D0 : WRow .u8 32 S0 w a n ids) (hc : n ≤ c) (hn : n ≤ 1000) :
  Calls Tryz.prog 237 #[.slice a n c, .func (.func 126) #[] #[]] w (Ret w fun v _ => v = .bool (decide (S.Sorted n ids))) := by
 replace D0 := D0.weaken (T := fun k => k < w.heap.size) (fun k hk _ => hk)
 have hE := Ext.refl w
 refine enterU 23 Tryz.func237 rfl rfl ?_
 refine sq fun _ J1 => ?_
 refine RS.asB rfl ?_
 refine nl J1 ?_
 refine wx fun _ J2 => ?_
 refine sq fun _ J3 => ?_
 refine RS.mvS rfl ?_
 refine RS.ln V38 ?_
 refine RS.o (D.sub rfl rfl (W.i64 (by omega))) ?_
 refine RS.asI rfl ?_
 refine nl J3 ?_
 refine wp_block ?_
 refine C.loop (A := Int) (fun p => [(5, .int .i64 p)]) [4, 9, 10, 11, 12, 13, 14, 15, 16, 17, 18, 19, 20, 21, 22, 23, 24] (fun p w' => Ext w w' ∧ ((-1 ≤ p ∧ p < n) ∧ (∀ j, p.toNat ≤ j → j < n - 1 → ¬ S.cmpS (S.idAt ids (j + 1)) (S.idAt ids j) < 0))) (fun p => (p + 1).toNat) ((n : Int) - 1) (by kernel_rfl) ?_ ?_
 ·exact ⟨Ext.refl _, ⟨by omega, by omega⟩, fun j hj hj2 => by omega⟩
 rintro p j w4 ⟨x4, hI⟩
 replace hE := Ext.tr hE x4
 replace D0 := D0.ext x4
 have zw4 := x4.size
 obtain ⟨h1, h2⟩ := hI
 refine C.nmU ?_
 refine wx fun _ J5 => ?_
 refine sq fun _ J6 => ?_
 refine RS.mvI rfl ?_
 refine RS.o (D.gt rfl rfl) ?_
 refine nl J6 ?_
 refine C.ifd rfl (fun c7 => ?_) (fun c7 => ?_)
 ·refine wp_skip ?_
  refine J5 _ _ ?_
  refine wx fun _ J8 => ?_
  refine wp_block ?_
  refine wx fun _ J9 => ?_
  refine regionX Ext [(0, .q), (1, .q), (2, .q), (3, .q), (4, .q), (5, .q), (6, .q), (7, .q), (8, .q), (9, .q), (10, .e), (11, .q)] mixed Ext.refl (fun h k => h.tr k) (by kernel_rfl) (fun w10 x10 => ?_)
  replace hE := Ext.tr hE x10
  replace x4 := Ext.tr x4 x10
  replace D0 := D0.ext x10
  have zw10 := x10.size
  refine RX.move (v := .func _ _ _) rfl ?_
  refine RX.mvS rfl ?_
  refine RX.mvI rfl ?_
  refine RX.idxW (fun _ h => h) D0 rfl rfl V38 C27 (by decide) (by omega) (fun b11 o11 h11 q11 r11 => ?_)
  refine RX.nm ?_
  have r1 := r11
  refine RX.o (fun w' hw => D.loadW rfl V27 rfl C27 (by decide) r11 (h11 w' hw)) ?_
  refine RX.mvS rfl ?_
  refine RX.mvI rfl ?_
  refine RX.o (fun w' hw => D.sub rfl rfl (W.i64 (by omega))) ?_
  refine RX.idxW (fun _ h => h) D0 rfl rfl V38 C27 (by decide) (by omega) (fun b12 o12 h12 q12 r12 => ?_)
  refine RX.nm ?_
  have r2 := r12
  refine RX.o (fun w' hw => D.loadW rfl V27 rfl C27 (by decide) r12 (h12 w' hw)) ?_
  refine RX.eff ?_
  refine RS.callv E126 (dcmp _ _ r1 r2 _) rfl rfl (fun e13 w13 A13 => ?_)
  obtain ⟨v13, rfl, x13, A13⟩ := A13
  refine ⟨_, rfl, ?_⟩
  replace hE := Ext.tr hE x13
  replace x4 := Ext.tr x4 x13
  replace D0 := D0.ext x13
  have zw13 := x13.size
  subst A13
  refine RS.nm ?_
  refine RS.nil ⟨x13, ?_⟩
  refine RX.o (fun w' hw => D.lt rfl rfl) ?_
  refine RX.nil (J9 _ _ ?_)
  refine C.ifd rfl (fun c14 => ?_) (fun c14 => ?_)
  ·have hg := c14
   refine sq fun _ J15 => ?_
   refine RS.asB rfl ?_
   refine nl J15 ?_
   refine wp_ret ?_
   refine retB rfl rfl ?_
   refine ⟨_, rfl, hE, congrArg Value.bool (decide_eq_false ?_).symm⟩
   intro h
   have := h (p - 1).toNat (by omega)
   rw [S.idAt_elt, S.idAt_elt, show (p - 1).toNat + 1 = p.toNat by omega] at this
   exact this hg
  have hg := c14
  refine wp_skip ?_
  refine J8 _ _ ?_
  refine region ?_
  refine RS.mvI rfl ?_
  refine RS.o (D.sub rfl rfl (W.i64 (by omega))) ?_
  refine RS.asI rfl ?_
  refine RS.nil ?_
  change Nx _ _ _ _ _ _ _ _
  refine C.next (p - 1) ⟨rfl, trivial⟩ (by kernel_rfl) ?_ ?_
  ·refine ⟨x4, ⟨by omega, by omega⟩, fun j hj hj2 => ?_⟩
   by_cases hjp : p.toNat ≤ j
   ·exact h2 j hjp hj2
   rw [S.idAt_elt, S.idAt_elt, show j + 1 = p.toNat by omega, show j = (p - 1).toNat by omega]
   exact hg
  omega
 have hl := c7
 refine wp_exit ?_
 refine J2 _ _ ?_
 refine sq fun _ J16 => ?_
 refine RS.asB rfl ?_
 refine nl J16 ?_
 refine wp_ret ?_
 refine retB rfl rfl ?_
 exact ⟨_, rfl, hE, congrArg Value.bool (decide_eq_true (fun j hj => h2 j (by omega) hj)).symm⟩
theorem cloneID {S0 : Nat → Prop} (a : Option Addr) (n c : Nat) (ids : List Int) (w : World) (D0 : WRow .u8 32 S0 w a n ids) (hc : n ≤ c) (hn : n ≤ 1000) :
  Calls Tryz.prog 101 #[.slice a n c] w (Ret w fun v w' => ∃ a' n' c', v = .slice a' n' c' ∧ n' = n ∧ WOwn w.heap.size w' 27 .u8 32 a' n' c' ids) := by
 replace D0 := D0.weaken (T := fun k => k < w.heap.size) (fun k hk _ => hk)
 have hE := Ext.refl w
 refine enterU 7 Tryz.func101 rfl rfl ?_
 refine sq fun _ J1 => ?_
 refine RS.asS rfl ?_
 refine nl J1 ?_
 refine wx fun _ J2 => ?_
 refine sq fun _ J3 => ?_
 refine RS.mvS rfl ?_
 refine RS.o (D.nilS rfl rfl V38) ?_
 refine nl J3 ?_
 refine C.ifb rfl (fun c4 => ?_) (fun c4 => ?_)
 ·have hc0 := c4
  refine sq fun _ J5 => ?_
  refine RS.asS rfl ?_
  refine nl J5 ?_
  refine wp_ret ?_
  refine retS ?_
  obtain ⟨rfl, rfl⟩ := D0.none (by decide) hc0
  exact ⟨_, rfl, hE, _, _, _, rfl, rfl, WOwn.nil _ _ _ _ _⟩
 refine wp_skip ?_
 refine J2 _ _ ?_
 refine sq fun _ J6 => ?_
 refine RS.buildNone V38 T27 (fun b7 w7 e7 s7 x7 B7 => ?_)
 refine RS.nm ?_
 replace hE := Ext.tr hE x7
 replace D0 := D0.ext x7
 have zw7 := x7.size
 have O1 : WOwn w.heap.size w7 27 .u8 32 (some ⟨b7, 0, none⟩) 0 0 [] := WOwn.of_blk B7 rfl rfl (by omega) (Bd.nil _) (by decide)
 refine RS.mvS rfl ?_
 refine RS.appendW O1 D0 rfl rfl V38 T27 (by simp [ints]) (by decide) (by omega) (by decide) (by omega) (fun a8 c8 w8 N8 x8 => ?_)
 refine RS.nm ?_
 replace hE := hE.trans (x8.belQ (fun _ h => (O1.los _ h).1))
 replace D0 := D0.prQ x8 (fun _ h => (O1.los _ h).1)
 have zw8 := x8.size
 replace O1 := N8
 refine RS.asS rfl ?_
 refine nl J6 ?_
 refine wp_ret ?_
 refine retS ?_
 exact ⟨_, rfl, hE, _, _, _, rfl, Nat.zero_add _, O1⟩
theorem compact (lo : Nat) (a : Option Addr) (n c : Nat) (ids : List Int) (g0 : Nat) (w : World) (O1 : WOwn lo w 27 .u8 32 a n c ids) (hg : n < 2 ∨ a = some ⟨g0, 0, none⟩) (hn : n ≤ 1000) :
  Calls Tryz.prog 238 #[.slice a n c] w (fun e w' => ∃ a' n' c', e = .returned (.slice a' n' c') ∧ Pr (fun k => k = g0) w w' ∧ (n' = n ↔ S.Apart n ids)) := by
 have D0 := O1.row
 have hcap := O1.own.pre
 have hdl := D0.len
 have hE := Pr.refl (fun k => k = g0) w
 refine enterU 60 Tryz.func238 rfl rfl ?_
 refine sq fun _ J1 => ?_
 refine RS.asS rfl ?_
 refine nl J1 ?_
 refine wx fun _ J2 => ?_
 refine sq fun _ J3 => ?_
 refine RS.mvS rfl ?_
 refine RS.ln V38 ?_
 refine RS.o (D.lt rfl rfl) ?_
 refine nl J3 ?_
 refine C.ifd rfl (fun c4 => ?_) (fun c4 => ?_)
 ·have h8 := c4
  refine sq fun _ J5 => ?_
  refine RS.mvS rfl ?_
  refine RS.asS rfl ?_
  refine nl J5 ?_
  refine wp_ret ?_
  change bodyPost Tryz.prog Tryz.f238 (fun e w' => ∃ a' n' c', e = .returned (.slice a' n' c') ∧ Pr (fun k => k = g0) w w' ∧ (n' = n ↔ S.Apart n ids)) .ret _ _
  refine retS ?_
  exact ⟨_, _, _, rfl, hE, ⟨fun _ i hi => by omega, fun _ => rfl⟩⟩
 have h8 := c4
 refine wp_skip ?_
 refine J2 _ _ ?_
 refine wx fun _ J6 => ?_
 refine wx fun _ J7 => ?_
 obtain rfl : a = some ⟨g0, 0, none⟩ := by rcases hg with h | h; omega; exact h
 refine region ?_
 refine RS.asI rfl ?_
 refine nl J7 ?_
 refine wp_block ?_
 refine C.loop (A := Int) (fun p => [(3, .int .i64 p)]) [2, 4, 5, 10, 11, 12, 13, 14, 15, 16, 17, 18, 19, 20, 21, 22, 23, 24, 25, 26, 27, 28, 29, 30, 31, 32, 33, 34, 35, 36, 37, 38, 39, 40, 41, 42, 43, 44, 45, 46, 47, 48, 49, 50, 51, 52, 53, 54, 55, 56, 57, 58, 59] (fun p w' => Ext w w' ∧ ((1 ≤ p ∧ p ≤ n) ∧ (∀ j, j < p.toNat - 1 → S.idAt ids (j + 1) ≠ S.idAt ids j))) (fun p => (n - p.toNat)) 1 (by kernel_rfl) ?_ ?_
 ·exact ⟨Ext.refl _, ⟨by omega, by omega⟩, fun j hj => by omega⟩
 rintro p j w8 ⟨x8, hI⟩
 replace hE := hE.ext x8
 replace O1 := O1.ext x8
 replace D0 := D0.ext x8
 have zw8 := x8.size
 obtain ⟨h1, h2⟩ := hI
 obtain ⟨k, hk⟩ : ∃ k, k = p := ⟨p, rfl⟩
 subst hk
 refine C.nmU ?_
 refine wx fun _ J9 => ?_
 refine sq fun _ J10 => ?_
 refine RS.mvI rfl ?_
 refine RS.mvS rfl ?_
 refine RS.ln V38 ?_
 refine RS.o (D.lt rfl rfl) ?_
 refine nl J10 ?_
 refine C.ifd rfl (fun c11 => ?_) (fun c11 => ?_)
 ·refine wp_skip ?_
  refine J9 _ _ ?_
  refine wx fun _ J12 => ?_
  refine wp_block ?_
  refine wx fun _ J13 => ?_
  refine regionX Ext [(0, .q), (1, .q), (2, .q), (3, .q), (4, .q), (5, .q), (6, .q), (7, .q), (8, .q), (9, .q)] mixed Ext.refl (fun h k => h.tr k) (by kernel_rfl) (fun w14 x14 => ?_)
  replace hE := hE.ext x14
  replace x8 := Ext.tr x8 x14
  replace O1 := O1.ext x14
  replace D0 := D0.ext x14
  have zw14 := x14.size
  refine RX.mvS rfl ?_
  refine RX.mvI rfl ?_
  refine RX.idxW (fun _ h => h) D0 rfl rfl V38 C27 (by decide) (by omega) (fun b15 o15 h15 q15 r15 => ?_)
  refine RX.nm ?_
  have r1 := r15
  refine RX.o (fun w' hw => D.loadW rfl V27 rfl C27 (by decide) r15 (h15 w' hw)) ?_
  refine RX.mvS rfl ?_
  refine RX.mvI rfl ?_
  refine RX.o (fun w' hw => D.sub rfl rfl (W.i64 (by omega))) ?_
  refine RX.idxW (fun _ h => h) D0 rfl rfl V38 C27 (by decide) (by omega) (fun b16 o16 h16 q16 r16 => ?_)
  refine RX.nm ?_
  have r2 := r16
  refine RX.o (fun w' hw => D.loadW rfl V27 rfl C27 (by decide) r16 (h16 w' hw)) ?_
  refine RX.o (fun w' hw => D.eqI rfl rfl V27 V5 C5 (by kernel_rfl) r1.1 r2.1 (by decide)) ?_
  refine RX.nil (J13 _ _ ?_)
  refine C.ifb rfl (fun c17 => ?_) (fun c17 => ?_)
  ·have heq := of_decide_eq_true c17
   refine sq fun _ J18 => ?_
   refine RS.mvS rfl ?_
   refine RS.mvI rfl ?_
   refine RS.o (D.slice (kl := .i64) (kh := .i64) rfl V38 C27 (by decide) rfl rfl (by omega) (by omega)) ?_
   refine RS.asS rfl ?_
   refine nl J18 ?_
   refine wx fun _ J19 => ?_
   refine wx fun _ J20 => ?_
   have hA2 : subA (some ⟨g0, 0, none⟩) k.toNat 32 c = some ⟨g0, k.toNat * 32, none⟩ := by unfold subA; rw [if_neg (by omega)]; simp [add_mk]
   have U1 := O1.ub
   refine region ?_
   refine RS.asI rfl ?_
   refine nl J20 ?_
   refine wp_block ?_
   refine C.loop (A := Int × Int) (fun p => [(3, .int .i64 p.1), (5, .int .i64 p.2)]) [29, 30, 31, 32, 33, 34, 35, 36, 37, 38, 39, 40, 41, 42, 43, 44, 45, 46, 47, 48, 49, 50, 51, 52, 53] (fun p w' => Pr (fun k => k = g0) w14 w' ∧ (UB w' g0 (32 * n) 27 ∧ (k ≤ p.1 ∧ 1 ≤ p.2 ∧ p.1 + 1 ≤ k + p.2 ∧ p.2 ≤ n - k))) (fun p => (n - p.2.toNat)) (k, 1) (by kernel_rfl) ?_ ?_
   ·exact ⟨Pr.refl _ _, U1, by dsimp only; omega⟩
   rintro p j w21 ⟨x21, hI⟩
   replace hE := hE.prno x21
   have zw21 := x21.size
   obtain ⟨k1, k2⟩ := p
   dsimp only at hI
   obtain ⟨U1, g1⟩ := hI
   refine C.nmU ?_
   refine wx fun _ J22 => ?_
   refine sq fun _ J23 => ?_
   refine RS.mvI rfl ?_
   refine RS.mvS rfl ?_
   refine RS.ln V38 ?_
   refine RS.o (D.lt rfl rfl) ?_
   refine nl J23 ?_
   refine C.ifd rfl (fun c24 => ?_) (fun c24 => ?_)
   ·refine wp_skip ?_
    refine J22 _ _ ?_
    refine wx fun _ J25 => ?_
    refine wp_block ?_
    refine wx fun _ J26 => ?_
    refine regionX Ext [(0, .q), (1, .q), (2, .q), (3, .q), (4, .q), (5, .q), (6, .q), (7, .q), (8, .q), (9, .q)] mixed Ext.refl (fun h k => h.tr k) (by kernel_rfl) (fun w27 x27 => ?_)
    replace hE := hE.ext x27
    replace x21 := x21.ext x27
    replace U1 := U1.ext x27
    have zw27 := x27.size
    refine RX.mvS rfl ?_
    refine RX.mvI rfl ?_
    refine RX.idxU (fun _ h => h) U1 hA2 rfl rfl V38 C27 (by decide) (by omega) (by omega) (fun u28 o28 g28 h28 r28 => ?_)
    refine RX.nm ?_
    have r3 := r28
    refine RX.o (fun w' hw => D.loadW rfl V27 rfl C27 (by decide) r28 (h28 w' hw)) ?_
    refine RX.mvS rfl ?_
    refine RX.mvI rfl ?_
    refine RX.o (fun w' hw => D.sub rfl rfl (W.i64 (by omega))) ?_
    refine RX.idxU (fun _ h => h) U1 hA2 rfl rfl V38 C27 (by decide) (by omega) (by omega) (fun u29 o29 g29 h29 r29 => ?_)
    refine RX.nm ?_
    have r4 := r29
    refine RX.o (fun w' hw => D.loadW rfl V27 rfl C27 (by decide) r29 (h29 w' hw)) ?_
    refine RX.o (fun w' hw => D.neI rfl rfl V27 V5 C5 (by kernel_rfl) r3.1 r4.1 (by decide)) ?_
    refine RX.nil (J26 _ _ ?_)
    refine C.ifb rfl (fun c30 => ?_) (fun c30 => ?_)
    ·refine wx fun _ J31 => ?_
     refine region ?_
     refine RS.mvS rfl ?_
     refine RS.mvI rfl ?_
     refine RS.mvS rfl ?_
     refine RS.mvI rfl ?_
     refine RS.idxU U1 hA2 rfl rfl V38 C27 (by decide) (by omega) (by omega) (fun u32 o32 g32 h32 r32 => ?_)
     refine RS.nm ?_
     have r5 := r32
     refine RS.o (D.loadW rfl V27 rfl C27 (by decide) r32 h32) ?_
     refine RS.idxU U1 rfl rfl rfl V38 C27 (by decide) (by omega) (by omega) (fun u33 o33 g33 h33 r33 => ?_)
     refine RS.nm ?_
     refine RS.storeU U1 rfl rfl C27 (by decide) (by assumption) (by omega) (fun w34 y34 N34 => ?_)
     replace hE := hE.stno y34
     replace x21 := x21.stno y34
     have zw34 := y34.size
     replace U1 := N34
     refine nl J31 ?_
     refine region ?_
     refine RS.mvI rfl ?_
     refine RS.o (D.add rfl rfl (W.i64 (by omega))) ?_
     refine RS.asI rfl ?_
     refine nl J25 ?_
     refine region ?_
     refine RS.mvI rfl ?_
     refine RS.o (D.add rfl rfl (W.i64 (by omega))) ?_
     refine RS.asI rfl ?_
     refine RS.nil ?_
     change Nx _ _ _ _ _ _ _ _
     refine C.next (k1 + 1, k2 + 1) ⟨rfl, rfl, trivial⟩ (by kernel_rfl) ?_ ?_
     ·exact ⟨x21, U1, by dsimp only; omega⟩
     dsimp only; omega
    refine wp_skip ?_
    refine J25 _ _ ?_
    refine region ?_
    refine RS.mvI rfl ?_
    refine RS.o (D.add rfl rfl (W.i64 (by omega))) ?_
    refine RS.asI rfl ?_
    refine RS.nil ?_
    change Nx _ _ _ _ _ _ _ _
    refine C.next (k1, k2 + 1) ⟨rfl, rfl, trivial⟩ (by kernel_rfl) ?_ ?_
    ·exact ⟨x21, U1, by dsimp only; omega⟩
    dsimp only; omega
   refine wp_exit ?_
   refine J19 _ _ ?_
   refine wx fun _ J35 => ?_
   have hA3 : subA (some ⟨g0, 0, none⟩) k1.toNat 32 c = some ⟨g0, k1.toNat * 32, none⟩ := by unfold subA; rw [if_neg (by omega)]; simp [add_mk]
   refine region ?_
   refine RS.mvS rfl ?_
   refine RS.mvI rfl ?_
   refine RS.o (D.slice (kl := .i64) (kh := .i64) rfl V38 C27 (by decide) rfl rfl (by omega) (by omega)) ?_
   refine RS.clearU U1 hA3 rfl V38 T27 (by intro v hv; obtain ⟨x, hx, rfl⟩ := List.mem_map.1 hv; rw [(List.mem_replicate.1 hx).2]) (by simp [ints]) (by decide) (by omega) (fun w36 y36 N36 => ?_)
   replace hE := hE.stno y36
   have zw36 := y36.size
   replace U1 := N36
   refine nl J35 (sq fun _ J37 => ?_)
   refine RS.mvS rfl ?_
   refine RS.mvI rfl ?_
   refine RS.o (D.slice (kl := .i64) (kh := .i64) rfl V38 C27 (by decide) rfl rfl (by omega) (by omega)) ?_
   refine RS.asS rfl ?_
   refine nl J37 ?_
   refine wp_ret ?_
   change bodyPost Tryz.prog Tryz.f238 (fun e w' => ∃ a' n' c', e = .returned (.slice a' n' c') ∧ Pr (fun k => k = g0) w w' ∧ (n' = n ↔ S.Apart n ids)) .ret _ _
   refine retS ?_
   refine ⟨_, _, _, rfl, hE, ⟨fun h => ?_, fun h => ?_⟩⟩
   ·omega
   have := h (k.toNat - 1) (by omega)
   rw [S.idAt_elt, S.idAt_elt, show k.toNat - 1 + 1 = k.toNat by omega, show k.toNat - 1 = (k - 1).toNat by omega] at this
   exact (this heq).elim
  have hne := of_decide_eq_false c17
  refine wp_skip ?_
  refine J12 _ _ ?_
  refine region ?_
  refine RS.mvI rfl ?_
  refine RS.o (D.add rfl rfl (W.i64 (by omega))) ?_
  refine RS.asI rfl ?_
  refine RS.nil ?_
  change Nx _ _ _ _ _ _ _ _
  refine C.next (k + 1) ⟨rfl, trivial⟩ (by kernel_rfl) ?_ ?_
  ·refine ⟨x8, ⟨by omega, by omega⟩, fun j hj => ?_⟩
   by_cases hjp : j < k.toNat - 1
   ·exact h2 j hjp
   rw [S.idAt_elt, S.idAt_elt, show j + 1 = k.toNat by omega, show j = (k - 1).toNat by omega]
   exact hne
  omega
 have hlast := c11
 refine wp_exit ?_
 refine J6 _ _ ?_
 refine sq fun _ J38 => ?_
 refine RS.mvS rfl ?_
 refine RS.asS rfl ?_
 refine nl J38 ?_
 refine wp_ret ?_
 change bodyPost Tryz.prog Tryz.f238 (fun e w' => ∃ a' n' c', e = .returned (.slice a' n' c') ∧ Pr (fun k => k = g0) w w' ∧ (n' = n ↔ S.Apart n ids)) .ret _ _
 refine retS ?_
 exact ⟨_, _, _, rfl, hE, ⟨fun _ i hi => h2 i (by omega), fun _ => rfl⟩⟩
theorem C24 : Tryz.prog.cellsOf 24 = 4 := by kernel_rfl
theorem T24 : TI Tryz.prog 24 4 40 [.int .u8 0, .int .i64 0, .int .u64 0, .string .empty] := by
 have h : (Tryz.prog.info? 24).map (fun i => (i.size, i.bytes, i.zero)) = some (4, 40, some (.agg #[.int .u8 0, .int .i64 0, .int .u64 0, .string .empty])) := by kernel_rfl
 exact TI.of h rfl
theorem F24 : SI Tryz.prog 24 [(0, 1), (1, 1), (2, 1), (3, 1)] := ⟨_, V24, by kernel_rfl, by kernel_rfl⟩
theorem E214 : Enters Tryz.prog 214 := .mk Tryz.func214 (by kernel_rfl) rfl
theorem E215 : Enters Tryz.prog 215 := .mk Tryz.func215 (by kernel_rfl) rfl
theorem E216 : Enters Tryz.prog 216 := .mk Tryz.func216 (by kernel_rfl) rfl
theorem E217 : Enters Tryz.prog 217 := .mk Tryz.func217 (by kernel_rfl) rfl
theorem E260 : Enters Tryz.prog 260 := .mk Tryz.func260 (by kernel_rfl) rfl
theorem E261 : Enters Tryz.prog 261 := .mk Tryz.func261 (by kernel_rfl) rfl
theorem E288 : Enters Tryz.prog 288 := .mk Tryz.func288 (by kernel_rfl) rfl
theorem E295 : Enters Tryz.prog 295 := .mk Tryz.func295 (by kernel_rfl) rfl
theorem E297 : Enters Tryz.prog 297 := .mk Tryz.func297 (by kernel_rfl) rfl
theorem E298 : Enters Tryz.prog 298 := .mk Tryz.func298 (by kernel_rfl) rfl
theorem rune33 (r : Int) (w : World) :
  Calls Tryz.prog 215 #[.int .i32 r] w (Ret w fun v _ => v = .bool (decide (r < 33 ∨ 126 < r))) := by
 have hE := Ext.refl w
 refine enterU 8 Tryz.func215 rfl rfl ?_
 refine sq fun _ J1 => ?_
 refine RS.asB rfl ?_
 refine nl J1 (sq fun _ J2 => ?_)
 refine RS.mvI rfl ?_
 refine RS.o (D.lt rfl rfl) ?_
 refine RS.mvB rfl ?_
 refine RS.splitd 5 rfl rfl (fun c3 => ?_) (fun c3 => ?_)
 ·refine RS.nm ?_
  refine RS.skT 5 ?_
  refine RS.skT 5 ?_
  refine RS.pkt ?_
  refine RS.asB rfl ?_
  refine nl J2 ?_
  refine wp_ret ?_
  refine retB rfl rfl ?_
  refine ⟨_, rfl, hE, congrArg Value.bool (decide_eq_true ?_).symm⟩
  omega
 refine RS.nm ?_
 refine RS.wt 5 ?_
 refine RS.mvI rfl ?_
 refine RS.wt 5 ?_
 refine RS.o (D.gt rfl rfl) ?_
 refine RS.pk ?_
 refine RS.asB rfl ?_
 refine nl J2 ?_
 refine wp_ret ?_
 refine retB rfl rfl ?_
 refine ⟨_, rfl, hE, congrArg Value.bool (decide_eq_decide.2 ?_)⟩
 omega
theorem index33 (s : ByteArray) (w : World) :
  Calls Tryz.prog 260 #[.string s, .func (.func 215) #[] #[], .bool true] w (Ret w fun v _ => ∃ j, v = .int .i64 j ∧ (j < 0 ↔ S.Asc 33 s)) := by
 have hE := Ext.refl w
 refine enterU 18 Tryz.func260 rfl rfl ?_
 refine sq fun _ J1 => ?_
 refine RS.asI rfl ?_
 refine nl J1 ?_
 refine wx fun _ J2 => ?_
 refine sq fun _ J3 => ?_
 refine RS.move (v := .string _) rfl ?_
 refine RS.range rfl V9 (fun b4 w4 e4 s4 x4 I4 => ?_)
 refine RS.nm ?_
 replace hE := Ext.tr hE x4
 have zw4 := x4.size
 refine nl J3 ?_
 refine wp_block ?_
 refine C.loop (A := Int) (fun p => []) [6, 7, 8, 11, 12, 13, 14, 15, 16, 17, 18, 19, 20] (fun p w' => Pr (fun k => k = b4) w4 w' ∧ ((0 ≤ p ∧ p ≤ s.size) ∧ It w' b4 s p.toNat ∧ (∀ j, j < p.toNat → 33 ≤ (bys s).getD j 0 ∧ (bys s).getD j 0 ≤ 126))) (fun p => (s.size - p.toNat)) 0 (by kernel_rfl) ?_ ?_
 ·exact ⟨Pr.refl _ _, ⟨by omega, by omega⟩, I4, fun j hj => by omega⟩
 rintro p j w5 ⟨x5, hI⟩
 replace hE := hE.trans (x5.belo)
 have zw5 := x5.size
 obtain ⟨h1, I4, h2⟩ := hI
 have hdc := S.dec_case s p.toNat
 refine C.nmU ?_
 refine sq fun _ J6 => ?_
 refine RS.next I4 rfl (fun c7 w7 y7 N7 => ?_) (fun c7 => ?_)
 ·refine RS.nm ?_
  replace hE := hE.trans (y7.belo)
  replace x5 := x5.stno y7
  have zw7 := y7.size
  replace I4 := N7
  have hp := c7
  refine RS.extract (v := .bool true) rfl rfl ?_
  refine nl J6 ?_
  refine wx fun _ J8 => ?_
  refine C.ift rfl ?_
  refine wp_skip ?_
  refine J8 _ _ ?_
  refine wp_block ?_
  refine sq fun _ J9 => ?_
  refine RS.exI ?_
  refine RS.exI ?_
  refine RS.asI rfl ?_
  refine RS.asI rfl ?_
  refine nl J9 (sq fun _ J10 => ?_)
  refine RS.move (v := .func _ _ _) rfl ?_
  refine RS.mvI rfl ?_
  refine RS.callv E215 (rune33 _ _) rfl rfl (fun e11 w11 A11 => ?_)
  obtain ⟨v11, rfl, x11, A11⟩ := A11
  refine ⟨_, rfl, ?_⟩
  replace hE := Ext.tr hE x11
  replace x5 := x5.ext x11
  replace I4 := I4.ext x11
  have zw11 := x11.size
  subst A11
  refine RS.nm ?_
  refine RS.mvB rfl ?_
  refine RS.o (D.eqB rfl rfl V4) ?_
  refine nl J10 ?_
  refine C.ifb rfl (fun c12 => ?_) (fun c12 => ?_)
  ·have hf := c12
   refine sq fun _ J13 => ?_
   refine RS.mvI rfl ?_
   refine RS.asI rfl ?_
   refine nl J13 ?_
   refine wp_ret ?_
   refine retI rfl rfl ?_
   have hd := hdc hp
   rw [beq_true] at hf
   have hf2 := of_decide_eq_true hf
   refine ⟨_, rfl, hE, _, rfl, ⟨fun h => by omega, fun h => ?_⟩⟩
   have := h p.toNat hp
   omega
  have hf := c12
  refine wp_skip ?_
  change Nx _ _ _ _ _ _ _ _
  refine C.next (p + 1) trivial (by kernel_rfl) ?_ ?_
  ·have hd := hdc hp
   rw [beq_true] at hf
   have hf2 := of_decide_eq_false hf
   have hw : (Utf8.decode s p.toNat).2 = 1 := by omega
   rw [hw] at I4
   refine ⟨x5, ⟨by omega, by omega⟩, ?_, fun j hj => ?_⟩
   ·rw [show (p + 1).toNat = p.toNat + 1 by omega]; exact I4
   by_cases hjp : j < p.toNat
   ·exact h2 j hjp
   obtain rfl : j = p.toNat := by omega
   omega
  omega
 refine RS.nm ?_
 have hp := c7
 refine RS.extract (v := .bool false) rfl rfl ?_
 refine nl J6 ?_
 refine wx fun _ J14 => ?_
 refine C.iff rfl ?_
 refine wp_exit ?_
 refine J2 _ _ ?_
 refine sq fun _ J15 => ?_
 refine RS.asI rfl ?_
 refine nl J15 ?_
 refine wp_ret ?_
 refine retI rfl rfl ?_
 refine ⟨_, rfl, hE, _, rfl, ⟨fun _ j hj => h2 j (by omega), fun _ => by decide⟩⟩
theorem Index33 (s : ByteArray) (w : World) :
  Calls Tryz.prog 214 #[.string s, .func (.func 215) #[] #[]] w (Ret w fun v _ => ∃ j, v = .int .i64 j ∧ (j < 0 ↔ S.Asc 33 s)) := by
 have hE := Ext.refl w
 refine enterU 6 Tryz.func214 rfl rfl ?_
 refine sq fun _ J1 => ?_
 refine RS.asI rfl ?_
 refine nl J1 (sq fun _ J2 => ?_)
 refine RS.move (v := .string _) rfl ?_
 refine RS.move (v := .func _ _ _) rfl ?_
 refine RS.call E260 (index33 _ _) rfl (fun v3 w3 x3 A3 => ?_)
 replace hE := Ext.tr hE x3
 have zw3 := x3.size
 obtain ⟨j, rfl, hj⟩ := A3
 refine RS.nm ?_
 refine RS.asI rfl ?_
 refine nl J2 ?_
 refine wp_ret ?_
 refine retI rfl rfl ?_
 exact ⟨_, rfl, hE, _, rfl, hj⟩
theorem rune32 (r : Int) (w : World) :
  Calls Tryz.prog 217 #[.int .i32 r] w (Ret w fun v _ => v = .bool (decide (r < 32 ∨ 126 < r))) := by
 have hE := Ext.refl w
 refine enterU 8 Tryz.func217 rfl rfl ?_
 refine sq fun _ J1 => ?_
 refine RS.asB rfl ?_
 refine nl J1 (sq fun _ J2 => ?_)
 refine RS.mvI rfl ?_
 refine RS.o (D.lt rfl rfl) ?_
 refine RS.mvB rfl ?_
 refine RS.splitd 5 rfl rfl (fun c3 => ?_) (fun c3 => ?_)
 ·refine RS.nm ?_
  refine RS.skT 5 ?_
  refine RS.skT 5 ?_
  refine RS.pkt ?_
  refine RS.asB rfl ?_
  refine nl J2 ?_
  refine wp_ret ?_
  refine retB rfl rfl ?_
  refine ⟨_, rfl, hE, congrArg Value.bool (decide_eq_true ?_).symm⟩
  omega
 refine RS.nm ?_
 refine RS.wt 5 ?_
 refine RS.mvI rfl ?_
 refine RS.wt 5 ?_
 refine RS.o (D.gt rfl rfl) ?_
 refine RS.pk ?_
 refine RS.asB rfl ?_
 refine nl J2 ?_
 refine wp_ret ?_
 refine retB rfl rfl ?_
 refine ⟨_, rfl, hE, congrArg Value.bool (decide_eq_decide.2 ?_)⟩
 omega
theorem index32 (s : ByteArray) (w : World) :
  Calls Tryz.prog 260 #[.string s, .func (.func 217) #[] #[], .bool true] w (Ret w fun v _ => ∃ j, v = .int .i64 j ∧ (j < 0 ↔ S.Asc 32 s)) := by
 have hE := Ext.refl w
 refine enterU 18 Tryz.func260 rfl rfl ?_
 refine sq fun _ J1 => ?_
 refine RS.asI rfl ?_
 refine nl J1 ?_
 refine wx fun _ J2 => ?_
 refine sq fun _ J3 => ?_
 refine RS.move (v := .string _) rfl ?_
 refine RS.range rfl V9 (fun b4 w4 e4 s4 x4 I4 => ?_)
 refine RS.nm ?_
 replace hE := Ext.tr hE x4
 have zw4 := x4.size
 refine nl J3 ?_
 refine wp_block ?_
 refine C.loop (A := Int) (fun p => []) [6, 7, 8, 11, 12, 13, 14, 15, 16, 17, 18, 19, 20] (fun p w' => Pr (fun k => k = b4) w4 w' ∧ ((0 ≤ p ∧ p ≤ s.size) ∧ It w' b4 s p.toNat ∧ (∀ j, j < p.toNat → 32 ≤ (bys s).getD j 0 ∧ (bys s).getD j 0 ≤ 126))) (fun p => (s.size - p.toNat)) 0 (by kernel_rfl) ?_ ?_
 ·exact ⟨Pr.refl _ _, ⟨by omega, by omega⟩, I4, fun j hj => by omega⟩
 rintro p j w5 ⟨x5, hI⟩
 replace hE := hE.trans (x5.belo)
 have zw5 := x5.size
 obtain ⟨h1, I4, h2⟩ := hI
 have hdc := S.dec_case s p.toNat
 refine C.nmU ?_
 refine sq fun _ J6 => ?_
 refine RS.next I4 rfl (fun c7 w7 y7 N7 => ?_) (fun c7 => ?_)
 ·refine RS.nm ?_
  replace hE := hE.trans (y7.belo)
  replace x5 := x5.stno y7
  have zw7 := y7.size
  replace I4 := N7
  have hp := c7
  refine RS.extract (v := .bool true) rfl rfl ?_
  refine nl J6 ?_
  refine wx fun _ J8 => ?_
  refine C.ift rfl ?_
  refine wp_skip ?_
  refine J8 _ _ ?_
  refine wp_block ?_
  refine sq fun _ J9 => ?_
  refine RS.exI ?_
  refine RS.exI ?_
  refine RS.asI rfl ?_
  refine RS.asI rfl ?_
  refine nl J9 (sq fun _ J10 => ?_)
  refine RS.move (v := .func _ _ _) rfl ?_
  refine RS.mvI rfl ?_
  refine RS.callv E217 (rune32 _ _) rfl rfl (fun e11 w11 A11 => ?_)
  obtain ⟨v11, rfl, x11, A11⟩ := A11
  refine ⟨_, rfl, ?_⟩
  replace hE := Ext.tr hE x11
  replace x5 := x5.ext x11
  replace I4 := I4.ext x11
  have zw11 := x11.size
  subst A11
  refine RS.nm ?_
  refine RS.mvB rfl ?_
  refine RS.o (D.eqB rfl rfl V4) ?_
  refine nl J10 ?_
  refine C.ifb rfl (fun c12 => ?_) (fun c12 => ?_)
  ·have hf := c12
   refine sq fun _ J13 => ?_
   refine RS.mvI rfl ?_
   refine RS.asI rfl ?_
   refine nl J13 ?_
   refine wp_ret ?_
   refine retI rfl rfl ?_
   have hd := hdc hp
   rw [beq_true] at hf
   have hf2 := of_decide_eq_true hf
   refine ⟨_, rfl, hE, _, rfl, ⟨fun h => by omega, fun h => ?_⟩⟩
   have := h p.toNat hp
   omega
  have hf := c12
  refine wp_skip ?_
  change Nx _ _ _ _ _ _ _ _
  refine C.next (p + 1) trivial (by kernel_rfl) ?_ ?_
  ·have hd := hdc hp
   rw [beq_true] at hf
   have hf2 := of_decide_eq_false hf
   have hw : (Utf8.decode s p.toNat).2 = 1 := by omega
   rw [hw] at I4
   refine ⟨x5, ⟨by omega, by omega⟩, ?_, fun j hj => ?_⟩
   ·rw [show (p + 1).toNat = p.toNat + 1 by omega]; exact I4
   by_cases hjp : j < p.toNat
   ·exact h2 j hjp
   obtain rfl : j = p.toNat := by omega
   omega
  omega
 refine RS.nm ?_
 have hp := c7
 refine RS.extract (v := .bool false) rfl rfl ?_
 refine nl J6 ?_
 refine wx fun _ J14 => ?_
 refine C.iff rfl ?_
 refine wp_exit ?_
 refine J2 _ _ ?_
 refine sq fun _ J15 => ?_
 refine RS.asI rfl ?_
 refine nl J15 ?_
 refine wp_ret ?_
 refine retI rfl rfl ?_
 refine ⟨_, rfl, hE, _, rfl, ⟨fun _ j hj => h2 j (by omega), fun _ => by decide⟩⟩
theorem Index32 (s : ByteArray) (w : World) :
  Calls Tryz.prog 214 #[.string s, .func (.func 217) #[] #[]] w (Ret w fun v _ => ∃ j, v = .int .i64 j ∧ (j < 0 ↔ S.Asc 32 s)) := by
 have hE := Ext.refl w
 refine enterU 6 Tryz.func214 rfl rfl ?_
 refine sq fun _ J1 => ?_
 refine RS.asI rfl ?_
 refine nl J1 (sq fun _ J2 => ?_)
 refine RS.move (v := .string _) rfl ?_
 refine RS.move (v := .func _ _ _) rfl ?_
 refine RS.call E260 (index32 _ _) rfl (fun v3 w3 x3 A3 => ?_)
 replace hE := Ext.tr hE x3
 have zw3 := x3.size
 obtain ⟨j, rfl, hj⟩ := A3
 refine RS.nm ?_
 refine RS.asI rfl ?_
 refine nl J2 ?_
 refine wp_ret ?_
 refine retI rfl rfl ?_
 exact ⟨_, rfl, hE, _, rfl, hj⟩
theorem key (s : ByteArray) (w : World) :
  Calls Tryz.prog 157 #[.string s] w (Ret w fun v _ => v = .bool (decide (S.KeyOk s))) := by
 have hE := Ext.refl w
 refine enterU 15 Tryz.func157 rfl rfl ?_
 refine sq fun _ J1 => ?_
 refine RS.asB rfl ?_
 refine nl J1 (sq fun _ J2 => ?_)
 refine RS.move (v := .string _) rfl ?_
 refine RS.o (D.lenStr rfl V9) ?_
 refine RS.o (D.ge rfl rfl) ?_
 refine RS.mvB rfl ?_
 refine RS.splitd 6 rfl rfl (fun c3 => ?_) (fun c3 => ?_)
 ·refine RS.nm ?_
  have h1 := c3
  refine RS.wt 6 ?_
  refine RS.move (v := .string _) rfl ?_
  refine RS.wt 6 ?_
  refine RS.o (D.lenStr rfl V9) ?_
  refine RS.wt 6 ?_
  refine RS.o (D.le rfl rfl) ?_
  refine RS.pk ?_
  refine RS.mvB rfl ?_
  refine RS.splitd 11 rfl rfl (fun c4 => ?_) (fun c4 => ?_)
  ·refine RS.nm ?_
   have h2 := c4
   refine RS.wt 11 ?_
   refine RS.move (v := .string _) rfl ?_
   refine RS.wt 11 ?_
   refine RS.call E214 (Index33 _ _) rfl (fun v5 w5 x5 A5 => ?_)
   replace hE := Ext.tr hE x5
   have zw5 := x5.size
   obtain ⟨j, rfl, hj⟩ := A5
   refine RS.nm ?_
   refine RS.wt 11 ?_
   refine RS.o (D.lt rfl rfl) ?_
   refine RS.pk ?_
   refine RS.asB rfl ?_
   refine nl J2 ?_
   refine wp_ret ?_
   refine retB rfl rfl ?_
   refine ⟨_, rfl, hE, congrArg Value.bool (decide_eq_decide.2 ?_)⟩
   unfold S.KeyOk
   rw [hj]
   exact ⟨fun h => ⟨by omega, by omega, h⟩, fun h => h.2.2⟩
  refine RS.nm ?_
  have h2 := c4
  refine RS.skF 11 ?_
  refine RS.skF 11 ?_
  refine RS.skF 11 ?_
  refine RS.pkf ?_
  refine RS.asB rfl ?_
  refine nl J2 ?_
  refine wp_ret ?_
  refine retB rfl rfl ?_
  refine ⟨_, rfl, hE, congrArg Value.bool (decide_eq_false ?_).symm⟩
  intro h
  have := h.2.1
  omega
 refine RS.nm ?_
 have h1 := c3
 refine RS.skF 6 ?_
 refine RS.skF 6 ?_
 refine RS.skF 6 ?_
 refine RS.pkf ?_
 refine RS.mvB rfl ?_
 refine RS.skF 11 ?_
 refine RS.skF 11 ?_
 refine RS.skF 11 ?_
 refine RS.pkf ?_
 refine RS.asB rfl ?_
 refine nl J2 ?_
 refine wp_ret ?_
 refine retB rfl rfl ?_
 refine ⟨_, rfl, hE, congrArg Value.bool (decide_eq_false ?_).symm⟩
 intro h
 have := h.1
 omega
theorem printable (s : ByteArray) (hs : s.size ≤ 1000000) (w : World) :
  Calls Tryz.prog 290 #[.string s] w (Ret w fun v _ => v = .bool (decide (S.Asc 32 s))) := by
 have hE := Ext.refl w
 refine enterU 19 Tryz.func290 rfl rfl ?_
 refine sq fun _ J1 => ?_
 refine RS.asB rfl ?_
 refine nl J1 ?_
 refine wx fun _ J2 => ?_
 refine sq fun _ J3 => ?_
 refine RS.asI rfl ?_
 refine nl J3 ?_
 refine wp_block ?_
 refine C.loop (A := Int) (fun p => [(3, .int .i64 p)]) [2, 4, 5, 6, 7, 8, 9, 10, 11, 12, 13, 14, 15, 16, 17, 18, 19] (fun p w' => Ext w w' ∧ ((0 ≤ p ∧ p ≤ s.size) ∧ (∀ j, j < p.toNat → 32 ≤ (bys s).getD j 0 ∧ (bys s).getD j 0 ≤ 126))) (fun p => (s.size - p.toNat)) 0 (by kernel_rfl) ?_ ?_
 ·exact ⟨Ext.refl _, ⟨by omega, by omega⟩, fun j hj => by omega⟩
 rintro p j w4 ⟨x4, hI⟩
 replace hE := Ext.tr hE x4
 have zw4 := x4.size
 obtain ⟨h1, h2⟩ := hI
 refine C.nmU ?_
 refine wx fun _ J5 => ?_
 refine sq fun _ J6 => ?_
 refine RS.mvI rfl ?_
 refine RS.move (v := .string _) rfl ?_
 refine RS.o (D.lenStr rfl V9) ?_
 refine RS.o (D.lt rfl rfl) ?_
 refine nl J6 ?_
 refine C.ifd rfl (fun c7 => ?_) (fun c7 => ?_)
 ·have hl := c7
  refine wp_skip ?_
  refine J5 _ _ ?_
  refine wx fun _ J8 => ?_
  refine wp_block ?_
  refine sq fun _ J9 => ?_
  refine RS.move (v := .string _) rfl ?_
  refine RS.mvI rfl ?_
  refine RS.indexStr rfl rfl V9 (by omega) (fun v10 q10 r10 => ?_)
  refine RS.nm ?_
  simp only [lim] at r10
  have q1 := q10
  refine RS.o (D.lt rfl rfl) ?_
  refine RS.mvB rfl ?_
  refine RS.splitd 14 rfl rfl (fun c11 => ?_) (fun c11 => ?_)
  ·refine RS.nm ?_
   refine RS.skT 14 ?_
   refine RS.skT 14 ?_
   refine RS.skT 14 ?_
   refine RS.skT 14 ?_
   refine RS.pkt ?_
   refine nl J9 ?_
   refine C.ift rfl ?_
   refine sq fun _ J12 => ?_
   refine RS.asB rfl ?_
   refine nl J12 ?_
   refine wp_ret ?_
   refine retB rfl rfl ?_
   refine ⟨_, rfl, hE, congrArg Value.bool (decide_eq_false ?_).symm⟩
   intro h
   have := h p.toNat (by omega)
   omega
  refine RS.nm ?_
  refine RS.wt 14 ?_
  refine RS.move (v := .string _) rfl ?_
  refine RS.wt 14 ?_
  refine RS.mvI rfl ?_
  refine RS.wt 14 ?_
  refine RS.indexStr rfl rfl V9 (by omega) (fun v13 q13 r13 => ?_)
  refine RS.nm ?_
  simp only [lim] at r13
  have q2 := q13
  refine RS.wt 14 ?_
  refine RS.o (D.gt rfl rfl) ?_
  refine RS.pk ?_
  refine nl J9 ?_
  refine C.ifd rfl (fun c14 => ?_) (fun c14 => ?_)
  ·try have hb := c14
   refine sq fun _ J15 => ?_
   refine RS.asB rfl ?_
   refine nl J15 ?_
   refine wp_ret ?_
   refine retB rfl rfl ?_
   refine ⟨_, rfl, hE, congrArg Value.bool (decide_eq_false ?_).symm⟩
   intro h
   have := h p.toNat (by omega)
   omega
  refine wp_skip ?_
  refine J8 _ _ ?_
  refine region ?_
  refine RS.mvI rfl ?_
  refine RS.o (D.add rfl rfl (W.i64 (by omega))) ?_
  refine RS.asI rfl ?_
  refine RS.nil ?_
  change Nx _ _ _ _ _ _ _ _
  refine C.next (p + 1) ⟨rfl, trivial⟩ (by kernel_rfl) ?_ ?_
  ·refine ⟨x4, ⟨by omega, by omega⟩, fun j hj => ?_⟩
   by_cases hjp : j < p.toNat
   ·exact h2 j hjp
   obtain rfl : j = p.toNat := by omega
   omega
  omega
 have hl := c7
 refine wp_exit ?_
 refine J2 _ _ ?_
 refine sq fun _ J16 => ?_
 refine RS.asB rfl ?_
 refine nl J16 ?_
 refine wp_ret ?_
 refine retB rfl rfl ?_
 exact ⟨_, rfl, hE, congrArg Value.bool (decide_eq_true (fun j hj => h2 j (by omega))).symm⟩
theorem nameR (s : ByteArray) (hs : s.size ≤ 1000000) (w : World) :
  Calls Tryz.prog 264 #[.string s] w (Ret w fun v _ => v = .bool (decide (S.KeyOk s))) := by
 have hE := Ext.refl w
 refine enterU 27 Tryz.func264 rfl rfl ?_
 refine sq fun _ J1 => ?_
 refine RS.asB rfl ?_
 refine nl J1 ?_
 refine wx fun _ J2 => ?_
 refine sq fun _ J3 => ?_
 refine RS.move (v := .string _) rfl ?_
 refine RS.o (D.lenStr rfl V9) ?_
 refine RS.o (D.lt rfl rfl) ?_
 refine RS.mvB rfl ?_
 refine RS.splitd 7 rfl rfl (fun c4 => ?_) (fun c4 => ?_)
 ·refine RS.nm ?_
  refine RS.skT 7 ?_
  refine RS.skT 7 ?_
  refine RS.skT 7 ?_
  refine RS.pkt ?_
  refine nl J3 ?_
  refine C.ift rfl ?_
  refine sq fun _ J5 => ?_
  refine RS.asB rfl ?_
  refine nl J5 ?_
  refine wp_ret ?_
  refine retB rfl rfl ?_
  refine ⟨_, rfl, hE, congrArg Value.bool (decide_eq_false ?_).symm⟩
  intro h
  have := h.1
  omega
 refine RS.nm ?_
 refine RS.wt 7 ?_
 refine RS.move (v := .string _) rfl ?_
 refine RS.wt 7 ?_
 refine RS.o (D.lenStr rfl V9) ?_
 refine RS.wt 7 ?_
 refine RS.o (D.gt rfl rfl) ?_
 refine RS.pk ?_
 refine nl J3 ?_
 refine C.ifd rfl (fun c6 => ?_) (fun c6 => ?_)
 ·refine wx fun _ J7 => ?_
  refine region ?_
  refine RS.asB rfl ?_
  refine nl J7 ?_
  refine wp_ret ?_
  refine retB rfl rfl ?_
  refine ⟨_, rfl, hE, congrArg Value.bool (decide_eq_false ?_).symm⟩
  intro h
  have := h.2.1
  omega
 refine wp_skip ?_
 refine J2 _ _ ?_
 refine wx fun _ J8 => ?_
 refine sq fun _ J9 => ?_
 refine RS.asI rfl ?_
 refine nl J9 ?_
 refine wp_block ?_
 refine C.loop (A := Int) (fun p => [(3, .int .i64 p)]) [2, 12, 13, 14, 15, 16, 17, 18, 19, 20, 21, 22, 23, 24, 25, 26, 27] (fun p w' => Ext w w' ∧ ((0 ≤ p ∧ p ≤ s.size) ∧ (∀ j, j < p.toNat → 33 ≤ (bys s).getD j 0 ∧ (bys s).getD j 0 ≤ 126))) (fun p => (s.size - p.toNat)) 0 (by kernel_rfl) ?_ ?_
 ·exact ⟨Ext.refl _, ⟨by omega, by omega⟩, fun j hj => by omega⟩
 rintro p j w10 ⟨x10, hI⟩
 replace hE := Ext.tr hE x10
 have zw10 := x10.size
 obtain ⟨h1, h2⟩ := hI
 refine C.nmU ?_
 refine wx fun _ J11 => ?_
 refine sq fun _ J12 => ?_
 refine RS.mvI rfl ?_
 refine RS.move (v := .string _) rfl ?_
 refine RS.o (D.lenStr rfl V9) ?_
 refine RS.o (D.lt rfl rfl) ?_
 refine nl J12 ?_
 refine C.ifd rfl (fun c13 => ?_) (fun c13 => ?_)
 ·refine wp_skip ?_
  refine J11 _ _ ?_
  refine wx fun _ J14 => ?_
  refine wp_block ?_
  refine sq fun _ J15 => ?_
  refine RS.move (v := .string _) rfl ?_
  refine RS.mvI rfl ?_
  refine RS.indexStr rfl rfl V9 (by omega) (fun v16 q16 r16 => ?_)
  refine RS.nm ?_
  simp only [lim] at r16
  have q1 := q16
  refine RS.o (D.lt rfl rfl) ?_
  refine RS.mvB rfl ?_
  refine RS.splitd 22 rfl rfl (fun c17 => ?_) (fun c17 => ?_)
  ·refine RS.nm ?_
   refine RS.skT 22 ?_
   refine RS.skT 22 ?_
   refine RS.skT 22 ?_
   refine RS.skT 22 ?_
   refine RS.pkt ?_
   refine nl J15 ?_
   refine C.ift rfl ?_
   refine sq fun _ J18 => ?_
   refine RS.asB rfl ?_
   refine nl J18 ?_
   refine wp_ret ?_
   refine retB rfl rfl ?_
   refine ⟨_, rfl, hE, congrArg Value.bool (decide_eq_false ?_).symm⟩
   intro h
   have := h.2.2 p.toNat (by omega)
   omega
  refine RS.nm ?_
  refine RS.wt 22 ?_
  refine RS.move (v := .string _) rfl ?_
  refine RS.wt 22 ?_
  refine RS.mvI rfl ?_
  refine RS.wt 22 ?_
  refine RS.indexStr rfl rfl V9 (by omega) (fun v19 q19 r19 => ?_)
  refine RS.nm ?_
  simp only [lim] at r19
  have q2 := q19
  refine RS.wt 22 ?_
  refine RS.o (D.gt rfl rfl) ?_
  refine RS.pk ?_
  refine nl J15 ?_
  refine C.ifd rfl (fun c20 => ?_) (fun c20 => ?_)
  ·refine wx fun _ J21 => ?_
   refine region ?_
   refine RS.asB rfl ?_
   refine nl J21 ?_
   refine wp_ret ?_
   refine retB rfl rfl ?_
   refine ⟨_, rfl, hE, congrArg Value.bool (decide_eq_false ?_).symm⟩
   intro h
   have := h.2.2 p.toNat (by omega)
   omega
  refine wp_skip ?_
  refine J14 _ _ ?_
  refine region ?_
  refine RS.mvI rfl ?_
  refine RS.o (D.add rfl rfl (W.i64 (by omega))) ?_
  refine RS.asI rfl ?_
  refine RS.nil ?_
  change Nx _ _ _ _ _ _ _ _
  refine C.next (p + 1) ⟨rfl, trivial⟩ (by kernel_rfl) ?_ ?_
  ·refine ⟨x10, ⟨by omega, by omega⟩, fun j hj => ?_⟩
   by_cases hjp : j < p.toNat
   ·exact h2 j hjp
   obtain rfl : j = p.toNat := by omega
   omega
  omega
 refine wp_exit ?_
 refine J8 _ _ ?_
 refine sq fun _ J22 => ?_
 refine RS.asB rfl ?_
 refine nl J22 ?_
 refine wp_ret ?_
 refine retB rfl rfl ?_
 refine ⟨_, rfl, hE, congrArg Value.bool (decide_eq_true ⟨by omega, by omega, fun j hj => h2 j (by omega)⟩).symm⟩
theorem splitV (b : Int) (hb : 0 ≤ b ∧ b < 18446744073709551616) (w : World) :
  Calls Tryz.prog 288 #[.int .u64 b] w (Ret w fun v _ => v = .tuple #[.int .i64 (b / 4503599627370496 % 2048), .int .u64 (b % 4503599627370496)]) := by
 have e52 : (2 : Int) ^ (52 : Int).toNat = 4503599627370496 := by decide
 have hE := Ext.refl w
 refine enterU 9 Tryz.func288 rfl rfl ?_
 refine sq fun _ J1 => ?_
 refine RS.asI rfl ?_
 refine RS.asI rfl ?_
 refine nl J1 (sq fun _ J2 => ?_)
 refine RS.mvI rfl ?_
 refine RS.ob (D.shr_u64 rfl rfl (by omega) (by constructor <;> omega)) (fun z3 => ?_)
 refine RS.o (D.conv rfl V22 V3 (W.i64 (by rw [e52]; omega))) ?_
 refine RS.o (D.sand rfl rfl) ?_
 refine RS.mvI rfl ?_
 refine RS.ob (D.band_u64 rfl rfl (by omega) (by omega)) (fun z4 => ?_)
 refine RS.asI rfl ?_
 refine RS.asI rfl ?_
 refine nl J2 ?_
 refine wp_ret ?_
 refine retII ?_
 refine ⟨_, rfl, hE, ?_⟩
 rw [e52, S.sand_2047 _ (by omega), S.iand_full _ (by omega)]
theorem classV (b : Int) (hb : 0 ≤ b ∧ b < 18446744073709551616) (w : World) :
  Calls Tryz.prog 261 #[.int .u64 b] w (Ret w fun v _ => v = .int .u8 (S.clsS b)) := by
 have hE := Ext.refl w
 refine enterU 25 Tryz.func261 rfl rfl ?_
 refine sq fun _ J1 => ?_
 refine RS.asI rfl ?_
 refine nl J1 (sq fun _ J2 => ?_)
 refine RS.mvI rfl ?_
 refine RS.call E288 (splitV _ (by omega) _) rfl (fun v3 w3 x3 A3 => ?_)
 replace hE := Ext.tr hE x3
 have zw3 := x3.size
 subst A3
 refine RS.nm ?_
 refine RS.move (v := .tuple _) rfl ?_
 refine RS.exI ?_
 refine RS.exI ?_
 refine RS.asI rfl ?_
 refine RS.asI rfl ?_
 refine nl J2 ?_
 refine wx fun _ J4 => ?_
 refine wp_block ?_
 refine sq fun _ J5 => ?_
 refine RS.mvI rfl ?_
 refine RS.o (D.eq rfl rfl) ?_
 refine RS.mvB rfl ?_
 refine RS.splite 13 rfl rfl (fun c6 => ?_) (fun c6 => ?_)
 ·refine RS.nm ?_
  refine RS.wt 13 ?_
  refine RS.mvI rfl ?_
  refine RS.wt 13 ?_
  refine RS.o (D.ne rfl rfl) ?_
  refine RS.pk ?_
  refine RS.asB rfl ?_
  refine nl J5 ?_
  refine C.ifn rfl (fun c7 => ?_) (fun c7 => ?_)
  ·refine wx fun _ J8 => ?_
   refine region ?_
   refine RS.asI rfl ?_
   refine nl J8 ?_
   refine wp_ret ?_
   refine retI rfl rfl ?_
   refine ⟨_, rfl, hE, congrArg (Value.int .u8) ?_⟩
   unfold S.clsS
   (repeat' split) <;> omega
  refine wx fun _ J9 => ?_
  refine region ?_
  refine RS.mvI rfl ?_
  refine RS.o (D.eq rfl rfl) ?_
  refine RS.asB rfl ?_
  refine nl J9 ?_
  refine C.ife rfl (fun c10 => ?_) (fun c10 => ?_)
  ·refine wx fun _ J11 => ?_
   refine region ?_
   refine RS.asI rfl ?_
   refine nl J11 ?_
   refine wp_ret ?_
   refine retI rfl rfl ?_
   refine ⟨_, rfl, hE, congrArg (Value.int .u8) ?_⟩
   unfold S.clsS
   (repeat' split) <;> omega
  refine wx fun _ J12 => ?_
  refine region ?_
  refine RS.mvI rfl ?_
  refine RS.o (D.ne rfl rfl) ?_
  refine RS.asB rfl ?_
  refine nl J12 ?_
  refine C.ifn rfl (fun c13 => ?_) (fun c13 => ?_)
  ·refine wx fun _ J14 => ?_
   refine region ?_
   refine RS.asI rfl ?_
   refine nl J14 ?_
   refine wp_ret ?_
   refine retI rfl rfl ?_
   refine ⟨_, rfl, hE, congrArg (Value.int .u8) ?_⟩
   unfold S.clsS
   (repeat' split) <;> omega
  refine wx fun _ J15 => ?_
  refine region ?_
  refine RS.mvI rfl ?_
  refine RS.o (D.ne rfl rfl) ?_
  refine RS.asB rfl ?_
  refine nl J15 ?_
  refine C.ifn rfl (fun c16 => ?_) (fun c16 => ?_)
  ·refine wx fun _ J17 => ?_
   refine region ?_
   refine RS.asI rfl ?_
   refine nl J17 ?_
   refine wp_ret ?_
   refine retI rfl rfl ?_
   refine ⟨_, rfl, hE, congrArg (Value.int .u8) ?_⟩
   unfold S.clsS
   (repeat' split) <;> omega
  refine wp_skip ?_
  refine J4 _ _ ?_
  refine sq fun _ J18 => ?_
  refine RS.asI rfl ?_
  refine nl J18 ?_
  refine wp_ret ?_
  refine retI rfl rfl ?_
  refine ⟨_, rfl, hE, congrArg (Value.int .u8) ?_⟩
  unfold S.clsS
  (repeat' split) <;> omega
 refine RS.nm ?_
 refine RS.skF 13 ?_
 refine RS.skF 13 ?_
 refine RS.pkf ?_
 refine RS.asB rfl ?_
 refine nl J5 ?_
 refine C.iff rfl ?_
 refine sq fun _ J19 => ?_
 refine RS.mvI rfl ?_
 refine RS.o (D.eq rfl rfl) ?_
 refine RS.asB rfl ?_
 refine nl J19 ?_
 refine C.ife rfl (fun c20 => ?_) (fun c20 => ?_)
 ·refine wx fun _ J21 => ?_
  refine region ?_
  refine RS.asI rfl ?_
  refine nl J21 ?_
  refine wp_ret ?_
  refine retI rfl rfl ?_
  refine ⟨_, rfl, hE, congrArg (Value.int .u8) ?_⟩
  unfold S.clsS
  (repeat' split) <;> omega
 refine wx fun _ J22 => ?_
 refine region ?_
 refine RS.mvI rfl ?_
 refine RS.o (D.ne rfl rfl) ?_
 refine RS.asB rfl ?_
 refine nl J22 ?_
 refine C.ifn rfl (fun c23 => ?_) (fun c23 => ?_)
 ·refine wx fun _ J24 => ?_
  refine region ?_
  refine RS.asI rfl ?_
  refine nl J24 ?_
  refine wp_ret ?_
  refine retI rfl rfl ?_
  refine ⟨_, rfl, hE, congrArg (Value.int .u8) ?_⟩
  unfold S.clsS
  (repeat' split) <;> omega
 refine wx fun _ J25 => ?_
 refine region ?_
 refine RS.mvI rfl ?_
 refine RS.o (D.ne rfl rfl) ?_
 refine RS.asB rfl ?_
 refine nl J25 ?_
 refine C.ifn rfl (fun c26 => ?_) (fun c26 => ?_)
 ·refine wx fun _ J27 => ?_
  refine region ?_
  refine RS.asI rfl ?_
  refine nl J27 ?_
  refine wp_ret ?_
  refine retI rfl rfl ?_
  refine ⟨_, rfl, hE, congrArg (Value.int .u8) ?_⟩
  unfold S.clsS
  (repeat' split) <;> omega
 refine wp_skip ?_
 refine J4 _ _ ?_
 refine sq fun _ J28 => ?_
 refine RS.asI rfl ?_
 refine nl J28 ?_
 refine wp_ret ?_
 refine retI rfl rfl ?_
 refine ⟨_, rfl, hE, congrArg (Value.int .u8) ?_⟩
 unfold S.clsS
 (repeat' split) <;> omega
theorem expR (b : Int) (hb : 0 ≤ b ∧ b < 18446744073709551616) (w : World) :
  Calls Tryz.prog 297 #[.int .u64 b] w (Ret w fun v _ => v = .int .i64 (b / 4503599627370496 % 2048)) := by
 have hE := Ext.refl w
 refine enterU 6 Tryz.func297 rfl rfl ?_
 refine sq fun _ J1 => ?_
 refine RS.asI rfl ?_
 refine nl J1 (sq fun _ J2 => ?_)
 refine RS.mvI rfl ?_
 refine RS.o (D.rem rfl rfl (by omega) (by omega)) ?_
 refine RS.o (D.quo rfl rfl (by omega) (by omega) (W.u64 (by omega))) ?_
 refine RS.o (D.conv rfl V22 V3 (W.i64 (by omega))) ?_
 refine RS.asI rfl ?_
 refine nl J2 ?_
 refine wp_ret ?_
 refine retI rfl rfl ?_
 refine ⟨_, rfl, hE, congrArg (Value.int .i64) (S.exp_eq b (by omega))⟩
theorem fracR (b : Int) (hb : 0 ≤ b ∧ b < 18446744073709551616) (w : World) :
  Calls Tryz.prog 298 #[.int .u64 b] w (Ret w fun v _ => v = .int .u64 (b % 4503599627370496)) := by
 have hE := Ext.refl w
 refine enterU 4 Tryz.func298 rfl rfl ?_
 refine sq fun _ J1 => ?_
 refine RS.asI rfl ?_
 refine nl J1 (sq fun _ J2 => ?_)
 refine RS.mvI rfl ?_
 refine RS.o (D.rem rfl rfl (by omega) (by omega)) ?_
 refine RS.asI rfl ?_
 refine nl J2 ?_
 refine wp_ret ?_
 refine retI rfl rfl ?_
 exact ⟨_, rfl, hE, rfl⟩
theorem classR (b : Int) (hb : 0 ≤ b ∧ b < 18446744073709551616) (w : World) :
  Calls Tryz.prog 295 #[.int .u64 b] w (Ret w fun v _ => v = .int .u8 (S.clsS b)) := by
 have hE := Ext.refl w
 refine enterU 20 Tryz.func295 rfl rfl ?_
 refine sq fun _ J1 => ?_
 refine RS.asI rfl ?_
 refine nl J1 (sq fun _ J2 => ?_)
 refine RS.mvI rfl ?_
 refine RS.call E297 (expR _ (by omega) _) rfl (fun v3 w3 x3 A3 => ?_)
 replace hE := Ext.tr hE x3
 have zw3 := x3.size
 subst A3
 refine RS.nm ?_
 refine RS.mvI rfl ?_
 refine RS.call E298 (fracR _ (by omega) _) rfl (fun v4 w4 x4 A4 => ?_)
 replace hE := Ext.tr hE x4
 have zw4 := x4.size
 subst A4
 refine RS.nm ?_
 refine RS.asI rfl ?_
 refine RS.asI rfl ?_
 refine nl J2 ?_
 refine wx fun _ J5 => ?_
 refine sq fun _ J6 => ?_
 refine RS.mvI rfl ?_
 refine RS.o (D.eq rfl rfl) ?_
 refine RS.mvB rfl ?_
 refine RS.splite 11 rfl rfl (fun c7 => ?_) (fun c7 => ?_)
 ·refine RS.nm ?_
  refine RS.wt 11 ?_
  refine RS.mvI rfl ?_
  refine RS.wt 11 ?_
  refine RS.o (D.eq rfl rfl) ?_
  refine RS.pk ?_
  refine nl J6 ?_
  refine C.ife rfl (fun c8 => ?_) (fun c8 => ?_)
  ·refine wx fun _ J9 => ?_
   refine region ?_
   refine RS.asI rfl ?_
   refine nl J9 ?_
   refine wp_ret ?_
   refine retI rfl rfl ?_
   refine ⟨_, rfl, hE, congrArg (Value.int .u8) ?_⟩
   unfold S.clsS
   (repeat' split) <;> omega
  refine wp_skip ?_
  refine J5 _ _ ?_
  refine wx fun _ J10 => ?_
  refine sq fun _ J11 => ?_
  refine RS.mvI rfl ?_
  refine RS.o (D.eq rfl rfl) ?_
  refine nl J11 ?_
  refine C.ife rfl (fun c12 => ?_) (fun c12 => ?_)
  ·refine wx fun _ J13 => ?_
   refine region ?_
   refine RS.asI rfl ?_
   refine nl J13 ?_
   refine wp_ret ?_
   refine retI rfl rfl ?_
   refine ⟨_, rfl, hE, congrArg (Value.int .u8) ?_⟩
   unfold S.clsS
   (repeat' split) <;> omega
  refine wp_skip ?_
  refine J10 _ _ ?_
  refine wx fun _ J14 => ?_
  refine sq fun _ J15 => ?_
  refine RS.mvI rfl ?_
  refine RS.o (D.lt rfl rfl) ?_
  refine nl J15 ?_
  refine C.ifd rfl (fun c16 => ?_) (fun c16 => ?_)
  ·refine wx fun _ J17 => ?_
   refine region ?_
   refine RS.asI rfl ?_
   refine nl J17 ?_
   refine wp_ret ?_
   refine retI rfl rfl ?_
   refine ⟨_, rfl, hE, congrArg (Value.int .u8) ?_⟩
   unfold S.clsS
   (repeat' split) <;> omega
  refine wp_skip ?_
  refine J14 _ _ ?_
  refine wx fun _ J18 => ?_
  refine sq fun _ J19 => ?_
  refine RS.mvI rfl ?_
  refine RS.o (D.eq rfl rfl) ?_
  refine nl J19 ?_
  refine C.ife rfl (fun c20 => ?_) (fun c20 => ?_)
  ·refine wx fun _ J21 => ?_
   refine region ?_
   refine RS.asI rfl ?_
   refine nl J21 ?_
   refine wp_ret ?_
   refine retI rfl rfl ?_
   refine ⟨_, rfl, hE, congrArg (Value.int .u8) ?_⟩
   unfold S.clsS
   (repeat' split) <;> omega
  refine wp_skip ?_
  refine J18 _ _ ?_
  refine sq fun _ J22 => ?_
  refine RS.asI rfl ?_
  refine nl J22 ?_
  refine wp_ret ?_
  refine retI rfl rfl ?_
  refine ⟨_, rfl, hE, congrArg (Value.int .u8) ?_⟩
  unfold S.clsS
  (repeat' split) <;> omega
 refine RS.nm ?_
 refine RS.skF 11 ?_
 refine RS.skF 11 ?_
 refine RS.pkf ?_
 refine nl J6 ?_
 refine C.iff rfl ?_
 refine wp_skip ?_
 refine J5 _ _ ?_
 refine wx fun _ J23 => ?_
 refine sq fun _ J24 => ?_
 refine RS.mvI rfl ?_
 refine RS.o (D.eq rfl rfl) ?_
 refine nl J24 ?_
 refine C.ife rfl (fun c25 => ?_) (fun c25 => ?_)
 ·refine wx fun _ J26 => ?_
  refine region ?_
  refine RS.asI rfl ?_
  refine nl J26 ?_
  refine wp_ret ?_
  refine retI rfl rfl ?_
  refine ⟨_, rfl, hE, congrArg (Value.int .u8) ?_⟩
  unfold S.clsS
  (repeat' split) <;> omega
 refine wp_skip ?_
 refine J23 _ _ ?_
 refine wx fun _ J27 => ?_
 refine sq fun _ J28 => ?_
 refine RS.mvI rfl ?_
 refine RS.o (D.lt rfl rfl) ?_
 refine nl J28 ?_
 refine C.ifd rfl (fun c29 => ?_) (fun c29 => ?_)
 ·refine wx fun _ J30 => ?_
  refine region ?_
  refine RS.asI rfl ?_
  refine nl J30 ?_
  refine wp_ret ?_
  refine retI rfl rfl ?_
  refine ⟨_, rfl, hE, congrArg (Value.int .u8) ?_⟩
  unfold S.clsS
  (repeat' split) <;> omega
 refine wp_skip ?_
 refine J27 _ _ ?_
 refine wx fun _ J31 => ?_
 refine sq fun _ J32 => ?_
 refine RS.mvI rfl ?_
 refine RS.o (D.eq rfl rfl) ?_
 refine nl J32 ?_
 refine C.ife rfl (fun c33 => ?_) (fun c33 => ?_)
 ·refine wx fun _ J34 => ?_
  refine region ?_
  refine RS.asI rfl ?_
  refine nl J34 ?_
  refine wp_ret ?_
  refine retI rfl rfl ?_
  refine ⟨_, rfl, hE, congrArg (Value.int .u8) ?_⟩
  unfold S.clsS
  (repeat' split) <;> omega
 refine wp_skip ?_
 refine J31 _ _ ?_
 refine sq fun _ J35 => ?_
 refine RS.asI rfl ?_
 refine nl J35 ?_
 refine wp_ret ?_
 refine retI rfl rfl ?_
 refine ⟨_, rfl, hE, congrArg (Value.int .u8) ?_⟩
 unfold S.clsS
 (repeat' split) <;> omega
theorem canonV (b : Int) (hb : 0 ≤ b ∧ b < 18446744073709551616) (w : World) :
  Calls Tryz.prog 216 #[.int .u64 b] w (Ret w fun v _ => v = .int .u64 (S.canS b)) := by
 have hE := Ext.refl w
 refine enterU 6 Tryz.func216 rfl rfl ?_
 refine sq fun _ J1 => ?_
 refine RS.asI rfl ?_
 refine nl J1 ?_
 refine wx fun _ J2 => ?_
 refine sq fun _ J3 => ?_
 refine RS.mvI rfl ?_
 refine RS.call E261 (classV _ (by omega) _) rfl (fun v4 w4 x4 A4 => ?_)
 replace hE := Ext.tr hE x4
 have zw4 := x4.size
 subst A4
 refine RS.nm ?_
 refine RS.o (D.eq rfl rfl) ?_
 refine nl J3 ?_
 refine C.ife rfl (fun c5 => ?_) (fun c5 => ?_)
 ·refine wx fun _ J6 => ?_
  refine region ?_
  refine RS.asI rfl ?_
  refine nl J6 ?_
  refine wp_ret ?_
  refine retI rfl rfl ?_
  refine ⟨_, rfl, hE, congrArg (Value.int .u64) ?_⟩
  unfold S.canS
  split <;> omega
 refine wp_skip ?_
 refine J2 _ _ ?_
 refine sq fun _ J7 => ?_
 refine RS.mvI rfl ?_
 refine RS.asI rfl ?_
 refine nl J7 ?_
 refine wp_ret ?_
 refine retI rfl rfl ?_
 refine ⟨_, rfl, hE, congrArg (Value.int .u64) ?_⟩
 unfold S.canS
 split <;> omega
theorem canonR (b : Int) (hb : 0 ≤ b ∧ b < 18446744073709551616) (w : World) :
  Calls Tryz.prog 289 #[.int .u64 b] w (Ret w fun v _ => v = .int .u64 (S.canS b)) := by
 have hE := Ext.refl w
 refine enterU 6 Tryz.func289 rfl rfl ?_
 refine sq fun _ J1 => ?_
 refine RS.asI rfl ?_
 refine nl J1 ?_
 refine wx fun _ J2 => ?_
 refine sq fun _ J3 => ?_
 refine RS.mvI rfl ?_
 refine RS.call E295 (classR _ (by omega) _) rfl (fun v4 w4 x4 A4 => ?_)
 replace hE := Ext.tr hE x4
 have zw4 := x4.size
 subst A4
 refine RS.nm ?_
 refine RS.o (D.eq rfl rfl) ?_
 refine nl J3 ?_
 refine C.ife rfl (fun c5 => ?_) (fun c5 => ?_)
 ·refine wx fun _ J6 => ?_
  refine region ?_
  refine RS.asI rfl ?_
  refine nl J6 ?_
  refine wp_ret ?_
  refine retI rfl rfl ?_
  refine ⟨_, rfl, hE, congrArg (Value.int .u64) ?_⟩
  unfold S.canS
  split <;> omega
 refine wp_skip ?_
 refine J2 _ _ ?_
 refine sq fun _ J7 => ?_
 refine RS.mvI rfl ?_
 refine RS.asI rfl ?_
 refine nl J7 ?_
 refine wp_ret ?_
 refine retI rfl rfl ?_
 refine ⟨_, rfl, hE, congrArg (Value.int .u64) ?_⟩
 unfold S.canS
 split <;> omega
theorem numberV (n : Int) (w : World) :
  Calls Tryz.prog 158 #[.int .i64 n] w (Ret w fun v _ => v = .agg ([.int .u8 1, .int .i64 n, .int .u64 0, .string .empty] : List Value).toArray) := by
 have hE := Ext.refl w
 refine enterU 4 Tryz.func158 rfl rfl ?_
 refine sq fun _ J1 => ?_
 refine RS.alloc T24 (fun b2 w2 e2 s2 x2 B2 => ?_)
 refine RS.nm ?_
 replace hE := Ext.tr hE x2
 have zw2 := x2.size
 refine nl J1 (sq fun _ J3 => ?_)
 refine RS.mvI rfl ?_
 refine RS.o (D.buildS T24 F24 (ps := [(0, .int _ _), (1, .int _ _)]) rfl rfl) ?_
 refine RS.sa C24 B2 (fun w4 y4 N4 => ?_)
 replace hE := hE.trans (y4.belo)
 have zw4 := y4.size
 replace B2 := N4
 refine nl J3 ?_
 refine wp_ret ?_
 refine retA V24 C24 B2 4 ?_
 exact ⟨_, rfl, hE, rfl⟩
theorem floatV (b : Int) (hb : 0 ≤ b ∧ b < 18446744073709551616) (w : World) :
  Calls Tryz.prog 159 #[.int .u64 b] w (Ret w fun v _ => v = .agg ([.int .u8 2, .int .i64 0, .int .u64 (S.canS b), .string .empty] : List Value).toArray) := by
 have hE := Ext.refl w
 refine enterU 5 Tryz.func159 rfl rfl ?_
 refine sq fun _ J1 => ?_
 refine RS.alloc T24 (fun b2 w2 e2 s2 x2 B2 => ?_)
 refine RS.nm ?_
 replace hE := Ext.tr hE x2
 have zw2 := x2.size
 refine nl J1 (sq fun _ J3 => ?_)
 refine RS.mvI rfl ?_
 refine RS.call E216 (canonV _ (by omega) _) rfl (fun v4 w4 x4 A4 => ?_)
 replace hE := Ext.tr hE x4
 replace B2 := B2.ext x4
 have zw4 := x4.size
 subst A4
 refine RS.nm ?_
 refine RS.o (D.buildS T24 F24 (ps := [(0, .int _ _), (2, .int _ _)]) rfl rfl) ?_
 refine RS.sa C24 B2 (fun w5 y5 N5 => ?_)
 replace hE := hE.trans (y5.belo)
 have zw5 := y5.size
 replace B2 := N5
 refine nl J3 ?_
 refine wp_ret ?_
 refine retA V24 C24 B2 4 ?_
 exact ⟨_, rfl, hE, rfl⟩
theorem textV (s : ByteArray) (w : World) :
  Calls Tryz.prog 160 #[.string s] w (Ret w fun v _ => ∃ k2 t2 e2, v = .tuple #[.agg ([.int .u8 k2, .int .i64 0, .int .u64 0, .string t2] : List Value).toArray, .int .i64 e2] ∧ ((S.TextOk s ∧ k2 = 3 ∧ t2 = s ∧ e2 = 0) ∨ (¬ S.TextOk s ∧ k2 = 0 ∧ t2 = ByteArray.empty))) := by
 have hE := Ext.refl w
 refine enterU 13 Tryz.func160 rfl rfl ?_
 refine sq fun _ J1 => ?_
 refine RS.alloc T24 (fun b2 w2 e2 s2 x2 B2 => ?_)
 refine RS.nm ?_
 replace hE := Ext.tr hE x2
 have zw2 := x2.size
 refine RS.asI rfl ?_
 refine nl J1 ?_
 refine wx fun _ J3 => ?_
 refine sq fun _ J4 => ?_
 refine RS.move (v := .string _) rfl ?_
 refine RS.o (D.lenStr rfl V9) ?_
 refine RS.o (D.gt rfl rfl) ?_
 refine nl J4 ?_
 refine C.ifd rfl (fun c5 => ?_) (fun c5 => ?_)
 ·have h1 := c5
  refine sq fun _ J6 => ?_
  refine RS.o (D.buildS T24 F24 (ps := []) rfl rfl) ?_
  refine RS.sa C24 B2 (fun w7 y7 N7 => ?_)
  replace hE := hE.trans (y7.belo)
  have zw7 := y7.size
  replace B2 := N7
  refine RS.asI rfl ?_
  refine nl J6 ?_
  refine wp_ret ?_
  refine retAI V24 C24 B2 4 ?_
  exact ⟨_, rfl, hE, _, _, _, rfl, .inr ⟨fun h => by have := h.1; omega, rfl, rfl⟩⟩
 have h1 := c5
 refine wp_skip ?_
 refine J3 _ _ ?_
 refine wx fun _ J8 => ?_
 refine sq fun _ J9 => ?_
 refine RS.move (v := .string _) rfl ?_
 refine RS.call E214 (Index32 _ _) rfl (fun v10 w10 x10 A10 => ?_)
 replace hE := Ext.tr hE x10
 replace B2 := B2.ext x10
 have zw10 := x10.size
 obtain ⟨j, rfl, hj⟩ := A10
 refine RS.nm ?_
 refine RS.o (D.ge rfl rfl) ?_
 refine nl J9 ?_
 refine C.ifd rfl (fun c11 => ?_) (fun c11 => ?_)
 ·have h2 := c11
  refine sq fun _ J12 => ?_
  refine RS.o (D.buildS T24 F24 (ps := []) rfl rfl) ?_
  refine RS.sa C24 B2 (fun w13 y13 N13 => ?_)
  replace hE := hE.trans (y13.belo)
  have zw13 := y13.size
  replace B2 := N13
  refine RS.asI rfl ?_
  refine nl J12 ?_
  refine wp_ret ?_
  refine retAI V24 C24 B2 4 ?_
  exact ⟨_, rfl, hE, _, _, _, rfl, .inr ⟨fun h => by have := hj.2 h.2; omega, rfl, rfl⟩⟩
 have h2 := c11
 refine wp_skip ?_
 refine J8 _ _ ?_
 refine sq fun _ J14 => ?_
 refine RS.move (v := .string _) rfl ?_
 refine RS.o (D.buildS T24 F24 (ps := [(0, .int _ _), (3, .string _)]) rfl rfl) ?_
 refine RS.sa C24 B2 (fun w15 y15 N15 => ?_)
 replace hE := hE.trans (y15.belo)
 have zw15 := y15.size
 replace B2 := N15
 refine RS.asI rfl ?_
 refine nl J14 ?_
 refine wp_ret ?_
 refine retAI V24 C24 B2 4 ?_
 exact ⟨_, rfl, hE, _, _, _, rfl, .inl ⟨⟨by omega, hj.1 (by omega)⟩, rfl, rfl, rfl⟩⟩
theorem C2 : Tryz.prog.cellsOf 2 = 1 := by kernel_rfl
theorem C9 : Tryz.prog.cellsOf 9 = 1 := by kernel_rfl
theorem C22 : Tryz.prog.cellsOf 22 = 1 := by kernel_rfl
theorem E86 : Enters Tryz.prog 86 := .mk Tryz.func86 (by kernel_rfl) rfl
theorem E158 : Enters Tryz.prog 158 := .mk Tryz.func158 (by kernel_rfl) rfl
theorem E159 : Enters Tryz.prog 159 := .mk Tryz.func159 (by kernel_rfl) rfl
theorem E160 : Enters Tryz.prog 160 := .mk Tryz.func160 (by kernel_rfl) rfl
theorem E228 : Enters Tryz.prog 228 := .mk Tryz.func228 (by kernel_rfl) rfl
theorem E241 : Enters Tryz.prog 241 := .mk Tryz.func241 (by kernel_rfl) rfl
theorem E268 : Enters Tryz.prog 268 := .mk Tryz.func268 (by kernel_rfl) rfl
theorem E277 : Enters Tryz.prog 277 := .mk Tryz.func277 (by kernel_rfl) rfl
theorem E289 : Enters Tryz.prog 289 := .mk Tryz.func289 (by kernel_rfl) rfl
theorem E290 : Enters Tryz.prog 290 := .mk Tryz.func290 (by kernel_rfl) rfl
theorem checkV (k num bits : Int) (t : ByteArray) (hk : 0 ≤ k ∧ k < 256) (hnum : -9223372036854775808 ≤ num ∧ num ≤ 9223372036854775807) (hb : 0 ≤ bits ∧ bits < 18446744073709551616) (w : World) :
  Calls Tryz.prog 86 #[.agg ([.int .u8 k, .int .i64 num, .int .u64 bits, .string t] : List Value).toArray] w (Ret w fun v _ => v = .int .i64 (S.valE k num bits t)) := by
 have hE := Ext.refl w
 refine enterU 31 Tryz.func86 rfl rfl ?_
 refine sq fun _ J1 => ?_
 refine RS.box rfl rfl (fun b2 w2 e2 s2 x2 B2 => ?_)
 refine RS.nm ?_
 replace hE := Ext.tr hE x2
 have zw2 := x2.size
 refine RS.asI rfl ?_
 refine nl J1 (sq fun _ J3 => ?_)
 refine RS.alloc T24 (fun b4 w4 e4 s4 x4 B4 => ?_)
 refine RS.nm ?_
 replace hE := Ext.tr hE x4
 replace B2 := B2.ext x4
 have zw4 := x4.size
 refine nl J3 ?_
 refine wx fun _ J5 => ?_
 refine sq fun _ J6 => ?_
 refine RS.fl 0 V24 rfl C5 ?_
 refine RS.ld V5 B2 ?_
 refine nl J6 ?_
 refine wp_block ?_
 refine sq fun _ J7 => ?_
 refine RS.o (D.eq rfl rfl) ?_
 refine RS.asB rfl ?_
 refine nl J7 ?_
 refine C.ife rfl (fun c8 => ?_) (fun c8 => ?_)
 ·refine region ?_
  refine RS.fl 1 V24 rfl C2 ?_
  refine RS.ld V2 B2 ?_
  refine RS.call E158 (numberV _ _) rfl (fun v9 w9 x9 A9 => ?_)
  replace hE := Ext.tr hE x9
  replace B2 := B2.ext x9
  replace B4 := B4.ext x9
  have zw9 := x9.size
  subst A9
  refine RS.nm ?_
  refine RS.sa C24 B4 (fun w10 y10 N10 => ?_)
  replace hE := hE.trans (y10.belo)
  replace B2 := B2.sto y10
  have zw10 := y10.size
  replace B4 := N10
  refine nl J5 ?_
  refine wx fun _ J11 => ?_
  refine sq fun _ J12 => ?_
  refine RS.la V24 C24 B2 4 ?_
  refine RS.la V24 C24 B4 4 ?_
  refine RS.o (D.neA rfl rfl V24 rfl (by kernel_rfl) (by kernel_rfl) (by kernel_rfl)) ?_
  refine RS.mvB rfl ?_
  refine RS.splitb 27 rfl rfl (fun c13 => ?_) (fun c13 => ?_)
  ·refine RS.nm ?_
   have hq := of_decide_eq_false ((S.eqV _ _ _ _ _ _ _ _).symm.trans (Eq.mp (Bool.not_eq_true' _) c13))
   refine RS.skT 27 ?_
   refine RS.skT 27 ?_
   refine RS.skT 27 ?_
   refine RS.pkt ?_
   refine nl J12 ?_
   refine C.ift rfl ?_
   refine sq fun _ J14 => ?_
   refine RS.asI rfl ?_
   refine nl J14 ?_
   refine wp_ret ?_
   refine retI rfl rfl ?_
   refine ⟨_, rfl, hE, congrArg (Value.int .i64) ?_⟩
   first | (refine S.valE_pos ?_; grind [S.FineV, S.TextOk]) | (refine S.valE_neg ?_; grind [S.FineV, S.TextOk])
  refine RS.nm ?_
  have hq := of_decide_eq_true ((S.eqV _ _ _ _ _ _ _ _).symm.trans (Eq.mp (Bool.not_eq_false' _) c13))
  refine RS.wt 27 ?_
  refine RS.fl 0 V24 rfl C5 ?_
  refine RS.wt 27 ?_
  refine RS.ld V5 B2 ?_
  refine RS.wt 27 ?_
  refine RS.o (D.eq rfl rfl) ?_
  refine RS.pk ?_
  refine nl J12 ?_
  refine C.ife rfl (fun c15 => ?_) (fun c15 => ?_)
  ·refine wx fun _ J16 => ?_
   refine region ?_
   refine RS.asI rfl ?_
   refine nl J16 ?_
   refine wp_ret ?_
   refine retI rfl rfl ?_
   refine ⟨_, rfl, hE, congrArg (Value.int .i64) ?_⟩
   first | (refine S.valE_pos ?_; grind [S.FineV, S.TextOk]) | (refine S.valE_neg ?_; grind [S.FineV, S.TextOk])
  refine wp_skip ?_
  refine J11 _ _ ?_
  refine sq fun _ J17 => ?_
  refine RS.asI rfl ?_
  refine nl J17 ?_
  refine wp_ret ?_
  refine retI rfl rfl ?_
  refine ⟨_, rfl, hE, congrArg (Value.int .i64) ?_⟩
  first | (refine S.valE_pos ?_; grind [S.FineV, S.TextOk]) | (refine S.valE_neg ?_; grind [S.FineV, S.TextOk])
 refine wx fun _ J18 => ?_
 refine region ?_
 refine RS.o (D.eq rfl rfl) ?_
 refine RS.asB rfl ?_
 refine nl J18 ?_
 refine C.ife rfl (fun c19 => ?_) (fun c19 => ?_)
 ·refine region ?_
  refine RS.fl 2 V24 rfl C22 ?_
  refine RS.ld V22 B2 ?_
  refine RS.call E159 (floatV _ (by omega) _) rfl (fun v20 w20 x20 A20 => ?_)
  replace hE := Ext.tr hE x20
  replace B2 := B2.ext x20
  replace B4 := B4.ext x20
  have zw20 := x20.size
  subst A20
  refine RS.nm ?_
  refine RS.sa C24 B4 (fun w21 y21 N21 => ?_)
  replace hE := hE.trans (y21.belo)
  replace B2 := B2.sto y21
  have zw21 := y21.size
  replace B4 := N21
  refine nl J5 ?_
  refine wx fun _ J22 => ?_
  refine sq fun _ J23 => ?_
  refine RS.la V24 C24 B2 4 ?_
  refine RS.la V24 C24 B4 4 ?_
  refine RS.o (D.neA rfl rfl V24 rfl (by kernel_rfl) (by kernel_rfl) (by kernel_rfl)) ?_
  refine RS.mvB rfl ?_
  refine RS.splitb 27 rfl rfl (fun c24 => ?_) (fun c24 => ?_)
  ·refine RS.nm ?_
   have hq := of_decide_eq_false ((S.eqV _ _ _ _ _ _ _ _).symm.trans (Eq.mp (Bool.not_eq_true' _) c24))
   refine RS.skT 27 ?_
   refine RS.skT 27 ?_
   refine RS.skT 27 ?_
   refine RS.pkt ?_
   refine nl J23 ?_
   refine C.ift rfl ?_
   refine sq fun _ J25 => ?_
   refine RS.asI rfl ?_
   refine nl J25 ?_
   refine wp_ret ?_
   refine retI rfl rfl ?_
   refine ⟨_, rfl, hE, congrArg (Value.int .i64) ?_⟩
   first | (refine S.valE_pos ?_; grind [S.FineV, S.TextOk]) | (refine S.valE_neg ?_; grind [S.FineV, S.TextOk])
  refine RS.nm ?_
  have hq := of_decide_eq_true ((S.eqV _ _ _ _ _ _ _ _).symm.trans (Eq.mp (Bool.not_eq_false' _) c24))
  refine RS.wt 27 ?_
  refine RS.fl 0 V24 rfl C5 ?_
  refine RS.wt 27 ?_
  refine RS.ld V5 B2 ?_
  refine RS.wt 27 ?_
  refine RS.o (D.eq rfl rfl) ?_
  refine RS.pk ?_
  refine nl J23 ?_
  refine C.ife rfl (fun c26 => ?_) (fun c26 => ?_)
  ·refine wx fun _ J27 => ?_
   refine region ?_
   refine RS.asI rfl ?_
   refine nl J27 ?_
   refine wp_ret ?_
   refine retI rfl rfl ?_
   refine ⟨_, rfl, hE, congrArg (Value.int .i64) ?_⟩
   first | (refine S.valE_pos ?_; grind [S.FineV, S.TextOk]) | (refine S.valE_neg ?_; grind [S.FineV, S.TextOk])
  refine wp_skip ?_
  refine J22 _ _ ?_
  refine sq fun _ J28 => ?_
  refine RS.asI rfl ?_
  refine nl J28 ?_
  refine wp_ret ?_
  refine retI rfl rfl ?_
  refine ⟨_, rfl, hE, congrArg (Value.int .i64) ?_⟩
  first | (refine S.valE_pos ?_; grind [S.FineV, S.TextOk]) | (refine S.valE_neg ?_; grind [S.FineV, S.TextOk])
 refine wx fun _ J29 => ?_
 refine region ?_
 refine RS.o (D.eq rfl rfl) ?_
 refine RS.asB rfl ?_
 refine nl J29 ?_
 refine C.ife rfl (fun c30 => ?_) (fun c30 => ?_)
 ·refine region ?_
  refine RS.fl 3 V24 rfl C9 ?_
  refine RS.ld V9 B2 ?_
  refine RS.call E160 (textV _ _) rfl (fun v31 w31 x31 A31 => ?_)
  replace hE := Ext.tr hE x31
  replace B2 := B2.ext x31
  replace B4 := B4.ext x31
  have zw31 := x31.size
  obtain ⟨k2, t2, e2, rfl, hT⟩ := A31
  refine RS.nm ?_
  refine RS.move (v := .tuple _) rfl ?_
  refine RS.exA ?_
  refine RS.exI ?_
  refine RS.sa C24 B4 (fun w32 y32 N32 => ?_)
  replace hE := hE.trans (y32.belo)
  replace B2 := B2.sto y32
  have zw32 := y32.size
  replace B4 := N32
  refine nl J5 ?_
  refine wx fun _ J33 => ?_
  refine sq fun _ J34 => ?_
  refine RS.la V24 C24 B2 4 ?_
  refine RS.la V24 C24 B4 4 ?_
  refine RS.o (D.neA rfl rfl V24 rfl (by kernel_rfl) (by kernel_rfl) (by kernel_rfl)) ?_
  refine RS.mvB rfl ?_
  refine RS.splitb 27 rfl rfl (fun c35 => ?_) (fun c35 => ?_)
  ·refine RS.nm ?_
   have hq := of_decide_eq_false ((S.eqV _ _ _ _ _ _ _ _).symm.trans (Eq.mp (Bool.not_eq_true' _) c35))
   refine RS.skT 27 ?_
   refine RS.skT 27 ?_
   refine RS.skT 27 ?_
   refine RS.pkt ?_
   refine nl J34 ?_
   refine C.ift rfl ?_
   refine sq fun _ J36 => ?_
   refine RS.asI rfl ?_
   refine nl J36 ?_
   refine wp_ret ?_
   refine retI rfl rfl ?_
   refine ⟨_, rfl, hE, congrArg (Value.int .i64) ?_⟩
   first | (refine S.valE_pos ?_; grind [S.FineV, S.TextOk]) | (refine S.valE_neg ?_; grind [S.FineV, S.TextOk])
  refine RS.nm ?_
  have hq := of_decide_eq_true ((S.eqV _ _ _ _ _ _ _ _).symm.trans (Eq.mp (Bool.not_eq_false' _) c35))
  refine RS.wt 27 ?_
  refine RS.fl 0 V24 rfl C5 ?_
  refine RS.wt 27 ?_
  refine RS.ld V5 B2 ?_
  refine RS.wt 27 ?_
  refine RS.o (D.eq rfl rfl) ?_
  refine RS.pk ?_
  refine nl J34 ?_
  refine C.ife rfl (fun c37 => ?_) (fun c37 => ?_)
  ·refine wx fun _ J38 => ?_
   refine region ?_
   refine RS.asI rfl ?_
   refine nl J38 ?_
   refine wp_ret ?_
   refine retI rfl rfl ?_
   refine ⟨_, rfl, hE, congrArg (Value.int .i64) ?_⟩
   first | (refine S.valE_pos ?_; grind [S.FineV, S.TextOk]) | (refine S.valE_neg ?_; grind [S.FineV, S.TextOk])
  refine wp_skip ?_
  refine J33 _ _ ?_
  refine sq fun _ J39 => ?_
  refine RS.asI rfl ?_
  refine nl J39 ?_
  refine wp_ret ?_
  refine retI rfl rfl ?_
  refine ⟨_, rfl, hE, congrArg (Value.int .i64) ?_⟩
  first | (refine S.valE_pos ?_; grind [S.FineV, S.TextOk]) | (refine S.valE_neg ?_; grind [S.FineV, S.TextOk])
 refine wp_skip ?_
 refine J5 _ _ ?_
 refine wx fun _ J40 => ?_
 refine sq fun _ J41 => ?_
 refine RS.la V24 C24 B2 4 ?_
 refine RS.la V24 C24 B4 4 ?_
 refine RS.o (D.neA rfl rfl V24 rfl (by kernel_rfl) (by kernel_rfl) (by kernel_rfl)) ?_
 refine RS.mvB rfl ?_
 refine RS.splitb 27 rfl rfl (fun c42 => ?_) (fun c42 => ?_)
 ·refine RS.nm ?_
  have hq := of_decide_eq_false ((S.eqV _ _ _ _ _ _ _ _).symm.trans (Eq.mp (Bool.not_eq_true' _) c42))
  refine RS.skT 27 ?_
  refine RS.skT 27 ?_
  refine RS.skT 27 ?_
  refine RS.pkt ?_
  refine nl J41 ?_
  refine C.ift rfl ?_
  refine sq fun _ J43 => ?_
  refine RS.asI rfl ?_
  refine nl J43 ?_
  refine wp_ret ?_
  refine retI rfl rfl ?_
  refine ⟨_, rfl, hE, congrArg (Value.int .i64) ?_⟩
  first | (refine S.valE_pos ?_; grind [S.FineV, S.TextOk]) | (refine S.valE_neg ?_; grind [S.FineV, S.TextOk])
 refine RS.nm ?_
 have hq := of_decide_eq_true ((S.eqV _ _ _ _ _ _ _ _).symm.trans (Eq.mp (Bool.not_eq_false' _) c42))
 refine RS.wt 27 ?_
 refine RS.fl 0 V24 rfl C5 ?_
 refine RS.wt 27 ?_
 refine RS.ld V5 B2 ?_
 refine RS.wt 27 ?_
 refine RS.o (D.eq rfl rfl) ?_
 refine RS.pk ?_
 refine nl J41 ?_
 refine C.ife rfl (fun c44 => ?_) (fun c44 => ?_)
 ·refine wx fun _ J45 => ?_
  refine region ?_
  refine RS.asI rfl ?_
  refine nl J45 ?_
  refine wp_ret ?_
  refine retI rfl rfl ?_
  refine ⟨_, rfl, hE, congrArg (Value.int .i64) ?_⟩
  first | (refine S.valE_pos ?_; grind [S.FineV, S.TextOk]) | (refine S.valE_neg ?_; grind [S.FineV, S.TextOk])
 refine wp_skip ?_
 refine J40 _ _ ?_
 refine sq fun _ J46 => ?_
 refine RS.asI rfl ?_
 refine nl J46 ?_
 refine wp_ret ?_
 refine retI rfl rfl ?_
 refine ⟨_, rfl, hE, congrArg (Value.int .i64) ?_⟩
 first | (refine S.valE_pos ?_; grind [S.FineV, S.TextOk]) | (refine S.valE_neg ?_; grind [S.FineV, S.TextOk])
theorem checkR (k num bits : Int) (t : ByteArray) (hk : 0 ≤ k ∧ k < 256) (hnum : -9223372036854775808 ≤ num ∧ num ≤ 9223372036854775807) (hb : 0 ≤ bits ∧ bits < 18446744073709551616) (hs : t.size ≤ 1000000) (w : World) :
  Calls Tryz.prog 265 #[.agg ([.int .u8 k, .int .i64 num, .int .u64 bits, .string t] : List Value).toArray] w (Ret w fun v _ => v = .int .i64 (S.valE k num bits t)) := by
 have hE := Ext.refl w
 refine enterU 53 Tryz.func265 rfl rfl ?_
 refine sq fun _ J1 => ?_
 refine RS.box rfl rfl (fun b2 w2 e2 s2 x2 B2 => ?_)
 refine RS.nm ?_
 replace hE := Ext.tr hE x2
 have zw2 := x2.size
 refine RS.asI rfl ?_
 refine nl J1 ?_
 refine wx fun _ J3 => ?_
 refine sq fun _ J4 => ?_
 refine RS.fl 0 V24 rfl C5 ?_
 refine RS.ld V5 B2 ?_
 refine nl J4 ?_
 refine wp_block ?_
 refine sq fun _ J5 => ?_
 refine RS.o (D.eq rfl rfl) ?_
 refine RS.asB rfl ?_
 refine nl J5 ?_
 refine C.ife rfl (fun c6 => ?_) (fun c6 => ?_)
 ·refine wx fun _ J7 => ?_
  refine region ?_
  refine RS.fl 2 V24 rfl C22 ?_
  refine RS.ld V22 B2 ?_
  refine RS.o (D.eq rfl rfl) ?_
  refine RS.mvB rfl ?_
  refine RS.splite 10 rfl rfl (fun c8 => ?_) (fun c8 => ?_)
  ·refine RS.nm ?_
   refine RS.wt 10 ?_
   refine RS.fl 3 V24 rfl C9 ?_
   refine RS.wt 10 ?_
   refine RS.ld V9 B2 ?_
   refine RS.wt 10 ?_
   refine RS.o (D.seq rfl rfl) ?_
   refine RS.pk ?_
   refine nl J7 ?_
   refine C.ifb rfl (fun c9 => ?_) (fun c9 => ?_)
   ·have ht1 : t = ByteArray.empty := of_decide_eq_true ((strEq _ _).symm.trans c9)
    refine sq fun _ J10 => ?_
    refine RS.asI rfl ?_
    refine nl J10 ?_
    refine wp_ret ?_
    refine retI rfl rfl ?_
    refine ⟨_, rfl, hE, congrArg (Value.int .i64) ?_⟩
    first | (refine S.valE_pos ?_; grind [S.FineV, S.TextOk]) | (refine S.valE_neg ?_; grind [S.FineV, S.TextOk])
   have ht1 : t ≠ ByteArray.empty := of_decide_eq_false ((strEq _ _).symm.trans c9)
   refine wp_skip ?_
   refine J3 _ _ ?_
   refine sq fun _ J11 => ?_
   refine RS.asI rfl ?_
   refine nl J11 ?_
   refine wp_ret ?_
   refine retI rfl rfl ?_
   refine ⟨_, rfl, hE, congrArg (Value.int .i64) ?_⟩
   first | (refine S.valE_pos ?_; grind [S.FineV, S.TextOk]) | (refine S.valE_neg ?_; grind [S.FineV, S.TextOk])
  refine RS.nm ?_
  refine RS.skF 10 ?_
  refine RS.skF 10 ?_
  refine RS.skF 10 ?_
  refine RS.pkf ?_
  refine nl J7 ?_
  refine C.iff rfl ?_
  refine wp_skip ?_
  refine J3 _ _ ?_
  refine sq fun _ J12 => ?_
  refine RS.asI rfl ?_
  refine nl J12 ?_
  refine wp_ret ?_
  refine retI rfl rfl ?_
  refine ⟨_, rfl, hE, congrArg (Value.int .i64) ?_⟩
  first | (refine S.valE_pos ?_; grind [S.FineV, S.TextOk]) | (refine S.valE_neg ?_; grind [S.FineV, S.TextOk])
 refine wx fun _ J13 => ?_
 refine region ?_
 refine RS.o (D.eq rfl rfl) ?_
 refine RS.asB rfl ?_
 refine nl J13 ?_
 refine C.ife rfl (fun c14 => ?_) (fun c14 => ?_)
 ·refine wx fun _ J15 => ?_
  refine regionX Ext [(0, .q), (1, .q), (2, .q), (3, .q), (4, .q), (5, .q), (6, .q), (7, .q), (8, .q), (9, .q), (10, .q), (12, .q), (13, .q), (11, .e), (14, .q), (15, .q)] mixed Ext.refl (fun h k => h.tr k) (by kernel_rfl) (fun w16 x16 => ?_)
  replace hE := Ext.tr hE x16
  replace B2 := B2.ext x16
  have zw16 := x16.size
  refine RX.fl 1 V24 rfl C2 ?_
  refine RX.o (fun w' hw => D.load rfl V2 rfl ((B2.ext hw).cell rfl)) ?_
  refine RX.o (fun w' hw => D.eq rfl rfl) ?_
  refine RX.mvB rfl ?_
  refine RX.splite 20 rfl rfl (fun c17 => ?_) (fun c17 => ?_)
  ·refine RX.nm ?_
   refine RX.wt 20 ?_
   refine RX.fl 3 V24 rfl C9 ?_
   refine RX.wt 20 ?_
   refine RX.o (fun w' hw => D.load rfl V9 rfl ((B2.ext hw).cell rfl)) ?_
   refine RX.wt 20 ?_
   refine RX.o (fun w' hw => D.seq rfl rfl) ?_
   refine RX.pick (v := .bool _) rfl rfl ?_
   refine RX.mvB rfl ?_
   refine RX.splitb 25 rfl rfl (fun c18 => ?_) (fun c18 => ?_)
   ·refine RX.nm ?_
    have ht2 : t = ByteArray.empty := of_decide_eq_true ((strEq _ _).symm.trans c18)
    refine RX.wt 25 ?_
    refine RX.fl 2 V24 rfl C22 ?_
    refine RX.wt 25 ?_
    refine RX.o (fun w' hw => D.load rfl V22 rfl ((B2.ext hw).cell rfl)) ?_
    refine RX.wt 25 ?_
    refine RX.fl 2 V24 rfl C22 ?_
    refine RX.wt 25 ?_
    refine RX.o (fun w' hw => D.load rfl V22 rfl ((B2.ext hw).cell rfl)) ?_
    refine RX.wt 25 ?_
    refine RX.eff ?_
    refine RS.call E289 (canonR _ (by omega) _) rfl (fun v19 w19 x19 A19 => ?_)
    replace hE := Ext.tr hE x19
    replace B2 := B2.ext x19
    have zw19 := x19.size
    subst A19
    refine RS.nm ?_
    refine RS.nil ⟨x19, ?_⟩
    refine RX.wt 25 ?_
    refine RX.o (fun w' hw => D.eq rfl rfl) ?_
    refine RX.pick (v := .bool _) rfl rfl ?_
    refine RX.nil (J15 _ _ ?_)
    refine C.ife rfl (fun c20 => ?_) (fun c20 => ?_)
    ·refine wx fun _ J21 => ?_
     refine region ?_
     refine RS.asI rfl ?_
     refine nl J21 ?_
     refine wp_ret ?_
     refine retI rfl rfl ?_
     refine ⟨_, rfl, hE, congrArg (Value.int .i64) ?_⟩
     first | (refine S.valE_pos ?_; grind [S.FineV, S.TextOk]) | (refine S.valE_neg ?_; grind [S.FineV, S.TextOk])
    refine wp_skip ?_
    refine J3 _ _ ?_
    refine sq fun _ J22 => ?_
    refine RS.asI rfl ?_
    refine nl J22 ?_
    refine wp_ret ?_
    refine retI rfl rfl ?_
    refine ⟨_, rfl, hE, congrArg (Value.int .i64) ?_⟩
    first | (refine S.valE_pos ?_; grind [S.FineV, S.TextOk]) | (refine S.valE_neg ?_; grind [S.FineV, S.TextOk])
   refine RX.nm ?_
   have ht2 : t ≠ ByteArray.empty := of_decide_eq_false ((strEq _ _).symm.trans c18)
   refine RX.skF 25 ?_
   refine RX.skF 25 ?_
   refine RX.skF 25 ?_
   refine RX.skF 25 ?_
   refine RX.skF 25 ?_
   refine RX.skF 25 ?_
   refine RX.pick (v := .bool false) rfl rfl ?_
   refine RX.nil (J15 _ _ ?_)
   refine C.iff rfl ?_
   refine wp_skip ?_
   refine J3 _ _ ?_
   refine sq fun _ J23 => ?_
   refine RS.asI rfl ?_
   refine nl J23 ?_
   refine wp_ret ?_
   refine retI rfl rfl ?_
   refine ⟨_, rfl, hE, congrArg (Value.int .i64) ?_⟩
   first | (refine S.valE_pos ?_; grind [S.FineV, S.TextOk]) | (refine S.valE_neg ?_; grind [S.FineV, S.TextOk])
  refine RX.nm ?_
  refine RX.skF 20 ?_
  refine RX.skF 20 ?_
  refine RX.skF 20 ?_
  refine RX.pick (v := .bool false) rfl rfl ?_
  refine RX.mvB rfl ?_
  refine RX.skF 25 ?_
  refine RX.skF 25 ?_
  refine RX.skF 25 ?_
  refine RX.skF 25 ?_
  refine RX.skF 25 ?_
  refine RX.skF 25 ?_
  refine RX.pick (v := .bool false) rfl rfl ?_
  refine RX.nil (J15 _ _ ?_)
  refine C.iff rfl ?_
  refine wp_skip ?_
  refine J3 _ _ ?_
  refine sq fun _ J24 => ?_
  refine RS.asI rfl ?_
  refine nl J24 ?_
  refine wp_ret ?_
  refine retI rfl rfl ?_
  refine ⟨_, rfl, hE, congrArg (Value.int .i64) ?_⟩
  first | (refine S.valE_pos ?_; grind [S.FineV, S.TextOk]) | (refine S.valE_neg ?_; grind [S.FineV, S.TextOk])
 refine wx fun _ J25 => ?_
 refine region ?_
 refine RS.o (D.eq rfl rfl) ?_
 refine RS.asB rfl ?_
 refine nl J25 ?_
 refine C.ife rfl (fun c26 => ?_) (fun c26 => ?_)
 ·refine wx fun _ J27 => ?_
  refine region ?_
  refine RS.fl 1 V24 rfl C2 ?_
  refine RS.ld V2 B2 ?_
  refine RS.o (D.eq rfl rfl) ?_
  refine RS.mvB rfl ?_
  refine RS.splite 38 rfl rfl (fun c28 => ?_) (fun c28 => ?_)
  ·refine RS.nm ?_
   refine RS.wt 38 ?_
   refine RS.fl 2 V24 rfl C22 ?_
   refine RS.wt 38 ?_
   refine RS.ld V22 B2 ?_
   refine RS.wt 38 ?_
   refine RS.o (D.eq rfl rfl) ?_
   refine RS.pk ?_
   refine RS.mvB rfl ?_
   refine RS.splite 43 rfl rfl (fun c29 => ?_) (fun c29 => ?_)
   ·refine RS.nm ?_
    refine RS.wt 43 ?_
    refine RS.fl 3 V24 rfl C9 ?_
    refine RS.wt 43 ?_
    refine RS.ld V9 B2 ?_
    refine RS.wt 43 ?_
    refine RS.o (D.lenStr rfl V9) ?_
    refine RS.wt 43 ?_
    refine RS.o (D.le rfl rfl) ?_
    refine RS.pk ?_
    refine RS.mvB rfl ?_
    refine RS.splitd 49 rfl rfl (fun c30 => ?_) (fun c30 => ?_)
    ·refine RS.nm ?_
     refine RS.wt 49 ?_
     refine RS.fl 3 V24 rfl C9 ?_
     refine RS.wt 49 ?_
     refine RS.ld V9 B2 ?_
     refine RS.wt 49 ?_
     refine RS.call E290 (printable _ hs _) rfl (fun v31 w31 x31 A31 => ?_)
     replace hE := Ext.tr hE x31
     replace B2 := B2.ext x31
     have zw31 := x31.size
     subst A31
     refine RS.nm ?_
     refine RS.pk ?_
     refine nl J27 ?_
     refine C.ifb rfl (fun c32 => ?_) (fun c32 => ?_)
     ·have hp := of_decide_eq_true c32
      refine sq fun _ J33 => ?_
      refine RS.asI rfl ?_
      refine nl J33 ?_
      refine wp_ret ?_
      refine retI rfl rfl ?_
      refine ⟨_, rfl, hE, congrArg (Value.int .i64) ?_⟩
      first | (refine S.valE_pos ?_; grind [S.FineV, S.TextOk]) | (refine S.valE_neg ?_; grind [S.FineV, S.TextOk])
     have hp := of_decide_eq_false c32
     refine wp_skip ?_
     refine J3 _ _ ?_
     refine sq fun _ J34 => ?_
     refine RS.asI rfl ?_
     refine nl J34 ?_
     refine wp_ret ?_
     refine retI rfl rfl ?_
     refine ⟨_, rfl, hE, congrArg (Value.int .i64) ?_⟩
     first | (refine S.valE_pos ?_; grind [S.FineV, S.TextOk]) | (refine S.valE_neg ?_; grind [S.FineV, S.TextOk])
    refine RS.nm ?_
    refine RS.skF 49 ?_
    refine RS.skF 49 ?_
    refine RS.skF 49 ?_
    refine RS.pkf ?_
    refine nl J27 ?_
    refine C.iff rfl ?_
    refine wp_skip ?_
    refine J3 _ _ ?_
    refine sq fun _ J35 => ?_
    refine RS.asI rfl ?_
    refine nl J35 ?_
    refine wp_ret ?_
    refine retI rfl rfl ?_
    refine ⟨_, rfl, hE, congrArg (Value.int .i64) ?_⟩
    first | (refine S.valE_pos ?_; grind [S.FineV, S.TextOk]) | (refine S.valE_neg ?_; grind [S.FineV, S.TextOk])
   refine RS.nm ?_
   refine RS.skF 43 ?_
   refine RS.skF 43 ?_
   refine RS.skF 43 ?_
   refine RS.skF 43 ?_
   refine RS.pkf ?_
   refine RS.mvB rfl ?_
   refine RS.skF 49 ?_
   refine RS.skF 49 ?_
   refine RS.skF 49 ?_
   refine RS.pkf ?_
   refine nl J27 ?_
   refine C.iff rfl ?_
   refine wp_skip ?_
   refine J3 _ _ ?_
   refine sq fun _ J36 => ?_
   refine RS.asI rfl ?_
   refine nl J36 ?_
   refine wp_ret ?_
   refine retI rfl rfl ?_
   refine ⟨_, rfl, hE, congrArg (Value.int .i64) ?_⟩
   first | (refine S.valE_pos ?_; grind [S.FineV, S.TextOk]) | (refine S.valE_neg ?_; grind [S.FineV, S.TextOk])
  refine RS.nm ?_
  refine RS.skF 38 ?_
  refine RS.skF 38 ?_
  refine RS.skF 38 ?_
  refine RS.pkf ?_
  refine RS.mvB rfl ?_
  refine RS.skF 43 ?_
  refine RS.skF 43 ?_
  refine RS.skF 43 ?_
  refine RS.skF 43 ?_
  refine RS.pkf ?_
  refine RS.mvB rfl ?_
  refine RS.skF 49 ?_
  refine RS.skF 49 ?_
  refine RS.skF 49 ?_
  refine RS.pkf ?_
  refine nl J27 ?_
  refine C.iff rfl ?_
  refine wp_skip ?_
  refine J3 _ _ ?_
  refine sq fun _ J37 => ?_
  refine RS.asI rfl ?_
  refine nl J37 ?_
  refine wp_ret ?_
  refine retI rfl rfl ?_
  refine ⟨_, rfl, hE, congrArg (Value.int .i64) ?_⟩
  first | (refine S.valE_pos ?_; grind [S.FineV, S.TextOk]) | (refine S.valE_neg ?_; grind [S.FineV, S.TextOk])
 refine wp_skip ?_
 refine J3 _ _ ?_
 refine sq fun _ J38 => ?_
 refine RS.asI rfl ?_
 refine nl J38 ?_
 refine wp_ret ?_
 refine retI rfl rfl ?_
 refine ⟨_, rfl, hE, congrArg (Value.int .i64) ?_⟩
 first | (refine S.valE_pos ?_; grind [S.FineV, S.TextOk]) | (refine S.valE_neg ?_; grind [S.FineV, S.TextOk])
theorem encV (k num bits : Int) (t : ByteArray) (hk : 0 ≤ k ∧ k < 256) (hnum : -9223372036854775808 ≤ num ∧ num ≤ 9223372036854775807) (hb : 0 ≤ bits ∧ bits < 18446744073709551616) (hF : S.FineV k num bits t) (hs : t.size ≤ 1000) (w : World) :
  Calls Tryz.prog 242 #[.agg ([.int .u8 k, .int .i64 num, .int .u64 bits, .string t] : List Value).toArray] w (Ret w fun v w' => ∃ a' n' c', v = .tuple #[.slice a' n' c', .int .i64 0] ∧ IOwn w.heap.size w' 5 .u8 a' n' c' (S.valS k num bits t)) := by
 have hk3 : k = 1 ∨ k = 2 ∨ k = 3 := by rcases hF with h | h | h <;> simp [h.1]
 have hE := Ext.refl w
 refine enterU 52 Tryz.func242 rfl rfl ?_
 refine sq fun _ J1 => ?_
 refine RS.box rfl rfl (fun b2 w2 e2 s2 x2 B2 => ?_)
 refine RS.nm ?_
 replace hE := Ext.tr hE x2
 have zw2 := x2.size
 refine RS.asS rfl ?_
 refine RS.asI rfl ?_
 refine nl J1 ?_
 refine wx fun _ J3 => ?_
 refine sq fun _ J4 => ?_
 refine RS.la V24 C24 B2 4 ?_
 refine RS.call E86 (checkV _ _ _ _ hk hnum hb _) rfl (fun v5 w5 x5 A5 => ?_)
 replace hE := Ext.tr hE x5
 replace B2 := B2.ext x5
 have zw5 := x5.size
 subst A5
 rw [← S.valE_pos hF]
 refine RS.nm ?_
 refine RS.asI rfl ?_
 refine nl J4 (sq fun _ J6 => ?_)
 refine RS.mvI rfl ?_
 refine RS.o (D.ne rfl rfl) ?_
 refine nl J6 ?_
 refine C.ifn rfl (fun c7 => ?_) (fun c7 => ?_)
 ·exact absurd rfl c7
 refine wp_skip ?_
 refine J3 _ _ ?_
 refine sq fun _ J8 => ?_
 refine RS.fl 0 V24 rfl C5 ?_
 refine RS.ld V5 B2 ?_
 refine RS.buildSlice (xs := [.tmp 15]) (vs := [.int _ _]) (cs := [.int _ _]) V51 T5 (by decide) rfl rfl rfl rfl rfl rfl (by intro v hv; simp only [List.mem_cons, List.not_mem_nil, or_false] at hv; subst hv; rfl) rfl (fun b9 w9 e9 s9 x9 B9 => ?_)
 refine RS.nm ?_
 replace hE := Ext.tr hE x9
 replace B2 := B2.ext x9
 have zw9 := x9.size
 have O1 : IOwn w5.heap.size w9 5 .u8 (some ⟨b9, 0, none⟩) 1 1 [_] := IOwn.of_blk B9 rfl rfl (by omega) (.cons (by simp only [lim]; omega) (.nil _)) (by decide)
 refine RS.asS rfl ?_
 refine nl J8 ?_
 refine wx fun _ J10 => ?_
 refine sq fun _ J11 => ?_
 refine RS.fl 0 V24 rfl C5 ?_
 refine RS.ld V5 B2 ?_
 refine nl J11 ?_
 refine wp_block ?_
 refine sq fun _ J12 => ?_
 refine RS.o (D.eq rfl rfl) ?_
 refine RS.asB rfl ?_
 refine nl J12 ?_
 refine C.ife rfl (fun c13 => ?_) (fun c13 => ?_)
 ·refine region ?_
  refine RS.mvS rfl ?_
  refine RS.fl 1 V24 rfl C2 ?_
  refine RS.ld V2 B2 ?_
  refine RS.call E277 (signedW _ hnum _) rfl (fun v14 w14 x14 A14 => ?_)
  replace hE := Ext.tr hE x14
  replace B2 := B2.ext x14
  replace O1 := O1.ext x14
  have zw14 := x14.size
  obtain ⟨a14, n14, c14, rfl, O2⟩ := A14
  have hnl := O2.len
  have hnb := S.numS_len (S.zig num)
  refine RS.nm ?_
  refine RS.appendI O1 O2.row rfl rfl V51 T5 rfl (by omega) (by decide) (by omega) (fun a15 c15 w15 N15 x15 => ?_)
  refine RS.nm ?_
  replace hE := hE.trans (x15.belQ (fun _ h => (O1.lo _ h).1))
  replace B2 := B2.prQ x15 (fun _ h => (O1.lo _ h).1)
  have zw15 := x15.size
  replace O1 := N15
  refine RS.asS rfl ?_
  refine nl J10 (sq fun _ J16 => ?_)
  refine RS.mvS rfl ?_
  refine RS.asS rfl ?_
  refine RS.asI rfl ?_
  refine nl J16 ?_
  refine wp_ret ?_
  refine retSI ?_
  have e9 : S.valS k num bits t = [k] ++ S.numS (S.zig num) := by unfold S.valS; rw [if_pos (by omega)]
  rw [e9]
  refine ⟨_, rfl, hE, _, _, _, rfl, O1.base (fun k hk => by have := O1.lo k hk; omega)⟩
 refine wx fun _ J17 => ?_
 refine region ?_
 refine RS.o (D.eq rfl rfl) ?_
 refine RS.asB rfl ?_
 refine nl J17 ?_
 refine C.ife rfl (fun c18 => ?_) (fun c18 => ?_)
 ·refine wx fun _ J19 => ?_
  refine region ?_
  refine RS.asI rfl ?_
  refine nl J19 ?_
  refine wp_block ?_
  refine C.loop (A := Int × Option Addr × Nat × Nat) (fun p => [(5, .slice p.2.1 p.2.2.1 p.2.2.2), (6, .int .i64 p.1)]) [28, 29, 30, 31, 32, 33, 34, 35, 36, 37, 38, 39] (fun p w' => Pr (fun k => w5.heap.size ≤ k) w9 w' ∧ ((-8 ≤ p.1 ∧ p.1 ≤ 56) ∧ p.1 % 8 = 0 ∧ IOwn w5.heap.size w' 5 .u8 p.2.1 p.2.2.1 p.2.2.2 ([k] ++ (S.be8 bits).take ((56 - p.1) / 8).toNat))) (fun p => (p.1 + 8).toNat) (56, some ⟨b9, 0, none⟩, 1, 1) (by kernel_rfl) ?_ ?_
  ·exact ⟨Pr.refl _ _, ⟨by dsimp only; omega, by dsimp only; omega⟩, by dsimp only; omega, by simpa using O1⟩
  rintro p j w20 ⟨x20, hI⟩
  replace hE := hE.trans (x20.belo)
  replace B2 := B2.pro x20
  have zw20 := x20.size
  obtain ⟨i, ao, no, co⟩ := p
  dsimp only at hI
  obtain ⟨h1, h2, O1⟩ := hI
  have hol := O1.len
  simp only [List.length_append, List.length_singleton, List.length_take, S.be8_len] at hol
  refine C.nmU ?_
  refine wx fun _ J21 => ?_
  refine sq fun _ J22 => ?_
  refine RS.mvI rfl ?_
  refine RS.o (D.ge rfl rfl) ?_
  refine nl J22 ?_
  refine C.ifd rfl (fun c23 => ?_) (fun c23 => ?_)
  ·refine wp_skip ?_
   refine J21 _ _ ?_
   refine wx fun _ J24 => ?_
   refine wp_block ?_
   refine region ?_
   refine RS.mvS rfl ?_
   refine RS.fl 2 V24 rfl C22 ?_
   refine RS.ld V22 B2 ?_
   refine RS.mvI rfl ?_
   refine RS.ob (D.shr_u64 rfl rfl (by omega) (by constructor <;> omega)) (fun z25 => ?_)
   refine RS.o (D.conv rfl V22 V5 (W.u8m _)) ?_
   refine RS.buildSlice (xs := [.tmp 37]) (vs := [.int _ _]) (cs := [.int _ _]) V51 T5 (by decide) rfl rfl rfl rfl rfl rfl (by intro v hv; simp only [List.mem_cons, List.not_mem_nil, or_false] at hv; subst hv; rfl) rfl (fun b26 w26 e26 s26 x26 B26 => ?_)
   refine RS.nm ?_
   replace hE := Ext.tr hE x26
   replace x20 := x20.ext x26
   replace B2 := B2.ext x26
   replace O1 := O1.ext x26
   have zw26 := x26.size
   have Q1 : IRow .u8 (fun k => k = b26) w26 (some ⟨b26, 0, none⟩) 1 [_] := IRow.of_blk B26 rfl rfl rfl (.cons (by simp only [lim]; omega) (.nil _))
   refine RS.appendI O1 Q1 rfl rfl V51 T5 rfl (by omega) (by decide) (by omega) (fun a27 c27 w27 N27 x27 => ?_)
   refine RS.nm ?_
   replace hE := hE.trans (x27.belQ (fun _ h => (O1.lo _ h).1))
   replace x20 := x20.prnQ x27 (fun _ h => (O1.lo _ h).1)
   replace B2 := B2.prQ x27 (fun _ h => (O1.lo _ h).1)
   have zw27 := x27.size
   replace O1 := N27
   refine RS.asS rfl ?_
   refine nl J24 ?_
   refine region ?_
   refine RS.mvI rfl ?_
   refine RS.o (D.sub rfl rfl (W.i64 (by omega))) ?_
   refine RS.asI rfl ?_
   refine RS.nil ?_
   change Nx _ _ _ _ _ _ _ _
   refine C.next (i - 8, _, _, _) ⟨rfl, rfl, trivial⟩ (by kernel_rfl) ?_ ?_
   ·refine ⟨x20, ⟨by dsimp only; omega, by dsimp only; omega⟩, by dsimp only; omega, ?_⟩
    dsimp only
    rw [S.be8_snoc _ _ (by omega) h2, ← List.append_assoc]
    exact O1
   dsimp only; omega
  have hneg := c23
  rw [show i = -8 by omega, show ((56 - (-8 : Int)) / 8).toNat = 8 from rfl, List.take_of_length_le (by rw [S.be8_len]; exact Nat.le_refl _)] at O1
  refine wp_exit ?_
  refine J10 _ _ ?_
  refine sq fun _ J28 => ?_
  refine RS.mvS rfl ?_
  refine RS.asS rfl ?_
  refine RS.asI rfl ?_
  refine nl J28 ?_
  refine wp_ret ?_
  refine retSI ?_
  have e9 : S.valS k num bits t = [k] ++ S.be8 bits := by unfold S.valS; rw [if_neg (by omega), if_pos (by omega)]
  rw [e9]
  refine ⟨_, rfl, hE, _, _, _, rfl, O1.base (fun k hk => by have := O1.lo k hk; omega)⟩
 refine wx fun _ J29 => ?_
 refine region ?_
 refine RS.o (D.eq rfl rfl) ?_
 refine RS.asB rfl ?_
 refine nl J29 ?_
 refine C.ife rfl (fun c30 => ?_) (fun c30 => ?_)
 ·refine wx fun _ J31 => ?_
  refine region ?_
  refine RS.fl 3 V24 rfl C9 ?_
  refine RS.ld V9 B2 ?_
  refine RS.convSB rfl V9 V51 V5 (fun a32 c32 w32 x32 g32 s32 R32 => ?_)
  refine RS.nm ?_
  replace hE := Ext.tr hE x32
  replace B2 := B2.ext x32
  replace O1 := O1.ext x32
  have zw32 := x32.size
  have RT := R32
  refine RS.call E241 (bytesW _ _ _ _ _ RT (by omega)) rfl (fun v33 w33 x33 A33 => ?_)
  replace hE := Ext.tr hE x33
  replace B2 := B2.ext x33
  replace O1 := O1.ext x33
  replace RT := RT.ext x33
  have zw33 := x33.size
  obtain ⟨a33, n33, c33, rfl, O2⟩ := A33
  have hnl := O2.len
  have hnb := S.numS_len (t.size : Int)
  rw [List.length_append, bys_len] at hnl
  refine RS.nm ?_
  refine RS.move (v := .tuple _) rfl ?_
  refine RS.exS ?_
  refine RS.exI ?_
  refine RS.asS rfl ?_
  refine RS.asI rfl ?_
  refine nl J31 ?_
  refine region ?_
  refine RS.mvS rfl ?_
  refine RS.mvS rfl ?_
  refine RS.appendI O1 O2.row rfl rfl V51 T5 rfl (by omega) (by decide) (by omega) (fun a34 c34 w34 N34 x34 => ?_)
  refine RS.nm ?_
  replace hE := hE.trans (x34.belQ (fun _ h => (O1.lo _ h).1))
  replace B2 := B2.prQ x34 (fun _ h => (O1.lo _ h).1)
  have zw34 := x34.size
  replace O1 := N34
  refine RS.asS rfl ?_
  refine nl J10 (sq fun _ J35 => ?_)
  refine RS.mvS rfl ?_
  refine RS.asS rfl ?_
  refine RS.asI rfl ?_
  refine nl J35 ?_
  refine wp_ret ?_
  refine retSI ?_
  have e9 : S.valS k num bits t = [k] ++ (S.numS t.size ++ bys t) := by unfold S.valS; rw [if_neg (by omega), if_neg (by omega), if_pos (by omega)]
  rw [e9]
  refine ⟨_, rfl, hE, _, _, _, rfl, O1.base (fun k hk => by have := O1.lo k hk; omega)⟩
 exfalso; omega
theorem valBytesR (k num bits : Int) (t : ByteArray) (hk : 0 ≤ k ∧ k < 256) (hnum : -9223372036854775808 ≤ num ∧ num ≤ 9223372036854775807) (hb : 0 ≤ bits ∧ bits < 18446744073709551616) (hF : S.FineV k num bits t) (hs : t.size ≤ 1000) (w : World) :
  Calls Tryz.prog 229 #[.agg ([.int .u8 k, .int .i64 num, .int .u64 bits, .string t] : List Value).toArray] w (Ret w fun v w' => ∃ a' n' c', v = .slice a' n' c' ∧ IOwn w.heap.size w' 5 .u8 a' n' c' (S.valS k num bits t)) := by
 have hk3 : k = 1 ∨ k = 2 ∨ k = 3 := by rcases hF with h | h | h <;> simp [h.1]
 have hE := Ext.refl w
 refine enterU 38 Tryz.func229 rfl rfl ?_
 refine sq fun _ J1 => ?_
 refine RS.box rfl rfl (fun b2 w2 e2 s2 x2 B2 => ?_)
 refine RS.nm ?_
 replace hE := Ext.tr hE x2
 have zw2 := x2.size
 refine RS.asS rfl ?_
 refine nl J1 (sq fun _ J3 => ?_)
 refine RS.fl 0 V24 rfl C5 ?_
 refine RS.ld V5 B2 ?_
 refine RS.buildSlice (xs := [.tmp 6]) (vs := [.int _ _]) (cs := [.int _ _]) V51 T5 (by decide) rfl rfl rfl rfl rfl rfl (by intro v hv; simp only [List.mem_cons, List.not_mem_nil, or_false] at hv; subst hv; rfl) rfl (fun b4 w4 e4 s4 x4 B4 => ?_)
 refine RS.nm ?_
 replace hE := Ext.tr hE x4
 replace B2 := B2.ext x4
 have zw4 := x4.size
 have O1 : IOwn w2.heap.size w4 5 .u8 (some ⟨b4, 0, none⟩) 1 1 [_] := IOwn.of_blk B4 rfl rfl (by omega) (.cons (by simp only [lim]; omega) (.nil _)) (by decide)
 refine RS.asS rfl ?_
 refine nl J3 ?_
 refine wx fun _ J5 => ?_
 refine sq fun _ J6 => ?_
 refine RS.fl 0 V24 rfl C5 ?_
 refine RS.ld V5 B2 ?_
 refine nl J6 ?_
 refine wp_block ?_
 refine sq fun _ J7 => ?_
 refine RS.o (D.eq rfl rfl) ?_
 refine RS.asB rfl ?_
 refine nl J7 ?_
 refine C.ife rfl (fun c8 => ?_) (fun c8 => ?_)
 ·refine wx fun _ J9 => ?_
  refine region ?_
  refine RS.mvS rfl ?_
  refine RS.fl 1 V24 rfl C2 ?_
  refine RS.ld V2 B2 ?_
  refine RS.call E268 (signedR _ hnum _) rfl (fun v10 w10 x10 A10 => ?_)
  replace hE := Ext.tr hE x10
  replace B2 := B2.ext x10
  replace O1 := O1.ext x10
  have zw10 := x10.size
  obtain ⟨a10, n10, c10, rfl, O2⟩ := A10
  have hnl := O2.len
  have hnb := S.numS_len (S.zig num)
  refine RS.nm ?_
  refine RS.appendI O1 O2.row rfl rfl V51 T5 rfl (by omega) (by decide) (by omega) (fun a11 c11 w11 N11 x11 => ?_)
  refine RS.nm ?_
  replace hE := hE.trans (x11.belQ (fun _ h => (O1.lo _ h).1))
  replace B2 := B2.prQ x11 (fun _ h => (O1.lo _ h).1)
  have zw11 := x11.size
  replace O1 := N11
  refine RS.asS rfl ?_
  refine nl J9 ?_
  refine wp_ret ?_
  refine retS ?_
  have e9 : S.valS k num bits t = [k] ++ S.numS (S.zig num) := by unfold S.valS; rw [if_pos (by omega)]
  rw [e9]
  refine ⟨_, rfl, hE, _, _, _, rfl, O1.base (fun k hk => by have := O1.lo k hk; omega)⟩
 refine wx fun _ J12 => ?_
 refine region ?_
 refine RS.o (D.eq rfl rfl) ?_
 refine RS.asB rfl ?_
 refine nl J12 ?_
 refine C.ife rfl (fun c13 => ?_) (fun c13 => ?_)
 ·refine wx fun _ J14 => ?_
  refine sq fun _ J15 => ?_
  refine RS.asI rfl ?_
  refine nl J15 ?_
  refine wp_block ?_
  refine C.loop (A := Int × Option Addr × Nat × Nat) (fun p => [(3, .slice p.2.1 p.2.2.1 p.2.2.2), (4, .int .i64 p.1)]) [19, 20, 21, 22, 23, 24, 25, 26, 27, 28, 29, 30, 31] (fun p w' => Pr (fun k => w2.heap.size ≤ k) w4 w' ∧ ((-1 ≤ p.1 ∧ p.1 ≤ 7) ∧ True ∧ IOwn w2.heap.size w' 5 .u8 p.2.1 p.2.2.1 p.2.2.2 ([k] ++ (S.be8 bits).take (7 - p.1).toNat))) (fun p => (p.1 + 8).toNat) (7, some ⟨b4, 0, none⟩, 1, 1) (by kernel_rfl) ?_ ?_
  ·exact ⟨Pr.refl _ _, ⟨by dsimp only; omega, by dsimp only; omega⟩, trivial, by simpa using O1⟩
  rintro p j w16 ⟨x16, hI⟩
  replace hE := hE.trans (x16.belo)
  replace B2 := B2.pro x16
  have zw16 := x16.size
  obtain ⟨i, ao, no, co⟩ := p
  dsimp only at hI
  obtain ⟨h1, h2, O1⟩ := hI
  have hol := O1.len
  simp only [List.length_append, List.length_singleton, List.length_take, S.be8_len] at hol
  refine C.nmU ?_
  refine wx fun _ J17 => ?_
  refine sq fun _ J18 => ?_
  refine RS.mvI rfl ?_
  refine RS.o (D.ge rfl rfl) ?_
  refine nl J18 ?_
  refine C.ifd rfl (fun c19 => ?_) (fun c19 => ?_)
  ·refine wp_skip ?_
   refine J17 _ _ ?_
   refine wx fun _ J20 => ?_
   refine wp_block ?_
   refine region ?_
   refine RS.mvS rfl ?_
   refine RS.fl 2 V24 rfl C22 ?_
   refine RS.ld V22 B2 ?_
   refine RS.mvI rfl ?_
   refine RS.o (D.mul rfl rfl (W.i64 (by omega))) ?_
   refine RS.ob (D.shr_u64 rfl rfl (by omega) (by constructor <;> omega)) (fun z21 => ?_)
   refine RS.o (D.conv rfl V22 V5 (W.u8m _)) ?_
   refine RS.buildSlice (xs := [.tmp 29]) (vs := [.int _ _]) (cs := [.int _ _]) V51 T5 (by decide) rfl rfl rfl rfl rfl rfl (by intro v hv; simp only [List.mem_cons, List.not_mem_nil, or_false] at hv; subst hv; rfl) rfl (fun b22 w22 e22 s22 x22 B22 => ?_)
   refine RS.nm ?_
   replace hE := Ext.tr hE x22
   replace x16 := x16.ext x22
   replace B2 := B2.ext x22
   replace O1 := O1.ext x22
   have zw22 := x22.size
   have Q1 : IRow .u8 (fun k => k = b22) w22 (some ⟨b22, 0, none⟩) 1 [_] := IRow.of_blk B22 rfl rfl rfl (.cons (by simp only [lim]; omega) (.nil _))
   refine RS.appendI O1 Q1 rfl rfl V51 T5 rfl (by omega) (by decide) (by omega) (fun a23 c23 w23 N23 x23 => ?_)
   refine RS.nm ?_
   replace hE := hE.trans (x23.belQ (fun _ h => (O1.lo _ h).1))
   replace x16 := x16.prnQ x23 (fun _ h => (O1.lo _ h).1)
   replace B2 := B2.prQ x23 (fun _ h => (O1.lo _ h).1)
   have zw23 := x23.size
   replace O1 := N23
   refine RS.asS rfl ?_
   refine nl J20 ?_
   refine region ?_
   refine RS.mvI rfl ?_
   refine RS.o (D.sub rfl rfl (W.i64 (by omega))) ?_
   refine RS.asI rfl ?_
   refine RS.nil ?_
   change Nx _ _ _ _ _ _ _ _
   refine C.next (i - 1, _, _, _) ⟨rfl, rfl, trivial⟩ (by kernel_rfl) ?_ ?_
   ·refine ⟨x16, ⟨by dsimp only; omega, by dsimp only; omega⟩, trivial, ?_⟩
    dsimp only
    rw [S.be8_snoc' _ _ (by omega), ← List.append_assoc]
    exact O1
   dsimp only; omega
  have hneg := c19
  rw [show i = -1 by omega, show (7 - (-1 : Int)).toNat = 8 from rfl, List.take_of_length_le (by rw [S.be8_len]; exact Nat.le_refl _)] at O1
  refine wp_exit ?_
  refine J14 _ _ ?_
  refine sq fun _ J24 => ?_
  refine RS.mvS rfl ?_
  refine RS.asS rfl ?_
  refine nl J24 ?_
  refine wp_ret ?_
  refine retS ?_
  have e9 : S.valS k num bits t = [k] ++ S.be8 bits := by unfold S.valS; rw [if_neg (by omega), if_pos (by omega)]
  rw [e9]
  refine ⟨_, rfl, hE, _, _, _, rfl, O1.base (fun k hk => by have := O1.lo k hk; omega)⟩
 refine wp_skip ?_
 refine J5 _ _ ?_
 refine sq fun _ J25 => ?_
 refine RS.mvS rfl ?_
 refine RS.fl 3 V24 rfl C9 ?_
 refine RS.ld V9 B2 ?_
 refine RS.convSB rfl V9 V51 V5 (fun a26 c26 w26 x26 g26 s26 R26 => ?_)
 refine RS.nm ?_
 replace hE := Ext.tr hE x26
 replace B2 := B2.ext x26
 replace O1 := O1.ext x26
 have zw26 := x26.size
 have RT := R26
 refine RS.call E228 (textR _ _ _ _ _ RT (by omega)) rfl (fun v27 w27 x27 A27 => ?_)
 replace hE := Ext.tr hE x27
 replace B2 := B2.ext x27
 replace O1 := O1.ext x27
 replace RT := RT.ext x27
 have zw27 := x27.size
 obtain ⟨a27, n27, c27, rfl, O2⟩ := A27
 have hnl := O2.len
 have hnb := S.numS_len (t.size : Int)
 rw [List.length_append, bys_len] at hnl
 refine RS.nm ?_
 refine RS.appendI O1 O2.row rfl rfl V51 T5 rfl (by omega) (by decide) (by omega) (fun a28 c28 w28 N28 x28 => ?_)
 refine RS.nm ?_
 replace hE := hE.trans (x28.belQ (fun _ h => (O1.lo _ h).1))
 replace B2 := B2.prQ x28 (fun _ h => (O1.lo _ h).1)
 have zw28 := x28.size
 replace O1 := N28
 refine RS.asS rfl ?_
 refine nl J25 ?_
 refine wp_ret ?_
 refine retS ?_
 have e9 : S.valS k num bits t = [k] ++ (S.numS t.size ++ bys t) := by unfold S.valS; rw [if_neg (by omega), if_neg (by omega), if_pos (by omega)]
 rw [e9]
 refine ⟨_, rfl, hE, _, _, _, rfl, O1.base (fun k hk => by have := O1.lo k hk; omega)⟩
end Go.Proofs.YtkmaenmhcgohbaaGreatDoor.W
