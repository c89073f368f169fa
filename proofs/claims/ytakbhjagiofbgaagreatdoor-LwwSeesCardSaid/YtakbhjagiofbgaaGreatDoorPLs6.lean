/-
  Part 6 of the lemmas of these laws: LwwSees.
-/
import Derived.Test.YtakbhjagiofbgaaGreatDoorPLs5
set_option linter.unusedSimpArgs false
namespace Go.Proofs.YtakbhjagiofbgaaGreatDoor.W
open Go.RowKit Go.Proofs.YtakbhjagiofbgaaGreatDoor.G
set_option linter.unusedVariables false
set_option maxRecDepth 20000
set_option maxHeartbeats 8000000
attribute [local irreducible] RS RX
theorem C40 : Tryz.prog.cellsOf 40 = 4 := by kernel_rfl
theorem T40 : TI Tryz.prog 40 4 40 [.int .u8 0, .int .i64 0, .int .u64 0, .string .empty] := by
 have h : (Tryz.prog.info? 40).map (fun i => (i.size, i.bytes, i.zero)) = some (4, 40, some (.agg #[.int .u8 0, .int .i64 0, .int .u64 0, .string .empty])) := by kernel_rfl
 exact TI.of h rfl
theorem F40 : SI Tryz.prog 40 [(0, 1), (1, 1), (2, 1), (3, 1)] := ⟨_, V40, by kernel_rfl, by kernel_rfl⟩
theorem E219 : Enters Tryz.prog 219 := .mk Tryz.func219 (by kernel_rfl) rfl
theorem E220 : Enters Tryz.prog 220 := .mk Tryz.func220 (by kernel_rfl) rfl
theorem E221 : Enters Tryz.prog 221 := .mk Tryz.func221 (by kernel_rfl) rfl
theorem E222 : Enters Tryz.prog 222 := .mk Tryz.func222 (by kernel_rfl) rfl
theorem E264 : Enters Tryz.prog 264 := .mk Tryz.func264 (by kernel_rfl) rfl
theorem E265 : Enters Tryz.prog 265 := .mk Tryz.func265 (by kernel_rfl) rfl
theorem E288 : Enters Tryz.prog 288 := .mk Tryz.func288 (by kernel_rfl) rfl
theorem E296 : Enters Tryz.prog 296 := .mk Tryz.func296 (by kernel_rfl) rfl
theorem E298 : Enters Tryz.prog 298 := .mk Tryz.func298 (by kernel_rfl) rfl
theorem E299 : Enters Tryz.prog 299 := .mk Tryz.func299 (by kernel_rfl) rfl
theorem rune33 (r : Int) (w : World) :
  Calls Tryz.prog 220 #[.int .i32 r] w (Ret w fun v _ => v = .bool (decide (r < 33 ∨ 126 < r))) := by
 have hE := Ext.refl w
 refine enterU 8 Tryz.func220 rfl rfl ?_
 refine sq fun _ J1 => ?_
 refine RS.asB rfl ?_
 refine nl J1 (sq fun _ J2 => ?_)
 refine RS.mvI rfl ?_
 refine RS.o (D.lt rfl rfl) ?_
 refine RS.mvB rfl ?_
 refine RS.splitd 5 rfl rfl (fun c3 => ?_) (fun c3 => ?_)
 ·refine RS.nm ?_
  refine RS.skT 5 ?_
  refine RS.skT 5 ?_
  refine RS.pkt ?_
  refine RS.asB rfl ?_
  refine nl J2 ?_
  refine wp_ret ?_
  refine retB rfl rfl ?_
  refine ⟨_, rfl, hE, congrArg Value.bool (decide_eq_true ?_).symm⟩
  omega
 refine RS.nm ?_
 refine RS.wt 5 ?_
 refine RS.mvI rfl ?_
 refine RS.wt 5 ?_
 refine RS.o (D.gt rfl rfl) ?_
 refine RS.pk ?_
 refine RS.asB rfl ?_
 refine nl J2 ?_
 refine wp_ret ?_
 refine retB rfl rfl ?_
 refine ⟨_, rfl, hE, congrArg Value.bool (decide_eq_decide.2 ?_)⟩
 omega
theorem index33 (s : ByteArray) (w : World) :
  Calls Tryz.prog 264 #[.string s, .func (.func 220) #[] #[], .bool true] w (Ret w fun v _ => ∃ j, v = .int .i64 j ∧ (j < 0 ↔ S.Asc 33 s)) := by
 have hE := Ext.refl w
 refine enterU 18 Tryz.func264 rfl rfl ?_
 refine sq fun _ J1 => ?_
 refine RS.asI rfl ?_
 refine nl J1 ?_
 refine wx fun _ J2 => ?_
 refine sq fun _ J3 => ?_
 refine RS.move (v := .string _) rfl ?_
 refine RS.range rfl V9 (fun b4 w4 e4 s4 x4 I4 => ?_)
 refine RS.nm ?_
 replace hE := Ext.tr hE x4
 have zw4 := x4.size
 refine nl J3 ?_
 refine wp_block ?_
 refine C.loop (A := Int) (fun p => []) [6, 7, 8, 11, 12, 13, 14, 15, 16, 17, 18, 19, 20] (fun p w' => Pr (fun k => k = b4) w4 w' ∧ ((0 ≤ p ∧ p ≤ s.size) ∧ It w' b4 s p.toNat ∧ (∀ j, j < p.toNat → 33 ≤ (bys s).getD j 0 ∧ (bys s).getD j 0 ≤ 126))) (fun p => (s.size - p.toNat)) 0 (by kernel_rfl) ?_ ?_
 ·exact ⟨Pr.refl _ _, ⟨by omega, by omega⟩, I4, fun j hj => by omega⟩
 rintro p j w5 ⟨x5, hI⟩
 replace hE := hE.trans (x5.belo)
 have zw5 := x5.size
 obtain ⟨h1, I4, h2⟩ := hI
 have hdc := S.dec_case s p.toNat
 refine C.nmU ?_
 refine sq fun _ J6 => ?_
 refine RS.next I4 rfl (fun c7 w7 y7 N7 => ?_) (fun c7 => ?_)
 ·refine RS.nm ?_
  replace hE := hE.trans (y7.belo)
  replace x5 := x5.stno y7
  have zw7 := y7.size
  replace I4 := N7
  have hp := c7
  refine RS.extract (v := .bool true) rfl rfl ?_
  refine nl J6 ?_
  refine wx fun _ J8 => ?_
  refine C.ift rfl ?_
  refine wp_skip ?_
  refine J8 _ _ ?_
  refine wp_block ?_
  refine sq fun _ J9 => ?_
  refine RS.exI ?_
  refine RS.exI ?_
  refine RS.asI rfl ?_
  refine RS.asI rfl ?_
  refine nl J9 (sq fun _ J10 => ?_)
  refine RS.move (v := .func _ _ _) rfl ?_
  refine RS.mvI rfl ?_
  refine RS.callv E220 (rune33 _ _) rfl rfl (fun e11 w11 A11 => ?_)
  obtain ⟨v11, rfl, x11, A11⟩ := A11
  refine ⟨_, rfl, ?_⟩
  replace hE := Ext.tr hE x11
  replace x5 := x5.ext x11
  replace I4 := I4.ext x11
  have zw11 := x11.size
  subst A11
  refine RS.nm ?_
  refine RS.mvB rfl ?_
  refine RS.o (D.eqB rfl rfl V4) ?_
  refine nl J10 ?_
  refine C.ifb rfl (fun c12 => ?_) (fun c12 => ?_)
  ·have hf := c12
   refine sq fun _ J13 => ?_
   refine RS.mvI rfl ?_
   refine RS.asI rfl ?_
   refine nl J13 ?_
   refine wp_ret ?_
   refine retI rfl rfl ?_
   have hd := hdc hp
   rw [beq_true] at hf
   have hf2 := of_decide_eq_true hf
   refine ⟨_, rfl, hE, _, rfl, ⟨fun h => by omega, fun h => ?_⟩⟩
   have := h p.toNat hp
   omega
  have hf := c12
  refine wp_skip ?_
  change Nx _ _ _ _ _ _ _ _
  refine C.next (p + 1) trivial (by kernel_rfl) ?_ ?_
  ·have hd := hdc hp
   rw [beq_true] at hf
   have hf2 := of_decide_eq_false hf
   have hw : (Utf8.decode s p.toNat).2 = 1 := by omega
   rw [hw] at I4
   refine ⟨x5, ⟨by omega, by omega⟩, ?_, fun j hj => ?_⟩
   ·rw [show (p + 1).toNat = p.toNat + 1 by omega]; exact I4
   by_cases hjp : j < p.toNat
   ·exact h2 j hjp
   obtain rfl : j = p.toNat := by omega
   omega
  omega
 refine RS.nm ?_
 have hp := c7
 refine RS.extract (v := .bool false) rfl rfl ?_
 refine nl J6 ?_
 refine wx fun _ J14 => ?_
 refine C.iff rfl ?_
 refine wp_exit ?_
 refine J2 _ _ ?_
 refine sq fun _ J15 => ?_
 refine RS.asI rfl ?_
 refine nl J15 ?_
 refine wp_ret ?_
 refine retI rfl rfl ?_
 refine ⟨_, rfl, hE, _, rfl, ⟨fun _ j hj => h2 j (by omega), fun _ => by decide⟩⟩
theorem Index33 (s : ByteArray) (w : World) :
  Calls Tryz.prog 219 #[.string s, .func (.func 220) #[] #[]] w (Ret w fun v _ => ∃ j, v = .int .i64 j ∧ (j < 0 ↔ S.Asc 33 s)) := by
 have hE := Ext.refl w
 refine enterU 6 Tryz.func219 rfl rfl ?_
 refine sq fun _ J1 => ?_
 refine RS.asI rfl ?_
 refine nl J1 (sq fun _ J2 => ?_)
 refine RS.move (v := .string _) rfl ?_
 refine RS.move (v := .func _ _ _) rfl ?_
 refine RS.call E264 (index33 _ _) rfl (fun v3 w3 x3 A3 => ?_)
 replace hE := Ext.tr hE x3
 have zw3 := x3.size
 obtain ⟨j, rfl, hj⟩ := A3
 refine RS.nm ?_
 refine RS.asI rfl ?_
 refine nl J2 ?_
 refine wp_ret ?_
 refine retI rfl rfl ?_
 exact ⟨_, rfl, hE, _, rfl, hj⟩
theorem rune32 (r : Int) (w : World) :
  Calls Tryz.prog 222 #[.int .i32 r] w (Ret w fun v _ => v = .bool (decide (r < 32 ∨ 126 < r))) := by
 have hE := Ext.refl w
 refine enterU 8 Tryz.func222 rfl rfl ?_
 refine sq fun _ J1 => ?_
 refine RS.asB rfl ?_
 refine nl J1 (sq fun _ J2 => ?_)
 refine RS.mvI rfl ?_
 refine RS.o (D.lt rfl rfl) ?_
 refine RS.mvB rfl ?_
 refine RS.splitd 5 rfl rfl (fun c3 => ?_) (fun c3 => ?_)
 ·refine RS.nm ?_
  refine RS.skT 5 ?_
  refine RS.skT 5 ?_
  refine RS.pkt ?_
  refine RS.asB rfl ?_
  refine nl J2 ?_
  refine wp_ret ?_
  refine retB rfl rfl ?_
  refine ⟨_, rfl, hE, congrArg Value.bool (decide_eq_true ?_).symm⟩
  omega
 refine RS.nm ?_
 refine RS.wt 5 ?_
 refine RS.mvI rfl ?_
 refine RS.wt 5 ?_
 refine RS.o (D.gt rfl rfl) ?_
 refine RS.pk ?_
 refine RS.asB rfl ?_
 refine nl J2 ?_
 refine wp_ret ?_
 refine retB rfl rfl ?_
 refine ⟨_, rfl, hE, congrArg Value.bool (decide_eq_decide.2 ?_)⟩
 omega
theorem index32 (s : ByteArray) (w : World) :
  Calls Tryz.prog 264 #[.string s, .func (.func 222) #[] #[], .bool true] w (Ret w fun v _ => ∃ j, v = .int .i64 j ∧ (j < 0 ↔ S.Asc 32 s)) := by
 have hE := Ext.refl w
 refine enterU 18 Tryz.func264 rfl rfl ?_
 refine sq fun _ J1 => ?_
 refine RS.asI rfl ?_
 refine nl J1 ?_
 refine wx fun _ J2 => ?_
 refine sq fun _ J3 => ?_
 refine RS.move (v := .string _) rfl ?_
 refine RS.range rfl V9 (fun b4 w4 e4 s4 x4 I4 => ?_)
 refine RS.nm ?_
 replace hE := Ext.tr hE x4
 have zw4 := x4.size
 refine nl J3 ?_
 refine wp_block ?_
 refine C.loop (A := Int) (fun p => []) [6, 7, 8, 11, 12, 13, 14, 15, 16, 17, 18, 19, 20] (fun p w' => Pr (fun k => k = b4) w4 w' ∧ ((0 ≤ p ∧ p ≤ s.size) ∧ It w' b4 s p.toNat ∧ (∀ j, j < p.toNat → 32 ≤ (bys s).getD j 0 ∧ (bys s).getD j 0 ≤ 126))) (fun p => (s.size - p.toNat)) 0 (by kernel_rfl) ?_ ?_
 ·exact ⟨Pr.refl _ _, ⟨by omega, by omega⟩, I4, fun j hj => by omega⟩
 rintro p j w5 ⟨x5, hI⟩
 replace hE := hE.trans (x5.belo)
 have zw5 := x5.size
 obtain ⟨h1, I4, h2⟩ := hI
 have hdc := S.dec_case s p.toNat
 refine C.nmU ?_
 refine sq fun _ J6 => ?_
 refine RS.next I4 rfl (fun c7 w7 y7 N7 => ?_) (fun c7 => ?_)
 ·refine RS.nm ?_
  replace hE := hE.trans (y7.belo)
  replace x5 := x5.stno y7
  have zw7 := y7.size
  replace I4 := N7
  have hp := c7
  refine RS.extract (v := .bool true) rfl rfl ?_
  refine nl J6 ?_
  refine wx fun _ J8 => ?_
  refine C.ift rfl ?_
  refine wp_skip ?_
  refine J8 _ _ ?_
  refine wp_block ?_
  refine sq fun _ J9 => ?_
  refine RS.exI ?_
  refine RS.exI ?_
  refine RS.asI rfl ?_
  refine RS.asI rfl ?_
  refine nl J9 (sq fun _ J10 => ?_)
  refine RS.move (v := .func _ _ _) rfl ?_
  refine RS.mvI rfl ?_
  refine RS.callv E222 (rune32 _ _) rfl rfl (fun e11 w11 A11 => ?_)
  obtain ⟨v11, rfl, x11, A11⟩ := A11
  refine ⟨_, rfl, ?_⟩
  replace hE := Ext.tr hE x11
  replace x5 := x5.ext x11
  replace I4 := I4.ext x11
  have zw11 := x11.size
  subst A11
  refine RS.nm ?_
  refine RS.mvB rfl ?_
  refine RS.o (D.eqB rfl rfl V4) ?_
  refine nl J10 ?_
  refine C.ifb rfl (fun c12 => ?_) (fun c12 => ?_)
  ·have hf := c12
   refine sq fun _ J13 => ?_
   refine RS.mvI rfl ?_
   refine RS.asI rfl ?_
   refine nl J13 ?_
   refine wp_ret ?_
   refine retI rfl rfl ?_
   have hd := hdc hp
   rw [beq_true] at hf
   have hf2 := of_decide_eq_true hf
   refine ⟨_, rfl, hE, _, rfl, ⟨fun h => by omega, fun h => ?_⟩⟩
   have := h p.toNat hp
   omega
  have hf := c12
  refine wp_skip ?_
  change Nx _ _ _ _ _ _ _ _
  refine C.next (p + 1) trivial (by kernel_rfl) ?_ ?_
  ·have hd := hdc hp
   rw [beq_true] at hf
   have hf2 := of_decide_eq_false hf
   have hw : (Utf8.decode s p.toNat).2 = 1 := by omega
   rw [hw] at I4
   refine ⟨x5, ⟨by omega, by omega⟩, ?_, fun j hj => ?_⟩
   ·rw [show (p + 1).toNat = p.toNat + 1 by omega]; exact I4
   by_cases hjp : j < p.toNat
   ·exact h2 j hjp
   obtain rfl : j = p.toNat := by omega
   omega
  omega
 refine RS.nm ?_
 have hp := c7
 refine RS.extract (v := .bool false) rfl rfl ?_
 refine nl J6 ?_
 refine wx fun _ J14 => ?_
 refine C.iff rfl ?_
 refine wp_exit ?_
 refine J2 _ _ ?_
 refine sq fun _ J15 => ?_
 refine RS.asI rfl ?_
 refine nl J15 ?_
 refine wp_ret ?_
 refine retI rfl rfl ?_
 refine ⟨_, rfl, hE, _, rfl, ⟨fun _ j hj => h2 j (by omega), fun _ => by decide⟩⟩
theorem Index32 (s : ByteArray) (w : World) :
  Calls Tryz.prog 219 #[.string s, .func (.func 222) #[] #[]] w (Ret w fun v _ => ∃ j, v = .int .i64 j ∧ (j < 0 ↔ S.Asc 32 s)) := by
 have hE := Ext.refl w
 refine enterU 6 Tryz.func219 rfl rfl ?_
 refine sq fun _ J1 => ?_
 refine RS.asI rfl ?_
 refine nl J1 (sq fun _ J2 => ?_)
 refine RS.move (v := .string _) rfl ?_
 refine RS.move (v := .func _ _ _) rfl ?_
 refine RS.call E264 (index32 _ _) rfl (fun v3 w3 x3 A3 => ?_)
 replace hE := Ext.tr hE x3
 have zw3 := x3.size
 obtain ⟨j, rfl, hj⟩ := A3
 refine RS.nm ?_
 refine RS.asI rfl ?_
 refine nl J2 ?_
 refine wp_ret ?_
 refine retI rfl rfl ?_
 exact ⟨_, rfl, hE, _, rfl, hj⟩
theorem key (s : ByteArray) (w : World) :
  Calls Tryz.prog 170 #[.string s] w (Ret w fun v _ => v = .bool (decide (S.KeyOk s))) := by
 have hE := Ext.refl w
 refine enterU 15 Tryz.func170 rfl rfl ?_
 refine sq fun _ J1 => ?_
 refine RS.asB rfl ?_
 refine nl J1 (sq fun _ J2 => ?_)
 refine RS.move (v := .string _) rfl ?_
 refine RS.o (D.lenStr rfl V9) ?_
 refine RS.o (D.ge rfl rfl) ?_
 refine RS.mvB rfl ?_
 refine RS.splitd 6 rfl rfl (fun c3 => ?_) (fun c3 => ?_)
 ·refine RS.nm ?_
  have h1 := c3
  refine RS.wt 6 ?_
  refine RS.move (v := .string _) rfl ?_
  refine RS.wt 6 ?_
  refine RS.o (D.lenStr rfl V9) ?_
  refine RS.wt 6 ?_
  refine RS.o (D.le rfl rfl) ?_
  refine RS.pk ?_
  refine RS.mvB rfl ?_
  refine RS.splitd 11 rfl rfl (fun c4 => ?_) (fun c4 => ?_)
  ·refine RS.nm ?_
   have h2 := c4
   refine RS.wt 11 ?_
   refine RS.move (v := .string _) rfl ?_
   refine RS.wt 11 ?_
   refine RS.call E219 (Index33 _ _) rfl (fun v5 w5 x5 A5 => ?_)
   replace hE := Ext.tr hE x5
   have zw5 := x5.size
   obtain ⟨j, rfl, hj⟩ := A5
   refine RS.nm ?_
   refine RS.wt 11 ?_
   refine RS.o (D.lt rfl rfl) ?_
   refine RS.pk ?_
   refine RS.asB rfl ?_
   refine nl J2 ?_
   refine wp_ret ?_
   refine retB rfl rfl ?_
   refine ⟨_, rfl, hE, congrArg Value.bool (decide_eq_decide.2 ?_)⟩
   unfold S.KeyOk
   rw [hj]
   exact ⟨fun h => ⟨by omega, by omega, h⟩, fun h => h.2.2⟩
  refine RS.nm ?_
  have h2 := c4
  refine RS.skF 11 ?_
  refine RS.skF 11 ?_
  refine RS.skF 11 ?_
  refine RS.pkf ?_
  refine RS.asB rfl ?_
  refine nl J2 ?_
  refine wp_ret ?_
  refine retB rfl rfl ?_
  refine ⟨_, rfl, hE, congrArg Value.bool (decide_eq_false ?_).symm⟩
  intro h
  have := h.2.1
  omega
 refine RS.nm ?_
 have h1 := c3
 refine RS.skF 6 ?_
 refine RS.skF 6 ?_
 refine RS.skF 6 ?_
 refine RS.pkf ?_
 refine RS.mvB rfl ?_
 refine RS.skF 11 ?_
 refine RS.skF 11 ?_
 refine RS.skF 11 ?_
 refine RS.pkf ?_
 refine RS.asB rfl ?_
 refine nl J2 ?_
 refine wp_ret ?_
 refine retB rfl rfl ?_
 refine ⟨_, rfl, hE, congrArg Value.bool (decide_eq_false ?_).symm⟩
 intro h
 have := h.1
 omega
theorem printable (s : ByteArray) (hs : s.size ≤ 1000000) (w : World) :
  Calls Tryz.prog 290 #[.string s] w (Ret w fun v _ => v = .bool (decide (S.Asc 32 s))) := by
 have hE := Ext.refl w
 refine enterU 19 Tryz.func290 rfl rfl ?_
 refine sq fun _ J1 => ?_
 refine RS.asB rfl ?_
 refine nl J1 ?_
 refine wx fun _ J2 => ?_
 refine sq fun _ J3 => ?_
 refine RS.asI rfl ?_
 refine nl J3 ?_
 refine wp_block ?_
 refine C.loop (A := Int) (fun p => [(3, .int .i64 p)]) [2, 4, 5, 6, 7, 8, 9, 10, 11, 12, 13, 14, 15, 16, 17, 18, 19] (fun p w' => Ext w w' ∧ ((0 ≤ p ∧ p ≤ s.size) ∧ (∀ j, j < p.toNat → 32 ≤ (bys s).getD j 0 ∧ (bys s).getD j 0 ≤ 126))) (fun p => (s.size - p.toNat)) 0 (by kernel_rfl) ?_ ?_
 ·exact ⟨Ext.refl _, ⟨by omega, by omega⟩, fun j hj => by omega⟩
 rintro p j w4 ⟨x4, hI⟩
 replace hE := Ext.tr hE x4
 have zw4 := x4.size
 obtain ⟨h1, h2⟩ := hI
 refine C.nmU ?_
 refine wx fun _ J5 => ?_
 refine sq fun _ J6 => ?_
 refine RS.mvI rfl ?_
 refine RS.move (v := .string _) rfl ?_
 refine RS.o (D.lenStr rfl V9) ?_
 refine RS.o (D.lt rfl rfl) ?_
 refine nl J6 ?_
 refine C.ifd rfl (fun c7 => ?_) (fun c7 => ?_)
 ·have hl := c7
  refine wp_skip ?_
  refine J5 _ _ ?_
  refine wx fun _ J8 => ?_
  refine wp_block ?_
  refine sq fun _ J9 => ?_
  refine RS.move (v := .string _) rfl ?_
  refine RS.mvI rfl ?_
  refine RS.indexStr rfl rfl V9 (by omega) (fun v10 q10 r10 => ?_)
  refine RS.nm ?_
  simp only [lim] at r10
  have q1 := q10
  refine RS.o (D.lt rfl rfl) ?_
  refine RS.mvB rfl ?_
  refine RS.splitd 14 rfl rfl (fun c11 => ?_) (fun c11 => ?_)
  ·refine RS.nm ?_
   refine RS.skT 14 ?_
   refine RS.skT 14 ?_
   refine RS.skT 14 ?_
   refine RS.skT 14 ?_
   refine RS.pkt ?_
   refine nl J9 ?_
   refine C.ift rfl ?_
   refine sq fun _ J12 => ?_
   refine RS.asB rfl ?_
   refine nl J12 ?_
   refine wp_ret ?_
   refine retB rfl rfl ?_
   refine ⟨_, rfl, hE, congrArg Value.bool (decide_eq_false ?_).symm⟩
   intro h
   have := h p.toNat (by omega)
   omega
  refine RS.nm ?_
  refine RS.wt 14 ?_
  refine RS.move (v := .string _) rfl ?_
  refine RS.wt 14 ?_
  refine RS.mvI rfl ?_
  refine RS.wt 14 ?_
  refine RS.indexStr rfl rfl V9 (by omega) (fun v13 q13 r13 => ?_)
  refine RS.nm ?_
  simp only [lim] at r13
  have q2 := q13
  refine RS.wt 14 ?_
  refine RS.o (D.gt rfl rfl) ?_
  refine RS.pk ?_
  refine nl J9 ?_
  refine C.ifd rfl (fun c14 => ?_) (fun c14 => ?_)
  ·try have hb := c14
   refine sq fun _ J15 => ?_
   refine RS.asB rfl ?_
   refine nl J15 ?_
   refine wp_ret ?_
   refine retB rfl rfl ?_
   refine ⟨_, rfl, hE, congrArg Value.bool (decide_eq_false ?_).symm⟩
   intro h
   have := h p.toNat (by omega)
   omega
  refine wp_skip ?_
  refine J8 _ _ ?_
  refine region ?_
  refine RS.mvI rfl ?_
  refine RS.o (D.add rfl rfl (W.i64 (by omega))) ?_
  refine RS.asI rfl ?_
  refine RS.nil ?_
  change Nx _ _ _ _ _ _ _ _
  refine C.next (p + 1) ⟨rfl, trivial⟩ (by kernel_rfl) ?_ ?_
  ·refine ⟨x4, ⟨by omega, by omega⟩, fun j hj => ?_⟩
   by_cases hjp : j < p.toNat
   ·exact h2 j hjp
   obtain rfl : j = p.toNat := by omega
   omega
  omega
 have hl := c7
 refine wp_exit ?_
 refine J2 _ _ ?_
 refine sq fun _ J16 => ?_
 refine RS.asB rfl ?_
 refine nl J16 ?_
 refine wp_ret ?_
 refine retB rfl rfl ?_
 exact ⟨_, rfl, hE, congrArg Value.bool (decide_eq_true (fun j hj => h2 j (by omega))).symm⟩
theorem nameR (s : ByteArray) (hs : s.size ≤ 1000000) (w : World) :
  Calls Tryz.prog 268 #[.string s] w (Ret w fun v _ => v = .bool (decide (S.KeyOk s))) := by
 have hE := Ext.refl w
 refine enterU 27 Tryz.func268 rfl rfl ?_
 refine sq fun _ J1 => ?_
 refine RS.asB rfl ?_
 refine nl J1 ?_
 refine wx fun _ J2 => ?_
 refine sq fun _ J3 => ?_
 refine RS.move (v := .string _) rfl ?_
 refine RS.o (D.lenStr rfl V9) ?_
 refine RS.o (D.lt rfl rfl) ?_
 refine RS.mvB rfl ?_
 refine RS.splitd 7 rfl rfl (fun c4 => ?_) (fun c4 => ?_)
 ·refine RS.nm ?_
  refine RS.skT 7 ?_
  refine RS.skT 7 ?_
  refine RS.skT 7 ?_
  refine RS.pkt ?_
  refine nl J3 ?_
  refine C.ift rfl ?_
  refine sq fun _ J5 => ?_
  refine RS.asB rfl ?_
  refine nl J5 ?_
  refine wp_ret ?_
  refine retB rfl rfl ?_
  refine ⟨_, rfl, hE, congrArg Value.bool (decide_eq_false ?_).symm⟩
  intro h
  have := h.1
  omega
 refine RS.nm ?_
 refine RS.wt 7 ?_
 refine RS.move (v := .string _) rfl ?_
 refine RS.wt 7 ?_
 refine RS.o (D.lenStr rfl V9) ?_
 refine RS.wt 7 ?_
 refine RS.o (D.gt rfl rfl) ?_
 refine RS.pk ?_
 refine nl J3 ?_
 refine C.ifd rfl (fun c6 => ?_) (fun c6 => ?_)
 ·refine wx fun _ J7 => ?_
  refine region ?_
  refine RS.asB rfl ?_
  refine nl J7 ?_
  refine wp_ret ?_
  refine retB rfl rfl ?_
  refine ⟨_, rfl, hE, congrArg Value.bool (decide_eq_false ?_).symm⟩
  intro h
  have := h.2.1
  omega
 refine wp_skip ?_
 refine J2 _ _ ?_
 refine wx fun _ J8 => ?_
 refine sq fun _ J9 => ?_
 refine RS.asI rfl ?_
 refine nl J9 ?_
 refine wp_block ?_
 refine C.loop (A := Int) (fun p => [(3, .int .i64 p)]) [2, 12, 13, 14, 15, 16, 17, 18, 19, 20, 21, 22, 23, 24, 25, 26, 27] (fun p w' => Ext w w' ∧ ((0 ≤ p ∧ p ≤ s.size) ∧ (∀ j, j < p.toNat → 33 ≤ (bys s).getD j 0 ∧ (bys s).getD j 0 ≤ 126))) (fun p => (s.size - p.toNat)) 0 (by kernel_rfl) ?_ ?_
 ·exact ⟨Ext.refl _, ⟨by omega, by omega⟩, fun j hj => by omega⟩
 rintro p j w10 ⟨x10, hI⟩
 replace hE := Ext.tr hE x10
 have zw10 := x10.size
 obtain ⟨h1, h2⟩ := hI
 refine C.nmU ?_
 refine wx fun _ J11 => ?_
 refine sq fun _ J12 => ?_
 refine RS.mvI rfl ?_
 refine RS.move (v := .string _) rfl ?_
 refine RS.o (D.lenStr rfl V9) ?_
 refine RS.o (D.lt rfl rfl) ?_
 refine nl J12 ?_
 refine C.ifd rfl (fun c13 => ?_) (fun c13 => ?_)
 ·refine wp_skip ?_
  refine J11 _ _ ?_
  refine wx fun _ J14 => ?_
  refine wp_block ?_
  refine sq fun _ J15 => ?_
  refine RS.move (v := .string _) rfl ?_
  refine RS.mvI rfl ?_
  refine RS.indexStr rfl rfl V9 (by omega) (fun v16 q16 r16 => ?_)
  refine RS.nm ?_
  simp only [lim] at r16
  have q1 := q16
  refine RS.o (D.lt rfl rfl) ?_
  refine RS.mvB rfl ?_
  refine RS.splitd 22 rfl rfl (fun c17 => ?_) (fun c17 => ?_)
  ·refine RS.nm ?_
   refine RS.skT 22 ?_
   refine RS.skT 22 ?_
   refine RS.skT 22 ?_
   refine RS.skT 22 ?_
   refine RS.pkt ?_
   refine nl J15 ?_
   refine C.ift rfl ?_
   refine sq fun _ J18 => ?_
   refine RS.asB rfl ?_
   refine nl J18 ?_
   refine wp_ret ?_
   refine retB rfl rfl ?_
   refine ⟨_, rfl, hE, congrArg Value.bool (decide_eq_false ?_).symm⟩
   intro h
   have := h.2.2 p.toNat (by omega)
   omega
  refine RS.nm ?_
  refine RS.wt 22 ?_
  refine RS.move (v := .string _) rfl ?_
  refine RS.wt 22 ?_
  refine RS.mvI rfl ?_
  refine RS.wt 22 ?_
  refine RS.indexStr rfl rfl V9 (by omega) (fun v19 q19 r19 => ?_)
  refine RS.nm ?_
  simp only [lim] at r19
  have q2 := q19
  refine RS.wt 22 ?_
  refine RS.o (D.gt rfl rfl) ?_
  refine RS.pk ?_
  refine nl J15 ?_
  refine C.ifd rfl (fun c20 => ?_) (fun c20 => ?_)
  ·refine wx fun _ J21 => ?_
   refine region ?_
   refine RS.asB rfl ?_
   refine nl J21 ?_
   refine wp_ret ?_
   refine retB rfl rfl ?_
   refine ⟨_, rfl, hE, congrArg Value.bool (decide_eq_false ?_).symm⟩
   intro h
   have := h.2.2 p.toNat (by omega)
   omega
  refine wp_skip ?_
  refine J14 _ _ ?_
  refine region ?_
  refine RS.mvI rfl ?_
  refine RS.o (D.add rfl rfl (W.i64 (by omega))) ?_
  refine RS.asI rfl ?_
  refine RS.nil ?_
  change Nx _ _ _ _ _ _ _ _
  refine C.next (p + 1) ⟨rfl, trivial⟩ (by kernel_rfl) ?_ ?_
  ·refine ⟨x10, ⟨by omega, by omega⟩, fun j hj => ?_⟩
   by_cases hjp : j < p.toNat
   ·exact h2 j hjp
   obtain rfl : j = p.toNat := by omega
   omega
  omega
 refine wp_exit ?_
 refine J8 _ _ ?_
 refine sq fun _ J22 => ?_
 refine RS.asB rfl ?_
 refine nl J22 ?_
 refine wp_ret ?_
 refine retB rfl rfl ?_
 refine ⟨_, rfl, hE, congrArg Value.bool (decide_eq_true ⟨by omega, by omega, fun j hj => h2 j (by omega)⟩).symm⟩
theorem splitV (b : Int) (hb : 0 ≤ b ∧ b < 18446744073709551616) (w : World) :
  Calls Tryz.prog 288 #[.int .u64 b] w (Ret w fun v _ => v = .tuple #[.int .i64 (b / 4503599627370496 % 2048), .int .u64 (b % 4503599627370496)]) := by
 have e52 : (2 : Int) ^ (52 : Int).toNat = 4503599627370496 := by decide
 have hE := Ext.refl w
 refine enterU 9 Tryz.func288 rfl rfl ?_
 refine sq fun _ J1 => ?_
 refine RS.asI rfl ?_
 refine RS.asI rfl ?_
 refine nl J1 (sq fun _ J2 => ?_)
 refine RS.mvI rfl ?_
 refine RS.ob (D.shr_u64 rfl rfl (by omega) (by constructor <;> omega)) (fun z3 => ?_)
 refine RS.o (D.conv rfl V38 V3 (W.i64 (by rw [e52]; omega))) ?_
 refine RS.o (D.sand rfl rfl) ?_
 refine RS.mvI rfl ?_
 refine RS.ob (D.band_u64 rfl rfl (by omega) (by omega)) (fun z4 => ?_)
 refine RS.asI rfl ?_
 refine RS.asI rfl ?_
 refine nl J2 ?_
 refine wp_ret ?_
 refine retII ?_
 refine ⟨_, rfl, hE, ?_⟩
 rw [e52, S.sand_2047 _ (by omega), S.iand_full _ (by omega)]
theorem classV (b : Int) (hb : 0 ≤ b ∧ b < 18446744073709551616) (w : World) :
  Calls Tryz.prog 265 #[.int .u64 b] w (Ret w fun v _ => v = .int .u8 (S.clsS b)) := by
 have hE := Ext.refl w
 refine enterU 25 Tryz.func265 rfl rfl ?_
 refine sq fun _ J1 => ?_
 refine RS.asI rfl ?_
 refine nl J1 (sq fun _ J2 => ?_)
 refine RS.mvI rfl ?_
 refine RS.call E288 (splitV _ (by omega) _) rfl (fun v3 w3 x3 A3 => ?_)
 replace hE := Ext.tr hE x3
 have zw3 := x3.size
 subst A3
 refine RS.nm ?_
 refine RS.move (v := .tuple _) rfl ?_
 refine RS.exI ?_
 refine RS.exI ?_
 refine RS.asI rfl ?_
 refine RS.asI rfl ?_
 refine nl J2 ?_
 refine wx fun _ J4 => ?_
 refine wp_block ?_
 refine sq fun _ J5 => ?_
 refine RS.mvI rfl ?_
 refine RS.o (D.eq rfl rfl) ?_
 refine RS.mvB rfl ?_
 refine RS.splite 13 rfl rfl (fun c6 => ?_) (fun c6 => ?_)
 ·refine RS.nm ?_
  refine RS.wt 13 ?_
  refine RS.mvI rfl ?_
  refine RS.wt 13 ?_
  refine RS.o (D.ne rfl rfl) ?_
  refine RS.pk ?_
  refine RS.asB rfl ?_
  refine nl J5 ?_
  refine C.ifn rfl (fun c7 => ?_) (fun c7 => ?_)
  ·refine wx fun _ J8 => ?_
   refine region ?_
   refine RS.asI rfl ?_
   refine nl J8 ?_
   refine wp_ret ?_
   refine retI rfl rfl ?_
   refine ⟨_, rfl, hE, congrArg (Value.int .u8) ?_⟩
   unfold S.clsS
   (repeat' split) <;> omega
  refine wx fun _ J9 => ?_
  refine region ?_
  refine RS.mvI rfl ?_
  refine RS.o (D.eq rfl rfl) ?_
  refine RS.asB rfl ?_
  refine nl J9 ?_
  refine C.ife rfl (fun c10 => ?_) (fun c10 => ?_)
  ·refine wx fun _ J11 => ?_
   refine region ?_
   refine RS.asI rfl ?_
   refine nl J11 ?_
   refine wp_ret ?_
   refine retI rfl rfl ?_
   refine ⟨_, rfl, hE, congrArg (Value.int .u8) ?_⟩
   unfold S.clsS
   (repeat' split) <;> omega
  refine wx fun _ J12 => ?_
  refine region ?_
  refine RS.mvI rfl ?_
  refine RS.o (D.ne rfl rfl) ?_
  refine RS.asB rfl ?_
  refine nl J12 ?_
  refine C.ifn rfl (fun c13 => ?_) (fun c13 => ?_)
  ·refine wx fun _ J14 => ?_
   refine region ?_
   refine RS.asI rfl ?_
   refine nl J14 ?_
   refine wp_ret ?_
   refine retI rfl rfl ?_
   refine ⟨_, rfl, hE, congrArg (Value.int .u8) ?_⟩
   unfold S.clsS
   (repeat' split) <;> omega
  refine wx fun _ J15 => ?_
  refine region ?_
  refine RS.mvI rfl ?_
  refine RS.o (D.ne rfl rfl) ?_
  refine RS.asB rfl ?_
  refine nl J15 ?_
  refine C.ifn rfl (fun c16 => ?_) (fun c16 => ?_)
  ·refine wx fun _ J17 => ?_
   refine region ?_
   refine RS.asI rfl ?_
   refine nl J17 ?_
   refine wp_ret ?_
   refine retI rfl rfl ?_
   refine ⟨_, rfl, hE, congrArg (Value.int .u8) ?_⟩
   unfold S.clsS
   (repeat' split) <;> omega
  refine wp_skip ?_
  refine J4 _ _ ?_
  refine sq fun _ J18 => ?_
  refine RS.asI rfl ?_
  refine nl J18 ?_
  refine wp_ret ?_
  refine retI rfl rfl ?_
  refine ⟨_, rfl, hE, congrArg (Value.int .u8) ?_⟩
  unfold S.clsS
  (repeat' split) <;> omega
 refine RS.nm ?_
 refine RS.skF 13 ?_
 refine RS.skF 13 ?_
 refine RS.pkf ?_
 refine RS.asB rfl ?_
 refine nl J5 ?_
 refine C.iff rfl ?_
 refine sq fun _ J19 => ?_
 refine RS.mvI rfl ?_
 refine RS.o (D.eq rfl rfl) ?_
 refine RS.asB rfl ?_
 refine nl J19 ?_
 refine C.ife rfl (fun c20 => ?_) (fun c20 => ?_)
 ·refine wx fun _ J21 => ?_
  refine region ?_
  refine RS.asI rfl ?_
  refine nl J21 ?_
  refine wp_ret ?_
  refine retI rfl rfl ?_
  refine ⟨_, rfl, hE, congrArg (Value.int .u8) ?_⟩
  unfold S.clsS
  (repeat' split) <;> omega
 refine wx fun _ J22 => ?_
 refine region ?_
 refine RS.mvI rfl ?_
 refine RS.o (D.ne rfl rfl) ?_
 refine RS.asB rfl ?_
 refine nl J22 ?_
 refine C.ifn rfl (fun c23 => ?_) (fun c23 => ?_)
 ·refine wx fun _ J24 => ?_
  refine region ?_
  refine RS.asI rfl ?_
  refine nl J24 ?_
  refine wp_ret ?_
  refine retI rfl rfl ?_
  refine ⟨_, rfl, hE, congrArg (Value.int .u8) ?_⟩
  unfold S.clsS
  (repeat' split) <;> omega
 refine wx fun _ J25 => ?_
 refine region ?_
 refine RS.mvI rfl ?_
 refine RS.o (D.ne rfl rfl) ?_
 refine RS.asB rfl ?_
 refine nl J25 ?_
 refine C.ifn rfl (fun c26 => ?_) (fun c26 => ?_)
 ·refine wx fun _ J27 => ?_
  refine region ?_
  refine RS.asI rfl ?_
  refine nl J27 ?_
  refine wp_ret ?_
  refine retI rfl rfl ?_
  refine ⟨_, rfl, hE, congrArg (Value.int .u8) ?_⟩
  unfold S.clsS
  (repeat' split) <;> omega
 refine wp_skip ?_
 refine J4 _ _ ?_
 refine sq fun _ J28 => ?_
 refine RS.asI rfl ?_
 refine nl J28 ?_
 refine wp_ret ?_
 refine retI rfl rfl ?_
 refine ⟨_, rfl, hE, congrArg (Value.int .u8) ?_⟩
 unfold S.clsS
 (repeat' split) <;> omega
theorem expR (b : Int) (hb : 0 ≤ b ∧ b < 18446744073709551616) (w : World) :
  Calls Tryz.prog 298 #[.int .u64 b] w (Ret w fun v _ => v = .int .i64 (b / 4503599627370496 % 2048)) := by
 have hE := Ext.refl w
 refine enterU 6 Tryz.func298 rfl rfl ?_
 refine sq fun _ J1 => ?_
 refine RS.asI rfl ?_
 refine nl J1 (sq fun _ J2 => ?_)
 refine RS.mvI rfl ?_
 refine RS.o (D.rem rfl rfl (by omega) (by omega)) ?_
 refine RS.o (D.quo rfl rfl (by omega) (by omega) (W.u64 (by omega))) ?_
 refine RS.o (D.conv rfl V38 V3 (W.i64 (by omega))) ?_
 refine RS.asI rfl ?_
 refine nl J2 ?_
 refine wp_ret ?_
 refine retI rfl rfl ?_
 refine ⟨_, rfl, hE, congrArg (Value.int .i64) (S.exp_eq b (by omega))⟩
theorem fracR (b : Int) (hb : 0 ≤ b ∧ b < 18446744073709551616) (w : World) :
  Calls Tryz.prog 299 #[.int .u64 b] w (Ret w fun v _ => v = .int .u64 (b % 4503599627370496)) := by
 have hE := Ext.refl w
 refine enterU 4 Tryz.func299 rfl rfl ?_
 refine sq fun _ J1 => ?_
 refine RS.asI rfl ?_
 refine nl J1 (sq fun _ J2 => ?_)
 refine RS.mvI rfl ?_
 refine RS.o (D.rem rfl rfl (by omega) (by omega)) ?_
 refine RS.asI rfl ?_
 refine nl J2 ?_
 refine wp_ret ?_
 refine retI rfl rfl ?_
 exact ⟨_, rfl, hE, rfl⟩
theorem classR (b : Int) (hb : 0 ≤ b ∧ b < 18446744073709551616) (w : World) :
  Calls Tryz.prog 296 #[.int .u64 b] w (Ret w fun v _ => v = .int .u8 (S.clsS b)) := by
 have hE := Ext.refl w
 refine enterU 20 Tryz.func296 rfl rfl ?_
 refine sq fun _ J1 => ?_
 refine RS.asI rfl ?_
 refine nl J1 (sq fun _ J2 => ?_)
 refine RS.mvI rfl ?_
 refine RS.call E298 (expR _ (by omega) _) rfl (fun v3 w3 x3 A3 => ?_)
 replace hE := Ext.tr hE x3
 have zw3 := x3.size
 subst A3
 refine RS.nm ?_
 refine RS.mvI rfl ?_
 refine RS.call E299 (fracR _ (by omega) _) rfl (fun v4 w4 x4 A4 => ?_)
 replace hE := Ext.tr hE x4
 have zw4 := x4.size
 subst A4
 refine RS.nm ?_
 refine RS.asI rfl ?_
 refine RS.asI rfl ?_
 refine nl J2 ?_
 refine wx fun _ J5 => ?_
 refine sq fun _ J6 => ?_
 refine RS.mvI rfl ?_
 refine RS.o (D.eq rfl rfl) ?_
 refine RS.mvB rfl ?_
 refine RS.splite 11 rfl rfl (fun c7 => ?_) (fun c7 => ?_)
 ·refine RS.nm ?_
  refine RS.wt 11 ?_
  refine RS.mvI rfl ?_
  refine RS.wt 11 ?_
  refine RS.o (D.eq rfl rfl) ?_
  refine RS.pk ?_
  refine nl J6 ?_
  refine C.ife rfl (fun c8 => ?_) (fun c8 => ?_)
  ·refine wx fun _ J9 => ?_
   refine region ?_
   refine RS.asI rfl ?_
   refine nl J9 ?_
   refine wp_ret ?_
   refine retI rfl rfl ?_
   refine ⟨_, rfl, hE, congrArg (Value.int .u8) ?_⟩
   unfold S.clsS
   (repeat' split) <;> omega
  refine wp_skip ?_
  refine J5 _ _ ?_
  refine wx fun _ J10 => ?_
  refine sq fun _ J11 => ?_
  refine RS.mvI rfl ?_
  refine RS.o (D.eq rfl rfl) ?_
  refine nl J11 ?_
  refine C.ife rfl (fun c12 => ?_) (fun c12 => ?_)
  ·refine wx fun _ J13 => ?_
   refine region ?_
   refine RS.asI rfl ?_
   refine nl J13 ?_
   refine wp_ret ?_
   refine retI rfl rfl ?_
   refine ⟨_, rfl, hE, congrArg (Value.int .u8) ?_⟩
   unfold S.clsS
   (repeat' split) <;> omega
  refine wp_skip ?_
  refine J10 _ _ ?_
  refine wx fun _ J14 => ?_
  refine sq fun _ J15 => ?_
  refine RS.mvI rfl ?_
  refine RS.o (D.lt rfl rfl) ?_
  refine nl J15 ?_
  refine C.ifd rfl (fun c16 => ?_) (fun c16 => ?_)
  ·refine wx fun _ J17 => ?_
   refine region ?_
   refine RS.asI rfl ?_
   refine nl J17 ?_
   refine wp_ret ?_
   refine retI rfl rfl ?_
   refine ⟨_, rfl, hE, congrArg (Value.int .u8) ?_⟩
   unfold S.clsS
   (repeat' split) <;> omega
  refine wp_skip ?_
  refine J14 _ _ ?_
  refine wx fun _ J18 => ?_
  refine sq fun _ J19 => ?_
  refine RS.mvI rfl ?_
  refine RS.o (D.eq rfl rfl) ?_
  refine nl J19 ?_
  refine C.ife rfl (fun c20 => ?_) (fun c20 => ?_)
  ·refine wx fun _ J21 => ?_
   refine region ?_
   refine RS.asI rfl ?_
   refine nl J21 ?_
   refine wp_ret ?_
   refine retI rfl rfl ?_
   refine ⟨_, rfl, hE, congrArg (Value.int .u8) ?_⟩
   unfold S.clsS
   (repeat' split) <;> omega
  refine wp_skip ?_
  refine J18 _ _ ?_
  refine sq fun _ J22 => ?_
  refine RS.asI rfl ?_
  refine nl J22 ?_
  refine wp_ret ?_
  refine retI rfl rfl ?_
  refine ⟨_, rfl, hE, congrArg (Value.int .u8) ?_⟩
  unfold S.clsS
  (repeat' split) <;> omega
 refine RS.nm ?_
 refine RS.skF 11 ?_
 refine RS.skF 11 ?_
 refine RS.pkf ?_
 refine nl J6 ?_
 refine C.iff rfl ?_
 refine wp_skip ?_
 refine J5 _ _ ?_
 refine wx fun _ J23 => ?_
 refine sq fun _ J24 => ?_
 refine RS.mvI rfl ?_
 refine RS.o (D.eq rfl rfl) ?_
 refine nl J24 ?_
 refine C.ife rfl (fun c25 => ?_) (fun c25 => ?_)
 ·refine wx fun _ J26 => ?_
  refine region ?_
  refine RS.asI rfl ?_
  refine nl J26 ?_
  refine wp_ret ?_
  refine retI rfl rfl ?_
  refine ⟨_, rfl, hE, congrArg (Value.int .u8) ?_⟩
  unfold S.clsS
  (repeat' split) <;> omega
 refine wp_skip ?_
 refine J23 _ _ ?_
 refine wx fun _ J27 => ?_
 refine sq fun _ J28 => ?_
 refine RS.mvI rfl ?_
 refine RS.o (D.lt rfl rfl) ?_
 refine nl J28 ?_
 refine C.ifd rfl (fun c29 => ?_) (fun c29 => ?_)
 ·refine wx fun _ J30 => ?_
  refine region ?_
  refine RS.asI rfl ?_
  refine nl J30 ?_
  refine wp_ret ?_
  refine retI rfl rfl ?_
  refine ⟨_, rfl, hE, congrArg (Value.int .u8) ?_⟩
  unfold S.clsS
  (repeat' split) <;> omega
 refine wp_skip ?_
 refine J27 _ _ ?_
 refine wx fun _ J31 => ?_
 refine sq fun _ J32 => ?_
 refine RS.mvI rfl ?_
 refine RS.o (D.eq rfl rfl) ?_
 refine nl J32 ?_
 refine C.ife rfl (fun c33 => ?_) (fun c33 => ?_)
 ·refine wx fun _ J34 => ?_
  refine region ?_
  refine RS.asI rfl ?_
  refine nl J34 ?_
  refine wp_ret ?_
  refine retI rfl rfl ?_
  refine ⟨_, rfl, hE, congrArg (Value.int .u8) ?_⟩
  unfold S.clsS
  (repeat' split) <;> omega
 refine wp_skip ?_
 refine J31 _ _ ?_
 refine sq fun _ J35 => ?_
 refine RS.asI rfl ?_
 refine nl J35 ?_
 refine wp_ret ?_
 refine retI rfl rfl ?_
 refine ⟨_, rfl, hE, congrArg (Value.int .u8) ?_⟩
 unfold S.clsS
 (repeat' split) <;> omega
theorem canonV (b : Int) (hb : 0 ≤ b ∧ b < 18446744073709551616) (w : World) :
  Calls Tryz.prog 221 #[.int .u64 b] w (Ret w fun v _ => v = .int .u64 (S.canS b)) := by
 have hE := Ext.refl w
 refine enterU 6 Tryz.func221 rfl rfl ?_
 refine sq fun _ J1 => ?_
 refine RS.asI rfl ?_
 refine nl J1 ?_
 refine wx fun _ J2 => ?_
 refine sq fun _ J3 => ?_
 refine RS.mvI rfl ?_
 refine RS.call E265 (classV _ (by omega) _) rfl (fun v4 w4 x4 A4 => ?_)
 replace hE := Ext.tr hE x4
 have zw4 := x4.size
 subst A4
 refine RS.nm ?_
 refine RS.o (D.eq rfl rfl) ?_
 refine nl J3 ?_
 refine C.ife rfl (fun c5 => ?_) (fun c5 => ?_)
 ·refine wx fun _ J6 => ?_
  refine region ?_
  refine RS.asI rfl ?_
  refine nl J6 ?_
  refine wp_ret ?_
  refine retI rfl rfl ?_
  refine ⟨_, rfl, hE, congrArg (Value.int .u64) ?_⟩
  unfold S.canS
  split <;> omega
 refine wp_skip ?_
 refine J2 _ _ ?_
 refine sq fun _ J7 => ?_
 refine RS.mvI rfl ?_
 refine RS.asI rfl ?_
 refine nl J7 ?_
 refine wp_ret ?_
 refine retI rfl rfl ?_
 refine ⟨_, rfl, hE, congrArg (Value.int .u64) ?_⟩
 unfold S.canS
 split <;> omega
theorem canonR (b : Int) (hb : 0 ≤ b ∧ b < 18446744073709551616) (w : World) :
  Calls Tryz.prog 289 #[.int .u64 b] w (Ret w fun v _ => v = .int .u64 (S.canS b)) := by
 have hE := Ext.refl w
 refine enterU 6 Tryz.func289 rfl rfl ?_
 refine sq fun _ J1 => ?_
 refine RS.asI rfl ?_
 refine nl J1 ?_
 refine wx fun _ J2 => ?_
 refine sq fun _ J3 => ?_
 refine RS.mvI rfl ?_
 refine RS.call E296 (classR _ (by omega) _) rfl (fun v4 w4 x4 A4 => ?_)
 replace hE := Ext.tr hE x4
 have zw4 := x4.size
 subst A4
 refine RS.nm ?_
 refine RS.o (D.eq rfl rfl) ?_
 refine nl J3 ?_
 refine C.ife rfl (fun c5 => ?_) (fun c5 => ?_)
 ·refine wx fun _ J6 => ?_
  refine region ?_
  refine RS.asI rfl ?_
  refine nl J6 ?_
  refine wp_ret ?_
  refine retI rfl rfl ?_
  refine ⟨_, rfl, hE, congrArg (Value.int .u64) ?_⟩
  unfold S.canS
  split <;> omega
 refine wp_skip ?_
 refine J2 _ _ ?_
 refine sq fun _ J7 => ?_
 refine RS.mvI rfl ?_
 refine RS.asI rfl ?_
 refine nl J7 ?_
 refine wp_ret ?_
 refine retI rfl rfl ?_
 refine ⟨_, rfl, hE, congrArg (Value.int .u64) ?_⟩
 unfold S.canS
 split <;> omega
theorem numberV (n : Int) (w : World) :
  Calls Tryz.prog 171 #[.int .i64 n] w (Ret w fun v _ => v = .agg ([.int .u8 1, .int .i64 n, .int .u64 0, .string .empty] : List Value).toArray) := by
 have hE := Ext.refl w
 refine enterU 4 Tryz.func171 rfl rfl ?_
 refine sq fun _ J1 => ?_
 refine RS.alloc T40 (fun b2 w2 e2 s2 x2 B2 => ?_)
 refine RS.nm ?_
 replace hE := Ext.tr hE x2
 have zw2 := x2.size
 refine nl J1 (sq fun _ J3 => ?_)
 refine RS.mvI rfl ?_
 refine RS.o (D.buildS T40 F40 (ps := [(0, .int _ _), (1, .int _ _)]) rfl rfl) ?_
 refine RS.sa C40 B2 (fun w4 y4 N4 => ?_)
 replace hE := hE.trans (y4.belo)
 have zw4 := y4.size
 replace B2 := N4
 refine nl J3 ?_
 refine wp_ret ?_
 refine retA V40 C40 B2 4 ?_
 exact ⟨_, rfl, hE, rfl⟩
theorem floatV (b : Int) (hb : 0 ≤ b ∧ b < 18446744073709551616) (w : World) :
  Calls Tryz.prog 172 #[.int .u64 b] w (Ret w fun v _ => v = .agg ([.int .u8 2, .int .i64 0, .int .u64 (S.canS b), .string .empty] : List Value).toArray) := by
 have hE := Ext.refl w
 refine enterU 5 Tryz.func172 rfl rfl ?_
 refine sq fun _ J1 => ?_
 refine RS.alloc T40 (fun b2 w2 e2 s2 x2 B2 => ?_)
 refine RS.nm ?_
 replace hE := Ext.tr hE x2
 have zw2 := x2.size
 refine nl J1 (sq fun _ J3 => ?_)
 refine RS.mvI rfl ?_
 refine RS.call E221 (canonV _ (by omega) _) rfl (fun v4 w4 x4 A4 => ?_)
 replace hE := Ext.tr hE x4
 replace B2 := B2.ext x4
 have zw4 := x4.size
 subst A4
 refine RS.nm ?_
 refine RS.o (D.buildS T40 F40 (ps := [(0, .int _ _), (2, .int _ _)]) rfl rfl) ?_
 refine RS.sa C40 B2 (fun w5 y5 N5 => ?_)
 replace hE := hE.trans (y5.belo)
 have zw5 := y5.size
 replace B2 := N5
 refine nl J3 ?_
 refine wp_ret ?_
 refine retA V40 C40 B2 4 ?_
 exact ⟨_, rfl, hE, rfl⟩
theorem textV (s : ByteArray) (w : World) :
  Calls Tryz.prog 173 #[.string s] w (Ret w fun v _ => ∃ k2 t2 e2, v = .tuple #[.agg ([.int .u8 k2, .int .i64 0, .int .u64 0, .string t2] : List Value).toArray, .int .i64 e2] ∧ ((S.TextOk s ∧ k2 = 3 ∧ t2 = s ∧ e2 = 0) ∨ (¬ S.TextOk s ∧ k2 = 0 ∧ t2 = ByteArray.empty))) := by
 have hE := Ext.refl w
 refine enterU 13 Tryz.func173 rfl rfl ?_
 refine sq fun _ J1 => ?_
 refine RS.alloc T40 (fun b2 w2 e2 s2 x2 B2 => ?_)
 refine RS.nm ?_
 replace hE := Ext.tr hE x2
 have zw2 := x2.size
 refine RS.asI rfl ?_
 refine nl J1 ?_
 refine wx fun _ J3 => ?_
 refine sq fun _ J4 => ?_
 refine RS.move (v := .string _) rfl ?_
 refine RS.o (D.lenStr rfl V9) ?_
 refine RS.o (D.gt rfl rfl) ?_
 refine nl J4 ?_
 refine C.ifd rfl (fun c5 => ?_) (fun c5 => ?_)
 ·have h1 := c5
  refine sq fun _ J6 => ?_
  refine RS.o (D.buildS T40 F40 (ps := []) rfl rfl) ?_
  refine RS.sa C40 B2 (fun w7 y7 N7 => ?_)
  replace hE := hE.trans (y7.belo)
  have zw7 := y7.size
  replace B2 := N7
  refine RS.asI rfl ?_
  refine nl J6 ?_
  refine wp_ret ?_
  refine retAI V40 C40 B2 4 ?_
  exact ⟨_, rfl, hE, _, _, _, rfl, .inr ⟨fun h => by have := h.1; omega, rfl, rfl⟩⟩
 have h1 := c5
 refine wp_skip ?_
 refine J3 _ _ ?_
 refine wx fun _ J8 => ?_
 refine sq fun _ J9 => ?_
 refine RS.move (v := .string _) rfl ?_
 refine RS.call E219 (Index32 _ _) rfl (fun v10 w10 x10 A10 => ?_)
 replace hE := Ext.tr hE x10
 replace B2 := B2.ext x10
 have zw10 := x10.size
 obtain ⟨j, rfl, hj⟩ := A10
 refine RS.nm ?_
 refine RS.o (D.ge rfl rfl) ?_
 refine nl J9 ?_
 refine C.ifd rfl (fun c11 => ?_) (fun c11 => ?_)
 ·have h2 := c11
  refine sq fun _ J12 => ?_
  refine RS.o (D.buildS T40 F40 (ps := []) rfl rfl) ?_
  refine RS.sa C40 B2 (fun w13 y13 N13 => ?_)
  replace hE := hE.trans (y13.belo)
  have zw13 := y13.size
  replace B2 := N13
  refine RS.asI rfl ?_
  refine nl J12 ?_
  refine wp_ret ?_
  refine retAI V40 C40 B2 4 ?_
  exact ⟨_, rfl, hE, _, _, _, rfl, .inr ⟨fun h => by have := hj.2 h.2; omega, rfl, rfl⟩⟩
 have h2 := c11
 refine wp_skip ?_
 refine J8 _ _ ?_
 refine sq fun _ J14 => ?_
 refine RS.move (v := .string _) rfl ?_
 refine RS.o (D.buildS T40 F40 (ps := [(0, .int _ _), (3, .string _)]) rfl rfl) ?_
 refine RS.sa C40 B2 (fun w15 y15 N15 => ?_)
 replace hE := hE.trans (y15.belo)
 have zw15 := y15.size
 replace B2 := N15
 refine RS.asI rfl ?_
 refine nl J14 ?_
 refine wp_ret ?_
 refine retAI V40 C40 B2 4 ?_
 exact ⟨_, rfl, hE, _, _, _, rfl, .inl ⟨⟨by omega, hj.1 (by omega)⟩, rfl, rfl, rfl⟩⟩
theorem C2 : Tryz.prog.cellsOf 2 = 1 := by kernel_rfl
theorem C9 : Tryz.prog.cellsOf 9 = 1 := by kernel_rfl
theorem C38 : Tryz.prog.cellsOf 38 = 1 := by kernel_rfl
theorem E108 : Enters Tryz.prog 108 := .mk Tryz.func108 (by kernel_rfl) rfl
theorem E171 : Enters Tryz.prog 171 := .mk Tryz.func171 (by kernel_rfl) rfl
theorem E172 : Enters Tryz.prog 172 := .mk Tryz.func172 (by kernel_rfl) rfl
theorem E173 : Enters Tryz.prog 173 := .mk Tryz.func173 (by kernel_rfl) rfl
theorem E232 : Enters Tryz.prog 232 := .mk Tryz.func232 (by kernel_rfl) rfl
theorem E239 : Enters Tryz.prog 239 := .mk Tryz.func239 (by kernel_rfl) rfl
theorem E272 : Enters Tryz.prog 272 := .mk Tryz.func272 (by kernel_rfl) rfl
theorem E277 : Enters Tryz.prog 277 := .mk Tryz.func277 (by kernel_rfl) rfl
theorem E289 : Enters Tryz.prog 289 := .mk Tryz.func289 (by kernel_rfl) rfl
theorem E290 : Enters Tryz.prog 290 := .mk Tryz.func290 (by kernel_rfl) rfl
theorem checkV (k num bits : Int) (t : ByteArray) (hk : 0 ≤ k ∧ k < 256) (hnum : -9223372036854775808 ≤ num ∧ num ≤ 9223372036854775807) (hb : 0 ≤ bits ∧ bits < 18446744073709551616) (w : World) :
  Calls Tryz.prog 108 #[.agg ([.int .u8 k, .int .i64 num, .int .u64 bits, .string t] : List Value).toArray] w (Ret w fun v _ => v = .int .i64 (S.valE k num bits t)) := by
 have hE := Ext.refl w
 refine enterU 31 Tryz.func108 rfl rfl ?_
 refine sq fun _ J1 => ?_
 refine RS.box rfl rfl (fun b2 w2 e2 s2 x2 B2 => ?_)
 refine RS.nm ?_
 replace hE := Ext.tr hE x2
 have zw2 := x2.size
 refine RS.asI rfl ?_
 refine nl J1 (sq fun _ J3 => ?_)
 refine RS.alloc T40 (fun b4 w4 e4 s4 x4 B4 => ?_)
 refine RS.nm ?_
 replace hE := Ext.tr hE x4
 replace B2 := B2.ext x4
 have zw4 := x4.size
 refine nl J3 ?_
 refine wx fun _ J5 => ?_
 refine sq fun _ J6 => ?_
 refine RS.fl 0 V40 rfl C5 ?_
 refine RS.ld V5 B2 ?_
 refine nl J6 ?_
 refine wp_block ?_
 refine sq fun _ J7 => ?_
 refine RS.o (D.eq rfl rfl) ?_
 refine RS.asB rfl ?_
 refine nl J7 ?_
 refine C.ife rfl (fun c8 => ?_) (fun c8 => ?_)
 ·refine region ?_
  refine RS.fl 1 V40 rfl C2 ?_
  refine RS.ld V2 B2 ?_
  refine RS.call E171 (numberV _ _) rfl (fun v9 w9 x9 A9 => ?_)
  replace hE := Ext.tr hE x9
  replace B2 := B2.ext x9
  replace B4 := B4.ext x9
  have zw9 := x9.size
  subst A9
  refine RS.nm ?_
  refine RS.sa C40 B4 (fun w10 y10 N10 => ?_)
  replace hE := hE.trans (y10.belo)
  replace B2 := B2.sto y10
  have zw10 := y10.size
  replace B4 := N10
  refine nl J5 ?_
  refine wx fun _ J11 => ?_
  refine sq fun _ J12 => ?_
  refine RS.la V40 C40 B2 4 ?_
  refine RS.la V40 C40 B4 4 ?_
  refine RS.o (D.neA rfl rfl V40 rfl (by kernel_rfl) (by kernel_rfl) (by kernel_rfl)) ?_
  refine RS.mvB rfl ?_
  refine RS.splitb 27 rfl rfl (fun c13 => ?_) (fun c13 => ?_)
  ·refine RS.nm ?_
   have hq := of_decide_eq_false ((S.eqV _ _ _ _ _ _ _ _).symm.trans (Eq.mp (Bool.not_eq_true' _) c13))
   refine RS.skT 27 ?_
   refine RS.skT 27 ?_
   refine RS.skT 27 ?_
   refine RS.pkt ?_
   refine nl J12 ?_
   refine C.ift rfl ?_
   refine sq fun _ J14 => ?_
   refine RS.asI rfl ?_
   refine nl J14 ?_
   refine wp_ret ?_
   refine retI rfl rfl ?_
   refine ⟨_, rfl, hE, congrArg (Value.int .i64) ?_⟩
   first | (refine S.valE_pos ?_; grind [S.FineV, S.TextOk]) | (refine S.valE_neg ?_; grind [S.FineV, S.TextOk])
  refine RS.nm ?_
  have hq := of_decide_eq_true ((S.eqV _ _ _ _ _ _ _ _).symm.trans (Eq.mp (Bool.not_eq_false' _) c13))
  refine RS.wt 27 ?_
  refine RS.fl 0 V40 rfl C5 ?_
  refine RS.wt 27 ?_
  refine RS.ld V5 B2 ?_
  refine RS.wt 27 ?_
  refine RS.o (D.eq rfl rfl) ?_
  refine RS.pk ?_
  refine nl J12 ?_
  refine C.ife rfl (fun c15 => ?_) (fun c15 => ?_)
  ·refine wx fun _ J16 => ?_
   refine region ?_
   refine RS.asI rfl ?_
   refine nl J16 ?_
   refine wp_ret ?_
   refine retI rfl rfl ?_
   refine ⟨_, rfl, hE, congrArg (Value.int .i64) ?_⟩
   first | (refine S.valE_pos ?_; grind [S.FineV, S.TextOk]) | (refine S.valE_neg ?_; grind [S.FineV, S.TextOk])
  refine wp_skip ?_
  refine J11 _ _ ?_
  refine sq fun _ J17 => ?_
  refine RS.asI rfl ?_
  refine nl J17 ?_
  refine wp_ret ?_
  refine retI rfl rfl ?_
  refine ⟨_, rfl, hE, congrArg (Value.int .i64) ?_⟩
  first | (refine S.valE_pos ?_; grind [S.FineV, S.TextOk]) | (refine S.valE_neg ?_; grind [S.FineV, S.TextOk])
 refine wx fun _ J18 => ?_
 refine region ?_
 refine RS.o (D.eq rfl rfl) ?_
 refine RS.asB rfl ?_
 refine nl J18 ?_
 refine C.ife rfl (fun c19 => ?_) (fun c19 => ?_)
 ·refine region ?_
  refine RS.fl 2 V40 rfl C38 ?_
  refine RS.ld V38 B2 ?_
  refine RS.call E172 (floatV _ (by omega) _) rfl (fun v20 w20 x20 A20 => ?_)
  replace hE := Ext.tr hE x20
  replace B2 := B2.ext x20
  replace B4 := B4.ext x20
  have zw20 := x20.size
  subst A20
  refine RS.nm ?_
  refine RS.sa C40 B4 (fun w21 y21 N21 => ?_)
  replace hE := hE.trans (y21.belo)
  replace B2 := B2.sto y21
  have zw21 := y21.size
  replace B4 := N21
  refine nl J5 ?_
  refine wx fun _ J22 => ?_
  refine sq fun _ J23 => ?_
  refine RS.la V40 C40 B2 4 ?_
  refine RS.la V40 C40 B4 4 ?_
  refine RS.o (D.neA rfl rfl V40 rfl (by kernel_rfl) (by kernel_rfl) (by kernel_rfl)) ?_
  refine RS.mvB rfl ?_
  refine RS.splitb 27 rfl rfl (fun c24 => ?_) (fun c24 => ?_)
  ·refine RS.nm ?_
   have hq := of_decide_eq_false ((S.eqV _ _ _ _ _ _ _ _).symm.trans (Eq.mp (Bool.not_eq_true' _) c24))
   refine RS.skT 27 ?_
   refine RS.skT 27 ?_
   refine RS.skT 27 ?_
   refine RS.pkt ?_
   refine nl J23 ?_
   refine C.ift rfl ?_
   refine sq fun _ J25 => ?_
   refine RS.asI rfl ?_
   refine nl J25 ?_
   refine wp_ret ?_
   refine retI rfl rfl ?_
   refine ⟨_, rfl, hE, congrArg (Value.int .i64) ?_⟩
   first | (refine S.valE_pos ?_; grind [S.FineV, S.TextOk]) | (refine S.valE_neg ?_; grind [S.FineV, S.TextOk])
  refine RS.nm ?_
  have hq := of_decide_eq_true ((S.eqV _ _ _ _ _ _ _ _).symm.trans (Eq.mp (Bool.not_eq_false' _) c24))
  refine RS.wt 27 ?_
  refine RS.fl 0 V40 rfl C5 ?_
  refine RS.wt 27 ?_
  refine RS.ld V5 B2 ?_
  refine RS.wt 27 ?_
  refine RS.o (D.eq rfl rfl) ?_
  refine RS.pk ?_
  refine nl J23 ?_
  refine C.ife rfl (fun c26 => ?_) (fun c26 => ?_)
  ·refine wx fun _ J27 => ?_
   refine region ?_
   refine RS.asI rfl ?_
   refine nl J27 ?_
   refine wp_ret ?_
   refine retI rfl rfl ?_
   refine ⟨_, rfl, hE, congrArg (Value.int .i64) ?_⟩
   first | (refine S.valE_pos ?_; grind [S.FineV, S.TextOk]) | (refine S.valE_neg ?_; grind [S.FineV, S.TextOk])
  refine wp_skip ?_
  refine J22 _ _ ?_
  refine sq fun _ J28 => ?_
  refine RS.asI rfl ?_
  refine nl J28 ?_
  refine wp_ret ?_
  refine retI rfl rfl ?_
  refine ⟨_, rfl, hE, congrArg (Value.int .i64) ?_⟩
  first | (refine S.valE_pos ?_; grind [S.FineV, S.TextOk]) | (refine S.valE_neg ?_; grind [S.FineV, S.TextOk])
 refine wx fun _ J29 => ?_
 refine region ?_
 refine RS.o (D.eq rfl rfl) ?_
 refine RS.asB rfl ?_
 refine nl J29 ?_
 refine C.ife rfl (fun c30 => ?_) (fun c30 => ?_)
 ·refine region ?_
  refine RS.fl 3 V40 rfl C9 ?_
  refine RS.ld V9 B2 ?_
  refine RS.call E173 (textV _ _) rfl (fun v31 w31 x31 A31 => ?_)
  replace hE := Ext.tr hE x31
  replace B2 := B2.ext x31
  replace B4 := B4.ext x31
  have zw31 := x31.size
  obtain ⟨k2, t2, e2, rfl, hT⟩ := A31
  refine RS.nm ?_
  refine RS.move (v := .tuple _) rfl ?_
  refine RS.exA ?_
  refine RS.exI ?_
  refine RS.sa C40 B4 (fun w32 y32 N32 => ?_)
  replace hE := hE.trans (y32.belo)
  replace B2 := B2.sto y32
  have zw32 := y32.size
  replace B4 := N32
  refine nl J5 ?_
  refine wx fun _ J33 => ?_
  refine sq fun _ J34 => ?_
  refine RS.la V40 C40 B2 4 ?_
  refine RS.la V40 C40 B4 4 ?_
  refine RS.o (D.neA rfl rfl V40 rfl (by kernel_rfl) (by kernel_rfl) (by kernel_rfl)) ?_
  refine RS.mvB rfl ?_
  refine RS.splitb 27 rfl rfl (fun c35 => ?_) (fun c35 => ?_)
  ·refine RS.nm ?_
   have hq := of_decide_eq_false ((S.eqV _ _ _ _ _ _ _ _).symm.trans (Eq.mp (Bool.not_eq_true' _) c35))
   refine RS.skT 27 ?_
   refine RS.skT 27 ?_
   refine RS.skT 27 ?_
   refine RS.pkt ?_
   refine nl J34 ?_
   refine C.ift rfl ?_
   refine sq fun _ J36 => ?_
   refine RS.asI rfl ?_
   refine nl J36 ?_
   refine wp_ret ?_
   refine retI rfl rfl ?_
   refine ⟨_, rfl, hE, congrArg (Value.int .i64) ?_⟩
   first | (refine S.valE_pos ?_; grind [S.FineV, S.TextOk]) | (refine S.valE_neg ?_; grind [S.FineV, S.TextOk])
  refine RS.nm ?_
  have hq := of_decide_eq_true ((S.eqV _ _ _ _ _ _ _ _).symm.trans (Eq.mp (Bool.not_eq_false' _) c35))
  refine RS.wt 27 ?_
  refine RS.fl 0 V40 rfl C5 ?_
  refine RS.wt 27 ?_
  refine RS.ld V5 B2 ?_
  refine RS.wt 27 ?_
  refine RS.o (D.eq rfl rfl) ?_
  refine RS.pk ?_
  refine nl J34 ?_
  refine C.ife rfl (fun c37 => ?_) (fun c37 => ?_)
  ·refine wx fun _ J38 => ?_
   refine region ?_
   refine RS.asI rfl ?_
   refine nl J38 ?_
   refine wp_ret ?_
   refine retI rfl rfl ?_
   refine ⟨_, rfl, hE, congrArg (Value.int .i64) ?_⟩
   first | (refine S.valE_pos ?_; grind [S.FineV, S.TextOk]) | (refine S.valE_neg ?_; grind [S.FineV, S.TextOk])
  refine wp_skip ?_
  refine J33 _ _ ?_
  refine sq fun _ J39 => ?_
  refine RS.asI rfl ?_
  refine nl J39 ?_
  refine wp_ret ?_
  refine retI rfl rfl ?_
  refine ⟨_, rfl, hE, congrArg (Value.int .i64) ?_⟩
  first | (refine S.valE_pos ?_; grind [S.FineV, S.TextOk]) | (refine S.valE_neg ?_; grind [S.FineV, S.TextOk])
 refine wp_skip ?_
 refine J5 _ _ ?_
 refine wx fun _ J40 => ?_
 refine sq fun _ J41 => ?_
 refine RS.la V40 C40 B2 4 ?_
 refine RS.la V40 C40 B4 4 ?_
 refine RS.o (D.neA rfl rfl V40 rfl (by kernel_rfl) (by kernel_rfl) (by kernel_rfl)) ?_
 refine RS.mvB rfl ?_
 refine RS.splitb 27 rfl rfl (fun c42 => ?_) (fun c42 => ?_)
 ·refine RS.nm ?_
  have hq := of_decide_eq_false ((S.eqV _ _ _ _ _ _ _ _).symm.trans (Eq.mp (Bool.not_eq_true' _) c42))
  refine RS.skT 27 ?_
  refine RS.skT 27 ?_
  refine RS.skT 27 ?_
  refine RS.pkt ?_
  refine nl J41 ?_
  refine C.ift rfl ?_
  refine sq fun _ J43 => ?_
  refine RS.asI rfl ?_
  refine nl J43 ?_
  refine wp_ret ?_
  refine retI rfl rfl ?_
  refine ⟨_, rfl, hE, congrArg (Value.int .i64) ?_⟩
  first | (refine S.valE_pos ?_; grind [S.FineV, S.TextOk]) | (refine S.valE_neg ?_; grind [S.FineV, S.TextOk])
 refine RS.nm ?_
 have hq := of_decide_eq_true ((S.eqV _ _ _ _ _ _ _ _).symm.trans (Eq.mp (Bool.not_eq_false' _) c42))
 refine RS.wt 27 ?_
 refine RS.fl 0 V40 rfl C5 ?_
 refine RS.wt 27 ?_
 refine RS.ld V5 B2 ?_
 refine RS.wt 27 ?_
 refine RS.o (D.eq rfl rfl) ?_
 refine RS.pk ?_
 refine nl J41 ?_
 refine C.ife rfl (fun c44 => ?_) (fun c44 => ?_)
 ·refine wx fun _ J45 => ?_
  refine region ?_
  refine RS.asI rfl ?_
  refine nl J45 ?_
  refine wp_ret ?_
  refine retI rfl rfl ?_
  refine ⟨_, rfl, hE, congrArg (Value.int .i64) ?_⟩
  first | (refine S.valE_pos ?_; grind [S.FineV, S.TextOk]) | (refine S.valE_neg ?_; grind [S.FineV, S.TextOk])
 refine wp_skip ?_
 refine J40 _ _ ?_
 refine sq fun _ J46 => ?_
 refine RS.asI rfl ?_
 refine nl J46 ?_
 refine wp_ret ?_
 refine retI rfl rfl ?_
 refine ⟨_, rfl, hE, congrArg (Value.int .i64) ?_⟩
 first | (refine S.valE_pos ?_; grind [S.FineV, S.TextOk]) | (refine S.valE_neg ?_; grind [S.FineV, S.TextOk])
theorem checkR (k num bits : Int) (t : ByteArray) (hk : 0 ≤ k ∧ k < 256) (hnum : -9223372036854775808 ≤ num ∧ num ≤ 9223372036854775807) (hb : 0 ≤ bits ∧ bits < 18446744073709551616) (hs : t.size ≤ 1000000) (w : World) :
  Calls Tryz.prog 269 #[.agg ([.int .u8 k, .int .i64 num, .int .u64 bits, .string t] : List Value).toArray] w (Ret w fun v _ => v = .int .i64 (S.valE k num bits t)) := by
 have hE := Ext.refl w
 refine enterU 53 Tryz.func269 rfl rfl ?_
 refine sq fun _ J1 => ?_
 refine RS.box rfl rfl (fun b2 w2 e2 s2 x2 B2 => ?_)
 refine RS.nm ?_
 replace hE := Ext.tr hE x2
 have zw2 := x2.size
 refine RS.asI rfl ?_
 refine nl J1 ?_
 refine wx fun _ J3 => ?_
 refine sq fun _ J4 => ?_
 refine RS.fl 0 V40 rfl C5 ?_
 refine RS.ld V5 B2 ?_
 refine nl J4 ?_
 refine wp_block ?_
 refine sq fun _ J5 => ?_
 refine RS.o (D.eq rfl rfl) ?_
 refine RS.asB rfl ?_
 refine nl J5 ?_
 refine C.ife rfl (fun c6 => ?_) (fun c6 => ?_)
 ·refine wx fun _ J7 => ?_
  refine region ?_
  refine RS.fl 2 V40 rfl C38 ?_
  refine RS.ld V38 B2 ?_
  refine RS.o (D.eq rfl rfl) ?_
  refine RS.mvB rfl ?_
  refine RS.splite 10 rfl rfl (fun c8 => ?_) (fun c8 => ?_)
  ·refine RS.nm ?_
   refine RS.wt 10 ?_
   refine RS.fl 3 V40 rfl C9 ?_
   refine RS.wt 10 ?_
   refine RS.ld V9 B2 ?_
   refine RS.wt 10 ?_
   refine RS.o (D.seq rfl rfl) ?_
   refine RS.pk ?_
   refine nl J7 ?_
   refine C.ifb rfl (fun c9 => ?_) (fun c9 => ?_)
   ·have ht1 : t = ByteArray.empty := of_decide_eq_true ((strEq _ _).symm.trans c9)
    refine sq fun _ J10 => ?_
    refine RS.asI rfl ?_
    refine nl J10 ?_
    refine wp_ret ?_
    refine retI rfl rfl ?_
    refine ⟨_, rfl, hE, congrArg (Value.int .i64) ?_⟩
    first | (refine S.valE_pos ?_; grind [S.FineV, S.TextOk]) | (refine S.valE_neg ?_; grind [S.FineV, S.TextOk])
   have ht1 : t ≠ ByteArray.empty := of_decide_eq_false ((strEq _ _).symm.trans c9)
   refine wp_skip ?_
   refine J3 _ _ ?_
   refine sq fun _ J11 => ?_
   refine RS.asI rfl ?_
   refine nl J11 ?_
   refine wp_ret ?_
   refine retI rfl rfl ?_
   refine ⟨_, rfl, hE, congrArg (Value.int .i64) ?_⟩
   first | (refine S.valE_pos ?_; grind [S.FineV, S.TextOk]) | (refine S.valE_neg ?_; grind [S.FineV, S.TextOk])
  refine RS.nm ?_
  refine RS.skF 10 ?_
  refine RS.skF 10 ?_
  refine RS.skF 10 ?_
  refine RS.pkf ?_
  refine nl J7 ?_
  refine C.iff rfl ?_
  refine wp_skip ?_
  refine J3 _ _ ?_
  refine sq fun _ J12 => ?_
  refine RS.asI rfl ?_
  refine nl J12 ?_
  refine wp_ret ?_
  refine retI rfl rfl ?_
  refine ⟨_, rfl, hE, congrArg (Value.int .i64) ?_⟩
  first | (refine S.valE_pos ?_; grind [S.FineV, S.TextOk]) | (refine S.valE_neg ?_; grind [S.FineV, S.TextOk])
 refine wx fun _ J13 => ?_
 refine region ?_
 refine RS.o (D.eq rfl rfl) ?_
 refine RS.asB rfl ?_
 refine nl J13 ?_
 refine C.ife rfl (fun c14 => ?_) (fun c14 => ?_)
 ·refine wx fun _ J15 => ?_
  refine regionX Ext [(0, .q), (1, .q), (2, .q), (3, .q), (4, .q), (5, .q), (6, .q), (7, .q), (8, .q), (9, .q), (10, .q), (12, .q), (13, .q), (11, .e), (14, .q), (15, .q)] mixed Ext.refl (fun h k => h.tr k) (by kernel_rfl) (fun w16 x16 => ?_)
  replace hE := Ext.tr hE x16
  replace B2 := B2.ext x16
  have zw16 := x16.size
  refine RX.fl 1 V40 rfl C2 ?_
  refine RX.o (fun w' hw => D.load rfl V2 rfl ((B2.ext hw).cell rfl)) ?_
  refine RX.o (fun w' hw => D.eq rfl rfl) ?_
  refine RX.mvB rfl ?_
  refine RX.splite 20 rfl rfl (fun c17 => ?_) (fun c17 => ?_)
  ·refine RX.nm ?_
   refine RX.wt 20 ?_
   refine RX.fl 3 V40 rfl C9 ?_
   refine RX.wt 20 ?_
   refine RX.o (fun w' hw => D.load rfl V9 rfl ((B2.ext hw).cell rfl)) ?_
   refine RX.wt 20 ?_
   refine RX.o (fun w' hw => D.seq rfl rfl) ?_
   refine RX.pick (v := .bool _) rfl rfl ?_
   refine RX.mvB rfl ?_
   refine RX.splitb 25 rfl rfl (fun c18 => ?_) (fun c18 => ?_)
   ·refine RX.nm ?_
    have ht2 : t = ByteArray.empty := of_decide_eq_true ((strEq _ _).symm.trans c18)
    refine RX.wt 25 ?_
    refine RX.fl 2 V40 rfl C38 ?_
    refine RX.wt 25 ?_
    refine RX.o (fun w' hw => D.load rfl V38 rfl ((B2.ext hw).cell rfl)) ?_
    refine RX.wt 25 ?_
    refine RX.fl 2 V40 rfl C38 ?_
    refine RX.wt 25 ?_
    refine RX.o (fun w' hw => D.load rfl V38 rfl ((B2.ext hw).cell rfl)) ?_
    refine RX.wt 25 ?_
    refine RX.eff ?_
    refine RS.call E289 (canonR _ (by omega) _) rfl (fun v19 w19 x19 A19 => ?_)
    replace hE := Ext.tr hE x19
    replace B2 := B2.ext x19
    have zw19 := x19.size
    subst A19
    refine RS.nm ?_
    refine RS.nil ⟨x19, ?_⟩
    refine RX.wt 25 ?_
    refine RX.o (fun w' hw => D.eq rfl rfl) ?_
    refine RX.pick (v := .bool _) rfl rfl ?_
    refine RX.nil (J15 _ _ ?_)
    refine C.ife rfl (fun c20 => ?_) (fun c20 => ?_)
    ·refine wx fun _ J21 => ?_
     refine region ?_
     refine RS.asI rfl ?_
     refine nl J21 ?_
     refine wp_ret ?_
     refine retI rfl rfl ?_
     refine ⟨_, rfl, hE, congrArg (Value.int .i64) ?_⟩
     first | (refine S.valE_pos ?_; grind [S.FineV, S.TextOk]) | (refine S.valE_neg ?_; grind [S.FineV, S.TextOk])
    refine wp_skip ?_
    refine J3 _ _ ?_
    refine sq fun _ J22 => ?_
    refine RS.asI rfl ?_
    refine nl J22 ?_
    refine wp_ret ?_
    refine retI rfl rfl ?_
    refine ⟨_, rfl, hE, congrArg (Value.int .i64) ?_⟩
    first | (refine S.valE_pos ?_; grind [S.FineV, S.TextOk]) | (refine S.valE_neg ?_; grind [S.FineV, S.TextOk])
   refine RX.nm ?_
   have ht2 : t ≠ ByteArray.empty := of_decide_eq_false ((strEq _ _).symm.trans c18)
   refine RX.skF 25 ?_
   refine RX.skF 25 ?_
   refine RX.skF 25 ?_
   refine RX.skF 25 ?_
   refine RX.skF 25 ?_
   refine RX.skF 25 ?_
   refine RX.pick (v := .bool false) rfl rfl ?_
   refine RX.nil (J15 _ _ ?_)
   refine C.iff rfl ?_
   refine wp_skip ?_
   refine J3 _ _ ?_
   refine sq fun _ J23 => ?_
   refine RS.asI rfl ?_
   refine nl J23 ?_
   refine wp_ret ?_
   refine retI rfl rfl ?_
   refine ⟨_, rfl, hE, congrArg (Value.int .i64) ?_⟩
   first | (refine S.valE_pos ?_; grind [S.FineV, S.TextOk]) | (refine S.valE_neg ?_; grind [S.FineV, S.TextOk])
  refine RX.nm ?_
  refine RX.skF 20 ?_
  refine RX.skF 20 ?_
  refine RX.skF 20 ?_
  refine RX.pick (v := .bool false) rfl rfl ?_
  refine RX.mvB rfl ?_
  refine RX.skF 25 ?_
  refine RX.skF 25 ?_
  refine RX.skF 25 ?_
  refine RX.skF 25 ?_
  refine RX.skF 25 ?_
  refine RX.skF 25 ?_
  refine RX.pick (v := .bool false) rfl rfl ?_
  refine RX.nil (J15 _ _ ?_)
  refine C.iff rfl ?_
  refine wp_skip ?_
  refine J3 _ _ ?_
  refine sq fun _ J24 => ?_
  refine RS.asI rfl ?_
  refine nl J24 ?_
  refine wp_ret ?_
  refine retI rfl rfl ?_
  refine ⟨_, rfl, hE, congrArg (Value.int .i64) ?_⟩
  first | (refine S.valE_pos ?_; grind [S.FineV, S.TextOk]) | (refine S.valE_neg ?_; grind [S.FineV, S.TextOk])
 refine wx fun _ J25 => ?_
 refine region ?_
 refine RS.o (D.eq rfl rfl) ?_
 refine RS.asB rfl ?_
 refine nl J25 ?_
 refine C.ife rfl (fun c26 => ?_) (fun c26 => ?_)
 ·refine wx fun _ J27 => ?_
  refine region ?_
  refine RS.fl 1 V40 rfl C2 ?_
  refine RS.ld V2 B2 ?_
  refine RS.o (D.eq rfl rfl) ?_
  refine RS.mvB rfl ?_
  refine RS.splite 38 rfl rfl (fun c28 => ?_) (fun c28 => ?_)
  ·refine RS.nm ?_
   refine RS.wt 38 ?_
   refine RS.fl 2 V40 rfl C38 ?_
   refine RS.wt 38 ?_
   refine RS.ld V38 B2 ?_
   refine RS.wt 38 ?_
   refine RS.o (D.eq rfl rfl) ?_
   refine RS.pk ?_
   refine RS.mvB rfl ?_
   refine RS.splite 43 rfl rfl (fun c29 => ?_) (fun c29 => ?_)
   ·refine RS.nm ?_
    refine RS.wt 43 ?_
    refine RS.fl 3 V40 rfl C9 ?_
    refine RS.wt 43 ?_
    refine RS.ld V9 B2 ?_
    refine RS.wt 43 ?_
    refine RS.o (D.lenStr rfl V9) ?_
    refine RS.wt 43 ?_
    refine RS.o (D.le rfl rfl) ?_
    refine RS.pk ?_
    refine RS.mvB rfl ?_
    refine RS.splitd 49 rfl rfl (fun c30 => ?_) (fun c30 => ?_)
    ·refine RS.nm ?_
     refine RS.wt 49 ?_
     refine RS.fl 3 V40 rfl C9 ?_
     refine RS.wt 49 ?_
     refine RS.ld V9 B2 ?_
     refine RS.wt 49 ?_
     refine RS.call E290 (printable _ hs _) rfl (fun v31 w31 x31 A31 => ?_)
     replace hE := Ext.tr hE x31
     replace B2 := B2.ext x31
     have zw31 := x31.size
     subst A31
     refine RS.nm ?_
     refine RS.pk ?_
     refine nl J27 ?_
     refine C.ifb rfl (fun c32 => ?_) (fun c32 => ?_)
     ·have hp := of_decide_eq_true c32
      refine sq fun _ J33 => ?_
      refine RS.asI rfl ?_
      refine nl J33 ?_
      refine wp_ret ?_
      refine retI rfl rfl ?_
      refine ⟨_, rfl, hE, congrArg (Value.int .i64) ?_⟩
      first | (refine S.valE_pos ?_; grind [S.FineV, S.TextOk]) | (refine S.valE_neg ?_; grind [S.FineV, S.TextOk])
     have hp := of_decide_eq_false c32
     refine wp_skip ?_
     refine J3 _ _ ?_
     refine sq fun _ J34 => ?_
     refine RS.asI rfl ?_
     refine nl J34 ?_
     refine wp_ret ?_
     refine retI rfl rfl ?_
     refine ⟨_, rfl, hE, congrArg (Value.int .i64) ?_⟩
     first | (refine S.valE_pos ?_; grind [S.FineV, S.TextOk]) | (refine S.valE_neg ?_; grind [S.FineV, S.TextOk])
    refine RS.nm ?_
    refine RS.skF 49 ?_
    refine RS.skF 49 ?_
    refine RS.skF 49 ?_
    refine RS.pkf ?_
    refine nl J27 ?_
    refine C.iff rfl ?_
    refine wp_skip ?_
    refine J3 _ _ ?_
    refine sq fun _ J35 => ?_
    refine RS.asI rfl ?_
    refine nl J35 ?_
    refine wp_ret ?_
    refine retI rfl rfl ?_
    refine ⟨_, rfl, hE, congrArg (Value.int .i64) ?_⟩
    first | (refine S.valE_pos ?_; grind [S.FineV, S.TextOk]) | (refine S.valE_neg ?_; grind [S.FineV, S.TextOk])
   refine RS.nm ?_
   refine RS.skF 43 ?_
   refine RS.skF 43 ?_
   refine RS.skF 43 ?_
   refine RS.skF 43 ?_
   refine RS.pkf ?_
   refine RS.mvB rfl ?_
   refine RS.skF 49 ?_
   refine RS.skF 49 ?_
   refine RS.skF 49 ?_
   refine RS.pkf ?_
   refine nl J27 ?_
   refine C.iff rfl ?_
   refine wp_skip ?_
   refine J3 _ _ ?_
   refine sq fun _ J36 => ?_
   refine RS.asI rfl ?_
   refine nl J36 ?_
   refine wp_ret ?_
   refine retI rfl rfl ?_
   refine ⟨_, rfl, hE, congrArg (Value.int .i64) ?_⟩
   first | (refine S.valE_pos ?_; grind [S.FineV, S.TextOk]) | (refine S.valE_neg ?_; grind [S.FineV, S.TextOk])
  refine RS.nm ?_
  refine RS.skF 38 ?_
  refine RS.skF 38 ?_
  refine RS.skF 38 ?_
  refine RS.pkf ?_
  refine RS.mvB rfl ?_
  refine RS.skF 43 ?_
  refine RS.skF 43 ?_
  refine RS.skF 43 ?_
  refine RS.skF 43 ?_
  refine RS.pkf ?_
  refine RS.mvB rfl ?_
  refine RS.skF 49 ?_
  refine RS.skF 49 ?_
  refine RS.skF 49 ?_
  refine RS.pkf ?_
  refine nl J27 ?_
  refine C.iff rfl ?_
  refine wp_skip ?_
  refine J3 _ _ ?_
  refine sq fun _ J37 => ?_
  refine RS.asI rfl ?_
  refine nl J37 ?_
  refine wp_ret ?_
  refine retI rfl rfl ?_
  refine ⟨_, rfl, hE, congrArg (Value.int .i64) ?_⟩
  first | (refine S.valE_pos ?_; grind [S.FineV, S.TextOk]) | (refine S.valE_neg ?_; grind [S.FineV, S.TextOk])
 refine wp_skip ?_
 refine J3 _ _ ?_
 refine sq fun _ J38 => ?_
 refine RS.asI rfl ?_
 refine nl J38 ?_
 refine wp_ret ?_
 refine retI rfl rfl ?_
 refine ⟨_, rfl, hE, congrArg (Value.int .i64) ?_⟩
 first | (refine S.valE_pos ?_; grind [S.FineV, S.TextOk]) | (refine S.valE_neg ?_; grind [S.FineV, S.TextOk])
theorem encV (k num bits : Int) (t : ByteArray) (hk : 0 ≤ k ∧ k < 256) (hnum : -9223372036854775808 ≤ num ∧ num ≤ 9223372036854775807) (hb : 0 ≤ bits ∧ bits < 18446744073709551616) (hF : S.FineV k num bits t) (hs : t.size ≤ 1000) (w : World) :
  Calls Tryz.prog 240 #[.agg ([.int .u8 k, .int .i64 num, .int .u64 bits, .string t] : List Value).toArray] w (Ret w fun v w' => ∃ a' n' c', v = .tuple #[.slice a' n' c', .int .i64 0] ∧ IOwn w.heap.size w' 5 .u8 a' n' c' (S.valS k num bits t)) := by
 have hk3 : k = 1 ∨ k = 2 ∨ k = 3 := by rcases hF with h | h | h <;> simp [h.1]
 have hE := Ext.refl w
 refine enterU 52 Tryz.func240 rfl rfl ?_
 refine sq fun _ J1 => ?_
 refine RS.box rfl rfl (fun b2 w2 e2 s2 x2 B2 => ?_)
 refine RS.nm ?_
 replace hE := Ext.tr hE x2
 have zw2 := x2.size
 refine RS.asS rfl ?_
 refine RS.asI rfl ?_
 refine nl J1 ?_
 refine wx fun _ J3 => ?_
 refine sq fun _ J4 => ?_
 refine RS.la V40 C40 B2 4 ?_
 refine RS.call E108 (checkV _ _ _ _ hk hnum hb _) rfl (fun v5 w5 x5 A5 => ?_)
 replace hE := Ext.tr hE x5
 replace B2 := B2.ext x5
 have zw5 := x5.size
 subst A5
 rw [← S.valE_pos hF]
 refine RS.nm ?_
 refine RS.asI rfl ?_
 refine nl J4 (sq fun _ J6 => ?_)
 refine RS.mvI rfl ?_
 refine RS.o (D.ne rfl rfl) ?_
 refine nl J6 ?_
 refine C.ifn rfl (fun c7 => ?_) (fun c7 => ?_)
 ·exact absurd rfl c7
 refine wp_skip ?_
 refine J3 _ _ ?_
 refine sq fun _ J8 => ?_
 refine RS.fl 0 V40 rfl C5 ?_
 refine RS.ld V5 B2 ?_
 refine RS.buildSlice (xs := [.tmp 15]) (vs := [.int _ _]) (cs := [.int _ _]) V61 T5 (by decide) rfl rfl rfl rfl rfl rfl (by intro v hv; simp only [List.mem_cons, List.not_mem_nil, or_false] at hv; subst hv; rfl) rfl (fun b9 w9 e9 s9 x9 B9 => ?_)
 refine RS.nm ?_
 replace hE := Ext.tr hE x9
 replace B2 := B2.ext x9
 have zw9 := x9.size
 have O1 : IOwn w5.heap.size w9 5 .u8 (some ⟨b9, 0, none⟩) 1 1 [_] := IOwn.of_blk B9 rfl rfl (by omega) (.cons (by simp only [lim]; omega) (.nil _)) (by decide)
 refine RS.asS rfl ?_
 refine nl J8 ?_
 refine wx fun _ J10 => ?_
 refine sq fun _ J11 => ?_
 refine RS.fl 0 V40 rfl C5 ?_
 refine RS.ld V5 B2 ?_
 refine nl J11 ?_
 refine wp_block ?_
 refine sq fun _ J12 => ?_
 refine RS.o (D.eq rfl rfl) ?_
 refine RS.asB rfl ?_
 refine nl J12 ?_
 refine C.ife rfl (fun c13 => ?_) (fun c13 => ?_)
 ·refine region ?_
  refine RS.mvS rfl ?_
  refine RS.fl 1 V40 rfl C2 ?_
  refine RS.ld V2 B2 ?_
  refine RS.call E277 (signedW _ hnum _) rfl (fun v14 w14 x14 A14 => ?_)
  replace hE := Ext.tr hE x14
  replace B2 := B2.ext x14
  replace O1 := O1.ext x14
  have zw14 := x14.size
  obtain ⟨a14, n14, c14, rfl, O2⟩ := A14
  have hnl := O2.len
  have hnb := S.numS_len (S.zig num)
  refine RS.nm ?_
  refine RS.appendI O1 O2.row rfl rfl V61 T5 rfl (by omega) (by decide) (by omega) (fun a15 c15 w15 N15 x15 => ?_)
  refine RS.nm ?_
  replace hE := hE.trans (x15.belQ (fun _ h => (O1.lo _ h).1))
  replace B2 := B2.prQ x15 (fun _ h => (O1.lo _ h).1)
  have zw15 := x15.size
  replace O1 := N15
  refine RS.asS rfl ?_
  refine nl J10 (sq fun _ J16 => ?_)
  refine RS.mvS rfl ?_
  refine RS.asS rfl ?_
  refine RS.asI rfl ?_
  refine nl J16 ?_
  refine wp_ret ?_
  refine retSI ?_
  have e9 : S.valS k num bits t = [k] ++ S.numS (S.zig num) := by unfold S.valS; rw [if_pos (by omega)]
  rw [e9]
  refine ⟨_, rfl, hE, _, _, _, rfl, O1.base (fun k hk => by have := O1.lo k hk; omega)⟩
 refine wx fun _ J17 => ?_
 refine region ?_
 refine RS.o (D.eq rfl rfl) ?_
 refine RS.asB rfl ?_
 refine nl J17 ?_
 refine C.ife rfl (fun c18 => ?_) (fun c18 => ?_)
 ·refine wx fun _ J19 => ?_
  refine region ?_
  refine RS.asI rfl ?_
  refine nl J19 ?_
  refine wp_block ?_
  refine C.loop (A := Int × Option Addr × Nat × Nat) (fun p => [(5, .slice p.2.1 p.2.2.1 p.2.2.2), (6, .int .i64 p.1)]) [28, 29, 30, 31, 32, 33, 34, 35, 36, 37, 38, 39] (fun p w' => Pr (fun k => w5.heap.size ≤ k) w9 w' ∧ ((-8 ≤ p.1 ∧ p.1 ≤ 56) ∧ p.1 % 8 = 0 ∧ IOwn w5.heap.size w' 5 .u8 p.2.1 p.2.2.1 p.2.2.2 ([k] ++ (S.be8 bits).take ((56 - p.1) / 8).toNat))) (fun p => (p.1 + 8).toNat) (56, some ⟨b9, 0, none⟩, 1, 1) (by kernel_rfl) ?_ ?_
  ·exact ⟨Pr.refl _ _, ⟨by dsimp only; omega, by dsimp only; omega⟩, by dsimp only; omega, by simpa using O1⟩
  rintro p j w20 ⟨x20, hI⟩
  replace hE := hE.trans (x20.belo)
  replace B2 := B2.pro x20
  have zw20 := x20.size
  obtain ⟨i, ao, no, co⟩ := p
  dsimp only at hI
  obtain ⟨h1, h2, O1⟩ := hI
  have hol := O1.len
  simp only [List.length_append, List.length_singleton, List.length_take, S.be8_len] at hol
  refine C.nmU ?_
  refine wx fun _ J21 => ?_
  refine sq fun _ J22 => ?_
  refine RS.mvI rfl ?_
  refine RS.o (D.ge rfl rfl) ?_
  refine nl J22 ?_
  refine C.ifd rfl (fun c23 => ?_) (fun c23 => ?_)
  ·refine wp_skip ?_
   refine J21 _ _ ?_
   refine wx fun _ J24 => ?_
   refine wp_block ?_
   refine region ?_
   refine RS.mvS rfl ?_
   refine RS.fl 2 V40 rfl C38 ?_
   refine RS.ld V38 B2 ?_
   refine RS.mvI rfl ?_
   refine RS.ob (D.shr_u64 rfl rfl (by omega) (by constructor <;> omega)) (fun z25 => ?_)
   refine RS.o (D.conv rfl V38 V5 (W.u8m _)) ?_
   refine RS.buildSlice (xs := [.tmp 37]) (vs := [.int _ _]) (cs := [.int _ _]) V61 T5 (by decide) rfl rfl rfl rfl rfl rfl (by intro v hv; simp only [List.mem_cons, List.not_mem_nil, or_false] at hv; subst hv; rfl) rfl (fun b26 w26 e26 s26 x26 B26 => ?_)
   refine RS.nm ?_
   replace hE := Ext.tr hE x26
   replace x20 := x20.ext x26
   replace B2 := B2.ext x26
   replace O1 := O1.ext x26
   have zw26 := x26.size
   have Q1 : IRow .u8 (fun k => k = b26) w26 (some ⟨b26, 0, none⟩) 1 [_] := IRow.of_blk B26 rfl rfl rfl (.cons (by simp only [lim]; omega) (.nil _))
   refine RS.appendI O1 Q1 rfl rfl V61 T5 rfl (by omega) (by decide) (by omega) (fun a27 c27 w27 N27 x27 => ?_)
   refine RS.nm ?_
   replace hE := hE.trans (x27.belQ (fun _ h => (O1.lo _ h).1))
   replace x20 := x20.prnQ x27 (fun _ h => (O1.lo _ h).1)
   replace B2 := B2.prQ x27 (fun _ h => (O1.lo _ h).1)
   have zw27 := x27.size
   replace O1 := N27
   refine RS.asS rfl ?_
   refine nl J24 ?_
   refine region ?_
   refine RS.mvI rfl ?_
   refine RS.o (D.sub rfl rfl (W.i64 (by omega))) ?_
   refine RS.asI rfl ?_
   refine RS.nil ?_
   change Nx _ _ _ _ _ _ _ _
   refine C.next (i - 8, _, _, _) ⟨rfl, rfl, trivial⟩ (by kernel_rfl) ?_ ?_
   ·refine ⟨x20, ⟨by dsimp only; omega, by dsimp only; omega⟩, by dsimp only; omega, ?_⟩
    dsimp only
    rw [S.be8_snoc _ _ (by omega) h2, ← List.append_assoc]
    exact O1
   dsimp only; omega
  have hneg := c23
  rw [show i = -8 by omega, show ((56 - (-8 : Int)) / 8).toNat = 8 from rfl, List.take_of_length_le (by rw [S.be8_len]; exact Nat.le_refl _)] at O1
  refine wp_exit ?_
  refine J10 _ _ ?_
  refine sq fun _ J28 => ?_
  refine RS.mvS rfl ?_
  refine RS.asS rfl ?_
  refine RS.asI rfl ?_
  refine nl J28 ?_
  refine wp_ret ?_
  refine retSI ?_
  have e9 : S.valS k num bits t = [k] ++ S.be8 bits := by unfold S.valS; rw [if_neg (by omega), if_pos (by omega)]
  rw [e9]
  refine ⟨_, rfl, hE, _, _, _, rfl, O1.base (fun k hk => by have := O1.lo k hk; omega)⟩
 refine wx fun _ J29 => ?_
 refine region ?_
 refine RS.o (D.eq rfl rfl) ?_
 refine RS.asB rfl ?_
 refine nl J29 ?_
 refine C.ife rfl (fun c30 => ?_) (fun c30 => ?_)
 ·refine wx fun _ J31 => ?_
  refine region ?_
  refine RS.fl 3 V40 rfl C9 ?_
  refine RS.ld V9 B2 ?_
  refine RS.convSB rfl V9 V61 V5 (fun a32 c32 w32 x32 g32 s32 R32 => ?_)
  refine RS.nm ?_
  replace hE := Ext.tr hE x32
  replace B2 := B2.ext x32
  replace O1 := O1.ext x32
  have zw32 := x32.size
  have RT := R32
  refine RS.call E239 (bytesW _ _ _ _ _ RT (by omega)) rfl (fun v33 w33 x33 A33 => ?_)
  replace hE := Ext.tr hE x33
  replace B2 := B2.ext x33
  replace O1 := O1.ext x33
  replace RT := RT.ext x33
  have zw33 := x33.size
  obtain ⟨a33, n33, c33, rfl, O2⟩ := A33
  have hnl := O2.len
  have hnb := S.numS_len (t.size : Int)
  rw [List.length_append, bys_len] at hnl
  refine RS.nm ?_
  refine RS.move (v := .tuple _) rfl ?_
  refine RS.exS ?_
  refine RS.exI ?_
  refine RS.asS rfl ?_
  refine RS.asI rfl ?_
  refine nl J31 ?_
  refine region ?_
  refine RS.mvS rfl ?_
  refine RS.mvS rfl ?_
  refine RS.appendI O1 O2.row rfl rfl V61 T5 rfl (by omega) (by decide) (by omega) (fun a34 c34 w34 N34 x34 => ?_)
  refine RS.nm ?_
  replace hE := hE.trans (x34.belQ (fun _ h => (O1.lo _ h).1))
  replace B2 := B2.prQ x34 (fun _ h => (O1.lo _ h).1)
  have zw34 := x34.size
  replace O1 := N34
  refine RS.asS rfl ?_
  refine nl J10 (sq fun _ J35 => ?_)
  refine RS.mvS rfl ?_
  refine RS.asS rfl ?_
  refine RS.asI rfl ?_
  refine nl J35 ?_
  refine wp_ret ?_
  refine retSI ?_
  have e9 : S.valS k num bits t = [k] ++ (S.numS t.size ++ bys t) := by unfold S.valS; rw [if_neg (by omega), if_neg (by omega), if_pos (by omega)]
  rw [e9]
  refine ⟨_, rfl, hE, _, _, _, rfl, O1.base (fun k hk => by have := O1.lo k hk; omega)⟩
 exfalso; omega
theorem valBytesR (k num bits : Int) (t : ByteArray) (hk : 0 ≤ k ∧ k < 256) (hnum : -9223372036854775808 ≤ num ∧ num ≤ 9223372036854775807) (hb : 0 ≤ bits ∧ bits < 18446744073709551616) (hF : S.FineV k num bits t) (hs : t.size ≤ 1000) (w : World) :
  Calls Tryz.prog 233 #[.agg ([.int .u8 k, .int .i64 num, .int .u64 bits, .string t] : List Value).toArray] w (Ret w fun v w' => ∃ a' n' c', v = .slice a' n' c' ∧ IOwn w.heap.size w' 5 .u8 a' n' c' (S.valS k num bits t)) := by
 have hk3 : k = 1 ∨ k = 2 ∨ k = 3 := by rcases hF with h | h | h <;> simp [h.1]
 have hE := Ext.refl w
 refine enterU 38 Tryz.func233 rfl rfl ?_
 refine sq fun _ J1 => ?_
 refine RS.box rfl rfl (fun b2 w2 e2 s2 x2 B2 => ?_)
 refine RS.nm ?_
 replace hE := Ext.tr hE x2
 have zw2 := x2.size
 refine RS.asS rfl ?_
 refine nl J1 (sq fun _ J3 => ?_)
 refine RS.fl 0 V40 rfl C5 ?_
 refine RS.ld V5 B2 ?_
 refine RS.buildSlice (xs := [.tmp 6]) (vs := [.int _ _]) (cs := [.int _ _]) V61 T5 (by decide) rfl rfl rfl rfl rfl rfl (by intro v hv; simp only [List.mem_cons, List.not_mem_nil, or_false] at hv; subst hv; rfl) rfl (fun b4 w4 e4 s4 x4 B4 => ?_)
 refine RS.nm ?_
 replace hE := Ext.tr hE x4
 replace B2 := B2.ext x4
 have zw4 := x4.size
 have O1 : IOwn w2.heap.size w4 5 .u8 (some ⟨b4, 0, none⟩) 1 1 [_] := IOwn.of_blk B4 rfl rfl (by omega) (.cons (by simp only [lim]; omega) (.nil _)) (by decide)
 refine RS.asS rfl ?_
 refine nl J3 ?_
 refine wx fun _ J5 => ?_
 refine sq fun _ J6 => ?_
 refine RS.fl 0 V40 rfl C5 ?_
 refine RS.ld V5 B2 ?_
 refine nl J6 ?_
 refine wp_block ?_
 refine sq fun _ J7 => ?_
 refine RS.o (D.eq rfl rfl) ?_
 refine RS.asB rfl ?_
 refine nl J7 ?_
 refine C.ife rfl (fun c8 => ?_) (fun c8 => ?_)
 ·refine wx fun _ J9 => ?_
  refine region ?_
  refine RS.mvS rfl ?_
  refine RS.fl 1 V40 rfl C2 ?_
  refine RS.ld V2 B2 ?_
  refine RS.call E272 (signedR _ hnum _) rfl (fun v10 w10 x10 A10 => ?_)
  replace hE := Ext.tr hE x10
  replace B2 := B2.ext x10
  replace O1 := O1.ext x10
  have zw10 := x10.size
  obtain ⟨a10, n10, c10, rfl, O2⟩ := A10
  have hnl := O2.len
  have hnb := S.numS_len (S.zig num)
  refine RS.nm ?_
  refine RS.appendI O1 O2.row rfl rfl V61 T5 rfl (by omega) (by decide) (by omega) (fun a11 c11 w11 N11 x11 => ?_)
  refine RS.nm ?_
  replace hE := hE.trans (x11.belQ (fun _ h => (O1.lo _ h).1))
  replace B2 := B2.prQ x11 (fun _ h => (O1.lo _ h).1)
  have zw11 := x11.size
  replace O1 := N11
  refine RS.asS rfl ?_
  refine nl J9 ?_
  refine wp_ret ?_
  refine retS ?_
  have e9 : S.valS k num bits t = [k] ++ S.numS (S.zig num) := by unfold S.valS; rw [if_pos (by omega)]
  rw [e9]
  refine ⟨_, rfl, hE, _, _, _, rfl, O1.base (fun k hk => by have := O1.lo k hk; omega)⟩
 refine wx fun _ J12 => ?_
 refine region ?_
 refine RS.o (D.eq rfl rfl) ?_
 refine RS.asB rfl ?_
 refine nl J12 ?_
 refine C.ife rfl (fun c13 => ?_) (fun c13 => ?_)
 ·refine wx fun _ J14 => ?_
  refine sq fun _ J15 => ?_
  refine RS.asI rfl ?_
  refine nl J15 ?_
  refine wp_block ?_
  refine C.loop (A := Int × Option Addr × Nat × Nat) (fun p => [(3, .slice p.2.1 p.2.2.1 p.2.2.2), (4, .int .i64 p.1)]) [19, 20, 21, 22, 23, 24, 25, 26, 27, 28, 29, 30, 31] (fun p w' => Pr (fun k => w2.heap.size ≤ k) w4 w' ∧ ((-1 ≤ p.1 ∧ p.1 ≤ 7) ∧ True ∧ IOwn w2.heap.size w' 5 .u8 p.2.1 p.2.2.1 p.2.2.2 ([k] ++ (S.be8 bits).take (7 - p.1).toNat))) (fun p => (p.1 + 8).toNat) (7, some ⟨b4, 0, none⟩, 1, 1) (by kernel_rfl) ?_ ?_
  ·exact ⟨Pr.refl _ _, ⟨by dsimp only; omega, by dsimp only; omega⟩, trivial, by simpa using O1⟩
  rintro p j w16 ⟨x16, hI⟩
  replace hE := hE.trans (x16.belo)
  replace B2 := B2.pro x16
  have zw16 := x16.size
  obtain ⟨i, ao, no, co⟩ := p
  dsimp only at hI
  obtain ⟨h1, h2, O1⟩ := hI
  have hol := O1.len
  simp only [List.length_append, List.length_singleton, List.length_take, S.be8_len] at hol
  refine C.nmU ?_
  refine wx fun _ J17 => ?_
  refine sq fun _ J18 => ?_
  refine RS.mvI rfl ?_
  refine RS.o (D.ge rfl rfl) ?_
  refine nl J18 ?_
  refine C.ifd rfl (fun c19 => ?_) (fun c19 => ?_)
  ·refine wp_skip ?_
   refine J17 _ _ ?_
   refine wx fun _ J20 => ?_
   refine wp_block ?_
   refine region ?_
   refine RS.mvS rfl ?_
   refine RS.fl 2 V40 rfl C38 ?_
   refine RS.ld V38 B2 ?_
   refine RS.mvI rfl ?_
   refine RS.o (D.mul rfl rfl (W.i64 (by omega))) ?_
   refine RS.ob (D.shr_u64 rfl rfl (by omega) (by constructor <;> omega)) (fun z21 => ?_)
   refine RS.o (D.conv rfl V38 V5 (W.u8m _)) ?_
   refine RS.buildSlice (xs := [.tmp 29]) (vs := [.int _ _]) (cs := [.int _ _]) V61 T5 (by decide) rfl rfl rfl rfl rfl rfl (by intro v hv; simp only [List.mem_cons, List.not_mem_nil, or_false] at hv; subst hv; rfl) rfl (fun b22 w22 e22 s22 x22 B22 => ?_)
   refine RS.nm ?_
   replace hE := Ext.tr hE x22
   replace x16 := x16.ext x22
   replace B2 := B2.ext x22
   replace O1 := O1.ext x22
   have zw22 := x22.size
   have Q1 : IRow .u8 (fun k => k = b22) w22 (some ⟨b22, 0, none⟩) 1 [_] := IRow.of_blk B22 rfl rfl rfl (.cons (by simp only [lim]; omega) (.nil _))
   refine RS.appendI O1 Q1 rfl rfl V61 T5 rfl (by omega) (by decide) (by omega) (fun a23 c23 w23 N23 x23 => ?_)
   refine RS.nm ?_
   replace hE := hE.trans (x23.belQ (fun _ h => (O1.lo _ h).1))
   replace x16 := x16.prnQ x23 (fun _ h => (O1.lo _ h).1)
   replace B2 := B2.prQ x23 (fun _ h => (O1.lo _ h).1)
   have zw23 := x23.size
   replace O1 := N23
   refine RS.asS rfl ?_
   refine nl J20 ?_
   refine region ?_
   refine RS.mvI rfl ?_
   refine RS.o (D.sub rfl rfl (W.i64 (by omega))) ?_
   refine RS.asI rfl ?_
   refine RS.nil ?_
   change Nx _ _ _ _ _ _ _ _
   refine C.next (i - 1, _, _, _) ⟨rfl, rfl, trivial⟩ (by kernel_rfl) ?_ ?_
   ·refine ⟨x16, ⟨by dsimp only; omega, by dsimp only; omega⟩, trivial, ?_⟩
    dsimp only
    rw [S.be8_snoc' _ _ (by omega), ← List.append_assoc]
    exact O1
   dsimp only; omega
  have hneg := c19
  rw [show i = -1 by omega, show (7 - (-1 : Int)).toNat = 8 from rfl, List.take_of_length_le (by rw [S.be8_len]; exact Nat.le_refl _)] at O1
  refine wp_exit ?_
  refine J14 _ _ ?_
  refine sq fun _ J24 => ?_
  refine RS.mvS rfl ?_
  refine RS.asS rfl ?_
  refine nl J24 ?_
  refine wp_ret ?_
  refine retS ?_
  have e9 : S.valS k num bits t = [k] ++ S.be8 bits := by unfold S.valS; rw [if_neg (by omega), if_pos (by omega)]
  rw [e9]
  refine ⟨_, rfl, hE, _, _, _, rfl, O1.base (fun k hk => by have := O1.lo k hk; omega)⟩
 refine wp_skip ?_
 refine J5 _ _ ?_
 refine sq fun _ J25 => ?_
 refine RS.mvS rfl ?_
 refine RS.fl 3 V40 rfl C9 ?_
 refine RS.ld V9 B2 ?_
 refine RS.convSB rfl V9 V61 V5 (fun a26 c26 w26 x26 g26 s26 R26 => ?_)
 refine RS.nm ?_
 replace hE := Ext.tr hE x26
 replace B2 := B2.ext x26
 replace O1 := O1.ext x26
 have zw26 := x26.size
 have RT := R26
 refine RS.call E232 (textR _ _ _ _ _ RT (by omega)) rfl (fun v27 w27 x27 A27 => ?_)
 replace hE := Ext.tr hE x27
 replace B2 := B2.ext x27
 replace O1 := O1.ext x27
 replace RT := RT.ext x27
 have zw27 := x27.size
 obtain ⟨a27, n27, c27, rfl, O2⟩ := A27
 have hnl := O2.len
 have hnb := S.numS_len (t.size : Int)
 rw [List.length_append, bys_len] at hnl
 refine RS.nm ?_
 refine RS.appendI O1 O2.row rfl rfl V61 T5 rfl (by omega) (by decide) (by omega) (fun a28 c28 w28 N28 x28 => ?_)
 refine RS.nm ?_
 replace hE := hE.trans (x28.belQ (fun _ h => (O1.lo _ h).1))
 replace B2 := B2.prQ x28 (fun _ h => (O1.lo _ h).1)
 have zw28 := x28.size
 replace O1 := N28
 refine RS.asS rfl ?_
 refine nl J25 ?_
 refine wp_ret ?_
 refine retS ?_
 have e9 : S.valS k num bits t = [k] ++ (S.numS t.size ++ bys t) := by unfold S.valS; rw [if_neg (by omega), if_neg (by omega), if_pos (by omega)]
 rw [e9]
 refine ⟨_, rfl, hE, _, _, _, rfl, O1.base (fun k hk => by have := O1.lo k hk; omega)⟩
theorem C50 : Tryz.prog.cellsOf 50 = 6 := by kernel_rfl
theorem T50 : TI Tryz.prog 50 6 64 [.int .u8 0, .string .empty, .int .u8 0, .int .i64 0, .int .u64 0, .string .empty] := by
 have h : (Tryz.prog.info? 50).map (fun i => (i.size, i.bytes, i.zero)) = some (6, 64, some (.agg #[.int .u8 0, .string .empty, .int .u8 0, .int .i64 0, .int .u64 0, .string .empty])) := by kernel_rfl
 exact TI.of h rfl
theorem F50 : SI Tryz.prog 50 [(0, 1), (1, 1), (2, 4)] := ⟨_, V50, by kernel_rfl, by kernel_rfl⟩
theorem E170 : Enters Tryz.prog 170 := .mk Tryz.func170 (by kernel_rfl) rfl
theorem E268 : Enters Tryz.prog 268 := .mk Tryz.func268 (by kernel_rfl) rfl
theorem E269 : Enters Tryz.prog 269 := .mk Tryz.func269 (by kernel_rfl) rfl
theorem checkAct (k vk num bits : Int) (ky t : ByteArray) (hk : 0 ≤ k ∧ k < 256) (hvk : 0 ≤ vk ∧ vk < 256) (hnum : -9223372036854775808 ≤ num ∧ num ≤ 9223372036854775807) (hb : 0 ≤ bits ∧ bits < 18446744073709551616) (hkey : ky.size ≤ 100000) (ht : t.size ≤ 100000) (w : World) :
  Calls Tryz.prog 107 #[.agg ([.int .u8 k, .string ky, .int .u8 vk, .int .i64 num, .int .u64 bits, .string t] : List Value).toArray] w (Ret w fun v _ => v = .int .i64 (S.actE k ky vk num bits t)) := by
 have hE := Ext.refl w
 refine enterU 35 Tryz.func107 rfl rfl ?_
 refine sq fun _ J1 => ?_
 refine RS.box rfl rfl (fun b2 w2 e2 s2 x2 B2 => ?_)
 refine RS.nm ?_
 replace hE := Ext.tr hE x2
 have zw2 := x2.size
 refine RS.asI rfl ?_
 refine nl J1 (sq fun _ J3 => ?_)
 refine RS.asB rfl ?_
 refine nl J3 ?_
 refine wx fun _ J4 => ?_
 refine sq fun _ J5 => ?_
 refine RS.fl 0 V50 rfl C5 ?_
 refine RS.ld V5 B2 ?_
 refine nl J5 ?_
 refine wp_block ?_
 refine sq fun _ J6 => ?_
 refine RS.o (D.eq rfl rfl) ?_
 refine RS.asB rfl ?_
 refine nl J6 ?_
 refine C.ife rfl (fun c7 => ?_) (fun c7 => ?_)
 ·refine region ?_
  refine RS.la V50 C50 B2 6 ?_
  refine RS.o (D.buildS T50 F50 (ps := [(0, .int _ _)]) rfl rfl) ?_
  refine RS.o (D.eqA rfl rfl V50 rfl (by kernel_rfl) (by kernel_rfl) (by kernel_rfl)) ?_
  refine RS.asB rfl ?_
  refine nl J4 ?_
  refine wx fun _ J8 => ?_
  refine sq fun _ J9 => ?_
  refine RS.mvB rfl ?_
  refine RS.o (D.not rfl) ?_
  refine nl J9 ?_
  refine C.ifnot rfl (fun c10 => ?_) (fun c10 => ?_)
  ·first | (have hqa := of_decide_eq_false ((S.eqA6 _ _ _ _ _ _ _ _ _ _ _ _).symm.trans c10)) | (have hqa := of_decide_eq_false ((S.eqV _ _ _ _ _ _ _ _).symm.trans c10)) | (have hqa := of_decide_eq_false ((strEq _ _).symm.trans c10)) | (have hqa := of_decide_eq_false c10) | (have hqa := c10)
   refine sq fun _ J11 => ?_
   refine RS.asI rfl ?_
   refine nl J11 ?_
   refine wp_ret ?_
   refine retI rfl rfl ?_
   refine ⟨_, rfl, hE, congrArg (Value.int .i64) ?_⟩
   first | (refine S.actE_pos ?_; grind [S.FineAct, S.valE_zero]) | (refine S.actE_neg ?_; grind [S.FineAct, S.valE_zero])
  first | (have hqa := of_decide_eq_true ((S.eqA6 _ _ _ _ _ _ _ _ _ _ _ _).symm.trans c10)) | (have hqa := of_decide_eq_true ((S.eqV _ _ _ _ _ _ _ _).symm.trans c10)) | (have hqa := of_decide_eq_true ((strEq _ _).symm.trans c10)) | (have hqa := of_decide_eq_true c10) | (have hqa := c10)
  refine wp_skip ?_
  refine J8 _ _ ?_
  refine sq fun _ J12 => ?_
  refine RS.asI rfl ?_
  refine nl J12 ?_
  refine wp_ret ?_
  refine retI rfl rfl ?_
  refine ⟨_, rfl, hE, congrArg (Value.int .i64) ?_⟩
  first | (refine S.actE_pos ?_; grind [S.FineAct, S.valE_zero]) | (refine S.actE_neg ?_; grind [S.FineAct, S.valE_zero])
 refine wx fun _ J13 => ?_
 refine sq fun _ J14 => ?_
 refine RS.o (D.eq rfl rfl) ?_
 refine RS.asB rfl ?_
 refine nl J14 ?_
 refine C.ife rfl (fun c15 => ?_) (fun c15 => ?_)
 ·refine wp_skip ?_
  refine J13 _ _ ?_
  refine C.ifb rfl (fun z16 => ?_) (fun z16 => ?_)
  ·refine region ?_
   refine RS.fl 1 V50 rfl C9 ?_
   refine RS.ld V9 B2 ?_
   refine RS.call E170 (key _ _) rfl (fun v17 w17 x17 A17 => ?_)
   replace hE := Ext.tr hE x17
   replace B2 := B2.ext x17
   have zw17 := x17.size
   subst A17
   refine RS.nm ?_
   refine RS.mvB rfl ?_
   refine RS.splitb 17 rfl rfl (fun c18 => ?_) (fun c18 => ?_)
   ·refine RS.nm ?_
    have hkt := of_decide_eq_true c18
    refine RS.wt 17 ?_
    refine RS.fl 2 V50 rfl C40 ?_
    refine RS.wt 17 ?_
    refine RS.la V40 C40 B2 4 ?_
    refine RS.wt 17 ?_
    refine RS.o (D.buildS T40 F40 (ps := []) rfl rfl) ?_
    refine RS.wt 17 ?_
    refine RS.o (D.eqA rfl rfl V40 rfl (by kernel_rfl) (by kernel_rfl) (by kernel_rfl)) ?_
    refine RS.pk ?_
    refine RS.asB rfl ?_
    refine nl J4 ?_
    refine wx fun _ J19 => ?_
    refine sq fun _ J20 => ?_
    refine RS.mvB rfl ?_
    refine RS.o (D.not rfl) ?_
    refine nl J20 ?_
    refine C.ifnot rfl (fun c21 => ?_) (fun c21 => ?_)
    ·first | (have hqa := of_decide_eq_false ((S.eqA6 _ _ _ _ _ _ _ _ _ _ _ _).symm.trans c21)) | (have hqa := of_decide_eq_false ((S.eqV _ _ _ _ _ _ _ _).symm.trans c21)) | (have hqa := of_decide_eq_false ((strEq _ _).symm.trans c21)) | (have hqa := of_decide_eq_false c21) | (have hqa := c21)
     refine sq fun _ J22 => ?_
     refine RS.asI rfl ?_
     refine nl J22 ?_
     refine wp_ret ?_
     refine retI rfl rfl ?_
     refine ⟨_, rfl, hE, congrArg (Value.int .i64) ?_⟩
     first | (refine S.actE_pos ?_; grind [S.FineAct, S.valE_zero]) | (refine S.actE_neg ?_; grind [S.FineAct, S.valE_zero])
    first | (have hqa := of_decide_eq_true ((S.eqA6 _ _ _ _ _ _ _ _ _ _ _ _).symm.trans c21)) | (have hqa := of_decide_eq_true ((S.eqV _ _ _ _ _ _ _ _).symm.trans c21)) | (have hqa := of_decide_eq_true ((strEq _ _).symm.trans c21)) | (have hqa := of_decide_eq_true c21) | (have hqa := c21)
    refine wp_skip ?_
    refine J19 _ _ ?_
    refine sq fun _ J23 => ?_
    refine RS.asI rfl ?_
    refine nl J23 ?_
    refine wp_ret ?_
    refine retI rfl rfl ?_
    refine ⟨_, rfl, hE, congrArg (Value.int .i64) ?_⟩
    first | (refine S.actE_pos ?_; grind [S.FineAct, S.valE_zero]) | (refine S.actE_neg ?_; grind [S.FineAct, S.valE_zero])
   refine RS.nm ?_
   have hkf := of_decide_eq_false c18
   refine RS.skF 17 ?_
   refine RS.skF 17 ?_
   refine RS.skF 17 ?_
   refine RS.skF 17 ?_
   refine RS.pkf ?_
   refine RS.asB rfl ?_
   refine nl J4 ?_
   refine wx fun _ J24 => ?_
   refine sq fun _ J25 => ?_
   refine RS.mvB rfl ?_
   refine RS.o (D.not rfl) ?_
   refine nl J25 ?_
   refine C.ifnot rfl (fun c26 => ?_) (fun c26 => ?_)
   ·first | (have hqa := of_decide_eq_false ((S.eqA6 _ _ _ _ _ _ _ _ _ _ _ _).symm.trans c26)) | (have hqa := of_decide_eq_false ((S.eqV _ _ _ _ _ _ _ _).symm.trans c26)) | (have hqa := of_decide_eq_false ((strEq _ _).symm.trans c26)) | (have hqa := of_decide_eq_false c26) | (have hqa := c26)
    refine sq fun _ J27 => ?_
    refine RS.asI rfl ?_
    refine nl J27 ?_
    refine wp_ret ?_
    refine retI rfl rfl ?_
    refine ⟨_, rfl, hE, congrArg (Value.int .i64) ?_⟩
    first | (refine S.actE_pos ?_; grind [S.FineAct, S.valE_zero]) | (refine S.actE_neg ?_; grind [S.FineAct, S.valE_zero])
   first | (have hqa := of_decide_eq_true ((S.eqA6 _ _ _ _ _ _ _ _ _ _ _ _).symm.trans c26)) | (have hqa := of_decide_eq_true ((S.eqV _ _ _ _ _ _ _ _).symm.trans c26)) | (have hqa := of_decide_eq_true ((strEq _ _).symm.trans c26)) | (have hqa := of_decide_eq_true c26) | (have hqa := c26)
   refine wp_skip ?_
   refine J24 _ _ ?_
   refine sq fun _ J28 => ?_
   refine RS.asI rfl ?_
   refine nl J28 ?_
   refine wp_ret ?_
   refine retI rfl rfl ?_
   refine ⟨_, rfl, hE, congrArg (Value.int .i64) ?_⟩
   first | (refine S.actE_pos ?_; grind [S.FineAct, S.valE_zero]) | (refine S.actE_neg ?_; grind [S.FineAct, S.valE_zero])
  exact absurd z16 (by first | (simp [c15]; done) | (simp_all; done) | omega)
 refine region ?_
 refine RS.o (D.eq rfl rfl) ?_
 refine RS.asB rfl ?_
 refine nl J13 ?_
 refine C.ife rfl (fun c29 => ?_) (fun c29 => ?_)
 ·refine region ?_
  refine RS.fl 1 V50 rfl C9 ?_
  refine RS.ld V9 B2 ?_
  refine RS.call E170 (key _ _) rfl (fun v30 w30 x30 A30 => ?_)
  replace hE := Ext.tr hE x30
  replace B2 := B2.ext x30
  have zw30 := x30.size
  subst A30
  refine RS.nm ?_
  refine RS.mvB rfl ?_
  refine RS.splitb 17 rfl rfl (fun c31 => ?_) (fun c31 => ?_)
  ·refine RS.nm ?_
   have hkt := of_decide_eq_true c31
   refine RS.wt 17 ?_
   refine RS.fl 2 V50 rfl C40 ?_
   refine RS.wt 17 ?_
   refine RS.la V40 C40 B2 4 ?_
   refine RS.wt 17 ?_
   refine RS.o (D.buildS T40 F40 (ps := []) rfl rfl) ?_
   refine RS.wt 17 ?_
   refine RS.o (D.eqA rfl rfl V40 rfl (by kernel_rfl) (by kernel_rfl) (by kernel_rfl)) ?_
   refine RS.pk ?_
   refine RS.asB rfl ?_
   refine nl J4 ?_
   refine wx fun _ J32 => ?_
   refine sq fun _ J33 => ?_
   refine RS.mvB rfl ?_
   refine RS.o (D.not rfl) ?_
   refine nl J33 ?_
   refine C.ifnot rfl (fun c34 => ?_) (fun c34 => ?_)
   ·first | (have hqa := of_decide_eq_false ((S.eqA6 _ _ _ _ _ _ _ _ _ _ _ _).symm.trans c34)) | (have hqa := of_decide_eq_false ((S.eqV _ _ _ _ _ _ _ _).symm.trans c34)) | (have hqa := of_decide_eq_false ((strEq _ _).symm.trans c34)) | (have hqa := of_decide_eq_false c34) | (have hqa := c34)
    refine sq fun _ J35 => ?_
    refine RS.asI rfl ?_
    refine nl J35 ?_
    refine wp_ret ?_
    refine retI rfl rfl ?_
    refine ⟨_, rfl, hE, congrArg (Value.int .i64) ?_⟩
    first | (refine S.actE_pos ?_; grind [S.FineAct, S.valE_zero]) | (refine S.actE_neg ?_; grind [S.FineAct, S.valE_zero])
   first | (have hqa := of_decide_eq_true ((S.eqA6 _ _ _ _ _ _ _ _ _ _ _ _).symm.trans c34)) | (have hqa := of_decide_eq_true ((S.eqV _ _ _ _ _ _ _ _).symm.trans c34)) | (have hqa := of_decide_eq_true ((strEq _ _).symm.trans c34)) | (have hqa := of_decide_eq_true c34) | (have hqa := c34)
   refine wp_skip ?_
   refine J32 _ _ ?_
   refine sq fun _ J36 => ?_
   refine RS.asI rfl ?_
   refine nl J36 ?_
   refine wp_ret ?_
   refine retI rfl rfl ?_
   refine ⟨_, rfl, hE, congrArg (Value.int .i64) ?_⟩
   first | (refine S.actE_pos ?_; grind [S.FineAct, S.valE_zero]) | (refine S.actE_neg ?_; grind [S.FineAct, S.valE_zero])
  refine RS.nm ?_
  have hkf := of_decide_eq_false c31
  refine RS.skF 17 ?_
  refine RS.skF 17 ?_
  refine RS.skF 17 ?_
  refine RS.skF 17 ?_
  refine RS.pkf ?_
  refine RS.asB rfl ?_
  refine nl J4 ?_
  refine wx fun _ J37 => ?_
  refine sq fun _ J38 => ?_
  refine RS.mvB rfl ?_
  refine RS.o (D.not rfl) ?_
  refine nl J38 ?_
  refine C.ifnot rfl (fun c39 => ?_) (fun c39 => ?_)
  ·first | (have hqa := of_decide_eq_false ((S.eqA6 _ _ _ _ _ _ _ _ _ _ _ _).symm.trans c39)) | (have hqa := of_decide_eq_false ((S.eqV _ _ _ _ _ _ _ _).symm.trans c39)) | (have hqa := of_decide_eq_false ((strEq _ _).symm.trans c39)) | (have hqa := of_decide_eq_false c39) | (have hqa := c39)
   refine sq fun _ J40 => ?_
   refine RS.asI rfl ?_
   refine nl J40 ?_
   refine wp_ret ?_
   refine retI rfl rfl ?_
   refine ⟨_, rfl, hE, congrArg (Value.int .i64) ?_⟩
   first | (refine S.actE_pos ?_; grind [S.FineAct, S.valE_zero]) | (refine S.actE_neg ?_; grind [S.FineAct, S.valE_zero])
  first | (have hqa := of_decide_eq_true ((S.eqA6 _ _ _ _ _ _ _ _ _ _ _ _).symm.trans c39)) | (have hqa := of_decide_eq_true ((S.eqV _ _ _ _ _ _ _ _).symm.trans c39)) | (have hqa := of_decide_eq_true ((strEq _ _).symm.trans c39)) | (have hqa := of_decide_eq_true c39) | (have hqa := c39)
  refine wp_skip ?_
  refine J37 _ _ ?_
  refine sq fun _ J41 => ?_
  refine RS.asI rfl ?_
  refine nl J41 ?_
  refine wp_ret ?_
  refine retI rfl rfl ?_
  refine ⟨_, rfl, hE, congrArg (Value.int .i64) ?_⟩
  first | (refine S.actE_pos ?_; grind [S.FineAct, S.valE_zero]) | (refine S.actE_neg ?_; grind [S.FineAct, S.valE_zero])
 refine wx fun _ J42 => ?_
 refine region ?_
 refine RS.o (D.eq rfl rfl) ?_
 refine RS.asB rfl ?_
 refine nl J42 ?_
 refine C.ife rfl (fun c43 => ?_) (fun c43 => ?_)
 ·refine region ?_
  refine RS.fl 1 V50 rfl C9 ?_
  refine RS.ld V9 B2 ?_
  refine RS.call E170 (key _ _) rfl (fun v44 w44 x44 A44 => ?_)
  replace hE := Ext.tr hE x44
  replace B2 := B2.ext x44
  have zw44 := x44.size
  subst A44
  refine RS.nm ?_
  refine RS.mvB rfl ?_
  refine RS.splitb 28 rfl rfl (fun c45 => ?_) (fun c45 => ?_)
  ·refine RS.nm ?_
   have hkt := of_decide_eq_true c45
   refine RS.wt 28 ?_
   refine RS.fl 2 V50 rfl C40 ?_
   refine RS.wt 28 ?_
   refine RS.la V40 C40 B2 4 ?_
   refine RS.wt 28 ?_
   refine RS.call E108 (checkV _ _ _ _ hvk hnum hb _) rfl (fun v46 w46 x46 A46 => ?_)
   replace hE := Ext.tr hE x46
   replace B2 := B2.ext x46
   have zw46 := x46.size
   subst A46
   refine RS.nm ?_
   refine RS.wt 28 ?_
   refine RS.o (D.eq rfl rfl) ?_
   refine RS.pk ?_
   refine RS.asB rfl ?_
   refine nl J4 ?_
   refine wx fun _ J47 => ?_
   refine sq fun _ J48 => ?_
   refine RS.mvB rfl ?_
   refine RS.o (D.not rfl) ?_
   refine nl J48 ?_
   refine C.ifnot rfl (fun c49 => ?_) (fun c49 => ?_)
   ·first | (have hqa := of_decide_eq_false ((S.eqA6 _ _ _ _ _ _ _ _ _ _ _ _).symm.trans c49)) | (have hqa := of_decide_eq_false ((S.eqV _ _ _ _ _ _ _ _).symm.trans c49)) | (have hqa := of_decide_eq_false ((strEq _ _).symm.trans c49)) | (have hqa := of_decide_eq_false c49) | (have hqa := c49)
    refine sq fun _ J50 => ?_
    refine RS.asI rfl ?_
    refine nl J50 ?_
    refine wp_ret ?_
    refine retI rfl rfl ?_
    refine ⟨_, rfl, hE, congrArg (Value.int .i64) ?_⟩
    first | (refine S.actE_pos ?_; grind [S.FineAct, S.valE_zero]) | (refine S.actE_neg ?_; grind [S.FineAct, S.valE_zero])
   first | (have hqa := of_decide_eq_true ((S.eqA6 _ _ _ _ _ _ _ _ _ _ _ _).symm.trans c49)) | (have hqa := of_decide_eq_true ((S.eqV _ _ _ _ _ _ _ _).symm.trans c49)) | (have hqa := of_decide_eq_true ((strEq _ _).symm.trans c49)) | (have hqa := of_decide_eq_true c49) | (have hqa := c49)
   refine wp_skip ?_
   refine J47 _ _ ?_
   refine sq fun _ J51 => ?_
   refine RS.asI rfl ?_
   refine nl J51 ?_
   refine wp_ret ?_
   refine retI rfl rfl ?_
   refine ⟨_, rfl, hE, congrArg (Value.int .i64) ?_⟩
   first | (refine S.actE_pos ?_; grind [S.FineAct, S.valE_zero]) | (refine S.actE_neg ?_; grind [S.FineAct, S.valE_zero])
  refine RS.nm ?_
  have hkf := of_decide_eq_false c45
  refine RS.skF 28 ?_
  refine RS.skF 28 ?_
  refine RS.skF 28 ?_
  refine RS.skF 28 ?_
  refine RS.pkf ?_
  refine RS.asB rfl ?_
  refine nl J4 ?_
  refine wx fun _ J52 => ?_
  refine sq fun _ J53 => ?_
  refine RS.mvB rfl ?_
  refine RS.o (D.not rfl) ?_
  refine nl J53 ?_
  refine C.ifnot rfl (fun c54 => ?_) (fun c54 => ?_)
  ·first | (have hqa := of_decide_eq_false ((S.eqA6 _ _ _ _ _ _ _ _ _ _ _ _).symm.trans c54)) | (have hqa := of_decide_eq_false ((S.eqV _ _ _ _ _ _ _ _).symm.trans c54)) | (have hqa := of_decide_eq_false ((strEq _ _).symm.trans c54)) | (have hqa := of_decide_eq_false c54) | (have hqa := c54)
   refine sq fun _ J55 => ?_
   refine RS.asI rfl ?_
   refine nl J55 ?_
   refine wp_ret ?_
   refine retI rfl rfl ?_
   refine ⟨_, rfl, hE, congrArg (Value.int .i64) ?_⟩
   first | (refine S.actE_pos ?_; grind [S.FineAct, S.valE_zero]) | (refine S.actE_neg ?_; grind [S.FineAct, S.valE_zero])
  first | (have hqa := of_decide_eq_true ((S.eqA6 _ _ _ _ _ _ _ _ _ _ _ _).symm.trans c54)) | (have hqa := of_decide_eq_true ((S.eqV _ _ _ _ _ _ _ _).symm.trans c54)) | (have hqa := of_decide_eq_true ((strEq _ _).symm.trans c54)) | (have hqa := of_decide_eq_true c54) | (have hqa := c54)
  refine wp_skip ?_
  refine J52 _ _ ?_
  refine sq fun _ J56 => ?_
  refine RS.asI rfl ?_
  refine nl J56 ?_
  refine wp_ret ?_
  refine retI rfl rfl ?_
  refine ⟨_, rfl, hE, congrArg (Value.int .i64) ?_⟩
  first | (refine S.actE_pos ?_; grind [S.FineAct, S.valE_zero]) | (refine S.actE_neg ?_; grind [S.FineAct, S.valE_zero])
 refine wp_skip ?_
 refine J4 _ _ ?_
 refine wx fun _ J57 => ?_
 refine sq fun _ J58 => ?_
 refine RS.mvB rfl ?_
 refine RS.o (D.not rfl) ?_
 refine nl J58 ?_
 refine C.ifnot rfl (fun c59 => ?_) (fun c59 => ?_)
 ·first | (have hqa := of_decide_eq_false ((S.eqA6 _ _ _ _ _ _ _ _ _ _ _ _).symm.trans c59)) | (have hqa := of_decide_eq_false ((S.eqV _ _ _ _ _ _ _ _).symm.trans c59)) | (have hqa := of_decide_eq_false ((strEq _ _).symm.trans c59)) | (have hqa := of_decide_eq_false c59) | (have hqa := c59)
  refine sq fun _ J60 => ?_
  refine RS.asI rfl ?_
  refine nl J60 ?_
  refine wp_ret ?_
  refine retI rfl rfl ?_
  refine ⟨_, rfl, hE, congrArg (Value.int .i64) ?_⟩
  first | (refine S.actE_pos ?_; grind [S.FineAct, S.valE_zero]) | (refine S.actE_neg ?_; grind [S.FineAct, S.valE_zero])
 first | (have hqa := of_decide_eq_true ((S.eqA6 _ _ _ _ _ _ _ _ _ _ _ _).symm.trans c59)) | (have hqa := of_decide_eq_true ((S.eqV _ _ _ _ _ _ _ _).symm.trans c59)) | (have hqa := of_decide_eq_true ((strEq _ _).symm.trans c59)) | (have hqa := of_decide_eq_true c59) | (have hqa := c59)
 refine wp_skip ?_
 refine J57 _ _ ?_
 refine sq fun _ J61 => ?_
 refine RS.asI rfl ?_
 refine nl J61 ?_
 refine wp_ret ?_
 refine retI rfl rfl ?_
 refine ⟨_, rfl, hE, congrArg (Value.int .i64) ?_⟩
 first | (refine S.actE_pos ?_; grind [S.FineAct, S.valE_zero]) | (refine S.actE_neg ?_; grind [S.FineAct, S.valE_zero])
theorem checkActR (k vk num bits : Int) (ky t : ByteArray) (hk : 0 ≤ k ∧ k < 256) (hvk : 0 ≤ vk ∧ vk < 256) (hnum : -9223372036854775808 ≤ num ∧ num ≤ 9223372036854775807) (hb : 0 ≤ bits ∧ bits < 18446744073709551616) (hkey : ky.size ≤ 100000) (ht : t.size ≤ 100000) (w : World) :
  Calls Tryz.prog 225 #[.agg ([.int .u8 k, .string ky, .int .u8 vk, .int .i64 num, .int .u64 bits, .string t] : List Value).toArray] w (Ret w fun v _ => v = .int .i64 (S.actE k ky vk num bits t)) := by
 have hE := Ext.refl w
 refine enterU 37 Tryz.func225 rfl rfl ?_
 refine sq fun _ J1 => ?_
 refine RS.box rfl rfl (fun b2 w2 e2 s2 x2 B2 => ?_)
 refine RS.nm ?_
 replace hE := Ext.tr hE x2
 have zw2 := x2.size
 refine RS.asI rfl ?_
 refine nl J1 (sq fun _ J3 => ?_)
 refine RS.fl 2 V50 rfl C40 ?_
 refine RS.la V40 C40 B2 4 ?_
 refine RS.o (D.buildS T40 F40 (ps := []) rfl rfl) ?_
 refine RS.o (D.eqA rfl rfl V40 rfl (by kernel_rfl) (by kernel_rfl) (by kernel_rfl)) ?_
 refine RS.asB rfl ?_
 refine nl J3 ?_
 refine wx fun _ J4 => ?_
 refine sq fun _ J5 => ?_
 refine RS.fl 0 V50 rfl C5 ?_
 refine RS.ld V5 B2 ?_
 refine nl J5 ?_
 refine wp_block ?_
 refine sq fun _ J6 => ?_
 refine RS.o (D.eq rfl rfl) ?_
 refine RS.asB rfl ?_
 refine nl J6 ?_
 refine C.ife rfl (fun c7 => ?_) (fun c7 => ?_)
 ·refine wx fun _ J8 => ?_
  refine region ?_
  refine RS.fl 1 V50 rfl C9 ?_
  refine RS.ld V9 B2 ?_
  refine RS.o (D.seq rfl rfl) ?_
  refine RS.mvB rfl ?_
  refine RS.splitb 15 rfl rfl (fun c9 => ?_) (fun c9 => ?_)
  ·refine RS.nm ?_
   have hs0 : ky = ByteArray.empty := of_decide_eq_true ((strEq _ _).symm.trans c9)
   refine RS.wt 15 ?_
   refine RS.mvB rfl ?_
   refine RS.pk ?_
   refine nl J8 ?_
   refine C.ifb rfl (fun c10 => ?_) (fun c10 => ?_)
   ·first | (have hqa := of_decide_eq_true ((S.eqA6 _ _ _ _ _ _ _ _ _ _ _ _).symm.trans c10)) | (have hqa := of_decide_eq_true ((S.eqV _ _ _ _ _ _ _ _).symm.trans c10)) | (have hqa := of_decide_eq_true ((strEq _ _).symm.trans c10)) | (have hqa := of_decide_eq_true c10) | (have hqa := c10)
    refine sq fun _ J11 => ?_
    refine RS.asI rfl ?_
    refine nl J11 ?_
    refine wp_ret ?_
    refine retI rfl rfl ?_
    refine ⟨_, rfl, hE, congrArg (Value.int .i64) ?_⟩
    first | (refine S.actE_pos ?_; grind [S.FineAct, S.valE_zero]) | (refine S.actE_neg ?_; grind [S.FineAct, S.valE_zero])
   first | (have hqa := of_decide_eq_false ((S.eqA6 _ _ _ _ _ _ _ _ _ _ _ _).symm.trans c10)) | (have hqa := of_decide_eq_false ((S.eqV _ _ _ _ _ _ _ _).symm.trans c10)) | (have hqa := of_decide_eq_false ((strEq _ _).symm.trans c10)) | (have hqa := of_decide_eq_false c10) | (have hqa := c10)
   refine wp_skip ?_
   refine J4 _ _ ?_
   refine sq fun _ J12 => ?_
   refine RS.asI rfl ?_
   refine nl J12 ?_
   refine wp_ret ?_
   refine retI rfl rfl ?_
   refine ⟨_, rfl, hE, congrArg (Value.int .i64) ?_⟩
   first | (refine S.actE_pos ?_; grind [S.FineAct, S.valE_zero]) | (refine S.actE_neg ?_; grind [S.FineAct, S.valE_zero])
  refine RS.nm ?_
  have hs0 : ky ≠ ByteArray.empty := of_decide_eq_false ((strEq _ _).symm.trans c9)
  refine RS.skF 15 ?_
  refine RS.pkf ?_
  refine nl J8 ?_
  refine C.iff rfl ?_
  refine wp_skip ?_
  refine J4 _ _ ?_
  refine sq fun _ J13 => ?_
  refine RS.asI rfl ?_
  refine nl J13 ?_
  refine wp_ret ?_
  refine retI rfl rfl ?_
  refine ⟨_, rfl, hE, congrArg (Value.int .i64) ?_⟩
  first | (refine S.actE_pos ?_; grind [S.FineAct, S.valE_zero]) | (refine S.actE_neg ?_; grind [S.FineAct, S.valE_zero])
 refine wx fun _ J14 => ?_
 refine sq fun _ J15 => ?_
 refine RS.o (D.eq rfl rfl) ?_
 refine RS.asB rfl ?_
 refine nl J15 ?_
 refine C.ife rfl (fun c16 => ?_) (fun c16 => ?_)
 ·refine wp_skip ?_
  refine J14 _ _ ?_
  refine C.ifb rfl (fun z17 => ?_) (fun z17 => ?_)
  ·refine wx fun _ J18 => ?_
   refine region ?_
   refine RS.fl 1 V50 rfl C9 ?_
   refine RS.ld V9 B2 ?_
   refine RS.call E268 (nameR _ (by omega) _) rfl (fun v19 w19 x19 A19 => ?_)
   replace hE := Ext.tr hE x19
   replace B2 := B2.ext x19
   have zw19 := x19.size
   subst A19
   refine RS.nm ?_
   refine RS.mvB rfl ?_
   refine RS.splitb 24 rfl rfl (fun c20 => ?_) (fun c20 => ?_)
   ·refine RS.nm ?_
    have hkt := of_decide_eq_true c20
    refine RS.wt 24 ?_
    refine RS.mvB rfl ?_
    refine RS.pk ?_
    refine nl J18 ?_
    refine C.ifb rfl (fun c21 => ?_) (fun c21 => ?_)
    ·first | (have hqa := of_decide_eq_true ((S.eqA6 _ _ _ _ _ _ _ _ _ _ _ _).symm.trans c21)) | (have hqa := of_decide_eq_true ((S.eqV _ _ _ _ _ _ _ _).symm.trans c21)) | (have hqa := of_decide_eq_true ((strEq _ _).symm.trans c21)) | (have hqa := of_decide_eq_true c21) | (have hqa := c21)
     refine sq fun _ J22 => ?_
     refine RS.asI rfl ?_
     refine nl J22 ?_
     refine wp_ret ?_
     refine retI rfl rfl ?_
     refine ⟨_, rfl, hE, congrArg (Value.int .i64) ?_⟩
     first | (refine S.actE_pos ?_; grind [S.FineAct, S.valE_zero]) | (refine S.actE_neg ?_; grind [S.FineAct, S.valE_zero])
    first | (have hqa := of_decide_eq_false ((S.eqA6 _ _ _ _ _ _ _ _ _ _ _ _).symm.trans c21)) | (have hqa := of_decide_eq_false ((S.eqV _ _ _ _ _ _ _ _).symm.trans c21)) | (have hqa := of_decide_eq_false ((strEq _ _).symm.trans c21)) | (have hqa := of_decide_eq_false c21) | (have hqa := c21)
    refine wp_skip ?_
    refine J4 _ _ ?_
    refine sq fun _ J23 => ?_
    refine RS.asI rfl ?_
    refine nl J23 ?_
    refine wp_ret ?_
    refine retI rfl rfl ?_
    refine ⟨_, rfl, hE, congrArg (Value.int .i64) ?_⟩
    first | (refine S.actE_pos ?_; grind [S.FineAct, S.valE_zero]) | (refine S.actE_neg ?_; grind [S.FineAct, S.valE_zero])
   refine RS.nm ?_
   have hkf := of_decide_eq_false c20
   refine RS.skF 24 ?_
   refine RS.pkf ?_
   refine nl J18 ?_
   refine C.iff rfl ?_
   refine wp_skip ?_
   refine J4 _ _ ?_
   refine sq fun _ J24 => ?_
   refine RS.asI rfl ?_
   refine nl J24 ?_
   refine wp_ret ?_
   refine retI rfl rfl ?_
   refine ⟨_, rfl, hE, congrArg (Value.int .i64) ?_⟩
   first | (refine S.actE_pos ?_; grind [S.FineAct, S.valE_zero]) | (refine S.actE_neg ?_; grind [S.FineAct, S.valE_zero])
  exact absurd z17 (by first | (simp [c16]; done) | (simp_all; done) | omega)
 refine region ?_
 refine RS.o (D.eq rfl rfl) ?_
 refine RS.asB rfl ?_
 refine nl J14 ?_
 refine C.ife rfl (fun c25 => ?_) (fun c25 => ?_)
 ·refine wx fun _ J26 => ?_
  refine region ?_
  refine RS.fl 1 V50 rfl C9 ?_
  refine RS.ld V9 B2 ?_
  refine RS.call E268 (nameR _ (by omega) _) rfl (fun v27 w27 x27 A27 => ?_)
  replace hE := Ext.tr hE x27
  replace B2 := B2.ext x27
  have zw27 := x27.size
  subst A27
  refine RS.nm ?_
  refine RS.mvB rfl ?_
  refine RS.splitb 24 rfl rfl (fun c28 => ?_) (fun c28 => ?_)
  ·refine RS.nm ?_
   have hkt := of_decide_eq_true c28
   refine RS.wt 24 ?_
   refine RS.mvB rfl ?_
   refine RS.pk ?_
   refine nl J26 ?_
   refine C.ifb rfl (fun c29 => ?_) (fun c29 => ?_)
   ·first | (have hqa := of_decide_eq_true ((S.eqA6 _ _ _ _ _ _ _ _ _ _ _ _).symm.trans c29)) | (have hqa := of_decide_eq_true ((S.eqV _ _ _ _ _ _ _ _).symm.trans c29)) | (have hqa := of_decide_eq_true ((strEq _ _).symm.trans c29)) | (have hqa := of_decide_eq_true c29) | (have hqa := c29)
    refine sq fun _ J30 => ?_
    refine RS.asI rfl ?_
    refine nl J30 ?_
    refine wp_ret ?_
    refine retI rfl rfl ?_
    refine ⟨_, rfl, hE, congrArg (Value.int .i64) ?_⟩
    first | (refine S.actE_pos ?_; grind [S.FineAct, S.valE_zero]) | (refine S.actE_neg ?_; grind [S.FineAct, S.valE_zero])
   first | (have hqa := of_decide_eq_false ((S.eqA6 _ _ _ _ _ _ _ _ _ _ _ _).symm.trans c29)) | (have hqa := of_decide_eq_false ((S.eqV _ _ _ _ _ _ _ _).symm.trans c29)) | (have hqa := of_decide_eq_false ((strEq _ _).symm.trans c29)) | (have hqa := of_decide_eq_false c29) | (have hqa := c29)
   refine wp_skip ?_
   refine J4 _ _ ?_
   refine sq fun _ J31 => ?_
   refine RS.asI rfl ?_
   refine nl J31 ?_
   refine wp_ret ?_
   refine retI rfl rfl ?_
   refine ⟨_, rfl, hE, congrArg (Value.int .i64) ?_⟩
   first | (refine S.actE_pos ?_; grind [S.FineAct, S.valE_zero]) | (refine S.actE_neg ?_; grind [S.FineAct, S.valE_zero])
  refine RS.nm ?_
  have hkf := of_decide_eq_false c28
  refine RS.skF 24 ?_
  refine RS.pkf ?_
  refine nl J26 ?_
  refine C.iff rfl ?_
  refine wp_skip ?_
  refine J4 _ _ ?_
  refine sq fun _ J32 => ?_
  refine RS.asI rfl ?_
  refine nl J32 ?_
  refine wp_ret ?_
  refine retI rfl rfl ?_
  refine ⟨_, rfl, hE, congrArg (Value.int .i64) ?_⟩
  first | (refine S.actE_pos ?_; grind [S.FineAct, S.valE_zero]) | (refine S.actE_neg ?_; grind [S.FineAct, S.valE_zero])
 refine wx fun _ J33 => ?_
 refine region ?_
 refine RS.o (D.eq rfl rfl) ?_
 refine RS.asB rfl ?_
 refine nl J33 ?_
 refine C.ife rfl (fun c34 => ?_) (fun c34 => ?_)
 ·refine wx fun _ J35 => ?_
  refine region ?_
  refine RS.fl 1 V50 rfl C9 ?_
  refine RS.ld V9 B2 ?_
  refine RS.call E268 (nameR _ (by omega) _) rfl (fun v36 w36 x36 A36 => ?_)
  replace hE := Ext.tr hE x36
  replace B2 := B2.ext x36
  have zw36 := x36.size
  subst A36
  refine RS.nm ?_
  refine RS.mvB rfl ?_
  refine RS.splitb 32 rfl rfl (fun c37 => ?_) (fun c37 => ?_)
  ·refine RS.nm ?_
   have hkt := of_decide_eq_true c37
   refine RS.wt 32 ?_
   refine RS.fl 2 V50 rfl C40 ?_
   refine RS.wt 32 ?_
   refine RS.la V40 C40 B2 4 ?_
   refine RS.wt 32 ?_
   refine RS.call E269 (checkR _ _ _ _ hvk hnum hb (by omega) _) rfl (fun v38 w38 x38 A38 => ?_)
   replace hE := Ext.tr hE x38
   replace B2 := B2.ext x38
   have zw38 := x38.size
   subst A38
   refine RS.nm ?_
   refine RS.wt 32 ?_
   refine RS.o (D.eq rfl rfl) ?_
   refine RS.pk ?_
   refine nl J35 ?_
   refine C.ife rfl (fun c39 => ?_) (fun c39 => ?_)
   ·refine wx fun _ J40 => ?_
    refine region ?_
    refine RS.asI rfl ?_
    refine nl J40 ?_
    refine wp_ret ?_
    refine retI rfl rfl ?_
    refine ⟨_, rfl, hE, congrArg (Value.int .i64) ?_⟩
    first | (refine S.actE_pos ?_; grind [S.FineAct, S.valE_zero]) | (refine S.actE_neg ?_; grind [S.FineAct, S.valE_zero])
   refine wp_skip ?_
   refine J4 _ _ ?_
   refine sq fun _ J41 => ?_
   refine RS.asI rfl ?_
   refine nl J41 ?_
   refine wp_ret ?_
   refine retI rfl rfl ?_
   refine ⟨_, rfl, hE, congrArg (Value.int .i64) ?_⟩
   first | (refine S.actE_pos ?_; grind [S.FineAct, S.valE_zero]) | (refine S.actE_neg ?_; grind [S.FineAct, S.valE_zero])
  refine RS.nm ?_
  have hkf := of_decide_eq_false c37
  refine RS.skF 32 ?_
  refine RS.skF 32 ?_
  refine RS.skF 32 ?_
  refine RS.skF 32 ?_
  refine RS.pkf ?_
  refine nl J35 ?_
  refine C.iff rfl ?_
  refine wp_skip ?_
  refine J4 _ _ ?_
  refine sq fun _ J42 => ?_
  refine RS.asI rfl ?_
  refine nl J42 ?_
  refine wp_ret ?_
  refine retI rfl rfl ?_
  refine ⟨_, rfl, hE, congrArg (Value.int .i64) ?_⟩
  first | (refine S.actE_pos ?_; grind [S.FineAct, S.valE_zero]) | (refine S.actE_neg ?_; grind [S.FineAct, S.valE_zero])
 refine wp_skip ?_
 refine J4 _ _ ?_
 refine sq fun _ J43 => ?_
 refine RS.asI rfl ?_
 refine nl J43 ?_
 refine wp_ret ?_
 refine retI rfl rfl ?_
 refine ⟨_, rfl, hE, congrArg (Value.int .i64) ?_⟩
 first | (refine S.actE_pos ?_; grind [S.FineAct, S.valE_zero]) | (refine S.actE_neg ?_; grind [S.FineAct, S.valE_zero])
theorem C22 : Tryz.prog.cellsOf 22 = 1 := by kernel_rfl
theorem C52 : Tryz.prog.cellsOf 52 = 2 := by kernel_rfl
theorem E107 : Enters Tryz.prog 107 := .mk Tryz.func107 (by kernel_rfl) rfl
theorem E128 : Enters Tryz.prog 128 := .mk Tryz.func128 (by kernel_rfl) rfl
theorem E235 : Enters Tryz.prog 235 := .mk Tryz.func235 (by kernel_rfl) rfl
theorem E236 : Enters Tryz.prog 236 := .mk Tryz.func236 (by kernel_rfl) rfl
theorem checkO {S0 : Nat → Prop} (o : S.OpV) (ho : o.ok) (pa : Option Addr) (pc : Nat) (w : World) (D0 : WRow .u8 32 S0 w pa o.n o.ids) (hc : o.n ≤ pc) :
  Calls Tryz.prog 185 #[.agg ([.int .u32 o.au, .slice pa o.n pc, .int .u64 o.st, .int .u8 o.k, .string o.key, .int .u8 o.vk, .int .i64 o.num, .int .u64 o.bits, .string o.t, .int .u32 o.e, .int .u32 o.s] : List Value).toArray] w (Ret w fun v _ => v = .int .i64 (S.checkE o)) := by
 replace D0 := D0.weaken (T := fun k => k < w.heap.size) (fun k hk _ => hk)
 have o1 := ho.au
 have o2 := ho.st
 have o3 := ho.k
 have o4 := ho.vk
 have o5 := ho.num
 have o6 := ho.bits
 have o7 := ho.e
 have o8 := ho.s
 have o9 := ho.n
 have o10 := ho.key
 have o11 := ho.t
 have hE := Ext.refl w
 refine enterU 46 Tryz.func185 rfl rfl ?_
 refine sq fun _ J1 => ?_
 refine RS.box rfl rfl (fun b2 w2 e2 s2 x2 B2 => ?_)
 refine RS.nm ?_
 replace hE := Ext.tr hE x2
 replace D0 := D0.ext x2
 have zw2 := x2.size
 refine RS.asI rfl ?_
 refine nl J1 ?_
 refine wx fun _ J3 => ?_
 refine wp_block ?_
 refine sq fun _ J4 => ?_
 refine RS.fl 1 V54 rfl C22 ?_
 refine RS.ld V22 B2 ?_
 refine RS.ln V22 ?_
 refine RS.o (D.gt rfl rfl) ?_
 refine RS.asB rfl ?_
 refine nl J4 ?_
 refine C.ifd rfl (fun c5 => ?_) (fun c5 => ?_)
 ·have h4 := c5
  refine sq fun _ J6 => ?_
  refine RS.asI rfl ?_
  refine nl J6 ?_
  refine wp_ret ?_
  refine retI rfl rfl ?_
  refine ⟨_, rfl, hE, congrArg (Value.int .i64) ?_⟩
  exact S.check4 (by omega)
 have h4 := c5
 refine wx fun _ J7 => ?_
 refine regionX (Below w2.heap.size) [(0, .q), (1, .q), (2, .e), (3, .q), (4, .q), (5, .q), (6, .q), (10, .q), (11, .q), (12, .q), (7, .e), (8, .e), (9, .q), (13, .q), (14, .q), (15, .q)] mixed (fun w => Below.refl _ _) (fun h k => Below.trans h k) (by kernel_rfl) (fun w8 x8 => ?_)
 replace hE := Ext.tr hE x8
 replace D0 := D0.ext x8
 replace B2 := B2.ext x8
 have zw8 := x8.size
 refine RX.fl 1 V54 rfl C22 ?_
 refine RX.o (fun w' hw => D.load rfl V22 rfl ((B2.bel hw (by omega)).cell rfl)) ?_
 refine RX.eff ?_
 refine RS.call E235 (isSorted _ _ _ _ _ D0 hc (by omega)) rfl (fun v9 w9 x9 A9 => ?_)
 replace hE := Ext.tr hE x9
 replace D0 := D0.ext x9
 replace B2 := B2.ext x9
 have zw9 := x9.size
 subst A9
 refine RS.nm ?_
 refine RS.nil ⟨(x9.mono (by omega)), ?_⟩
 refine RX.o (fun w' hw => D.not rfl) ?_
 refine RX.mvB rfl ?_
 refine RX.splitnot 13 rfl rfl (fun c10 => ?_) (fun c10 => ?_)
 ·refine RX.nm ?_
  have hso := of_decide_eq_false c10
  refine RX.skT 13 ?_
  refine RX.skT 13 ?_
  refine RX.skT 13 ?_
  refine RX.skT 13 ?_
  refine RX.skT 13 ?_
  refine RX.skT 13 ?_
  refine RX.skT 13 ?_
  refine RX.skT 13 ?_
  refine RX.skT 13 ?_
  refine RX.pick (v := .bool true) rfl rfl ?_
  refine RX.assign (v := .bool _) rfl ?_
  refine RX.nil (J7 _ _ ?_)
  refine C.ift rfl ?_
  refine sq fun _ J11 => ?_
  refine RS.asI rfl ?_
  refine nl J11 ?_
  refine wp_ret ?_
  refine retI rfl rfl ?_
  refine ⟨_, rfl, hE, congrArg (Value.int .i64) ?_⟩
  exact S.check32 (by omega) (fun h => hso ((S.rising_iff _ _).1 h).1)
 refine RX.nm ?_
 have hso := of_decide_eq_true c10
 refine RX.wt 13 ?_
 refine RX.fl 1 V54 rfl C22 ?_
 refine RX.wt 13 ?_
 refine RX.o (fun w' hw => D.load rfl V22 rfl ((B2.bel hw (by omega)).cell rfl)) ?_
 refine RX.wt 13 ?_
 refine RX.fl 1 V54 rfl C22 ?_
 refine RX.wt 13 ?_
 refine RX.o (fun w' hw => D.load rfl V22 rfl ((B2.bel hw (by omega)).cell rfl)) ?_
 refine RX.wt 13 ?_
 refine RX.o (fun w' hw => D.len rfl V22) ?_
 refine RX.wt 13 ?_
 refine RX.eff ?_
 refine RS.call E128 (cloneID _ _ _ _ _ D0 hc (by omega)) rfl (fun v12 w12 x12 A12 => ?_)
 replace hE := Ext.tr hE x12
 replace D0 := D0.ext x12
 replace B2 := B2.ext x12
 have zw12 := x12.size
 obtain ⟨a12, n12, c12, rfl, hnn, O1⟩ := A12
 obtain ⟨g0, hg, hgl⟩ : ∃ g0, (n12 < 2 ∨ a12 = some ⟨g0, 0, none⟩) ∧ w2.heap.size ≤ g0 := by
  by_cases h2 : n12 < 2
  ·exact ⟨w12.heap.size, .inl h2, by omega⟩
  obtain ⟨g, hg⟩ := O1.some (by omega)
  exact ⟨g, .inr hg, by have := O1.los g (by rw [hg]; rfl); omega⟩
 refine RS.nm ?_
 refine RS.nil ⟨(x12.mono (by omega)), ?_⟩
 refine RX.wt 13 ?_
 refine RX.eff ?_
 refine RS.callx E236 (compact _ _ _ _ _ _ _ O1 hg (by omega)) rfl (fun e13 w13 A13 => ?_)
 obtain ⟨a13, n13, c13, rfl, X13, hap⟩ := A13
 refine ⟨_, rfl, ?_⟩
 refine RS.nm ?_
 replace hE := hE.trans (X13.belo)
 replace D0 := D0.pro X13
 replace B2 := B2.pro X13
 have zw13 := X13.size
 have hnz := hnn
 refine RS.nil ⟨(X13.belo), ?_⟩
 refine RX.wt 13 ?_
 refine RX.o (fun w' hw => D.len rfl V22) ?_
 refine RX.wt 13 ?_
 refine RX.o (fun w' hw => D.ne rfl rfl) ?_
 refine RX.pick (v := .bool _) rfl rfl ?_
 refine RX.assign (v := .bool _) rfl ?_
 refine RX.nil (J7 _ _ ?_)
 refine C.ifn rfl (fun c14 => ?_) (fun c14 => ?_)
 ·try have hne := c14
  refine sq fun _ J15 => ?_
  refine RS.asI rfl ?_
  refine nl J15 ?_
  refine wp_ret ?_
  refine retI rfl rfl ?_
  refine ⟨_, rfl, hE, congrArg (Value.int .i64) ?_⟩
  exact S.check32 (by omega) (fun h => hne (by have := hap.2; rw [hnz] at this; exact congrArg Nat.cast (this ((S.rising_iff _ _).1 h).2)))
 try have hne := c14
 refine sq fun _ J16 => ?_
 refine RS.fl 0 V54 rfl C48 ?_
 refine RS.ld V48 B2 ?_
 refine RS.call E237 (group_Is _ (by omega) _) rfl (fun v17 w17 x17 A17 => ?_)
 replace hE := Ext.tr hE x17
 replace D0 := D0.ext x17
 replace B2 := B2.ext x17
 have zw17 := x17.size
 subst A17
 refine RS.nm ?_
 refine RS.o (D.not rfl) ?_
 refine RS.mvB rfl ?_
 refine RS.splitnot 29 rfl rfl (fun c18 => ?_) (fun c18 => ?_)
 ·refine RS.nm ?_
  have hG := c18
  refine RS.skT 29 ?_
  refine RS.skT 29 ?_
  refine RS.skT 29 ?_
  refine RS.pkt ?_
  refine RS.mvB rfl ?_
  refine RS.skT 34 ?_
  refine RS.skT 34 ?_
  refine RS.skT 34 ?_
  refine RS.skT 34 ?_
  refine RS.skT 34 ?_
  refine RS.skT 34 ?_
  refine RS.skT 34 ?_
  refine RS.skT 34 ?_
  refine RS.pkt ?_
  refine RS.asB rfl ?_
  refine nl J16 ?_
  refine C.ift rfl ?_
  refine sq fun _ J19 => ?_
  refine RS.asI rfl ?_
  refine nl J19 ?_
  refine wp_ret ?_
  refine retI rfl rfl ?_
  refine ⟨_, rfl, hE, congrArg (Value.int .i64) ?_⟩
  have hri : S.Rising o.n o.ids := (S.rising_iff _ _).2 ⟨hso, by have h7 := hap.1; rw [hnz] at h7; exact h7 (by omega)⟩
  refine S.check8 (by omega) hri (fun h => ?_)
  have := h.1
  simp_all
 refine RS.nm ?_
 have hG := c18
 refine RS.wt 29 ?_
 refine RS.fl 2 V54 rfl C38 ?_
 refine RS.wt 29 ?_
 refine RS.ld V38 B2 ?_
 refine RS.wt 29 ?_
 refine RS.o (D.gt rfl rfl) ?_
 refine RS.pk ?_
 refine RS.mvB rfl ?_
 refine RS.splitd 34 rfl rfl (fun c20 => ?_) (fun c20 => ?_)
 ·refine RS.nm ?_
  have hS := c20
  refine RS.skT 34 ?_
  refine RS.skT 34 ?_
  refine RS.skT 34 ?_
  refine RS.skT 34 ?_
  refine RS.skT 34 ?_
  refine RS.skT 34 ?_
  refine RS.skT 34 ?_
  refine RS.skT 34 ?_
  refine RS.pkt ?_
  refine RS.asB rfl ?_
  refine nl J16 ?_
  refine C.ift rfl ?_
  refine sq fun _ J21 => ?_
  refine RS.asI rfl ?_
  refine nl J21 ?_
  refine wp_ret ?_
  refine retI rfl rfl ?_
  refine ⟨_, rfl, hE, congrArg (Value.int .i64) ?_⟩
  have hri : S.Rising o.n o.ids := (S.rising_iff _ _).2 ⟨hso, by have h7 := hap.1; rw [hnz] at h7; exact h7 (by omega)⟩
  refine S.check8 (by omega) hri (fun h => ?_)
  have := h.2.1
  omega
 refine RS.nm ?_
 have hS := c20
 refine RS.wt 34 ?_
 refine RS.fl 9 V54 rfl C52 ?_
 refine RS.wt 34 ?_
 refine RS.fl 9 V52 rfl C48 ?_
 refine RS.wt 34 ?_
 refine RS.ld V48 B2 ?_
 refine RS.wt 34 ?_
 refine RS.fl 9 V54 rfl C52 ?_
 refine RS.wt 34 ?_
 refine RS.fl 10 V52 rfl C48 ?_
 refine RS.wt 34 ?_
 refine RS.ld V48 B2 ?_
 refine RS.wt 34 ?_
 refine RS.o (D.max2 rfl rfl) ?_
 refine RS.wt 34 ?_
 refine RS.o (D.ge rfl rfl) ?_
 refine RS.pk ?_
 refine RS.asB rfl ?_
 refine nl J16 ?_
 refine C.ifd rfl (fun c22 => ?_) (fun c22 => ?_)
 ·try have hQ := c22
  refine sq fun _ J23 => ?_
  refine RS.asI rfl ?_
  refine nl J23 ?_
  refine wp_ret ?_
  refine retI rfl rfl ?_
  refine ⟨_, rfl, hE, congrArg (Value.int .i64) ?_⟩
  have hri : S.Rising o.n o.ids := (S.rising_iff _ _).2 ⟨hso, by have h7 := hap.1; rw [hnz] at h7; exact h7 (by omega)⟩
  refine S.check8 (by omega) hri (fun h => ?_)
  have h1 := h.2.2.1
  have h2 := h.2.2.2.1
  split at hQ <;> omega
 try have hQ := c22
 refine wp_skip ?_
 refine J3 _ _ ?_
 refine sq fun _ J24 => ?_
 refine RS.fl 3 V54 rfl C50 ?_
 refine RS.la V50 C50 B2 6 ?_
 refine RS.call E107 (checkAct _ _ _ _ _ _ o3 o4 o5 o6 (by omega) (by omega) _) rfl (fun v25 w25 x25 A25 => ?_)
 replace hE := Ext.tr hE x25
 replace D0 := D0.ext x25
 replace B2 := B2.ext x25
 have zw25 := x25.size
 subst A25
 refine RS.nm ?_
 refine RS.asI rfl ?_
 refine nl J24 ?_
 refine wp_ret ?_
 refine retI rfl rfl ?_
 refine ⟨_, rfl, hE, congrArg (Value.int .i64) ?_⟩
 have hri : S.Rising o.n o.ids := (S.rising_iff _ _).2 ⟨hso, by have h7 := hap.1; rw [hnz] at h7; exact h7 (by omega)⟩
 refine S.checkA (by omega) hri (by simpa using hG) (by omega) ?_ ?_ <;> (split at hQ <;> omega)
end Go.Proofs.YtakbhjagiofbgaaGreatDoor.W
