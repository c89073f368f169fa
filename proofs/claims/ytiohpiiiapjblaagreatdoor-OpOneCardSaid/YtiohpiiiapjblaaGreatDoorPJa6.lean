/-
  Part 6 of the lemmas of these laws: OpOne, JudgeSigned.
-/
import Derived.Test.YtiohpiiiapjblaaGreatDoorPJa5
namespace Go.Proofs.YtiohpiiiapjblaaGreatDoor.W
open Go.RowKit Go.Proofs.YtiohpiiiapjblaaGreatDoor.G
set_option linter.unusedVariables false
set_option maxRecDepth 20000
set_option maxHeartbeats 8000000
attribute [local irreducible] RS RX
theorem C27 : Tryz.prog.cellsOf 27 = 4 := by kernel_rfl
theorem T27 : TI Tryz.prog 27 4 40 [.int .u8 0, .int .i64 0, .int .u64 0, .string .empty] := by
 have h : (Tryz.prog.info? 27).map (fun i => (i.size, i.bytes, i.zero)) = some (4, 40, some (.agg #[.int .u8 0, .int .i64 0, .int .u64 0, .string .empty])) := by kernel_rfl
 exact TI.of h rfl
theorem F27 : SI Tryz.prog 27 [(0, 1), (1, 1), (2, 1), (3, 1)] := ⟨_, Tryz.underlying27, by kernel_rfl, by kernel_rfl⟩
theorem E148 : Enters Tryz.prog 148 := .mk Tryz.func148 (by kernel_rfl) rfl
theorem E149 : Enters Tryz.prog 149 := .mk Tryz.func149 (by kernel_rfl) rfl
theorem E150 : Enters Tryz.prog 150 := .mk Tryz.func150 (by kernel_rfl) rfl
theorem E153 : Enters Tryz.prog 153 := .mk Tryz.func153 (by kernel_rfl) rfl
theorem E156 : Enters Tryz.prog 156 := .mk Tryz.func156 (by kernel_rfl) rfl
theorem E159 : Enters Tryz.prog 159 := .mk Tryz.func159 (by kernel_rfl) rfl
theorem E160 : Enters Tryz.prog 160 := .mk Tryz.func160 (by kernel_rfl) rfl
theorem E162 : Enters Tryz.prog 162 := .mk Tryz.func162 (by kernel_rfl) rfl
theorem E163 : Enters Tryz.prog 163 := .mk Tryz.func163 (by kernel_rfl) rfl
theorem E164 : Enters Tryz.prog 164 := .mk Tryz.func164 (by kernel_rfl) rfl
theorem rune33 (r : Int) (w : World) :
  Calls Tryz.prog 153 #[.int .i32 r] w (Ret w fun v _ => v = .bool (decide (r < 33 ∨ 126 < r))) := by
 have hE := Ext.refl w
 refine enter (args := [.int .i32 r]) (l := [.int .i32 r, undef, undef, undef, undef, undef, undef, undef, undef]) Tryz.func153 rfl rfl ?_
 refine wp_seq_k (fun K1 hK1 => ?_)
 refine region ?_
 refine RS.assign (v := .bool false) rfl ?_
 refine RS.nil ?_
 refine hK1 _ _ ?_
 try clear hK1
 refine wp_seq_k (fun K2 hK2 => ?_)
 refine region ?_
 refine RS.move (v := .int _ _) rfl ?_
 refine RS.o (D.lt rfl rfl) ?_
 refine RS.move (v := .bool _) rfl ?_
 refine RS.splitd 5 rfl rfl (fun c3 => ?_) (fun c3 => ?_)
 ·refine RS.norm (by dsimp only [List.set]) ?_
  refine RS.skipB (b := true) 5 rfl rfl rfl rfl ?_
  refine RS.norm (by dsimp only [putL, List.set]) ?_
  refine RS.skipB (b := true) 5 rfl rfl rfl rfl ?_
  refine RS.norm (by dsimp only [putL, List.set]) ?_
  refine RS.pick (v := .bool true) rfl rfl ?_
  refine RS.assign (v := .bool _) rfl ?_
  refine RS.nil ?_
  refine hK2 _ _ ?_
  try clear hK2
  refine wp_ret ?_
  refine ret (rs := [.tmp 2]) (vs := [.bool _]) (v := (.bool _)) rfl ⟨rfl, trivial⟩ rfl ?_
  refine ⟨_, rfl, hE, congrArg Value.bool (decide_eq_true ?_).symm⟩
  omega
 ·refine RS.norm (by dsimp only [List.set]) ?_
  refine RS.wantB 5 rfl rfl rfl ?_
  refine RS.move (v := .int _ _) rfl ?_
  refine RS.wantB 5 rfl rfl rfl ?_
  refine RS.o (D.gt rfl rfl) ?_
  refine RS.pick (v := .bool _) rfl rfl ?_
  refine RS.assign (v := .bool _) rfl ?_
  refine RS.nil ?_
  refine hK2 _ _ ?_
  try clear hK2
  refine wp_ret ?_
  refine ret (rs := [.tmp 2]) (vs := [.bool _]) (v := (.bool _)) rfl ⟨rfl, trivial⟩ rfl ?_
  refine ⟨_, rfl, hE, congrArg Value.bool (decide_eq_decide.2 ?_)⟩
  omega
theorem index33 (s : ByteArray) (w : World) :
  Calls Tryz.prog 160 #[.string s, .func (.func 153) #[] #[], .bool true] w (Ret w fun v _ => ∃ j, v = .int .i64 j ∧ (j < 0 ↔ S.Asc 33 s)) := by
 have hE := Ext.refl w
 refine enter (args := [.string s, .func (.func 153) #[] #[], .bool true]) (l := [.string s, .func (.func 153) #[] #[], .bool true, undef, undef, undef, undef, undef, undef, undef, undef, undef, undef, undef, undef, undef, undef, undef, undef, undef, undef]) Tryz.func160 rfl rfl ?_
 refine wp_seq_k (fun K1 hK1 => ?_)
 refine region ?_
 refine RS.assign (v := .int .i64 0) rfl ?_
 refine RS.nil ?_
 refine hK1 _ _ ?_
 try clear hK1
 refine wp_seq_k (fun K2 hK2 => ?_)
 refine wp_seq_k (fun K3 hK3 => ?_)
 refine region ?_
 refine RS.move (v := .string _) rfl ?_
 refine RS.range rfl Tryz.underlying9 (fun b4 w4 e4 s4 x4 I4 => ?_)
 refine RS.norm (by dsimp only [List.set]) ?_
 replace hE := Ext.tr hE x4
 have zw4 := x4.size
 refine RS.nil ?_
 refine hK3 _ _ ?_
 try clear hK3
 refine wp_block ?_
 refine C.loop (A := Int) (fun p => []) [6, 7, 8, 11, 12, 13, 14, 15, 16, 17, 18, 19, 20] (fun p w' => Pr (fun k => k = b4) w4 w' ∧ ((0 ≤ p ∧ p ≤ s.size) ∧ It w' b4 s p.toNat ∧ (∀ j, j < p.toNat → 33 ≤ (bys s).getD j 0 ∧ (bys s).getD j 0 ≤ 126))) (fun p => (s.size - p.toNat)) 0 (by kernel_rfl) ?_ ?_
 ·exact ⟨Pr.refl _ _, ⟨by omega, by omega⟩, I4, fun j hj => by omega⟩
 ·rintro p j w5 ⟨x5, hI⟩
  replace hE := hE.trans (x5.below (by intros; try (first | (intro _ _) | (intro _) | skip); first | omega | (dsimp only at *; omega) | (simp_all; done) | (simp at *; omega)) (by intros; try (first | (intro _ _) | (intro _) | skip); first | omega | (dsimp only at *; omega) | (simp_all; done) | (simp at *; omega)))
  have zw5 := x5.size
  obtain ⟨h1, I4, h2⟩ := hI
  have hdc := S.dec_case s p.toNat
  refine C.norm (by simp only [upd, junk, List.map_cons, List.map_nil, List.set_cons_succ, List.set_cons_zero]; exact rfl) ?_
  refine wp_seq_k (fun K6 hK6 => ?_)
  refine region ?_
  refine RS.next I4 rfl (fun c7 w7 y7 N7 => ?_) (fun c7 => ?_)
  ·refine RS.norm (by dsimp only [List.set]) ?_
   replace hE := hE.trans (y7.below (by intros; try (first | (intro _ _) | (intro _) | skip); first | omega | (dsimp only at *; omega) | (simp_all; done) | (simp at *; omega)))
   replace x5 := x5.stn y7 (by intros; try (first | (intro _ _) | (intro _) | skip); first | omega | (dsimp only at *; omega) | (simp_all; done) | (simp at *; omega))
   have zw7 := y7.size
   replace I4 := N7
   have hp := c7
   refine RS.extract (v := .bool true) rfl rfl ?_
   refine RS.nil ?_
   refine hK6 _ _ ?_
   try clear hK6
   refine wp_seq_k (fun K8 hK8 => ?_)
   refine C.ift rfl ?_
   refine wp_skip ?_
   refine hK8 _ _ ?_
   try clear hK8
   refine wp_block ?_
   refine wp_seq_k (fun K9 hK9 => ?_)
   refine region ?_
   refine RS.extract (v := .int _ _) rfl rfl ?_
   refine RS.extract (v := .int _ _) rfl rfl ?_
   refine RS.assign (v := .int _ _) rfl ?_
   refine RS.assign (v := .int _ _) rfl ?_
   refine RS.nil ?_
   refine hK9 _ _ ?_
   try clear hK9
   refine wp_seq_k (fun K10 hK10 => ?_)
   refine region ?_
   refine RS.move (v := .func _ _ _) rfl ?_
   refine RS.move (v := .int _ _) rfl ?_
   refine RS.callv E153 (rune33 _ _) rfl rfl (fun e11 w11 A11 => ?_)
   obtain ⟨v11, rfl, x11, A11⟩ := A11
   refine ⟨_, rfl, ?_⟩
   replace hE := Ext.tr hE x11
   replace x5 := x5.ext x11
   replace I4 := I4.ext x11
   have zw11 := x11.size
   subst A11
   refine RS.norm (by dsimp only [List.set]) ?_
   refine RS.move (v := .bool _) rfl ?_
   refine RS.o (D.eqB rfl rfl Tryz.underlying4) ?_
   refine RS.nil ?_
   refine hK10 _ _ ?_
   try clear hK10
   refine C.ifb rfl (fun c12 => ?_) (fun c12 => ?_)
   ·have hf := c12
    refine wp_seq_k (fun K13 hK13 => ?_)
    refine region ?_
    refine RS.move (v := .int _ _) rfl ?_
    refine RS.assign (v := .int _ _) rfl ?_
    refine RS.nil ?_
    refine hK13 _ _ ?_
    try clear hK13
    refine wp_ret ?_
    refine ret (rs := [.tmp 6]) (vs := [.int _ _]) (v := (.int _ _)) rfl ⟨rfl, trivial⟩ rfl ?_
    have hd := hdc hp
    rw [beq_true] at hf
    have hf2 := of_decide_eq_true hf
    refine ⟨_, rfl, hE, _, rfl, ⟨fun h => by omega, fun h => ?_⟩⟩
    have := h p.toNat hp
    omega
   ·have hf := c12
    refine wp_skip ?_
    change Nx _ _ _ _ _ _ _ _
    refine C.next (p + 1) trivial (by kernel_rfl) ?_ ?_
    ·have hd := hdc hp
     rw [beq_true] at hf
     have hf2 := of_decide_eq_false hf
     have hw : (Utf8.decode s p.toNat).2 = 1 := by omega
     rw [hw] at I4
     refine ⟨x5, ⟨by omega, by omega⟩, ?_, fun j hj => ?_⟩
     ·rw [show (p + 1).toNat = p.toNat + 1 by omega]; exact I4
     ·by_cases hjp : j < p.toNat
      ·exact h2 j hjp
      ·obtain rfl : j = p.toNat := by omega
       omega
    ·omega
  ·refine RS.norm (by dsimp only [List.set]) ?_
   have hp := c7
   refine RS.extract (v := .bool false) rfl rfl ?_
   refine RS.nil ?_
   refine hK6 _ _ ?_
   try clear hK6
   refine wp_seq_k (fun K14 hK14 => ?_)
   refine C.iff rfl ?_
   refine wp_exit ?_
   refine hK2 _ _ ?_
   try clear hK2
   refine wp_seq_k (fun K15 hK15 => ?_)
   refine region ?_
   refine RS.assign (v := .int .i64 (-1)) rfl ?_
   refine RS.nil ?_
   refine hK15 _ _ ?_
   try clear hK15
   refine wp_ret ?_
   refine ret (rs := [.tmp 6]) (vs := [.int _ _]) (v := (.int _ _)) rfl ⟨rfl, trivial⟩ rfl ?_
   refine ⟨_, rfl, hE, _, rfl, ⟨fun _ j hj => h2 j (by omega), fun _ => by decide⟩⟩
theorem Index33 (s : ByteArray) (w : World) :
  Calls Tryz.prog 149 #[.string s, .func (.func 153) #[] #[]] w (Ret w fun v _ => ∃ j, v = .int .i64 j ∧ (j < 0 ↔ S.Asc 33 s)) := by
 have hE := Ext.refl w
 refine enter (args := [.string s, .func (.func 153) #[] #[]]) (l := [.string s, .func (.func 153) #[] #[], undef, undef, undef, undef, undef, undef]) Tryz.func149 rfl rfl ?_
 refine wp_seq_k (fun K1 hK1 => ?_)
 refine region ?_
 refine RS.assign (v := .int .i64 0) rfl ?_
 refine RS.nil ?_
 refine hK1 _ _ ?_
 try clear hK1
 refine wp_seq_k (fun K2 hK2 => ?_)
 refine region ?_
 refine RS.move (v := .string _) rfl ?_
 refine RS.move (v := .func _ _ _) rfl ?_
 refine RS.call E160 (index33 _ _) rfl (fun v3 w3 x3 A3 => ?_)
 replace hE := Ext.tr hE x3
 have zw3 := x3.size
 obtain ⟨j, rfl, hj⟩ := A3
 refine RS.norm (by dsimp only [List.set]) ?_
 refine RS.assign (v := .int _ _) rfl ?_
 refine RS.nil ?_
 refine hK2 _ _ ?_
 try clear hK2
 refine wp_ret ?_
 refine ret (rs := [.tmp 4]) (vs := [.int _ _]) (v := (.int _ _)) rfl ⟨rfl, trivial⟩ rfl ?_
 exact ⟨_, rfl, hE, _, rfl, hj⟩
theorem rune32 (r : Int) (w : World) :
  Calls Tryz.prog 150 #[.int .i32 r] w (Ret w fun v _ => v = .bool (decide (r < 32 ∨ 126 < r))) := by
 have hE := Ext.refl w
 refine enter (args := [.int .i32 r]) (l := [.int .i32 r, undef, undef, undef, undef, undef, undef, undef, undef]) Tryz.func150 rfl rfl ?_
 refine wp_seq_k (fun K1 hK1 => ?_)
 refine region ?_
 refine RS.assign (v := .bool false) rfl ?_
 refine RS.nil ?_
 refine hK1 _ _ ?_
 try clear hK1
 refine wp_seq_k (fun K2 hK2 => ?_)
 refine region ?_
 refine RS.move (v := .int _ _) rfl ?_
 refine RS.o (D.lt rfl rfl) ?_
 refine RS.move (v := .bool _) rfl ?_
 refine RS.splitd 5 rfl rfl (fun c3 => ?_) (fun c3 => ?_)
 ·refine RS.norm (by dsimp only [List.set]) ?_
  refine RS.skipB (b := true) 5 rfl rfl rfl rfl ?_
  refine RS.norm (by dsimp only [putL, List.set]) ?_
  refine RS.skipB (b := true) 5 rfl rfl rfl rfl ?_
  refine RS.norm (by dsimp only [putL, List.set]) ?_
  refine RS.pick (v := .bool true) rfl rfl ?_
  refine RS.assign (v := .bool _) rfl ?_
  refine RS.nil ?_
  refine hK2 _ _ ?_
  try clear hK2
  refine wp_ret ?_
  refine ret (rs := [.tmp 2]) (vs := [.bool _]) (v := (.bool _)) rfl ⟨rfl, trivial⟩ rfl ?_
  refine ⟨_, rfl, hE, congrArg Value.bool (decide_eq_true ?_).symm⟩
  omega
 ·refine RS.norm (by dsimp only [List.set]) ?_
  refine RS.wantB 5 rfl rfl rfl ?_
  refine RS.move (v := .int _ _) rfl ?_
  refine RS.wantB 5 rfl rfl rfl ?_
  refine RS.o (D.gt rfl rfl) ?_
  refine RS.pick (v := .bool _) rfl rfl ?_
  refine RS.assign (v := .bool _) rfl ?_
  refine RS.nil ?_
  refine hK2 _ _ ?_
  try clear hK2
  refine wp_ret ?_
  refine ret (rs := [.tmp 2]) (vs := [.bool _]) (v := (.bool _)) rfl ⟨rfl, trivial⟩ rfl ?_
  refine ⟨_, rfl, hE, congrArg Value.bool (decide_eq_decide.2 ?_)⟩
  omega
theorem index32 (s : ByteArray) (w : World) :
  Calls Tryz.prog 160 #[.string s, .func (.func 150) #[] #[], .bool true] w (Ret w fun v _ => ∃ j, v = .int .i64 j ∧ (j < 0 ↔ S.Asc 32 s)) := by
 have hE := Ext.refl w
 refine enter (args := [.string s, .func (.func 150) #[] #[], .bool true]) (l := [.string s, .func (.func 150) #[] #[], .bool true, undef, undef, undef, undef, undef, undef, undef, undef, undef, undef, undef, undef, undef, undef, undef, undef, undef, undef]) Tryz.func160 rfl rfl ?_
 refine wp_seq_k (fun K1 hK1 => ?_)
 refine region ?_
 refine RS.assign (v := .int .i64 0) rfl ?_
 refine RS.nil ?_
 refine hK1 _ _ ?_
 try clear hK1
 refine wp_seq_k (fun K2 hK2 => ?_)
 refine wp_seq_k (fun K3 hK3 => ?_)
 refine region ?_
 refine RS.move (v := .string _) rfl ?_
 refine RS.range rfl Tryz.underlying9 (fun b4 w4 e4 s4 x4 I4 => ?_)
 refine RS.norm (by dsimp only [List.set]) ?_
 replace hE := Ext.tr hE x4
 have zw4 := x4.size
 refine RS.nil ?_
 refine hK3 _ _ ?_
 try clear hK3
 refine wp_block ?_
 refine C.loop (A := Int) (fun p => []) [6, 7, 8, 11, 12, 13, 14, 15, 16, 17, 18, 19, 20] (fun p w' => Pr (fun k => k = b4) w4 w' ∧ ((0 ≤ p ∧ p ≤ s.size) ∧ It w' b4 s p.toNat ∧ (∀ j, j < p.toNat → 32 ≤ (bys s).getD j 0 ∧ (bys s).getD j 0 ≤ 126))) (fun p => (s.size - p.toNat)) 0 (by kernel_rfl) ?_ ?_
 ·exact ⟨Pr.refl _ _, ⟨by omega, by omega⟩, I4, fun j hj => by omega⟩
 ·rintro p j w5 ⟨x5, hI⟩
  replace hE := hE.trans (x5.below (by intros; try (first | (intro _ _) | (intro _) | skip); first | omega | (dsimp only at *; omega) | (simp_all; done) | (simp at *; omega)) (by intros; try (first | (intro _ _) | (intro _) | skip); first | omega | (dsimp only at *; omega) | (simp_all; done) | (simp at *; omega)))
  have zw5 := x5.size
  obtain ⟨h1, I4, h2⟩ := hI
  have hdc := S.dec_case s p.toNat
  refine C.norm (by simp only [upd, junk, List.map_cons, List.map_nil, List.set_cons_succ, List.set_cons_zero]; exact rfl) ?_
  refine wp_seq_k (fun K6 hK6 => ?_)
  refine region ?_
  refine RS.next I4 rfl (fun c7 w7 y7 N7 => ?_) (fun c7 => ?_)
  ·refine RS.norm (by dsimp only [List.set]) ?_
   replace hE := hE.trans (y7.below (by intros; try (first | (intro _ _) | (intro _) | skip); first | omega | (dsimp only at *; omega) | (simp_all; done) | (simp at *; omega)))
   replace x5 := x5.stn y7 (by intros; try (first | (intro _ _) | (intro _) | skip); first | omega | (dsimp only at *; omega) | (simp_all; done) | (simp at *; omega))
   have zw7 := y7.size
   replace I4 := N7
   have hp := c7
   refine RS.extract (v := .bool true) rfl rfl ?_
   refine RS.nil ?_
   refine hK6 _ _ ?_
   try clear hK6
   refine wp_seq_k (fun K8 hK8 => ?_)
   refine C.ift rfl ?_
   refine wp_skip ?_
   refine hK8 _ _ ?_
   try clear hK8
   refine wp_block ?_
   refine wp_seq_k (fun K9 hK9 => ?_)
   refine region ?_
   refine RS.extract (v := .int _ _) rfl rfl ?_
   refine RS.extract (v := .int _ _) rfl rfl ?_
   refine RS.assign (v := .int _ _) rfl ?_
   refine RS.assign (v := .int _ _) rfl ?_
   refine RS.nil ?_
   refine hK9 _ _ ?_
   try clear hK9
   refine wp_seq_k (fun K10 hK10 => ?_)
   refine region ?_
   refine RS.move (v := .func _ _ _) rfl ?_
   refine RS.move (v := .int _ _) rfl ?_
   refine RS.callv E150 (rune32 _ _) rfl rfl (fun e11 w11 A11 => ?_)
   obtain ⟨v11, rfl, x11, A11⟩ := A11
   refine ⟨_, rfl, ?_⟩
   replace hE := Ext.tr hE x11
   replace x5 := x5.ext x11
   replace I4 := I4.ext x11
   have zw11 := x11.size
   subst A11
   refine RS.norm (by dsimp only [List.set]) ?_
   refine RS.move (v := .bool _) rfl ?_
   refine RS.o (D.eqB rfl rfl Tryz.underlying4) ?_
   refine RS.nil ?_
   refine hK10 _ _ ?_
   try clear hK10
   refine C.ifb rfl (fun c12 => ?_) (fun c12 => ?_)
   ·have hf := c12
    refine wp_seq_k (fun K13 hK13 => ?_)
    refine region ?_
    refine RS.move (v := .int _ _) rfl ?_
    refine RS.assign (v := .int _ _) rfl ?_
    refine RS.nil ?_
    refine hK13 _ _ ?_
    try clear hK13
    refine wp_ret ?_
    refine ret (rs := [.tmp 6]) (vs := [.int _ _]) (v := (.int _ _)) rfl ⟨rfl, trivial⟩ rfl ?_
    have hd := hdc hp
    rw [beq_true] at hf
    have hf2 := of_decide_eq_true hf
    refine ⟨_, rfl, hE, _, rfl, ⟨fun h => by omega, fun h => ?_⟩⟩
    have := h p.toNat hp
    omega
   ·have hf := c12
    refine wp_skip ?_
    change Nx _ _ _ _ _ _ _ _
    refine C.next (p + 1) trivial (by kernel_rfl) ?_ ?_
    ·have hd := hdc hp
     rw [beq_true] at hf
     have hf2 := of_decide_eq_false hf
     have hw : (Utf8.decode s p.toNat).2 = 1 := by omega
     rw [hw] at I4
     refine ⟨x5, ⟨by omega, by omega⟩, ?_, fun j hj => ?_⟩
     ·rw [show (p + 1).toNat = p.toNat + 1 by omega]; exact I4
     ·by_cases hjp : j < p.toNat
      ·exact h2 j hjp
      ·obtain rfl : j = p.toNat := by omega
       omega
    ·omega
  ·refine RS.norm (by dsimp only [List.set]) ?_
   have hp := c7
   refine RS.extract (v := .bool false) rfl rfl ?_
   refine RS.nil ?_
   refine hK6 _ _ ?_
   try clear hK6
   refine wp_seq_k (fun K14 hK14 => ?_)
   refine C.iff rfl ?_
   refine wp_exit ?_
   refine hK2 _ _ ?_
   try clear hK2
   refine wp_seq_k (fun K15 hK15 => ?_)
   refine region ?_
   refine RS.assign (v := .int .i64 (-1)) rfl ?_
   refine RS.nil ?_
   refine hK15 _ _ ?_
   try clear hK15
   refine wp_ret ?_
   refine ret (rs := [.tmp 6]) (vs := [.int _ _]) (v := (.int _ _)) rfl ⟨rfl, trivial⟩ rfl ?_
   refine ⟨_, rfl, hE, _, rfl, ⟨fun _ j hj => h2 j (by omega), fun _ => by decide⟩⟩
theorem Index32 (s : ByteArray) (w : World) :
  Calls Tryz.prog 149 #[.string s, .func (.func 150) #[] #[]] w (Ret w fun v _ => ∃ j, v = .int .i64 j ∧ (j < 0 ↔ S.Asc 32 s)) := by
 have hE := Ext.refl w
 refine enter (args := [.string s, .func (.func 150) #[] #[]]) (l := [.string s, .func (.func 150) #[] #[], undef, undef, undef, undef, undef, undef]) Tryz.func149 rfl rfl ?_
 refine wp_seq_k (fun K1 hK1 => ?_)
 refine region ?_
 refine RS.assign (v := .int .i64 0) rfl ?_
 refine RS.nil ?_
 refine hK1 _ _ ?_
 try clear hK1
 refine wp_seq_k (fun K2 hK2 => ?_)
 refine region ?_
 refine RS.move (v := .string _) rfl ?_
 refine RS.move (v := .func _ _ _) rfl ?_
 refine RS.call E160 (index32 _ _) rfl (fun v3 w3 x3 A3 => ?_)
 replace hE := Ext.tr hE x3
 have zw3 := x3.size
 obtain ⟨j, rfl, hj⟩ := A3
 refine RS.norm (by dsimp only [List.set]) ?_
 refine RS.assign (v := .int _ _) rfl ?_
 refine RS.nil ?_
 refine hK2 _ _ ?_
 try clear hK2
 refine wp_ret ?_
 refine ret (rs := [.tmp 4]) (vs := [.int _ _]) (v := (.int _ _)) rfl ⟨rfl, trivial⟩ rfl ?_
 exact ⟨_, rfl, hE, _, rfl, hj⟩
theorem key (s : ByteArray) (w : World) :
  Calls Tryz.prog 132 #[.string s] w (Ret w fun v _ => v = .bool (decide (S.KeyOk s))) := by
 have hE := Ext.refl w
 refine enter (args := [.string s]) (l := [.string s, undef, undef, undef, undef, undef, undef, undef, undef, undef, undef, undef, undef, undef, undef, undef]) Tryz.func132 rfl rfl ?_
 refine wp_seq_k (fun K1 hK1 => ?_)
 refine region ?_
 refine RS.assign (v := .bool false) rfl ?_
 refine RS.nil ?_
 refine hK1 _ _ ?_
 try clear hK1
 refine wp_seq_k (fun K2 hK2 => ?_)
 refine region ?_
 refine RS.move (v := .string _) rfl ?_
 refine RS.o (D.lenStr rfl Tryz.underlying9) ?_
 refine RS.o (D.ge rfl rfl) ?_
 refine RS.move (v := .bool _) rfl ?_
 refine RS.splitd 6 rfl rfl (fun c3 => ?_) (fun c3 => ?_)
 ·refine RS.norm (by dsimp only [List.set]) ?_
  have h1 := c3
  refine RS.wantB 6 rfl rfl rfl ?_
  refine RS.move (v := .string _) rfl ?_
  refine RS.wantB 6 rfl rfl rfl ?_
  refine RS.o (D.lenStr rfl Tryz.underlying9) ?_
  refine RS.wantB 6 rfl rfl rfl ?_
  refine RS.o (D.le rfl rfl) ?_
  refine RS.pick (v := .bool _) rfl rfl ?_
  refine RS.move (v := .bool _) rfl ?_
  refine RS.splitd 11 rfl rfl (fun c4 => ?_) (fun c4 => ?_)
  ·refine RS.norm (by dsimp only [List.set]) ?_
   have h2 := c4
   refine RS.wantB 11 rfl rfl rfl ?_
   refine RS.move (v := .string _) rfl ?_
   refine RS.wantB 11 rfl rfl rfl ?_
   refine RS.call E149 (Index33 _ _) rfl (fun v5 w5 x5 A5 => ?_)
   replace hE := Ext.tr hE x5
   have zw5 := x5.size
   obtain ⟨j, rfl, hj⟩ := A5
   refine RS.norm (by dsimp only [List.set]) ?_
   refine RS.wantB 11 rfl rfl rfl ?_
   refine RS.o (D.lt rfl rfl) ?_
   refine RS.pick (v := .bool _) rfl rfl ?_
   refine RS.assign (v := .bool _) rfl ?_
   refine RS.nil ?_
   refine hK2 _ _ ?_
   try clear hK2
   refine wp_ret ?_
   refine ret (rs := [.tmp 2]) (vs := [.bool _]) (v := (.bool _)) rfl ⟨rfl, trivial⟩ rfl ?_
   refine ⟨_, rfl, hE, congrArg Value.bool (decide_eq_decide.2 ?_)⟩
   unfold S.KeyOk
   rw [hj]
   exact ⟨fun h => ⟨by omega, by omega, h⟩, fun h => h.2.2⟩
  ·refine RS.norm (by dsimp only [List.set]) ?_
   have h2 := c4
   refine RS.skipB (b := false) 11 rfl rfl rfl rfl ?_
   refine RS.norm (by dsimp only [putL, List.set]) ?_
   refine RS.skipB (b := false) 11 rfl rfl rfl rfl ?_
   refine RS.norm (by dsimp only [putL, List.set]) ?_
   refine RS.skipB (b := false) 11 rfl rfl rfl rfl ?_
   refine RS.norm (by dsimp only [putL, List.set]) ?_
   refine RS.pick (v := .bool false) rfl rfl ?_
   refine RS.assign (v := .bool _) rfl ?_
   refine RS.nil ?_
   refine hK2 _ _ ?_
   try clear hK2
   refine wp_ret ?_
   refine ret (rs := [.tmp 2]) (vs := [.bool _]) (v := (.bool _)) rfl ⟨rfl, trivial⟩ rfl ?_
   refine ⟨_, rfl, hE, congrArg Value.bool (decide_eq_false ?_).symm⟩
   intro h
   have := h.2.1
   omega
 ·refine RS.norm (by dsimp only [List.set]) ?_
  have h1 := c3
  refine RS.skipB (b := false) 6 rfl rfl rfl rfl ?_
  refine RS.norm (by dsimp only [putL, List.set]) ?_
  refine RS.skipB (b := false) 6 rfl rfl rfl rfl ?_
  refine RS.norm (by dsimp only [putL, List.set]) ?_
  refine RS.skipB (b := false) 6 rfl rfl rfl rfl ?_
  refine RS.norm (by dsimp only [putL, List.set]) ?_
  refine RS.pick (v := .bool false) rfl rfl ?_
  refine RS.move (v := .bool _) rfl ?_
  refine RS.skipB (b := false) 11 rfl rfl rfl rfl ?_
  refine RS.norm (by dsimp only [putL, List.set]) ?_
  refine RS.skipB (b := false) 11 rfl rfl rfl rfl ?_
  refine RS.norm (by dsimp only [putL, List.set]) ?_
  refine RS.skipB (b := false) 11 rfl rfl rfl rfl ?_
  refine RS.norm (by dsimp only [putL, List.set]) ?_
  refine RS.pick (v := .bool false) rfl rfl ?_
  refine RS.assign (v := .bool _) rfl ?_
  refine RS.nil ?_
  refine hK2 _ _ ?_
  try clear hK2
  refine wp_ret ?_
  refine ret (rs := [.tmp 2]) (vs := [.bool _]) (v := (.bool _)) rfl ⟨rfl, trivial⟩ rfl ?_
  refine ⟨_, rfl, hE, congrArg Value.bool (decide_eq_false ?_).symm⟩
  intro h
  have := h.1
  omega
theorem printable (s : ByteArray) (hs : s.size ≤ 1000000) (w : World) :
  Calls Tryz.prog 145 #[.string s] w (Ret w fun v _ => v = .bool (decide (S.Asc 32 s))) := by
 have hE := Ext.refl w
 refine enter (args := [.string s]) (l := [.string s, undef, undef, undef, undef, undef, undef, undef, undef, undef, undef, undef, undef, undef, undef, undef, undef, undef, undef, undef]) Tryz.func145 rfl rfl ?_
 refine wp_seq_k (fun K1 hK1 => ?_)
 refine region ?_
 refine RS.assign (v := .bool false) rfl ?_
 refine RS.nil ?_
 refine hK1 _ _ ?_
 try clear hK1
 refine wp_seq_k (fun K2 hK2 => ?_)
 refine wp_seq_k (fun K3 hK3 => ?_)
 refine region ?_
 refine RS.assign (v := .int .i64 0) rfl ?_
 refine RS.nil ?_
 refine hK3 _ _ ?_
 try clear hK3
 refine wp_block ?_
 refine C.loop (A := Int) (fun p => [(3, .int .i64 p)]) [2, 4, 5, 6, 7, 8, 9, 10, 11, 12, 13, 14, 15, 16, 17, 18, 19] (fun p w' => Ext w w' ∧ ((0 ≤ p ∧ p ≤ s.size) ∧ (∀ j, j < p.toNat → 32 ≤ (bys s).getD j 0 ∧ (bys s).getD j 0 ≤ 126))) (fun p => (s.size - p.toNat)) 0 (by kernel_rfl) ?_ ?_
 ·exact ⟨Ext.refl _, ⟨by omega, by omega⟩, fun j hj => by omega⟩
 ·rintro p j w4 ⟨x4, hI⟩
  replace hE := Ext.tr hE x4
  have zw4 := x4.size
  obtain ⟨h1, h2⟩ := hI
  refine C.norm (by simp only [upd, junk, List.map_cons, List.map_nil, List.set_cons_succ, List.set_cons_zero]; exact rfl) ?_
  refine wp_seq_k (fun K5 hK5 => ?_)
  refine wp_seq_k (fun K6 hK6 => ?_)
  refine region ?_
  refine RS.move (v := .int _ _) rfl ?_
  refine RS.move (v := .string _) rfl ?_
  refine RS.o (D.lenStr rfl Tryz.underlying9) ?_
  refine RS.o (D.lt rfl rfl) ?_
  refine RS.nil ?_
  refine hK6 _ _ ?_
  try clear hK6
  refine C.ifd rfl (fun c7 => ?_) (fun c7 => ?_)
  ·have hl := c7
   refine wp_skip ?_
   refine hK5 _ _ ?_
   try clear hK5
   refine wp_seq_k (fun K8 hK8 => ?_)
   refine wp_block ?_
   refine wp_seq_k (fun K9 hK9 => ?_)
   refine region ?_
   refine RS.move (v := .string _) rfl ?_
   refine RS.move (v := .int _ _) rfl ?_
   refine RS.indexStr rfl rfl Tryz.underlying9 (by omega) (fun v10 q10 r10 => ?_)
   refine RS.norm (by dsimp only [List.set]) ?_
   simp only [lim] at r10
   have q1 := q10
   refine RS.o (D.lt rfl rfl) ?_
   refine RS.move (v := .bool _) rfl ?_
   refine RS.splitd 14 rfl rfl (fun c11 => ?_) (fun c11 => ?_)
   ·refine RS.norm (by dsimp only [List.set]) ?_
    refine RS.skipB (b := true) 14 rfl rfl rfl rfl ?_
    refine RS.norm (by dsimp only [putL, List.set]) ?_
    refine RS.skipB (b := true) 14 rfl rfl rfl rfl ?_
    refine RS.norm (by dsimp only [putL, List.set]) ?_
    refine RS.skipB (b := true) 14 rfl rfl rfl rfl ?_
    refine RS.norm (by dsimp only [putL, List.set]) ?_
    refine RS.skipB (b := true) 14 rfl rfl rfl rfl ?_
    refine RS.norm (by dsimp only [putL, List.set]) ?_
    refine RS.pick (v := .bool true) rfl rfl ?_
    refine RS.nil ?_
    refine hK9 _ _ ?_
    try clear hK9
    refine C.ift rfl ?_
    refine wp_seq_k (fun K12 hK12 => ?_)
    refine region ?_
    refine RS.assign (v := .bool false) rfl ?_
    refine RS.nil ?_
    refine hK12 _ _ ?_
    try clear hK12
    refine wp_ret ?_
    refine ret (rs := [.tmp 2]) (vs := [.bool _]) (v := (.bool _)) rfl ⟨rfl, trivial⟩ rfl ?_
    refine ⟨_, rfl, hE, congrArg Value.bool (decide_eq_false ?_).symm⟩
    intro h
    have := h p.toNat (by omega)
    omega
   ·refine RS.norm (by dsimp only [List.set]) ?_
    refine RS.wantB 14 rfl rfl rfl ?_
    refine RS.move (v := .string _) rfl ?_
    refine RS.wantB 14 rfl rfl rfl ?_
    refine RS.move (v := .int _ _) rfl ?_
    refine RS.wantB 14 rfl rfl rfl ?_
    refine RS.indexStr rfl rfl Tryz.underlying9 (by omega) (fun v13 q13 r13 => ?_)
    refine RS.norm (by dsimp only [List.set]) ?_
    simp only [lim] at r13
    have q2 := q13
    refine RS.wantB 14 rfl rfl rfl ?_
    refine RS.o (D.gt rfl rfl) ?_
    refine RS.pick (v := .bool _) rfl rfl ?_
    refine RS.nil ?_
    refine hK9 _ _ ?_
    try clear hK9
    refine C.ifd rfl (fun c14 => ?_) (fun c14 => ?_)
    ·try have hb := c14
     refine wp_seq_k (fun K15 hK15 => ?_)
     refine region ?_
     refine RS.assign (v := .bool false) rfl ?_
     refine RS.nil ?_
     refine hK15 _ _ ?_
     try clear hK15
     refine wp_ret ?_
     refine ret (rs := [.tmp 2]) (vs := [.bool _]) (v := (.bool _)) rfl ⟨rfl, trivial⟩ rfl ?_
     refine ⟨_, rfl, hE, congrArg Value.bool (decide_eq_false ?_).symm⟩
     intro h
     have := h p.toNat (by omega)
     omega
    ·refine wp_skip ?_
     refine hK8 _ _ ?_
     try clear hK8
     refine region ?_
     refine RS.move (v := .int _ _) rfl ?_
     refine RS.o (D.add rfl rfl (W.i64 (by omega))) ?_
     refine RS.assign (v := .int _ _) rfl ?_
     refine RS.nil ?_
     change Nx _ _ _ _ _ _ _ _
     refine C.next (p + 1) ⟨rfl, trivial⟩ (by kernel_rfl) ?_ ?_
     ·refine ⟨x4, ⟨by omega, by omega⟩, fun j hj => ?_⟩
      by_cases hjp : j < p.toNat
      ·exact h2 j hjp
      ·obtain rfl : j = p.toNat := by omega
       omega
     ·omega
  ·have hl := c7
   refine wp_exit ?_
   refine hK2 _ _ ?_
   try clear hK2
   refine wp_seq_k (fun K16 hK16 => ?_)
   refine region ?_
   refine RS.assign (v := .bool true) rfl ?_
   refine RS.nil ?_
   refine hK16 _ _ ?_
   try clear hK16
   refine wp_ret ?_
   refine ret (rs := [.tmp 2]) (vs := [.bool _]) (v := (.bool _)) rfl ⟨rfl, trivial⟩ rfl ?_
   exact ⟨_, rfl, hE, congrArg Value.bool (decide_eq_true (fun j hj => h2 j (by omega))).symm⟩
theorem nameR (s : ByteArray) (hs : s.size ≤ 1000000) (w : World) :
  Calls Tryz.prog 116 #[.string s] w (Ret w fun v _ => v = .bool (decide (S.KeyOk s))) := by
 have hE := Ext.refl w
 refine enter (args := [.string s]) (l := [.string s, undef, undef, undef, undef, undef, undef, undef, undef, undef, undef, undef, undef, undef, undef, undef, undef, undef, undef, undef, undef, undef, undef, undef, undef, undef, undef, undef]) Tryz.func116 rfl rfl ?_
 refine wp_seq_k (fun K1 hK1 => ?_)
 refine region ?_
 refine RS.assign (v := .bool false) rfl ?_
 refine RS.nil ?_
 refine hK1 _ _ ?_
 try clear hK1
 refine wp_seq_k (fun K2 hK2 => ?_)
 refine wp_seq_k (fun K3 hK3 => ?_)
 refine region ?_
 refine RS.move (v := .string _) rfl ?_
 refine RS.o (D.lenStr rfl Tryz.underlying9) ?_
 refine RS.o (D.lt rfl rfl) ?_
 refine RS.move (v := .bool _) rfl ?_
 refine RS.splitd 7 rfl rfl (fun c4 => ?_) (fun c4 => ?_)
 ·refine RS.norm (by dsimp only [List.set]) ?_
  refine RS.skipB (b := true) 7 rfl rfl rfl rfl ?_
  refine RS.norm (by dsimp only [putL, List.set]) ?_
  refine RS.skipB (b := true) 7 rfl rfl rfl rfl ?_
  refine RS.norm (by dsimp only [putL, List.set]) ?_
  refine RS.skipB (b := true) 7 rfl rfl rfl rfl ?_
  refine RS.norm (by dsimp only [putL, List.set]) ?_
  refine RS.pick (v := .bool true) rfl rfl ?_
  refine RS.nil ?_
  refine hK3 _ _ ?_
  try clear hK3
  refine C.ift rfl ?_
  refine wp_seq_k (fun K5 hK5 => ?_)
  refine region ?_
  refine RS.assign (v := .bool false) rfl ?_
  refine RS.nil ?_
  refine hK5 _ _ ?_
  try clear hK5
  refine wp_ret ?_
  refine ret (rs := [.tmp 2]) (vs := [.bool _]) (v := (.bool _)) rfl ⟨rfl, trivial⟩ rfl ?_
  refine ⟨_, rfl, hE, congrArg Value.bool (decide_eq_false ?_).symm⟩
  intro h
  have := h.1
  omega
 ·refine RS.norm (by dsimp only [List.set]) ?_
  refine RS.wantB 7 rfl rfl rfl ?_
  refine RS.move (v := .string _) rfl ?_
  refine RS.wantB 7 rfl rfl rfl ?_
  refine RS.o (D.lenStr rfl Tryz.underlying9) ?_
  refine RS.wantB 7 rfl rfl rfl ?_
  refine RS.o (D.gt rfl rfl) ?_
  refine RS.pick (v := .bool _) rfl rfl ?_
  refine RS.nil ?_
  refine hK3 _ _ ?_
  try clear hK3
  refine C.ifd rfl (fun c6 => ?_) (fun c6 => ?_)
  ·refine wp_seq_k (fun K7 hK7 => ?_)
   refine region ?_
   refine RS.assign (v := .bool false) rfl ?_
   refine RS.nil ?_
   refine hK7 _ _ ?_
   try clear hK7
   refine wp_ret ?_
   refine ret (rs := [.tmp 2]) (vs := [.bool _]) (v := (.bool _)) rfl ⟨rfl, trivial⟩ rfl ?_
   refine ⟨_, rfl, hE, congrArg Value.bool (decide_eq_false ?_).symm⟩
   intro h
   have := h.2.1
   omega
  ·refine wp_skip ?_
   refine hK2 _ _ ?_
   try clear hK2
   refine wp_seq_k (fun K8 hK8 => ?_)
   refine wp_seq_k (fun K9 hK9 => ?_)
   refine region ?_
   refine RS.assign (v := .int .i64 0) rfl ?_
   refine RS.nil ?_
   refine hK9 _ _ ?_
   try clear hK9
   refine wp_block ?_
   refine C.loop (A := Int) (fun p => [(3, .int .i64 p)]) [2, 12, 13, 14, 15, 16, 17, 18, 19, 20, 21, 22, 23, 24, 25, 26, 27] (fun p w' => Ext w w' ∧ ((0 ≤ p ∧ p ≤ s.size) ∧ (∀ j, j < p.toNat → 33 ≤ (bys s).getD j 0 ∧ (bys s).getD j 0 ≤ 126))) (fun p => (s.size - p.toNat)) 0 (by kernel_rfl) ?_ ?_
   ·exact ⟨Ext.refl _, ⟨by omega, by omega⟩, fun j hj => by omega⟩
   ·rintro p j w10 ⟨x10, hI⟩
    replace hE := Ext.tr hE x10
    have zw10 := x10.size
    obtain ⟨h1, h2⟩ := hI
    refine C.norm (by simp only [upd, junk, List.map_cons, List.map_nil, List.set_cons_succ, List.set_cons_zero]; exact rfl) ?_
    refine wp_seq_k (fun K11 hK11 => ?_)
    refine wp_seq_k (fun K12 hK12 => ?_)
    refine region ?_
    refine RS.move (v := .int _ _) rfl ?_
    refine RS.move (v := .string _) rfl ?_
    refine RS.o (D.lenStr rfl Tryz.underlying9) ?_
    refine RS.o (D.lt rfl rfl) ?_
    refine RS.nil ?_
    refine hK12 _ _ ?_
    try clear hK12
    refine C.ifd rfl (fun c13 => ?_) (fun c13 => ?_)
    ·refine wp_skip ?_
     refine hK11 _ _ ?_
     try clear hK11
     refine wp_seq_k (fun K14 hK14 => ?_)
     refine wp_block ?_
     refine wp_seq_k (fun K15 hK15 => ?_)
     refine region ?_
     refine RS.move (v := .string _) rfl ?_
     refine RS.move (v := .int _ _) rfl ?_
     refine RS.indexStr rfl rfl Tryz.underlying9 (by omega) (fun v16 q16 r16 => ?_)
     refine RS.norm (by dsimp only [List.set]) ?_
     simp only [lim] at r16
     have q1 := q16
     refine RS.o (D.lt rfl rfl) ?_
     refine RS.move (v := .bool _) rfl ?_
     refine RS.splitd 22 rfl rfl (fun c17 => ?_) (fun c17 => ?_)
     ·refine RS.norm (by dsimp only [List.set]) ?_
      refine RS.skipB (b := true) 22 rfl rfl rfl rfl ?_
      refine RS.norm (by dsimp only [putL, List.set]) ?_
      refine RS.skipB (b := true) 22 rfl rfl rfl rfl ?_
      refine RS.norm (by dsimp only [putL, List.set]) ?_
      refine RS.skipB (b := true) 22 rfl rfl rfl rfl ?_
      refine RS.norm (by dsimp only [putL, List.set]) ?_
      refine RS.skipB (b := true) 22 rfl rfl rfl rfl ?_
      refine RS.norm (by dsimp only [putL, List.set]) ?_
      refine RS.pick (v := .bool true) rfl rfl ?_
      refine RS.nil ?_
      refine hK15 _ _ ?_
      try clear hK15
      refine C.ift rfl ?_
      refine wp_seq_k (fun K18 hK18 => ?_)
      refine region ?_
      refine RS.assign (v := .bool false) rfl ?_
      refine RS.nil ?_
      refine hK18 _ _ ?_
      try clear hK18
      refine wp_ret ?_
      refine ret (rs := [.tmp 2]) (vs := [.bool _]) (v := (.bool _)) rfl ⟨rfl, trivial⟩ rfl ?_
      refine ⟨_, rfl, hE, congrArg Value.bool (decide_eq_false ?_).symm⟩
      intro h
      have := h.2.2 p.toNat (by omega)
      omega
     ·refine RS.norm (by dsimp only [List.set]) ?_
      refine RS.wantB 22 rfl rfl rfl ?_
      refine RS.move (v := .string _) rfl ?_
      refine RS.wantB 22 rfl rfl rfl ?_
      refine RS.move (v := .int _ _) rfl ?_
      refine RS.wantB 22 rfl rfl rfl ?_
      refine RS.indexStr rfl rfl Tryz.underlying9 (by omega) (fun v19 q19 r19 => ?_)
      refine RS.norm (by dsimp only [List.set]) ?_
      simp only [lim] at r19
      have q2 := q19
      refine RS.wantB 22 rfl rfl rfl ?_
      refine RS.o (D.gt rfl rfl) ?_
      refine RS.pick (v := .bool _) rfl rfl ?_
      refine RS.nil ?_
      refine hK15 _ _ ?_
      try clear hK15
      refine C.ifd rfl (fun c20 => ?_) (fun c20 => ?_)
      ·refine wp_seq_k (fun K21 hK21 => ?_)
       refine region ?_
       refine RS.assign (v := .bool false) rfl ?_
       refine RS.nil ?_
       refine hK21 _ _ ?_
       try clear hK21
       refine wp_ret ?_
       refine ret (rs := [.tmp 2]) (vs := [.bool _]) (v := (.bool _)) rfl ⟨rfl, trivial⟩ rfl ?_
       refine ⟨_, rfl, hE, congrArg Value.bool (decide_eq_false ?_).symm⟩
       intro h
       have := h.2.2 p.toNat (by omega)
       omega
      ·refine wp_skip ?_
       refine hK14 _ _ ?_
       try clear hK14
       refine region ?_
       refine RS.move (v := .int _ _) rfl ?_
       refine RS.o (D.add rfl rfl (W.i64 (by omega))) ?_
       refine RS.assign (v := .int _ _) rfl ?_
       refine RS.nil ?_
       change Nx _ _ _ _ _ _ _ _
       refine C.next (p + 1) ⟨rfl, trivial⟩ (by kernel_rfl) ?_ ?_
       ·refine ⟨x10, ⟨by omega, by omega⟩, fun j hj => ?_⟩
        by_cases hjp : j < p.toNat
        ·exact h2 j hjp
        ·obtain rfl : j = p.toNat := by omega
         omega
       ·omega
    ·refine wp_exit ?_
     refine hK8 _ _ ?_
     try clear hK8
     refine wp_seq_k (fun K22 hK22 => ?_)
     refine region ?_
     refine RS.assign (v := .bool true) rfl ?_
     refine RS.nil ?_
     refine hK22 _ _ ?_
     try clear hK22
     refine wp_ret ?_
     refine ret (rs := [.tmp 2]) (vs := [.bool _]) (v := (.bool _)) rfl ⟨rfl, trivial⟩ rfl ?_
     refine ⟨_, rfl, hE, congrArg Value.bool (decide_eq_true ⟨by omega, by omega, fun j hj => h2 j (by omega)⟩).symm⟩
theorem splitV (b : Int) (hb : 0 ≤ b ∧ b < 18446744073709551616) (w : World) :
  Calls Tryz.prog 164 #[.int .u64 b] w (Ret w fun v _ => v = .tuple #[.int .i64 (b / 4503599627370496 % 2048), .int .u64 (b % 4503599627370496)]) := by
 have e52 : (2 : Int) ^ (52 : Int).toNat = 4503599627370496 := by decide
 have hE := Ext.refl w
 refine enter (args := [.int .u64 b]) (l := [.int .u64 b, undef, undef, undef, undef, undef, undef, undef, undef, undef]) Tryz.func164 rfl rfl ?_
 refine wp_seq_k (fun K1 hK1 => ?_)
 refine region ?_
 refine RS.assign (v := .int .i64 0) rfl ?_
 refine RS.assign (v := .int .u64 0) rfl ?_
 refine RS.nil ?_
 refine hK1 _ _ ?_
 try clear hK1
 refine wp_seq_k (fun K2 hK2 => ?_)
 refine region ?_
 refine RS.move (v := .int _ _) rfl ?_
 refine RS.ob (D.shr_u64 rfl rfl (by omega) (by constructor <;> omega)) (fun z3 => ?_)
 refine RS.o (D.conv rfl Tryz.underlying25 Tryz.underlying3 (W.i64 (by rw [e52]; omega))) ?_
 refine RS.o (D.sand rfl rfl) ?_
 refine RS.move (v := .int _ _) rfl ?_
 refine RS.ob (D.band_u64 rfl rfl (by omega) (by omega)) (fun z4 => ?_)
 refine RS.assign (v := .int _ _) rfl ?_
 refine RS.assign (v := .int _ _) rfl ?_
 refine RS.nil ?_
 refine hK2 _ _ ?_
 try clear hK2
 refine wp_ret ?_
 refine ret (rs := [.tmp 2, .tmp 3]) (vs := [.int _ _, .int _ _]) (v := (.tuple #[.int _ _, .int _ _])) rfl ⟨rfl, rfl, trivial⟩ rfl ?_
 refine ⟨_, rfl, hE, ?_⟩
 rw [e52, S.sand_2047 _ (by omega), S.iand_full _ (by omega)]
theorem classV (b : Int) (hb : 0 ≤ b ∧ b < 18446744073709551616) (w : World) :
  Calls Tryz.prog 159 #[.int .u64 b] w (Ret w fun v _ => v = .int .u8 (S.clsS b)) := by
 have hE := Ext.refl w
 refine enter (args := [.int .u64 b]) (l := [.int .u64 b, undef, undef, undef, undef, undef, undef, undef, undef, undef, undef, undef, undef, undef, undef, undef, undef, undef, undef, undef, undef, undef, undef, undef, undef, undef]) Tryz.func159 rfl rfl ?_
 refine wp_seq_k (fun K1 hK1 => ?_)
 refine region ?_
 refine RS.assign (v := .int .u8 0) rfl ?_
 refine RS.nil ?_
 refine hK1 _ _ ?_
 try clear hK1
 refine wp_seq_k (fun K2 hK2 => ?_)
 refine region ?_
 refine RS.move (v := .int _ _) rfl ?_
 refine RS.call E164 (splitV _ (by omega) _) rfl (fun v3 w3 x3 A3 => ?_)
 replace hE := Ext.tr hE x3
 have zw3 := x3.size
 subst A3
 refine RS.norm (by dsimp only [List.set]) ?_
 refine RS.move (v := .tuple _) rfl ?_
 refine RS.extract (v := .int _ _) rfl rfl ?_
 refine RS.extract (v := .int _ _) rfl rfl ?_
 refine RS.assign (v := .int _ _) rfl ?_
 refine RS.assign (v := .int _ _) rfl ?_
 refine RS.nil ?_
 refine hK2 _ _ ?_
 try clear hK2
 refine wp_seq_k (fun K4 hK4 => ?_)
 refine wp_block ?_
 refine wp_seq_k (fun K5 hK5 => ?_)
 refine region ?_
 refine RS.move (v := .int _ _) rfl ?_
 refine RS.o (D.eq rfl rfl) ?_
 refine RS.move (v := .bool _) rfl ?_
 refine RS.splite 13 rfl rfl (fun c6 => ?_) (fun c6 => ?_)
 ·refine RS.norm (by dsimp only [List.set]) ?_
  refine RS.wantB 13 rfl rfl rfl ?_
  refine RS.move (v := .int _ _) rfl ?_
  refine RS.wantB 13 rfl rfl rfl ?_
  refine RS.o (D.ne rfl rfl) ?_
  refine RS.pick (v := .bool _) rfl rfl ?_
  refine RS.assign (v := .bool _) rfl ?_
  refine RS.nil ?_
  refine hK5 _ _ ?_
  try clear hK5
  refine C.ifn rfl (fun c7 => ?_) (fun c7 => ?_)
  ·refine wp_seq_k (fun K8 hK8 => ?_)
   refine region ?_
   refine RS.assign (v := .int .u8 5) rfl ?_
   refine RS.nil ?_
   refine hK8 _ _ ?_
   try clear hK8
   refine wp_ret ?_
   refine ret (rs := [.tmp 2]) (vs := [.int _ _]) (v := (.int _ _)) rfl ⟨rfl, trivial⟩ rfl ?_
   refine ⟨_, rfl, hE, congrArg (Value.int .u8) ?_⟩
   unfold S.clsS
   (repeat' split) <;> omega
  ·refine wp_seq_k (fun K9 hK9 => ?_)
   refine region ?_
   refine RS.move (v := .int _ _) rfl ?_
   refine RS.o (D.eq rfl rfl) ?_
   refine RS.assign (v := .bool _) rfl ?_
   refine RS.nil ?_
   refine hK9 _ _ ?_
   try clear hK9
   refine C.ife rfl (fun c10 => ?_) (fun c10 => ?_)
   ·refine wp_seq_k (fun K11 hK11 => ?_)
    refine region ?_
    refine RS.assign (v := .int .u8 4) rfl ?_
    refine RS.nil ?_
    refine hK11 _ _ ?_
    try clear hK11
    refine wp_ret ?_
    refine ret (rs := [.tmp 2]) (vs := [.int _ _]) (v := (.int _ _)) rfl ⟨rfl, trivial⟩ rfl ?_
    refine ⟨_, rfl, hE, congrArg (Value.int .u8) ?_⟩
    unfold S.clsS
    (repeat' split) <;> omega
   ·refine wp_seq_k (fun K12 hK12 => ?_)
    refine region ?_
    refine RS.move (v := .int _ _) rfl ?_
    refine RS.o (D.ne rfl rfl) ?_
    refine RS.assign (v := .bool _) rfl ?_
    refine RS.nil ?_
    refine hK12 _ _ ?_
    try clear hK12
    refine C.ifn rfl (fun c13 => ?_) (fun c13 => ?_)
    ·refine wp_seq_k (fun K14 hK14 => ?_)
     refine region ?_
     refine RS.assign (v := .int .u8 3) rfl ?_
     refine RS.nil ?_
     refine hK14 _ _ ?_
     try clear hK14
     refine wp_ret ?_
     refine ret (rs := [.tmp 2]) (vs := [.int _ _]) (v := (.int _ _)) rfl ⟨rfl, trivial⟩ rfl ?_
     refine ⟨_, rfl, hE, congrArg (Value.int .u8) ?_⟩
     unfold S.clsS
     (repeat' split) <;> omega
    ·refine wp_seq_k (fun K15 hK15 => ?_)
     refine region ?_
     refine RS.move (v := .int _ _) rfl ?_
     refine RS.o (D.ne rfl rfl) ?_
     refine RS.assign (v := .bool _) rfl ?_
     refine RS.nil ?_
     refine hK15 _ _ ?_
     try clear hK15
     refine C.ifn rfl (fun c16 => ?_) (fun c16 => ?_)
     ·refine wp_seq_k (fun K17 hK17 => ?_)
      refine region ?_
      refine RS.assign (v := .int .u8 2) rfl ?_
      refine RS.nil ?_
      refine hK17 _ _ ?_
      try clear hK17
      refine wp_ret ?_
      refine ret (rs := [.tmp 2]) (vs := [.int _ _]) (v := (.int _ _)) rfl ⟨rfl, trivial⟩ rfl ?_
      refine ⟨_, rfl, hE, congrArg (Value.int .u8) ?_⟩
      unfold S.clsS
      (repeat' split) <;> omega
     ·refine wp_skip ?_
      refine hK4 _ _ ?_
      try clear hK4
      refine wp_seq_k (fun K18 hK18 => ?_)
      refine region ?_
      refine RS.assign (v := .int .u8 1) rfl ?_
      refine RS.nil ?_
      refine hK18 _ _ ?_
      try clear hK18
      refine wp_ret ?_
      refine ret (rs := [.tmp 2]) (vs := [.int _ _]) (v := (.int _ _)) rfl ⟨rfl, trivial⟩ rfl ?_
      refine ⟨_, rfl, hE, congrArg (Value.int .u8) ?_⟩
      unfold S.clsS
      (repeat' split) <;> omega
 ·refine RS.norm (by dsimp only [List.set]) ?_
  refine RS.skipB (b := false) 13 rfl rfl rfl rfl ?_
  refine RS.norm (by dsimp only [putL, List.set]) ?_
  refine RS.skipB (b := false) 13 rfl rfl rfl rfl ?_
  refine RS.norm (by dsimp only [putL, List.set]) ?_
  refine RS.pick (v := .bool false) rfl rfl ?_
  refine RS.assign (v := .bool _) rfl ?_
  refine RS.nil ?_
  refine hK5 _ _ ?_
  try clear hK5
  refine C.iff rfl ?_
  refine wp_seq_k (fun K19 hK19 => ?_)
  refine region ?_
  refine RS.move (v := .int _ _) rfl ?_
  refine RS.o (D.eq rfl rfl) ?_
  refine RS.assign (v := .bool _) rfl ?_
  refine RS.nil ?_
  refine hK19 _ _ ?_
  try clear hK19
  refine C.ife rfl (fun c20 => ?_) (fun c20 => ?_)
  ·refine wp_seq_k (fun K21 hK21 => ?_)
   refine region ?_
   refine RS.assign (v := .int .u8 4) rfl ?_
   refine RS.nil ?_
   refine hK21 _ _ ?_
   try clear hK21
   refine wp_ret ?_
   refine ret (rs := [.tmp 2]) (vs := [.int _ _]) (v := (.int _ _)) rfl ⟨rfl, trivial⟩ rfl ?_
   refine ⟨_, rfl, hE, congrArg (Value.int .u8) ?_⟩
   unfold S.clsS
   (repeat' split) <;> omega
  ·refine wp_seq_k (fun K22 hK22 => ?_)
   refine region ?_
   refine RS.move (v := .int _ _) rfl ?_
   refine RS.o (D.ne rfl rfl) ?_
   refine RS.assign (v := .bool _) rfl ?_
   refine RS.nil ?_
   refine hK22 _ _ ?_
   try clear hK22
   refine C.ifn rfl (fun c23 => ?_) (fun c23 => ?_)
   ·refine wp_seq_k (fun K24 hK24 => ?_)
    refine region ?_
    refine RS.assign (v := .int .u8 3) rfl ?_
    refine RS.nil ?_
    refine hK24 _ _ ?_
    try clear hK24
    refine wp_ret ?_
    refine ret (rs := [.tmp 2]) (vs := [.int _ _]) (v := (.int _ _)) rfl ⟨rfl, trivial⟩ rfl ?_
    refine ⟨_, rfl, hE, congrArg (Value.int .u8) ?_⟩
    unfold S.clsS
    (repeat' split) <;> omega
   ·refine wp_seq_k (fun K25 hK25 => ?_)
    refine region ?_
    refine RS.move (v := .int _ _) rfl ?_
    refine RS.o (D.ne rfl rfl) ?_
    refine RS.assign (v := .bool _) rfl ?_
    refine RS.nil ?_
    refine hK25 _ _ ?_
    try clear hK25
    refine C.ifn rfl (fun c26 => ?_) (fun c26 => ?_)
    ·refine wp_seq_k (fun K27 hK27 => ?_)
     refine region ?_
     refine RS.assign (v := .int .u8 2) rfl ?_
     refine RS.nil ?_
     refine hK27 _ _ ?_
     try clear hK27
     refine wp_ret ?_
     refine ret (rs := [.tmp 2]) (vs := [.int _ _]) (v := (.int _ _)) rfl ⟨rfl, trivial⟩ rfl ?_
     refine ⟨_, rfl, hE, congrArg (Value.int .u8) ?_⟩
     unfold S.clsS
     (repeat' split) <;> omega
    ·refine wp_skip ?_
     refine hK4 _ _ ?_
     try clear hK4
     refine wp_seq_k (fun K28 hK28 => ?_)
     refine region ?_
     refine RS.assign (v := .int .u8 1) rfl ?_
     refine RS.nil ?_
     refine hK28 _ _ ?_
     try clear hK28
     refine wp_ret ?_
     refine ret (rs := [.tmp 2]) (vs := [.int _ _]) (v := (.int _ _)) rfl ⟨rfl, trivial⟩ rfl ?_
     refine ⟨_, rfl, hE, congrArg (Value.int .u8) ?_⟩
     unfold S.clsS
     (repeat' split) <;> omega
theorem expR (b : Int) (hb : 0 ≤ b ∧ b < 18446744073709551616) (w : World) :
  Calls Tryz.prog 162 #[.int .u64 b] w (Ret w fun v _ => v = .int .i64 (b / 4503599627370496 % 2048)) := by
 have hE := Ext.refl w
 refine enter (args := [.int .u64 b]) (l := [.int .u64 b, undef, undef, undef, undef, undef, undef]) Tryz.func162 rfl rfl ?_
 refine wp_seq_k (fun K1 hK1 => ?_)
 refine region ?_
 refine RS.assign (v := .int .i64 0) rfl ?_
 refine RS.nil ?_
 refine hK1 _ _ ?_
 try clear hK1
 refine wp_seq_k (fun K2 hK2 => ?_)
 refine region ?_
 refine RS.move (v := .int _ _) rfl ?_
 refine RS.o (D.rem rfl rfl (by omega) (by omega)) ?_
 refine RS.o (D.quo rfl rfl (by omega) (by omega) (W.u64 (by omega))) ?_
 refine RS.o (D.conv rfl Tryz.underlying25 Tryz.underlying3 (W.i64 (by omega))) ?_
 refine RS.assign (v := .int _ _) rfl ?_
 refine RS.nil ?_
 refine hK2 _ _ ?_
 try clear hK2
 refine wp_ret ?_
 refine ret (rs := [.tmp 2]) (vs := [.int _ _]) (v := (.int _ _)) rfl ⟨rfl, trivial⟩ rfl ?_
 refine ⟨_, rfl, hE, congrArg (Value.int .i64) (S.exp_eq b (by omega))⟩
theorem fracR (b : Int) (hb : 0 ≤ b ∧ b < 18446744073709551616) (w : World) :
  Calls Tryz.prog 163 #[.int .u64 b] w (Ret w fun v _ => v = .int .u64 (b % 4503599627370496)) := by
 have hE := Ext.refl w
 refine enter (args := [.int .u64 b]) (l := [.int .u64 b, undef, undef, undef, undef]) Tryz.func163 rfl rfl ?_
 refine wp_seq_k (fun K1 hK1 => ?_)
 refine region ?_
 refine RS.assign (v := .int .u64 0) rfl ?_
 refine RS.nil ?_
 refine hK1 _ _ ?_
 try clear hK1
 refine wp_seq_k (fun K2 hK2 => ?_)
 refine region ?_
 refine RS.move (v := .int _ _) rfl ?_
 refine RS.o (D.rem rfl rfl (by omega) (by omega)) ?_
 refine RS.assign (v := .int _ _) rfl ?_
 refine RS.nil ?_
 refine hK2 _ _ ?_
 try clear hK2
 refine wp_ret ?_
 refine ret (rs := [.tmp 2]) (vs := [.int _ _]) (v := (.int _ _)) rfl ⟨rfl, trivial⟩ rfl ?_
 exact ⟨_, rfl, hE, rfl⟩
theorem classR (b : Int) (hb : 0 ≤ b ∧ b < 18446744073709551616) (w : World) :
  Calls Tryz.prog 156 #[.int .u64 b] w (Ret w fun v _ => v = .int .u8 (S.clsS b)) := by
 have hE := Ext.refl w
 refine enter (args := [.int .u64 b]) (l := [.int .u64 b, undef, undef, undef, undef, undef, undef, undef, undef, undef, undef, undef, undef, undef, undef, undef, undef, undef, undef, undef, undef]) Tryz.func156 rfl rfl ?_
 refine wp_seq_k (fun K1 hK1 => ?_)
 refine region ?_
 refine RS.assign (v := .int .u8 0) rfl ?_
 refine RS.nil ?_
 refine hK1 _ _ ?_
 try clear hK1
 refine wp_seq_k (fun K2 hK2 => ?_)
 refine region ?_
 refine RS.move (v := .int _ _) rfl ?_
 refine RS.call E162 (expR _ (by omega) _) rfl (fun v3 w3 x3 A3 => ?_)
 replace hE := Ext.tr hE x3
 have zw3 := x3.size
 subst A3
 refine RS.norm (by dsimp only [List.set]) ?_
 refine RS.move (v := .int _ _) rfl ?_
 refine RS.call E163 (fracR _ (by omega) _) rfl (fun v4 w4 x4 A4 => ?_)
 replace hE := Ext.tr hE x4
 have zw4 := x4.size
 subst A4
 refine RS.norm (by dsimp only [List.set]) ?_
 refine RS.assign (v := .int _ _) rfl ?_
 refine RS.assign (v := .int _ _) rfl ?_
 refine RS.nil ?_
 refine hK2 _ _ ?_
 try clear hK2
 refine wp_seq_k (fun K5 hK5 => ?_)
 refine wp_seq_k (fun K6 hK6 => ?_)
 refine region ?_
 refine RS.move (v := .int _ _) rfl ?_
 refine RS.o (D.eq rfl rfl) ?_
 refine RS.move (v := .bool _) rfl ?_
 refine RS.splite 11 rfl rfl (fun c7 => ?_) (fun c7 => ?_)
 ·refine RS.norm (by dsimp only [List.set]) ?_
  refine RS.wantB 11 rfl rfl rfl ?_
  refine RS.move (v := .int _ _) rfl ?_
  refine RS.wantB 11 rfl rfl rfl ?_
  refine RS.o (D.eq rfl rfl) ?_
  refine RS.pick (v := .bool _) rfl rfl ?_
  refine RS.nil ?_
  refine hK6 _ _ ?_
  try clear hK6
  refine C.ife rfl (fun c8 => ?_) (fun c8 => ?_)
  ·refine wp_seq_k (fun K9 hK9 => ?_)
   refine region ?_
   refine RS.assign (v := .int .u8 1) rfl ?_
   refine RS.nil ?_
   refine hK9 _ _ ?_
   try clear hK9
   refine wp_ret ?_
   refine ret (rs := [.tmp 2]) (vs := [.int _ _]) (v := (.int _ _)) rfl ⟨rfl, trivial⟩ rfl ?_
   refine ⟨_, rfl, hE, congrArg (Value.int .u8) ?_⟩
   unfold S.clsS
   (repeat' split) <;> omega
  ·refine wp_skip ?_
   refine hK5 _ _ ?_
   try clear hK5
   refine wp_seq_k (fun K10 hK10 => ?_)
   refine wp_seq_k (fun K11 hK11 => ?_)
   refine region ?_
   refine RS.move (v := .int _ _) rfl ?_
   refine RS.o (D.eq rfl rfl) ?_
   refine RS.nil ?_
   refine hK11 _ _ ?_
   try clear hK11
   refine C.ife rfl (fun c12 => ?_) (fun c12 => ?_)
   ·refine wp_seq_k (fun K13 hK13 => ?_)
    refine region ?_
    refine RS.assign (v := .int .u8 2) rfl ?_
    refine RS.nil ?_
    refine hK13 _ _ ?_
    try clear hK13
    refine wp_ret ?_
    refine ret (rs := [.tmp 2]) (vs := [.int _ _]) (v := (.int _ _)) rfl ⟨rfl, trivial⟩ rfl ?_
    refine ⟨_, rfl, hE, congrArg (Value.int .u8) ?_⟩
    unfold S.clsS
    (repeat' split) <;> omega
   ·refine wp_skip ?_
    refine hK10 _ _ ?_
    try clear hK10
    refine wp_seq_k (fun K14 hK14 => ?_)
    refine wp_seq_k (fun K15 hK15 => ?_)
    refine region ?_
    refine RS.move (v := .int _ _) rfl ?_
    refine RS.o (D.lt rfl rfl) ?_
    refine RS.nil ?_
    refine hK15 _ _ ?_
    try clear hK15
    refine C.ifd rfl (fun c16 => ?_) (fun c16 => ?_)
    ·refine wp_seq_k (fun K17 hK17 => ?_)
     refine region ?_
     refine RS.assign (v := .int .u8 3) rfl ?_
     refine RS.nil ?_
     refine hK17 _ _ ?_
     try clear hK17
     refine wp_ret ?_
     refine ret (rs := [.tmp 2]) (vs := [.int _ _]) (v := (.int _ _)) rfl ⟨rfl, trivial⟩ rfl ?_
     refine ⟨_, rfl, hE, congrArg (Value.int .u8) ?_⟩
     unfold S.clsS
     (repeat' split) <;> omega
    ·refine wp_skip ?_
     refine hK14 _ _ ?_
     try clear hK14
     refine wp_seq_k (fun K18 hK18 => ?_)
     refine wp_seq_k (fun K19 hK19 => ?_)
     refine region ?_
     refine RS.move (v := .int _ _) rfl ?_
     refine RS.o (D.eq rfl rfl) ?_
     refine RS.nil ?_
     refine hK19 _ _ ?_
     try clear hK19
     refine C.ife rfl (fun c20 => ?_) (fun c20 => ?_)
     ·refine wp_seq_k (fun K21 hK21 => ?_)
      refine region ?_
      refine RS.assign (v := .int .u8 4) rfl ?_
      refine RS.nil ?_
      refine hK21 _ _ ?_
      try clear hK21
      refine wp_ret ?_
      refine ret (rs := [.tmp 2]) (vs := [.int _ _]) (v := (.int _ _)) rfl ⟨rfl, trivial⟩ rfl ?_
      refine ⟨_, rfl, hE, congrArg (Value.int .u8) ?_⟩
      unfold S.clsS
      (repeat' split) <;> omega
     ·refine wp_skip ?_
      refine hK18 _ _ ?_
      try clear hK18
      refine wp_seq_k (fun K22 hK22 => ?_)
      refine region ?_
      refine RS.assign (v := .int .u8 5) rfl ?_
      refine RS.nil ?_
      refine hK22 _ _ ?_
      try clear hK22
      refine wp_ret ?_
      refine ret (rs := [.tmp 2]) (vs := [.int _ _]) (v := (.int _ _)) rfl ⟨rfl, trivial⟩ rfl ?_
      refine ⟨_, rfl, hE, congrArg (Value.int .u8) ?_⟩
      unfold S.clsS
      (repeat' split) <;> omega
 ·refine RS.norm (by dsimp only [List.set]) ?_
  refine RS.skipB (b := false) 11 rfl rfl rfl rfl ?_
  refine RS.norm (by dsimp only [putL, List.set]) ?_
  refine RS.skipB (b := false) 11 rfl rfl rfl rfl ?_
  refine RS.norm (by dsimp only [putL, List.set]) ?_
  refine RS.pick (v := .bool false) rfl rfl ?_
  refine RS.nil ?_
  refine hK6 _ _ ?_
  try clear hK6
  refine C.iff rfl ?_
  refine wp_skip ?_
  refine hK5 _ _ ?_
  try clear hK5
  refine wp_seq_k (fun K23 hK23 => ?_)
  refine wp_seq_k (fun K24 hK24 => ?_)
  refine region ?_
  refine RS.move (v := .int _ _) rfl ?_
  refine RS.o (D.eq rfl rfl) ?_
  refine RS.nil ?_
  refine hK24 _ _ ?_
  try clear hK24
  refine C.ife rfl (fun c25 => ?_) (fun c25 => ?_)
  ·refine wp_seq_k (fun K26 hK26 => ?_)
   refine region ?_
   refine RS.assign (v := .int .u8 2) rfl ?_
   refine RS.nil ?_
   refine hK26 _ _ ?_
   try clear hK26
   refine wp_ret ?_
   refine ret (rs := [.tmp 2]) (vs := [.int _ _]) (v := (.int _ _)) rfl ⟨rfl, trivial⟩ rfl ?_
   refine ⟨_, rfl, hE, congrArg (Value.int .u8) ?_⟩
   unfold S.clsS
   (repeat' split) <;> omega
  ·refine wp_skip ?_
   refine hK23 _ _ ?_
   try clear hK23
   refine wp_seq_k (fun K27 hK27 => ?_)
   refine wp_seq_k (fun K28 hK28 => ?_)
   refine region ?_
   refine RS.move (v := .int _ _) rfl ?_
   refine RS.o (D.lt rfl rfl) ?_
   refine RS.nil ?_
   refine hK28 _ _ ?_
   try clear hK28
   refine C.ifd rfl (fun c29 => ?_) (fun c29 => ?_)
   ·refine wp_seq_k (fun K30 hK30 => ?_)
    refine region ?_
    refine RS.assign (v := .int .u8 3) rfl ?_
    refine RS.nil ?_
    refine hK30 _ _ ?_
    try clear hK30
    refine wp_ret ?_
    refine ret (rs := [.tmp 2]) (vs := [.int _ _]) (v := (.int _ _)) rfl ⟨rfl, trivial⟩ rfl ?_
    refine ⟨_, rfl, hE, congrArg (Value.int .u8) ?_⟩
    unfold S.clsS
    (repeat' split) <;> omega
   ·refine wp_skip ?_
    refine hK27 _ _ ?_
    try clear hK27
    refine wp_seq_k (fun K31 hK31 => ?_)
    refine wp_seq_k (fun K32 hK32 => ?_)
    refine region ?_
    refine RS.move (v := .int _ _) rfl ?_
    refine RS.o (D.eq rfl rfl) ?_
    refine RS.nil ?_
    refine hK32 _ _ ?_
    try clear hK32
    refine C.ife rfl (fun c33 => ?_) (fun c33 => ?_)
    ·refine wp_seq_k (fun K34 hK34 => ?_)
     refine region ?_
     refine RS.assign (v := .int .u8 4) rfl ?_
     refine RS.nil ?_
     refine hK34 _ _ ?_
     try clear hK34
     refine wp_ret ?_
     refine ret (rs := [.tmp 2]) (vs := [.int _ _]) (v := (.int _ _)) rfl ⟨rfl, trivial⟩ rfl ?_
     refine ⟨_, rfl, hE, congrArg (Value.int .u8) ?_⟩
     unfold S.clsS
     (repeat' split) <;> omega
    ·refine wp_skip ?_
     refine hK31 _ _ ?_
     try clear hK31
     refine wp_seq_k (fun K35 hK35 => ?_)
     refine region ?_
     refine RS.assign (v := .int .u8 5) rfl ?_
     refine RS.nil ?_
     refine hK35 _ _ ?_
     try clear hK35
     refine wp_ret ?_
     refine ret (rs := [.tmp 2]) (vs := [.int _ _]) (v := (.int _ _)) rfl ⟨rfl, trivial⟩ rfl ?_
     refine ⟨_, rfl, hE, congrArg (Value.int .u8) ?_⟩
     unfold S.clsS
     (repeat' split) <;> omega
theorem canonV (b : Int) (hb : 0 ≤ b ∧ b < 18446744073709551616) (w : World) :
  Calls Tryz.prog 148 #[.int .u64 b] w (Ret w fun v _ => v = .int .u64 (S.canS b)) := by
 have hE := Ext.refl w
 refine enter (args := [.int .u64 b]) (l := [.int .u64 b, undef, undef, undef, undef, undef, undef]) Tryz.func148 rfl rfl ?_
 refine wp_seq_k (fun K1 hK1 => ?_)
 refine region ?_
 refine RS.assign (v := .int .u64 0) rfl ?_
 refine RS.nil ?_
 refine hK1 _ _ ?_
 try clear hK1
 refine wp_seq_k (fun K2 hK2 => ?_)
 refine wp_seq_k (fun K3 hK3 => ?_)
 refine region ?_
 refine RS.move (v := .int _ _) rfl ?_
 refine RS.call E159 (classV _ (by omega) _) rfl (fun v4 w4 x4 A4 => ?_)
 replace hE := Ext.tr hE x4
 have zw4 := x4.size
 subst A4
 refine RS.norm (by dsimp only [List.set]) ?_
 refine RS.o (D.eq rfl rfl) ?_
 refine RS.nil ?_
 refine hK3 _ _ ?_
 try clear hK3
 refine C.ife rfl (fun c5 => ?_) (fun c5 => ?_)
 ·refine wp_seq_k (fun K6 hK6 => ?_)
  refine region ?_
  refine RS.assign (v := .int .u64 9221120237041090560) rfl ?_
  refine RS.nil ?_
  refine hK6 _ _ ?_
  try clear hK6
  refine wp_ret ?_
  refine ret (rs := [.tmp 2]) (vs := [.int _ _]) (v := (.int _ _)) rfl ⟨rfl, trivial⟩ rfl ?_
  refine ⟨_, rfl, hE, congrArg (Value.int .u64) ?_⟩
  unfold S.canS
  split <;> omega
 ·refine wp_skip ?_
  refine hK2 _ _ ?_
  try clear hK2
  refine wp_seq_k (fun K7 hK7 => ?_)
  refine region ?_
  refine RS.move (v := .int _ _) rfl ?_
  refine RS.assign (v := .int _ _) rfl ?_
  refine RS.nil ?_
  refine hK7 _ _ ?_
  try clear hK7
  refine wp_ret ?_
  refine ret (rs := [.tmp 2]) (vs := [.int _ _]) (v := (.int _ _)) rfl ⟨rfl, trivial⟩ rfl ?_
  refine ⟨_, rfl, hE, congrArg (Value.int .u64) ?_⟩
  unfold S.canS
  split <;> omega
theorem canonR (b : Int) (hb : 0 ≤ b ∧ b < 18446744073709551616) (w : World) :
  Calls Tryz.prog 144 #[.int .u64 b] w (Ret w fun v _ => v = .int .u64 (S.canS b)) := by
 have hE := Ext.refl w
 refine enter (args := [.int .u64 b]) (l := [.int .u64 b, undef, undef, undef, undef, undef, undef]) Tryz.func144 rfl rfl ?_
 refine wp_seq_k (fun K1 hK1 => ?_)
 refine region ?_
 refine RS.assign (v := .int .u64 0) rfl ?_
 refine RS.nil ?_
 refine hK1 _ _ ?_
 try clear hK1
 refine wp_seq_k (fun K2 hK2 => ?_)
 refine wp_seq_k (fun K3 hK3 => ?_)
 refine region ?_
 refine RS.move (v := .int _ _) rfl ?_
 refine RS.call E156 (classR _ (by omega) _) rfl (fun v4 w4 x4 A4 => ?_)
 replace hE := Ext.tr hE x4
 have zw4 := x4.size
 subst A4
 refine RS.norm (by dsimp only [List.set]) ?_
 refine RS.o (D.eq rfl rfl) ?_
 refine RS.nil ?_
 refine hK3 _ _ ?_
 try clear hK3
 refine C.ife rfl (fun c5 => ?_) (fun c5 => ?_)
 ·refine wp_seq_k (fun K6 hK6 => ?_)
  refine region ?_
  refine RS.assign (v := .int .u64 9221120237041090560) rfl ?_
  refine RS.nil ?_
  refine hK6 _ _ ?_
  try clear hK6
  refine wp_ret ?_
  refine ret (rs := [.tmp 2]) (vs := [.int _ _]) (v := (.int _ _)) rfl ⟨rfl, trivial⟩ rfl ?_
  refine ⟨_, rfl, hE, congrArg (Value.int .u64) ?_⟩
  unfold S.canS
  split <;> omega
 ·refine wp_skip ?_
  refine hK2 _ _ ?_
  try clear hK2
  refine wp_seq_k (fun K7 hK7 => ?_)
  refine region ?_
  refine RS.move (v := .int _ _) rfl ?_
  refine RS.assign (v := .int _ _) rfl ?_
  refine RS.nil ?_
  refine hK7 _ _ ?_
  try clear hK7
  refine wp_ret ?_
  refine ret (rs := [.tmp 2]) (vs := [.int _ _]) (v := (.int _ _)) rfl ⟨rfl, trivial⟩ rfl ?_
  refine ⟨_, rfl, hE, congrArg (Value.int .u64) ?_⟩
  unfold S.canS
  split <;> omega
theorem numberV (n : Int) (w : World) :
  Calls Tryz.prog 127 #[.int .i64 n] w (Ret w fun v _ => v = .agg ([.int .u8 1, .int .i64 n, .int .u64 0, .string .empty] : List Value).toArray) := by
 have hE := Ext.refl w
 refine enter (args := [.int .i64 n]) (l := [.int .i64 n, undef, undef, undef, undef]) Tryz.func127 rfl rfl ?_
 refine wp_seq_k (fun K1 hK1 => ?_)
 refine region ?_
 refine RS.alloc T27 (fun b2 w2 e2 s2 x2 B2 => ?_)
 refine RS.norm (by dsimp only [List.set]) ?_
 replace hE := Ext.tr hE x2
 have zw2 := x2.size
 refine RS.nil ?_
 refine hK1 _ _ ?_
 try clear hK1
 refine wp_seq_k (fun K3 hK3 => ?_)
 refine region ?_
 refine RS.move (v := .int _ _) rfl ?_
 refine RS.o (D.buildS T27 F27 (ps := [(0, .int _ _), (1, .int _ _)]) rfl rfl) ?_
 refine RS.storeAggB rfl rfl C27 (by decide) rfl rfl B2 rfl (fun w4 y4 N4 => ?_)
 replace hE := hE.trans (y4.below (by intros; try (first | (intro _ _) | (intro _) | skip); first | omega | (dsimp only at *; omega) | (simp_all; done) | (simp at *; omega)))
 have zw4 := y4.size
 replace B2 := N4
 refine RS.nil ?_
 refine hK3 _ _ ?_
 try clear hK3
 refine wp_ret ?_
 refine ret (rs := [.cell 2 27]) (vs := [.agg _]) (v := (.agg _)) rfl ⟨⟨_, rfl, loadVar_agg Tryz.underlying27 rfl C27 (by decide) rfl (B2.cellsN 4 rfl)⟩, trivial⟩ rfl ?_
 exact ⟨_, rfl, hE, rfl⟩
theorem floatV (b : Int) (hb : 0 ≤ b ∧ b < 18446744073709551616) (w : World) :
  Calls Tryz.prog 128 #[.int .u64 b] w (Ret w fun v _ => v = .agg ([.int .u8 2, .int .i64 0, .int .u64 (S.canS b), .string .empty] : List Value).toArray) := by
 have hE := Ext.refl w
 refine enter (args := [.int .u64 b]) (l := [.int .u64 b, undef, undef, undef, undef, undef]) Tryz.func128 rfl rfl ?_
 refine wp_seq_k (fun K1 hK1 => ?_)
 refine region ?_
 refine RS.alloc T27 (fun b2 w2 e2 s2 x2 B2 => ?_)
 refine RS.norm (by dsimp only [List.set]) ?_
 replace hE := Ext.tr hE x2
 have zw2 := x2.size
 refine RS.nil ?_
 refine hK1 _ _ ?_
 try clear hK1
 refine wp_seq_k (fun K3 hK3 => ?_)
 refine region ?_
 refine RS.move (v := .int _ _) rfl ?_
 refine RS.call E148 (canonV _ (by omega) _) rfl (fun v4 w4 x4 A4 => ?_)
 replace hE := Ext.tr hE x4
 replace B2 := B2.ext x4
 have zw4 := x4.size
 subst A4
 refine RS.norm (by dsimp only [List.set]) ?_
 refine RS.o (D.buildS T27 F27 (ps := [(0, .int _ _), (2, .int _ _)]) rfl rfl) ?_
 refine RS.storeAggB rfl rfl C27 (by decide) rfl rfl B2 rfl (fun w5 y5 N5 => ?_)
 replace hE := hE.trans (y5.below (by intros; try (first | (intro _ _) | (intro _) | skip); first | omega | (dsimp only at *; omega) | (simp_all; done) | (simp at *; omega)))
 have zw5 := y5.size
 replace B2 := N5
 refine RS.nil ?_
 refine hK3 _ _ ?_
 try clear hK3
 refine wp_ret ?_
 refine ret (rs := [.cell 2 27]) (vs := [.agg _]) (v := (.agg _)) rfl ⟨⟨_, rfl, loadVar_agg Tryz.underlying27 rfl C27 (by decide) rfl (B2.cellsN 4 rfl)⟩, trivial⟩ rfl ?_
 exact ⟨_, rfl, hE, rfl⟩
theorem textV (s : ByteArray) (w : World) :
  Calls Tryz.prog 129 #[.string s] w (Ret w fun v _ => ∃ k2 t2 e2, v = .tuple #[.agg ([.int .u8 k2, .int .i64 0, .int .u64 0, .string t2] : List Value).toArray, .int .i64 e2] ∧ ((S.TextOk s ∧ k2 = 3 ∧ t2 = s ∧ e2 = 0) ∨ (¬ S.TextOk s ∧ k2 = 0 ∧ t2 = ByteArray.empty))) := by
 have hE := Ext.refl w
 refine enter (args := [.string s]) (l := [.string s, undef, undef, undef, undef, undef, undef, undef, undef, undef, undef, undef, undef, undef]) Tryz.func129 rfl rfl ?_
 refine wp_seq_k (fun K1 hK1 => ?_)
 refine region ?_
 refine RS.alloc T27 (fun b2 w2 e2 s2 x2 B2 => ?_)
 refine RS.norm (by dsimp only [List.set]) ?_
 replace hE := Ext.tr hE x2
 have zw2 := x2.size
 refine RS.assign (v := .int .i64 0) rfl ?_
 refine RS.nil ?_
 refine hK1 _ _ ?_
 try clear hK1
 refine wp_seq_k (fun K3 hK3 => ?_)
 refine wp_seq_k (fun K4 hK4 => ?_)
 refine region ?_
 refine RS.move (v := .string _) rfl ?_
 refine RS.o (D.lenStr rfl Tryz.underlying9) ?_
 refine RS.o (D.gt rfl rfl) ?_
 refine RS.nil ?_
 refine hK4 _ _ ?_
 try clear hK4
 refine C.ifd rfl (fun c5 => ?_) (fun c5 => ?_)
 ·have h1 := c5
  refine wp_seq_k (fun K6 hK6 => ?_)
  refine region ?_
  refine RS.o (D.buildS T27 F27 (ps := []) rfl rfl) ?_
  refine RS.storeAggB rfl rfl C27 (by decide) rfl rfl B2 rfl (fun w7 y7 N7 => ?_)
  replace hE := hE.trans (y7.below (by intros; try (first | (intro _ _) | (intro _) | skip); first | omega | (dsimp only at *; omega) | (simp_all; done) | (simp at *; omega)))
  have zw7 := y7.size
  replace B2 := N7
  refine RS.assign (v := .int .i64 4) rfl ?_
  refine RS.nil ?_
  refine hK6 _ _ ?_
  try clear hK6
  refine wp_ret ?_
  refine ret (rs := [.cell 2 27, .tmp 3]) (vs := [.agg _, .int _ _]) (v := (.tuple #[.agg _, .int _ _])) rfl ⟨⟨_, rfl, loadVar_agg Tryz.underlying27 rfl C27 (by decide) rfl (B2.cellsN 4 rfl)⟩, rfl, trivial⟩ rfl ?_
  exact ⟨_, rfl, hE, _, _, _, rfl, .inr ⟨fun h => by have := h.1; omega, rfl, rfl⟩⟩
 ·have h1 := c5
  refine wp_skip ?_
  refine hK3 _ _ ?_
  try clear hK3
  refine wp_seq_k (fun K8 hK8 => ?_)
  refine wp_seq_k (fun K9 hK9 => ?_)
  refine region ?_
  refine RS.move (v := .string _) rfl ?_
  refine RS.call E149 (Index32 _ _) rfl (fun v10 w10 x10 A10 => ?_)
  replace hE := Ext.tr hE x10
  replace B2 := B2.ext x10
  have zw10 := x10.size
  obtain ⟨j, rfl, hj⟩ := A10
  refine RS.norm (by dsimp only [List.set]) ?_
  refine RS.o (D.ge rfl rfl) ?_
  refine RS.nil ?_
  refine hK9 _ _ ?_
  try clear hK9
  refine C.ifd rfl (fun c11 => ?_) (fun c11 => ?_)
  ·have h2 := c11
   refine wp_seq_k (fun K12 hK12 => ?_)
   refine region ?_
   refine RS.o (D.buildS T27 F27 (ps := []) rfl rfl) ?_
   refine RS.storeAggB rfl rfl C27 (by decide) rfl rfl B2 rfl (fun w13 y13 N13 => ?_)
   replace hE := hE.trans (y13.below (by intros; try (first | (intro _ _) | (intro _) | skip); first | omega | (dsimp only at *; omega) | (simp_all; done) | (simp at *; omega)))
   have zw13 := y13.size
   replace B2 := N13
   refine RS.assign (v := .int .i64 8) rfl ?_
   refine RS.nil ?_
   refine hK12 _ _ ?_
   try clear hK12
   refine wp_ret ?_
   refine ret (rs := [.cell 2 27, .tmp 3]) (vs := [.agg _, .int _ _]) (v := (.tuple #[.agg _, .int _ _])) rfl ⟨⟨_, rfl, loadVar_agg Tryz.underlying27 rfl C27 (by decide) rfl (B2.cellsN 4 rfl)⟩, rfl, trivial⟩ rfl ?_
   exact ⟨_, rfl, hE, _, _, _, rfl, .inr ⟨fun h => by have := hj.2 h.2; omega, rfl, rfl⟩⟩
  ·have h2 := c11
   refine wp_skip ?_
   refine hK8 _ _ ?_
   try clear hK8
   refine wp_seq_k (fun K14 hK14 => ?_)
   refine region ?_
   refine RS.move (v := .string _) rfl ?_
   refine RS.o (D.buildS T27 F27 (ps := [(0, .int _ _), (3, .string _)]) rfl rfl) ?_
   refine RS.storeAggB rfl rfl C27 (by decide) rfl rfl B2 rfl (fun w15 y15 N15 => ?_)
   replace hE := hE.trans (y15.below (by intros; try (first | (intro _ _) | (intro _) | skip); first | omega | (dsimp only at *; omega) | (simp_all; done) | (simp at *; omega)))
   have zw15 := y15.size
   replace B2 := N15
   refine RS.assign (v := .int .i64 0) rfl ?_
   refine RS.nil ?_
   refine hK14 _ _ ?_
   try clear hK14
   refine wp_ret ?_
   refine ret (rs := [.cell 2 27, .tmp 3]) (vs := [.agg _, .int _ _]) (v := (.tuple #[.agg _, .int _ _])) rfl ⟨⟨_, rfl, loadVar_agg Tryz.underlying27 rfl C27 (by decide) rfl (B2.cellsN 4 rfl)⟩, rfl, trivial⟩ rfl ?_
   exact ⟨_, rfl, hE, _, _, _, rfl, .inl ⟨⟨by omega, hj.1 (by omega)⟩, rfl, rfl, rfl⟩⟩
end Go.Proofs.YtiohpiiiapjblaaGreatDoor.W
namespace Go.Proofs.YtiohpiiiapjblaaGreatDoor.W
open Go.RowKit Go.Proofs.YtiohpiiiapjblaaGreatDoor.G
set_option linter.unusedVariables false
set_option maxRecDepth 20000
set_option maxHeartbeats 8000000
attribute [local irreducible] RS RX
theorem C2 : Tryz.prog.cellsOf 2 = 1 := by kernel_rfl
theorem C9 : Tryz.prog.cellsOf 9 = 1 := by kernel_rfl
theorem C25 : Tryz.prog.cellsOf 25 = 1 := by kernel_rfl
theorem E78 : Enters Tryz.prog 78 := .mk Tryz.func78 (by kernel_rfl) rfl
theorem E91 : Enters Tryz.prog 91 := .mk Tryz.func91 (by kernel_rfl) rfl
theorem E127 : Enters Tryz.prog 127 := .mk Tryz.func127 (by kernel_rfl) rfl
theorem E128 : Enters Tryz.prog 128 := .mk Tryz.func128 (by kernel_rfl) rfl
theorem E129 : Enters Tryz.prog 129 := .mk Tryz.func129 (by kernel_rfl) rfl
theorem E134 : Enters Tryz.prog 134 := .mk Tryz.func134 (by kernel_rfl) rfl
theorem E144 : Enters Tryz.prog 144 := .mk Tryz.func144 (by kernel_rfl) rfl
theorem E145 : Enters Tryz.prog 145 := .mk Tryz.func145 (by kernel_rfl) rfl
theorem checkV (k num bits : Int) (t : ByteArray) (hk : 0 ≤ k ∧ k < 256) (hnum : -9223372036854775808 ≤ num ∧ num ≤ 9223372036854775807) (hb : 0 ≤ bits ∧ bits < 18446744073709551616) (w : World) :
  Calls Tryz.prog 78 #[.agg ([.int .u8 k, .int .i64 num, .int .u64 bits, .string t] : List Value).toArray] w (Ret w fun v _ => v = .int .i64 (S.valE k num bits t)) := by
 have hE := Ext.refl w
 refine enter (args := [.agg ([.int .u8 k, .int .i64 num, .int .u64 bits, .string t] : List Value).toArray]) (l := [.agg ([.int .u8 k, .int .i64 num, .int .u64 bits, .string t] : List Value).toArray, undef, undef, undef, undef, undef, undef, undef, undef, undef, undef, undef, undef, undef, undef, undef, undef, undef, undef, undef, undef, undef, undef, undef, undef, undef, undef, undef, undef, undef, undef, undef]) Tryz.func78 rfl rfl ?_
 refine wp_seq_k (fun K1 hK1 => ?_)
 refine region ?_
 refine RS.box rfl rfl (fun b2 w2 e2 s2 x2 B2 => ?_)
 refine RS.norm (by dsimp only [List.set]) ?_
 replace hE := Ext.tr hE x2
 have zw2 := x2.size
 refine RS.assign (v := .int .i64 0) rfl ?_
 refine RS.nil ?_
 refine hK1 _ _ ?_
 try clear hK1
 refine wp_seq_k (fun K3 hK3 => ?_)
 refine region ?_
 refine RS.alloc T27 (fun b4 w4 e4 s4 x4 B4 => ?_)
 refine RS.norm (by dsimp only [List.set]) ?_
 replace hE := Ext.tr hE x4
 replace B2 := B2.ext x4
 have zw4 := x4.size
 refine RS.nil ?_
 refine hK3 _ _ ?_
 try clear hK3
 refine wp_seq_k (fun K5 hK5 => ?_)
 refine wp_seq_k (fun K6 hK6 => ?_)
 refine region ?_
 refine RS.o (D.fieldL 0 rfl Tryz.underlying27 rfl C5 (by decide) rfl) ?_
 refine RS.o (D.load rfl Tryz.underlying5 rfl (B2.cell rfl)) ?_
 refine RS.nil ?_
 refine hK6 _ _ ?_
 try clear hK6
 refine wp_block ?_
 refine wp_seq_k (fun K7 hK7 => ?_)
 refine region ?_
 refine RS.o (D.eq rfl rfl) ?_
 refine RS.assign (v := .bool _) rfl ?_
 refine RS.nil ?_
 refine hK7 _ _ ?_
 try clear hK7
 refine C.ife rfl (fun c8 => ?_) (fun c8 => ?_)
 ·refine region ?_
  refine RS.o (D.fieldL 1 rfl Tryz.underlying27 rfl C2 (by decide) rfl) ?_
  refine RS.o (D.load rfl Tryz.underlying2 rfl (B2.cell rfl)) ?_
  refine RS.call E127 (numberV _ _) rfl (fun v9 w9 x9 A9 => ?_)
  replace hE := Ext.tr hE x9
  replace B2 := B2.ext x9
  replace B4 := B4.ext x9
  have zw9 := x9.size
  subst A9
  refine RS.norm (by dsimp only [List.set]) ?_
  refine RS.storeAggB rfl rfl C27 (by decide) rfl rfl B4 rfl (fun w10 y10 N10 => ?_)
  replace hE := hE.trans (y10.below (by intros; try (first | (intro _ _) | (intro _) | skip); first | omega | (dsimp only at *; omega) | (simp_all; done) | (simp at *; omega)))
  replace B2 := B2.st y10 (by intros; try (first | (intro _ _) | (intro _) | skip); first | omega | (dsimp only at *; omega) | (simp_all; done) | (simp at *; omega))
  have zw10 := y10.size
  replace B4 := N10
  refine RS.nil ?_
  refine hK5 _ _ ?_
  try clear hK5
  refine wp_seq_k (fun K11 hK11 => ?_)
  refine wp_seq_k (fun K12 hK12 => ?_)
  refine region ?_
  refine RS.o (D.loadAgg rfl Tryz.underlying27 rfl C27 (by decide) rfl (B2.cellsN 4 rfl)) ?_
  refine RS.o (D.loadAgg rfl Tryz.underlying27 rfl C27 (by decide) rfl (B4.cellsN 4 rfl)) ?_
  refine RS.o (D.neA rfl rfl Tryz.underlying27 rfl (by kernel_rfl) (by kernel_rfl) (by kernel_rfl)) ?_
  refine RS.move (v := .bool _) rfl ?_
  refine RS.splitb 27 rfl rfl (fun c13 => ?_) (fun c13 => ?_)
  ·refine RS.norm (by dsimp only [List.set]) ?_
   have hq := of_decide_eq_false ((S.eqV _ _ _ _ _ _ _ _).symm.trans (Eq.mp (Bool.not_eq_true' _) c13))
   refine RS.skipB (b := true) 27 rfl rfl rfl rfl ?_
   refine RS.norm (by dsimp only [putL, List.set]) ?_
   refine RS.skipB (b := true) 27 rfl rfl rfl rfl ?_
   refine RS.norm (by dsimp only [putL, List.set]) ?_
   refine RS.skipB (b := true) 27 rfl rfl rfl rfl ?_
   refine RS.norm (by dsimp only [putL, List.set]) ?_
   refine RS.pick (v := .bool true) rfl rfl ?_
   refine RS.nil ?_
   refine hK12 _ _ ?_
   try clear hK12
   refine C.ift rfl ?_
   refine wp_seq_k (fun K14 hK14 => ?_)
   refine region ?_
   refine RS.assign (v := .int .i64 8) rfl ?_
   refine RS.nil ?_
   refine hK14 _ _ ?_
   try clear hK14
   refine wp_ret ?_
   refine ret (rs := [.tmp 2]) (vs := [.int _ _]) (v := (.int _ _)) rfl ⟨rfl, trivial⟩ rfl ?_
   refine ⟨_, rfl, hE, congrArg (Value.int .i64) ?_⟩
   first | (refine S.valE_pos ?_; grind [S.FineV, S.TextOk]) | (refine S.valE_neg ?_; grind [S.FineV, S.TextOk])
  ·refine RS.norm (by dsimp only [List.set]) ?_
   have hq := of_decide_eq_true ((S.eqV _ _ _ _ _ _ _ _).symm.trans (Eq.mp (Bool.not_eq_false' _) c13))
   refine RS.wantB 27 rfl rfl rfl ?_
   refine RS.o (D.fieldL 0 rfl Tryz.underlying27 rfl C5 (by decide) rfl) ?_
   refine RS.wantB 27 rfl rfl rfl ?_
   refine RS.o (D.load rfl Tryz.underlying5 rfl (B2.cell rfl)) ?_
   refine RS.wantB 27 rfl rfl rfl ?_
   refine RS.o (D.eq rfl rfl) ?_
   refine RS.pick (v := .bool _) rfl rfl ?_
   refine RS.nil ?_
   refine hK12 _ _ ?_
   try clear hK12
   refine C.ife rfl (fun c15 => ?_) (fun c15 => ?_)
   ·refine wp_seq_k (fun K16 hK16 => ?_)
    refine region ?_
    refine RS.assign (v := .int .i64 8) rfl ?_
    refine RS.nil ?_
    refine hK16 _ _ ?_
    try clear hK16
    refine wp_ret ?_
    refine ret (rs := [.tmp 2]) (vs := [.int _ _]) (v := (.int _ _)) rfl ⟨rfl, trivial⟩ rfl ?_
    refine ⟨_, rfl, hE, congrArg (Value.int .i64) ?_⟩
    first | (refine S.valE_pos ?_; grind [S.FineV, S.TextOk]) | (refine S.valE_neg ?_; grind [S.FineV, S.TextOk])
   ·refine wp_skip ?_
    refine hK11 _ _ ?_
    try clear hK11
    refine wp_seq_k (fun K17 hK17 => ?_)
    refine region ?_
    refine RS.assign (v := .int .i64 0) rfl ?_
    refine RS.nil ?_
    refine hK17 _ _ ?_
    try clear hK17
    refine wp_ret ?_
    refine ret (rs := [.tmp 2]) (vs := [.int _ _]) (v := (.int _ _)) rfl ⟨rfl, trivial⟩ rfl ?_
    refine ⟨_, rfl, hE, congrArg (Value.int .i64) ?_⟩
    first | (refine S.valE_pos ?_; grind [S.FineV, S.TextOk]) | (refine S.valE_neg ?_; grind [S.FineV, S.TextOk])
 ·refine wp_seq_k (fun K18 hK18 => ?_)
  refine region ?_
  refine RS.o (D.eq rfl rfl) ?_
  refine RS.assign (v := .bool _) rfl ?_
  refine RS.nil ?_
  refine hK18 _ _ ?_
  try clear hK18
  refine C.ife rfl (fun c19 => ?_) (fun c19 => ?_)
  ·refine region ?_
   refine RS.o (D.fieldL 2 rfl Tryz.underlying27 rfl C25 (by decide) rfl) ?_
   refine RS.o (D.load rfl Tryz.underlying25 rfl (B2.cell rfl)) ?_
   refine RS.call E128 (floatV _ (by omega) _) rfl (fun v20 w20 x20 A20 => ?_)
   replace hE := Ext.tr hE x20
   replace B2 := B2.ext x20
   replace B4 := B4.ext x20
   have zw20 := x20.size
   subst A20
   refine RS.norm (by dsimp only [List.set]) ?_
   refine RS.storeAggB rfl rfl C27 (by decide) rfl rfl B4 rfl (fun w21 y21 N21 => ?_)
   replace hE := hE.trans (y21.below (by intros; try (first | (intro _ _) | (intro _) | skip); first | omega | (dsimp only at *; omega) | (simp_all; done) | (simp at *; omega)))
   replace B2 := B2.st y21 (by intros; try (first | (intro _ _) | (intro _) | skip); first | omega | (dsimp only at *; omega) | (simp_all; done) | (simp at *; omega))
   have zw21 := y21.size
   replace B4 := N21
   refine RS.nil ?_
   refine hK5 _ _ ?_
   try clear hK5
   refine wp_seq_k (fun K22 hK22 => ?_)
   refine wp_seq_k (fun K23 hK23 => ?_)
   refine region ?_
   refine RS.o (D.loadAgg rfl Tryz.underlying27 rfl C27 (by decide) rfl (B2.cellsN 4 rfl)) ?_
   refine RS.o (D.loadAgg rfl Tryz.underlying27 rfl C27 (by decide) rfl (B4.cellsN 4 rfl)) ?_
   refine RS.o (D.neA rfl rfl Tryz.underlying27 rfl (by kernel_rfl) (by kernel_rfl) (by kernel_rfl)) ?_
   refine RS.move (v := .bool _) rfl ?_
   refine RS.splitb 27 rfl rfl (fun c24 => ?_) (fun c24 => ?_)
   ·refine RS.norm (by dsimp only [List.set]) ?_
    have hq := of_decide_eq_false ((S.eqV _ _ _ _ _ _ _ _).symm.trans (Eq.mp (Bool.not_eq_true' _) c24))
    refine RS.skipB (b := true) 27 rfl rfl rfl rfl ?_
    refine RS.norm (by dsimp only [putL, List.set]) ?_
    refine RS.skipB (b := true) 27 rfl rfl rfl rfl ?_
    refine RS.norm (by dsimp only [putL, List.set]) ?_
    refine RS.skipB (b := true) 27 rfl rfl rfl rfl ?_
    refine RS.norm (by dsimp only [putL, List.set]) ?_
    refine RS.pick (v := .bool true) rfl rfl ?_
    refine RS.nil ?_
    refine hK23 _ _ ?_
    try clear hK23
    refine C.ift rfl ?_
    refine wp_seq_k (fun K25 hK25 => ?_)
    refine region ?_
    refine RS.assign (v := .int .i64 8) rfl ?_
    refine RS.nil ?_
    refine hK25 _ _ ?_
    try clear hK25
    refine wp_ret ?_
    refine ret (rs := [.tmp 2]) (vs := [.int _ _]) (v := (.int _ _)) rfl ⟨rfl, trivial⟩ rfl ?_
    refine ⟨_, rfl, hE, congrArg (Value.int .i64) ?_⟩
    first | (refine S.valE_pos ?_; grind [S.FineV, S.TextOk]) | (refine S.valE_neg ?_; grind [S.FineV, S.TextOk])
   ·refine RS.norm (by dsimp only [List.set]) ?_
    have hq := of_decide_eq_true ((S.eqV _ _ _ _ _ _ _ _).symm.trans (Eq.mp (Bool.not_eq_false' _) c24))
    refine RS.wantB 27 rfl rfl rfl ?_
    refine RS.o (D.fieldL 0 rfl Tryz.underlying27 rfl C5 (by decide) rfl) ?_
    refine RS.wantB 27 rfl rfl rfl ?_
    refine RS.o (D.load rfl Tryz.underlying5 rfl (B2.cell rfl)) ?_
    refine RS.wantB 27 rfl rfl rfl ?_
    refine RS.o (D.eq rfl rfl) ?_
    refine RS.pick (v := .bool _) rfl rfl ?_
    refine RS.nil ?_
    refine hK23 _ _ ?_
    try clear hK23
    refine C.ife rfl (fun c26 => ?_) (fun c26 => ?_)
    ·refine wp_seq_k (fun K27 hK27 => ?_)
     refine region ?_
     refine RS.assign (v := .int .i64 8) rfl ?_
     refine RS.nil ?_
     refine hK27 _ _ ?_
     try clear hK27
     refine wp_ret ?_
     refine ret (rs := [.tmp 2]) (vs := [.int _ _]) (v := (.int _ _)) rfl ⟨rfl, trivial⟩ rfl ?_
     refine ⟨_, rfl, hE, congrArg (Value.int .i64) ?_⟩
     first | (refine S.valE_pos ?_; grind [S.FineV, S.TextOk]) | (refine S.valE_neg ?_; grind [S.FineV, S.TextOk])
    ·refine wp_skip ?_
     refine hK22 _ _ ?_
     try clear hK22
     refine wp_seq_k (fun K28 hK28 => ?_)
     refine region ?_
     refine RS.assign (v := .int .i64 0) rfl ?_
     refine RS.nil ?_
     refine hK28 _ _ ?_
     try clear hK28
     refine wp_ret ?_
     refine ret (rs := [.tmp 2]) (vs := [.int _ _]) (v := (.int _ _)) rfl ⟨rfl, trivial⟩ rfl ?_
     refine ⟨_, rfl, hE, congrArg (Value.int .i64) ?_⟩
     first | (refine S.valE_pos ?_; grind [S.FineV, S.TextOk]) | (refine S.valE_neg ?_; grind [S.FineV, S.TextOk])
  ·refine wp_seq_k (fun K29 hK29 => ?_)
   refine region ?_
   refine RS.o (D.eq rfl rfl) ?_
   refine RS.assign (v := .bool _) rfl ?_
   refine RS.nil ?_
   refine hK29 _ _ ?_
   try clear hK29
   refine C.ife rfl (fun c30 => ?_) (fun c30 => ?_)
   ·refine region ?_
    refine RS.o (D.fieldL 3 rfl Tryz.underlying27 rfl C9 (by decide) rfl) ?_
    refine RS.o (D.load rfl Tryz.underlying9 rfl (B2.cell rfl)) ?_
    refine RS.call E129 (textV _ _) rfl (fun v31 w31 x31 A31 => ?_)
    replace hE := Ext.tr hE x31
    replace B2 := B2.ext x31
    replace B4 := B4.ext x31
    have zw31 := x31.size
    obtain ⟨k2, t2, e2, rfl, hT⟩ := A31
    refine RS.norm (by dsimp only [List.set]) ?_
    refine RS.move (v := .tuple _) rfl ?_
    refine RS.extract (v := .agg _) rfl rfl ?_
    refine RS.extract (v := .int _ _) rfl rfl ?_
    refine RS.storeAggB rfl rfl C27 (by decide) rfl rfl B4 rfl (fun w32 y32 N32 => ?_)
    replace hE := hE.trans (y32.below (by intros; try (first | (intro _ _) | (intro _) | skip); first | omega | (dsimp only at *; omega) | (simp_all; done) | (simp at *; omega)))
    replace B2 := B2.st y32 (by intros; try (first | (intro _ _) | (intro _) | skip); first | omega | (dsimp only at *; omega) | (simp_all; done) | (simp at *; omega))
    have zw32 := y32.size
    replace B4 := N32
    refine RS.nil ?_
    refine hK5 _ _ ?_
    try clear hK5
    refine wp_seq_k (fun K33 hK33 => ?_)
    refine wp_seq_k (fun K34 hK34 => ?_)
    refine region ?_
    refine RS.o (D.loadAgg rfl Tryz.underlying27 rfl C27 (by decide) rfl (B2.cellsN 4 rfl)) ?_
    refine RS.o (D.loadAgg rfl Tryz.underlying27 rfl C27 (by decide) rfl (B4.cellsN 4 rfl)) ?_
    refine RS.o (D.neA rfl rfl Tryz.underlying27 rfl (by kernel_rfl) (by kernel_rfl) (by kernel_rfl)) ?_
    refine RS.move (v := .bool _) rfl ?_
    refine RS.splitb 27 rfl rfl (fun c35 => ?_) (fun c35 => ?_)
    ·refine RS.norm (by dsimp only [List.set]) ?_
     have hq := of_decide_eq_false ((S.eqV _ _ _ _ _ _ _ _).symm.trans (Eq.mp (Bool.not_eq_true' _) c35))
     refine RS.skipB (b := true) 27 rfl rfl rfl rfl ?_
     refine RS.norm (by dsimp only [putL, List.set]) ?_
     refine RS.skipB (b := true) 27 rfl rfl rfl rfl ?_
     refine RS.norm (by dsimp only [putL, List.set]) ?_
     refine RS.skipB (b := true) 27 rfl rfl rfl rfl ?_
     refine RS.norm (by dsimp only [putL, List.set]) ?_
     refine RS.pick (v := .bool true) rfl rfl ?_
     refine RS.nil ?_
     refine hK34 _ _ ?_
     try clear hK34
     refine C.ift rfl ?_
     refine wp_seq_k (fun K36 hK36 => ?_)
     refine region ?_
     refine RS.assign (v := .int .i64 8) rfl ?_
     refine RS.nil ?_
     refine hK36 _ _ ?_
     try clear hK36
     refine wp_ret ?_
     refine ret (rs := [.tmp 2]) (vs := [.int _ _]) (v := (.int _ _)) rfl ⟨rfl, trivial⟩ rfl ?_
     refine ⟨_, rfl, hE, congrArg (Value.int .i64) ?_⟩
     first | (refine S.valE_pos ?_; grind [S.FineV, S.TextOk]) | (refine S.valE_neg ?_; grind [S.FineV, S.TextOk])
    ·refine RS.norm (by dsimp only [List.set]) ?_
     have hq := of_decide_eq_true ((S.eqV _ _ _ _ _ _ _ _).symm.trans (Eq.mp (Bool.not_eq_false' _) c35))
     refine RS.wantB 27 rfl rfl rfl ?_
     refine RS.o (D.fieldL 0 rfl Tryz.underlying27 rfl C5 (by decide) rfl) ?_
     refine RS.wantB 27 rfl rfl rfl ?_
     refine RS.o (D.load rfl Tryz.underlying5 rfl (B2.cell rfl)) ?_
     refine RS.wantB 27 rfl rfl rfl ?_
     refine RS.o (D.eq rfl rfl) ?_
     refine RS.pick (v := .bool _) rfl rfl ?_
     refine RS.nil ?_
     refine hK34 _ _ ?_
     try clear hK34
     refine C.ife rfl (fun c37 => ?_) (fun c37 => ?_)
     ·refine wp_seq_k (fun K38 hK38 => ?_)
      refine region ?_
      refine RS.assign (v := .int .i64 8) rfl ?_
      refine RS.nil ?_
      refine hK38 _ _ ?_
      try clear hK38
      refine wp_ret ?_
      refine ret (rs := [.tmp 2]) (vs := [.int _ _]) (v := (.int _ _)) rfl ⟨rfl, trivial⟩ rfl ?_
      refine ⟨_, rfl, hE, congrArg (Value.int .i64) ?_⟩
      first | (refine S.valE_pos ?_; grind [S.FineV, S.TextOk]) | (refine S.valE_neg ?_; grind [S.FineV, S.TextOk])
     ·refine wp_skip ?_
      refine hK33 _ _ ?_
      try clear hK33
      refine wp_seq_k (fun K39 hK39 => ?_)
      refine region ?_
      refine RS.assign (v := .int .i64 0) rfl ?_
      refine RS.nil ?_
      refine hK39 _ _ ?_
      try clear hK39
      refine wp_ret ?_
      refine ret (rs := [.tmp 2]) (vs := [.int _ _]) (v := (.int _ _)) rfl ⟨rfl, trivial⟩ rfl ?_
      refine ⟨_, rfl, hE, congrArg (Value.int .i64) ?_⟩
      first | (refine S.valE_pos ?_; grind [S.FineV, S.TextOk]) | (refine S.valE_neg ?_; grind [S.FineV, S.TextOk])
   ·refine wp_skip ?_
    refine hK5 _ _ ?_
    try clear hK5
    refine wp_seq_k (fun K40 hK40 => ?_)
    refine wp_seq_k (fun K41 hK41 => ?_)
    refine region ?_
    refine RS.o (D.loadAgg rfl Tryz.underlying27 rfl C27 (by decide) rfl (B2.cellsN 4 rfl)) ?_
    refine RS.o (D.loadAgg rfl Tryz.underlying27 rfl C27 (by decide) rfl (B4.cellsN 4 rfl)) ?_
    refine RS.o (D.neA rfl rfl Tryz.underlying27 rfl (by kernel_rfl) (by kernel_rfl) (by kernel_rfl)) ?_
    refine RS.move (v := .bool _) rfl ?_
    refine RS.splitb 27 rfl rfl (fun c42 => ?_) (fun c42 => ?_)
    ·refine RS.norm (by dsimp only [List.set]) ?_
     have hq := of_decide_eq_false ((S.eqV _ _ _ _ _ _ _ _).symm.trans (Eq.mp (Bool.not_eq_true' _) c42))
     refine RS.skipB (b := true) 27 rfl rfl rfl rfl ?_
     refine RS.norm (by dsimp only [putL, List.set]) ?_
     refine RS.skipB (b := true) 27 rfl rfl rfl rfl ?_
     refine RS.norm (by dsimp only [putL, List.set]) ?_
     refine RS.skipB (b := true) 27 rfl rfl rfl rfl ?_
     refine RS.norm (by dsimp only [putL, List.set]) ?_
     refine RS.pick (v := .bool true) rfl rfl ?_
     refine RS.nil ?_
     refine hK41 _ _ ?_
     try clear hK41
     refine C.ift rfl ?_
     refine wp_seq_k (fun K43 hK43 => ?_)
     refine region ?_
     refine RS.assign (v := .int .i64 8) rfl ?_
     refine RS.nil ?_
     refine hK43 _ _ ?_
     try clear hK43
     refine wp_ret ?_
     refine ret (rs := [.tmp 2]) (vs := [.int _ _]) (v := (.int _ _)) rfl ⟨rfl, trivial⟩ rfl ?_
     refine ⟨_, rfl, hE, congrArg (Value.int .i64) ?_⟩
     first | (refine S.valE_pos ?_; grind [S.FineV, S.TextOk]) | (refine S.valE_neg ?_; grind [S.FineV, S.TextOk])
    ·refine RS.norm (by dsimp only [List.set]) ?_
     have hq := of_decide_eq_true ((S.eqV _ _ _ _ _ _ _ _).symm.trans (Eq.mp (Bool.not_eq_false' _) c42))
     refine RS.wantB 27 rfl rfl rfl ?_
     refine RS.o (D.fieldL 0 rfl Tryz.underlying27 rfl C5 (by decide) rfl) ?_
     refine RS.wantB 27 rfl rfl rfl ?_
     refine RS.o (D.load rfl Tryz.underlying5 rfl (B2.cell rfl)) ?_
     refine RS.wantB 27 rfl rfl rfl ?_
     refine RS.o (D.eq rfl rfl) ?_
     refine RS.pick (v := .bool _) rfl rfl ?_
     refine RS.nil ?_
     refine hK41 _ _ ?_
     try clear hK41
     refine C.ife rfl (fun c44 => ?_) (fun c44 => ?_)
     ·refine wp_seq_k (fun K45 hK45 => ?_)
      refine region ?_
      refine RS.assign (v := .int .i64 8) rfl ?_
      refine RS.nil ?_
      refine hK45 _ _ ?_
      try clear hK45
      refine wp_ret ?_
      refine ret (rs := [.tmp 2]) (vs := [.int _ _]) (v := (.int _ _)) rfl ⟨rfl, trivial⟩ rfl ?_
      refine ⟨_, rfl, hE, congrArg (Value.int .i64) ?_⟩
      first | (refine S.valE_pos ?_; grind [S.FineV, S.TextOk]) | (refine S.valE_neg ?_; grind [S.FineV, S.TextOk])
     ·refine wp_skip ?_
      refine hK40 _ _ ?_
      try clear hK40
      refine wp_seq_k (fun K46 hK46 => ?_)
      refine region ?_
      refine RS.assign (v := .int .i64 0) rfl ?_
      refine RS.nil ?_
      refine hK46 _ _ ?_
      try clear hK46
      refine wp_ret ?_
      refine ret (rs := [.tmp 2]) (vs := [.int _ _]) (v := (.int _ _)) rfl ⟨rfl, trivial⟩ rfl ?_
      refine ⟨_, rfl, hE, congrArg (Value.int .i64) ?_⟩
      first | (refine S.valE_pos ?_; grind [S.FineV, S.TextOk]) | (refine S.valE_neg ?_; grind [S.FineV, S.TextOk])
theorem checkR (k num bits : Int) (t : ByteArray) (hk : 0 ≤ k ∧ k < 256) (hnum : -9223372036854775808 ≤ num ∧ num ≤ 9223372036854775807) (hb : 0 ≤ bits ∧ bits < 18446744073709551616) (hs : t.size ≤ 1000000) (w : World) :
  Calls Tryz.prog 117 #[.agg ([.int .u8 k, .int .i64 num, .int .u64 bits, .string t] : List Value).toArray] w (Ret w fun v _ => v = .int .i64 (S.valE k num bits t)) := by
 have hE := Ext.refl w
 refine enter (args := [.agg ([.int .u8 k, .int .i64 num, .int .u64 bits, .string t] : List Value).toArray]) (l := [.agg ([.int .u8 k, .int .i64 num, .int .u64 bits, .string t] : List Value).toArray, undef, undef, undef, undef, undef, undef, undef, undef, undef, undef, undef, undef, undef, undef, undef, undef, undef, undef, undef, undef, undef, undef, undef, undef, undef, undef, undef, undef, undef, undef, undef, undef, undef, undef, undef, undef, undef, undef, undef, undef, undef, undef, undef, undef, undef, undef, undef, undef, undef, undef, undef, undef, undef]) Tryz.func117 rfl rfl ?_
 refine wp_seq_k (fun K1 hK1 => ?_)
 refine region ?_
 refine RS.box rfl rfl (fun b2 w2 e2 s2 x2 B2 => ?_)
 refine RS.norm (by dsimp only [List.set]) ?_
 replace hE := Ext.tr hE x2
 have zw2 := x2.size
 refine RS.assign (v := .int .i64 0) rfl ?_
 refine RS.nil ?_
 refine hK1 _ _ ?_
 try clear hK1
 refine wp_seq_k (fun K3 hK3 => ?_)
 refine wp_seq_k (fun K4 hK4 => ?_)
 refine region ?_
 refine RS.o (D.fieldL 0 rfl Tryz.underlying27 rfl C5 (by decide) rfl) ?_
 refine RS.o (D.load rfl Tryz.underlying5 rfl (B2.cell rfl)) ?_
 refine RS.nil ?_
 refine hK4 _ _ ?_
 try clear hK4
 refine wp_block ?_
 refine wp_seq_k (fun K5 hK5 => ?_)
 refine region ?_
 refine RS.o (D.eq rfl rfl) ?_
 refine RS.assign (v := .bool _) rfl ?_
 refine RS.nil ?_
 refine hK5 _ _ ?_
 try clear hK5
 refine C.ife rfl (fun c6 => ?_) (fun c6 => ?_)
 ·refine wp_seq_k (fun K7 hK7 => ?_)
  refine region ?_
  refine RS.o (D.fieldL 2 rfl Tryz.underlying27 rfl C25 (by decide) rfl) ?_
  refine RS.o (D.load rfl Tryz.underlying25 rfl (B2.cell rfl)) ?_
  refine RS.o (D.eq rfl rfl) ?_
  refine RS.move (v := .bool _) rfl ?_
  refine RS.splite 10 rfl rfl (fun c8 => ?_) (fun c8 => ?_)
  ·refine RS.norm (by dsimp only [List.set]) ?_
   refine RS.wantB 10 rfl rfl rfl ?_
   refine RS.o (D.fieldL 3 rfl Tryz.underlying27 rfl C9 (by decide) rfl) ?_
   refine RS.wantB 10 rfl rfl rfl ?_
   refine RS.o (D.load rfl Tryz.underlying9 rfl (B2.cell rfl)) ?_
   refine RS.wantB 10 rfl rfl rfl ?_
   refine RS.o (D.seq rfl rfl) ?_
   refine RS.pick (v := .bool _) rfl rfl ?_
   refine RS.nil ?_
   refine hK7 _ _ ?_
   try clear hK7
   refine C.ifb rfl (fun c9 => ?_) (fun c9 => ?_)
   ·have ht1 : t = ByteArray.empty := of_decide_eq_true ((strEq _ _).symm.trans c9)
    refine wp_seq_k (fun K10 hK10 => ?_)
    refine region ?_
    refine RS.assign (v := .int .i64 0) rfl ?_
    refine RS.nil ?_
    refine hK10 _ _ ?_
    try clear hK10
    refine wp_ret ?_
    refine ret (rs := [.tmp 2]) (vs := [.int _ _]) (v := (.int _ _)) rfl ⟨rfl, trivial⟩ rfl ?_
    refine ⟨_, rfl, hE, congrArg (Value.int .i64) ?_⟩
    first | (refine S.valE_pos ?_; grind [S.FineV, S.TextOk]) | (refine S.valE_neg ?_; grind [S.FineV, S.TextOk])
   ·have ht1 : t ≠ ByteArray.empty := of_decide_eq_false ((strEq _ _).symm.trans c9)
    refine wp_skip ?_
    refine hK3 _ _ ?_
    try clear hK3
    refine wp_seq_k (fun K11 hK11 => ?_)
    refine region ?_
    refine RS.assign (v := .int .i64 8) rfl ?_
    refine RS.nil ?_
    refine hK11 _ _ ?_
    try clear hK11
    refine wp_ret ?_
    refine ret (rs := [.tmp 2]) (vs := [.int _ _]) (v := (.int _ _)) rfl ⟨rfl, trivial⟩ rfl ?_
    refine ⟨_, rfl, hE, congrArg (Value.int .i64) ?_⟩
    first | (refine S.valE_pos ?_; grind [S.FineV, S.TextOk]) | (refine S.valE_neg ?_; grind [S.FineV, S.TextOk])
  ·refine RS.norm (by dsimp only [List.set]) ?_
   refine RS.skipB (b := false) 10 rfl rfl rfl rfl ?_
   refine RS.norm (by dsimp only [putL, List.set]) ?_
   refine RS.skipB (b := false) 10 rfl rfl rfl rfl ?_
   refine RS.norm (by dsimp only [putL, List.set]) ?_
   refine RS.skipB (b := false) 10 rfl rfl rfl rfl ?_
   refine RS.norm (by dsimp only [putL, List.set]) ?_
   refine RS.pick (v := .bool false) rfl rfl ?_
   refine RS.nil ?_
   refine hK7 _ _ ?_
   try clear hK7
   refine C.iff rfl ?_
   refine wp_skip ?_
   refine hK3 _ _ ?_
   try clear hK3
   refine wp_seq_k (fun K12 hK12 => ?_)
   refine region ?_
   refine RS.assign (v := .int .i64 8) rfl ?_
   refine RS.nil ?_
   refine hK12 _ _ ?_
   try clear hK12
   refine wp_ret ?_
   refine ret (rs := [.tmp 2]) (vs := [.int _ _]) (v := (.int _ _)) rfl ⟨rfl, trivial⟩ rfl ?_
   refine ⟨_, rfl, hE, congrArg (Value.int .i64) ?_⟩
   first | (refine S.valE_pos ?_; grind [S.FineV, S.TextOk]) | (refine S.valE_neg ?_; grind [S.FineV, S.TextOk])
 ·refine wp_seq_k (fun K13 hK13 => ?_)
  refine region ?_
  refine RS.o (D.eq rfl rfl) ?_
  refine RS.assign (v := .bool _) rfl ?_
  refine RS.nil ?_
  refine hK13 _ _ ?_
  try clear hK13
  refine C.ife rfl (fun c14 => ?_) (fun c14 => ?_)
  ·refine wp_seq_k (fun K15 hK15 => ?_)
   refine regionX Ext [(0, .q), (1, .q), (2, .q), (3, .q), (4, .q), (5, .q), (6, .q), (7, .q), (8, .q), (9, .q), (10, .q), (12, .q), (13, .q), (11, .e), (14, .q), (15, .q)] mixed Ext.refl (fun h k => h.tr k) (by kernel_rfl) (fun w16 x16 => ?_)
   replace hE := Ext.tr hE x16
   replace B2 := B2.ext x16
   have zw16 := x16.size
   refine RX.o (fun w' hw => D.fieldL 1 rfl Tryz.underlying27 rfl C2 (by decide) rfl) ?_
   refine RX.o (fun w' hw => D.load rfl Tryz.underlying2 rfl ((B2.ext hw).cell rfl)) ?_
   refine RX.o (fun w' hw => D.eq rfl rfl) ?_
   refine RX.move (v := .bool _) rfl ?_
   refine RX.splite 20 rfl rfl (fun c17 => ?_) (fun c17 => ?_)
   ·refine RX.norm (by dsimp only [List.set]) ?_
    refine RX.wantB 20 rfl rfl rfl ?_
    refine RX.o (fun w' hw => D.fieldL 3 rfl Tryz.underlying27 rfl C9 (by decide) rfl) ?_
    refine RX.wantB 20 rfl rfl rfl ?_
    refine RX.o (fun w' hw => D.load rfl Tryz.underlying9 rfl ((B2.ext hw).cell rfl)) ?_
    refine RX.wantB 20 rfl rfl rfl ?_
    refine RX.o (fun w' hw => D.seq rfl rfl) ?_
    refine RX.pick (v := .bool _) rfl rfl ?_
    refine RX.move (v := .bool _) rfl ?_
    refine RX.splitb 25 rfl rfl (fun c18 => ?_) (fun c18 => ?_)
    ·refine RX.norm (by dsimp only [List.set]) ?_
     have ht2 : t = ByteArray.empty := of_decide_eq_true ((strEq _ _).symm.trans c18)
     refine RX.wantB 25 rfl rfl rfl ?_
     refine RX.o (fun w' hw => D.fieldL 2 rfl Tryz.underlying27 rfl C25 (by decide) rfl) ?_
     refine RX.wantB 25 rfl rfl rfl ?_
     refine RX.o (fun w' hw => D.load rfl Tryz.underlying25 rfl ((B2.ext hw).cell rfl)) ?_
     refine RX.wantB 25 rfl rfl rfl ?_
     refine RX.o (fun w' hw => D.fieldL 2 rfl Tryz.underlying27 rfl C25 (by decide) rfl) ?_
     refine RX.wantB 25 rfl rfl rfl ?_
     refine RX.o (fun w' hw => D.load rfl Tryz.underlying25 rfl ((B2.ext hw).cell rfl)) ?_
     refine RX.wantB 25 rfl rfl rfl ?_
     refine RX.eff ?_
     refine RS.call E144 (canonR _ (by omega) _) rfl (fun v19 w19 x19 A19 => ?_)
     replace hE := Ext.tr hE x19
     replace B2 := B2.ext x19
     have zw19 := x19.size
     subst A19
     refine RS.norm (by dsimp only [List.set]) ?_
     refine RS.nil ⟨x19, ?_⟩
     refine RX.wantB 25 rfl rfl rfl ?_
     refine RX.o (fun w' hw => D.eq rfl rfl) ?_
     refine RX.pick (v := .bool _) rfl rfl ?_
     refine RX.nil ?_
     refine hK15 _ _ ?_
     try clear hK15
     refine C.ife rfl (fun c20 => ?_) (fun c20 => ?_)
     ·refine wp_seq_k (fun K21 hK21 => ?_)
      refine region ?_
      refine RS.assign (v := .int .i64 0) rfl ?_
      refine RS.nil ?_
      refine hK21 _ _ ?_
      try clear hK21
      refine wp_ret ?_
      refine ret (rs := [.tmp 2]) (vs := [.int _ _]) (v := (.int _ _)) rfl ⟨rfl, trivial⟩ rfl ?_
      refine ⟨_, rfl, hE, congrArg (Value.int .i64) ?_⟩
      first | (refine S.valE_pos ?_; grind [S.FineV, S.TextOk]) | (refine S.valE_neg ?_; grind [S.FineV, S.TextOk])
     ·refine wp_skip ?_
      refine hK3 _ _ ?_
      try clear hK3
      refine wp_seq_k (fun K22 hK22 => ?_)
      refine region ?_
      refine RS.assign (v := .int .i64 8) rfl ?_
      refine RS.nil ?_
      refine hK22 _ _ ?_
      try clear hK22
      refine wp_ret ?_
      refine ret (rs := [.tmp 2]) (vs := [.int _ _]) (v := (.int _ _)) rfl ⟨rfl, trivial⟩ rfl ?_
      refine ⟨_, rfl, hE, congrArg (Value.int .i64) ?_⟩
      first | (refine S.valE_pos ?_; grind [S.FineV, S.TextOk]) | (refine S.valE_neg ?_; grind [S.FineV, S.TextOk])
    ·refine RX.norm (by dsimp only [List.set]) ?_
     have ht2 : t ≠ ByteArray.empty := of_decide_eq_false ((strEq _ _).symm.trans c18)
     refine RX.skipB (b := false) 25 rfl rfl rfl rfl ?_
     refine RX.norm (by dsimp only [putL, List.set]) ?_
     refine RX.skipB (b := false) 25 rfl rfl rfl rfl ?_
     refine RX.norm (by dsimp only [putL, List.set]) ?_
     refine RX.skipB (b := false) 25 rfl rfl rfl rfl ?_
     refine RX.norm (by dsimp only [putL, List.set]) ?_
     refine RX.skipB (b := false) 25 rfl rfl rfl rfl ?_
     refine RX.norm (by dsimp only [putL, List.set]) ?_
     refine RX.skipB (b := false) 25 rfl rfl rfl rfl ?_
     refine RX.norm (by dsimp only [putL, List.set]) ?_
     refine RX.skipB (b := false) 25 rfl rfl rfl rfl ?_
     refine RX.norm (by dsimp only [putL, List.set]) ?_
     refine RX.pick (v := .bool false) rfl rfl ?_
     refine RX.nil ?_
     refine hK15 _ _ ?_
     try clear hK15
     refine C.iff rfl ?_
     refine wp_skip ?_
     refine hK3 _ _ ?_
     try clear hK3
     refine wp_seq_k (fun K23 hK23 => ?_)
     refine region ?_
     refine RS.assign (v := .int .i64 8) rfl ?_
     refine RS.nil ?_
     refine hK23 _ _ ?_
     try clear hK23
     refine wp_ret ?_
     refine ret (rs := [.tmp 2]) (vs := [.int _ _]) (v := (.int _ _)) rfl ⟨rfl, trivial⟩ rfl ?_
     refine ⟨_, rfl, hE, congrArg (Value.int .i64) ?_⟩
     first | (refine S.valE_pos ?_; grind [S.FineV, S.TextOk]) | (refine S.valE_neg ?_; grind [S.FineV, S.TextOk])
   ·refine RX.norm (by dsimp only [List.set]) ?_
    refine RX.skipB (b := false) 20 rfl rfl rfl rfl ?_
    refine RX.norm (by dsimp only [putL, List.set]) ?_
    refine RX.skipB (b := false) 20 rfl rfl rfl rfl ?_
    refine RX.norm (by dsimp only [putL, List.set]) ?_
    refine RX.skipB (b := false) 20 rfl rfl rfl rfl ?_
    refine RX.norm (by dsimp only [putL, List.set]) ?_
    refine RX.pick (v := .bool false) rfl rfl ?_
    refine RX.move (v := .bool _) rfl ?_
    refine RX.skipB (b := false) 25 rfl rfl rfl rfl ?_
    refine RX.norm (by dsimp only [putL, List.set]) ?_
    refine RX.skipB (b := false) 25 rfl rfl rfl rfl ?_
    refine RX.norm (by dsimp only [putL, List.set]) ?_
    refine RX.skipB (b := false) 25 rfl rfl rfl rfl ?_
    refine RX.norm (by dsimp only [putL, List.set]) ?_
    refine RX.skipB (b := false) 25 rfl rfl rfl rfl ?_
    refine RX.norm (by dsimp only [putL, List.set]) ?_
    refine RX.skipB (b := false) 25 rfl rfl rfl rfl ?_
    refine RX.norm (by dsimp only [putL, List.set]) ?_
    refine RX.skipB (b := false) 25 rfl rfl rfl rfl ?_
    refine RX.norm (by dsimp only [putL, List.set]) ?_
    refine RX.pick (v := .bool false) rfl rfl ?_
    refine RX.nil ?_
    refine hK15 _ _ ?_
    try clear hK15
    refine C.iff rfl ?_
    refine wp_skip ?_
    refine hK3 _ _ ?_
    try clear hK3
    refine wp_seq_k (fun K24 hK24 => ?_)
    refine region ?_
    refine RS.assign (v := .int .i64 8) rfl ?_
    refine RS.nil ?_
    refine hK24 _ _ ?_
    try clear hK24
    refine wp_ret ?_
    refine ret (rs := [.tmp 2]) (vs := [.int _ _]) (v := (.int _ _)) rfl ⟨rfl, trivial⟩ rfl ?_
    refine ⟨_, rfl, hE, congrArg (Value.int .i64) ?_⟩
    first | (refine S.valE_pos ?_; grind [S.FineV, S.TextOk]) | (refine S.valE_neg ?_; grind [S.FineV, S.TextOk])
  ·refine wp_seq_k (fun K25 hK25 => ?_)
   refine region ?_
   refine RS.o (D.eq rfl rfl) ?_
   refine RS.assign (v := .bool _) rfl ?_
   refine RS.nil ?_
   refine hK25 _ _ ?_
   try clear hK25
   refine C.ife rfl (fun c26 => ?_) (fun c26 => ?_)
   ·refine wp_seq_k (fun K27 hK27 => ?_)
    refine region ?_
    refine RS.o (D.fieldL 1 rfl Tryz.underlying27 rfl C2 (by decide) rfl) ?_
    refine RS.o (D.load rfl Tryz.underlying2 rfl (B2.cell rfl)) ?_
    refine RS.o (D.eq rfl rfl) ?_
    refine RS.move (v := .bool _) rfl ?_
    refine RS.splite 38 rfl rfl (fun c28 => ?_) (fun c28 => ?_)
    ·refine RS.norm (by dsimp only [List.set]) ?_
     refine RS.wantB 38 rfl rfl rfl ?_
     refine RS.o (D.fieldL 2 rfl Tryz.underlying27 rfl C25 (by decide) rfl) ?_
     refine RS.wantB 38 rfl rfl rfl ?_
     refine RS.o (D.load rfl Tryz.underlying25 rfl (B2.cell rfl)) ?_
     refine RS.wantB 38 rfl rfl rfl ?_
     refine RS.o (D.eq rfl rfl) ?_
     refine RS.pick (v := .bool _) rfl rfl ?_
     refine RS.move (v := .bool _) rfl ?_
     refine RS.splite 43 rfl rfl (fun c29 => ?_) (fun c29 => ?_)
     ·refine RS.norm (by dsimp only [List.set]) ?_
      refine RS.wantB 43 rfl rfl rfl ?_
      refine RS.o (D.fieldL 3 rfl Tryz.underlying27 rfl C9 (by decide) rfl) ?_
      refine RS.wantB 43 rfl rfl rfl ?_
      refine RS.o (D.load rfl Tryz.underlying9 rfl (B2.cell rfl)) ?_
      refine RS.wantB 43 rfl rfl rfl ?_
      refine RS.o (D.lenStr rfl Tryz.underlying9) ?_
      refine RS.wantB 43 rfl rfl rfl ?_
      refine RS.o (D.le rfl rfl) ?_
      refine RS.pick (v := .bool _) rfl rfl ?_
      refine RS.move (v := .bool _) rfl ?_
      refine RS.splitd 49 rfl rfl (fun c30 => ?_) (fun c30 => ?_)
      ·refine RS.norm (by dsimp only [List.set]) ?_
       refine RS.wantB 49 rfl rfl rfl ?_
       refine RS.o (D.fieldL 3 rfl Tryz.underlying27 rfl C9 (by decide) rfl) ?_
       refine RS.wantB 49 rfl rfl rfl ?_
       refine RS.o (D.load rfl Tryz.underlying9 rfl (B2.cell rfl)) ?_
       refine RS.wantB 49 rfl rfl rfl ?_
       refine RS.call E145 (printable _ hs _) rfl (fun v31 w31 x31 A31 => ?_)
       replace hE := Ext.tr hE x31
       replace B2 := B2.ext x31
       have zw31 := x31.size
       subst A31
       refine RS.norm (by dsimp only [List.set]) ?_
       refine RS.pick (v := .bool _) rfl rfl ?_
       refine RS.nil ?_
       refine hK27 _ _ ?_
       try clear hK27
       refine C.ifb rfl (fun c32 => ?_) (fun c32 => ?_)
       ·have hp := of_decide_eq_true c32
        refine wp_seq_k (fun K33 hK33 => ?_)
        refine region ?_
        refine RS.assign (v := .int .i64 0) rfl ?_
        refine RS.nil ?_
        refine hK33 _ _ ?_
        try clear hK33
        refine wp_ret ?_
        refine ret (rs := [.tmp 2]) (vs := [.int _ _]) (v := (.int _ _)) rfl ⟨rfl, trivial⟩ rfl ?_
        refine ⟨_, rfl, hE, congrArg (Value.int .i64) ?_⟩
        first | (refine S.valE_pos ?_; grind [S.FineV, S.TextOk]) | (refine S.valE_neg ?_; grind [S.FineV, S.TextOk])
       ·have hp := of_decide_eq_false c32
        refine wp_skip ?_
        refine hK3 _ _ ?_
        try clear hK3
        refine wp_seq_k (fun K34 hK34 => ?_)
        refine region ?_
        refine RS.assign (v := .int .i64 8) rfl ?_
        refine RS.nil ?_
        refine hK34 _ _ ?_
        try clear hK34
        refine wp_ret ?_
        refine ret (rs := [.tmp 2]) (vs := [.int _ _]) (v := (.int _ _)) rfl ⟨rfl, trivial⟩ rfl ?_
        refine ⟨_, rfl, hE, congrArg (Value.int .i64) ?_⟩
        first | (refine S.valE_pos ?_; grind [S.FineV, S.TextOk]) | (refine S.valE_neg ?_; grind [S.FineV, S.TextOk])
      ·refine RS.norm (by dsimp only [List.set]) ?_
       refine RS.skipB (b := false) 49 rfl rfl rfl rfl ?_
       refine RS.norm (by dsimp only [putL, List.set]) ?_
       refine RS.skipB (b := false) 49 rfl rfl rfl rfl ?_
       refine RS.norm (by dsimp only [putL, List.set]) ?_
       refine RS.skipB (b := false) 49 rfl rfl rfl rfl ?_
       refine RS.norm (by dsimp only [putL, List.set]) ?_
       refine RS.pick (v := .bool false) rfl rfl ?_
       refine RS.nil ?_
       refine hK27 _ _ ?_
       try clear hK27
       refine C.iff rfl ?_
       refine wp_skip ?_
       refine hK3 _ _ ?_
       try clear hK3
       refine wp_seq_k (fun K35 hK35 => ?_)
       refine region ?_
       refine RS.assign (v := .int .i64 8) rfl ?_
       refine RS.nil ?_
       refine hK35 _ _ ?_
       try clear hK35
       refine wp_ret ?_
       refine ret (rs := [.tmp 2]) (vs := [.int _ _]) (v := (.int _ _)) rfl ⟨rfl, trivial⟩ rfl ?_
       refine ⟨_, rfl, hE, congrArg (Value.int .i64) ?_⟩
       first | (refine S.valE_pos ?_; grind [S.FineV, S.TextOk]) | (refine S.valE_neg ?_; grind [S.FineV, S.TextOk])
     ·refine RS.norm (by dsimp only [List.set]) ?_
      refine RS.skipB (b := false) 43 rfl rfl rfl rfl ?_
      refine RS.norm (by dsimp only [putL, List.set]) ?_
      refine RS.skipB (b := false) 43 rfl rfl rfl rfl ?_
      refine RS.norm (by dsimp only [putL, List.set]) ?_
      refine RS.skipB (b := false) 43 rfl rfl rfl rfl ?_
      refine RS.norm (by dsimp only [putL, List.set]) ?_
      refine RS.skipB (b := false) 43 rfl rfl rfl rfl ?_
      refine RS.norm (by dsimp only [putL, List.set]) ?_
      refine RS.pick (v := .bool false) rfl rfl ?_
      refine RS.move (v := .bool _) rfl ?_
      refine RS.skipB (b := false) 49 rfl rfl rfl rfl ?_
      refine RS.norm (by dsimp only [putL, List.set]) ?_
      refine RS.skipB (b := false) 49 rfl rfl rfl rfl ?_
      refine RS.norm (by dsimp only [putL, List.set]) ?_
      refine RS.skipB (b := false) 49 rfl rfl rfl rfl ?_
      refine RS.norm (by dsimp only [putL, List.set]) ?_
      refine RS.pick (v := .bool false) rfl rfl ?_
      refine RS.nil ?_
      refine hK27 _ _ ?_
      try clear hK27
      refine C.iff rfl ?_
      refine wp_skip ?_
      refine hK3 _ _ ?_
      try clear hK3
      refine wp_seq_k (fun K36 hK36 => ?_)
      refine region ?_
      refine RS.assign (v := .int .i64 8) rfl ?_
      refine RS.nil ?_
      refine hK36 _ _ ?_
      try clear hK36
      refine wp_ret ?_
      refine ret (rs := [.tmp 2]) (vs := [.int _ _]) (v := (.int _ _)) rfl ⟨rfl, trivial⟩ rfl ?_
      refine ⟨_, rfl, hE, congrArg (Value.int .i64) ?_⟩
      first | (refine S.valE_pos ?_; grind [S.FineV, S.TextOk]) | (refine S.valE_neg ?_; grind [S.FineV, S.TextOk])
    ·refine RS.norm (by dsimp only [List.set]) ?_
     refine RS.skipB (b := false) 38 rfl rfl rfl rfl ?_
     refine RS.norm (by dsimp only [putL, List.set]) ?_
     refine RS.skipB (b := false) 38 rfl rfl rfl rfl ?_
     refine RS.norm (by dsimp only [putL, List.set]) ?_
     refine RS.skipB (b := false) 38 rfl rfl rfl rfl ?_
     refine RS.norm (by dsimp only [putL, List.set]) ?_
     refine RS.pick (v := .bool false) rfl rfl ?_
     refine RS.move (v := .bool _) rfl ?_
     refine RS.skipB (b := false) 43 rfl rfl rfl rfl ?_
     refine RS.norm (by dsimp only [putL, List.set]) ?_
     refine RS.skipB (b := false) 43 rfl rfl rfl rfl ?_
     refine RS.norm (by dsimp only [putL, List.set]) ?_
     refine RS.skipB (b := false) 43 rfl rfl rfl rfl ?_
     refine RS.norm (by dsimp only [putL, List.set]) ?_
     refine RS.skipB (b := false) 43 rfl rfl rfl rfl ?_
     refine RS.norm (by dsimp only [putL, List.set]) ?_
     refine RS.pick (v := .bool false) rfl rfl ?_
     refine RS.move (v := .bool _) rfl ?_
     refine RS.skipB (b := false) 49 rfl rfl rfl rfl ?_
     refine RS.norm (by dsimp only [putL, List.set]) ?_
     refine RS.skipB (b := false) 49 rfl rfl rfl rfl ?_
     refine RS.norm (by dsimp only [putL, List.set]) ?_
     refine RS.skipB (b := false) 49 rfl rfl rfl rfl ?_
     refine RS.norm (by dsimp only [putL, List.set]) ?_
     refine RS.pick (v := .bool false) rfl rfl ?_
     refine RS.nil ?_
     refine hK27 _ _ ?_
     try clear hK27
     refine C.iff rfl ?_
     refine wp_skip ?_
     refine hK3 _ _ ?_
     try clear hK3
     refine wp_seq_k (fun K37 hK37 => ?_)
     refine region ?_
     refine RS.assign (v := .int .i64 8) rfl ?_
     refine RS.nil ?_
     refine hK37 _ _ ?_
     try clear hK37
     refine wp_ret ?_
     refine ret (rs := [.tmp 2]) (vs := [.int _ _]) (v := (.int _ _)) rfl ⟨rfl, trivial⟩ rfl ?_
     refine ⟨_, rfl, hE, congrArg (Value.int .i64) ?_⟩
     first | (refine S.valE_pos ?_; grind [S.FineV, S.TextOk]) | (refine S.valE_neg ?_; grind [S.FineV, S.TextOk])
   ·refine wp_skip ?_
    refine hK3 _ _ ?_
    try clear hK3
    refine wp_seq_k (fun K38 hK38 => ?_)
    refine region ?_
    refine RS.assign (v := .int .i64 8) rfl ?_
    refine RS.nil ?_
    refine hK38 _ _ ?_
    try clear hK38
    refine wp_ret ?_
    refine ret (rs := [.tmp 2]) (vs := [.int _ _]) (v := (.int _ _)) rfl ⟨rfl, trivial⟩ rfl ?_
    refine ⟨_, rfl, hE, congrArg (Value.int .i64) ?_⟩
    first | (refine S.valE_pos ?_; grind [S.FineV, S.TextOk]) | (refine S.valE_neg ?_; grind [S.FineV, S.TextOk])
theorem encV (k num bits : Int) (t : ByteArray) (hk : 0 ≤ k ∧ k < 256) (hnum : -9223372036854775808 ≤ num ∧ num ≤ 9223372036854775807) (hb : 0 ≤ bits ∧ bits < 18446744073709551616) (hF : S.FineV k num bits t) (hs : t.size ≤ 1000) (w : World) :
  Calls Tryz.prog 92 #[.agg ([.int .u8 k, .int .i64 num, .int .u64 bits, .string t] : List Value).toArray] w (Ret w fun v w' => ∃ a' n' c', v = .tuple #[.slice a' n' c', .int .i64 0] ∧ IOwn w.heap.size w' 5 .u8 a' n' c' (S.valS k num bits t)) := by
 have hk3 : k = 1 ∨ k = 2 ∨ k = 3 := by rcases hF with h | h | h <;> simp [h.1]
 have hE := Ext.refl w
 refine enter (args := [.agg ([.int .u8 k, .int .i64 num, .int .u64 bits, .string t] : List Value).toArray]) (l := [.agg ([.int .u8 k, .int .i64 num, .int .u64 bits, .string t] : List Value).toArray, undef, undef, undef, undef, undef, undef, undef, undef, undef, undef, undef, undef, undef, undef, undef, undef, undef, undef, undef, undef, undef, undef, undef, undef, undef, undef, undef, undef, undef, undef, undef, undef, undef, undef, undef, undef, undef, undef, undef, undef, undef, undef, undef, undef, undef, undef, undef, undef, undef, undef, undef, undef]) Tryz.func92 rfl rfl ?_
 refine wp_seq_k (fun K1 hK1 => ?_)
 refine region ?_
 refine RS.box rfl rfl (fun b2 w2 e2 s2 x2 B2 => ?_)
 refine RS.norm (by dsimp only [List.set]) ?_
 replace hE := Ext.tr hE x2
 have zw2 := x2.size
 refine RS.assign (v := .slice none 0 0) rfl ?_
 refine RS.assign (v := .int .i64 0) rfl ?_
 refine RS.nil ?_
 refine hK1 _ _ ?_
 try clear hK1
 refine wp_seq_k (fun K3 hK3 => ?_)
 refine wp_seq_k (fun K4 hK4 => ?_)
 refine region ?_
 refine RS.o (D.loadAgg rfl Tryz.underlying27 rfl C27 (by decide) rfl (B2.cellsN 4 rfl)) ?_
 refine RS.call E78 (checkV _ _ _ _ hk hnum hb _) rfl (fun v5 w5 x5 A5 => ?_)
 replace hE := Ext.tr hE x5
 replace B2 := B2.ext x5
 have zw5 := x5.size
 subst A5
 rw [← S.valE_pos hF]
 refine RS.norm (by dsimp only [List.set]) ?_
 refine RS.assign (v := .int _ _) rfl ?_
 refine RS.nil ?_
 refine hK4 _ _ ?_
 try clear hK4
 refine wp_seq_k (fun K6 hK6 => ?_)
 refine region ?_
 refine RS.move (v := .int _ _) rfl ?_
 refine RS.o (D.ne rfl rfl) ?_
 refine RS.nil ?_
 refine hK6 _ _ ?_
 try clear hK6
 refine C.ifn rfl (fun c7 => ?_) (fun c7 => ?_)
 ·exact absurd rfl c7
 ·refine wp_skip ?_
  refine hK3 _ _ ?_
  try clear hK3
  refine wp_seq_k (fun K8 hK8 => ?_)
  refine region ?_
  refine RS.o (D.fieldL 0 rfl Tryz.underlying27 rfl C5 (by decide) rfl) ?_
  refine RS.o (D.load rfl Tryz.underlying5 rfl (B2.cell rfl)) ?_
  refine RS.buildSlice (xs := [.tmp 15]) (vs := [.int _ _]) (cs := [.int _ _]) Tryz.underlying22 T5 (by decide) rfl rfl rfl rfl rfl rfl (by intro v hv; simp only [List.mem_cons, List.not_mem_nil, or_false] at hv; subst hv; rfl) rfl (fun b9 w9 e9 s9 x9 B9 => ?_)
  refine RS.norm (by dsimp only [List.set]) ?_
  replace hE := Ext.tr hE x9
  replace B2 := B2.ext x9
  have zw9 := x9.size
  have O1 : IOwn w5.heap.size w9 5 .u8 (some ⟨b9, 0, none⟩) 1 1 [_] := IOwn.of_blk B9 rfl rfl (by omega) (.cons (by simp only [lim]; omega) (.nil _)) (by decide)
  refine RS.assign (v := .slice _ _ _) rfl ?_
  refine RS.nil ?_
  refine hK8 _ _ ?_
  try clear hK8
  refine wp_seq_k (fun K10 hK10 => ?_)
  refine wp_seq_k (fun K11 hK11 => ?_)
  refine region ?_
  refine RS.o (D.fieldL 0 rfl Tryz.underlying27 rfl C5 (by decide) rfl) ?_
  refine RS.o (D.load rfl Tryz.underlying5 rfl (B2.cell rfl)) ?_
  refine RS.nil ?_
  refine hK11 _ _ ?_
  try clear hK11
  refine wp_block ?_
  refine wp_seq_k (fun K12 hK12 => ?_)
  refine region ?_
  refine RS.o (D.eq rfl rfl) ?_
  refine RS.assign (v := .bool _) rfl ?_
  refine RS.nil ?_
  refine hK12 _ _ ?_
  try clear hK12
  refine C.ife rfl (fun c13 => ?_) (fun c13 => ?_)
  ·refine region ?_
   refine RS.move (v := .slice _ _ _) rfl ?_
   refine RS.o (D.fieldL 1 rfl Tryz.underlying27 rfl C2 (by decide) rfl) ?_
   refine RS.o (D.load rfl Tryz.underlying2 rfl (B2.cell rfl)) ?_
   refine RS.call E134 (signedW _ hnum _) rfl (fun v14 w14 x14 A14 => ?_)
   replace hE := Ext.tr hE x14
   replace B2 := B2.ext x14
   replace O1 := O1.ext x14
   have zw14 := x14.size
   obtain ⟨a14, n14, c14, rfl, O2⟩ := A14
   have hnl := O2.len
   have hnb := S.numS_len (S.zig num)
   refine RS.norm (by dsimp only [List.set]) ?_
   refine RS.appendI O1 O2.row rfl rfl Tryz.underlying22 T5 rfl (by omega) (by decide) (by omega) (fun a15 c15 w15 N15 x15 => ?_)
   refine RS.norm (by dsimp only [List.set]) ?_
   replace hE := hE.trans (x15.below (by intros; try (first | (intro _ _) | (intro _) | skip); first | omega | (have hq := O1.lo _ (by assumption); first | omega | (dsimp only at *; omega))) (by intros; try (first | (intro _ _) | (intro _) | skip); first | omega | (dsimp only at *; omega) | (simp_all; done) | (simp at *; omega)))
   replace B2 := B2.pr x15 (by intros; try (first | (intro _ _) | (intro _) | skip); first | omega | (have hq := O1.lo _ (by assumption); first | omega | (dsimp only at *; omega)))
   have zw15 := x15.size
   replace O1 := N15
   refine RS.assign (v := .slice _ _ _) rfl ?_
   refine RS.nil ?_
   refine hK10 _ _ ?_
   try clear hK10
   refine wp_seq_k (fun K16 hK16 => ?_)
   refine region ?_
   refine RS.move (v := .slice _ _ _) rfl ?_
   refine RS.assign (v := .slice _ _ _) rfl ?_
   refine RS.assign (v := .int .i64 0) rfl ?_
   refine RS.nil ?_
   refine hK16 _ _ ?_
   try clear hK16
   refine wp_ret ?_
   refine ret (rs := [.tmp 2, .tmp 3]) (vs := [.slice _ _ _, .int _ _]) (v := (.tuple #[.slice _ _ _, .int _ _])) rfl ⟨rfl, rfl, trivial⟩ rfl ?_
   have e9 : S.valS k num bits t = [k] ++ S.numS (S.zig num) := by unfold S.valS; rw [if_pos (by omega)]
   rw [e9]
   refine ⟨_, rfl, hE, _, _, _, rfl, O1.base (fun k hk => by have := O1.lo k hk; omega)⟩
  ·refine wp_seq_k (fun K17 hK17 => ?_)
   refine region ?_
   refine RS.o (D.eq rfl rfl) ?_
   refine RS.assign (v := .bool _) rfl ?_
   refine RS.nil ?_
   refine hK17 _ _ ?_
   try clear hK17
   refine C.ife rfl (fun c18 => ?_) (fun c18 => ?_)
   ·refine wp_seq_k (fun K19 hK19 => ?_)
    refine region ?_
    refine RS.assign (v := .int .i64 56) rfl ?_
    refine RS.nil ?_
    refine hK19 _ _ ?_
    try clear hK19
    refine wp_block ?_
    refine C.loop (A := Int × Option Addr × Nat × Nat) (fun p => [(5, .slice p.2.1 p.2.2.1 p.2.2.2), (6, .int .i64 p.1)]) [28, 29, 30, 31, 32, 33, 34, 35, 36, 37, 38, 39] (fun p w' => Pr (fun k => w5.heap.size ≤ k) w9 w' ∧ ((-8 ≤ p.1 ∧ p.1 ≤ 56) ∧ p.1 % 8 = 0 ∧ IOwn w5.heap.size w' 5 .u8 p.2.1 p.2.2.1 p.2.2.2 ([k] ++ (S.be8 bits).take ((56 - p.1) / 8).toNat))) (fun p => (p.1 + 8).toNat) (56, some ⟨b9, 0, none⟩, 1, 1) (by kernel_rfl) ?_ ?_
    ·exact ⟨Pr.refl _ _, ⟨by dsimp only; omega, by dsimp only; omega⟩, by dsimp only; omega, by simpa using O1⟩
    ·rintro p j w20 ⟨x20, hI⟩
     replace hE := hE.trans (x20.below (by intros; try (first | (intro _ _) | (intro _) | skip); first | omega | (dsimp only at *; omega) | (simp_all; done) | (simp at *; omega)) (by intros; try (first | (intro _ _) | (intro _) | skip); first | omega | (dsimp only at *; omega) | (simp_all; done) | (simp at *; omega)))
     replace B2 := B2.pr x20 (by intros; try (first | (intro _ _) | (intro _) | skip); first | omega | (dsimp only at *; omega) | (simp_all; done) | (simp at *; omega))
     have zw20 := x20.size
     obtain ⟨i, ao, no, co⟩ := p
     dsimp only at hI
     obtain ⟨h1, h2, O1⟩ := hI
     have hol := O1.len
     simp only [List.length_append, List.length_singleton, List.length_take, S.be8_len] at hol
     refine C.norm (by simp only [upd, junk, List.map_cons, List.map_nil, List.set_cons_succ, List.set_cons_zero]; exact rfl) ?_
     refine wp_seq_k (fun K21 hK21 => ?_)
     refine wp_seq_k (fun K22 hK22 => ?_)
     refine region ?_
     refine RS.move (v := .int _ _) rfl ?_
     refine RS.o (D.ge rfl rfl) ?_
     refine RS.nil ?_
     refine hK22 _ _ ?_
     try clear hK22
     refine C.ifd rfl (fun c23 => ?_) (fun c23 => ?_)
     ·refine wp_skip ?_
      refine hK21 _ _ ?_
      try clear hK21
      refine wp_seq_k (fun K24 hK24 => ?_)
      refine wp_block ?_
      refine region ?_
      refine RS.move (v := .slice _ _ _) rfl ?_
      refine RS.o (D.fieldL 2 rfl Tryz.underlying27 rfl C25 (by decide) rfl) ?_
      refine RS.o (D.load rfl Tryz.underlying25 rfl (B2.cell rfl)) ?_
      refine RS.move (v := .int _ _) rfl ?_
      refine RS.ob (D.shr_u64 rfl rfl (by omega) (by constructor <;> omega)) (fun z25 => ?_)
      refine RS.o (D.conv rfl Tryz.underlying25 Tryz.underlying5 (W.u8m _)) ?_
      refine RS.buildSlice (xs := [.tmp 37]) (vs := [.int _ _]) (cs := [.int _ _]) Tryz.underlying22 T5 (by decide) rfl rfl rfl rfl rfl rfl (by intro v hv; simp only [List.mem_cons, List.not_mem_nil, or_false] at hv; subst hv; rfl) rfl (fun b26 w26 e26 s26 x26 B26 => ?_)
      refine RS.norm (by dsimp only [List.set]) ?_
      replace hE := Ext.tr hE x26
      replace x20 := x20.ext x26
      replace B2 := B2.ext x26
      replace O1 := O1.ext x26
      have zw26 := x26.size
      have Q1 : IRow .u8 (fun k => k = b26) w26 (some ⟨b26, 0, none⟩) 1 [_] := IRow.of_blk B26 rfl rfl rfl (.cons (by simp only [lim]; omega) (.nil _))
      refine RS.appendI O1 Q1 rfl rfl Tryz.underlying22 T5 rfl (by omega) (by decide) (by omega) (fun a27 c27 w27 N27 x27 => ?_)
      refine RS.norm (by dsimp only [List.set]) ?_
      replace hE := hE.trans (x27.below (by intros; try (first | (intro _ _) | (intro _) | skip); first | omega | (have hq := O1.lo _ (by assumption); first | omega | (dsimp only at *; omega))) (by intros; try (first | (intro _ _) | (intro _) | skip); first | omega | (dsimp only at *; omega) | (simp_all; done) | (simp at *; omega)))
      replace x20 := x20.prn x27 (by intros; try (first | (intro _ _) | (intro _) | skip); first | omega | (have hq := O1.lo _ (by assumption); first | omega | (dsimp only at *; omega)))
      replace B2 := B2.pr x27 (by intros; try (first | (intro _ _) | (intro _) | skip); first | omega | (have hq := O1.lo _ (by assumption); first | omega | (dsimp only at *; omega)))
      have zw27 := x27.size
      replace O1 := N27
      refine RS.assign (v := .slice _ _ _) rfl ?_
      refine RS.nil ?_
      refine hK24 _ _ ?_
      try clear hK24
      refine region ?_
      refine RS.move (v := .int _ _) rfl ?_
      refine RS.o (D.sub rfl rfl (W.i64 (by omega))) ?_
      refine RS.assign (v := .int _ _) rfl ?_
      refine RS.nil ?_
      change Nx _ _ _ _ _ _ _ _
      refine C.next (i - 8, _, _, _) ⟨rfl, rfl, trivial⟩ (by kernel_rfl) ?_ ?_
      ·refine ⟨x20, ⟨by dsimp only; omega, by dsimp only; omega⟩, by dsimp only; omega, ?_⟩
       dsimp only
       rw [S.be8_snoc _ _ (by omega) h2, ← List.append_assoc]
       exact O1
      ·dsimp only; omega
     ·have hneg := c23
      rw [show i = -8 by omega, show ((56 - (-8 : Int)) / 8).toNat = 8 from rfl, List.take_of_length_le (by rw [S.be8_len]; exact Nat.le_refl _)] at O1
      refine wp_exit ?_
      refine hK10 _ _ ?_
      try clear hK10
      refine wp_seq_k (fun K28 hK28 => ?_)
      refine region ?_
      refine RS.move (v := .slice _ _ _) rfl ?_
      refine RS.assign (v := .slice _ _ _) rfl ?_
      refine RS.assign (v := .int .i64 0) rfl ?_
      refine RS.nil ?_
      refine hK28 _ _ ?_
      try clear hK28
      refine wp_ret ?_
      refine ret (rs := [.tmp 2, .tmp 3]) (vs := [.slice _ _ _, .int _ _]) (v := (.tuple #[.slice _ _ _, .int _ _])) rfl ⟨rfl, rfl, trivial⟩ rfl ?_
      have e9 : S.valS k num bits t = [k] ++ S.be8 bits := by unfold S.valS; rw [if_neg (by omega), if_pos (by omega)]
      rw [e9]
      refine ⟨_, rfl, hE, _, _, _, rfl, O1.base (fun k hk => by have := O1.lo k hk; omega)⟩
   ·refine wp_seq_k (fun K29 hK29 => ?_)
    refine region ?_
    refine RS.o (D.eq rfl rfl) ?_
    refine RS.assign (v := .bool _) rfl ?_
    refine RS.nil ?_
    refine hK29 _ _ ?_
    try clear hK29
    refine C.ife rfl (fun c30 => ?_) (fun c30 => ?_)
    ·refine wp_seq_k (fun K31 hK31 => ?_)
     refine region ?_
     refine RS.o (D.fieldL 3 rfl Tryz.underlying27 rfl C9 (by decide) rfl) ?_
     refine RS.o (D.load rfl Tryz.underlying9 rfl (B2.cell rfl)) ?_
     refine RS.convSB rfl Tryz.underlying9 Tryz.underlying22 Tryz.underlying5 (fun a32 c32 w32 x32 g32 s32 R32 => ?_)
     refine RS.norm (by dsimp only [List.set]) ?_
     replace hE := Ext.tr hE x32
     replace B2 := B2.ext x32
     replace O1 := O1.ext x32
     have zw32 := x32.size
     have RT := R32
     refine RS.call E91 (bytesW _ _ _ _ _ RT (by omega)) rfl (fun v33 w33 x33 A33 => ?_)
     replace hE := Ext.tr hE x33
     replace B2 := B2.ext x33
     replace O1 := O1.ext x33
     replace RT := RT.ext x33
     have zw33 := x33.size
     obtain ⟨a33, n33, c33, rfl, O2⟩ := A33
     have hnl := O2.len
     have hnb := S.numS_len (t.size : Int)
     rw [List.length_append, bys_len] at hnl
     refine RS.norm (by dsimp only [List.set]) ?_
     refine RS.move (v := .tuple _) rfl ?_
     refine RS.extract (v := .slice _ _ _) rfl rfl ?_
     refine RS.extract (v := .int _ _) rfl rfl ?_
     refine RS.assign (v := .slice _ _ _) rfl ?_
     refine RS.assign (v := .int _ _) rfl ?_
     refine RS.nil ?_
     refine hK31 _ _ ?_
     try clear hK31
     refine region ?_
     refine RS.move (v := .slice _ _ _) rfl ?_
     refine RS.move (v := .slice _ _ _) rfl ?_
     refine RS.appendI O1 O2.row rfl rfl Tryz.underlying22 T5 rfl (by omega) (by decide) (by omega) (fun a34 c34 w34 N34 x34 => ?_)
     refine RS.norm (by dsimp only [List.set]) ?_
     replace hE := hE.trans (x34.below (by intros; try (first | (intro _ _) | (intro _) | skip); first | omega | (have hq := O1.lo _ (by assumption); first | omega | (dsimp only at *; omega))) (by intros; try (first | (intro _ _) | (intro _) | skip); first | omega | (dsimp only at *; omega) | (simp_all; done) | (simp at *; omega)))
     replace B2 := B2.pr x34 (by intros; try (first | (intro _ _) | (intro _) | skip); first | omega | (have hq := O1.lo _ (by assumption); first | omega | (dsimp only at *; omega)))
     have zw34 := x34.size
     replace O1 := N34
     refine RS.assign (v := .slice _ _ _) rfl ?_
     refine RS.nil ?_
     refine hK10 _ _ ?_
     try clear hK10
     refine wp_seq_k (fun K35 hK35 => ?_)
     refine region ?_
     refine RS.move (v := .slice _ _ _) rfl ?_
     refine RS.assign (v := .slice _ _ _) rfl ?_
     refine RS.assign (v := .int .i64 0) rfl ?_
     refine RS.nil ?_
     refine hK35 _ _ ?_
     try clear hK35
     refine wp_ret ?_
     refine ret (rs := [.tmp 2, .tmp 3]) (vs := [.slice _ _ _, .int _ _]) (v := (.tuple #[.slice _ _ _, .int _ _])) rfl ⟨rfl, rfl, trivial⟩ rfl ?_
     have e9 : S.valS k num bits t = [k] ++ (S.numS t.size ++ bys t) := by unfold S.valS; rw [if_neg (by omega), if_neg (by omega), if_pos (by omega)]
     rw [e9]
     refine ⟨_, rfl, hE, _, _, _, rfl, O1.base (fun k hk => by have := O1.lo k hk; omega)⟩
    ·exfalso; omega
end Go.Proofs.YtiohpiiiapjblaaGreatDoor.W
