/-
  Part 6 of the lemmas of these laws: JudgeExact, JudgeParts.
-/
import Derived.Test.YtiohpiiiapjblaaDoorPJd5
namespace Go.Proofs.YtiohpiiiapjblaaDoor.W
open Go.RowKit Go.Proofs.YtiohpiiiapjblaaDoor.G
set_option linter.unusedVariables false
set_option maxRecDepth 20000
set_option maxHeartbeats 8000000
attribute [local irreducible] RS RX
theorem C26 : Tryd.prog.cellsOf 26 = 4 := by kernel_rfl
theorem T26 : TI Tryd.prog 26 4 40 [.int .u8 0, .int .i64 0, .int .u64 0, .string .empty] := by
 have h : (Tryd.prog.info? 26).map (fun i => (i.size, i.bytes, i.zero)) = some (4, 40, some (.agg #[.int .u8 0, .int .i64 0, .int .u64 0, .string .empty])) := by kernel_rfl
 exact TI.of h rfl
theorem F26 : SI Tryd.prog 26 [(0, 1), (1, 1), (2, 1), (3, 1)] := ⟨_, Tryd.underlying26, by kernel_rfl, by kernel_rfl⟩
theorem E88 : Enters Tryd.prog 88 := .mk Tryd.func88 (by kernel_rfl) rfl
theorem E89 : Enters Tryd.prog 89 := .mk Tryd.func89 (by kernel_rfl) rfl
theorem E121 : Enters Tryd.prog 121 := .mk Tryd.func121 (by kernel_rfl) rfl
theorem E122 : Enters Tryd.prog 122 := .mk Tryd.func122 (by kernel_rfl) rfl
theorem E123 : Enters Tryd.prog 123 := .mk Tryd.func123 (by kernel_rfl) rfl
theorem E132 : Enters Tryd.prog 132 := .mk Tryd.func132 (by kernel_rfl) rfl
theorem E139 : Enters Tryd.prog 139 := .mk Tryd.func139 (by kernel_rfl) rfl
theorem rune33 (r : Int) (w : World) :
  Calls Tryd.prog 89 #[.int .i32 r] w (Ret w fun v _ => v = .bool (decide (r < 33 ∨ 126 < r))) := by
 have hE := Ext.refl w
 refine enter (args := [.int .i32 r]) (l := [.int .i32 r, undef, undef, undef, undef, undef, undef, undef, undef]) Tryd.func89 rfl rfl ?_
 refine wp_seq_k (fun K1 hK1 => ?_)
 refine region ?_
 refine RS.assign (v := .bool false) rfl ?_
 refine RS.nil ?_
 refine hK1 _ _ ?_
 try clear hK1
 refine wp_seq_k (fun K2 hK2 => ?_)
 refine region ?_
 refine RS.move (v := .int _ _) rfl ?_
 refine RS.o (D.lt rfl rfl) ?_
 refine RS.move (v := .bool _) rfl ?_
 refine RS.splitd 5 rfl rfl (fun c3 => ?_) (fun c3 => ?_)
 ·refine RS.norm (by dsimp only [List.set]) ?_
  refine RS.skipB (b := true) 5 rfl rfl rfl rfl ?_
  refine RS.norm (by dsimp only [putL, List.set]) ?_
  refine RS.skipB (b := true) 5 rfl rfl rfl rfl ?_
  refine RS.norm (by dsimp only [putL, List.set]) ?_
  refine RS.pick (v := .bool true) rfl rfl ?_
  refine RS.assign (v := .bool _) rfl ?_
  refine RS.nil ?_
  refine hK2 _ _ ?_
  try clear hK2
  refine wp_ret ?_
  refine ret (rs := [.tmp 2]) (vs := [.bool _]) (v := (.bool _)) rfl ⟨rfl, trivial⟩ rfl ?_
  refine ⟨_, rfl, hE, congrArg Value.bool (decide_eq_true ?_).symm⟩
  omega
 ·refine RS.norm (by dsimp only [List.set]) ?_
  refine RS.wantB 5 rfl rfl rfl ?_
  refine RS.move (v := .int _ _) rfl ?_
  refine RS.wantB 5 rfl rfl rfl ?_
  refine RS.o (D.gt rfl rfl) ?_
  refine RS.pick (v := .bool _) rfl rfl ?_
  refine RS.assign (v := .bool _) rfl ?_
  refine RS.nil ?_
  refine hK2 _ _ ?_
  try clear hK2
  refine wp_ret ?_
  refine ret (rs := [.tmp 2]) (vs := [.bool _]) (v := (.bool _)) rfl ⟨rfl, trivial⟩ rfl ?_
  refine ⟨_, rfl, hE, congrArg Value.bool (decide_eq_decide.2 ?_)⟩
  omega
theorem index33 (s : ByteArray) (w : World) :
  Calls Tryd.prog 121 #[.string s, .func (.func 89) #[] #[], .bool true] w (Ret w fun v _ => ∃ j, v = .int .i64 j ∧ (j < 0 ↔ S.Asc 33 s)) := by
 have hE := Ext.refl w
 refine enter (args := [.string s, .func (.func 89) #[] #[], .bool true]) (l := [.string s, .func (.func 89) #[] #[], .bool true, undef, undef, undef, undef, undef, undef, undef, undef, undef, undef, undef, undef, undef, undef, undef, undef, undef, undef]) Tryd.func121 rfl rfl ?_
 refine wp_seq_k (fun K1 hK1 => ?_)
 refine region ?_
 refine RS.assign (v := .int .i64 0) rfl ?_
 refine RS.nil ?_
 refine hK1 _ _ ?_
 try clear hK1
 refine wp_seq_k (fun K2 hK2 => ?_)
 refine wp_seq_k (fun K3 hK3 => ?_)
 refine region ?_
 refine RS.move (v := .string _) rfl ?_
 refine RS.range rfl Tryd.underlying9 (fun b4 w4 e4 s4 x4 I4 => ?_)
 refine RS.norm (by dsimp only [List.set]) ?_
 replace hE := Ext.tr hE x4
 have zw4 := x4.size
 refine RS.nil ?_
 refine hK3 _ _ ?_
 try clear hK3
 refine wp_block ?_
 refine C.loop (A := Int) (fun p => []) [6, 7, 8, 11, 12, 13, 14, 15, 16, 17, 18, 19, 20] (fun p w' => Pr (fun k => k = b4) w4 w' ∧ ((0 ≤ p ∧ p ≤ s.size) ∧ It w' b4 s p.toNat ∧ (∀ j, j < p.toNat → 33 ≤ (bys s).getD j 0 ∧ (bys s).getD j 0 ≤ 126))) (fun p => (s.size - p.toNat)) 0 (by kernel_rfl) ?_ ?_
 ·exact ⟨Pr.refl _ _, ⟨by omega, by omega⟩, I4, fun j hj => by omega⟩
 ·rintro p j w5 ⟨x5, hI⟩
  replace hE := hE.trans (x5.below (by intros; try (first | (intro _ _) | (intro _) | skip); first | omega | (dsimp only at *; omega) | (simp_all; done) | (simp at *; omega)) (by intros; try (first | (intro _ _) | (intro _) | skip); first | omega | (dsimp only at *; omega) | (simp_all; done) | (simp at *; omega)))
  have zw5 := x5.size
  obtain ⟨h1, I4, h2⟩ := hI
  have hdc := S.dec_case s p.toNat
  refine C.norm (by simp only [upd, junk, List.map_cons, List.map_nil, List.set_cons_succ, List.set_cons_zero]; exact rfl) ?_
  refine wp_seq_k (fun K6 hK6 => ?_)
  refine region ?_
  refine RS.next I4 rfl (fun c7 w7 y7 N7 => ?_) (fun c7 => ?_)
  ·refine RS.norm (by dsimp only [List.set]) ?_
   replace hE := hE.trans (y7.below (by intros; try (first | (intro _ _) | (intro _) | skip); first | omega | (dsimp only at *; omega) | (simp_all; done) | (simp at *; omega)))
   replace x5 := x5.stn y7 (by intros; try (first | (intro _ _) | (intro _) | skip); first | omega | (dsimp only at *; omega) | (simp_all; done) | (simp at *; omega))
   have zw7 := y7.size
   replace I4 := N7
   have hp := c7
   refine RS.extract (v := .bool true) rfl rfl ?_
   refine RS.nil ?_
   refine hK6 _ _ ?_
   try clear hK6
   refine wp_seq_k (fun K8 hK8 => ?_)
   refine C.ift rfl ?_
   refine wp_skip ?_
   refine hK8 _ _ ?_
   try clear hK8
   refine wp_block ?_
   refine wp_seq_k (fun K9 hK9 => ?_)
   refine region ?_
   refine RS.extract (v := .int _ _) rfl rfl ?_
   refine RS.extract (v := .int _ _) rfl rfl ?_
   refine RS.assign (v := .int _ _) rfl ?_
   refine RS.assign (v := .int _ _) rfl ?_
   refine RS.nil ?_
   refine hK9 _ _ ?_
   try clear hK9
   refine wp_seq_k (fun K10 hK10 => ?_)
   refine region ?_
   refine RS.move (v := .func _ _ _) rfl ?_
   refine RS.move (v := .int _ _) rfl ?_
   refine RS.callv E89 (rune33 _ _) rfl rfl (fun e11 w11 A11 => ?_)
   obtain ⟨v11, rfl, x11, A11⟩ := A11
   refine ⟨_, rfl, ?_⟩
   replace hE := Ext.tr hE x11
   replace x5 := x5.ext x11
   replace I4 := I4.ext x11
   have zw11 := x11.size
   subst A11
   refine RS.norm (by dsimp only [List.set]) ?_
   refine RS.move (v := .bool _) rfl ?_
   refine RS.o (D.eqB rfl rfl Tryd.underlying4) ?_
   refine RS.nil ?_
   refine hK10 _ _ ?_
   try clear hK10
   refine C.ifb rfl (fun c12 => ?_) (fun c12 => ?_)
   ·have hf := c12
    refine wp_seq_k (fun K13 hK13 => ?_)
    refine region ?_
    refine RS.move (v := .int _ _) rfl ?_
    refine RS.assign (v := .int _ _) rfl ?_
    refine RS.nil ?_
    refine hK13 _ _ ?_
    try clear hK13
    refine wp_ret ?_
    refine ret (rs := [.tmp 6]) (vs := [.int _ _]) (v := (.int _ _)) rfl ⟨rfl, trivial⟩ rfl ?_
    have hd := hdc hp
    rw [beq_true] at hf
    have hf2 := of_decide_eq_true hf
    refine ⟨_, rfl, hE, _, rfl, ⟨fun h => by omega, fun h => ?_⟩⟩
    have := h p.toNat hp
    omega
   ·have hf := c12
    refine wp_skip ?_
    change Nx _ _ _ _ _ _ _ _
    refine C.next (p + 1) trivial (by kernel_rfl) ?_ ?_
    ·have hd := hdc hp
     rw [beq_true] at hf
     have hf2 := of_decide_eq_false hf
     have hw : (Utf8.decode s p.toNat).2 = 1 := by omega
     rw [hw] at I4
     refine ⟨x5, ⟨by omega, by omega⟩, ?_, fun j hj => ?_⟩
     ·rw [show (p + 1).toNat = p.toNat + 1 by omega]; exact I4
     ·by_cases hjp : j < p.toNat
      ·exact h2 j hjp
      ·obtain rfl : j = p.toNat := by omega
       omega
    ·omega
  ·refine RS.norm (by dsimp only [List.set]) ?_
   have hp := c7
   refine RS.extract (v := .bool false) rfl rfl ?_
   refine RS.nil ?_
   refine hK6 _ _ ?_
   try clear hK6
   refine wp_seq_k (fun K14 hK14 => ?_)
   refine C.iff rfl ?_
   refine wp_exit ?_
   refine hK2 _ _ ?_
   try clear hK2
   refine wp_seq_k (fun K15 hK15 => ?_)
   refine region ?_
   refine RS.assign (v := .int .i64 (-1)) rfl ?_
   refine RS.nil ?_
   refine hK15 _ _ ?_
   try clear hK15
   refine wp_ret ?_
   refine ret (rs := [.tmp 6]) (vs := [.int _ _]) (v := (.int _ _)) rfl ⟨rfl, trivial⟩ rfl ?_
   refine ⟨_, rfl, hE, _, rfl, ⟨fun _ j hj => h2 j (by omega), fun _ => by decide⟩⟩
theorem Index33 (s : ByteArray) (w : World) :
  Calls Tryd.prog 88 #[.string s, .func (.func 89) #[] #[]] w (Ret w fun v _ => ∃ j, v = .int .i64 j ∧ (j < 0 ↔ S.Asc 33 s)) := by
 have hE := Ext.refl w
 refine enter (args := [.string s, .func (.func 89) #[] #[]]) (l := [.string s, .func (.func 89) #[] #[], undef, undef, undef, undef, undef, undef]) Tryd.func88 rfl rfl ?_
 refine wp_seq_k (fun K1 hK1 => ?_)
 refine region ?_
 refine RS.assign (v := .int .i64 0) rfl ?_
 refine RS.nil ?_
 refine hK1 _ _ ?_
 try clear hK1
 refine wp_seq_k (fun K2 hK2 => ?_)
 refine region ?_
 refine RS.move (v := .string _) rfl ?_
 refine RS.move (v := .func _ _ _) rfl ?_
 refine RS.call E121 (index33 _ _) rfl (fun v3 w3 x3 A3 => ?_)
 replace hE := Ext.tr hE x3
 have zw3 := x3.size
 obtain ⟨j, rfl, hj⟩ := A3
 refine RS.norm (by dsimp only [List.set]) ?_
 refine RS.assign (v := .int _ _) rfl ?_
 refine RS.nil ?_
 refine hK2 _ _ ?_
 try clear hK2
 refine wp_ret ?_
 refine ret (rs := [.tmp 4]) (vs := [.int _ _]) (v := (.int _ _)) rfl ⟨rfl, trivial⟩ rfl ?_
 exact ⟨_, rfl, hE, _, rfl, hj⟩
theorem rune32 (r : Int) (w : World) :
  Calls Tryd.prog 123 #[.int .i32 r] w (Ret w fun v _ => v = .bool (decide (r < 32 ∨ 126 < r))) := by
 have hE := Ext.refl w
 refine enter (args := [.int .i32 r]) (l := [.int .i32 r, undef, undef, undef, undef, undef, undef, undef, undef]) Tryd.func123 rfl rfl ?_
 refine wp_seq_k (fun K1 hK1 => ?_)
 refine region ?_
 refine RS.assign (v := .bool false) rfl ?_
 refine RS.nil ?_
 refine hK1 _ _ ?_
 try clear hK1
 refine wp_seq_k (fun K2 hK2 => ?_)
 refine region ?_
 refine RS.move (v := .int _ _) rfl ?_
 refine RS.o (D.lt rfl rfl) ?_
 refine RS.move (v := .bool _) rfl ?_
 refine RS.splitd 5 rfl rfl (fun c3 => ?_) (fun c3 => ?_)
 ·refine RS.norm (by dsimp only [List.set]) ?_
  refine RS.skipB (b := true) 5 rfl rfl rfl rfl ?_
  refine RS.norm (by dsimp only [putL, List.set]) ?_
  refine RS.skipB (b := true) 5 rfl rfl rfl rfl ?_
  refine RS.norm (by dsimp only [putL, List.set]) ?_
  refine RS.pick (v := .bool true) rfl rfl ?_
  refine RS.assign (v := .bool _) rfl ?_
  refine RS.nil ?_
  refine hK2 _ _ ?_
  try clear hK2
  refine wp_ret ?_
  refine ret (rs := [.tmp 2]) (vs := [.bool _]) (v := (.bool _)) rfl ⟨rfl, trivial⟩ rfl ?_
  refine ⟨_, rfl, hE, congrArg Value.bool (decide_eq_true ?_).symm⟩
  omega
 ·refine RS.norm (by dsimp only [List.set]) ?_
  refine RS.wantB 5 rfl rfl rfl ?_
  refine RS.move (v := .int _ _) rfl ?_
  refine RS.wantB 5 rfl rfl rfl ?_
  refine RS.o (D.gt rfl rfl) ?_
  refine RS.pick (v := .bool _) rfl rfl ?_
  refine RS.assign (v := .bool _) rfl ?_
  refine RS.nil ?_
  refine hK2 _ _ ?_
  try clear hK2
  refine wp_ret ?_
  refine ret (rs := [.tmp 2]) (vs := [.bool _]) (v := (.bool _)) rfl ⟨rfl, trivial⟩ rfl ?_
  refine ⟨_, rfl, hE, congrArg Value.bool (decide_eq_decide.2 ?_)⟩
  omega
theorem index32 (s : ByteArray) (w : World) :
  Calls Tryd.prog 121 #[.string s, .func (.func 123) #[] #[], .bool true] w (Ret w fun v _ => ∃ j, v = .int .i64 j ∧ (j < 0 ↔ S.Asc 32 s)) := by
 have hE := Ext.refl w
 refine enter (args := [.string s, .func (.func 123) #[] #[], .bool true]) (l := [.string s, .func (.func 123) #[] #[], .bool true, undef, undef, undef, undef, undef, undef, undef, undef, undef, undef, undef, undef, undef, undef, undef, undef, undef, undef]) Tryd.func121 rfl rfl ?_
 refine wp_seq_k (fun K1 hK1 => ?_)
 refine region ?_
 refine RS.assign (v := .int .i64 0) rfl ?_
 refine RS.nil ?_
 refine hK1 _ _ ?_
 try clear hK1
 refine wp_seq_k (fun K2 hK2 => ?_)
 refine wp_seq_k (fun K3 hK3 => ?_)
 refine region ?_
 refine RS.move (v := .string _) rfl ?_
 refine RS.range rfl Tryd.underlying9 (fun b4 w4 e4 s4 x4 I4 => ?_)
 refine RS.norm (by dsimp only [List.set]) ?_
 replace hE := Ext.tr hE x4
 have zw4 := x4.size
 refine RS.nil ?_
 refine hK3 _ _ ?_
 try clear hK3
 refine wp_block ?_
 refine C.loop (A := Int) (fun p => []) [6, 7, 8, 11, 12, 13, 14, 15, 16, 17, 18, 19, 20] (fun p w' => Pr (fun k => k = b4) w4 w' ∧ ((0 ≤ p ∧ p ≤ s.size) ∧ It w' b4 s p.toNat ∧ (∀ j, j < p.toNat → 32 ≤ (bys s).getD j 0 ∧ (bys s).getD j 0 ≤ 126))) (fun p => (s.size - p.toNat)) 0 (by kernel_rfl) ?_ ?_
 ·exact ⟨Pr.refl _ _, ⟨by omega, by omega⟩, I4, fun j hj => by omega⟩
 ·rintro p j w5 ⟨x5, hI⟩
  replace hE := hE.trans (x5.below (by intros; try (first | (intro _ _) | (intro _) | skip); first | omega | (dsimp only at *; omega) | (simp_all; done) | (simp at *; omega)) (by intros; try (first | (intro _ _) | (intro _) | skip); first | omega | (dsimp only at *; omega) | (simp_all; done) | (simp at *; omega)))
  have zw5 := x5.size
  obtain ⟨h1, I4, h2⟩ := hI
  have hdc := S.dec_case s p.toNat
  refine C.norm (by simp only [upd, junk, List.map_cons, List.map_nil, List.set_cons_succ, List.set_cons_zero]; exact rfl) ?_
  refine wp_seq_k (fun K6 hK6 => ?_)
  refine region ?_
  refine RS.next I4 rfl (fun c7 w7 y7 N7 => ?_) (fun c7 => ?_)
  ·refine RS.norm (by dsimp only [List.set]) ?_
   replace hE := hE.trans (y7.below (by intros; try (first | (intro _ _) | (intro _) | skip); first | omega | (dsimp only at *; omega) | (simp_all; done) | (simp at *; omega)))
   replace x5 := x5.stn y7 (by intros; try (first | (intro _ _) | (intro _) | skip); first | omega | (dsimp only at *; omega) | (simp_all; done) | (simp at *; omega))
   have zw7 := y7.size
   replace I4 := N7
   have hp := c7
   refine RS.extract (v := .bool true) rfl rfl ?_
   refine RS.nil ?_
   refine hK6 _ _ ?_
   try clear hK6
   refine wp_seq_k (fun K8 hK8 => ?_)
   refine C.ift rfl ?_
   refine wp_skip ?_
   refine hK8 _ _ ?_
   try clear hK8
   refine wp_block ?_
   refine wp_seq_k (fun K9 hK9 => ?_)
   refine region ?_
   refine RS.extract (v := .int _ _) rfl rfl ?_
   refine RS.extract (v := .int _ _) rfl rfl ?_
   refine RS.assign (v := .int _ _) rfl ?_
   refine RS.assign (v := .int _ _) rfl ?_
   refine RS.nil ?_
   refine hK9 _ _ ?_
   try clear hK9
   refine wp_seq_k (fun K10 hK10 => ?_)
   refine region ?_
   refine RS.move (v := .func _ _ _) rfl ?_
   refine RS.move (v := .int _ _) rfl ?_
   refine RS.callv E123 (rune32 _ _) rfl rfl (fun e11 w11 A11 => ?_)
   obtain ⟨v11, rfl, x11, A11⟩ := A11
   refine ⟨_, rfl, ?_⟩
   replace hE := Ext.tr hE x11
   replace x5 := x5.ext x11
   replace I4 := I4.ext x11
   have zw11 := x11.size
   subst A11
   refine RS.norm (by dsimp only [List.set]) ?_
   refine RS.move (v := .bool _) rfl ?_
   refine RS.o (D.eqB rfl rfl Tryd.underlying4) ?_
   refine RS.nil ?_
   refine hK10 _ _ ?_
   try clear hK10
   refine C.ifb rfl (fun c12 => ?_) (fun c12 => ?_)
   ·have hf := c12
    refine wp_seq_k (fun K13 hK13 => ?_)
    refine region ?_
    refine RS.move (v := .int _ _) rfl ?_
    refine RS.assign (v := .int _ _) rfl ?_
    refine RS.nil ?_
    refine hK13 _ _ ?_
    try clear hK13
    refine wp_ret ?_
    refine ret (rs := [.tmp 6]) (vs := [.int _ _]) (v := (.int _ _)) rfl ⟨rfl, trivial⟩ rfl ?_
    have hd := hdc hp
    rw [beq_true] at hf
    have hf2 := of_decide_eq_true hf
    refine ⟨_, rfl, hE, _, rfl, ⟨fun h => by omega, fun h => ?_⟩⟩
    have := h p.toNat hp
    omega
   ·have hf := c12
    refine wp_skip ?_
    change Nx _ _ _ _ _ _ _ _
    refine C.next (p + 1) trivial (by kernel_rfl) ?_ ?_
    ·have hd := hdc hp
     rw [beq_true] at hf
     have hf2 := of_decide_eq_false hf
     have hw : (Utf8.decode s p.toNat).2 = 1 := by omega
     rw [hw] at I4
     refine ⟨x5, ⟨by omega, by omega⟩, ?_, fun j hj => ?_⟩
     ·rw [show (p + 1).toNat = p.toNat + 1 by omega]; exact I4
     ·by_cases hjp : j < p.toNat
      ·exact h2 j hjp
      ·obtain rfl : j = p.toNat := by omega
       omega
    ·omega
  ·refine RS.norm (by dsimp only [List.set]) ?_
   have hp := c7
   refine RS.extract (v := .bool false) rfl rfl ?_
   refine RS.nil ?_
   refine hK6 _ _ ?_
   try clear hK6
   refine wp_seq_k (fun K14 hK14 => ?_)
   refine C.iff rfl ?_
   refine wp_exit ?_
   refine hK2 _ _ ?_
   try clear hK2
   refine wp_seq_k (fun K15 hK15 => ?_)
   refine region ?_
   refine RS.assign (v := .int .i64 (-1)) rfl ?_
   refine RS.nil ?_
   refine hK15 _ _ ?_
   try clear hK15
   refine wp_ret ?_
   refine ret (rs := [.tmp 6]) (vs := [.int _ _]) (v := (.int _ _)) rfl ⟨rfl, trivial⟩ rfl ?_
   refine ⟨_, rfl, hE, _, rfl, ⟨fun _ j hj => h2 j (by omega), fun _ => by decide⟩⟩
theorem Index32 (s : ByteArray) (w : World) :
  Calls Tryd.prog 88 #[.string s, .func (.func 123) #[] #[]] w (Ret w fun v _ => ∃ j, v = .int .i64 j ∧ (j < 0 ↔ S.Asc 32 s)) := by
 have hE := Ext.refl w
 refine enter (args := [.string s, .func (.func 123) #[] #[]]) (l := [.string s, .func (.func 123) #[] #[], undef, undef, undef, undef, undef, undef]) Tryd.func88 rfl rfl ?_
 refine wp_seq_k (fun K1 hK1 => ?_)
 refine region ?_
 refine RS.assign (v := .int .i64 0) rfl ?_
 refine RS.nil ?_
 refine hK1 _ _ ?_
 try clear hK1
 refine wp_seq_k (fun K2 hK2 => ?_)
 refine region ?_
 refine RS.move (v := .string _) rfl ?_
 refine RS.move (v := .func _ _ _) rfl ?_
 refine RS.call E121 (index32 _ _) rfl (fun v3 w3 x3 A3 => ?_)
 replace hE := Ext.tr hE x3
 have zw3 := x3.size
 obtain ⟨j, rfl, hj⟩ := A3
 refine RS.norm (by dsimp only [List.set]) ?_
 refine RS.assign (v := .int _ _) rfl ?_
 refine RS.nil ?_
 refine hK2 _ _ ?_
 try clear hK2
 refine wp_ret ?_
 refine ret (rs := [.tmp 4]) (vs := [.int _ _]) (v := (.int _ _)) rfl ⟨rfl, trivial⟩ rfl ?_
 exact ⟨_, rfl, hE, _, rfl, hj⟩
theorem key (s : ByteArray) (w : World) :
  Calls Tryd.prog 51 #[.string s] w (Ret w fun v _ => v = .bool (decide (S.KeyOk s))) := by
 have hE := Ext.refl w
 refine enter (args := [.string s]) (l := [.string s, undef, undef, undef, undef, undef, undef, undef, undef, undef, undef, undef, undef, undef, undef, undef]) Tryd.func51 rfl rfl ?_
 refine wp_seq_k (fun K1 hK1 => ?_)
 refine region ?_
 refine RS.assign (v := .bool false) rfl ?_
 refine RS.nil ?_
 refine hK1 _ _ ?_
 try clear hK1
 refine wp_seq_k (fun K2 hK2 => ?_)
 refine region ?_
 refine RS.move (v := .string _) rfl ?_
 refine RS.o (D.lenStr rfl Tryd.underlying9) ?_
 refine RS.o (D.ge rfl rfl) ?_
 refine RS.move (v := .bool _) rfl ?_
 refine RS.splitd 6 rfl rfl (fun c3 => ?_) (fun c3 => ?_)
 ·refine RS.norm (by dsimp only [List.set]) ?_
  have h1 := c3
  refine RS.wantB 6 rfl rfl rfl ?_
  refine RS.move (v := .string _) rfl ?_
  refine RS.wantB 6 rfl rfl rfl ?_
  refine RS.o (D.lenStr rfl Tryd.underlying9) ?_
  refine RS.wantB 6 rfl rfl rfl ?_
  refine RS.o (D.le rfl rfl) ?_
  refine RS.pick (v := .bool _) rfl rfl ?_
  refine RS.move (v := .bool _) rfl ?_
  refine RS.splitd 11 rfl rfl (fun c4 => ?_) (fun c4 => ?_)
  ·refine RS.norm (by dsimp only [List.set]) ?_
   have h2 := c4
   refine RS.wantB 11 rfl rfl rfl ?_
   refine RS.move (v := .string _) rfl ?_
   refine RS.wantB 11 rfl rfl rfl ?_
   refine RS.call E88 (Index33 _ _) rfl (fun v5 w5 x5 A5 => ?_)
   replace hE := Ext.tr hE x5
   have zw5 := x5.size
   obtain ⟨j, rfl, hj⟩ := A5
   refine RS.norm (by dsimp only [List.set]) ?_
   refine RS.wantB 11 rfl rfl rfl ?_
   refine RS.o (D.lt rfl rfl) ?_
   refine RS.pick (v := .bool _) rfl rfl ?_
   refine RS.assign (v := .bool _) rfl ?_
   refine RS.nil ?_
   refine hK2 _ _ ?_
   try clear hK2
   refine wp_ret ?_
   refine ret (rs := [.tmp 2]) (vs := [.bool _]) (v := (.bool _)) rfl ⟨rfl, trivial⟩ rfl ?_
   refine ⟨_, rfl, hE, congrArg Value.bool (decide_eq_decide.2 ?_)⟩
   unfold S.KeyOk
   rw [hj]
   exact ⟨fun h => ⟨by omega, by omega, h⟩, fun h => h.2.2⟩
  ·refine RS.norm (by dsimp only [List.set]) ?_
   have h2 := c4
   refine RS.skipB (b := false) 11 rfl rfl rfl rfl ?_
   refine RS.norm (by dsimp only [putL, List.set]) ?_
   refine RS.skipB (b := false) 11 rfl rfl rfl rfl ?_
   refine RS.norm (by dsimp only [putL, List.set]) ?_
   refine RS.skipB (b := false) 11 rfl rfl rfl rfl ?_
   refine RS.norm (by dsimp only [putL, List.set]) ?_
   refine RS.pick (v := .bool false) rfl rfl ?_
   refine RS.assign (v := .bool _) rfl ?_
   refine RS.nil ?_
   refine hK2 _ _ ?_
   try clear hK2
   refine wp_ret ?_
   refine ret (rs := [.tmp 2]) (vs := [.bool _]) (v := (.bool _)) rfl ⟨rfl, trivial⟩ rfl ?_
   refine ⟨_, rfl, hE, congrArg Value.bool (decide_eq_false ?_).symm⟩
   intro h
   have := h.2.1
   omega
 ·refine RS.norm (by dsimp only [List.set]) ?_
  have h1 := c3
  refine RS.skipB (b := false) 6 rfl rfl rfl rfl ?_
  refine RS.norm (by dsimp only [putL, List.set]) ?_
  refine RS.skipB (b := false) 6 rfl rfl rfl rfl ?_
  refine RS.norm (by dsimp only [putL, List.set]) ?_
  refine RS.skipB (b := false) 6 rfl rfl rfl rfl ?_
  refine RS.norm (by dsimp only [putL, List.set]) ?_
  refine RS.pick (v := .bool false) rfl rfl ?_
  refine RS.move (v := .bool _) rfl ?_
  refine RS.skipB (b := false) 11 rfl rfl rfl rfl ?_
  refine RS.norm (by dsimp only [putL, List.set]) ?_
  refine RS.skipB (b := false) 11 rfl rfl rfl rfl ?_
  refine RS.norm (by dsimp only [putL, List.set]) ?_
  refine RS.skipB (b := false) 11 rfl rfl rfl rfl ?_
  refine RS.norm (by dsimp only [putL, List.set]) ?_
  refine RS.pick (v := .bool false) rfl rfl ?_
  refine RS.assign (v := .bool _) rfl ?_
  refine RS.nil ?_
  refine hK2 _ _ ?_
  try clear hK2
  refine wp_ret ?_
  refine ret (rs := [.tmp 2]) (vs := [.bool _]) (v := (.bool _)) rfl ⟨rfl, trivial⟩ rfl ?_
  refine ⟨_, rfl, hE, congrArg Value.bool (decide_eq_false ?_).symm⟩
  intro h
  have := h.1
  omega
theorem splitV (b : Int) (hb : 0 ≤ b ∧ b < 18446744073709551616) (w : World) :
  Calls Tryd.prog 139 #[.int .u64 b] w (Ret w fun v _ => v = .tuple #[.int .i64 (b / 4503599627370496 % 2048), .int .u64 (b % 4503599627370496)]) := by
 have e52 : (2 : Int) ^ (52 : Int).toNat = 4503599627370496 := by decide
 have hE := Ext.refl w
 refine enter (args := [.int .u64 b]) (l := [.int .u64 b, undef, undef, undef, undef, undef, undef, undef, undef, undef]) Tryd.func139 rfl rfl ?_
 refine wp_seq_k (fun K1 hK1 => ?_)
 refine region ?_
 refine RS.assign (v := .int .i64 0) rfl ?_
 refine RS.assign (v := .int .u64 0) rfl ?_
 refine RS.nil ?_
 refine hK1 _ _ ?_
 try clear hK1
 refine wp_seq_k (fun K2 hK2 => ?_)
 refine region ?_
 refine RS.move (v := .int _ _) rfl ?_
 refine RS.ob (D.shr_u64 rfl rfl (by omega) (by constructor <;> omega)) (fun z3 => ?_)
 refine RS.o (D.conv rfl Tryd.underlying24 Tryd.underlying3 (W.i64 (by rw [e52]; omega))) ?_
 refine RS.o (D.sand rfl rfl) ?_
 refine RS.move (v := .int _ _) rfl ?_
 refine RS.ob (D.band_u64 rfl rfl (by omega) (by omega)) (fun z4 => ?_)
 refine RS.assign (v := .int _ _) rfl ?_
 refine RS.assign (v := .int _ _) rfl ?_
 refine RS.nil ?_
 refine hK2 _ _ ?_
 try clear hK2
 refine wp_ret ?_
 refine ret (rs := [.tmp 2, .tmp 3]) (vs := [.int _ _, .int _ _]) (v := (.tuple #[.int _ _, .int _ _])) rfl ⟨rfl, rfl, trivial⟩ rfl ?_
 refine ⟨_, rfl, hE, ?_⟩
 rw [e52, S.sand_2047 _ (by omega), S.iand_full _ (by omega)]
theorem classV (b : Int) (hb : 0 ≤ b ∧ b < 18446744073709551616) (w : World) :
  Calls Tryd.prog 132 #[.int .u64 b] w (Ret w fun v _ => v = .int .u8 (S.clsS b)) := by
 have hE := Ext.refl w
 refine enter (args := [.int .u64 b]) (l := [.int .u64 b, undef, undef, undef, undef, undef, undef, undef, undef, undef, undef, undef, undef, undef, undef, undef, undef, undef, undef, undef, undef, undef, undef, undef, undef, undef]) Tryd.func132 rfl rfl ?_
 refine wp_seq_k (fun K1 hK1 => ?_)
 refine region ?_
 refine RS.assign (v := .int .u8 0) rfl ?_
 refine RS.nil ?_
 refine hK1 _ _ ?_
 try clear hK1
 refine wp_seq_k (fun K2 hK2 => ?_)
 refine region ?_
 refine RS.move (v := .int _ _) rfl ?_
 refine RS.call E139 (splitV _ (by omega) _) rfl (fun v3 w3 x3 A3 => ?_)
 replace hE := Ext.tr hE x3
 have zw3 := x3.size
 subst A3
 refine RS.norm (by dsimp only [List.set]) ?_
 refine RS.move (v := .tuple _) rfl ?_
 refine RS.extract (v := .int _ _) rfl rfl ?_
 refine RS.extract (v := .int _ _) rfl rfl ?_
 refine RS.assign (v := .int _ _) rfl ?_
 refine RS.assign (v := .int _ _) rfl ?_
 refine RS.nil ?_
 refine hK2 _ _ ?_
 try clear hK2
 refine wp_seq_k (fun K4 hK4 => ?_)
 refine wp_block ?_
 refine wp_seq_k (fun K5 hK5 => ?_)
 refine region ?_
 refine RS.move (v := .int _ _) rfl ?_
 refine RS.o (D.eq rfl rfl) ?_
 refine RS.move (v := .bool _) rfl ?_
 refine RS.splite 13 rfl rfl (fun c6 => ?_) (fun c6 => ?_)
 ·refine RS.norm (by dsimp only [List.set]) ?_
  refine RS.wantB 13 rfl rfl rfl ?_
  refine RS.move (v := .int _ _) rfl ?_
  refine RS.wantB 13 rfl rfl rfl ?_
  refine RS.o (D.ne rfl rfl) ?_
  refine RS.pick (v := .bool _) rfl rfl ?_
  refine RS.assign (v := .bool _) rfl ?_
  refine RS.nil ?_
  refine hK5 _ _ ?_
  try clear hK5
  refine C.ifn rfl (fun c7 => ?_) (fun c7 => ?_)
  ·refine wp_seq_k (fun K8 hK8 => ?_)
   refine region ?_
   refine RS.assign (v := .int .u8 5) rfl ?_
   refine RS.nil ?_
   refine hK8 _ _ ?_
   try clear hK8
   refine wp_ret ?_
   refine ret (rs := [.tmp 2]) (vs := [.int _ _]) (v := (.int _ _)) rfl ⟨rfl, trivial⟩ rfl ?_
   refine ⟨_, rfl, hE, congrArg (Value.int .u8) ?_⟩
   unfold S.clsS
   (repeat' split) <;> omega
  ·refine wp_seq_k (fun K9 hK9 => ?_)
   refine region ?_
   refine RS.move (v := .int _ _) rfl ?_
   refine RS.o (D.eq rfl rfl) ?_
   refine RS.assign (v := .bool _) rfl ?_
   refine RS.nil ?_
   refine hK9 _ _ ?_
   try clear hK9
   refine C.ife rfl (fun c10 => ?_) (fun c10 => ?_)
   ·refine wp_seq_k (fun K11 hK11 => ?_)
    refine region ?_
    refine RS.assign (v := .int .u8 4) rfl ?_
    refine RS.nil ?_
    refine hK11 _ _ ?_
    try clear hK11
    refine wp_ret ?_
    refine ret (rs := [.tmp 2]) (vs := [.int _ _]) (v := (.int _ _)) rfl ⟨rfl, trivial⟩ rfl ?_
    refine ⟨_, rfl, hE, congrArg (Value.int .u8) ?_⟩
    unfold S.clsS
    (repeat' split) <;> omega
   ·refine wp_seq_k (fun K12 hK12 => ?_)
    refine region ?_
    refine RS.move (v := .int _ _) rfl ?_
    refine RS.o (D.ne rfl rfl) ?_
    refine RS.assign (v := .bool _) rfl ?_
    refine RS.nil ?_
    refine hK12 _ _ ?_
    try clear hK12
    refine C.ifn rfl (fun c13 => ?_) (fun c13 => ?_)
    ·refine wp_seq_k (fun K14 hK14 => ?_)
     refine region ?_
     refine RS.assign (v := .int .u8 3) rfl ?_
     refine RS.nil ?_
     refine hK14 _ _ ?_
     try clear hK14
     refine wp_ret ?_
     refine ret (rs := [.tmp 2]) (vs := [.int _ _]) (v := (.int _ _)) rfl ⟨rfl, trivial⟩ rfl ?_
     refine ⟨_, rfl, hE, congrArg (Value.int .u8) ?_⟩
     unfold S.clsS
     (repeat' split) <;> omega
    ·refine wp_seq_k (fun K15 hK15 => ?_)
     refine region ?_
     refine RS.move (v := .int _ _) rfl ?_
     refine RS.o (D.ne rfl rfl) ?_
     refine RS.assign (v := .bool _) rfl ?_
     refine RS.nil ?_
     refine hK15 _ _ ?_
     try clear hK15
     refine C.ifn rfl (fun c16 => ?_) (fun c16 => ?_)
     ·refine wp_seq_k (fun K17 hK17 => ?_)
      refine region ?_
      refine RS.assign (v := .int .u8 2) rfl ?_
      refine RS.nil ?_
      refine hK17 _ _ ?_
      try clear hK17
      refine wp_ret ?_
      refine ret (rs := [.tmp 2]) (vs := [.int _ _]) (v := (.int _ _)) rfl ⟨rfl, trivial⟩ rfl ?_
      refine ⟨_, rfl, hE, congrArg (Value.int .u8) ?_⟩
      unfold S.clsS
      (repeat' split) <;> omega
     ·refine wp_skip ?_
      refine hK4 _ _ ?_
      try clear hK4
      refine wp_seq_k (fun K18 hK18 => ?_)
      refine region ?_
      refine RS.assign (v := .int .u8 1) rfl ?_
      refine RS.nil ?_
      refine hK18 _ _ ?_
      try clear hK18
      refine wp_ret ?_
      refine ret (rs := [.tmp 2]) (vs := [.int _ _]) (v := (.int _ _)) rfl ⟨rfl, trivial⟩ rfl ?_
      refine ⟨_, rfl, hE, congrArg (Value.int .u8) ?_⟩
      unfold S.clsS
      (repeat' split) <;> omega
 ·refine RS.norm (by dsimp only [List.set]) ?_
  refine RS.skipB (b := false) 13 rfl rfl rfl rfl ?_
  refine RS.norm (by dsimp only [putL, List.set]) ?_
  refine RS.skipB (b := false) 13 rfl rfl rfl rfl ?_
  refine RS.norm (by dsimp only [putL, List.set]) ?_
  refine RS.pick (v := .bool false) rfl rfl ?_
  refine RS.assign (v := .bool _) rfl ?_
  refine RS.nil ?_
  refine hK5 _ _ ?_
  try clear hK5
  refine C.iff rfl ?_
  refine wp_seq_k (fun K19 hK19 => ?_)
  refine region ?_
  refine RS.move (v := .int _ _) rfl ?_
  refine RS.o (D.eq rfl rfl) ?_
  refine RS.assign (v := .bool _) rfl ?_
  refine RS.nil ?_
  refine hK19 _ _ ?_
  try clear hK19
  refine C.ife rfl (fun c20 => ?_) (fun c20 => ?_)
  ·refine wp_seq_k (fun K21 hK21 => ?_)
   refine region ?_
   refine RS.assign (v := .int .u8 4) rfl ?_
   refine RS.nil ?_
   refine hK21 _ _ ?_
   try clear hK21
   refine wp_ret ?_
   refine ret (rs := [.tmp 2]) (vs := [.int _ _]) (v := (.int _ _)) rfl ⟨rfl, trivial⟩ rfl ?_
   refine ⟨_, rfl, hE, congrArg (Value.int .u8) ?_⟩
   unfold S.clsS
   (repeat' split) <;> omega
  ·refine wp_seq_k (fun K22 hK22 => ?_)
   refine region ?_
   refine RS.move (v := .int _ _) rfl ?_
   refine RS.o (D.ne rfl rfl) ?_
   refine RS.assign (v := .bool _) rfl ?_
   refine RS.nil ?_
   refine hK22 _ _ ?_
   try clear hK22
   refine C.ifn rfl (fun c23 => ?_) (fun c23 => ?_)
   ·refine wp_seq_k (fun K24 hK24 => ?_)
    refine region ?_
    refine RS.assign (v := .int .u8 3) rfl ?_
    refine RS.nil ?_
    refine hK24 _ _ ?_
    try clear hK24
    refine wp_ret ?_
    refine ret (rs := [.tmp 2]) (vs := [.int _ _]) (v := (.int _ _)) rfl ⟨rfl, trivial⟩ rfl ?_
    refine ⟨_, rfl, hE, congrArg (Value.int .u8) ?_⟩
    unfold S.clsS
    (repeat' split) <;> omega
   ·refine wp_seq_k (fun K25 hK25 => ?_)
    refine region ?_
    refine RS.move (v := .int _ _) rfl ?_
    refine RS.o (D.ne rfl rfl) ?_
    refine RS.assign (v := .bool _) rfl ?_
    refine RS.nil ?_
    refine hK25 _ _ ?_
    try clear hK25
    refine C.ifn rfl (fun c26 => ?_) (fun c26 => ?_)
    ·refine wp_seq_k (fun K27 hK27 => ?_)
     refine region ?_
     refine RS.assign (v := .int .u8 2) rfl ?_
     refine RS.nil ?_
     refine hK27 _ _ ?_
     try clear hK27
     refine wp_ret ?_
     refine ret (rs := [.tmp 2]) (vs := [.int _ _]) (v := (.int _ _)) rfl ⟨rfl, trivial⟩ rfl ?_
     refine ⟨_, rfl, hE, congrArg (Value.int .u8) ?_⟩
     unfold S.clsS
     (repeat' split) <;> omega
    ·refine wp_skip ?_
     refine hK4 _ _ ?_
     try clear hK4
     refine wp_seq_k (fun K28 hK28 => ?_)
     refine region ?_
     refine RS.assign (v := .int .u8 1) rfl ?_
     refine RS.nil ?_
     refine hK28 _ _ ?_
     try clear hK28
     refine wp_ret ?_
     refine ret (rs := [.tmp 2]) (vs := [.int _ _]) (v := (.int _ _)) rfl ⟨rfl, trivial⟩ rfl ?_
     refine ⟨_, rfl, hE, congrArg (Value.int .u8) ?_⟩
     unfold S.clsS
     (repeat' split) <;> omega
theorem canonV (b : Int) (hb : 0 ≤ b ∧ b < 18446744073709551616) (w : World) :
  Calls Tryd.prog 122 #[.int .u64 b] w (Ret w fun v _ => v = .int .u64 (S.canS b)) := by
 have hE := Ext.refl w
 refine enter (args := [.int .u64 b]) (l := [.int .u64 b, undef, undef, undef, undef, undef, undef]) Tryd.func122 rfl rfl ?_
 refine wp_seq_k (fun K1 hK1 => ?_)
 refine region ?_
 refine RS.assign (v := .int .u64 0) rfl ?_
 refine RS.nil ?_
 refine hK1 _ _ ?_
 try clear hK1
 refine wp_seq_k (fun K2 hK2 => ?_)
 refine wp_seq_k (fun K3 hK3 => ?_)
 refine region ?_
 refine RS.move (v := .int _ _) rfl ?_
 refine RS.call E132 (classV _ (by omega) _) rfl (fun v4 w4 x4 A4 => ?_)
 replace hE := Ext.tr hE x4
 have zw4 := x4.size
 subst A4
 refine RS.norm (by dsimp only [List.set]) ?_
 refine RS.o (D.eq rfl rfl) ?_
 refine RS.nil ?_
 refine hK3 _ _ ?_
 try clear hK3
 refine C.ife rfl (fun c5 => ?_) (fun c5 => ?_)
 ·refine wp_seq_k (fun K6 hK6 => ?_)
  refine region ?_
  refine RS.assign (v := .int .u64 9221120237041090560) rfl ?_
  refine RS.nil ?_
  refine hK6 _ _ ?_
  try clear hK6
  refine wp_ret ?_
  refine ret (rs := [.tmp 2]) (vs := [.int _ _]) (v := (.int _ _)) rfl ⟨rfl, trivial⟩ rfl ?_
  refine ⟨_, rfl, hE, congrArg (Value.int .u64) ?_⟩
  unfold S.canS
  split <;> omega
 ·refine wp_skip ?_
  refine hK2 _ _ ?_
  try clear hK2
  refine wp_seq_k (fun K7 hK7 => ?_)
  refine region ?_
  refine RS.move (v := .int _ _) rfl ?_
  refine RS.assign (v := .int _ _) rfl ?_
  refine RS.nil ?_
  refine hK7 _ _ ?_
  try clear hK7
  refine wp_ret ?_
  refine ret (rs := [.tmp 2]) (vs := [.int _ _]) (v := (.int _ _)) rfl ⟨rfl, trivial⟩ rfl ?_
  refine ⟨_, rfl, hE, congrArg (Value.int .u64) ?_⟩
  unfold S.canS
  split <;> omega
theorem numberV (n : Int) (w : World) :
  Calls Tryd.prog 90 #[.int .i64 n] w (Ret w fun v _ => v = .agg ([.int .u8 1, .int .i64 n, .int .u64 0, .string .empty] : List Value).toArray) := by
 have hE := Ext.refl w
 refine enter (args := [.int .i64 n]) (l := [.int .i64 n, undef, undef, undef, undef]) Tryd.func90 rfl rfl ?_
 refine wp_seq_k (fun K1 hK1 => ?_)
 refine region ?_
 refine RS.alloc T26 (fun b2 w2 e2 s2 x2 B2 => ?_)
 refine RS.norm (by dsimp only [List.set]) ?_
 replace hE := Ext.tr hE x2
 have zw2 := x2.size
 refine RS.nil ?_
 refine hK1 _ _ ?_
 try clear hK1
 refine wp_seq_k (fun K3 hK3 => ?_)
 refine region ?_
 refine RS.move (v := .int _ _) rfl ?_
 refine RS.o (D.buildS T26 F26 (ps := [(0, .int _ _), (1, .int _ _)]) rfl rfl) ?_
 refine RS.storeAggB rfl rfl C26 (by decide) rfl rfl B2 rfl (fun w4 y4 N4 => ?_)
 replace hE := hE.trans (y4.below (by intros; try (first | (intro _ _) | (intro _) | skip); first | omega | (dsimp only at *; omega) | (simp_all; done) | (simp at *; omega)))
 have zw4 := y4.size
 replace B2 := N4
 refine RS.nil ?_
 refine hK3 _ _ ?_
 try clear hK3
 refine wp_ret ?_
 refine ret (rs := [.cell 2 26]) (vs := [.agg _]) (v := (.agg _)) rfl ⟨⟨_, rfl, loadVar_agg Tryd.underlying26 rfl C26 (by decide) rfl (B2.cellsN 4 rfl)⟩, trivial⟩ rfl ?_
 exact ⟨_, rfl, hE, rfl⟩
theorem floatV (b : Int) (hb : 0 ≤ b ∧ b < 18446744073709551616) (w : World) :
  Calls Tryd.prog 91 #[.int .u64 b] w (Ret w fun v _ => v = .agg ([.int .u8 2, .int .i64 0, .int .u64 (S.canS b), .string .empty] : List Value).toArray) := by
 have hE := Ext.refl w
 refine enter (args := [.int .u64 b]) (l := [.int .u64 b, undef, undef, undef, undef, undef]) Tryd.func91 rfl rfl ?_
 refine wp_seq_k (fun K1 hK1 => ?_)
 refine region ?_
 refine RS.alloc T26 (fun b2 w2 e2 s2 x2 B2 => ?_)
 refine RS.norm (by dsimp only [List.set]) ?_
 replace hE := Ext.tr hE x2
 have zw2 := x2.size
 refine RS.nil ?_
 refine hK1 _ _ ?_
 try clear hK1
 refine wp_seq_k (fun K3 hK3 => ?_)
 refine region ?_
 refine RS.move (v := .int _ _) rfl ?_
 refine RS.call E122 (canonV _ (by omega) _) rfl (fun v4 w4 x4 A4 => ?_)
 replace hE := Ext.tr hE x4
 replace B2 := B2.ext x4
 have zw4 := x4.size
 subst A4
 refine RS.norm (by dsimp only [List.set]) ?_
 refine RS.o (D.buildS T26 F26 (ps := [(0, .int _ _), (2, .int _ _)]) rfl rfl) ?_
 refine RS.storeAggB rfl rfl C26 (by decide) rfl rfl B2 rfl (fun w5 y5 N5 => ?_)
 replace hE := hE.trans (y5.below (by intros; try (first | (intro _ _) | (intro _) | skip); first | omega | (dsimp only at *; omega) | (simp_all; done) | (simp at *; omega)))
 have zw5 := y5.size
 replace B2 := N5
 refine RS.nil ?_
 refine hK3 _ _ ?_
 try clear hK3
 refine wp_ret ?_
 refine ret (rs := [.cell 2 26]) (vs := [.agg _]) (v := (.agg _)) rfl ⟨⟨_, rfl, loadVar_agg Tryd.underlying26 rfl C26 (by decide) rfl (B2.cellsN 4 rfl)⟩, trivial⟩ rfl ?_
 exact ⟨_, rfl, hE, rfl⟩
theorem textV (s : ByteArray) (w : World) :
  Calls Tryd.prog 92 #[.string s] w (Ret w fun v _ => ∃ k2 t2 e2, v = .tuple #[.agg ([.int .u8 k2, .int .i64 0, .int .u64 0, .string t2] : List Value).toArray, .int .i64 e2] ∧ ((S.TextOk s ∧ k2 = 3 ∧ t2 = s ∧ e2 = 0) ∨ (¬ S.TextOk s ∧ k2 = 0 ∧ t2 = ByteArray.empty))) := by
 have hE := Ext.refl w
 refine enter (args := [.string s]) (l := [.string s, undef, undef, undef, undef, undef, undef, undef, undef, undef, undef, undef, undef, undef]) Tryd.func92 rfl rfl ?_
 refine wp_seq_k (fun K1 hK1 => ?_)
 refine region ?_
 refine RS.alloc T26 (fun b2 w2 e2 s2 x2 B2 => ?_)
 refine RS.norm (by dsimp only [List.set]) ?_
 replace hE := Ext.tr hE x2
 have zw2 := x2.size
 refine RS.assign (v := .int .i64 0) rfl ?_
 refine RS.nil ?_
 refine hK1 _ _ ?_
 try clear hK1
 refine wp_seq_k (fun K3 hK3 => ?_)
 refine wp_seq_k (fun K4 hK4 => ?_)
 refine region ?_
 refine RS.move (v := .string _) rfl ?_
 refine RS.o (D.lenStr rfl Tryd.underlying9) ?_
 refine RS.o (D.gt rfl rfl) ?_
 refine RS.nil ?_
 refine hK4 _ _ ?_
 try clear hK4
 refine C.ifd rfl (fun c5 => ?_) (fun c5 => ?_)
 ·have h1 := c5
  refine wp_seq_k (fun K6 hK6 => ?_)
  refine region ?_
  refine RS.o (D.buildS T26 F26 (ps := []) rfl rfl) ?_
  refine RS.storeAggB rfl rfl C26 (by decide) rfl rfl B2 rfl (fun w7 y7 N7 => ?_)
  replace hE := hE.trans (y7.below (by intros; try (first | (intro _ _) | (intro _) | skip); first | omega | (dsimp only at *; omega) | (simp_all; done) | (simp at *; omega)))
  have zw7 := y7.size
  replace B2 := N7
  refine RS.assign (v := .int .i64 4) rfl ?_
  refine RS.nil ?_
  refine hK6 _ _ ?_
  try clear hK6
  refine wp_ret ?_
  refine ret (rs := [.cell 2 26, .tmp 3]) (vs := [.agg _, .int _ _]) (v := (.tuple #[.agg _, .int _ _])) rfl ⟨⟨_, rfl, loadVar_agg Tryd.underlying26 rfl C26 (by decide) rfl (B2.cellsN 4 rfl)⟩, rfl, trivial⟩ rfl ?_
  exact ⟨_, rfl, hE, _, _, _, rfl, .inr ⟨fun h => by have := h.1; omega, rfl, rfl⟩⟩
 ·have h1 := c5
  refine wp_skip ?_
  refine hK3 _ _ ?_
  try clear hK3
  refine wp_seq_k (fun K8 hK8 => ?_)
  refine wp_seq_k (fun K9 hK9 => ?_)
  refine region ?_
  refine RS.move (v := .string _) rfl ?_
  refine RS.call E88 (Index32 _ _) rfl (fun v10 w10 x10 A10 => ?_)
  replace hE := Ext.tr hE x10
  replace B2 := B2.ext x10
  have zw10 := x10.size
  obtain ⟨j, rfl, hj⟩ := A10
  refine RS.norm (by dsimp only [List.set]) ?_
  refine RS.o (D.ge rfl rfl) ?_
  refine RS.nil ?_
  refine hK9 _ _ ?_
  try clear hK9
  refine C.ifd rfl (fun c11 => ?_) (fun c11 => ?_)
  ·have h2 := c11
   refine wp_seq_k (fun K12 hK12 => ?_)
   refine region ?_
   refine RS.o (D.buildS T26 F26 (ps := []) rfl rfl) ?_
   refine RS.storeAggB rfl rfl C26 (by decide) rfl rfl B2 rfl (fun w13 y13 N13 => ?_)
   replace hE := hE.trans (y13.below (by intros; try (first | (intro _ _) | (intro _) | skip); first | omega | (dsimp only at *; omega) | (simp_all; done) | (simp at *; omega)))
   have zw13 := y13.size
   replace B2 := N13
   refine RS.assign (v := .int .i64 8) rfl ?_
   refine RS.nil ?_
   refine hK12 _ _ ?_
   try clear hK12
   refine wp_ret ?_
   refine ret (rs := [.cell 2 26, .tmp 3]) (vs := [.agg _, .int _ _]) (v := (.tuple #[.agg _, .int _ _])) rfl ⟨⟨_, rfl, loadVar_agg Tryd.underlying26 rfl C26 (by decide) rfl (B2.cellsN 4 rfl)⟩, rfl, trivial⟩ rfl ?_
   exact ⟨_, rfl, hE, _, _, _, rfl, .inr ⟨fun h => by have := hj.2 h.2; omega, rfl, rfl⟩⟩
  ·have h2 := c11
   refine wp_skip ?_
   refine hK8 _ _ ?_
   try clear hK8
   refine wp_seq_k (fun K14 hK14 => ?_)
   refine region ?_
   refine RS.move (v := .string _) rfl ?_
   refine RS.o (D.buildS T26 F26 (ps := [(0, .int _ _), (3, .string _)]) rfl rfl) ?_
   refine RS.storeAggB rfl rfl C26 (by decide) rfl rfl B2 rfl (fun w15 y15 N15 => ?_)
   replace hE := hE.trans (y15.below (by intros; try (first | (intro _ _) | (intro _) | skip); first | omega | (dsimp only at *; omega) | (simp_all; done) | (simp at *; omega)))
   have zw15 := y15.size
   replace B2 := N15
   refine RS.assign (v := .int .i64 0) rfl ?_
   refine RS.nil ?_
   refine hK14 _ _ ?_
   try clear hK14
   refine wp_ret ?_
   refine ret (rs := [.cell 2 26, .tmp 3]) (vs := [.agg _, .int _ _]) (v := (.tuple #[.agg _, .int _ _])) rfl ⟨⟨_, rfl, loadVar_agg Tryd.underlying26 rfl C26 (by decide) rfl (B2.cellsN 4 rfl)⟩, rfl, trivial⟩ rfl ?_
   exact ⟨_, rfl, hE, _, _, _, rfl, .inl ⟨⟨by omega, hj.1 (by omega)⟩, rfl, rfl, rfl⟩⟩
end Go.Proofs.YtiohpiiiapjblaaDoor.W
namespace Go.Proofs.YtiohpiiiapjblaaDoor.W
open Go.RowKit Go.Proofs.YtiohpiiiapjblaaDoor.G
set_option linter.unusedVariables false
set_option maxRecDepth 20000
set_option maxHeartbeats 8000000
attribute [local irreducible] RS RX
theorem C2 : Tryd.prog.cellsOf 2 = 1 := by kernel_rfl
theorem C9 : Tryd.prog.cellsOf 9 = 1 := by kernel_rfl
theorem C24 : Tryd.prog.cellsOf 24 = 1 := by kernel_rfl
theorem E45 : Enters Tryd.prog 45 := .mk Tryd.func45 (by kernel_rfl) rfl
theorem E52 : Enters Tryd.prog 52 := .mk Tryd.func52 (by kernel_rfl) rfl
theorem E82 : Enters Tryd.prog 82 := .mk Tryd.func82 (by kernel_rfl) rfl
theorem E90 : Enters Tryd.prog 90 := .mk Tryd.func90 (by kernel_rfl) rfl
theorem E91 : Enters Tryd.prog 91 := .mk Tryd.func91 (by kernel_rfl) rfl
theorem E92 : Enters Tryd.prog 92 := .mk Tryd.func92 (by kernel_rfl) rfl
theorem checkV (k num bits : Int) (t : ByteArray) (hk : 0 ≤ k ∧ k < 256) (hnum : -9223372036854775808 ≤ num ∧ num ≤ 9223372036854775807) (hb : 0 ≤ bits ∧ bits < 18446744073709551616) (w : World) :
  Calls Tryd.prog 52 #[.agg ([.int .u8 k, .int .i64 num, .int .u64 bits, .string t] : List Value).toArray] w (Ret w fun v _ => v = .int .i64 (S.valE k num bits t)) := by
 have hE := Ext.refl w
 refine enter (args := [.agg ([.int .u8 k, .int .i64 num, .int .u64 bits, .string t] : List Value).toArray]) (l := [.agg ([.int .u8 k, .int .i64 num, .int .u64 bits, .string t] : List Value).toArray, undef, undef, undef, undef, undef, undef, undef, undef, undef, undef, undef, undef, undef, undef, undef, undef, undef, undef, undef, undef, undef, undef, undef, undef, undef, undef, undef, undef, undef, undef, undef]) Tryd.func52 rfl rfl ?_
 refine wp_seq_k (fun K1 hK1 => ?_)
 refine region ?_
 refine RS.box rfl rfl (fun b2 w2 e2 s2 x2 B2 => ?_)
 refine RS.norm (by dsimp only [List.set]) ?_
 replace hE := Ext.tr hE x2
 have zw2 := x2.size
 refine RS.assign (v := .int .i64 0) rfl ?_
 refine RS.nil ?_
 refine hK1 _ _ ?_
 try clear hK1
 refine wp_seq_k (fun K3 hK3 => ?_)
 refine region ?_
 refine RS.alloc T26 (fun b4 w4 e4 s4 x4 B4 => ?_)
 refine RS.norm (by dsimp only [List.set]) ?_
 replace hE := Ext.tr hE x4
 replace B2 := B2.ext x4
 have zw4 := x4.size
 refine RS.nil ?_
 refine hK3 _ _ ?_
 try clear hK3
 refine wp_seq_k (fun K5 hK5 => ?_)
 refine wp_seq_k (fun K6 hK6 => ?_)
 refine region ?_
 refine RS.o (D.fieldL 0 rfl Tryd.underlying26 rfl C5 (by decide) rfl) ?_
 refine RS.o (D.load rfl Tryd.underlying5 rfl (B2.cell rfl)) ?_
 refine RS.nil ?_
 refine hK6 _ _ ?_
 try clear hK6
 refine wp_block ?_
 refine wp_seq_k (fun K7 hK7 => ?_)
 refine region ?_
 refine RS.o (D.eq rfl rfl) ?_
 refine RS.assign (v := .bool _) rfl ?_
 refine RS.nil ?_
 refine hK7 _ _ ?_
 try clear hK7
 refine C.ife rfl (fun c8 => ?_) (fun c8 => ?_)
 ·refine region ?_
  refine RS.o (D.fieldL 1 rfl Tryd.underlying26 rfl C2 (by decide) rfl) ?_
  refine RS.o (D.load rfl Tryd.underlying2 rfl (B2.cell rfl)) ?_
  refine RS.call E90 (numberV _ _) rfl (fun v9 w9 x9 A9 => ?_)
  replace hE := Ext.tr hE x9
  replace B2 := B2.ext x9
  replace B4 := B4.ext x9
  have zw9 := x9.size
  subst A9
  refine RS.norm (by dsimp only [List.set]) ?_
  refine RS.storeAggB rfl rfl C26 (by decide) rfl rfl B4 rfl (fun w10 y10 N10 => ?_)
  replace hE := hE.trans (y10.below (by intros; try (first | (intro _ _) | (intro _) | skip); first | omega | (dsimp only at *; omega) | (simp_all; done) | (simp at *; omega)))
  replace B2 := B2.st y10 (by intros; try (first | (intro _ _) | (intro _) | skip); first | omega | (dsimp only at *; omega) | (simp_all; done) | (simp at *; omega))
  have zw10 := y10.size
  replace B4 := N10
  refine RS.nil ?_
  refine hK5 _ _ ?_
  try clear hK5
  refine wp_seq_k (fun K11 hK11 => ?_)
  refine wp_seq_k (fun K12 hK12 => ?_)
  refine region ?_
  refine RS.o (D.loadAgg rfl Tryd.underlying26 rfl C26 (by decide) rfl (B2.cellsN 4 rfl)) ?_
  refine RS.o (D.loadAgg rfl Tryd.underlying26 rfl C26 (by decide) rfl (B4.cellsN 4 rfl)) ?_
  refine RS.o (D.neA rfl rfl Tryd.underlying26 rfl (by kernel_rfl) (by kernel_rfl) (by kernel_rfl)) ?_
  refine RS.move (v := .bool _) rfl ?_
  refine RS.splitb 27 rfl rfl (fun c13 => ?_) (fun c13 => ?_)
  ·refine RS.norm (by dsimp only [List.set]) ?_
   have hq := of_decide_eq_false ((S.eqV _ _ _ _ _ _ _ _).symm.trans (Eq.mp (Bool.not_eq_true' _) c13))
   refine RS.skipB (b := true) 27 rfl rfl rfl rfl ?_
   refine RS.norm (by dsimp only [putL, List.set]) ?_
   refine RS.skipB (b := true) 27 rfl rfl rfl rfl ?_
   refine RS.norm (by dsimp only [putL, List.set]) ?_
   refine RS.skipB (b := true) 27 rfl rfl rfl rfl ?_
   refine RS.norm (by dsimp only [putL, List.set]) ?_
   refine RS.pick (v := .bool true) rfl rfl ?_
   refine RS.nil ?_
   refine hK12 _ _ ?_
   try clear hK12
   refine C.ift rfl ?_
   refine wp_seq_k (fun K14 hK14 => ?_)
   refine region ?_
   refine RS.assign (v := .int .i64 8) rfl ?_
   refine RS.nil ?_
   refine hK14 _ _ ?_
   try clear hK14
   refine wp_ret ?_
   refine ret (rs := [.tmp 2]) (vs := [.int _ _]) (v := (.int _ _)) rfl ⟨rfl, trivial⟩ rfl ?_
   refine ⟨_, rfl, hE, congrArg (Value.int .i64) ?_⟩
   first | (refine S.valE_pos ?_; grind [S.FineV, S.TextOk]) | (refine S.valE_neg ?_; grind [S.FineV, S.TextOk])
  ·refine RS.norm (by dsimp only [List.set]) ?_
   have hq := of_decide_eq_true ((S.eqV _ _ _ _ _ _ _ _).symm.trans (Eq.mp (Bool.not_eq_false' _) c13))
   refine RS.wantB 27 rfl rfl rfl ?_
   refine RS.o (D.fieldL 0 rfl Tryd.underlying26 rfl C5 (by decide) rfl) ?_
   refine RS.wantB 27 rfl rfl rfl ?_
   refine RS.o (D.load rfl Tryd.underlying5 rfl (B2.cell rfl)) ?_
   refine RS.wantB 27 rfl rfl rfl ?_
   refine RS.o (D.eq rfl rfl) ?_
   refine RS.pick (v := .bool _) rfl rfl ?_
   refine RS.nil ?_
   refine hK12 _ _ ?_
   try clear hK12
   refine C.ife rfl (fun c15 => ?_) (fun c15 => ?_)
   ·refine wp_seq_k (fun K16 hK16 => ?_)
    refine region ?_
    refine RS.assign (v := .int .i64 8) rfl ?_
    refine RS.nil ?_
    refine hK16 _ _ ?_
    try clear hK16
    refine wp_ret ?_
    refine ret (rs := [.tmp 2]) (vs := [.int _ _]) (v := (.int _ _)) rfl ⟨rfl, trivial⟩ rfl ?_
    refine ⟨_, rfl, hE, congrArg (Value.int .i64) ?_⟩
    first | (refine S.valE_pos ?_; grind [S.FineV, S.TextOk]) | (refine S.valE_neg ?_; grind [S.FineV, S.TextOk])
   ·refine wp_skip ?_
    refine hK11 _ _ ?_
    try clear hK11
    refine wp_seq_k (fun K17 hK17 => ?_)
    refine region ?_
    refine RS.assign (v := .int .i64 0) rfl ?_
    refine RS.nil ?_
    refine hK17 _ _ ?_
    try clear hK17
    refine wp_ret ?_
    refine ret (rs := [.tmp 2]) (vs := [.int _ _]) (v := (.int _ _)) rfl ⟨rfl, trivial⟩ rfl ?_
    refine ⟨_, rfl, hE, congrArg (Value.int .i64) ?_⟩
    first | (refine S.valE_pos ?_; grind [S.FineV, S.TextOk]) | (refine S.valE_neg ?_; grind [S.FineV, S.TextOk])
 ·refine wp_seq_k (fun K18 hK18 => ?_)
  refine region ?_
  refine RS.o (D.eq rfl rfl) ?_
  refine RS.assign (v := .bool _) rfl ?_
  refine RS.nil ?_
  refine hK18 _ _ ?_
  try clear hK18
  refine C.ife rfl (fun c19 => ?_) (fun c19 => ?_)
  ·refine region ?_
   refine RS.o (D.fieldL 2 rfl Tryd.underlying26 rfl C24 (by decide) rfl) ?_
   refine RS.o (D.load rfl Tryd.underlying24 rfl (B2.cell rfl)) ?_
   refine RS.call E91 (floatV _ (by omega) _) rfl (fun v20 w20 x20 A20 => ?_)
   replace hE := Ext.tr hE x20
   replace B2 := B2.ext x20
   replace B4 := B4.ext x20
   have zw20 := x20.size
   subst A20
   refine RS.norm (by dsimp only [List.set]) ?_
   refine RS.storeAggB rfl rfl C26 (by decide) rfl rfl B4 rfl (fun w21 y21 N21 => ?_)
   replace hE := hE.trans (y21.below (by intros; try (first | (intro _ _) | (intro _) | skip); first | omega | (dsimp only at *; omega) | (simp_all; done) | (simp at *; omega)))
   replace B2 := B2.st y21 (by intros; try (first | (intro _ _) | (intro _) | skip); first | omega | (dsimp only at *; omega) | (simp_all; done) | (simp at *; omega))
   have zw21 := y21.size
   replace B4 := N21
   refine RS.nil ?_
   refine hK5 _ _ ?_
   try clear hK5
   refine wp_seq_k (fun K22 hK22 => ?_)
   refine wp_seq_k (fun K23 hK23 => ?_)
   refine region ?_
   refine RS.o (D.loadAgg rfl Tryd.underlying26 rfl C26 (by decide) rfl (B2.cellsN 4 rfl)) ?_
   refine RS.o (D.loadAgg rfl Tryd.underlying26 rfl C26 (by decide) rfl (B4.cellsN 4 rfl)) ?_
   refine RS.o (D.neA rfl rfl Tryd.underlying26 rfl (by kernel_rfl) (by kernel_rfl) (by kernel_rfl)) ?_
   refine RS.move (v := .bool _) rfl ?_
   refine RS.splitb 27 rfl rfl (fun c24 => ?_) (fun c24 => ?_)
   ·refine RS.norm (by dsimp only [List.set]) ?_
    have hq := of_decide_eq_false ((S.eqV _ _ _ _ _ _ _ _).symm.trans (Eq.mp (Bool.not_eq_true' _) c24))
    refine RS.skipB (b := true) 27 rfl rfl rfl rfl ?_
    refine RS.norm (by dsimp only [putL, List.set]) ?_
    refine RS.skipB (b := true) 27 rfl rfl rfl rfl ?_
    refine RS.norm (by dsimp only [putL, List.set]) ?_
    refine RS.skipB (b := true) 27 rfl rfl rfl rfl ?_
    refine RS.norm (by dsimp only [putL, List.set]) ?_
    refine RS.pick (v := .bool true) rfl rfl ?_
    refine RS.nil ?_
    refine hK23 _ _ ?_
    try clear hK23
    refine C.ift rfl ?_
    refine wp_seq_k (fun K25 hK25 => ?_)
    refine region ?_
    refine RS.assign (v := .int .i64 8) rfl ?_
    refine RS.nil ?_
    refine hK25 _ _ ?_
    try clear hK25
    refine wp_ret ?_
    refine ret (rs := [.tmp 2]) (vs := [.int _ _]) (v := (.int _ _)) rfl ⟨rfl, trivial⟩ rfl ?_
    refine ⟨_, rfl, hE, congrArg (Value.int .i64) ?_⟩
    first | (refine S.valE_pos ?_; grind [S.FineV, S.TextOk]) | (refine S.valE_neg ?_; grind [S.FineV, S.TextOk])
   ·refine RS.norm (by dsimp only [List.set]) ?_
    have hq := of_decide_eq_true ((S.eqV _ _ _ _ _ _ _ _).symm.trans (Eq.mp (Bool.not_eq_false' _) c24))
    refine RS.wantB 27 rfl rfl rfl ?_
    refine RS.o (D.fieldL 0 rfl Tryd.underlying26 rfl C5 (by decide) rfl) ?_
    refine RS.wantB 27 rfl rfl rfl ?_
    refine RS.o (D.load rfl Tryd.underlying5 rfl (B2.cell rfl)) ?_
    refine RS.wantB 27 rfl rfl rfl ?_
    refine RS.o (D.eq rfl rfl) ?_
    refine RS.pick (v := .bool _) rfl rfl ?_
    refine RS.nil ?_
    refine hK23 _ _ ?_
    try clear hK23
    refine C.ife rfl (fun c26 => ?_) (fun c26 => ?_)
    ·refine wp_seq_k (fun K27 hK27 => ?_)
     refine region ?_
     refine RS.assign (v := .int .i64 8) rfl ?_
     refine RS.nil ?_
     refine hK27 _ _ ?_
     try clear hK27
     refine wp_ret ?_
     refine ret (rs := [.tmp 2]) (vs := [.int _ _]) (v := (.int _ _)) rfl ⟨rfl, trivial⟩ rfl ?_
     refine ⟨_, rfl, hE, congrArg (Value.int .i64) ?_⟩
     first | (refine S.valE_pos ?_; grind [S.FineV, S.TextOk]) | (refine S.valE_neg ?_; grind [S.FineV, S.TextOk])
    ·refine wp_skip ?_
     refine hK22 _ _ ?_
     try clear hK22
     refine wp_seq_k (fun K28 hK28 => ?_)
     refine region ?_
     refine RS.assign (v := .int .i64 0) rfl ?_
     refine RS.nil ?_
     refine hK28 _ _ ?_
     try clear hK28
     refine wp_ret ?_
     refine ret (rs := [.tmp 2]) (vs := [.int _ _]) (v := (.int _ _)) rfl ⟨rfl, trivial⟩ rfl ?_
     refine ⟨_, rfl, hE, congrArg (Value.int .i64) ?_⟩
     first | (refine S.valE_pos ?_; grind [S.FineV, S.TextOk]) | (refine S.valE_neg ?_; grind [S.FineV, S.TextOk])
  ·refine wp_seq_k (fun K29 hK29 => ?_)
   refine region ?_
   refine RS.o (D.eq rfl rfl) ?_
   refine RS.assign (v := .bool _) rfl ?_
   refine RS.nil ?_
   refine hK29 _ _ ?_
   try clear hK29
   refine C.ife rfl (fun c30 => ?_) (fun c30 => ?_)
   ·refine region ?_
    refine RS.o (D.fieldL 3 rfl Tryd.underlying26 rfl C9 (by decide) rfl) ?_
    refine RS.o (D.load rfl Tryd.underlying9 rfl (B2.cell rfl)) ?_
    refine RS.call E92 (textV _ _) rfl (fun v31 w31 x31 A31 => ?_)
    replace hE := Ext.tr hE x31
    replace B2 := B2.ext x31
    replace B4 := B4.ext x31
    have zw31 := x31.size
    obtain ⟨k2, t2, e2, rfl, hT⟩ := A31
    refine RS.norm (by dsimp only [List.set]) ?_
    refine RS.move (v := .tuple _) rfl ?_
    refine RS.extract (v := .agg _) rfl rfl ?_
    refine RS.extract (v := .int _ _) rfl rfl ?_
    refine RS.storeAggB rfl rfl C26 (by decide) rfl rfl B4 rfl (fun w32 y32 N32 => ?_)
    replace hE := hE.trans (y32.below (by intros; try (first | (intro _ _) | (intro _) | skip); first | omega | (dsimp only at *; omega) | (simp_all; done) | (simp at *; omega)))
    replace B2 := B2.st y32 (by intros; try (first | (intro _ _) | (intro _) | skip); first | omega | (dsimp only at *; omega) | (simp_all; done) | (simp at *; omega))
    have zw32 := y32.size
    replace B4 := N32
    refine RS.nil ?_
    refine hK5 _ _ ?_
    try clear hK5
    refine wp_seq_k (fun K33 hK33 => ?_)
    refine wp_seq_k (fun K34 hK34 => ?_)
    refine region ?_
    refine RS.o (D.loadAgg rfl Tryd.underlying26 rfl C26 (by decide) rfl (B2.cellsN 4 rfl)) ?_
    refine RS.o (D.loadAgg rfl Tryd.underlying26 rfl C26 (by decide) rfl (B4.cellsN 4 rfl)) ?_
    refine RS.o (D.neA rfl rfl Tryd.underlying26 rfl (by kernel_rfl) (by kernel_rfl) (by kernel_rfl)) ?_
    refine RS.move (v := .bool _) rfl ?_
    refine RS.splitb 27 rfl rfl (fun c35 => ?_) (fun c35 => ?_)
    ·refine RS.norm (by dsimp only [List.set]) ?_
     have hq := of_decide_eq_false ((S.eqV _ _ _ _ _ _ _ _).symm.trans (Eq.mp (Bool.not_eq_true' _) c35))
     refine RS.skipB (b := true) 27 rfl rfl rfl rfl ?_
     refine RS.norm (by dsimp only [putL, List.set]) ?_
     refine RS.skipB (b := true) 27 rfl rfl rfl rfl ?_
     refine RS.norm (by dsimp only [putL, List.set]) ?_
     refine RS.skipB (b := true) 27 rfl rfl rfl rfl ?_
     refine RS.norm (by dsimp only [putL, List.set]) ?_
     refine RS.pick (v := .bool true) rfl rfl ?_
     refine RS.nil ?_
     refine hK34 _ _ ?_
     try clear hK34
     refine C.ift rfl ?_
     refine wp_seq_k (fun K36 hK36 => ?_)
     refine region ?_
     refine RS.assign (v := .int .i64 8) rfl ?_
     refine RS.nil ?_
     refine hK36 _ _ ?_
     try clear hK36
     refine wp_ret ?_
     refine ret (rs := [.tmp 2]) (vs := [.int _ _]) (v := (.int _ _)) rfl ⟨rfl, trivial⟩ rfl ?_
     refine ⟨_, rfl, hE, congrArg (Value.int .i64) ?_⟩
     first | (refine S.valE_pos ?_; grind [S.FineV, S.TextOk]) | (refine S.valE_neg ?_; grind [S.FineV, S.TextOk])
    ·refine RS.norm (by dsimp only [List.set]) ?_
     have hq := of_decide_eq_true ((S.eqV _ _ _ _ _ _ _ _).symm.trans (Eq.mp (Bool.not_eq_false' _) c35))
     refine RS.wantB 27 rfl rfl rfl ?_
     refine RS.o (D.fieldL 0 rfl Tryd.underlying26 rfl C5 (by decide) rfl) ?_
     refine RS.wantB 27 rfl rfl rfl ?_
     refine RS.o (D.load rfl Tryd.underlying5 rfl (B2.cell rfl)) ?_
     refine RS.wantB 27 rfl rfl rfl ?_
     refine RS.o (D.eq rfl rfl) ?_
     refine RS.pick (v := .bool _) rfl rfl ?_
     refine RS.nil ?_
     refine hK34 _ _ ?_
     try clear hK34
     refine C.ife rfl (fun c37 => ?_) (fun c37 => ?_)
     ·refine wp_seq_k (fun K38 hK38 => ?_)
      refine region ?_
      refine RS.assign (v := .int .i64 8) rfl ?_
      refine RS.nil ?_
      refine hK38 _ _ ?_
      try clear hK38
      refine wp_ret ?_
      refine ret (rs := [.tmp 2]) (vs := [.int _ _]) (v := (.int _ _)) rfl ⟨rfl, trivial⟩ rfl ?_
      refine ⟨_, rfl, hE, congrArg (Value.int .i64) ?_⟩
      first | (refine S.valE_pos ?_; grind [S.FineV, S.TextOk]) | (refine S.valE_neg ?_; grind [S.FineV, S.TextOk])
     ·refine wp_skip ?_
      refine hK33 _ _ ?_
      try clear hK33
      refine wp_seq_k (fun K39 hK39 => ?_)
      refine region ?_
      refine RS.assign (v := .int .i64 0) rfl ?_
      refine RS.nil ?_
      refine hK39 _ _ ?_
      try clear hK39
      refine wp_ret ?_
      refine ret (rs := [.tmp 2]) (vs := [.int _ _]) (v := (.int _ _)) rfl ⟨rfl, trivial⟩ rfl ?_
      refine ⟨_, rfl, hE, congrArg (Value.int .i64) ?_⟩
      first | (refine S.valE_pos ?_; grind [S.FineV, S.TextOk]) | (refine S.valE_neg ?_; grind [S.FineV, S.TextOk])
   ·refine wp_skip ?_
    refine hK5 _ _ ?_
    try clear hK5
    refine wp_seq_k (fun K40 hK40 => ?_)
    refine wp_seq_k (fun K41 hK41 => ?_)
    refine region ?_
    refine RS.o (D.loadAgg rfl Tryd.underlying26 rfl C26 (by decide) rfl (B2.cellsN 4 rfl)) ?_
    refine RS.o (D.loadAgg rfl Tryd.underlying26 rfl C26 (by decide) rfl (B4.cellsN 4 rfl)) ?_
    refine RS.o (D.neA rfl rfl Tryd.underlying26 rfl (by kernel_rfl) (by kernel_rfl) (by kernel_rfl)) ?_
    refine RS.move (v := .bool _) rfl ?_
    refine RS.splitb 27 rfl rfl (fun c42 => ?_) (fun c42 => ?_)
    ·refine RS.norm (by dsimp only [List.set]) ?_
     have hq := of_decide_eq_false ((S.eqV _ _ _ _ _ _ _ _).symm.trans (Eq.mp (Bool.not_eq_true' _) c42))
     refine RS.skipB (b := true) 27 rfl rfl rfl rfl ?_
     refine RS.norm (by dsimp only [putL, List.set]) ?_
     refine RS.skipB (b := true) 27 rfl rfl rfl rfl ?_
     refine RS.norm (by dsimp only [putL, List.set]) ?_
     refine RS.skipB (b := true) 27 rfl rfl rfl rfl ?_
     refine RS.norm (by dsimp only [putL, List.set]) ?_
     refine RS.pick (v := .bool true) rfl rfl ?_
     refine RS.nil ?_
     refine hK41 _ _ ?_
     try clear hK41
     refine C.ift rfl ?_
     refine wp_seq_k (fun K43 hK43 => ?_)
     refine region ?_
     refine RS.assign (v := .int .i64 8) rfl ?_
     refine RS.nil ?_
     refine hK43 _ _ ?_
     try clear hK43
     refine wp_ret ?_
     refine ret (rs := [.tmp 2]) (vs := [.int _ _]) (v := (.int _ _)) rfl ⟨rfl, trivial⟩ rfl ?_
     refine ⟨_, rfl, hE, congrArg (Value.int .i64) ?_⟩
     first | (refine S.valE_pos ?_; grind [S.FineV, S.TextOk]) | (refine S.valE_neg ?_; grind [S.FineV, S.TextOk])
    ·refine RS.norm (by dsimp only [List.set]) ?_
     have hq := of_decide_eq_true ((S.eqV _ _ _ _ _ _ _ _).symm.trans (Eq.mp (Bool.not_eq_false' _) c42))
     refine RS.wantB 27 rfl rfl rfl ?_
     refine RS.o (D.fieldL 0 rfl Tryd.underlying26 rfl C5 (by decide) rfl) ?_
     refine RS.wantB 27 rfl rfl rfl ?_
     refine RS.o (D.load rfl Tryd.underlying5 rfl (B2.cell rfl)) ?_
     refine RS.wantB 27 rfl rfl rfl ?_
     refine RS.o (D.eq rfl rfl) ?_
     refine RS.pick (v := .bool _) rfl rfl ?_
     refine RS.nil ?_
     refine hK41 _ _ ?_
     try clear hK41
     refine C.ife rfl (fun c44 => ?_) (fun c44 => ?_)
     ·refine wp_seq_k (fun K45 hK45 => ?_)
      refine region ?_
      refine RS.assign (v := .int .i64 8) rfl ?_
      refine RS.nil ?_
      refine hK45 _ _ ?_
      try clear hK45
      refine wp_ret ?_
      refine ret (rs := [.tmp 2]) (vs := [.int _ _]) (v := (.int _ _)) rfl ⟨rfl, trivial⟩ rfl ?_
      refine ⟨_, rfl, hE, congrArg (Value.int .i64) ?_⟩
      first | (refine S.valE_pos ?_; grind [S.FineV, S.TextOk]) | (refine S.valE_neg ?_; grind [S.FineV, S.TextOk])
     ·refine wp_skip ?_
      refine hK40 _ _ ?_
      try clear hK40
      refine wp_seq_k (fun K46 hK46 => ?_)
      refine region ?_
      refine RS.assign (v := .int .i64 0) rfl ?_
      refine RS.nil ?_
      refine hK46 _ _ ?_
      try clear hK46
      refine wp_ret ?_
      refine ret (rs := [.tmp 2]) (vs := [.int _ _]) (v := (.int _ _)) rfl ⟨rfl, trivial⟩ rfl ?_
      refine ⟨_, rfl, hE, congrArg (Value.int .i64) ?_⟩
      first | (refine S.valE_pos ?_; grind [S.FineV, S.TextOk]) | (refine S.valE_neg ?_; grind [S.FineV, S.TextOk])
theorem encV (k num bits : Int) (t : ByteArray) (hk : 0 ≤ k ∧ k < 256) (hnum : -9223372036854775808 ≤ num ∧ num ≤ 9223372036854775807) (hb : 0 ≤ bits ∧ bits < 18446744073709551616) (hF : S.FineV k num bits t) (hs : t.size ≤ 1000) (w : World) :
  Calls Tryd.prog 46 #[.agg ([.int .u8 k, .int .i64 num, .int .u64 bits, .string t] : List Value).toArray] w (Ret w fun v w' => ∃ a' n' c', v = .tuple #[.slice a' n' c', .int .i64 0] ∧ IOwn w.heap.size w' 5 .u8 a' n' c' (S.valS k num bits t)) := by
 have hk3 : k = 1 ∨ k = 2 ∨ k = 3 := by rcases hF with h | h | h <;> simp [h.1]
 have hE := Ext.refl w
 refine enter (args := [.agg ([.int .u8 k, .int .i64 num, .int .u64 bits, .string t] : List Value).toArray]) (l := [.agg ([.int .u8 k, .int .i64 num, .int .u64 bits, .string t] : List Value).toArray, undef, undef, undef, undef, undef, undef, undef, undef, undef, undef, undef, undef, undef, undef, undef, undef, undef, undef, undef, undef, undef, undef, undef, undef, undef, undef, undef, undef, undef, undef, undef, undef, undef, undef, undef, undef, undef, undef, undef, undef, undef, undef, undef, undef, undef, undef, undef, undef, undef, undef, undef, undef]) Tryd.func46 rfl rfl ?_
 refine wp_seq_k (fun K1 hK1 => ?_)
 refine region ?_
 refine RS.box rfl rfl (fun b2 w2 e2 s2 x2 B2 => ?_)
 refine RS.norm (by dsimp only [List.set]) ?_
 replace hE := Ext.tr hE x2
 have zw2 := x2.size
 refine RS.assign (v := .slice none 0 0) rfl ?_
 refine RS.assign (v := .int .i64 0) rfl ?_
 refine RS.nil ?_
 refine hK1 _ _ ?_
 try clear hK1
 refine wp_seq_k (fun K3 hK3 => ?_)
 refine wp_seq_k (fun K4 hK4 => ?_)
 refine region ?_
 refine RS.o (D.loadAgg rfl Tryd.underlying26 rfl C26 (by decide) rfl (B2.cellsN 4 rfl)) ?_
 refine RS.call E52 (checkV _ _ _ _ hk hnum hb _) rfl (fun v5 w5 x5 A5 => ?_)
 replace hE := Ext.tr hE x5
 replace B2 := B2.ext x5
 have zw5 := x5.size
 subst A5
 rw [← S.valE_pos hF]
 refine RS.norm (by dsimp only [List.set]) ?_
 refine RS.assign (v := .int _ _) rfl ?_
 refine RS.nil ?_
 refine hK4 _ _ ?_
 try clear hK4
 refine wp_seq_k (fun K6 hK6 => ?_)
 refine region ?_
 refine RS.move (v := .int _ _) rfl ?_
 refine RS.o (D.ne rfl rfl) ?_
 refine RS.nil ?_
 refine hK6 _ _ ?_
 try clear hK6
 refine C.ifn rfl (fun c7 => ?_) (fun c7 => ?_)
 ·exact absurd rfl c7
 ·refine wp_skip ?_
  refine hK3 _ _ ?_
  try clear hK3
  refine wp_seq_k (fun K8 hK8 => ?_)
  refine region ?_
  refine RS.o (D.fieldL 0 rfl Tryd.underlying26 rfl C5 (by decide) rfl) ?_
  refine RS.o (D.load rfl Tryd.underlying5 rfl (B2.cell rfl)) ?_
  refine RS.buildSlice (xs := [.tmp 15]) (vs := [.int _ _]) (cs := [.int _ _]) Tryd.underlying35 T5 (by decide) rfl rfl rfl rfl rfl rfl (by intro v hv; simp only [List.mem_cons, List.not_mem_nil, or_false] at hv; subst hv; rfl) rfl (fun b9 w9 e9 s9 x9 B9 => ?_)
  refine RS.norm (by dsimp only [List.set]) ?_
  replace hE := Ext.tr hE x9
  replace B2 := B2.ext x9
  have zw9 := x9.size
  have O1 : IOwn w5.heap.size w9 5 .u8 (some ⟨b9, 0, none⟩) 1 1 [_] := IOwn.of_blk B9 rfl rfl (by omega) (.cons (by simp only [lim]; omega) (.nil _)) (by decide)
  refine RS.assign (v := .slice _ _ _) rfl ?_
  refine RS.nil ?_
  refine hK8 _ _ ?_
  try clear hK8
  refine wp_seq_k (fun K10 hK10 => ?_)
  refine wp_seq_k (fun K11 hK11 => ?_)
  refine region ?_
  refine RS.o (D.fieldL 0 rfl Tryd.underlying26 rfl C5 (by decide) rfl) ?_
  refine RS.o (D.load rfl Tryd.underlying5 rfl (B2.cell rfl)) ?_
  refine RS.nil ?_
  refine hK11 _ _ ?_
  try clear hK11
  refine wp_block ?_
  refine wp_seq_k (fun K12 hK12 => ?_)
  refine region ?_
  refine RS.o (D.eq rfl rfl) ?_
  refine RS.assign (v := .bool _) rfl ?_
  refine RS.nil ?_
  refine hK12 _ _ ?_
  try clear hK12
  refine C.ife rfl (fun c13 => ?_) (fun c13 => ?_)
  ·refine region ?_
   refine RS.move (v := .slice _ _ _) rfl ?_
   refine RS.o (D.fieldL 1 rfl Tryd.underlying26 rfl C2 (by decide) rfl) ?_
   refine RS.o (D.load rfl Tryd.underlying2 rfl (B2.cell rfl)) ?_
   refine RS.call E82 (signedW _ hnum _) rfl (fun v14 w14 x14 A14 => ?_)
   replace hE := Ext.tr hE x14
   replace B2 := B2.ext x14
   replace O1 := O1.ext x14
   have zw14 := x14.size
   obtain ⟨a14, n14, c14, rfl, O2⟩ := A14
   have hnl := O2.len
   have hnb := S.numS_len (S.zig num)
   refine RS.norm (by dsimp only [List.set]) ?_
   refine RS.appendI O1 O2.row rfl rfl Tryd.underlying35 T5 rfl (by omega) (by decide) (by omega) (fun a15 c15 w15 N15 x15 => ?_)
   refine RS.norm (by dsimp only [List.set]) ?_
   replace hE := hE.trans (x15.below (by intros; try (first | (intro _ _) | (intro _) | skip); first | omega | (have hq := O1.lo _ (by assumption); first | omega | (dsimp only at *; omega))) (by intros; try (first | (intro _ _) | (intro _) | skip); first | omega | (dsimp only at *; omega) | (simp_all; done) | (simp at *; omega)))
   replace B2 := B2.pr x15 (by intros; try (first | (intro _ _) | (intro _) | skip); first | omega | (have hq := O1.lo _ (by assumption); first | omega | (dsimp only at *; omega)))
   have zw15 := x15.size
   replace O1 := N15
   refine RS.assign (v := .slice _ _ _) rfl ?_
   refine RS.nil ?_
   refine hK10 _ _ ?_
   try clear hK10
   refine wp_seq_k (fun K16 hK16 => ?_)
   refine region ?_
   refine RS.move (v := .slice _ _ _) rfl ?_
   refine RS.assign (v := .slice _ _ _) rfl ?_
   refine RS.assign (v := .int .i64 0) rfl ?_
   refine RS.nil ?_
   refine hK16 _ _ ?_
   try clear hK16
   refine wp_ret ?_
   refine ret (rs := [.tmp 2, .tmp 3]) (vs := [.slice _ _ _, .int _ _]) (v := (.tuple #[.slice _ _ _, .int _ _])) rfl ⟨rfl, rfl, trivial⟩ rfl ?_
   have e9 : S.valS k num bits t = [k] ++ S.numS (S.zig num) := by unfold S.valS; rw [if_pos (by omega)]
   rw [e9]
   refine ⟨_, rfl, hE, _, _, _, rfl, O1.base (fun k hk => by have := O1.lo k hk; omega)⟩
  ·refine wp_seq_k (fun K17 hK17 => ?_)
   refine region ?_
   refine RS.o (D.eq rfl rfl) ?_
   refine RS.assign (v := .bool _) rfl ?_
   refine RS.nil ?_
   refine hK17 _ _ ?_
   try clear hK17
   refine C.ife rfl (fun c18 => ?_) (fun c18 => ?_)
   ·refine wp_seq_k (fun K19 hK19 => ?_)
    refine region ?_
    refine RS.assign (v := .int .i64 56) rfl ?_
    refine RS.nil ?_
    refine hK19 _ _ ?_
    try clear hK19
    refine wp_block ?_
    refine C.loop (A := Int × Option Addr × Nat × Nat) (fun p => [(5, .slice p.2.1 p.2.2.1 p.2.2.2), (6, .int .i64 p.1)]) [28, 29, 30, 31, 32, 33, 34, 35, 36, 37, 38, 39] (fun p w' => Pr (fun k => w5.heap.size ≤ k) w9 w' ∧ ((-8 ≤ p.1 ∧ p.1 ≤ 56) ∧ p.1 % 8 = 0 ∧ IOwn w5.heap.size w' 5 .u8 p.2.1 p.2.2.1 p.2.2.2 ([k] ++ (S.be8 bits).take ((56 - p.1) / 8).toNat))) (fun p => (p.1 + 8).toNat) (56, some ⟨b9, 0, none⟩, 1, 1) (by kernel_rfl) ?_ ?_
    ·exact ⟨Pr.refl _ _, ⟨by dsimp only; omega, by dsimp only; omega⟩, by dsimp only; omega, by simpa using O1⟩
    ·rintro p j w20 ⟨x20, hI⟩
     replace hE := hE.trans (x20.below (by intros; try (first | (intro _ _) | (intro _) | skip); first | omega | (dsimp only at *; omega) | (simp_all; done) | (simp at *; omega)) (by intros; try (first | (intro _ _) | (intro _) | skip); first | omega | (dsimp only at *; omega) | (simp_all; done) | (simp at *; omega)))
     replace B2 := B2.pr x20 (by intros; try (first | (intro _ _) | (intro _) | skip); first | omega | (dsimp only at *; omega) | (simp_all; done) | (simp at *; omega))
     have zw20 := x20.size
     obtain ⟨i, ao, no, co⟩ := p
     dsimp only at hI
     obtain ⟨h1, h2, O1⟩ := hI
     have hol := O1.len
     simp only [List.length_append, List.length_singleton, List.length_take, S.be8_len] at hol
     refine C.norm (by simp only [upd, junk, List.map_cons, List.map_nil, List.set_cons_succ, List.set_cons_zero]; exact rfl) ?_
     refine wp_seq_k (fun K21 hK21 => ?_)
     refine wp_seq_k (fun K22 hK22 => ?_)
     refine region ?_
     refine RS.move (v := .int _ _) rfl ?_
     refine RS.o (D.ge rfl rfl) ?_
     refine RS.nil ?_
     refine hK22 _ _ ?_
     try clear hK22
     refine C.ifd rfl (fun c23 => ?_) (fun c23 => ?_)
     ·refine wp_skip ?_
      refine hK21 _ _ ?_
      try clear hK21
      refine wp_seq_k (fun K24 hK24 => ?_)
      refine wp_block ?_
      refine region ?_
      refine RS.move (v := .slice _ _ _) rfl ?_
      refine RS.o (D.fieldL 2 rfl Tryd.underlying26 rfl C24 (by decide) rfl) ?_
      refine RS.o (D.load rfl Tryd.underlying24 rfl (B2.cell rfl)) ?_
      refine RS.move (v := .int _ _) rfl ?_
      refine RS.ob (D.shr_u64 rfl rfl (by omega) (by constructor <;> omega)) (fun z25 => ?_)
      refine RS.o (D.conv rfl Tryd.underlying24 Tryd.underlying5 (W.u8m _)) ?_
      refine RS.buildSlice (xs := [.tmp 37]) (vs := [.int _ _]) (cs := [.int _ _]) Tryd.underlying35 T5 (by decide) rfl rfl rfl rfl rfl rfl (by intro v hv; simp only [List.mem_cons, List.not_mem_nil, or_false] at hv; subst hv; rfl) rfl (fun b26 w26 e26 s26 x26 B26 => ?_)
      refine RS.norm (by dsimp only [List.set]) ?_
      replace hE := Ext.tr hE x26
      replace x20 := x20.ext x26
      replace B2 := B2.ext x26
      replace O1 := O1.ext x26
      have zw26 := x26.size
      have Q1 : IRow .u8 (fun k => k = b26) w26 (some ⟨b26, 0, none⟩) 1 [_] := IRow.of_blk B26 rfl rfl rfl (.cons (by simp only [lim]; omega) (.nil _))
      refine RS.appendI O1 Q1 rfl rfl Tryd.underlying35 T5 rfl (by omega) (by decide) (by omega) (fun a27 c27 w27 N27 x27 => ?_)
      refine RS.norm (by dsimp only [List.set]) ?_
      replace hE := hE.trans (x27.below (by intros; try (first | (intro _ _) | (intro _) | skip); first | omega | (have hq := O1.lo _ (by assumption); first | omega | (dsimp only at *; omega))) (by intros; try (first | (intro _ _) | (intro _) | skip); first | omega | (dsimp only at *; omega) | (simp_all; done) | (simp at *; omega)))
      replace x20 := x20.prn x27 (by intros; try (first | (intro _ _) | (intro _) | skip); first | omega | (have hq := O1.lo _ (by assumption); first | omega | (dsimp only at *; omega)))
      replace B2 := B2.pr x27 (by intros; try (first | (intro _ _) | (intro _) | skip); first | omega | (have hq := O1.lo _ (by assumption); first | omega | (dsimp only at *; omega)))
      have zw27 := x27.size
      replace O1 := N27
      refine RS.assign (v := .slice _ _ _) rfl ?_
      refine RS.nil ?_
      refine hK24 _ _ ?_
      try clear hK24
      refine region ?_
      refine RS.move (v := .int _ _) rfl ?_
      refine RS.o (D.sub rfl rfl (W.i64 (by omega))) ?_
      refine RS.assign (v := .int _ _) rfl ?_
      refine RS.nil ?_
      change Nx _ _ _ _ _ _ _ _
      refine C.next (i - 8, _, _, _) ⟨rfl, rfl, trivial⟩ (by kernel_rfl) ?_ ?_
      ·refine ⟨x20, ⟨by dsimp only; omega, by dsimp only; omega⟩, by dsimp only; omega, ?_⟩
       dsimp only
       rw [S.be8_snoc _ _ (by omega) h2, ← List.append_assoc]
       exact O1
      ·dsimp only; omega
     ·have hneg := c23
      rw [show i = -8 by omega, show ((56 - (-8 : Int)) / 8).toNat = 8 from rfl, List.take_of_length_le (by rw [S.be8_len]; exact Nat.le_refl _)] at O1
      refine wp_exit ?_
      refine hK10 _ _ ?_
      try clear hK10
      refine wp_seq_k (fun K28 hK28 => ?_)
      refine region ?_
      refine RS.move (v := .slice _ _ _) rfl ?_
      refine RS.assign (v := .slice _ _ _) rfl ?_
      refine RS.assign (v := .int .i64 0) rfl ?_
      refine RS.nil ?_
      refine hK28 _ _ ?_
      try clear hK28
      refine wp_ret ?_
      refine ret (rs := [.tmp 2, .tmp 3]) (vs := [.slice _ _ _, .int _ _]) (v := (.tuple #[.slice _ _ _, .int _ _])) rfl ⟨rfl, rfl, trivial⟩ rfl ?_
      have e9 : S.valS k num bits t = [k] ++ S.be8 bits := by unfold S.valS; rw [if_neg (by omega), if_pos (by omega)]
      rw [e9]
      refine ⟨_, rfl, hE, _, _, _, rfl, O1.base (fun k hk => by have := O1.lo k hk; omega)⟩
   ·refine wp_seq_k (fun K29 hK29 => ?_)
    refine region ?_
    refine RS.o (D.eq rfl rfl) ?_
    refine RS.assign (v := .bool _) rfl ?_
    refine RS.nil ?_
    refine hK29 _ _ ?_
    try clear hK29
    refine C.ife rfl (fun c30 => ?_) (fun c30 => ?_)
    ·refine wp_seq_k (fun K31 hK31 => ?_)
     refine region ?_
     refine RS.o (D.fieldL 3 rfl Tryd.underlying26 rfl C9 (by decide) rfl) ?_
     refine RS.o (D.load rfl Tryd.underlying9 rfl (B2.cell rfl)) ?_
     refine RS.convSB rfl Tryd.underlying9 Tryd.underlying35 Tryd.underlying5 (fun a32 c32 w32 x32 g32 s32 R32 => ?_)
     refine RS.norm (by dsimp only [List.set]) ?_
     replace hE := Ext.tr hE x32
     replace B2 := B2.ext x32
     replace O1 := O1.ext x32
     have zw32 := x32.size
     have RT := R32
     refine RS.call E45 (bytesW _ _ _ _ _ RT (by omega)) rfl (fun v33 w33 x33 A33 => ?_)
     replace hE := Ext.tr hE x33
     replace B2 := B2.ext x33
     replace O1 := O1.ext x33
     replace RT := RT.ext x33
     have zw33 := x33.size
     obtain ⟨a33, n33, c33, rfl, O2⟩ := A33
     have hnl := O2.len
     have hnb := S.numS_len (t.size : Int)
     rw [List.length_append, bys_len] at hnl
     refine RS.norm (by dsimp only [List.set]) ?_
     refine RS.move (v := .tuple _) rfl ?_
     refine RS.extract (v := .slice _ _ _) rfl rfl ?_
     refine RS.extract (v := .int _ _) rfl rfl ?_
     refine RS.assign (v := .slice _ _ _) rfl ?_
     refine RS.assign (v := .int _ _) rfl ?_
     refine RS.nil ?_
     refine hK31 _ _ ?_
     try clear hK31
     refine region ?_
     refine RS.move (v := .slice _ _ _) rfl ?_
     refine RS.move (v := .slice _ _ _) rfl ?_
     refine RS.appendI O1 O2.row rfl rfl Tryd.underlying35 T5 rfl (by omega) (by decide) (by omega) (fun a34 c34 w34 N34 x34 => ?_)
     refine RS.norm (by dsimp only [List.set]) ?_
     replace hE := hE.trans (x34.below (by intros; try (first | (intro _ _) | (intro _) | skip); first | omega | (have hq := O1.lo _ (by assumption); first | omega | (dsimp only at *; omega))) (by intros; try (first | (intro _ _) | (intro _) | skip); first | omega | (dsimp only at *; omega) | (simp_all; done) | (simp at *; omega)))
     replace B2 := B2.pr x34 (by intros; try (first | (intro _ _) | (intro _) | skip); first | omega | (have hq := O1.lo _ (by assumption); first | omega | (dsimp only at *; omega)))
     have zw34 := x34.size
     replace O1 := N34
     refine RS.assign (v := .slice _ _ _) rfl ?_
     refine RS.nil ?_
     refine hK10 _ _ ?_
     try clear hK10
     refine wp_seq_k (fun K35 hK35 => ?_)
     refine region ?_
     refine RS.move (v := .slice _ _ _) rfl ?_
     refine RS.assign (v := .slice _ _ _) rfl ?_
     refine RS.assign (v := .int .i64 0) rfl ?_
     refine RS.nil ?_
     refine hK35 _ _ ?_
     try clear hK35
     refine wp_ret ?_
     refine ret (rs := [.tmp 2, .tmp 3]) (vs := [.slice _ _ _, .int _ _]) (v := (.tuple #[.slice _ _ _, .int _ _])) rfl ⟨rfl, rfl, trivial⟩ rfl ?_
     have e9 : S.valS k num bits t = [k] ++ (S.numS t.size ++ bys t) := by unfold S.valS; rw [if_neg (by omega), if_neg (by omega), if_pos (by omega)]
     rw [e9]
     refine ⟨_, rfl, hE, _, _, _, rfl, O1.base (fun k hk => by have := O1.lo k hk; omega)⟩
    ·exfalso; omega
end Go.Proofs.YtiohpiiiapjblaaDoor.W
namespace Go.Proofs.YtiohpiiiapjblaaDoor.W
open Go.RowKit Go.Proofs.YtiohpiiiapjblaaDoor.G
set_option linter.unusedVariables false
set_option maxRecDepth 20000
set_option maxHeartbeats 8000000
attribute [local irreducible] RS RX
theorem C28 : Tryd.prog.cellsOf 28 = 6 := by kernel_rfl
theorem T28 : TI Tryd.prog 28 6 64 [.int .u8 0, .string .empty, .int .u8 0, .int .i64 0, .int .u64 0, .string .empty] := by
 have h : (Tryd.prog.info? 28).map (fun i => (i.size, i.bytes, i.zero)) = some (6, 64, some (.agg #[.int .u8 0, .string .empty, .int .u8 0, .int .i64 0, .int .u64 0, .string .empty])) := by kernel_rfl
 exact TI.of h rfl
theorem F28 : SI Tryd.prog 28 [(0, 1), (1, 1), (2, 4)] := ⟨_, Tryd.underlying28, by kernel_rfl, by kernel_rfl⟩
theorem E51 : Enters Tryd.prog 51 := .mk Tryd.func51 (by kernel_rfl) rfl
theorem checkAct (k vk num bits : Int) (ky t : ByteArray) (hk : 0 ≤ k ∧ k < 256) (hvk : 0 ≤ vk ∧ vk < 256) (hnum : -9223372036854775808 ≤ num ∧ num ≤ 9223372036854775807) (hb : 0 ≤ bits ∧ bits < 18446744073709551616) (hkey : ky.size ≤ 100000) (ht : t.size ≤ 100000) (w : World) :
  Calls Tryd.prog 18 #[.agg ([.int .u8 k, .string ky, .int .u8 vk, .int .i64 num, .int .u64 bits, .string t] : List Value).toArray] w (Ret w fun v _ => v = .int .i64 (S.actE k ky vk num bits t)) := by
 have hE := Ext.refl w
 refine enter (args := [.agg ([.int .u8 k, .string ky, .int .u8 vk, .int .i64 num, .int .u64 bits, .string t] : List Value).toArray]) (l := [.agg ([.int .u8 k, .string ky, .int .u8 vk, .int .i64 num, .int .u64 bits, .string t] : List Value).toArray, undef, undef, undef, undef, undef, undef, undef, undef, undef, undef, undef, undef, undef, undef, undef, undef, undef, undef, undef, undef, undef, undef, undef, undef, undef, undef, undef, undef, undef, undef, undef, undef, undef, undef, undef]) Tryd.func18 rfl rfl ?_
 refine wp_seq_k (fun K1 hK1 => ?_)
 refine region ?_
 refine RS.box rfl rfl (fun b2 w2 e2 s2 x2 B2 => ?_)
 refine RS.norm (by dsimp only [List.set]) ?_
 replace hE := Ext.tr hE x2
 have zw2 := x2.size
 refine RS.assign (v := .int .i64 0) rfl ?_
 refine RS.nil ?_
 refine hK1 _ _ ?_
 try clear hK1
 refine wp_seq_k (fun K3 hK3 => ?_)
 refine region ?_
 refine RS.assign (v := .bool false) rfl ?_
 refine RS.nil ?_
 refine hK3 _ _ ?_
 try clear hK3
 refine wp_seq_k (fun K4 hK4 => ?_)
 refine wp_seq_k (fun K5 hK5 => ?_)
 refine region ?_
 refine RS.o (D.fieldL 0 rfl Tryd.underlying28 rfl C5 (by decide) rfl) ?_
 refine RS.o (D.load rfl Tryd.underlying5 rfl (B2.cell rfl)) ?_
 refine RS.nil ?_
 refine hK5 _ _ ?_
 try clear hK5
 refine wp_block ?_
 refine wp_seq_k (fun K6 hK6 => ?_)
 refine region ?_
 refine RS.o (D.eq rfl rfl) ?_
 refine RS.assign (v := .bool _) rfl ?_
 refine RS.nil ?_
 refine hK6 _ _ ?_
 try clear hK6
 refine C.ife rfl (fun c7 => ?_) (fun c7 => ?_)
 ·refine region ?_
  refine RS.o (D.loadAgg rfl Tryd.underlying28 rfl C28 (by decide) rfl (B2.cellsN 6 rfl)) ?_
  refine RS.o (D.buildS T28 F28 (ps := [(0, .int _ _)]) rfl rfl) ?_
  refine RS.o (D.eqA rfl rfl Tryd.underlying28 rfl (by kernel_rfl) (by kernel_rfl) (by kernel_rfl)) ?_
  refine RS.assign (v := .bool _) rfl ?_
  refine RS.nil ?_
  refine hK4 _ _ ?_
  try clear hK4
  refine wp_seq_k (fun K8 hK8 => ?_)
  refine wp_seq_k (fun K9 hK9 => ?_)
  refine region ?_
  refine RS.move (v := .bool _) rfl ?_
  refine RS.o (D.not rfl) ?_
  refine RS.nil ?_
  refine hK9 _ _ ?_
  try clear hK9
  refine C.ifnot rfl (fun c10 => ?_) (fun c10 => ?_)
  ·first | (have hqa := of_decide_eq_false ((S.eqA6 _ _ _ _ _ _ _ _ _ _ _ _).symm.trans c10)) | (have hqa := of_decide_eq_false ((S.eqV _ _ _ _ _ _ _ _).symm.trans c10)) | (have hqa := of_decide_eq_false ((strEq _ _).symm.trans c10)) | (have hqa := of_decide_eq_false c10) | (have hqa := c10)
   refine wp_seq_k (fun K11 hK11 => ?_)
   refine region ?_
   refine RS.assign (v := .int .i64 8) rfl ?_
   refine RS.nil ?_
   refine hK11 _ _ ?_
   try clear hK11
   refine wp_ret ?_
   refine ret (rs := [.tmp 2]) (vs := [.int _ _]) (v := (.int _ _)) rfl ⟨rfl, trivial⟩ rfl ?_
   refine ⟨_, rfl, hE, congrArg (Value.int .i64) ?_⟩
   first | (refine S.actE_pos ?_; grind [S.FineAct, S.valE_zero]) | (refine S.actE_neg ?_; grind [S.FineAct, S.valE_zero])
  ·first | (have hqa := of_decide_eq_true ((S.eqA6 _ _ _ _ _ _ _ _ _ _ _ _).symm.trans c10)) | (have hqa := of_decide_eq_true ((S.eqV _ _ _ _ _ _ _ _).symm.trans c10)) | (have hqa := of_decide_eq_true ((strEq _ _).symm.trans c10)) | (have hqa := of_decide_eq_true c10) | (have hqa := c10)
   refine wp_skip ?_
   refine hK8 _ _ ?_
   try clear hK8
   refine wp_seq_k (fun K12 hK12 => ?_)
   refine region ?_
   refine RS.assign (v := .int .i64 0) rfl ?_
   refine RS.nil ?_
   refine hK12 _ _ ?_
   try clear hK12
   refine wp_ret ?_
   refine ret (rs := [.tmp 2]) (vs := [.int _ _]) (v := (.int _ _)) rfl ⟨rfl, trivial⟩ rfl ?_
   refine ⟨_, rfl, hE, congrArg (Value.int .i64) ?_⟩
   first | (refine S.actE_pos ?_; grind [S.FineAct, S.valE_zero]) | (refine S.actE_neg ?_; grind [S.FineAct, S.valE_zero])
 ·refine wp_seq_k (fun K13 hK13 => ?_)
  refine wp_seq_k (fun K14 hK14 => ?_)
  refine region ?_
  refine RS.o (D.eq rfl rfl) ?_
  refine RS.assign (v := .bool _) rfl ?_
  refine RS.nil ?_
  refine hK14 _ _ ?_
  try clear hK14
  refine C.ife rfl (fun c15 => ?_) (fun c15 => ?_)
  ·refine wp_skip ?_
   refine hK13 _ _ ?_
   try clear hK13
   refine C.ifb rfl (fun z16 => ?_) (fun z16 => ?_)
   ·refine region ?_
    refine RS.o (D.fieldL 1 rfl Tryd.underlying28 rfl C9 (by decide) rfl) ?_
    refine RS.o (D.load rfl Tryd.underlying9 rfl (B2.cell rfl)) ?_
    refine RS.call E51 (key _ _) rfl (fun v17 w17 x17 A17 => ?_)
    replace hE := Ext.tr hE x17
    replace B2 := B2.ext x17
    have zw17 := x17.size
    subst A17
    refine RS.norm (by dsimp only [List.set]) ?_
    refine RS.move (v := .bool _) rfl ?_
    refine RS.splitb 17 rfl rfl (fun c18 => ?_) (fun c18 => ?_)
    ·refine RS.norm (by dsimp only [List.set]) ?_
     have hkt := of_decide_eq_true c18
     refine RS.wantB 17 rfl rfl rfl ?_
     refine RS.o (D.fieldL 2 rfl Tryd.underlying28 rfl C26 (by decide) rfl) ?_
     refine RS.wantB 17 rfl rfl rfl ?_
     refine RS.o (D.loadAgg rfl Tryd.underlying26 rfl C26 (by decide) rfl (B2.cellsN 4 rfl)) ?_
     refine RS.wantB 17 rfl rfl rfl ?_
     refine RS.o (D.buildS T26 F26 (ps := []) rfl rfl) ?_
     refine RS.wantB 17 rfl rfl rfl ?_
     refine RS.o (D.eqA rfl rfl Tryd.underlying26 rfl (by kernel_rfl) (by kernel_rfl) (by kernel_rfl)) ?_
     refine RS.pick (v := .bool _) rfl rfl ?_
     refine RS.assign (v := .bool _) rfl ?_
     refine RS.nil ?_
     refine hK4 _ _ ?_
     try clear hK4
     refine wp_seq_k (fun K19 hK19 => ?_)
     refine wp_seq_k (fun K20 hK20 => ?_)
     refine region ?_
     refine RS.move (v := .bool _) rfl ?_
     refine RS.o (D.not rfl) ?_
     refine RS.nil ?_
     refine hK20 _ _ ?_
     try clear hK20
     refine C.ifnot rfl (fun c21 => ?_) (fun c21 => ?_)
     ·first | (have hqa := of_decide_eq_false ((S.eqA6 _ _ _ _ _ _ _ _ _ _ _ _).symm.trans c21)) | (have hqa := of_decide_eq_false ((S.eqV _ _ _ _ _ _ _ _).symm.trans c21)) | (have hqa := of_decide_eq_false ((strEq _ _).symm.trans c21)) | (have hqa := of_decide_eq_false c21) | (have hqa := c21)
      refine wp_seq_k (fun K22 hK22 => ?_)
      refine region ?_
      refine RS.assign (v := .int .i64 8) rfl ?_
      refine RS.nil ?_
      refine hK22 _ _ ?_
      try clear hK22
      refine wp_ret ?_
      refine ret (rs := [.tmp 2]) (vs := [.int _ _]) (v := (.int _ _)) rfl ⟨rfl, trivial⟩ rfl ?_
      refine ⟨_, rfl, hE, congrArg (Value.int .i64) ?_⟩
      first | (refine S.actE_pos ?_; grind [S.FineAct, S.valE_zero]) | (refine S.actE_neg ?_; grind [S.FineAct, S.valE_zero])
     ·first | (have hqa := of_decide_eq_true ((S.eqA6 _ _ _ _ _ _ _ _ _ _ _ _).symm.trans c21)) | (have hqa := of_decide_eq_true ((S.eqV _ _ _ _ _ _ _ _).symm.trans c21)) | (have hqa := of_decide_eq_true ((strEq _ _).symm.trans c21)) | (have hqa := of_decide_eq_true c21) | (have hqa := c21)
      refine wp_skip ?_
      refine hK19 _ _ ?_
      try clear hK19
      refine wp_seq_k (fun K23 hK23 => ?_)
      refine region ?_
      refine RS.assign (v := .int .i64 0) rfl ?_
      refine RS.nil ?_
      refine hK23 _ _ ?_
      try clear hK23
      refine wp_ret ?_
      refine ret (rs := [.tmp 2]) (vs := [.int _ _]) (v := (.int _ _)) rfl ⟨rfl, trivial⟩ rfl ?_
      refine ⟨_, rfl, hE, congrArg (Value.int .i64) ?_⟩
      first | (refine S.actE_pos ?_; grind [S.FineAct, S.valE_zero]) | (refine S.actE_neg ?_; grind [S.FineAct, S.valE_zero])
    ·refine RS.norm (by dsimp only [List.set]) ?_
     have hkf := of_decide_eq_false c18
     refine RS.skipB (b := false) 17 rfl rfl rfl rfl ?_
     refine RS.norm (by dsimp only [putL, List.set]) ?_
     refine RS.skipB (b := false) 17 rfl rfl rfl rfl ?_
     refine RS.norm (by dsimp only [putL, List.set]) ?_
     refine RS.skipB (b := false) 17 rfl rfl rfl rfl ?_
     refine RS.norm (by dsimp only [putL, List.set]) ?_
     refine RS.skipB (b := false) 17 rfl rfl rfl rfl ?_
     refine RS.norm (by dsimp only [putL, List.set]) ?_
     refine RS.pick (v := .bool false) rfl rfl ?_
     refine RS.assign (v := .bool _) rfl ?_
     refine RS.nil ?_
     refine hK4 _ _ ?_
     try clear hK4
     refine wp_seq_k (fun K24 hK24 => ?_)
     refine wp_seq_k (fun K25 hK25 => ?_)
     refine region ?_
     refine RS.move (v := .bool _) rfl ?_
     refine RS.o (D.not rfl) ?_
     refine RS.nil ?_
     refine hK25 _ _ ?_
     try clear hK25
     refine C.ifnot rfl (fun c26 => ?_) (fun c26 => ?_)
     ·first | (have hqa := of_decide_eq_false ((S.eqA6 _ _ _ _ _ _ _ _ _ _ _ _).symm.trans c26)) | (have hqa := of_decide_eq_false ((S.eqV _ _ _ _ _ _ _ _).symm.trans c26)) | (have hqa := of_decide_eq_false ((strEq _ _).symm.trans c26)) | (have hqa := of_decide_eq_false c26) | (have hqa := c26)
      refine wp_seq_k (fun K27 hK27 => ?_)
      refine region ?_
      refine RS.assign (v := .int .i64 8) rfl ?_
      refine RS.nil ?_
      refine hK27 _ _ ?_
      try clear hK27
      refine wp_ret ?_
      refine ret (rs := [.tmp 2]) (vs := [.int _ _]) (v := (.int _ _)) rfl ⟨rfl, trivial⟩ rfl ?_
      refine ⟨_, rfl, hE, congrArg (Value.int .i64) ?_⟩
      first | (refine S.actE_pos ?_; grind [S.FineAct, S.valE_zero]) | (refine S.actE_neg ?_; grind [S.FineAct, S.valE_zero])
     ·first | (have hqa := of_decide_eq_true ((S.eqA6 _ _ _ _ _ _ _ _ _ _ _ _).symm.trans c26)) | (have hqa := of_decide_eq_true ((S.eqV _ _ _ _ _ _ _ _).symm.trans c26)) | (have hqa := of_decide_eq_true ((strEq _ _).symm.trans c26)) | (have hqa := of_decide_eq_true c26) | (have hqa := c26)
      refine wp_skip ?_
      refine hK24 _ _ ?_
      try clear hK24
      refine wp_seq_k (fun K28 hK28 => ?_)
      refine region ?_
      refine RS.assign (v := .int .i64 0) rfl ?_
      refine RS.nil ?_
      refine hK28 _ _ ?_
      try clear hK28
      refine wp_ret ?_
      refine ret (rs := [.tmp 2]) (vs := [.int _ _]) (v := (.int _ _)) rfl ⟨rfl, trivial⟩ rfl ?_
      refine ⟨_, rfl, hE, congrArg (Value.int .i64) ?_⟩
      first | (refine S.actE_pos ?_; grind [S.FineAct, S.valE_zero]) | (refine S.actE_neg ?_; grind [S.FineAct, S.valE_zero])
   ·exact absurd z16 (by first | (simp [c15]; done) | (simp_all; done) | omega)
  ·refine region ?_
   refine RS.o (D.eq rfl rfl) ?_
   refine RS.assign (v := .bool _) rfl ?_
   refine RS.nil ?_
   refine hK13 _ _ ?_
   try clear hK13
   refine C.ife rfl (fun c29 => ?_) (fun c29 => ?_)
   ·refine region ?_
    refine RS.o (D.fieldL 1 rfl Tryd.underlying28 rfl C9 (by decide) rfl) ?_
    refine RS.o (D.load rfl Tryd.underlying9 rfl (B2.cell rfl)) ?_
    refine RS.call E51 (key _ _) rfl (fun v30 w30 x30 A30 => ?_)
    replace hE := Ext.tr hE x30
    replace B2 := B2.ext x30
    have zw30 := x30.size
    subst A30
    refine RS.norm (by dsimp only [List.set]) ?_
    refine RS.move (v := .bool _) rfl ?_
    refine RS.splitb 17 rfl rfl (fun c31 => ?_) (fun c31 => ?_)
    ·refine RS.norm (by dsimp only [List.set]) ?_
     have hkt := of_decide_eq_true c31
     refine RS.wantB 17 rfl rfl rfl ?_
     refine RS.o (D.fieldL 2 rfl Tryd.underlying28 rfl C26 (by decide) rfl) ?_
     refine RS.wantB 17 rfl rfl rfl ?_
     refine RS.o (D.loadAgg rfl Tryd.underlying26 rfl C26 (by decide) rfl (B2.cellsN 4 rfl)) ?_
     refine RS.wantB 17 rfl rfl rfl ?_
     refine RS.o (D.buildS T26 F26 (ps := []) rfl rfl) ?_
     refine RS.wantB 17 rfl rfl rfl ?_
     refine RS.o (D.eqA rfl rfl Tryd.underlying26 rfl (by kernel_rfl) (by kernel_rfl) (by kernel_rfl)) ?_
     refine RS.pick (v := .bool _) rfl rfl ?_
     refine RS.assign (v := .bool _) rfl ?_
     refine RS.nil ?_
     refine hK4 _ _ ?_
     try clear hK4
     refine wp_seq_k (fun K32 hK32 => ?_)
     refine wp_seq_k (fun K33 hK33 => ?_)
     refine region ?_
     refine RS.move (v := .bool _) rfl ?_
     refine RS.o (D.not rfl) ?_
     refine RS.nil ?_
     refine hK33 _ _ ?_
     try clear hK33
     refine C.ifnot rfl (fun c34 => ?_) (fun c34 => ?_)
     ·first | (have hqa := of_decide_eq_false ((S.eqA6 _ _ _ _ _ _ _ _ _ _ _ _).symm.trans c34)) | (have hqa := of_decide_eq_false ((S.eqV _ _ _ _ _ _ _ _).symm.trans c34)) | (have hqa := of_decide_eq_false ((strEq _ _).symm.trans c34)) | (have hqa := of_decide_eq_false c34) | (have hqa := c34)
      refine wp_seq_k (fun K35 hK35 => ?_)
      refine region ?_
      refine RS.assign (v := .int .i64 8) rfl ?_
      refine RS.nil ?_
      refine hK35 _ _ ?_
      try clear hK35
      refine wp_ret ?_
      refine ret (rs := [.tmp 2]) (vs := [.int _ _]) (v := (.int _ _)) rfl ⟨rfl, trivial⟩ rfl ?_
      refine ⟨_, rfl, hE, congrArg (Value.int .i64) ?_⟩
      first | (refine S.actE_pos ?_; grind [S.FineAct, S.valE_zero]) | (refine S.actE_neg ?_; grind [S.FineAct, S.valE_zero])
     ·first | (have hqa := of_decide_eq_true ((S.eqA6 _ _ _ _ _ _ _ _ _ _ _ _).symm.trans c34)) | (have hqa := of_decide_eq_true ((S.eqV _ _ _ _ _ _ _ _).symm.trans c34)) | (have hqa := of_decide_eq_true ((strEq _ _).symm.trans c34)) | (have hqa := of_decide_eq_true c34) | (have hqa := c34)
      refine wp_skip ?_
      refine hK32 _ _ ?_
      try clear hK32
      refine wp_seq_k (fun K36 hK36 => ?_)
      refine region ?_
      refine RS.assign (v := .int .i64 0) rfl ?_
      refine RS.nil ?_
      refine hK36 _ _ ?_
      try clear hK36
      refine wp_ret ?_
      refine ret (rs := [.tmp 2]) (vs := [.int _ _]) (v := (.int _ _)) rfl ⟨rfl, trivial⟩ rfl ?_
      refine ⟨_, rfl, hE, congrArg (Value.int .i64) ?_⟩
      first | (refine S.actE_pos ?_; grind [S.FineAct, S.valE_zero]) | (refine S.actE_neg ?_; grind [S.FineAct, S.valE_zero])
    ·refine RS.norm (by dsimp only [List.set]) ?_
     have hkf := of_decide_eq_false c31
     refine RS.skipB (b := false) 17 rfl rfl rfl rfl ?_
     refine RS.norm (by dsimp only [putL, List.set]) ?_
     refine RS.skipB (b := false) 17 rfl rfl rfl rfl ?_
     refine RS.norm (by dsimp only [putL, List.set]) ?_
     refine RS.skipB (b := false) 17 rfl rfl rfl rfl ?_
     refine RS.norm (by dsimp only [putL, List.set]) ?_
     refine RS.skipB (b := false) 17 rfl rfl rfl rfl ?_
     refine RS.norm (by dsimp only [putL, List.set]) ?_
     refine RS.pick (v := .bool false) rfl rfl ?_
     refine RS.assign (v := .bool _) rfl ?_
     refine RS.nil ?_
     refine hK4 _ _ ?_
     try clear hK4
     refine wp_seq_k (fun K37 hK37 => ?_)
     refine wp_seq_k (fun K38 hK38 => ?_)
     refine region ?_
     refine RS.move (v := .bool _) rfl ?_
     refine RS.o (D.not rfl) ?_
     refine RS.nil ?_
     refine hK38 _ _ ?_
     try clear hK38
     refine C.ifnot rfl (fun c39 => ?_) (fun c39 => ?_)
     ·first | (have hqa := of_decide_eq_false ((S.eqA6 _ _ _ _ _ _ _ _ _ _ _ _).symm.trans c39)) | (have hqa := of_decide_eq_false ((S.eqV _ _ _ _ _ _ _ _).symm.trans c39)) | (have hqa := of_decide_eq_false ((strEq _ _).symm.trans c39)) | (have hqa := of_decide_eq_false c39) | (have hqa := c39)
      refine wp_seq_k (fun K40 hK40 => ?_)
      refine region ?_
      refine RS.assign (v := .int .i64 8) rfl ?_
      refine RS.nil ?_
      refine hK40 _ _ ?_
      try clear hK40
      refine wp_ret ?_
      refine ret (rs := [.tmp 2]) (vs := [.int _ _]) (v := (.int _ _)) rfl ⟨rfl, trivial⟩ rfl ?_
      refine ⟨_, rfl, hE, congrArg (Value.int .i64) ?_⟩
      first | (refine S.actE_pos ?_; grind [S.FineAct, S.valE_zero]) | (refine S.actE_neg ?_; grind [S.FineAct, S.valE_zero])
     ·first | (have hqa := of_decide_eq_true ((S.eqA6 _ _ _ _ _ _ _ _ _ _ _ _).symm.trans c39)) | (have hqa := of_decide_eq_true ((S.eqV _ _ _ _ _ _ _ _).symm.trans c39)) | (have hqa := of_decide_eq_true ((strEq _ _).symm.trans c39)) | (have hqa := of_decide_eq_true c39) | (have hqa := c39)
      refine wp_skip ?_
      refine hK37 _ _ ?_
      try clear hK37
      refine wp_seq_k (fun K41 hK41 => ?_)
      refine region ?_
      refine RS.assign (v := .int .i64 0) rfl ?_
      refine RS.nil ?_
      refine hK41 _ _ ?_
      try clear hK41
      refine wp_ret ?_
      refine ret (rs := [.tmp 2]) (vs := [.int _ _]) (v := (.int _ _)) rfl ⟨rfl, trivial⟩ rfl ?_
      refine ⟨_, rfl, hE, congrArg (Value.int .i64) ?_⟩
      first | (refine S.actE_pos ?_; grind [S.FineAct, S.valE_zero]) | (refine S.actE_neg ?_; grind [S.FineAct, S.valE_zero])
   ·refine wp_seq_k (fun K42 hK42 => ?_)
    refine region ?_
    refine RS.o (D.eq rfl rfl) ?_
    refine RS.assign (v := .bool _) rfl ?_
    refine RS.nil ?_
    refine hK42 _ _ ?_
    try clear hK42
    refine C.ife rfl (fun c43 => ?_) (fun c43 => ?_)
    ·refine region ?_
     refine RS.o (D.fieldL 1 rfl Tryd.underlying28 rfl C9 (by decide) rfl) ?_
     refine RS.o (D.load rfl Tryd.underlying9 rfl (B2.cell rfl)) ?_
     refine RS.call E51 (key _ _) rfl (fun v44 w44 x44 A44 => ?_)
     replace hE := Ext.tr hE x44
     replace B2 := B2.ext x44
     have zw44 := x44.size
     subst A44
     refine RS.norm (by dsimp only [List.set]) ?_
     refine RS.move (v := .bool _) rfl ?_
     refine RS.splitb 28 rfl rfl (fun c45 => ?_) (fun c45 => ?_)
     ·refine RS.norm (by dsimp only [List.set]) ?_
      have hkt := of_decide_eq_true c45
      refine RS.wantB 28 rfl rfl rfl ?_
      refine RS.o (D.fieldL 2 rfl Tryd.underlying28 rfl C26 (by decide) rfl) ?_
      refine RS.wantB 28 rfl rfl rfl ?_
      refine RS.o (D.loadAgg rfl Tryd.underlying26 rfl C26 (by decide) rfl (B2.cellsN 4 rfl)) ?_
      refine RS.wantB 28 rfl rfl rfl ?_
      refine RS.call E52 (checkV _ _ _ _ hvk hnum hb _) rfl (fun v46 w46 x46 A46 => ?_)
      replace hE := Ext.tr hE x46
      replace B2 := B2.ext x46
      have zw46 := x46.size
      subst A46
      refine RS.norm (by dsimp only [List.set]) ?_
      refine RS.wantB 28 rfl rfl rfl ?_
      refine RS.o (D.eq rfl rfl) ?_
      refine RS.pick (v := .bool _) rfl rfl ?_
      refine RS.assign (v := .bool _) rfl ?_
      refine RS.nil ?_
      refine hK4 _ _ ?_
      try clear hK4
      refine wp_seq_k (fun K47 hK47 => ?_)
      refine wp_seq_k (fun K48 hK48 => ?_)
      refine region ?_
      refine RS.move (v := .bool _) rfl ?_
      refine RS.o (D.not rfl) ?_
      refine RS.nil ?_
      refine hK48 _ _ ?_
      try clear hK48
      refine C.ifnot rfl (fun c49 => ?_) (fun c49 => ?_)
      ·first | (have hqa := of_decide_eq_false ((S.eqA6 _ _ _ _ _ _ _ _ _ _ _ _).symm.trans c49)) | (have hqa := of_decide_eq_false ((S.eqV _ _ _ _ _ _ _ _).symm.trans c49)) | (have hqa := of_decide_eq_false ((strEq _ _).symm.trans c49)) | (have hqa := of_decide_eq_false c49) | (have hqa := c49)
       refine wp_seq_k (fun K50 hK50 => ?_)
       refine region ?_
       refine RS.assign (v := .int .i64 8) rfl ?_
       refine RS.nil ?_
       refine hK50 _ _ ?_
       try clear hK50
       refine wp_ret ?_
       refine ret (rs := [.tmp 2]) (vs := [.int _ _]) (v := (.int _ _)) rfl ⟨rfl, trivial⟩ rfl ?_
       refine ⟨_, rfl, hE, congrArg (Value.int .i64) ?_⟩
       first | (refine S.actE_pos ?_; grind [S.FineAct, S.valE_zero]) | (refine S.actE_neg ?_; grind [S.FineAct, S.valE_zero])
      ·first | (have hqa := of_decide_eq_true ((S.eqA6 _ _ _ _ _ _ _ _ _ _ _ _).symm.trans c49)) | (have hqa := of_decide_eq_true ((S.eqV _ _ _ _ _ _ _ _).symm.trans c49)) | (have hqa := of_decide_eq_true ((strEq _ _).symm.trans c49)) | (have hqa := of_decide_eq_true c49) | (have hqa := c49)
       refine wp_skip ?_
       refine hK47 _ _ ?_
       try clear hK47
       refine wp_seq_k (fun K51 hK51 => ?_)
       refine region ?_
       refine RS.assign (v := .int .i64 0) rfl ?_
       refine RS.nil ?_
       refine hK51 _ _ ?_
       try clear hK51
       refine wp_ret ?_
       refine ret (rs := [.tmp 2]) (vs := [.int _ _]) (v := (.int _ _)) rfl ⟨rfl, trivial⟩ rfl ?_
       refine ⟨_, rfl, hE, congrArg (Value.int .i64) ?_⟩
       first | (refine S.actE_pos ?_; grind [S.FineAct, S.valE_zero]) | (refine S.actE_neg ?_; grind [S.FineAct, S.valE_zero])
     ·refine RS.norm (by dsimp only [List.set]) ?_
      have hkf := of_decide_eq_false c45
      refine RS.skipB (b := false) 28 rfl rfl rfl rfl ?_
      refine RS.norm (by dsimp only [putL, List.set]) ?_
      refine RS.skipB (b := false) 28 rfl rfl rfl rfl ?_
      refine RS.norm (by dsimp only [putL, List.set]) ?_
      refine RS.skipB (b := false) 28 rfl rfl rfl rfl ?_
      refine RS.norm (by dsimp only [putL, List.set]) ?_
      refine RS.skipB (b := false) 28 rfl rfl rfl rfl ?_
      refine RS.norm (by dsimp only [putL, List.set]) ?_
      refine RS.pick (v := .bool false) rfl rfl ?_
      refine RS.assign (v := .bool _) rfl ?_
      refine RS.nil ?_
      refine hK4 _ _ ?_
      try clear hK4
      refine wp_seq_k (fun K52 hK52 => ?_)
      refine wp_seq_k (fun K53 hK53 => ?_)
      refine region ?_
      refine RS.move (v := .bool _) rfl ?_
      refine RS.o (D.not rfl) ?_
      refine RS.nil ?_
      refine hK53 _ _ ?_
      try clear hK53
      refine C.ifnot rfl (fun c54 => ?_) (fun c54 => ?_)
      ·first | (have hqa := of_decide_eq_false ((S.eqA6 _ _ _ _ _ _ _ _ _ _ _ _).symm.trans c54)) | (have hqa := of_decide_eq_false ((S.eqV _ _ _ _ _ _ _ _).symm.trans c54)) | (have hqa := of_decide_eq_false ((strEq _ _).symm.trans c54)) | (have hqa := of_decide_eq_false c54) | (have hqa := c54)
       refine wp_seq_k (fun K55 hK55 => ?_)
       refine region ?_
       refine RS.assign (v := .int .i64 8) rfl ?_
       refine RS.nil ?_
       refine hK55 _ _ ?_
       try clear hK55
       refine wp_ret ?_
       refine ret (rs := [.tmp 2]) (vs := [.int _ _]) (v := (.int _ _)) rfl ⟨rfl, trivial⟩ rfl ?_
       refine ⟨_, rfl, hE, congrArg (Value.int .i64) ?_⟩
       first | (refine S.actE_pos ?_; grind [S.FineAct, S.valE_zero]) | (refine S.actE_neg ?_; grind [S.FineAct, S.valE_zero])
      ·first | (have hqa := of_decide_eq_true ((S.eqA6 _ _ _ _ _ _ _ _ _ _ _ _).symm.trans c54)) | (have hqa := of_decide_eq_true ((S.eqV _ _ _ _ _ _ _ _).symm.trans c54)) | (have hqa := of_decide_eq_true ((strEq _ _).symm.trans c54)) | (have hqa := of_decide_eq_true c54) | (have hqa := c54)
       refine wp_skip ?_
       refine hK52 _ _ ?_
       try clear hK52
       refine wp_seq_k (fun K56 hK56 => ?_)
       refine region ?_
       refine RS.assign (v := .int .i64 0) rfl ?_
       refine RS.nil ?_
       refine hK56 _ _ ?_
       try clear hK56
       refine wp_ret ?_
       refine ret (rs := [.tmp 2]) (vs := [.int _ _]) (v := (.int _ _)) rfl ⟨rfl, trivial⟩ rfl ?_
       refine ⟨_, rfl, hE, congrArg (Value.int .i64) ?_⟩
       first | (refine S.actE_pos ?_; grind [S.FineAct, S.valE_zero]) | (refine S.actE_neg ?_; grind [S.FineAct, S.valE_zero])
    ·refine wp_skip ?_
     refine hK4 _ _ ?_
     try clear hK4
     refine wp_seq_k (fun K57 hK57 => ?_)
     refine wp_seq_k (fun K58 hK58 => ?_)
     refine region ?_
     refine RS.move (v := .bool _) rfl ?_
     refine RS.o (D.not rfl) ?_
     refine RS.nil ?_
     refine hK58 _ _ ?_
     try clear hK58
     refine C.ifnot rfl (fun c59 => ?_) (fun c59 => ?_)
     ·first | (have hqa := of_decide_eq_false ((S.eqA6 _ _ _ _ _ _ _ _ _ _ _ _).symm.trans c59)) | (have hqa := of_decide_eq_false ((S.eqV _ _ _ _ _ _ _ _).symm.trans c59)) | (have hqa := of_decide_eq_false ((strEq _ _).symm.trans c59)) | (have hqa := of_decide_eq_false c59) | (have hqa := c59)
      refine wp_seq_k (fun K60 hK60 => ?_)
      refine region ?_
      refine RS.assign (v := .int .i64 8) rfl ?_
      refine RS.nil ?_
      refine hK60 _ _ ?_
      try clear hK60
      refine wp_ret ?_
      refine ret (rs := [.tmp 2]) (vs := [.int _ _]) (v := (.int _ _)) rfl ⟨rfl, trivial⟩ rfl ?_
      refine ⟨_, rfl, hE, congrArg (Value.int .i64) ?_⟩
      first | (refine S.actE_pos ?_; grind [S.FineAct, S.valE_zero]) | (refine S.actE_neg ?_; grind [S.FineAct, S.valE_zero])
     ·first | (have hqa := of_decide_eq_true ((S.eqA6 _ _ _ _ _ _ _ _ _ _ _ _).symm.trans c59)) | (have hqa := of_decide_eq_true ((S.eqV _ _ _ _ _ _ _ _).symm.trans c59)) | (have hqa := of_decide_eq_true ((strEq _ _).symm.trans c59)) | (have hqa := of_decide_eq_true c59) | (have hqa := c59)
      refine wp_skip ?_
      refine hK57 _ _ ?_
      try clear hK57
      refine wp_seq_k (fun K61 hK61 => ?_)
      refine region ?_
      refine RS.assign (v := .int .i64 0) rfl ?_
      refine RS.nil ?_
      refine hK61 _ _ ?_
      try clear hK61
      refine wp_ret ?_
      refine ret (rs := [.tmp 2]) (vs := [.int _ _]) (v := (.int _ _)) rfl ⟨rfl, trivial⟩ rfl ?_
      refine ⟨_, rfl, hE, congrArg (Value.int .i64) ?_⟩
      first | (refine S.actE_pos ?_; grind [S.FineAct, S.valE_zero]) | (refine S.actE_neg ?_; grind [S.FineAct, S.valE_zero])
end Go.Proofs.YtiohpiiiapjblaaDoor.W
namespace Go.Proofs.YtiohpiiiapjblaaDoor.W
open Go.RowKit Go.Proofs.YtiohpiiiapjblaaDoor.G
set_option linter.unusedVariables false
set_option maxRecDepth 20000
set_option maxHeartbeats 8000000
attribute [local irreducible] RS RX
theorem C23 : Tryd.prog.cellsOf 23 = 1 := by kernel_rfl
theorem C30 : Tryd.prog.cellsOf 30 = 2 := by kernel_rfl
theorem E18 : Enters Tryd.prog 18 := .mk Tryd.func18 (by kernel_rfl) rfl
theorem E55 : Enters Tryd.prog 55 := .mk Tryd.func55 (by kernel_rfl) rfl
theorem E57 : Enters Tryd.prog 57 := .mk Tryd.func57 (by kernel_rfl) rfl
theorem E58 : Enters Tryd.prog 58 := .mk Tryd.func58 (by kernel_rfl) rfl
theorem checkO {S0 : Nat → Prop} (o : S.OpV) (ho : o.ok) (pa : Option Addr) (pc : Nat) (w : World) (D0 : WRow .u8 32 S0 w pa o.n o.ids) (hc : o.n ≤ pc) :
  Calls Tryd.prog 20 #[.agg ([.int .u32 o.au, .slice pa o.n pc, .int .u64 o.st, .int .u8 o.k, .string o.key, .int .u8 o.vk, .int .i64 o.num, .int .u64 o.bits, .string o.t, .int .u32 o.e, .int .u32 o.s] : List Value).toArray] w (Ret w fun v _ => v = .int .i64 (S.checkE o)) := by
 replace D0 := D0.weaken (T := fun k => k < w.heap.size) (fun k hk _ => hk)
 have o1 := ho.au
 have o2 := ho.st
 have o3 := ho.k
 have o4 := ho.vk
 have o5 := ho.num
 have o6 := ho.bits
 have o7 := ho.e
 have o8 := ho.s
 have o9 := ho.n
 have o10 := ho.key
 have o11 := ho.t
 have hE := Ext.refl w
 refine enter (args := [.agg ([.int .u32 o.au, .slice pa o.n pc, .int .u64 o.st, .int .u8 o.k, .string o.key, .int .u8 o.vk, .int .i64 o.num, .int .u64 o.bits, .string o.t, .int .u32 o.e, .int .u32 o.s] : List Value).toArray]) (l := [.agg ([.int .u32 o.au, .slice pa o.n pc, .int .u64 o.st, .int .u8 o.k, .string o.key, .int .u8 o.vk, .int .i64 o.num, .int .u64 o.bits, .string o.t, .int .u32 o.e, .int .u32 o.s] : List Value).toArray, undef, undef, undef, undef, undef, undef, undef, undef, undef, undef, undef, undef, undef, undef, undef, undef, undef, undef, undef, undef, undef, undef, undef, undef, undef, undef, undef, undef, undef, undef, undef, undef, undef, undef, undef, undef, undef, undef, undef, undef, undef, undef, undef, undef, undef, undef]) Tryd.func20 rfl rfl ?_
 refine wp_seq_k (fun K1 hK1 => ?_)
 refine region ?_
 refine RS.box rfl rfl (fun b2 w2 e2 s2 x2 B2 => ?_)
 refine RS.norm (by dsimp only [List.set]) ?_
 replace hE := Ext.tr hE x2
 replace D0 := D0.ext x2
 have zw2 := x2.size
 refine RS.assign (v := .int .i64 0) rfl ?_
 refine RS.nil ?_
 refine hK1 _ _ ?_
 try clear hK1
 refine wp_seq_k (fun K3 hK3 => ?_)
 refine wp_block ?_
 refine wp_seq_k (fun K4 hK4 => ?_)
 refine region ?_
 refine RS.o (D.fieldL 1 rfl Tryd.underlying32 rfl C23 (by decide) rfl) ?_
 refine RS.o (D.load rfl Tryd.underlying23 rfl (B2.cell rfl)) ?_
 refine RS.o (D.len rfl Tryd.underlying23) ?_
 refine RS.o (D.gt rfl rfl) ?_
 refine RS.assign (v := .bool _) rfl ?_
 refine RS.nil ?_
 refine hK4 _ _ ?_
 try clear hK4
 refine C.ifd rfl (fun c5 => ?_) (fun c5 => ?_)
 ·have h4 := c5
  refine wp_seq_k (fun K6 hK6 => ?_)
  refine region ?_
  refine RS.assign (v := .int .i64 4) rfl ?_
  refine RS.nil ?_
  refine hK6 _ _ ?_
  try clear hK6
  refine wp_ret ?_
  refine ret (rs := [.tmp 2]) (vs := [.int _ _]) (v := (.int _ _)) rfl ⟨rfl, trivial⟩ rfl ?_
  refine ⟨_, rfl, hE, congrArg (Value.int .i64) ?_⟩
  exact S.check4 (by omega)
 ·have h4 := c5
  refine wp_seq_k (fun K7 hK7 => ?_)
  refine regionX (Below w2.heap.size) [(0, .q), (1, .q), (2, .e), (3, .q), (4, .q), (5, .q), (6, .q), (10, .q), (11, .q), (12, .q), (7, .e), (8, .e), (9, .q), (13, .q), (14, .q), (15, .q)] mixed (fun w => Below.refl _ _) (fun h k => Below.trans h k) (by kernel_rfl) (fun w8 x8 => ?_)
  replace hE := Ext.tr hE x8
  replace D0 := D0.ext x8
  replace B2 := B2.ext x8
  have zw8 := x8.size
  refine RX.o (fun w' hw => D.fieldL 1 rfl Tryd.underlying32 rfl C23 (by decide) rfl) ?_
  refine RX.o (fun w' hw => D.load rfl Tryd.underlying23 rfl ((B2.bel hw (by omega)).cell rfl)) ?_
  refine RX.eff ?_
  refine RS.call E55 (isSorted _ _ _ _ _ D0 hc (by omega)) rfl (fun v9 w9 x9 A9 => ?_)
  replace hE := Ext.tr hE x9
  replace D0 := D0.ext x9
  replace B2 := B2.ext x9
  have zw9 := x9.size
  subst A9
  refine RS.norm (by dsimp only [List.set]) ?_
  refine RS.nil ⟨(x9.mono (by omega)), ?_⟩
  refine RX.o (fun w' hw => D.not rfl) ?_
  refine RX.move (v := .bool _) rfl ?_
  refine RX.splitnot 13 rfl rfl (fun c10 => ?_) (fun c10 => ?_)
  ·refine RX.norm (by dsimp only [List.set]) ?_
   have hso := of_decide_eq_false c10
   refine RX.skipB (b := true) 13 rfl rfl rfl rfl ?_
   refine RX.norm (by dsimp only [putL, List.set]) ?_
   refine RX.skipB (b := true) 13 rfl rfl rfl rfl ?_
   refine RX.norm (by dsimp only [putL, List.set]) ?_
   refine RX.skipB (b := true) 13 rfl rfl rfl rfl ?_
   refine RX.norm (by dsimp only [putL, List.set]) ?_
   refine RX.skipB (b := true) 13 rfl rfl rfl rfl ?_
   refine RX.norm (by dsimp only [putL, List.set]) ?_
   refine RX.skipB (b := true) 13 rfl rfl rfl rfl ?_
   refine RX.norm (by dsimp only [putL, List.set]) ?_
   refine RX.skipB (b := true) 13 rfl rfl rfl rfl ?_
   refine RX.norm (by dsimp only [putL, List.set]) ?_
   refine RX.skipB (b := true) 13 rfl rfl rfl rfl ?_
   refine RX.norm (by dsimp only [putL, List.set]) ?_
   refine RX.skipB (b := true) 13 rfl rfl rfl rfl ?_
   refine RX.norm (by dsimp only [putL, List.set]) ?_
   refine RX.skipB (b := true) 13 rfl rfl rfl rfl ?_
   refine RX.norm (by dsimp only [putL, List.set]) ?_
   refine RX.pick (v := .bool true) rfl rfl ?_
   refine RX.assign (v := .bool _) rfl ?_
   refine RX.nil ?_
   refine hK7 _ _ ?_
   try clear hK7
   refine C.ift rfl ?_
   refine wp_seq_k (fun K11 hK11 => ?_)
   refine region ?_
   refine RS.assign (v := .int .i64 32) rfl ?_
   refine RS.nil ?_
   refine hK11 _ _ ?_
   try clear hK11
   refine wp_ret ?_
   refine ret (rs := [.tmp 2]) (vs := [.int _ _]) (v := (.int _ _)) rfl ⟨rfl, trivial⟩ rfl ?_
   refine ⟨_, rfl, hE, congrArg (Value.int .i64) ?_⟩
   exact S.check32 (by omega) (fun h => hso ((S.rising_iff _ _).1 h).1)
  ·refine RX.norm (by dsimp only [List.set]) ?_
   have hso := of_decide_eq_true c10
   refine RX.wantB 13 rfl rfl rfl ?_
   refine RX.o (fun w' hw => D.fieldL 1 rfl Tryd.underlying32 rfl C23 (by decide) rfl) ?_
   refine RX.wantB 13 rfl rfl rfl ?_
   refine RX.o (fun w' hw => D.load rfl Tryd.underlying23 rfl ((B2.bel hw (by omega)).cell rfl)) ?_
   refine RX.wantB 13 rfl rfl rfl ?_
   refine RX.o (fun w' hw => D.fieldL 1 rfl Tryd.underlying32 rfl C23 (by decide) rfl) ?_
   refine RX.wantB 13 rfl rfl rfl ?_
   refine RX.o (fun w' hw => D.load rfl Tryd.underlying23 rfl ((B2.bel hw (by omega)).cell rfl)) ?_
   refine RX.wantB 13 rfl rfl rfl ?_
   refine RX.o (fun w' hw => D.len rfl Tryd.underlying23) ?_
   refine RX.wantB 13 rfl rfl rfl ?_
   refine RX.eff ?_
   refine RS.call E58 (cloneID _ _ _ _ _ D0 hc (by omega)) rfl (fun v12 w12 x12 A12 => ?_)
   replace hE := Ext.tr hE x12
   replace D0 := D0.ext x12
   replace B2 := B2.ext x12
   have zw12 := x12.size
   obtain ⟨a12, n12, c12, rfl, hnn, O1⟩ := A12
   obtain ⟨g0, hg, hgl⟩ : ∃ g0, (n12 < 2 ∨ a12 = some ⟨g0, 0, none⟩) ∧ w2.heap.size ≤ g0 := by
    by_cases h2 : n12 < 2
    ·exact ⟨w12.heap.size, .inl h2, by omega⟩
    ·obtain ⟨g, hg⟩ := O1.some (by omega)
     exact ⟨g, .inr hg, by have := O1.los g (by rw [hg]; rfl); omega⟩
   refine RS.norm (by dsimp only [List.set]) ?_
   refine RS.nil ⟨(x12.mono (by omega)), ?_⟩
   refine RX.wantB 13 rfl rfl rfl ?_
   refine RX.eff ?_
   refine RS.callx E57 (compact _ _ _ _ _ _ _ O1 hg (by omega)) rfl (fun e13 w13 A13 => ?_)
   obtain ⟨a13, n13, c13, rfl, X13, hap⟩ := A13
   refine ⟨_, rfl, ?_⟩
   refine RS.norm (by dsimp only [List.set]) ?_
   replace hE := hE.trans (X13.below (by intros; try (first | (intro _ _) | (intro _) | skip); first | omega | (dsimp only at *; omega) | (simp_all; done) | (simp at *; omega)) (by intros; try (first | (intro _ _) | (intro _) | skip); first | omega | (dsimp only at *; omega) | (simp_all; done) | (simp at *; omega)))
   replace D0 := D0.pr X13 (by intros; try (first | (intro _ _) | (intro _) | skip); first | omega | (dsimp only at *; omega) | (simp_all; done) | (simp at *; omega))
   replace B2 := B2.pr X13 (by intros; try (first | (intro _ _) | (intro _) | skip); first | omega | (dsimp only at *; omega) | (simp_all; done) | (simp at *; omega))
   have zw13 := X13.size
   have hnz := hnn
   refine RS.nil ⟨(X13.below (by intros; try (first | (intro _ _) | (intro _) | skip); first | omega | (dsimp only at *; omega) | (simp_all; done) | (simp at *; omega)) (by intros; try (first | (intro _ _) | (intro _) | skip); first | omega | (dsimp only at *; omega) | (simp_all; done) | (simp at *; omega))), ?_⟩
   refine RX.wantB 13 rfl rfl rfl ?_
   refine RX.o (fun w' hw => D.len rfl Tryd.underlying23) ?_
   refine RX.wantB 13 rfl rfl rfl ?_
   refine RX.o (fun w' hw => D.ne rfl rfl) ?_
   refine RX.pick (v := .bool _) rfl rfl ?_
   refine RX.assign (v := .bool _) rfl ?_
   refine RX.nil ?_
   refine hK7 _ _ ?_
   try clear hK7
   refine C.ifn rfl (fun c14 => ?_) (fun c14 => ?_)
   ·try have hne := c14
    refine wp_seq_k (fun K15 hK15 => ?_)
    refine region ?_
    refine RS.assign (v := .int .i64 32) rfl ?_
    refine RS.nil ?_
    refine hK15 _ _ ?_
    try clear hK15
    refine wp_ret ?_
    refine ret (rs := [.tmp 2]) (vs := [.int _ _]) (v := (.int _ _)) rfl ⟨rfl, trivial⟩ rfl ?_
    refine ⟨_, rfl, hE, congrArg (Value.int .i64) ?_⟩
    exact S.check32 (by omega) (fun h => hne (by have := hap.2; rw [hnz] at this; exact congrArg Nat.cast (this ((S.rising_iff _ _).1 h).2)))
   ·try have hne := c14
    refine wp_seq_k (fun K16 hK16 => ?_)
    refine region ?_
    refine RS.o (D.fieldL 0 rfl Tryd.underlying32 rfl C22 (by decide) rfl) ?_
    refine RS.o (D.load rfl Tryd.underlying22 rfl (B2.cell rfl)) ?_
    refine RS.call E59 (group_Is _ (by omega) _) rfl (fun v17 w17 x17 A17 => ?_)
    replace hE := Ext.tr hE x17
    replace D0 := D0.ext x17
    replace B2 := B2.ext x17
    have zw17 := x17.size
    subst A17
    refine RS.norm (by dsimp only [List.set]) ?_
    refine RS.o (D.not rfl) ?_
    refine RS.move (v := .bool _) rfl ?_
    refine RS.splitnot 29 rfl rfl (fun c18 => ?_) (fun c18 => ?_)
    ·refine RS.norm (by dsimp only [List.set]) ?_
     have hG := c18
     refine RS.skipB (b := true) 29 rfl rfl rfl rfl ?_
     refine RS.norm (by dsimp only [putL, List.set]) ?_
     refine RS.skipB (b := true) 29 rfl rfl rfl rfl ?_
     refine RS.norm (by dsimp only [putL, List.set]) ?_
     refine RS.skipB (b := true) 29 rfl rfl rfl rfl ?_
     refine RS.norm (by dsimp only [putL, List.set]) ?_
     refine RS.pick (v := .bool true) rfl rfl ?_
     refine RS.move (v := .bool _) rfl ?_
     refine RS.skipB (b := true) 34 rfl rfl rfl rfl ?_
     refine RS.norm (by dsimp only [putL, List.set]) ?_
     refine RS.skipB (b := true) 34 rfl rfl rfl rfl ?_
     refine RS.norm (by dsimp only [putL, List.set]) ?_
     refine RS.skipB (b := true) 34 rfl rfl rfl rfl ?_
     refine RS.norm (by dsimp only [putL, List.set]) ?_
     refine RS.skipB (b := true) 34 rfl rfl rfl rfl ?_
     refine RS.norm (by dsimp only [putL, List.set]) ?_
     refine RS.skipB (b := true) 34 rfl rfl rfl rfl ?_
     refine RS.norm (by dsimp only [putL, List.set]) ?_
     refine RS.skipB (b := true) 34 rfl rfl rfl rfl ?_
     refine RS.norm (by dsimp only [putL, List.set]) ?_
     refine RS.skipB (b := true) 34 rfl rfl rfl rfl ?_
     refine RS.norm (by dsimp only [putL, List.set]) ?_
     refine RS.skipB (b := true) 34 rfl rfl rfl rfl ?_
     refine RS.norm (by dsimp only [putL, List.set]) ?_
     refine RS.pick (v := .bool true) rfl rfl ?_
     refine RS.assign (v := .bool _) rfl ?_
     refine RS.nil ?_
     refine hK16 _ _ ?_
     try clear hK16
     refine C.ift rfl ?_
     refine wp_seq_k (fun K19 hK19 => ?_)
     refine region ?_
     refine RS.assign (v := .int .i64 8) rfl ?_
     refine RS.nil ?_
     refine hK19 _ _ ?_
     try clear hK19
     refine wp_ret ?_
     refine ret (rs := [.tmp 2]) (vs := [.int _ _]) (v := (.int _ _)) rfl ⟨rfl, trivial⟩ rfl ?_
     refine ⟨_, rfl, hE, congrArg (Value.int .i64) ?_⟩
     have hri : S.Rising o.n o.ids := (S.rising_iff _ _).2 ⟨hso, by have h7 := hap.1; rw [hnz] at h7; exact h7 (by omega)⟩
     refine S.check8 (by omega) hri (fun h => ?_)
     have := h.1
     simp_all
    ·refine RS.norm (by dsimp only [List.set]) ?_
     have hG := c18
     refine RS.wantB 29 rfl rfl rfl ?_
     refine RS.o (D.fieldL 2 rfl Tryd.underlying32 rfl C24 (by decide) rfl) ?_
     refine RS.wantB 29 rfl rfl rfl ?_
     refine RS.o (D.load rfl Tryd.underlying24 rfl (B2.cell rfl)) ?_
     refine RS.wantB 29 rfl rfl rfl ?_
     refine RS.o (D.gt rfl rfl) ?_
     refine RS.pick (v := .bool _) rfl rfl ?_
     refine RS.move (v := .bool _) rfl ?_
     refine RS.splitd 34 rfl rfl (fun c20 => ?_) (fun c20 => ?_)
     ·refine RS.norm (by dsimp only [List.set]) ?_
      have hS := c20
      refine RS.skipB (b := true) 34 rfl rfl rfl rfl ?_
      refine RS.norm (by dsimp only [putL, List.set]) ?_
      refine RS.skipB (b := true) 34 rfl rfl rfl rfl ?_
      refine RS.norm (by dsimp only [putL, List.set]) ?_
      refine RS.skipB (b := true) 34 rfl rfl rfl rfl ?_
      refine RS.norm (by dsimp only [putL, List.set]) ?_
      refine RS.skipB (b := true) 34 rfl rfl rfl rfl ?_
      refine RS.norm (by dsimp only [putL, List.set]) ?_
      refine RS.skipB (b := true) 34 rfl rfl rfl rfl ?_
      refine RS.norm (by dsimp only [putL, List.set]) ?_
      refine RS.skipB (b := true) 34 rfl rfl rfl rfl ?_
      refine RS.norm (by dsimp only [putL, List.set]) ?_
      refine RS.skipB (b := true) 34 rfl rfl rfl rfl ?_
      refine RS.norm (by dsimp only [putL, List.set]) ?_
      refine RS.skipB (b := true) 34 rfl rfl rfl rfl ?_
      refine RS.norm (by dsimp only [putL, List.set]) ?_
      refine RS.pick (v := .bool true) rfl rfl ?_
      refine RS.assign (v := .bool _) rfl ?_
      refine RS.nil ?_
      refine hK16 _ _ ?_
      try clear hK16
      refine C.ift rfl ?_
      refine wp_seq_k (fun K21 hK21 => ?_)
      refine region ?_
      refine RS.assign (v := .int .i64 8) rfl ?_
      refine RS.nil ?_
      refine hK21 _ _ ?_
      try clear hK21
      refine wp_ret ?_
      refine ret (rs := [.tmp 2]) (vs := [.int _ _]) (v := (.int _ _)) rfl ⟨rfl, trivial⟩ rfl ?_
      refine ⟨_, rfl, hE, congrArg (Value.int .i64) ?_⟩
      have hri : S.Rising o.n o.ids := (S.rising_iff _ _).2 ⟨hso, by have h7 := hap.1; rw [hnz] at h7; exact h7 (by omega)⟩
      refine S.check8 (by omega) hri (fun h => ?_)
      have := h.2.1
      omega
     ·refine RS.norm (by dsimp only [List.set]) ?_
      have hS := c20
      refine RS.wantB 34 rfl rfl rfl ?_
      refine RS.o (D.fieldL 9 rfl Tryd.underlying32 rfl C30 (by decide) rfl) ?_
      refine RS.wantB 34 rfl rfl rfl ?_
      refine RS.o (D.fieldL 9 rfl Tryd.underlying30 rfl C22 (by decide) rfl) ?_
      refine RS.wantB 34 rfl rfl rfl ?_
      refine RS.o (D.load rfl Tryd.underlying22 rfl (B2.cell rfl)) ?_
      refine RS.wantB 34 rfl rfl rfl ?_
      refine RS.o (D.fieldL 9 rfl Tryd.underlying32 rfl C30 (by decide) rfl) ?_
      refine RS.wantB 34 rfl rfl rfl ?_
      refine RS.o (D.fieldL 10 rfl Tryd.underlying30 rfl C22 (by decide) rfl) ?_
      refine RS.wantB 34 rfl rfl rfl ?_
      refine RS.o (D.load rfl Tryd.underlying22 rfl (B2.cell rfl)) ?_
      refine RS.wantB 34 rfl rfl rfl ?_
      refine RS.o (D.max2 rfl rfl) ?_
      refine RS.wantB 34 rfl rfl rfl ?_
      refine RS.o (D.ge rfl rfl) ?_
      refine RS.pick (v := .bool _) rfl rfl ?_
      refine RS.assign (v := .bool _) rfl ?_
      refine RS.nil ?_
      refine hK16 _ _ ?_
      try clear hK16
      refine C.ifd rfl (fun c22 => ?_) (fun c22 => ?_)
      ·try have hQ := c22
       refine wp_seq_k (fun K23 hK23 => ?_)
       refine region ?_
       refine RS.assign (v := .int .i64 8) rfl ?_
       refine RS.nil ?_
       refine hK23 _ _ ?_
       try clear hK23
       refine wp_ret ?_
       refine ret (rs := [.tmp 2]) (vs := [.int _ _]) (v := (.int _ _)) rfl ⟨rfl, trivial⟩ rfl ?_
       refine ⟨_, rfl, hE, congrArg (Value.int .i64) ?_⟩
       have hri : S.Rising o.n o.ids := (S.rising_iff _ _).2 ⟨hso, by have h7 := hap.1; rw [hnz] at h7; exact h7 (by omega)⟩
       refine S.check8 (by omega) hri (fun h => ?_)
       have h1 := h.2.2.1
       have h2 := h.2.2.2.1
       split at hQ <;> omega
      ·try have hQ := c22
       refine wp_skip ?_
       refine hK3 _ _ ?_
       try clear hK3
       refine wp_seq_k (fun K24 hK24 => ?_)
       refine region ?_
       refine RS.o (D.fieldL 3 rfl Tryd.underlying32 rfl C28 (by decide) rfl) ?_
       refine RS.o (D.loadAgg rfl Tryd.underlying28 rfl C28 (by decide) rfl (B2.cellsN 6 rfl)) ?_
       refine RS.call E18 (checkAct _ _ _ _ _ _ o3 o4 o5 o6 (by omega) (by omega) _) rfl (fun v25 w25 x25 A25 => ?_)
       replace hE := Ext.tr hE x25
       replace D0 := D0.ext x25
       replace B2 := B2.ext x25
       have zw25 := x25.size
       subst A25
       refine RS.norm (by dsimp only [List.set]) ?_
       refine RS.assign (v := .int _ _) rfl ?_
       refine RS.nil ?_
       refine hK24 _ _ ?_
       try clear hK24
       refine wp_ret ?_
       refine ret (rs := [.tmp 2]) (vs := [.int _ _]) (v := (.int _ _)) rfl ⟨rfl, trivial⟩ rfl ?_
       refine ⟨_, rfl, hE, congrArg (Value.int .i64) ?_⟩
       have hri : S.Rising o.n o.ids := (S.rising_iff _ _).2 ⟨hso, by have h7 := hap.1; rw [hnz] at h7; exact h7 (by omega)⟩
       refine S.checkA (by omega) hri (by simpa using hG) (by omega) ?_ ?_ <;> (split at hQ <;> omega)
end Go.Proofs.YtiohpiiiapjblaaDoor.W
