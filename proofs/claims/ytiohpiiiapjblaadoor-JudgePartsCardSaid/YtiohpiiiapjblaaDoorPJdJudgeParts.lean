/-
  JudgeParts: the verdicts on a list are those on its elements, whatever others there are, counts add up, and only four verdicts are given. Condition: the table digest.constants is as its initialiser lays it (tied by the card).
-/
import Derived.Test.YtiohpiiiapjblaaDoorPJd11
namespace Go.Proofs.YtiohpiiiapjblaaDoor.W
open Go.RowKit Go.Proofs.YtiohpiiiapjblaaDoor.G
set_option linter.unusedVariables false
set_option maxRecDepth 20000
set_option maxHeartbeats 8000000
attribute [local irreducible] RS RX
theorem E33 : Enters Tryd.prog 33 := .mk Tryd.func33 (by kernel_rfl) rfl
theorem E38 : Enters Tryd.prog 38 := .mk Tryd.func38 (by kernel_rfl) rfl
theorem E41 : Enters Tryd.prog 41 := .mk Tryd.func41 (by kernel_rfl) rfl
theorem judgeParts {S0 : Nat → Prop} (a : Option Addr) (n c : Nat) (ps : List Pc) (at_ : Int) (hat : -9223372036854775808 ≤ at_ ∧ at_ ≤ 9223372036854775807) (TK : TypeId) (w : World) (K0 : Kst w TK) (P0 : PRow .u8 S0 w a n ps) (hc : n ≤ c) :
  Calls Tryd.prog 9 #[.slice a n c, .int .i64 at_] w (Ret w fun v _ => v = .bool true) := by
 replace P0 := P0.weaken (T := fun k => k < w.heap.size) (fun k hk _ => hk)
 have hpl := P0.len
 have hKl := K0.lt
 have hE := Ext.refl w
 refine enter (args := [.slice a n c, .int .i64 at_]) (l := [.slice a n c, .int .i64 at_, undef, undef, undef, undef, undef, undef, undef, undef, undef, undef, undef, undef, undef, undef, undef, undef, undef, undef, undef, undef, undef, undef, undef, undef, undef, undef, undef, undef, undef, undef, undef, undef, undef, undef, undef, undef, undef, undef, undef, undef, undef, undef, undef, undef, undef, undef, undef, undef, undef, undef, undef, undef, undef, undef, undef, undef, undef, undef, undef, undef, undef, undef, undef, undef, undef, undef, undef, undef, undef, undef, undef, undef, undef, undef, undef, undef, undef, undef, undef, undef, undef, undef, undef, undef, undef, undef, undef, undef, undef, undef, undef, undef, undef, undef, undef, undef, undef, undef, undef, undef, undef, undef, undef, undef, undef, undef, undef, undef, undef, undef, undef, undef, undef, undef, undef, undef, undef, undef, undef, undef, undef, undef, undef, undef, undef, undef, undef, undef, undef]) Tryd.func9 rfl rfl ?_
 refine wp_seq_k (fun K1 hK1 => ?_)
 refine region ?_
 refine RS.assign (v := .bool false) rfl ?_
 refine RS.nil ?_
 refine hK1 _ _ ?_
 try clear hK1
 refine wp_seq_k (fun K2 hK2 => ?_)
 refine wp_seq_k (fun K3 hK3 => ?_)
 refine region ?_
 refine RS.move (v := .slice _ _ _) rfl ?_
 refine RS.call E41 (great8 _ _ _ _ _ P0) rfl (fun v4 w4 x4 A4 => ?_)
 replace hE := Ext.tr hE x4
 replace K0 := K0.ext x4
 replace P0 := P0.ext x4
 have zw4 := x4.size
 obtain ⟨bG, rfl, hbG⟩ := A4
 refine RS.norm (by dsimp only [List.set]) ?_
 refine RS.move (v := .bool _) rfl ?_
 refine RS.splitb 16 rfl rfl (fun c5 => ?_) (fun c5 => ?_)
 ·refine RS.norm (by dsimp only [List.set]) ?_
  refine RS.skipB (b := true) 16 rfl rfl rfl rfl ?_
  refine RS.norm (by dsimp only [putL, List.set]) ?_
  refine RS.skipB (b := true) 16 rfl rfl rfl rfl ?_
  refine RS.norm (by dsimp only [putL, List.set]) ?_
  refine RS.skipB (b := true) 16 rfl rfl rfl rfl ?_
  refine RS.norm (by dsimp only [putL, List.set]) ?_
  refine RS.pick (v := .bool true) rfl rfl ?_
  refine RS.move (v := .bool _) rfl ?_
  refine RS.skipB (b := true) 21 rfl rfl rfl rfl ?_
  refine RS.norm (by dsimp only [putL, List.set]) ?_
  refine RS.skipB (b := true) 21 rfl rfl rfl rfl ?_
  refine RS.norm (by dsimp only [putL, List.set]) ?_
  refine RS.pick (v := .bool true) rfl rfl ?_
  refine RS.move (v := .bool _) rfl ?_
  refine RS.skipB (b := true) 25 rfl rfl rfl rfl ?_
  refine RS.norm (by dsimp only [putL, List.set]) ?_
  refine RS.skipB (b := true) 25 rfl rfl rfl rfl ?_
  refine RS.norm (by dsimp only [putL, List.set]) ?_
  refine RS.skipB (b := true) 25 rfl rfl rfl rfl ?_
  refine RS.norm (by dsimp only [putL, List.set]) ?_
  refine RS.skipB (b := true) 25 rfl rfl rfl rfl ?_
  refine RS.norm (by dsimp only [putL, List.set]) ?_
  refine RS.pick (v := .bool true) rfl rfl ?_
  refine RS.nil ?_
  refine hK3 _ _ ?_
  try clear hK3
  refine C.ift rfl ?_
  refine wp_seq_k (fun K6 hK6 => ?_)
  refine region ?_
  refine RS.call E33 (aliveJ _ _ K0) rfl (fun v7 w7 x7 A7 => ?_)
  replace hE := Ext.tr hE x7
  replace K0 := K0.ext x7
  replace P0 := P0.ext x7
  have zw7 := x7.size
  subst A7
  refine RS.norm (by dsimp only [List.set]) ?_
  refine RS.assign (v := .bool _) rfl ?_
  refine RS.nil ?_
  refine hK6 _ _ ?_
  try clear hK6
  refine wp_ret ?_
  refine ret (rs := [.tmp 4]) (vs := [.bool _]) (v := (.bool _)) rfl ⟨rfl, trivial⟩ rfl ?_
  exact ⟨_, rfl, hE, rfl⟩
 ·refine RS.norm (by dsimp only [List.set]) ?_
  obtain ⟨hg, hg2, hg3⟩ := hbG c5
  refine RS.wantB 16 rfl rfl rfl ?_
  refine RS.move (v := .slice _ _ _) rfl ?_
  refine RS.wantB 16 rfl rfl rfl ?_
  refine RS.o (D.len rfl Tryd.underlying70) ?_
  refine RS.wantB 16 rfl rfl rfl ?_
  refine RS.o (D.gt rfl rfl) ?_
  refine RS.pick (v := .bool _) rfl rfl ?_
  refine RS.move (v := .bool _) rfl ?_
  refine RS.splitd 21 rfl rfl (fun c8 => ?_) (fun c8 => ?_)
  ·refine RS.norm (by dsimp only [List.set]) ?_
   refine RS.skipB (b := true) 21 rfl rfl rfl rfl ?_
   refine RS.norm (by dsimp only [putL, List.set]) ?_
   refine RS.skipB (b := true) 21 rfl rfl rfl rfl ?_
   refine RS.norm (by dsimp only [putL, List.set]) ?_
   refine RS.pick (v := .bool true) rfl rfl ?_
   refine RS.move (v := .bool _) rfl ?_
   refine RS.skipB (b := true) 25 rfl rfl rfl rfl ?_
   refine RS.norm (by dsimp only [putL, List.set]) ?_
   refine RS.skipB (b := true) 25 rfl rfl rfl rfl ?_
   refine RS.norm (by dsimp only [putL, List.set]) ?_
   refine RS.skipB (b := true) 25 rfl rfl rfl rfl ?_
   refine RS.norm (by dsimp only [putL, List.set]) ?_
   refine RS.skipB (b := true) 25 rfl rfl rfl rfl ?_
   refine RS.norm (by dsimp only [putL, List.set]) ?_
   refine RS.pick (v := .bool true) rfl rfl ?_
   refine RS.nil ?_
   refine hK3 _ _ ?_
   try clear hK3
   refine C.ift rfl ?_
   refine wp_seq_k (fun K9 hK9 => ?_)
   refine region ?_
   refine RS.call E33 (aliveJ _ _ K0) rfl (fun v10 w10 x10 A10 => ?_)
   replace hE := Ext.tr hE x10
   replace K0 := K0.ext x10
   replace P0 := P0.ext x10
   have zw10 := x10.size
   subst A10
   refine RS.norm (by dsimp only [List.set]) ?_
   refine RS.assign (v := .bool _) rfl ?_
   refine RS.nil ?_
   refine hK9 _ _ ?_
   try clear hK9
   refine wp_ret ?_
   refine ret (rs := [.tmp 4]) (vs := [.bool _]) (v := (.bool _)) rfl ⟨rfl, trivial⟩ rfl ?_
   exact ⟨_, rfl, hE, rfl⟩
  ·refine RS.norm (by dsimp only [List.set]) ?_
   refine RS.wantB 21 rfl rfl rfl ?_
   refine RS.move (v := .int _ _) rfl ?_
   refine RS.wantB 21 rfl rfl rfl ?_
   refine RS.o (D.lt rfl rfl) ?_
   refine RS.pick (v := .bool _) rfl rfl ?_
   refine RS.move (v := .bool _) rfl ?_
   refine RS.splitd 25 rfl rfl (fun c11 => ?_) (fun c11 => ?_)
   ·refine RS.norm (by dsimp only [List.set]) ?_
    refine RS.skipB (b := true) 25 rfl rfl rfl rfl ?_
    refine RS.norm (by dsimp only [putL, List.set]) ?_
    refine RS.skipB (b := true) 25 rfl rfl rfl rfl ?_
    refine RS.norm (by dsimp only [putL, List.set]) ?_
    refine RS.skipB (b := true) 25 rfl rfl rfl rfl ?_
    refine RS.norm (by dsimp only [putL, List.set]) ?_
    refine RS.skipB (b := true) 25 rfl rfl rfl rfl ?_
    refine RS.norm (by dsimp only [putL, List.set]) ?_
    refine RS.pick (v := .bool true) rfl rfl ?_
    refine RS.nil ?_
    refine hK3 _ _ ?_
    try clear hK3
    refine C.ift rfl ?_
    refine wp_seq_k (fun K12 hK12 => ?_)
    refine region ?_
    refine RS.call E33 (aliveJ _ _ K0) rfl (fun v13 w13 x13 A13 => ?_)
    replace hE := Ext.tr hE x13
    replace K0 := K0.ext x13
    replace P0 := P0.ext x13
    have zw13 := x13.size
    subst A13
    refine RS.norm (by dsimp only [List.set]) ?_
    refine RS.assign (v := .bool _) rfl ?_
    refine RS.nil ?_
    refine hK12 _ _ ?_
    try clear hK12
    refine wp_ret ?_
    refine ret (rs := [.tmp 4]) (vs := [.bool _]) (v := (.bool _)) rfl ⟨rfl, trivial⟩ rfl ?_
    exact ⟨_, rfl, hE, rfl⟩
   ·refine RS.norm (by dsimp only [List.set]) ?_
    refine RS.wantB 25 rfl rfl rfl ?_
    refine RS.move (v := .int _ _) rfl ?_
    refine RS.wantB 25 rfl rfl rfl ?_
    refine RS.move (v := .slice _ _ _) rfl ?_
    refine RS.wantB 25 rfl rfl rfl ?_
    refine RS.o (D.len rfl Tryd.underlying70) ?_
    refine RS.wantB 25 rfl rfl rfl ?_
    refine RS.o (D.gt rfl rfl) ?_
    refine RS.pick (v := .bool _) rfl rfl ?_
    refine RS.nil ?_
    refine hK3 _ _ ?_
    try clear hK3
    refine C.ifd rfl (fun c14 => ?_) (fun c14 => ?_)
    ·refine wp_seq_k (fun K15 hK15 => ?_)
     refine region ?_
     refine RS.call E33 (aliveJ _ _ K0) rfl (fun v16 w16 x16 A16 => ?_)
     replace hE := Ext.tr hE x16
     replace K0 := K0.ext x16
     replace P0 := P0.ext x16
     have zw16 := x16.size
     subst A16
     refine RS.norm (by dsimp only [List.set]) ?_
     refine RS.assign (v := .bool _) rfl ?_
     refine RS.nil ?_
     refine hK15 _ _ ?_
     try clear hK15
     refine wp_ret ?_
     refine ret (rs := [.tmp 4]) (vs := [.bool _]) (v := (.bool _)) rfl ⟨rfl, trivial⟩ rfl ?_
     exact ⟨_, rfl, hE, rfl⟩
    ·have hp : ∀ p ∈ ps, p.n ≤ 1000 := by
      intro p hq
      obtain ⟨j, hj, rfl⟩ := List.getElem_of_mem hq
      have := hg j (by omega) (by omega)
      rwa [List.getD_eq_getElem?_getD, List.getElem?_eq_getElem hj] at this
     have hca := S.cnt_arr (ps.map (fun p : Pc => S.jdV p.xs)) (by rw [List.length_map]; omega)
     refine wp_skip ?_
     refine hK2 _ _ ?_
     try clear hK2
     refine wp_seq_k (fun K17 hK17 => ?_)
     refine region ?_
     refine RS.move (v := .slice _ _ _) rfl ?_
     refine RS.call E37 (judgeMany _ _ _ _ _ _ K0 P0 hc hp) rfl (fun v18 w18 x18 A18 => ?_)
     replace hE := Ext.tr hE x18
     replace K0 := K0.ext x18
     replace P0 := P0.ext x18
     have zw18 := x18.size
     obtain ⟨aA, nA, cA, rfl, OA⟩ := A18
     rw [if_neg (show ¬ 60 < _ by omega)] at OA
     rw [if_neg (show ¬ 60 < _ by omega)]
     have lOA := OA.len
     have RA := OA.row.weaken (T := fun k => k < w18.heap.size) (fun k hk _ => hk)
     refine RS.norm (by dsimp only [List.set]) ?_
     refine RS.move (v := .tuple _) rfl ?_
     refine RS.extract (v := .slice _ _ _) rfl rfl ?_
     refine RS.extract (v := .int _ _) rfl rfl ?_
     refine RS.assign (v := .slice _ _ _) rfl ?_
     refine RS.assign (v := .int _ _) rfl ?_
     refine RS.nil ?_
     refine hK17 _ _ ?_
     try clear hK17
     refine wp_seq_k (fun K19 hK19 => ?_)
     refine region ?_
     refine RS.move (v := .slice _ _ _) rfl ?_
     refine RS.move (v := .int _ _) rfl ?_
     refine RS.o (D.slice (kl := .i64) (kh := .i64) rfl Tryd.underlying70 C35 (by decide) rfl rfl (by omega) (by omega)) ?_
     refine RS.call E37 (judgeMany _ _ _ _ _ _ K0 (P0.sub 0 at_.toNat c (by omega) (by omega) (by omega)) (by omega) (fun p hq => hp p (List.mem_of_mem_drop (List.mem_of_mem_take hq)))) rfl (fun v20 w20 x20 A20 => ?_)
     replace hE := Ext.tr hE x20
     replace K0 := K0.ext x20
     replace P0 := P0.ext x20
     replace RA := RA.ext x20
     have zw20 := x20.size
     obtain ⟨aB, nB, cB, rfl, OB⟩ := A20
     rw [if_neg (show ¬ 60 < _ by omega)] at OB
     rw [if_neg (show ¬ 60 < _ by omega)]
     have lOB := OB.len
     have RB := OB.row.weaken (T := fun k => k < w20.heap.size) (fun k hk _ => hk)
     refine RS.norm (by dsimp only [List.set]) ?_
     refine RS.move (v := .tuple _) rfl ?_
     refine RS.extract (v := .slice _ _ _) rfl rfl ?_
     refine RS.extract (v := .int _ _) rfl rfl ?_
     refine RS.assign (v := .slice _ _ _) rfl ?_
     refine RS.assign (v := .int _ _) rfl ?_
     refine RS.nil ?_
     refine hK19 _ _ ?_
     try clear hK19
     refine wp_seq_k (fun K21 hK21 => ?_)
     refine region ?_
     refine RS.move (v := .slice _ _ _) rfl ?_
     refine RS.move (v := .int _ _) rfl ?_
     refine RS.o (D.slice (kl := .i64) (kh := .i64) rfl Tryd.underlying70 C35 (by decide) rfl rfl (by omega) (by omega)) ?_
     refine RS.call E37 (judgeMany _ _ _ _ _ _ K0 (P0.sub at_.toNat n c (by omega) (by omega) (by omega)) (by omega) (fun p hq => hp p (List.mem_of_mem_drop (List.mem_of_mem_take hq)))) rfl (fun v22 w22 x22 A22 => ?_)
     replace hE := Ext.tr hE x22
     replace K0 := K0.ext x22
     replace P0 := P0.ext x22
     replace RA := RA.ext x22
     replace RB := RB.ext x22
     have zw22 := x22.size
     obtain ⟨aC, nC, cC, rfl, OC⟩ := A22
     rw [if_neg (show ¬ 60 < _ by omega)] at OC
     rw [if_neg (show ¬ 60 < _ by omega)]
     have lOC := OC.len
     have RC := OC.row.weaken (T := fun k => k < w22.heap.size) (fun k hk _ => hk)
     refine RS.norm (by dsimp only [List.set]) ?_
     refine RS.move (v := .tuple _) rfl ?_
     refine RS.extract (v := .slice _ _ _) rfl rfl ?_
     refine RS.extract (v := .int _ _) rfl rfl ?_
     refine RS.assign (v := .slice _ _ _) rfl ?_
     refine RS.assign (v := .int _ _) rfl ?_
     refine RS.nil ?_
     refine hK21 _ _ ?_
     try clear hK21
     refine wp_seq_k (fun K23 hK23 => ?_)
     refine region ?_
     refine RS.move (v := .slice _ _ _) rfl ?_
     refine RS.call E38 (judgeCount _ _ _ _ _ _ K0 P0 hc hp) rfl (fun v24 w24 x24 A24 => ?_)
     replace hE := Ext.tr hE x24
     replace K0 := K0.ext x24
     replace P0 := P0.ext x24
     replace RA := RA.ext x24
     replace RB := RB.ext x24
     replace RC := RC.ext x24
     have zw24 := x24.size
     subst A24
     rw [if_neg (show ¬ 60 < n by omega), if_neg (show ¬ 60 < n by omega)]
     refine RS.norm (by dsimp only [List.set]) ?_
     refine RS.move (v := .tuple _) rfl ?_
     refine RS.extract (v := .agg _) rfl rfl ?_
     refine RS.extract (v := .int _ _) rfl rfl ?_
     refine RS.alloc T71 (fun b25 w25 e25 s25 x25 B25 => ?_)
     refine RS.norm (by dsimp only [List.set]) ?_
     replace hE := Ext.tr hE x25
     replace K0 := K0.ext x25
     replace P0 := P0.ext x25
     replace RA := RA.ext x25
     replace RB := RB.ext x25
     replace RC := RC.ext x25
     have zw25 := x25.size
     have A25 : IArr .i64 w25 b25 10 (List.replicate 10 0) [] 71 := IArr.zero B25
     clear B25
     refine RS.storeArr A25 rfl rfl C71 (by decide) hca.1 hca.2 (fun w26 y26 N26 => ?_)
     replace hE := hE.trans (y26.below (by intros; try (first | (intro _ _) | (intro _) | skip); first | omega | (dsimp only at *; omega) | (simp_all; done) | (simp at *; omega)))
     replace K0 := K0.st y26 (by intros; try (first | (intro _ _) | (intro _) | skip); first | omega | (dsimp only at *; omega) | (simp_all; done) | (simp at *; omega))
     replace P0 := P0.st y26 (by intros; try (first | (intro _ _) | (intro _) | skip); first | omega | (dsimp only at *; omega) | (simp_all; done) | (simp at *; omega))
     replace RA := RA.st y26 (by intros; try (first | (intro _ _) | (intro _) | skip); first | omega | (dsimp only at *; omega) | (simp_all; done) | (simp at *; omega))
     replace RB := RB.st y26 (by intros; try (first | (intro _ _) | (intro _) | skip); first | omega | (dsimp only at *; omega) | (simp_all; done) | (simp at *; omega))
     replace RC := RC.st y26 (by intros; try (first | (intro _ _) | (intro _) | skip); first | omega | (dsimp only at *; omega) | (simp_all; done) | (simp at *; omega))
     have zw26 := y26.size
     replace A25 := N26
     refine RS.assign (v := .int _ _) rfl ?_
     refine RS.nil ?_
     refine hK23 _ _ ?_
     try clear hK23
     refine wp_seq_k (fun K27 hK27 => ?_)
     refine wp_seq_k (fun K28 hK28 => ?_)
     rw [List.length_map] at lOA lOB lOC
     rw [List.length_take, List.length_drop] at lOB lOC
     have heq : (ps.map (fun p : Pc => S.jdV p.xs)) = ([] ++ ((ps.drop 0).take (at_.toNat - 0)).map (fun p : Pc => S.jdV p.xs)) ++ ((ps.drop at_.toNat).take (n - at_.toNat)).map (fun p : Pc => S.jdV p.xs) := by
      rw [List.nil_append, ← List.map_append, List.drop_zero, Nat.sub_zero, List.take_of_length_le (l := ps.drop at_.toNat) (by rw [List.length_drop]; omega), List.take_append_drop]
     refine region ?_
     refine RS.move (v := .int _ _) rfl ?_
     refine RS.o (D.ne rfl rfl) ?_
     refine RS.move (v := .bool _) rfl ?_
     refine RS.splitn 58 rfl rfl (fun c29 => ?_) (fun c29 => ?_)
     ·refine RS.norm (by dsimp only [List.set]) ?_
      exact absurd rfl c29
     ·refine RS.norm (by dsimp only [List.set]) ?_
      refine RS.wantB 58 rfl rfl rfl ?_
      refine RS.move (v := .int _ _) rfl ?_
      refine RS.wantB 58 rfl rfl rfl ?_
      refine RS.o (D.ne rfl rfl) ?_
      refine RS.pick (v := .bool _) rfl rfl ?_
      refine RS.move (v := .bool _) rfl ?_
      refine RS.splitn 62 rfl rfl (fun c30 => ?_) (fun c30 => ?_)
      ·refine RS.norm (by dsimp only [List.set]) ?_
       exact absurd rfl c30
      ·refine RS.norm (by dsimp only [List.set]) ?_
       refine RS.wantB 62 rfl rfl rfl ?_
       refine RS.move (v := .int _ _) rfl ?_
       refine RS.wantB 62 rfl rfl rfl ?_
       refine RS.o (D.ne rfl rfl) ?_
       refine RS.pick (v := .bool _) rfl rfl ?_
       refine RS.move (v := .bool _) rfl ?_
       refine RS.splitn 66 rfl rfl (fun c31 => ?_) (fun c31 => ?_)
       ·refine RS.norm (by dsimp only [List.set]) ?_
        exact absurd rfl c31
       ·refine RS.norm (by dsimp only [List.set]) ?_
        refine RS.wantB 66 rfl rfl rfl ?_
        refine RS.move (v := .int _ _) rfl ?_
        refine RS.wantB 66 rfl rfl rfl ?_
        refine RS.o (D.ne rfl rfl) ?_
        refine RS.pick (v := .bool _) rfl rfl ?_
        refine RS.move (v := .bool _) rfl ?_
        refine RS.splitn 70 rfl rfl (fun c32 => ?_) (fun c32 => ?_)
        ·refine RS.norm (by dsimp only [List.set]) ?_
         exact absurd rfl c32
        ·refine RS.norm (by dsimp only [List.set]) ?_
         refine RS.wantB 70 rfl rfl rfl ?_
         refine RS.move (v := .slice _ _ _) rfl ?_
         refine RS.wantB 70 rfl rfl rfl ?_
         refine RS.o (D.len rfl Tryd.underlying35) ?_
         refine RS.wantB 70 rfl rfl rfl ?_
         refine RS.move (v := .slice _ _ _) rfl ?_
         refine RS.wantB 70 rfl rfl rfl ?_
         refine RS.o (D.len rfl Tryd.underlying70) ?_
         refine RS.wantB 70 rfl rfl rfl ?_
         refine RS.o (D.ne rfl rfl) ?_
         refine RS.pick (v := .bool _) rfl rfl ?_
         refine RS.move (v := .bool _) rfl ?_
         refine RS.splitn 77 rfl rfl (fun c33 => ?_) (fun c33 => ?_)
         ·refine RS.norm (by dsimp only [List.set]) ?_
          exfalso; omega
         ·refine RS.norm (by dsimp only [List.set]) ?_
          refine RS.wantB 77 rfl rfl rfl ?_
          refine RS.move (v := .slice _ _ _) rfl ?_
          refine RS.wantB 77 rfl rfl rfl ?_
          refine RS.buildNone Tryd.underlying35 T5 (fun b34 w34 e34 s34 x34 B34 => ?_)
          refine RS.norm (by dsimp only [List.set]) ?_
          replace hE := Ext.tr hE x34
          replace K0 := K0.ext x34
          replace P0 := P0.ext x34
          replace RA := RA.ext x34
          replace RB := RB.ext x34
          replace RC := RC.ext x34
          replace A25 := A25.ext x34
          have zw34 := x34.size
          have OU : IOwn w26.heap.size w34 5 .u8 (some ⟨b34, 0, none⟩) 0 0 [] := IOwn.of_blk B34 rfl rfl (by omega) (Bd.nil _) (by decide)
          refine RS.wantB 77 rfl rfl rfl ?_
          refine RS.move (v := .slice _ _ _) rfl ?_
          refine RS.wantB 77 rfl rfl rfl ?_
          refine RS.appendI OU RB rfl rfl Tryd.underlying35 T5 rfl (by omega) (by decide) (by omega) (fun a35 c35 w35 N35 x35 => ?_)
          refine RS.norm (by dsimp only [List.set]) ?_
          replace hE := hE.trans (x35.below (by intros; try (first | (intro _ _) | (intro _) | skip); first | omega | (have hq := OU.lo _ (by assumption); first | omega | (dsimp only at *; omega))) (by intros; try (first | (intro _ _) | (intro _) | skip); first | omega | (dsimp only at *; omega) | (simp_all; done) | (simp at *; omega)))
          replace K0 := K0.pr x35 (by intros; try (first | (intro _ _) | (intro _) | skip); first | omega | (have hq := OU.lo _ (by assumption); first | omega | (dsimp only at *; omega)))
          replace P0 := P0.pr x35 (by intros; try (first | (intro _ _) | (intro _) | skip); first | omega | (have hq := OU.lo _ (by assumption); first | omega | (dsimp only at *; omega)))
          replace RA := RA.pr x35 (by intros; try (first | (intro _ _) | (intro _) | skip); first | omega | (have hq := OU.lo _ (by assumption); first | omega | (dsimp only at *; omega)))
          replace RB := RB.pr x35 (by intros; try (first | (intro _ _) | (intro _) | skip); first | omega | (have hq := OU.lo _ (by assumption); first | omega | (dsimp only at *; omega)))
          replace RC := RC.pr x35 (by intros; try (first | (intro _ _) | (intro _) | skip); first | omega | (have hq := OU.lo _ (by assumption); first | omega | (dsimp only at *; omega)))
          replace A25 := A25.pr x35 (by intros; try (first | (intro _ _) | (intro _) | skip); first | omega | (have hq := OU.lo _ (by assumption); first | omega | (dsimp only at *; omega)))
          have zw35 := x35.size
          replace OU := N35
          refine RS.wantB 77 rfl rfl rfl ?_
          refine RS.move (v := .slice _ _ _) rfl ?_
          refine RS.wantB 77 rfl rfl rfl ?_
          refine RS.appendI OU RC rfl rfl Tryd.underlying35 T5 rfl (by omega) (by decide) (by omega) (fun a36 c36 w36 N36 x36 => ?_)
          refine RS.norm (by dsimp only [List.set]) ?_
          replace hE := hE.trans (x36.below (by intros; try (first | (intro _ _) | (intro _) | skip); first | omega | (have hq := OU.lo _ (by assumption); first | omega | (dsimp only at *; omega))) (by intros; try (first | (intro _ _) | (intro _) | skip); first | omega | (dsimp only at *; omega) | (simp_all; done) | (simp at *; omega)))
          replace K0 := K0.pr x36 (by intros; try (first | (intro _ _) | (intro _) | skip); first | omega | (have hq := OU.lo _ (by assumption); first | omega | (dsimp only at *; omega)))
          replace P0 := P0.pr x36 (by intros; try (first | (intro _ _) | (intro _) | skip); first | omega | (have hq := OU.lo _ (by assumption); first | omega | (dsimp only at *; omega)))
          replace RA := RA.pr x36 (by intros; try (first | (intro _ _) | (intro _) | skip); first | omega | (have hq := OU.lo _ (by assumption); first | omega | (dsimp only at *; omega)))
          replace RB := RB.pr x36 (by intros; try (first | (intro _ _) | (intro _) | skip); first | omega | (have hq := OU.lo _ (by assumption); first | omega | (dsimp only at *; omega)))
          replace RC := RC.pr x36 (by intros; try (first | (intro _ _) | (intro _) | skip); first | omega | (have hq := OU.lo _ (by assumption); first | omega | (dsimp only at *; omega)))
          replace A25 := A25.pr x36 (by intros; try (first | (intro _ _) | (intro _) | skip); first | omega | (have hq := OU.lo _ (by assumption); first | omega | (dsimp only at *; omega)))
          have zw36 := x36.size
          replace OU := N36
          refine RS.wantB 77 rfl rfl rfl ?_
          refine RS.call E22 (sameBytes _ _ _ _ _ _ _ _ _ RA OU.row (by omega) (by omega)) rfl (fun v37 w37 x37 A37 => ?_)
          replace hE := Ext.tr hE x37
          replace K0 := K0.ext x37
          replace P0 := P0.ext x37
          replace RA := RA.ext x37
          replace RB := RB.ext x37
          replace RC := RC.ext x37
          replace A25 := A25.ext x37
          replace OU := OU.ext x37
          have zw37 := x37.size
          subst A37
          refine RS.norm (by dsimp only [List.set]) ?_
          refine RS.wantB 77 rfl rfl rfl ?_
          refine RS.o (D.not rfl) ?_
          refine RS.pick (v := .bool _) rfl rfl ?_
          refine RS.nil ?_
          refine hK28 _ _ ?_
          try clear hK28
          refine C.ifnot rfl (fun c38 => ?_) (fun c38 => ?_)
          ·exact Bool.noConfusion ((decide_eq_true heq).symm.trans c38)
          ·refine wp_skip ?_
           refine hK27 _ _ ?_
           try clear hK27
           refine wp_seq_k (fun K39 hK39 => ?_)
           refine wp_seq_k (fun K40 hK40 => ?_)
           refine region ?_
           refine RS.assign (v := .int .i64 0) rfl ?_
           refine RS.nil ?_
           refine hK40 _ _ ?_
           try clear hK40
           refine wp_block ?_
           refine C.loop (A := Int) (fun p => [(13, .int .i64 p)]) [4, 87, 88, 89, 90, 91, 92, 93, 94, 95, 96, 97, 98, 99, 100, 101, 102, 103, 104, 105, 106, 107, 108, 109, 110, 111, 112, 113, 114, 115, 116, 117, 118, 119, 120, 121, 122, 123, 124] (fun p w' => Pr (fun k => k = b25) w37 w' ∧ ((0 ≤ p ∧ p ≤ n) ∧ IArr .i64 w' b25 10 (S.cntS ((ps.map (fun p : Pc => S.jdV p.xs)).drop p.toNat)) [] 71)) (fun p => (n - p.toNat)) 0 (by kernel_rfl) ?_ ?_
           ·exact ⟨Pr.refl _ _, ⟨by omega, by omega⟩, A25⟩
           ·rintro p j w41 ⟨x41, hI⟩
            replace hE := hE.trans (x41.below (by intros; try (first | (intro _ _) | (intro _) | skip); first | omega | (dsimp only at *; omega) | (simp_all; done) | (simp at *; omega)) (by intros; try (first | (intro _ _) | (intro _) | skip); first | omega | (dsimp only at *; omega) | (simp_all; done) | (simp at *; omega)))
            replace K0 := K0.pr x41 (by intros; try (first | (intro _ _) | (intro _) | skip); first | omega | (dsimp only at *; omega) | (simp_all; done) | (simp at *; omega))
            replace P0 := P0.pr x41 (by intros; try (first | (intro _ _) | (intro _) | skip); first | omega | (dsimp only at *; omega) | (simp_all; done) | (simp at *; omega))
            replace RA := RA.pr x41 (by intros; try (first | (intro _ _) | (intro _) | skip); first | omega | (dsimp only at *; omega) | (simp_all; done) | (simp at *; omega))
            replace RB := RB.pr x41 (by intros; try (first | (intro _ _) | (intro _) | skip); first | omega | (dsimp only at *; omega) | (simp_all; done) | (simp at *; omega))
            replace RC := RC.pr x41 (by intros; try (first | (intro _ _) | (intro _) | skip); first | omega | (dsimp only at *; omega) | (simp_all; done) | (simp at *; omega))
            have zw41 := x41.size
            obtain ⟨i, hi⟩ : ∃ i, i = p := ⟨p, rfl⟩
            subst hi
            obtain ⟨h1, A25⟩ := hI
            refine C.norm (by simp only [upd, junk, List.map_cons, List.map_nil, List.set_cons_succ, List.set_cons_zero]; exact rfl) ?_
            refine wp_seq_k (fun K42 hK42 => ?_)
            refine wp_seq_k (fun K43 hK43 => ?_)
            refine region ?_
            refine RS.move (v := .int _ _) rfl ?_
            refine RS.move (v := .slice _ _ _) rfl ?_
            refine RS.o (D.len rfl Tryd.underlying70) ?_
            refine RS.o (D.lt rfl rfl) ?_
            refine RS.nil ?_
            refine hK43 _ _ ?_
            try clear hK43
            refine C.ifd rfl (fun c44 => ?_) (fun c44 => ?_)
            ·refine wp_skip ?_
             refine hK42 _ _ ?_
             try clear hK42
             refine wp_seq_k (fun K45 hK45 => ?_)
             refine wp_block ?_
             refine wp_seq_k (fun K46 hK46 => ?_)
             refine wp_seq_k (fun K47 hK47 => ?_)
             have hjb := S.jd_bd (ps.getD i.toNat default).xs
             refine regionX Ext [(0, .q), (1, .q), (2, .q), (3, .q), (4, .q), (5, .q), (6, .q), (7, .q), (8, .e), (9, .q), (10, .q), (11, .q), (12, .q), (13, .q), (14, .q), (15, .q), (16, .q), (17, .q), (18, .q), (19, .q), (20, .q), (21, .q), (22, .q), (23, .q)] mixed Ext.refl (fun h k => h.tr k) (by kernel_rfl) (fun w48 x48 => ?_)
             replace hE := Ext.tr hE x48
             replace x41 := x41.ext x48
             replace K0 := K0.ext x48
             replace P0 := P0.ext x48
             replace RA := RA.ext x48
             replace RB := RB.ext x48
             replace RC := RC.ext x48
             replace A25 := A25.ext x48
             have zw48 := x48.size
             refine RX.move (v := .slice _ _ _) rfl ?_
             refine RX.move (v := .int _ _) rfl ?_
             refine RX.idx (fun _ h => h) RA rfl rfl Tryd.underlying35 C5 (by omega) (fun b49 o49 v49 h49 q49 r49 => ?_)
             refine RX.norm (by dsimp only [List.set]) ?_
             simp only [lim] at r49
             have ev49 : v49 = S.jdV (ps.getD i.toNat default).xs := by rw [q49]; exact S.map_getD (fun p : Pc => S.jdV p.xs) ps default i.toNat (by omega)
             refine RX.o (fun w' hw => D.load rfl Tryd.underlying5 rfl (h49 w' hw)) ?_
             refine RX.move (v := .slice _ _ _) rfl ?_
             refine RX.move (v := .int _ _) rfl ?_
             refine RX.idxP (fun _ h => h) P0 rfl rfl Tryd.underlying70 C35 (by omega) (fun b50 o50 p50 h50 q50 F50 G50 => ?_)
             refine RX.norm (by dsimp only [List.set]) ?_
             have hpx : p50.n ≤ 1000 := by rw [q50]; exact hg _ (by omega) (by omega)
             have ep : S.jdV p50.xs = S.jdV (ps.getD i.toNat default).xs := by rw [q50]
             refine RX.o (fun w' hw => D.load rfl Tryd.underlying35 rfl (h50 w' hw)) ?_
             refine RX.eff ?_
             refine RS.call E40 (verdictW _ _ _ _ _ _ K0 F50 G50 (by omega)) rfl (fun v51 w51 x51 A51 => ?_)
             replace hE := Ext.tr hE x51
             replace x41 := x41.ext x51
             replace K0 := K0.ext x51
             replace P0 := P0.ext x51
             replace RA := RA.ext x51
             replace RB := RB.ext x51
             replace RC := RC.ext x51
             replace A25 := A25.ext x51
             replace F50 := F50.ext x51
             have zw51 := x51.size
             subst A51
             refine RS.norm (by dsimp only [List.set]) ?_
             refine RS.nil ⟨x51, ?_⟩
             refine RX.o (fun w' hw => D.ne rfl rfl) ?_
             refine RX.move (v := .bool _) rfl ?_
             refine RX.splitn 103 rfl rfl (fun c52 => ?_) (fun c52 => ?_)
             ·refine RX.norm (by dsimp only [List.set]) ?_
              exact absurd (ev49.trans ep.symm) c52
             ·refine RX.norm (by dsimp only [List.set]) ?_
              refine RX.wantB 103 rfl rfl rfl ?_
              refine RX.move (v := .slice _ _ _) rfl ?_
              refine RX.wantB 103 rfl rfl rfl ?_
              refine RX.move (v := .int _ _) rfl ?_
              refine RX.wantB 103 rfl rfl rfl ?_
              refine RX.idx (fun _ h => h) RA rfl rfl Tryd.underlying35 C5 (by omega) (fun b53 o53 v53 h53 q53 r53 => ?_)
              refine RX.norm (by dsimp only [List.set]) ?_
              simp only [lim] at r53
              have ev53 : v53 = S.jdV (ps.getD i.toNat default).xs := by rw [q53]; exact S.map_getD (fun p : Pc => S.jdV p.xs) ps default i.toNat (by omega)
              refine RX.wantB 103 rfl rfl rfl ?_
              refine RX.o (fun w' hw => D.load rfl Tryd.underlying5 rfl (h53 w' hw)) ?_
              refine RX.wantB 103 rfl rfl rfl ?_
              refine RX.o (fun w' hw => D.eq rfl rfl) ?_
              refine RX.pick (v := .bool _) rfl rfl ?_
              refine RX.move (v := .bool _) rfl ?_
              refine RX.splite 110 rfl rfl (fun c54 => ?_) (fun c54 => ?_)
              ·refine RX.norm (by dsimp only [List.set]) ?_
               exfalso; omega
              ·refine RX.norm (by dsimp only [List.set]) ?_
               refine RX.wantB 110 rfl rfl rfl ?_
               refine RX.move (v := .slice _ _ _) rfl ?_
               refine RX.wantB 110 rfl rfl rfl ?_
               refine RX.move (v := .int _ _) rfl ?_
               refine RX.wantB 110 rfl rfl rfl ?_
               refine RX.idx (fun _ h => h) RA rfl rfl Tryd.underlying35 C5 (by omega) (fun b55 o55 v55 h55 q55 r55 => ?_)
               refine RX.norm (by dsimp only [List.set]) ?_
               simp only [lim] at r55
               have ev55 : v55 = S.jdV (ps.getD i.toNat default).xs := by rw [q55]; exact S.map_getD (fun p : Pc => S.jdV p.xs) ps default i.toNat (by omega)
               refine RX.wantB 110 rfl rfl rfl ?_
               refine RX.o (fun w' hw => D.load rfl Tryd.underlying5 rfl (h55 w' hw)) ?_
               refine RX.wantB 110 rfl rfl rfl ?_
               refine RX.o (fun w' hw => D.gt rfl rfl) ?_
               refine RX.pick (v := .bool _) rfl rfl ?_
               refine RX.nil ?_
               refine hK47 _ _ ?_
               try clear hK47
               refine C.ifd rfl (fun c56 => ?_) (fun c56 => ?_)
               ·exfalso; omega
               ·refine wp_skip ?_
                refine hK46 _ _ ?_
                try clear hK46
                have hjb := S.jd_bd (ps.getD i.toNat default).xs
                refine region ?_
                refine RS.move (v := .slice _ _ _) rfl ?_
                refine RS.move (v := .int _ _) rfl ?_
                refine RS.idx RA rfl rfl Tryd.underlying35 C5 (by omega) (fun b57 o57 v57 h57 q57 r57 => ?_)
                refine RS.norm (by dsimp only [List.set]) ?_
                simp only [lim] at r57
                have ev57 : v57 = S.jdV (ps.getD i.toNat default).xs := by rw [q57]; exact S.map_getD (fun p : Pc => S.jdV p.xs) ps default i.toNat (by omega)
                have hdr : (ps.map (fun p : Pc => S.jdV p.xs)).drop i.toNat = v57 :: (ps.map (fun p : Pc => S.jdV p.xs)).drop (i.toNat + 1) := by rw [List.drop_eq_getElem_cons (by rw [List.length_map]; omega)]; congr 1; rw [q57, List.getD_eq_getElem?_getD, List.getElem?_eq_getElem (by rw [List.length_map]; omega)]; rfl
                have hcp := S.cnt_pos ((ps.map (fun p : Pc => S.jdV p.xs)).drop (i.toNat + 1)) v57 (by omega)
                rw [← hdr] at hcp
                have hcb := S.cnt_bd ((ps.map (fun p : Pc => S.jdV p.xs)).drop i.toNat) (v57).toNat (by omega)
                rw [List.length_drop, List.length_map] at hcb
                refine RS.o (D.load rfl Tryd.underlying5 rfl (h57)) ?_
                refine RS.idxA A25 rfl rfl Tryd.underlying71 C3 (by omega) (fun v58 h58 q58 r58 => ?_)
                refine RS.norm (by dsimp only [List.set]) ?_
                simp only [lim] at r58
                have q1 := q58
                refine RS.o (D.load rfl Tryd.underlying3 rfl (h58)) ?_
                refine RS.o (D.sub rfl rfl (W.i64 (by omega))) ?_
                refine RS.idxA A25 rfl rfl Tryd.underlying71 C3 (by omega) (fun v59 h59 q59 r59 => ?_)
                refine RS.norm (by dsimp only [List.set]) ?_
                simp only [lim] at r59
                refine RS.storeA A25 rfl rfl C3 (by omega) (by simp only [lim]; omega) (fun w60 y60 N60 => ?_)
                replace hE := hE.trans (y60.below (by intros; try (first | (intro _ _) | (intro _) | skip); first | omega | (dsimp only at *; omega) | (simp_all; done) | (simp at *; omega)))
                replace x41 := x41.stn y60 (by intros; try (first | (intro _ _) | (intro _) | skip); first | omega | (dsimp only at *; omega) | (simp_all; done) | (simp at *; omega))
                replace K0 := K0.st y60 (by intros; try (first | (intro _ _) | (intro _) | skip); first | omega | (dsimp only at *; omega) | (simp_all; done) | (simp at *; omega))
                replace P0 := P0.st y60 (by intros; try (first | (intro _ _) | (intro _) | skip); first | omega | (dsimp only at *; omega) | (simp_all; done) | (simp at *; omega))
                replace RA := RA.st y60 (by intros; try (first | (intro _ _) | (intro _) | skip); first | omega | (dsimp only at *; omega) | (simp_all; done) | (simp at *; omega))
                replace RB := RB.st y60 (by intros; try (first | (intro _ _) | (intro _) | skip); first | omega | (dsimp only at *; omega) | (simp_all; done) | (simp at *; omega))
                replace RC := RC.st y60 (by intros; try (first | (intro _ _) | (intro _) | skip); first | omega | (dsimp only at *; omega) | (simp_all; done) | (simp at *; omega))
                replace F50 := F50.st y60 (by intros; try (first | (intro _ _) | (intro _) | skip); first | omega | (dsimp only at *; omega) | (simp_all; done) | (simp at *; omega))
                have zw60 := y60.size
                replace A25 := N60
                refine RS.nil ?_
                refine hK45 _ _ ?_
                try clear hK45
                refine region ?_
                refine RS.move (v := .int _ _) rfl ?_
                refine RS.o (D.add rfl rfl (W.i64 (by omega))) ?_
                refine RS.assign (v := .int _ _) rfl ?_
                refine RS.nil ?_
                change Nx _ _ _ _ _ _ _ _
                refine C.next (i + 1) ⟨rfl, trivial⟩ (by kernel_rfl) ?_ ?_
                ·refine ⟨x41, ⟨by omega, by omega⟩, ?_⟩
                 have hst := S.cnt_drop ((ps.map (fun p : Pc => S.jdV p.xs)).drop (i.toNat + 1)) v57 (by omega)
                 rw [← hdr, ← q1] at hst
                 rw [show (i + 1).toNat = i.toNat + 1 by omega, ← hst]
                 exact A25
                ·omega
            ·refine wp_exit ?_
             refine hK39 _ _ ?_
             try clear hK39
             refine wp_seq_k (fun K61 hK61 => ?_)
             rw [List.drop_of_length_le (by rw [List.length_map]; omega), S.cnt_nil] at A25
             refine region ?_
             refine RS.o (D.loadAgg rfl Tryd.underlying71 rfl C71 (by decide) (by rw [ints_length, A25.len]) A25.cells) ?_
             refine RS.o (D.build0 Tryd.underlying71 T71 C3) ?_
             refine RS.o (D.eqI rfl rfl Tryd.underlying71 Tryd.underlying3 C3 (by kernel_rfl) (by simp) (by simp) (by decide)) ?_
             refine RS.move (v := .bool _) rfl ?_
             refine RS.splitb 128 rfl rfl (fun c62 => ?_) (fun c62 => ?_)
             ·refine RS.norm (by dsimp only [List.set]) ?_
              refine RS.wantB 128 rfl rfl rfl ?_
              refine RS.call E33 (aliveJ _ _ K0) rfl (fun v63 w63 x63 A63 => ?_)
              replace hE := Ext.tr hE x63
              replace K0 := K0.ext x63
              replace P0 := P0.ext x63
              replace RA := RA.ext x63
              replace RB := RB.ext x63
              replace RC := RC.ext x63
              replace A25 := A25.ext x63
              have zw63 := x63.size
              subst A63
              refine RS.norm (by dsimp only [List.set]) ?_
              refine RS.pick (v := .bool _) rfl rfl ?_
              refine RS.assign (v := .bool _) rfl ?_
              refine RS.nil ?_
              refine hK61 _ _ ?_
              try clear hK61
              refine wp_ret ?_
              refine ret (rs := [.tmp 4]) (vs := [.bool _]) (v := (.bool _)) rfl ⟨rfl, trivial⟩ rfl ?_
              exact ⟨_, rfl, hE, rfl⟩
             ·refine RS.norm (by dsimp only [List.set]) ?_
              exact Bool.noConfusion ((decide_eq_true rfl).symm.trans c62)
end Go.Proofs.YtiohpiiiapjblaaDoor.W
namespace Go.Proofs.YtiohpiiiapjblaaDoor.L
open Go Go.Proofs.YtiohpiiiapjblaaDoor Go.Proofs.YtiohpiiiapjblaaDoor.G Go.Proofs.YtiohpiiiapjblaaDoor.W
open Go.ChangeShapes Go.WideShapes Go.ChangeAt Go.RowKit
set_option linter.unusedVariables false
set_option maxRecDepth 100000
theorem judgeParts_door (os : Os) (args : Array Value) : laidMetH Tryd.prog [("braid/digest.constants", Rows.laid_braid_digest_constants)] ((World.doorLaid Tryd.prog 400 os).forCall (fun _ _ => 0) ⟨#[], args, []⟩).memory :=
  laidMetH_of_parts3 (fuel := 8) (laidMet_of_run' 8 (by kernel_rfl) (by kernel_rfl)) (by kernel_rfl) (by kernel_rfl)
theorem judgeParts_lifted (os : Os) (started : os.Started) (H : Type) (enc : TypeId × Value → H) :
    ReturnsInHanded {} Tryd.checked os 9 .any (fun w args => (Rows.judgePartsSpec.pre enc Tryd.prog Tryd.f9 [] false w args ∧ laidMetH Tryd.prog [("braid/digest.constants", Rows.laid_braid_digest_constants)] w) ∧ sizedMet enc Tryd.prog Tryd.f9 (OpenSpec.ofChange Rows.judgePartsSpec) false w args)
      (Rows.judgePartsSpec.post enc Tryd.prog Tryd.f9 false true false false) := by
  refine returnsInHanded_of_change_and (C := Tryd.checked) (X := fun w _ => laidMetH Tryd.prog [("braid/digest.constants", Rows.laid_braid_digest_constants)] w) (fun _ _ _ hh h => h.of_heap hh) own started (by kernel_rfl) Tryd.func9
    (ChangeSpec.witness_shaped (enc := enc) (C := Tryd.checked) (os := os) (X := fun w _ => laidMetH Tryd.prog [("braid/digest.constants", Rows.laid_braid_digest_constants)] w) false (World.doorLaid Tryd.prog 400 os) #[.slice none 0 0, .int .i64 0] 8 rfl (World.shaped_of_RefB (by kernel_rfl) (by kernel_rfl)) (by kernel_rfl) (by kernel_rfl) (by kernel_rfl) (judgeParts_door os _)) ?_
  intro W base args ds gs before hval0 hW _ _ hL _
  have hval : ∀ (j : Nat) t v, Tryd.f9.params[j]? = some t → args[j]? = some v → Value.okWide Tryd.prog W .any base t v := hval0
  have hW' := hW
  obtain ⟨p, q, hA0, hV, rfl, hfz, hnd⟩ := hW
  have hA : DataW.TrodAll enc Tryd.prog W 0 (fun _ => true) true Tryd.f9.params.toList args.toList ds p := hA0
  rw [Tryd.params9] at hA hval
  obtain ⟨v0, vs0, d0, ds0, p0, q0, hargs, rfl, rfl, h0, r0⟩ := trodAll_cons hA
  obtain ⟨v1, vs1, d1, ds1, p1, q1, e1, rfl, rfl, h1, r1⟩ := trodAll_cons r0
  obtain ⟨rfl, rfl, rfl⟩ := trodAll_nil r1
  subst e1
  obtain rfl : args = #[v0, v1] := by cases args; simp_all
  obtain ⟨rfl, rfl⟩ := trodVars_none hV
  obtain ⟨a0, m0, c0, rfl⟩ := okWide_slice Tryd.underlying70 (hval 0 70 v0 rfl rfl)
  obtain ⟨n1, rfl⟩ := okWide_int Tryd.underlying3 (hval 1 3 v1 rfl rfl)
  have k0 := h0
  have lt0 : ∀ x ∈ p0, x.block < W.heap.size := by obtain ⟨m, hm⟩ := k0; exact DataW.trod_lt m _ _ _ hm
  obtain ⟨fuel0, hf0⟩ := h0
  obtain ⟨_, _, _, ps0, he0, hc0, hR0⟩ := listS_in hf0
  obtain ⟨rfl, rfl, rfl⟩ := Value.slice.inj (List.cons.inj he0).1
  have k1 := h1
  have lt1 : ∀ x ∈ p1, x.block < W.heap.size := by obtain ⟨m, hm⟩ := k1; exact DataW.trod_lt m _ _ _ hm
  obtain ⟨fuel1, hf1⟩ := h1
  obtain ⟨_, he1, hx1⟩ := int_in Tryd.underlying3 hf1
  have hl1 : IntKind.min .i64 = -9223372036854775808 ∧ IntKind.max .i64 = 9223372036854775807 := by decide
  obtain rfl := (Value.int.inj (List.cons.inj he1).1).2
  have K0 := of_laid hL
  clear hA0 hval0
  have hwalk := judgeParts a0 m0 c0 ps0 n1 (by omega) 0 W K0 hR0 hc0
  refine hwalk.mono fun e W' hret => ?_
  obtain ⟨v, rfl, bel, rfl⟩ := hret
  exact ⟨_, rfl, _, _, _, [], _, [], hW', trodAll_mk1 (shut_bool Tryd.underlying4 _), (trodAll_cons_mk (Below.trod laidOut (by kernel_rfl) (of_decide_eq_true (by kernel_rfl)) k0 bel lt0) (trodAll_cons_mk (Below.trod laidOut (by kernel_rfl) (of_decide_eq_true (by kernel_rfl)) k1 bel lt1) trodAll_mk0)), rfl, bel.frame _, fun h => by cases h⟩
theorem judgeParts_holds : Rows.JudgePartsSaid :=
  OpenClaim.holds_of_wide 9 Tryd.f9 rfl rfl rfl rfl rfl rfl rfl ⟨rfl, rfl, rfl, rfl, rfl⟩ rfl rfl rfl rfl rfl (by kernel_rfl) Tryd.func9 (by kernel_rfl)
    (of_decide_eq_true (by kernel_rfl)) (by unfold Func.isWrapper; first | (rw [if_pos (by decide +kernel)]; kernel_rfl) | (rw [if_neg (by decide +kernel)]; exact ⟨rfl, rfl⟩))
    (fun os started H enc _ => judgeParts_lifted os started H enc)
theorem judgeParts_card : Rows.JudgePartsCardSaid :=
  Claim7.holds_tied_plain_at .later [] [.data] true (true, "104f35b6784b2ea38b5d6679d4fffd1631d93a9a6896487cdb425c06aa7787e8") false
    judgeParts_holds (fun _ h => by cases h) (by kernel_rfl) (fun _ h => by cases h) judgeParts_row_tie rfl ⟨rfl, rfl⟩ (by kernel_rfl) rfl
    (fun f fn hf hfn => by
      obtain rfl : f = 9 := Option.some.inj ((show Tryd.prog.funcNamed "braid/braidlaw08.JudgeParts" = some 9 by kernel_rfl).symm.trans hf) |>.symm
      obtain rfl : fn = Tryd.f9 := (Option.some.inj (Tryd.func9.symm.trans hfn)).symm
      exact ⟨by kernel_rfl, fun j t ht => by
        rw [Tryd.params9] at ht
        have hm : t ∈ [70, 3] := by simpa using Array.mem_of_getElem? ht
        have hall : ([70, 3].all fun u => !Tryd.prog.wantsStandIn u) = true := by kernel_rfl
        exact (show Tryd.prog.wantsStandIn t = false by simpa using List.all_eq_true.1 hall t hm)⟩)
    (by kernel_rfl)
end Go.Proofs.YtiohpiiiapjblaaDoor.L
