/-
  Part 14 of the lemmas of these laws: ShardFinds.
-/
import Derived.Test.YtkmgnmebadghbaaGreatDoorPSf13
set_option linter.unusedSimpArgs false
namespace Go.Proofs.YtkmgnmebadghbaaGreatDoor.W
open Go.RowKit Go.Proofs.YtkmgnmebadghbaaGreatDoor.G
set_option linter.unusedVariables false
set_option linter.unusedSimpArgs false
set_option maxRecDepth 20000
set_option maxHeartbeats 8000000
attribute [local irreducible] RS RX RY Code.wp bodyPost J Ent.blk Ent.iown Ent.wrow Ent.wown Ent.gown Ent.all Ent.emp
instance : Ents Tryz.prog 10 := ⟨.mk Tryz.func10 (by kernel_rfl) rfl⟩
instance : Ents Tryz.prog 11 := ⟨.mk Tryz.func11 (by kernel_rfl) rfl⟩
instance : Ents Tryz.prog 12 := ⟨.mk Tryz.func12 (by kernel_rfl) rfl⟩
instance : Ents Tryz.prog 13 := ⟨.mk Tryz.func13 (by kernel_rfl) rfl⟩
instance : Ents Tryz.prog 14 := ⟨.mk Tryz.func14 (by kernel_rfl) rfl⟩
instance : Ents Tryz.prog 15 := ⟨.mk Tryz.func15 (by kernel_rfl) rfl⟩
instance : Ents Tryz.prog 16 := ⟨.mk Tryz.func16 (by kernel_rfl) rfl⟩
instance : Ents Tryz.prog 20 := ⟨.mk Tryz.func20 (by kernel_rfl) rfl⟩
instance : Ents Tryz.prog 21 := ⟨.mk Tryz.func21 (by kernel_rfl) rfl⟩
instance : Ents Tryz.prog 22 := ⟨.mk Tryz.func22 (by kernel_rfl) rfl⟩
instance : Ents Tryz.prog 23 := ⟨.mk Tryz.func23 (by kernel_rfl) rfl⟩
instance : Ents Tryz.prog 24 := ⟨.mk Tryz.func24 (by kernel_rfl) rfl⟩
instance : Ents Tryz.prog 25 := ⟨.mk Tryz.func25 (by kernel_rfl) rfl⟩
theorem nw_sz {n : Int} {s : ShA} (h : ShK (S.nwS n) s) : (∀ g ∈ s.gs, g.m ≤ 70 ∧ g.ops.length ≤ 70) ∧ (s.gs.length ≤ 6 ∧ s.hn ≤ 100) := by
 by_cases c : 1 ≤ n ∧ n ≤ 4
 ·have e : S.nwS n = S.madeS S.PG.nil n.toNat := if_pos c
  rw [e] at h
  exact h.sz (Nat.zero_le _) (by omega)
 have e : S.nwS n = S.ShV.zero := if_neg c
 rw [e] at h
 have h1 : s.gs.map GrA.P = [] := congrArg S.ShV.ps h.V
 have h2 : s.hn = 0 := congrArg S.ShV.hn h.V
 have h3 : s.gs = [] := List.map_eq_nil_iff.1 h1
 rw [h3, h2]
 exact ⟨fun g hg => (by cases hg), Nat.zero_le _, Nat.zero_le _⟩
theorem eqSh_refl (v : S.ShV) : S.eqSh v v := ⟨rfl, rfl, rfl, fun i hi => ⟨rfl, rfl⟩⟩
theorem gt_ok {S0 : Nat → Prop} {w : World} {s : ShA} (H : ShR S0 w s) (x : List Int) : (S.gtO s.V x).ok := by
 by_cases h : S.okR s.V
 ·by_cases k : S.inS (S.whole s.V.ps).m (S.whole s.V.ps).ids x
  ·rw [(S.gt_0 h k).1]
   have hg := S.whole_good (ps := s.V.ps) H.ml
   have hlt := (S.ix_in k).1
   rw [S.getD_at (by rw [hg.2]; exact hlt)]
   exact refWholeOk H _ (List.getElem_mem _)
  rw [(S.gt_6 h k).1]
  exact S.OpV.zero_ok
 rw [(S.gt_8 h).1]
 exact S.OpV.zero_ok
theorem al_all {S0 : Nat → Prop} {w : World} {s : ShA} (H : ShR S0 w s) (hL : ShL s) : (S.alP s.V).good ∧ (S.alP s.V).m ≤ 64 ∧ ∀ o ∈ (S.alP s.V).ops, o.ok := by
 by_cases h : S.okR s.V
 ·rw [S.al_0 h]
  exact ⟨S.whole_good H.ml, H.le hL (ok_len H h).2, refWholeOk H⟩
 rw [S.al_8 h]
 exact ⟨S.nil_good, Nat.zero_le _, fun o ho => by cases ho⟩
theorem shardFinds {S0 : Nat → Prop} (n : Int) (s : ShA) (x : List Int) (TK : TypeId) (w : World) (K0 : Kst w TK) (G : ShI S0 w s) (hx : Arr .u8 32 x) :
  Calls Tryz.prog 3 #[.int .i64 n, .agg (shC s).toArray, .agg (ints .u8 x).toArray] w (Ret w fun v _ => v = .bool true) := by
 refine J.enter 169 Tryz.func3 rfl rfl ?_
 refine run ?_
 refine J.box rfl rfl rfl fun b1 => ?_
 refine run ?_
 refine J.box rfl rfl rfl fun b2 => ?_
 refine run ?_
 refine J.call rfl rfl (fun w' M => refShGreat s w' (G.ext M.ext)) fun g hg => ?_
 refine run ?_
 refine J.ifb rfl (fun c1 => ?_) (fun c1 => ?_)
 ·refine run ?_
  exact J.fin rfl
 obtain ⟨H, hL⟩ := G.sh (hg c1)
 refine run ?_
 refine J.call rfl rfl (fun w' M => shNew n w') fun u1 hu1 => ?_
 refine run ?_
 refine J.alloc rfl fun b3 => ?_
 refine run ?_
 refine J.call rfl rfl (fun w' M => refShNew n w') fun u2 hu2 => ?_
 refine run ?_
 refine J.alloc rfl fun b4 => ?_
 refine run ?_
 refine J.callp rfl rfl (fun w' M => shNum s x _ w' (K0.ext M.ext) (H.ext M.ext) hL hx) ?_
 refine run ?_
 refine J.callp rfl rfl (fun w' M => refShNumber s x w' (H.ext M.ext) hL hx) ?_
 refine run ?_
 refine J.callp rfl rfl (fun w' M => shHas s x _ w' (K0.ext M.ext) (H.ext M.ext) hL hx) ?_
 refine run ?_
 refine J.callp rfl rfl (fun w' M => refShHas s x w' (H.ext M.ext) hL hx) ?_
 refine run ?_
 refine J.regionX [(0, .q), (1, .q), (2, .e), (3, .q), (4, .q), (5, .q), (6, .q), (7, .q), (8, .q), (9, .q), (10, .q), (12, .q), (11, .e), (13, .e), (14, .q), (15, .q), (16, .q), (17, .q), (18, .q), (19, .q), (20, .q), (21, .q), (22, .q), (23, .q), (24, .q), (25, .q), (26, .q), (27, .q), (28, .q), (29, .q), (30, .q), (31, .q), (32, .q), (33, .q), (34, .q), (35, .q)] mixed (by kernel_rfl) ?_
 refine run ?_
 obtain ⟨z1, z2⟩ := nw_sz hu1
 obtain ⟨z3, z4⟩ := nw_sz hu2
 refine J.callp rfl rfl (fun w' M => refShSame u1 u2 w' (ShR.own hu1.k z1 z2 w' M) (ShR.own hu2.k z3 z4 w' M)) ?_
 rw [show decide (S.eqSh u1.V u2.V) = true from decide_eq_true (by rw [hu1.V, hu2.V]; exact eqSh_refl _)]
 refine run ?_
 refine J.spn rfl rfl rfl (fun c => absurd rfl c) (fun _ => ?_)
 refine run ?_
 refine J.callp rfl rfl (fun w' M => shCheck s _ w' (K0.ext M.ext) (H.ext M.ext) hL) ?_
 refine run ?_
 refine J.callp rfl rfl (fun w' M => refShCheck s w' (H.ext M.ext) hL) ?_
 refine run ?_
 refine J.spn rfl rfl rfl (fun c => absurd rfl c) (fun _ => ?_)
 refine run ?_
 refine J.spn rfl rfl rfl (fun c => absurd rfl c) (fun _ => ?_)
 refine run ?_
 refine J.spn rfl rfl rfl (fun c => absurd rfl c) (fun _ => ?_)
 refine run ?_
 refine J.sp rfl rfl rfl (fun c => absurd c (by simp)) (fun _ => ?_)
 refine run ?_
 refine J.ifn rfl (fun c => absurd rfl c) (fun _ => ?_)
 refine run ?_
 refine J.call rfl rfl (fun w' M => shGet s x _ w' (K0.ext M.ext) (H.ext M.ext) hL hx) fun q1 hq1 => ?_
 refine run ?_
 refine J.alloc rfl fun b5 => ?_
 refine run ?_
 refine J.call rfl rfl (fun w' M => refShGet s x w' (H.ext M.ext) hL hx) fun q2 hq2 => ?_
 refine run ?_
 refine J.alloc rfl fun b6 => ?_
 refine run ?_
 refine J.call rfl rfl (fun w' M => shAll s _ w' (K0.ext M.ext) (H.ext M.ext) hL) fun g1 hg1 => ?_
 dsimp only [grE, List.cons_append, List.nil_append]
 refine run ?_
 refine J.alloc rfl fun b7 => ?_
 refine run ?_
 refine J.call rfl rfl (fun w' M => refShAll s w' (H.ext M.ext) hL) fun g2 hg2 => ?_
 dsimp only [grE, List.cons_append, List.nil_append]
 refine run ?_
 refine J.alloc rfl fun b8 => ?_
 refine run ?_
 refine J.call rfl rfl (fun w' M => shHeads s _ w' (K0.ext M.ext) (H.ext M.ext) hL) fun d1 hd1 => ?_
 obtain ⟨ha1, hn1, hc1⟩ := d1
 dsimp only at hd1 ⊢
 refine run ?_
 refine J.call rfl rfl (fun w' M => refShHeads s w' (H.ext M.ext) hL) fun d2 hd2 => ?_
 obtain ⟨ha2, hn2, hc2⟩ := d2
 dsimp only at hd2 ⊢
 refine run ?_
 have hk := gt_ok H x
 obtain ⟨a1, a2, a3⟩ := al_all H hL
 have h1 : q1.o.ok := by rw [hq1.2]; exact hk
 have h2 : q2.o.ok := by rw [hq2.2]; exact hk
 have s1 : g1.m ≤ 70 ∧ g1.n ≤ 70 := ⟨by rw [hg1.m]; omega, by rw [hg1.n, a1.2]; omega⟩
 have s2 : g2.m ≤ 70 ∧ g2.n ≤ 70 := ⟨by rw [hg2.m]; omega, by rw [hg2.n, a1.2]; omega⟩
 refine J.callp rfl rfl (fun w' M => (RW.row' (a := q1.pa) w' M).elim fun _ k1 => (RW.row' (a := q2.pa) w' M).elim fun _ k2 => sameO q1.o q2.o h1 h2 _ _ _ _ w' k1 k2) ?_
 refine run ?_
 have hs : S.SameO q1.o q2.o := by rw [hq1.2, hq2.2]; exact S.sameO_refl _
 refine J.spd rfl rfl rfl (fun _ => ?_) (fun c => absurd hs c)
 refine run ?_
 refine J.spe rfl rfl rfl (fun _ => ?_) (fun c => absurd rfl c)
 refine run ?_
 refine J.callp rfl rfl (fun w' M => refGSame g1 g2 w' (GrR.own (hg1.ok a3) hg1.cap s1 w' M) (GrR.own (hg2.ok a3) hg2.cap s2 w' M)) ?_
 refine run ?_
 have hgs : g1.ids = g2.ids ∧ g1.ops = g2.ops := ⟨hg1.ids.trans hg2.ids.symm, hg1.ops.trans hg2.ops.symm⟩
 refine J.spd rfl rfl rfl (fun _ => ?_) (fun c => absurd hgs c)
 refine run ?_
 refine J.spe rfl rfl rfl (fun _ => ?_) (fun c => absurd rfl c)
 refine run ?_
 refine J.callp rfl rfl (fun w' M => (RW.row' (a := ha1) w' M).elim fun _ k1 => (RW.row' (a := ha2) w' M).elim fun _ k2 => sameIDs _ _ _ _ _ _ _ _ w' k1 k2 (by omega) (by omega)) ?_
 refine run ?_
 refine J.spd rfl rfl rfl (fun _ => ?_) (fun c => absurd rfl c)
 refine run ?_
 refine J.spe rfl rfl rfl (fun _ => ?_) (fun c => absurd rfl c)
 refine run ?_
 exact J.fin (congrArg _ (by simp))
end Go.Proofs.YtkmgnmebadghbaaGreatDoor.W
