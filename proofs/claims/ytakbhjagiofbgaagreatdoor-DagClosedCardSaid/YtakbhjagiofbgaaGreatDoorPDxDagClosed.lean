/-
  DagClosed: what is added to a closed set leaves it closed, with all that was there and the operation, its id and an order. Condition: the table digest.constants is as its initialiser lays it (tied by the card).
-/
import Derived.Test.YtakbhjagiofbgaaGreatDoorPDxDagClosedb
namespace Go.Proofs.YtakbhjagiofbgaaGreatDoor.W
open Go.RowKit Go.Proofs.YtakbhjagiofbgaaGreatDoor.G
set_option linter.unusedVariables false
set_option linter.unusedSimpArgs false
set_option maxRecDepth 20000
set_option maxHeartbeats 8000000
attribute [local irreducible] RS RX RY Code.wp bodyPost J Ent.blk Ent.irow Ent.iown Ent.wrow Ent.wown Ent.grow Ent.gown Ent.all Ent.emp
instance : Ents Tryz.prog 28 := ⟨.mk Tryz.func28 (by kernel_rfl) rfl⟩
instance : Ents Tryz.prog 30 := ⟨.mk Tryz.func30 (by kernel_rfl) rfl⟩
theorem lawClosed {S0 S1 : Nat → Prop} (g : GrA) (z : OpA) (TK : TypeId) (w : World) (K0 : Kst w TK) (G : GrI S0 w g) (hr : z.o.rng) (row : WRow .u8 32 S1 w z.pa z.o.n z.o.ids) (cap : z.o.n ≤ z.pc) :
  Calls Tryz.prog 5 #[.agg (grC g).toArray, .agg (opC z).toArray] w (Ret w fun v _ => v = .bool true) := by
 refine J.enter 168 Tryz.func5 rfl rfl ?_
 refine run ?_
 refine J.box rfl rfl rfl fun b1 => ?_
 refine J.box rfl rfl rfl fun b2 => ?_
 refine run ?_
 refine J.call rfl rfl (fun w' M => lawFit g w' (G.ext M.ext)) fun q1 hq1 => ?_
 refine run ?_
 refine J.spt rfl rfl rfl (fun c1 => ?_) (fun c1 => ?_)
 ·refine run ?_
  refine J.callp rfl rfl (fun w' M => dagAlive TK w' (K0.ext M.ext)) ?_
  refine run ?_
  exact J.fin rfl
 refine run ?_
 refine J.callp rfl rfl (fun w' M => great z.o z.pa z.pc w') ?_
 refine run ?_
 refine J.ifd rfl (fun c2 => ?_) (fun c2 => ?_)
 ·refine run ?_
  refine J.callp rfl rfl (fun w' M => dagAlive TK w' (K0.ext M.ext)) ?_
  refine run ?_
  exact J.fin rfl
 obtain ⟨s1, k1⟩ := hq1 c1
 have G := G.gr s1
 have R : OpR S1 w z := ⟨hr.ok c2, row, cap⟩
 have G0 := G.ops
 have hlg := G.ids.len
 have hcp := G.cap
 have fg : g.P.fine := (S.chkP_fine hlg).1 k1
 have ai := S.addI_arr g.P z.o
 have sz := add_size (a := g.P) (o := z.o) hlg
 have ok := add_ok (a := g.P) G.opz R.ok
 refine run ?_
 refine J.call rfl rfl (fun w' M => dagAdd g z TK w' (K0.ext M.ext) (G.ext M.ext) (R.ext M.ext)) fun q hq => ?_
 dsimp only [grE, List.cons_append, List.nil_append]
 refine run ?_
 refine J.alloc rfl fun b3 => ?_
 refine J.alloc rfl fun b4 => ?_
 refine run ?_
 refine J.ifn rfl (fun c3 => ?_) (fun c3 => ?_)
 ·have hm : q.m = 0 := by rw [hq.m, (S.addP_no c3).1]; rfl
  refine run ?_
  refine J.spe rfl rfl rfl (fun _ => ?_) (fun c => absurd (by omega) c)
  refine run ?_
  refine J.callp rfl rfl (fun w' M => dagAlive TK w' (K0.ext M.ext)) ?_
  refine run ?_
  exact J.fin rfl
 obtain ⟨_, hnot, fh, hm, hid, hhas⟩ := S.add_fine hlg c3
 have hm' : q.m = g.m + 1 := by rw [hq.m]; exact hm
 have hn' : q.n = q.m := hq.nm sz.1
 have hqs := hq.sz sz
 have hqok := hq.ok ok
 have hP := GrP.P (P := S.addP g.P z.o) hq
 have hgood : q.P.good := by rw [hP]; exact fh.good
 have hqol : q.ops.length = q.m := hgood.2
 have hris : S.Rising q.m q.ids := by rw [hq.m, hq.ids]; exact fh.rising
 have hhasq : ∀ y u, q.P.has y u ↔ g.P.has y u ∨ (y = S.idOf z.o ∧ u = z.o) := by rw [hP]; exact hhas
 have hchk : S.chkG q.m q.ids q.ops = 0 := by rw [hq.m, hq.ids, hq.ops]; exact (S.chkP_fine fh.good.1).2 fh
 have hz := S.chkG_zero.1 hchk
 have hver : S.verE z.o = 0 := (S.addE_zero.1 c3).2.1
 have hce := S.verE_check hver
 have hA : Arr .u8 32 (S.sha (S.encS z.o)) := S.sha_arr _
 have hinq : S.inS q.m q.ids (S.idOf z.o) := S.has_in (g := q.P).2 ⟨z.o, (hhasq _ _).2 (.inr ⟨rfl, rfl⟩)⟩
 refine J.fact (.gown opC 11 54 q.oa q.n q.oc q.zs) (fun _ _ h => (gown_e h).1.len) fun hql => ?_
 refine J.fact (.wown 43 .u8 32 q.ia q.m q.ic q.ids) (fun _ _ h => wown_len h) fun hqi => ?_
 rw [hid]
 refine run ?_
 refine J.spn rfl rfl rfl (fun c => absurd (by omega) c) (fun _ => ?_)
 refine run ?_
 refine J.spn rfl rfl rfl (fun c => absurd (by omega) c) (fun _ => ?_)
 refine run ?_
 refine J.callp rfl rfl (fun w' M => (RW.own' (a := q.ia) w' M).elim fun _ k0 => risingR _ _ _ _ w' k0 hqi.2 (by omega)) ?_
 refine run ?_
 refine J.spt rfl rfl rfl (fun c => absurd hris (of_decide_eq_false c)) (fun _ => ?_)
 refine run ?_
 refine J.callp rfl rfl (fun w' M => dagCheck q TK w' (K0.ext M.ext) (GrR.own hqok hq.cap hqs w' M)) ?_
 refine run ?_
 refine J.ifn rfl (fun c => absurd hchk c) (fun _ => ?_)
 refine run ?_
 refine J.loopS (A := Int) (fun p => [(8, .int .i64 p)]) [4, 9, 64, 65, 66, 67, 68, 69, 70, 71, 72, 73, 74, 75, 76, 77, 78, 79, 80, 81, 82, 83, 84, 85, 86, 87, 88, 89, 90, 91, 92, 93, 94, 95, 96, 97, 98, 99, 100, 101, 102, 103, 104, 105, 106, 107, 108, 109, 110, 111, 112, 113, 114, 115, 116, 117, 118, 119, 120, 121, 122, 123, 124, 125, 126, 127, 128, 129, 130, 131, 132, 133, 134, 135, 136, 137, 138] (fun p => 0 ≤ p ∧ p ≤ q.m) (fun p => q.m - p.toNat) 0 (by kernel_rfl) ⟨by omega, by omega⟩ (fun p j hI => ?_)
 refine run ?_
 refine J.ifd rfl (fun d1 => ?_) (fun d1 => ?_)
 ·refine J.fact (.wown 43 .u8 32 q.ia q.m q.ic q.ids) (fun _ _ h => (wown_row h).elt_arr (i := p.toNat) (by omega)) fun hA2 => ?_
  obtain ⟨y, hy⟩ : ∃ y, q.zs[p.toNat]? = some y := ⟨_, List.getElem?_eq_getElem (by omega)⟩
  have hyo := GrA.opAt hy
  have hhy : q.P.has (elt 32 q.ids p.toNat) y.o := ⟨p.toNat, by show p.toNat < q.m; omega, rfl, hyo⟩
  have hall : S.allI q.m q.ids y.o.n y.o.ids := by
   have := hz.2.2.2.2.1 p.toNat (by omega)
   rwa [hyo] at this
  have hyn : y.o.n ≤ 40 := (hqok y (List.mem_of_getElem? hy)).n
  have hR1 : ∀ {w' : World}, GrR (fun _ => True) w' q → OpR (fun _ => True) w' y := fun h => h.op hy
  refine run ?_
  refine J.regionX [(0, .q), (1, .q), (2, .q), (3, .q), (4, .q), (5, .q), (6, .q), (7, .e), (8, .q)] mixed (by kernel_rfl) ?_
  refine run ?_
  refine J.callp rfl rfl (fun w' M => refAt _ _ _ _ _ w' (G.ids.ext M.ext) hA2 (by omega)) ?_
  refine run ?_
  refine J.regionX [(0, .q), (1, .q), (2, .q), (3, .q), (4, .q), (5, .q), (6, .q), (7, .q), (8, .q), (9, .q), (10, .q), (11, .q), (12, .q), (13, .q), (14, .q), (15, .q), (16, .q), (17, .e), (18, .q), (19, .q), (20, .q), (21, .q), (22, .q), (23, .q), (24, .q), (25, .q), (26, .q), (27, .q), (28, .q), (29, .q), (30, .q), (31, .q), (32, .q), (33, .q), (34, .q), (35, .q), (36, .q), (37, .q), (38, .q), (39, .q), (40, .q), (41, .q), (42, .q), (43, .e), (44, .q), (45, .q), (46, .q), (47, .q), (48, .q), (49, .q), (50, .q), (51, .q), (52, .q), (53, .q), (54, .q), (55, .q), (56, .q), (57, .e), (58, .q), (59, .q)] mixed (by kernel_rfl) ?_
  refine run ?_
  refine J.spd rfl rfl rfl (fun d2 => ?_) (fun d2 => ?_)
  ·have hni : ¬ S.inS g.m g.ids (elt 32 q.ids p.toNat) := by rw [d2]; exact hnot
   have hyz : y.o = z.o := by
    rcases (hhasq _ _).1 hhy with h | h
    ·exact absurd (S.has_in (g := g.P).2 ⟨_, h⟩) hni
    exact h.2
   refine run ?_
   refine J.spd rfl rfl rfl (fun c => absurd (S.at_neg.2 hni) (Int.not_lt.2 c)) (fun _ => ?_)
   refine run ?_
   refine J.callp rfl rfl (fun w' M => sameO y.o z.o (hqok y (List.mem_of_getElem? hy)) R.ok _ _ _ _ w' (hR1 (GrR.own hqok hq.cap hqs w' M)).row (R.row.ext M.ext)) ?_
   refine run ?_
   refine J.spt rfl rfl rfl (fun c => absurd (by rw [hyz]; exact S.sameO_refl _) (of_decide_eq_false c)) (fun _ => ?_)
   refine run ?_
   refine J.spd rfl rfl rfl (fun c => absurd d2 c) (fun _ => ?_)
   refine run ?_
   refine J.callp rfl rfl (fun w' M => refAll _ _ _ _ _ _ _ _ w' (GrR.own hqok hq.cap hqs w' M).ids (hR1 (GrR.own hqok hq.cap hqs w' M)).row (by omega) (by omega)) ?_
   refine run ?_
   refine J.ifnot rfl (fun c => absurd hall (of_decide_eq_false c)) (fun _ => ?_)
   refine run ?_
   exact J.nextS (p + 1) ⟨rfl, trivial⟩ (by kernel_rfl) ⟨by omega, by omega⟩ (by omega)
  have hgy : g.P.has (elt 32 q.ids p.toNat) y.o := by
   rcases (hhasq _ _).1 hhy with h | h
   ·exact h
   exact absurd h.1 d2
  have hin : S.inS g.m g.ids (elt 32 q.ids p.toNat) := S.has_in (g := g.P).2 ⟨_, hgy⟩
  have hat : S.atS g.m g.ids (elt 32 q.ids p.toNat) = (S.ixS g.m g.ids (elt 32 q.ids p.toNat) : Nat) := if_pos hin
  have hix := S.ix_in hin
  have hgn : g.n = g.m := G.len.symm.trans fg.good.2
  obtain ⟨u, hu⟩ := G0.ex (i := S.atS g.m g.ids (elt 32 q.ids p.toNat)) (by omega)
  have R2 := G.op hu
  have huo := GrA.opAt hu
  rw [hat, Int.toNat_natCast] at huo
  have hyu : y.o = u.o := S.has_fun fg.rising hgy ⟨_, hix.1, hix.2, huo⟩
  refine run ?_
  refine J.spd rfl rfl rfl (fun _ => ?_) (fun c => absurd d2 c)
  refine run ?_
  refine J.spd rfl rfl rfl (fun c => absurd hin (S.at_neg.1 c)) (fun _ => ?_)
  refine run ?_
  refine J.callp rfl rfl (fun w' M => sameO y.o u.o (hqok y (List.mem_of_getElem? hy)) R2.ok _ _ _ _ w' (hR1 (GrR.own hqok hq.cap hqs w' M)).row (R2.row.ext M.ext)) ?_
  refine run ?_
  refine J.spt rfl rfl rfl (fun c => absurd (by rw [hyu]; exact S.sameO_refl _) (of_decide_eq_false c)) (fun _ => ?_)
  refine run ?_
  refine J.callp rfl rfl (fun w' M => refAll _ _ _ _ _ _ _ _ w' (GrR.own hqok hq.cap hqs w' M).ids (hR1 (GrR.own hqok hq.cap hqs w' M)).row (by omega) (by omega)) ?_
  refine run ?_
  refine J.ifnot rfl (fun c => absurd hall (of_decide_eq_false c)) (fun _ => ?_)
  refine run ?_
  exact J.nextS (p + 1) ⟨rfl, trivial⟩ (by kernel_rfl) ⟨by omega, by omega⟩ (by omega)
 refine run ?_
 refine J.callp rfl rfl (fun w' M => idO z.o R.ok _ _ _ w' (K0.ext M.ext) (R.row.ext M.ext) R.cap) ?_
 rw [if_pos hce, hce]
 refine run ?_
 refine J.alloc rfl fun b5 => ?_
 refine run ?_
 refine J.regionX [(0, .q), (1, .q), (2, .q), (3, .q), (4, .q), (5, .q), (6, .q), (7, .q), (8, .q), (9, .q), (10, .q), (11, .e), (12, .q), (13, .q), (14, .q), (15, .q), (18, .q), (19, .q), (20, .q), (16, .e), (17, .q), (21, .q), (22, .q), (23, .q), (24, .e), (25, .q), (26, .q)] mixed (by kernel_rfl) ?_
 refine run ?_
 refine J.spd rfl rfl rfl (fun _ => ?_) (fun c => absurd rfl c)
 refine run ?_
 refine J.callp rfl rfl (fun w' M => (RW.own' (a := q.ia) w' M).elim fun _ k0 => refAt _ _ _ _ _ w' k0 hA (by omega)) ?_
 refine run ?_
 refine J.spd rfl rfl rfl (fun _ => ?_) (fun c => absurd hinq (S.at_neg.1 (Int.not_le.1 c)))
 refine run ?_
 refine J.call rfl rfl (fun w' M => refOrderL q w' (GrR.own hqok hq.cap hqs w' M) hn'.symm hris hz.2.2.2.2.1) fun l hl => ?_
 obtain ⟨l1, l2, l3⟩ := hl
 have hlen : l.1.2.1 = q.n := by
  have h1 := (l2.found l3).1 (by have := hz.2.2.2.2.2; have := hgood.2; rwa [show q.ops.length = q.n by omega] at *)
  have h2 := l2.le
  omega
 refine run ?_
 refine J.spe rfl rfl rfl (fun _ => ?_) (fun c => absurd (by omega) c)
 refine run ?_
 refine J.callp rfl rfl (fun w' M => dagAlive TK w' (K0.ext M.ext)) ?_
 refine run ?_
 exact J.fin rfl
end Go.Proofs.YtakbhjagiofbgaaGreatDoor.W
namespace Go.Proofs.YtakbhjagiofbgaaGreatDoor.L
open Go Go.Proofs.YtakbhjagiofbgaaGreatDoor Go.Proofs.YtakbhjagiofbgaaGreatDoor.G Go.Proofs.YtakbhjagiofbgaaGreatDoor.W
open Go.ChangeShapes Go.WideShapes Go.ChangeAt Go.RowKit
set_option linter.unusedVariables false
set_option maxRecDepth 100000
theorem dagClosed_door (os : Os) (args : Array Value) : laidMetH Tryz.prog [("braid/digest.constants", Rows.laid_braid_digest_constants)] ((World.doorLaid Tryz.prog 400 os).forCall (fun _ _ => 0) ⟨#[], args, []⟩).memory :=
  laidMetH_of_parts3 (fuel := 8) (laidMet_of_run' 8 (by kernel_rfl) (by kernel_rfl)) (by kernel_rfl) (by kernel_rfl)
theorem dagClosed_lifted (os : Os) (started : os.Started) (H : Type) (enc : TypeId × Value → H) :
    ReturnsInHanded {} Tryz.checked os 5 .any (fun w args => (Rows.dagClosedSpec.pre enc Tryz.prog Tryz.f5 [] false w args ∧ laidMetH Tryz.prog [("braid/digest.constants", Rows.laid_braid_digest_constants)] w) ∧ sizedMet enc Tryz.prog Tryz.f5 (OpenSpec.ofChange Rows.dagClosedSpec) false w args)
      (Rows.dagClosedSpec.post enc Tryz.prog Tryz.f5 false true false false) := by
  refine returnsInHanded_of_change_and (C := Tryz.checked) (X := fun w _ => laidMetH Tryz.prog [("braid/digest.constants", Rows.laid_braid_digest_constants)] w) (fun _ _ _ hh h => h.of_heap hh) own started (by kernel_rfl) Tryz.func5
    (ChangeSpec.witness_shaped (enc := enc) (C := Tryz.checked) (os := os) (X := fun w _ => laidMetH Tryz.prog [("braid/digest.constants", Rows.laid_braid_digest_constants)] w) false (World.doorLaid Tryz.prog 400 os) #[.agg #[.slice none 0 0, .slice none 0 0], .agg #[.int .u32 0, .slice none 0 0, .int .u64 0, .int .u8 0, .string .empty, .int .u8 0, .int .i64 0, .int .u64 0, .string .empty, .int .u32 0, .int .u32 0]] 8 rfl (World.shaped_of_RefB (by kernel_rfl) (by kernel_rfl)) (by kernel_rfl) (by kernel_rfl) (by kernel_rfl) (dagClosed_door os _)) ?_
  intro W base args ds gs before hval0 hW _ _ hL _
  have hval : ∀ (j : Nat) t v, Tryz.f5.params[j]? = some t → args[j]? = some v → Value.okWide Tryz.prog W .any base t v := hval0
  have hW' := hW
  obtain ⟨p, q, hA0, hV, rfl, hfz, hnd⟩ := hW
  have hA : DataW.TrodAll enc Tryz.prog W 0 (fun _ => true) true Tryz.f5.params.toList args.toList ds p := hA0
  rw [Tryz.params5] at hA hval
  obtain ⟨v0, vs0, d0, ds0, p0, q0, hargs, rfl, rfl, h0, r0⟩ := trodAll_cons hA
  obtain ⟨v1, vs1, d1, ds1, p1, q1, e1, rfl, rfl, h1, r1⟩ := trodAll_cons r0
  obtain ⟨rfl, rfl, rfl⟩ := trodAll_nil r1
  subst e1
  obtain rfl : args = #[v0, v1] := by cases args; simp_all
  obtain ⟨rfl, rfl⟩ := trodVars_none hV
  obtain ⟨cs0, rfl, _⟩ := okWide_struct Tryz.underlying25 (hval 0 25 v0 rfl rfl)
  obtain ⟨cs1, rfl, _⟩ := okWide_struct Tryz.underlying54 (hval 1 54 v1 rfl rfl)
  have k0 := h0
  have lt0 : ∀ x ∈ p0, x.block < W.heap.size := by obtain ⟨m, hm⟩ := k0; exact DataW.trod_lt m _ _ _ hm
  obtain ⟨fuel0, hf0⟩ := h0
  obtain ⟨g0, hcs0, hG0⟩ := graph_in hf0
  have hv0 : (Value.agg cs0) = .agg (grC g0).toArray := by
    congr 1
    apply Array.ext'
    exact hcs0
  have k1 := h1
  have lt1 : ∀ x ∈ p1, x.block < W.heap.size := by obtain ⟨m, hm⟩ := k1; exact DataW.trod_lt m _ _ _ hm
  obtain ⟨fuel1, hf1⟩ := h1
  obtain ⟨o1, pa1, pc1, hcs1, hr1, hc1, hR1⟩ := op_in hf1
  have hv1 : (Value.agg cs1) = .agg ([.int .u32 o1.au, .slice pa1 o1.n pc1, .int .u64 o1.st, .int .u8 o1.k, .string o1.key, .int .u8 o1.vk, .int .i64 o1.num, .int .u64 o1.bits, .string o1.t, .int .u32 o1.e, .int .u32 o1.s] : List Value).toArray := by
    congr 1
    apply Array.ext'
    exact hcs1
  have K0 := of_laid hL
  clear hA0 hval0
  have hwalk := lawClosed g0 ⟨o1, pa1, pc1⟩ 0 W K0 hG0 hr1 hR1 hc1
  rw [← hv0, ← hv1] at hwalk
  refine hwalk.mono fun e W' hret => ?_
  obtain ⟨v, rfl, bel, rfl⟩ := hret
  exact ⟨_, rfl, _, _, _, [], _, [], hW', trodAll_mk1 (shut_bool Tryz.underlying4 _), (trodAll_cons_mk (Below.trod laidOut (by kernel_rfl) (of_decide_eq_true (by kernel_rfl)) k0 bel lt0) (trodAll_cons_mk (Below.trod laidOut (by kernel_rfl) (of_decide_eq_true (by kernel_rfl)) k1 bel lt1) trodAll_mk0)), rfl, bel.frame _, fun h => by cases h⟩
theorem dagClosed_closed : joinedFacts Tryz.prog 5 Tryz.f5 Rows.dagClosedSpec Rows.dagClosedRow = true := by
  unfold joinedFacts
  rw [dagClosed_f1, dagClosed_f2, dagClosed_f3, dagClosed_f4]
  kernel_rfl
theorem dagClosed_holds : Rows.DagClosedSaid :=
  OpenClaim.holds_of_wide 5 Tryz.f5 rfl rfl rfl rfl rfl rfl rfl ⟨rfl, rfl, rfl, rfl, rfl⟩ rfl rfl rfl rfl rfl (by kernel_rfl) Tryz.func5 dagClosed_closed
    (of_decide_eq_true (by kernel_rfl)) (by unfold Func.isWrapper; first | (rw [if_pos (by decide +kernel)]; kernel_rfl) | (rw [if_neg (by decide +kernel)]; exact ⟨rfl, rfl⟩))
    (fun os started H enc _ => dagClosed_lifted os started H enc)
theorem dagClosed_card : Rows.DagClosedCardSaid :=
  Claim7.holds_tied_plain_at .later [] [.data] true (true, "ce7f95693885aeedf13d7a480699d4088ff108c22b3656e8c28c17dc6f60b1c2") false
    dagClosed_holds (fun _ h => by cases h) (by kernel_rfl) (fun _ h => by cases h) dagClosed_row_tie rfl ⟨rfl, rfl⟩ (by kernel_rfl) rfl
    (fun f fn hf hfn => by
      obtain rfl : f = 5 := Option.some.inj ((show Tryz.prog.funcNamed "braid/braidlaw09.DagClosed" = some 5 by kernel_rfl).symm.trans hf) |>.symm
      obtain rfl : fn = Tryz.f5 := (Option.some.inj (Tryz.func5.symm.trans hfn)).symm
      exact ⟨by kernel_rfl, fun j t ht => by
        rw [Tryz.params5] at ht
        have hm : t ∈ [25, 54] := by simpa using Array.mem_of_getElem? ht
        have hall : ([25, 54].all fun u => !Tryz.prog.wantsStandIn u) = true := by kernel_rfl
        exact (show Tryz.prog.wantsStandIn t = false by simpa using List.all_eq_true.1 hall t hm)⟩)
    (by kernel_rfl)
end Go.Proofs.YtakbhjagiofbgaaGreatDoor.L
