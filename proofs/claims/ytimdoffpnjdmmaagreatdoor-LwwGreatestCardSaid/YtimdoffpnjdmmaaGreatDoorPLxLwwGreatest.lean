/-
  LwwGreatest: for each key the register is the last that any operation of the graph wrote. Condition: the table digest.constants is as its initialiser lays it (tied by the card).
-/
import Derived.Test.YtimdoffpnjdmmaaGreatDoorPLx12
namespace Go.Proofs.YtimdoffpnjdmmaaGreatDoor.W
open Go.RowKit Go.Proofs.YtimdoffpnjdmmaaGreatDoor.G
set_option linter.unusedVariables false
set_option linter.unusedSimpArgs false
set_option maxRecDepth 20000
set_option maxHeartbeats 8000000
attribute [local irreducible] RS RX RY Code.wp bodyPost J Ent.blk Ent.irow Ent.iown Ent.wrow Ent.wown Ent.grow Ent.gown Ent.all Ent.emp
instance : Ents Tryz.prog 13 := ⟨.mk Tryz.func13 (by kernel_rfl) rfl⟩
instance : Ents Tryz.prog 29 := ⟨.mk Tryz.func29 (by kernel_rfl) rfl⟩
instance : Ents Tryz.prog 31 := ⟨.mk Tryz.func31 (by kernel_rfl) rfl⟩
instance : Agg Tryz.prog 31 6 := ⟨_, Tryz.underlying31, rfl, by kernel_rfl⟩
theorem fits_act (a b c d : Int) (x y : ByteArray) : FitsT Tryz.prog 9 31 [.int .u8 a, .string x, .int .u8 b, .int .i64 c, .int .u64 d, .string y] = true := by kernel_rfl
theorem lwwGreatest {S0 : Nat → Prop} (g : GrA) (TK : TypeId) (w : World) (K0 : Kst w TK) (G : GrI S0 w g) :
  Calls Tryz.prog 7 #[.agg (grC g).toArray] w (Ret w fun v _ => v = .bool true) := by
 refine J.enter 144 Tryz.func7 rfl rfl ?_
 refine run ?_
 refine J.box rfl rfl rfl fun b1 => ?_
 refine run ?_
 refine J.callp rfl rfl (fun w' M => lwwAlive TK w' (K0.ext M.ext)) ?_
 refine run ?_
 refine J.call rfl rfl (fun w' M => refGreat g w' (G.ext M.ext)) fun q hq => ?_
 refine run ?_
 refine J.sp rfl rfl rfl (fun c1 => ?_) (fun c1 => ?_)
 ·refine run ?_
  exact J.fin rfl
 have G := G.gr (hq c1)
 have D0 := G.ids
 have G0 := G.ops
 have hl := G.len
 have hlen := D0.len
 refine run ?_
 refine J.callp rfl rfl (fun w' M => refCheck g w' (G.ext M.ext)) ?_
 refine run ?_
 refine J.spn rfl rfl rfl (fun c2 => ?_) (fun c2 => ?_)
 ·refine run ?_
  exact J.fin rfl
 have hz := S.chkG_zero.1 c2
 have hris := hz.2.2.2.1
 have hmn : g.m = g.n := by omega
 have hol : g.ops.length = g.m := by omega
 have hjs : ∀ j ∈ List.range g.m, j < g.m := fun j hj => List.mem_range.1 hj
 have hgood := S.ofL_goodG c2 hlen hjs
 have hle := S.ofL_le (ops := g.ops) hris hlen hjs
 have hn60 : g.n ≤ 60 := by omega
 refine run ?_
 refine J.call rfl rfl (fun w' M => lwwOf g TK w' (K0.ext M.ext) (G.ext M.ext)) fun q hq => ?_
 obtain ⟨⟨qa, qn, qc, ql⟩, qe⟩ := q
 obtain ⟨hq1, hq2, hq3, hq4⟩ := hq
 dsimp only at hq1 hq2 hq3 hq4 ⊢
 obtain rfl : qe = 0 := hq4.trans c2
 obtain rfl : ql = S.ofL g.ids g.ops (List.range g.m) := by rw [hq3, S.ofG_ok c2, hol]
 have Gs : ∀ {S0 : Nat → Prop} {w' : World}, GRow rgC 38 S0 w' qa qn (S.ofL g.ids g.ops (List.range g.m)) → RsR S0 w' qa qn qc (S.ofL g.ids g.ops (List.range g.m)) := fun h => ⟨h, G.rok (Nat.le_refl _), hq1, by omega⟩
 obtain ⟨l, hll⟩ := ex (S.ofL g.ids g.ops (List.range g.m))
 refine run ?_
 refine J.alloc rfl fun b2 => ?_
 refine run ?_
 refine J.callp rfl rfl (fun w' M => (RG.own' (a := qa) w' M).elim fun _ k0 => by have h := refRCheck qa qn qc _ w' (Gs k0); rw [S.chkR_good.2 hgood] at h; exact h) ?_
 refine run ?_
 rw [← hll] at Gs hgood hle hq2 ⊢
 refine J.loopS (A := Int) (fun p => [(6, .int .i64 p)]) [7, 8, 39, 40, 41, 42, 43, 44, 45, 46, 47, 48, 49, 50, 51, 52, 53, 54, 55, 56, 57, 58, 59, 60, 61, 62, 63, 64, 65, 66, 67, 68, 69, 70, 71, 72, 73, 74, 75, 76, 77, 78, 79, 80, 81, 82] (fun p => 0 ≤ p ∧ p ≤ qn) (fun p => qn - p.toNat) 0 (by kernel_rfl) ⟨by omega, by omega⟩ (fun p j hI => ?_)
 refine run ?_
 refine J.ifd rfl (fun d1 => ?_) (fun d1 => ?_)
 ·have hq := S.rg_at (l := l) (i := p.toNat) (by omega)
  obtain ⟨i, hi, hset, hye, hat⟩ := S.ofL_at (ops := g.ops) hris hlen (y := S.rg l p.toNat) (by rw [← hll]; exact S.rg_mem (by omega))
  obtain ⟨y, hy⟩ := ex (S.rg l p.toNat)
  rw [← hy] at hq hye hat
  have h32 := S.idAt_len g.ids i g.m hlen hi
  obtain ⟨z, hzz⟩ := G0.ex (i := (i : Nat)) (by omega)
  have hzz' := hzz
  rw [Int.toNat_natCast] at hzz'
  have hzo := GrA.opAt hzz'
  have hyz : y = S.regO z.o (S.idAt g.ids i) h32 := by rw [hye, S.regI_eq h32, hzo]
  have hz4 : z.o.k = 4 := by have := hset; unfold S.setI at this; rw [hzo] at this; exact this
  have hyok : y.ok := by rw [hye]; exact S.regI_ok (G.zok i) D0.bd hlen hi
  refine run ?_
  refine J.alloc rfl fun b3 => ?_
  refine run ?_
  refine J.ldp rfl ?_ (hv := rgC_id y) (hn := by rw [ints_length, y.h32])
  refine J.callp rfl rfl (fun w' M => refAt _ _ _ _ y.id w' (D0.ext M.ext) hyok.arr (by omega)) ?_
  rw [hat]
  refine run ?_
  refine J.regionX [(0, .q), (1, .q), (2, .q), (3, .q), (4, .q), (5, .q), (6, .q), (7, .q), (8, .q), (9, .q), (10, .q), (11, .q), (12, .q), (13, .q), (14, .q), (15, .q), (16, .q), (17, .q), (18, .q), (19, .q), (20, .q), (21, .q), (22, .q), (23, .q), (24, .q), (25, .q), (26, .q)] mixed (by kernel_rfl) ?_
  refine run ?_
  refine J.neR rfl rfl rfl (fits_act _ _ _ _ _ _) (fits_act _ _ _ _ _ _) (S.eqA6 _ _ _ _ _ _ _ _ _ _ _ _) ?_
  refine run ?_
  refine J.spd rfl rfl rfl (fun c => absurd (by rw [hyz]; exact ⟨hz4, rfl, rfl, rfl, rfl, rfl⟩) c) (fun _ => ?_)
  refine run ?_
  refine J.ifn rfl (fun c => absurd (by rw [hyz]; rfl) c) (fun _ => ?_)
  refine run ?_
  exact J.nextS (p + 1) ⟨rfl, trivial⟩ (by kernel_rfl) ⟨by omega, by omega⟩ (by omega)
 refine run ?_
 refine J.loopS (A := Int) (fun p => [(9, .int .i64 p)]) [10, 11, 12, 13, 83, 84, 85, 86, 87, 88, 89, 90, 91, 92, 93, 94, 95, 96, 97, 98, 99, 100, 101, 102, 103, 104, 105, 106, 107, 108, 109, 110, 111, 112, 113, 114, 115, 116, 117, 118, 119, 120, 121, 122, 123, 124, 125, 126, 127, 128, 129, 130, 131, 132, 133, 134, 135, 136, 137, 138, 139, 140, 141, 142, 143] (fun p => 0 ≤ p ∧ p ≤ g.n) (fun p => g.n - p.toNat) 0 (by kernel_rfl) ⟨by omega, by omega⟩ (fun p j hI => ?_)
 refine run ?_
 refine J.ifd rfl (fun d2 => ?_) (fun d2 => ?_)
 ·obtain ⟨z, hzz⟩ := G0.ex (i := p) (by omega)
  have hzo := GrA.opAt hzz
  have hpm : p.toNat < g.m := by omega
  have h32 := S.idAt_len g.ids p.toNat g.m hlen hpm
  have hA : Arr .u8 32 (elt 32 g.ids p.toNat) := D0.elt_arr hpm
  refine run ?_
  refine J.alloc rfl fun b3 => ?_
  refine run ?_
  refine J.ifn rfl (fun d3 => ?_) (fun d3 => ?_)
  ·refine run ?_
   exact J.nextS (p + 1) ⟨rfl, trivial⟩ (by kernel_rfl) ⟨by omega, by omega⟩ (by omega)
  have hset : S.setI g.ops p.toNat := by unfold S.setI; rw [hzo]; exact d3
  have hke := S.ofL_key (ops := g.ops) hris hlen hpm hset
  rw [S.regI_eq h32, hzo, ← hll] at hke
  obtain ⟨hh, hlate⟩ := hke
  have hh : S.hasK l z.o.key := hh
  have hlate : ¬ S.lateR z.o.st (elt 32 g.ids p.toNat) (S.rg l (S.spK l z.o.key)) := hlate
  have hp := (S.has_spK hgood.2.2).1 hh
  have hgr : S.getR l z.o.key = S.rg l (S.spK l z.o.key) ∧ S.getRE l z.o.key = 0 := by
   unfold S.getR S.getRE
   rw [if_neg (not_not_intro (S.chkR_good.2 hgood)), if_pos hh, if_neg (not_not_intro (S.chkR_good.2 hgood)), if_pos hh]
   exact ⟨rfl, rfl⟩
  have hq := S.rg_at hp.1
  have hyok := (G.rok (Nat.le_refl g.m)) (S.rg l (S.spK l z.o.key)) (by rw [← hll]; exact S.rg_mem hp.1)
  obtain ⟨y, hy⟩ := ex (S.rg l (S.spK l z.o.key))
  rw [← hy] at hq hlate hgr hyok
  refine run ?_
  refine J.callp rfl rfl (fun w' M => (RG.own' (a := qa) w' M).elim fun _ k0 => by have h := refRAt qa qn qc l z.o.key w' k0 (by omega); rw [S.atK_sp hgood.2.2 hh] at h; exact h) ?_
  refine run ?_
  refine J.callp rfl rfl (fun w' M => (RG.own' (a := qa) w' M).elim fun _ k0 => by have h := lwwGet qa qn qc l z.o.key w' (Gs k0); rw [hgr.1, hgr.2] at h; exact h) ?_
  refine run ?_
  refine J.alloc rfl fun b4 => ?_
  refine run ?_
  refine J.regionX [(0, .q), (1, .q), (2, .q), (3, .q), (4, .q), (5, .q), (6, .q), (7, .q), (8, .q), (9, .q), (10, .q), (11, .q), (12, .q), (13, .q), (14, .q), (15, .e), (16, .q), (17, .q), (18, .q), (19, .q), (20, .q), (21, .q), (22, .q), (23, .q), (24, .q), (25, .q), (26, .q), (27, .q), (28, .q), (29, .q), (30, .q)] mixed (by kernel_rfl) ?_
  refine run ?_
  refine J.callp rfl rfl (fun w' M => refLater z.o.st (elt 32 g.ids p.toNat) y w' hA hyok) ?_
  refine run ?_
  refine J.spd rfl rfl rfl (fun c => absurd c hlate) (fun _ => ?_)
  refine run ?_
  refine J.neR rfl rfl rfl (fits_val _ _ _ _) (fits_val _ _ _ _) (S.eqV _ _ _ _ _ _ _ _) ?_
  refine run ?_
  refine J.ifd rfl (fun c => absurd ⟨rfl, rfl, rfl, rfl⟩ c) (fun _ => ?_)
  refine run ?_
  exact J.nextS (p + 1) ⟨rfl, trivial⟩ (by kernel_rfl) ⟨by omega, by omega⟩ (by omega)
 refine run ?_
 exact J.fin rfl
end Go.Proofs.YtimdoffpnjdmmaaGreatDoor.W
namespace Go.Proofs.YtimdoffpnjdmmaaGreatDoor.L
open Go Go.Proofs.YtimdoffpnjdmmaaGreatDoor Go.Proofs.YtimdoffpnjdmmaaGreatDoor.G Go.Proofs.YtimdoffpnjdmmaaGreatDoor.W
open Go.ChangeShapes Go.WideShapes Go.ChangeAt Go.RowKit
set_option linter.unusedVariables false
set_option maxRecDepth 100000
theorem lwwGreatest_door (os : Os) (args : Array Value) : laidMetH Tryz.prog [("braid/digest.constants", Rows.laid_braid_digest_constants)] ((World.doorLaid Tryz.prog 400 os).forCall (fun _ _ => 0) ⟨#[], args, []⟩).memory :=
  laidMetH_of_parts3 (fuel := 8) (laidMet_of_run' 8 (by kernel_rfl) (by kernel_rfl)) (by kernel_rfl) (by kernel_rfl)
theorem lwwGreatest_lifted (os : Os) (started : os.Started) (H : Type) (enc : TypeId × Value → H) :
    ReturnsInHanded {} Tryz.checked os 7 .any (fun w args => (Rows.lwwGreatestSpec.pre enc Tryz.prog Tryz.f7 [] false w args ∧ laidMetH Tryz.prog [("braid/digest.constants", Rows.laid_braid_digest_constants)] w) ∧ sizedMet enc Tryz.prog Tryz.f7 (OpenSpec.ofChange Rows.lwwGreatestSpec) false w args)
      (Rows.lwwGreatestSpec.post enc Tryz.prog Tryz.f7 false true false false) := by
  refine returnsInHanded_of_change_and (C := Tryz.checked) (X := fun w _ => laidMetH Tryz.prog [("braid/digest.constants", Rows.laid_braid_digest_constants)] w) (fun _ _ _ hh h => h.of_heap hh) own started (by kernel_rfl) Tryz.func7
    (ChangeSpec.witness_shaped (enc := enc) (C := Tryz.checked) (os := os) (X := fun w _ => laidMetH Tryz.prog [("braid/digest.constants", Rows.laid_braid_digest_constants)] w) false (World.doorLaid Tryz.prog 400 os) #[.agg #[.slice none 0 0, .slice none 0 0]] 8 rfl (World.shaped_of_RefB (by kernel_rfl) (by kernel_rfl)) (by kernel_rfl) (by kernel_rfl) (by kernel_rfl) (lwwGreatest_door os _)) ?_
  intro W base args ds gs before hval0 hW _ _ hL _
  have hval : ∀ (j : Nat) t v, Tryz.f7.params[j]? = some t → args[j]? = some v → Value.okWide Tryz.prog W .any base t v := hval0
  have hW' := hW
  obtain ⟨p, q, hA0, hV, rfl, hfz, hnd⟩ := hW
  have hA : DataW.TrodAll enc Tryz.prog W 0 (fun _ => true) true Tryz.f7.params.toList args.toList ds p := hA0
  rw [Tryz.params7] at hA hval
  obtain ⟨v0, vs0, d0, ds0, p0, q0, hargs, rfl, rfl, h0, r0⟩ := trodAll_cons hA
  obtain ⟨rfl, rfl, rfl⟩ := trodAll_nil r0
  obtain rfl : args = #[v0] := by cases args; simp_all
  obtain ⟨rfl, rfl⟩ := trodVars_none hV
  obtain ⟨cs0, rfl, _⟩ := okWide_struct Tryz.underlying67 (hval 0 67 v0 rfl rfl)
  have k0 := h0
  have lt0 : ∀ x ∈ p0, x.block < W.heap.size := by obtain ⟨m, hm⟩ := k0; exact DataW.trod_lt m _ _ _ hm
  obtain ⟨fuel0, hf0⟩ := h0
  obtain ⟨g0, hcs0, hG0⟩ := graph_in hf0
  have hv0 : (Value.agg cs0) = .agg (grC g0).toArray := by
    congr 1
    apply Array.ext'
    exact hcs0
  have K0 := of_laid hL
  clear hA0 hval0
  have hwalk := lwwGreatest g0 0 W K0 hG0
  rw [← hv0] at hwalk
  refine hwalk.mono fun e W' hret => ?_
  obtain ⟨v, rfl, bel, rfl⟩ := hret
  exact ⟨_, rfl, _, _, _, [], _, [], hW', trodAll_mk1 (shut_bool Tryz.underlying4 _), (trodAll_cons_mk (Below.trod laidOut (by kernel_rfl) (of_decide_eq_true (by kernel_rfl)) k0 bel lt0) trodAll_mk0), rfl, bel.frame _, fun h => by cases h⟩
theorem lwwGreatest_holds : Rows.LwwGreatestSaid :=
  OpenClaim.holds_of_wide 7 Tryz.f7 rfl rfl rfl rfl rfl rfl rfl ⟨rfl, rfl, rfl, rfl, rfl⟩ rfl rfl rfl rfl rfl (by kernel_rfl) Tryz.func7 (by kernel_rfl)
    (of_decide_eq_true (by kernel_rfl)) (by unfold Func.isWrapper; first | (rw [if_pos (by decide +kernel)]; kernel_rfl) | (rw [if_neg (by decide +kernel)]; exact ⟨rfl, rfl⟩))
    (fun os started H enc _ => lwwGreatest_lifted os started H enc)
theorem lwwGreatest_card : Rows.LwwGreatestCardSaid :=
  Claim7.holds_tied_plain_at .later [] [.data] true (true, "c0b62d8bd913f1108d8d610ce48d6b478033fbc2c3e46cbc608d5a1168dba5c7") false
    lwwGreatest_holds (fun _ h => by cases h) (by kernel_rfl) (fun _ h => by cases h) lwwGreatest_row_tie rfl ⟨rfl, rfl⟩ (by kernel_rfl) rfl
    (fun f fn hf hfn => by
      obtain rfl : f = 7 := Option.some.inj ((show Tryz.prog.funcNamed "braid/braidlaw22.LwwGreatest" = some 7 by kernel_rfl).symm.trans hf) |>.symm
      obtain rfl : fn = Tryz.f7 := (Option.some.inj (Tryz.func7.symm.trans hfn)).symm
      exact ⟨by kernel_rfl, fun j t ht => by
        rw [Tryz.params7] at ht
        have hm : t ∈ [67] := by simpa using Array.mem_of_getElem? ht
        have hall : ([67].all fun u => !Tryz.prog.wantsStandIn u) = true := by kernel_rfl
        exact (show Tryz.prog.wantsStandIn t = false by simpa using List.all_eq_true.1 hall t hm)⟩)
    (by kernel_rfl)
end Go.Proofs.YtimdoffpnjdmmaaGreatDoor.L
