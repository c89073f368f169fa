/-
  LwwApplies: applying changes the register of its key alone, its stamp is never less, and applying again changes nothing. Condition: the table digest.constants is as its initialiser lays it (tied by the card).
-/
import Derived.Test.YtimdoffpnjdmmaaGreatDoorPLw10
namespace Go.Proofs.YtimdoffpnjdmmaaGreatDoor.W
open Go.RowKit Go.Proofs.YtimdoffpnjdmmaaGreatDoor.G
set_option linter.unusedVariables false
set_option linter.unusedSimpArgs false
set_option maxRecDepth 20000
set_option maxHeartbeats 8000000
attribute [local irreducible] RS RX RY Code.wp bodyPost J Ent.blk Ent.irow Ent.iown Ent.wrow Ent.wown Ent.grow Ent.gown Ent.all Ent.emp
instance : Ents Tryz.prog 13 := ⟨.mk Tryz.func13 (by kernel_rfl) rfl⟩
instance : Ents Tryz.prog 14 := ⟨.mk Tryz.func14 (by kernel_rfl) rfl⟩
instance : Ents Tryz.prog 16 := ⟨.mk Tryz.func16 (by kernel_rfl) rfl⟩
instance : Ents Tryz.prog 20 := ⟨.mk Tryz.func20 (by kernel_rfl) rfl⟩
theorem lwwApplies {S0 S1 : Nat → Prop} (a : Option Addr) (n c : Nat) (l : List S.RgV) (z : OpA) (k : ByteArray) (TK : TypeId) (w : World) (K0 : Kst w TK) (G : RsI S0 w a n c l) (hr : z.o.rng) (row : WRow .u8 32 S1 w z.pa z.o.n z.o.ids) (cap : z.o.n ≤ z.pc) :
  Calls Tryz.prog 3 #[.agg ([.slice a n c] : List Value).toArray, .agg (opC z).toArray, .string k] w (Ret w fun v _ => v = .bool true) := by
 refine J.enter 192 Tryz.func3 rfl rfl ?_
 refine run ?_
 refine J.box rfl rfl rfl fun b1 => ?_
 refine J.box rfl rfl rfl fun b2 => ?_
 refine run ?_
 refine J.callp rfl rfl (fun w' M => lwwAlive TK w' (K0.ext M.ext)) ?_
 refine run ?_
 refine J.call rfl rfl (fun w' M => refRGreat a n c l w' (G.ext M.ext)) fun q hq => ?_
 refine run ?_
 refine J.sp rfl rfl rfl (fun c1 => ?_) (fun c1 => ?_)
 ·refine run ?_
  exact J.fin rfl
 have G := G.rs (hq c1)
 have D0 := G.row
 have hl := G.len
 have hn := G.n
 refine run ?_
 refine J.callp rfl rfl (fun w' M => refRCheck a n c l w' (G.ext M.ext)) ?_
 refine run ?_
 refine J.spn rfl rfl rfl (fun c2 => ?_) (fun c2 => ?_)
 ·refine run ?_
  exact J.fin rfl
 refine run ?_
 refine J.call rfl rfl (fun w' M => refLong z w') fun q2 hq2 => ?_
 refine run ?_
 refine J.sp rfl rfl rfl (fun c3 => ?_) (fun c3 => ?_)
 ·refine run ?_
  exact J.fin rfl
 have R : OpR S1 w z := ⟨OpV_long hr (hq2 c3), row, cap⟩
 refine run ?_
 refine J.callp rfl rfl (fun w' M => checkOR z.o R.ok _ _ _ (R.row.ext M.ext) R.cap) ?_
 refine run ?_
 refine J.spn rfl rfl rfl (fun c4 => ?_) (fun c4 => ?_)
 ·refine run ?_
  exact J.fin rfl
 refine run ?_
 refine J.spd rfl rfl rfl (fun c5 => ?_) (fun c5 => ?_)
 ·refine run ?_
  exact J.fin rfl
 refine run ?_
 refine J.call rfl rfl (fun w' M => lwwApply a n c l z TK w' (K0.ext M.ext) (G.ext M.ext) (R.ext M.ext)) fun q hq => ?_
 obtain ⟨⟨sa, sn, sc, sl⟩, se⟩ := q
 obtain ⟨hs1, hs2, hs3, hs4⟩ := hq
 dsimp only at hs1 hs2 hs3 hs4 ⊢
 subst hs3 hs4
 refine run ?_
 refine J.alloc rfl fun b3 => ?_
 refine run ?_
 refine J.ifn rfl (fun c7 => ?_) (fun c7 => ?_)
 ·have hE := S.appE_cases c2 c4
  have hco : z.o.k = 4 ∧ ¬ S.hasK l z.o.key ∧ l.length = 60 := Decidable.byContradiction fun h => c7 (by rw [hE, if_neg h])
  rw [if_pos hco] at hE
  rw [hE]
  refine run ?_
  refine J.spe rfl rfl rfl (fun _ => ?_) (fun c => absurd (by omega) c)
  refine run ?_
  exact J.fin (congrArg _ (by rw [hco.1]; rfl))
 have hag := S.app_again c7
 have hsl := S.appL_len (l := l) (o := z.o)
 have Gs : ∀ {S0 : Nat → Prop} {w' : World}, GRow rgC 38 S0 w' sa sn (S.appL l z.o) → RsR S0 w' sa sn sc (S.appL l z.o) := fun h => ⟨h, S.appL_ok G.ok R.ok, hs1, by omega⟩
 refine run ?_
 refine J.call rfl rfl (fun w' M => (RG.own' (a := sa) w' M).elim fun _ k0 => lwwApply sa sn sc _ z TK w' (K0.ext M.ext) (Gs k0) (R.ext M.ext)) fun q hq => ?_
 obtain ⟨⟨ta, tn, tc, tl⟩, te⟩ := q
 obtain ⟨ht1, ht2, ht3, ht4⟩ := hq
 dsimp only at ht1 ht2 ht3 ht4 ⊢
 obtain rfl : tl = S.appL l z.o := ht3.trans hag.2
 obtain rfl : te = 0 := ht4.trans hag.1
 refine run ?_
 refine J.alloc rfl fun b4 => ?_
 refine run ?_
 refine J.callp rfl rfl (fun w' M => lwwGet a n c l k w' (G.ext M.ext)) ?_
 refine run ?_
 refine J.alloc rfl fun b5 => ?_
 refine run ?_
 refine J.callp rfl rfl (fun w' M => (RG.own' (a := sa) w' M).elim fun _ k0 => lwwGet sa sn sc _ k w' (Gs k0)) ?_
 refine run ?_
 refine J.alloc rfl fun b6 => ?_
 refine run ?_
 refine J.callp rfl rfl (fun w' M => (RG.own' (a := sa) w' M).elim fun _ k0 => (RG.own' (a := ta) w' M).elim fun _ k1 => by have h := refRSame sa ta sn tn sc tc (S.appL l z.o) (S.appL l z.o) w' k0 k1 (by omega); rw [decide_eq_true rfl] at h; exact h) ?_
 refine run ?_
 refine J.spt rfl rfl rfl (fun c8 => ?_) (fun c8 => ?_)
 ·have hk : k ≠ z.o.key := by rw [bar_eq] at c8; exact of_decide_eq_false c8
  have hge := S.app_get c7 hk
  rw [hge.1, hge.2]
  refine run ?_
  refine J.neR rfl rfl rfl (fits_val _ _ _ _) (fits_val _ _ _ _) (S.eqV _ _ _ _ _ _ _ _) ?_
  refine run ?_
  refine J.spd rfl rfl rfl (fun c => absurd ⟨rfl, rfl, rfl, rfl⟩ c) (fun _ => ?_)
  refine run ?_
  refine J.ifn rfl (fun c => absurd rfl c) (fun _ => ?_)
  refine run ?_
  refine J.ifn rfl (fun d1 => ?_) (fun d1 => ?_)
  ·refine run ?_
   refine J.callp rfl rfl (fun w' M => (RG.own' (a := sa) w' M).elim fun _ k0 => refRSame _ _ _ _ _ _ l (S.appL l z.o) w' (D0.ext M.ext) k0 (by omega)) ?_
   refine run ?_
   exact J.fin (congrArg _ (decide_eq_true (by rw [S.appL_zero c7, if_neg d1])))
  have hpu : S.appL l z.o = S.putR l (S.opR z.o) := by rw [S.appL_zero c7, if_pos d1]
  have hg := S.chkR_good.1 c2
  have hps := S.put_sort hg.2.2 (S.opR z.o)
  have hph : S.hasK (S.putR l (S.opR z.o)) z.o.key := (S.has_put hg.2.2 (S.opR z.o) z.o.key).2 (.inr rfl)
  have hpp := (S.has_spK hps).1 hph
  have hpa := S.put_at hg.2.2 (S.opR z.o)
  refine run ?_
  refine J.regionX [(0, .q), (1, .q), (2, .q), (3, .q), (4, .q), (6, .q), (7, .q), (8, .q), (9, .q), (10, .q), (5, .e), (11, .e), (12, .q), (13, .q)] mixed (by kernel_rfl) ?_
  refine run ?_
  refine J.callp rfl rfl (fun w' M => refRAt a n c l z.o.key w' (D0.ext M.ext) (by omega)) ?_
  refine run ?_
  refine J.callp rfl rfl (fun w' M => (RG.own' (a := sa) w' M).elim fun _ k0 => refRAt sa _ sc (S.appL l z.o) z.o.key w' k0 (by omega)) ?_
  rw [hpu] at hsl hs2 ⊢
  rw [S.atK_sp hps hph]
  obtain ⟨y, hy⟩ := ex (S.bestR l (S.opR z.o))
  have hst : z.o.st ≤ y.st := by rw [hy]; exact S.best_st (x := S.opR z.o)
  have hq : (S.putR l (S.opR z.o))[S.spK (S.putR l (S.opR z.o)) z.o.key]? = some y := by rw [S.rg_at hpp.1, hy]; exact congrArg some hpa
  refine run ?_
  refine J.regionX [(0, .q), (1, .q), (2, .q), (3, .q), (4, .q), (5, .q), (6, .q), (7, .q), (8, .q), (9, .q), (10, .q), (11, .q), (12, .q), (13, .q), (14, .q), (15, .q), (16, .q), (17, .q), (18, .q), (19, .q), (20, .q), (21, .q), (22, .q), (23, .q), (24, .q), (25, .q), (26, .q), (27, .q), (28, .q), (29, .q), (30, .q), (31, .q), (32, .q), (33, .q), (34, .q), (35, .q), (36, .q), (37, .q), (38, .q), (39, .q), (40, .q), (41, .q), (42, .q), (43, .q), (44, .q), (45, .q), (46, .q), (47, .q), (48, .q), (49, .q), (50, .q), (51, .q), (52, .q), (53, .q), (54, .q), (55, .q), (56, .q), (57, .q), (58, .q), (59, .q), (60, .q)] mixed (by kernel_rfl) ?_
  refine run ?_
  refine J.spd rfl rfl rfl (fun _ => ?_) (fun c => absurd hst c)
  refine run ?_
  refine J.spd rfl rfl rfl (fun d2 => ?_) (fun d2 => ?_)
  ·refine run ?_
   exact J.fin rfl
  have hh : S.hasK l z.o.key := S.atK_has.1 (by omega)
  have hlp := (S.has_spK hg.2.2).1 hh
  have hq2 := S.rg_at hlp.1
  have hol : (S.rg l (S.spK l z.o.key)).st ≤ y.st := by rw [hy]; exact S.best_old (x := S.opR z.o) hh
  rw [S.atK_sp hg.2.2 hh]
  refine run ?_
  refine J.spd rfl rfl rfl (fun _ => ?_) (fun c => absurd hol c)
  refine run ?_
  refine J.eqR rfl rfl rfl (fits_rg _) (fits_rg _) (eq_rg _ _) ?_
  refine run ?_
  refine J.spd rfl rfl rfl (fun d3 => ?_) (fun d3 => ?_)
  ·refine run ?_
   exact J.fin rfl
  have hyx : y = S.opR z.o := by
   rcases S.best_or l (S.opR z.o) with h | h
   ·exact absurd (hy.trans h) d3
   exact hy.trans h
  refine run ?_
  refine J.eqR rfl rfl rfl (fits_val _ _ _ _) (fits_val _ _ _ _) (S.eqV _ _ _ _ _ _ _ _) ?_
  refine run ?_
  exact J.fin (congrArg _ (decide_eq_true (by rw [hyx]; exact ⟨rfl, rfl, rfl, rfl⟩)))
 refine run ?_
 refine J.ifn rfl (fun d1 => ?_) (fun d1 => ?_)
 ·refine run ?_
  refine J.callp rfl rfl (fun w' M => (RG.own' (a := sa) w' M).elim fun _ k0 => refRSame _ _ _ _ _ _ l (S.appL l z.o) w' (D0.ext M.ext) k0 (by omega)) ?_
  refine run ?_
  exact J.fin (congrArg _ (decide_eq_true (by rw [S.appL_zero c7, if_neg d1])))
 have hpu : S.appL l z.o = S.putR l (S.opR z.o) := by rw [S.appL_zero c7, if_pos d1]
 have hg := S.chkR_good.1 c2
 have hps := S.put_sort hg.2.2 (S.opR z.o)
 have hph : S.hasK (S.putR l (S.opR z.o)) z.o.key := (S.has_put hg.2.2 (S.opR z.o) z.o.key).2 (.inr rfl)
 have hpp := (S.has_spK hps).1 hph
 have hpa := S.put_at hg.2.2 (S.opR z.o)
 refine run ?_
 refine J.regionX [(0, .q), (1, .q), (2, .q), (3, .q), (4, .q), (6, .q), (7, .q), (8, .q), (9, .q), (10, .q), (5, .e), (11, .e), (12, .q), (13, .q)] mixed (by kernel_rfl) ?_
 refine run ?_
 refine J.callp rfl rfl (fun w' M => refRAt a n c l z.o.key w' (D0.ext M.ext) (by omega)) ?_
 refine run ?_
 refine J.callp rfl rfl (fun w' M => (RG.own' (a := sa) w' M).elim fun _ k0 => refRAt sa _ sc (S.appL l z.o) z.o.key w' k0 (by omega)) ?_
 rw [hpu] at hsl hs2 ⊢
 rw [S.atK_sp hps hph]
 obtain ⟨y, hy⟩ := ex (S.bestR l (S.opR z.o))
 have hst : z.o.st ≤ y.st := by rw [hy]; exact S.best_st (x := S.opR z.o)
 have hq : (S.putR l (S.opR z.o))[S.spK (S.putR l (S.opR z.o)) z.o.key]? = some y := by rw [S.rg_at hpp.1, hy]; exact congrArg some hpa
 refine run ?_
 refine J.regionX [(0, .q), (1, .q), (2, .q), (3, .q), (4, .q), (5, .q), (6, .q), (7, .q), (8, .q), (9, .q), (10, .q), (11, .q), (12, .q), (13, .q), (14, .q), (15, .q), (16, .q), (17, .q), (18, .q), (19, .q), (20, .q), (21, .q), (22, .q), (23, .q), (24, .q), (25, .q), (26, .q), (27, .q), (28, .q), (29, .q), (30, .q), (31, .q), (32, .q), (33, .q), (34, .q), (35, .q), (36, .q), (37, .q), (38, .q), (39, .q), (40, .q), (41, .q), (42, .q), (43, .q), (44, .q), (45, .q), (46, .q), (47, .q), (48, .q), (49, .q), (50, .q), (51, .q), (52, .q), (53, .q), (54, .q), (55, .q), (56, .q), (57, .q), (58, .q), (59, .q), (60, .q)] mixed (by kernel_rfl) ?_
 refine run ?_
 refine J.spd rfl rfl rfl (fun _ => ?_) (fun c => absurd hst c)
 refine run ?_
 refine J.spd rfl rfl rfl (fun d2 => ?_) (fun d2 => ?_)
 ·refine run ?_
  exact J.fin rfl
 have hh : S.hasK l z.o.key := S.atK_has.1 (by omega)
 have hlp := (S.has_spK hg.2.2).1 hh
 have hq2 := S.rg_at hlp.1
 have hol : (S.rg l (S.spK l z.o.key)).st ≤ y.st := by rw [hy]; exact S.best_old (x := S.opR z.o) hh
 rw [S.atK_sp hg.2.2 hh]
 refine run ?_
 refine J.spd rfl rfl rfl (fun _ => ?_) (fun c => absurd hol c)
 refine run ?_
 refine J.eqR rfl rfl rfl (fits_rg _) (fits_rg _) (eq_rg _ _) ?_
 refine run ?_
 refine J.spd rfl rfl rfl (fun d3 => ?_) (fun d3 => ?_)
 ·refine run ?_
  exact J.fin rfl
 have hyx : y = S.opR z.o := by
  rcases S.best_or l (S.opR z.o) with h | h
  ·exact absurd (hy.trans h) d3
  exact hy.trans h
 refine run ?_
 refine J.eqR rfl rfl rfl (fits_val _ _ _ _) (fits_val _ _ _ _) (S.eqV _ _ _ _ _ _ _ _) ?_
 refine run ?_
 exact J.fin (congrArg _ (decide_eq_true (by rw [hyx]; exact ⟨rfl, rfl, rfl, rfl⟩)))
end Go.Proofs.YtimdoffpnjdmmaaGreatDoor.W
namespace Go.Proofs.YtimdoffpnjdmmaaGreatDoor.L
open Go Go.Proofs.YtimdoffpnjdmmaaGreatDoor Go.Proofs.YtimdoffpnjdmmaaGreatDoor.G Go.Proofs.YtimdoffpnjdmmaaGreatDoor.W
open Go.ChangeShapes Go.WideShapes Go.ChangeAt Go.RowKit
set_option linter.unusedVariables false
set_option maxRecDepth 100000
theorem lwwApplies_door (os : Os) (args : Array Value) : laidMetH Tryz.prog [("braid/digest.constants", Rows.laid_braid_digest_constants)] ((World.doorLaid Tryz.prog 400 os).forCall (fun _ _ => 0) ⟨#[], args, []⟩).memory :=
  laidMetH_of_parts3 (fuel := 8) (laidMet_of_run' 8 (by kernel_rfl) (by kernel_rfl)) (by kernel_rfl) (by kernel_rfl)
theorem lwwApplies_lifted (os : Os) (started : os.Started) (H : Type) (enc : TypeId × Value → H) :
    ReturnsInHanded {} Tryz.checked os 3 .any (fun w args => (Rows.lwwAppliesSpec.pre enc Tryz.prog Tryz.f3 [] false w args ∧ laidMetH Tryz.prog [("braid/digest.constants", Rows.laid_braid_digest_constants)] w) ∧ sizedMet enc Tryz.prog Tryz.f3 (OpenSpec.ofChange Rows.lwwAppliesSpec) false w args)
      (Rows.lwwAppliesSpec.post enc Tryz.prog Tryz.f3 false true false false) := by
  refine returnsInHanded_of_change_and (C := Tryz.checked) (X := fun w _ => laidMetH Tryz.prog [("braid/digest.constants", Rows.laid_braid_digest_constants)] w) (fun _ _ _ hh h => h.of_heap hh) own started (by kernel_rfl) Tryz.func3
    (ChangeSpec.witness_shaped (enc := enc) (C := Tryz.checked) (os := os) (X := fun w _ => laidMetH Tryz.prog [("braid/digest.constants", Rows.laid_braid_digest_constants)] w) false (World.doorLaid Tryz.prog 400 os) #[.agg #[.slice none 0 0], .agg #[.int .u32 0, .slice none 0 0, .int .u64 0, .int .u8 0, .string .empty, .int .u8 0, .int .i64 0, .int .u64 0, .string .empty, .int .u32 0, .int .u32 0], .string .empty] 8 rfl (World.shaped_of_RefB (by kernel_rfl) (by kernel_rfl)) (by kernel_rfl) (by kernel_rfl) (by kernel_rfl) (lwwApplies_door os _)) ?_
  intro W base args ds gs before hval0 hW _ _ hL _
  have hval : ∀ (j : Nat) t v, Tryz.f3.params[j]? = some t → args[j]? = some v → Value.okWide Tryz.prog W .any base t v := hval0
  have hW' := hW
  obtain ⟨p, q, hA0, hV, rfl, hfz, hnd⟩ := hW
  have hA : DataW.TrodAll enc Tryz.prog W 0 (fun _ => true) true Tryz.f3.params.toList args.toList ds p := hA0
  rw [Tryz.params3] at hA hval
  obtain ⟨v0, vs0, d0, ds0, p0, q0, hargs, rfl, rfl, h0, r0⟩ := trodAll_cons hA
  obtain ⟨v1, vs1, d1, ds1, p1, q1, e1, rfl, rfl, h1, r1⟩ := trodAll_cons r0
  obtain ⟨v2, vs2, d2, ds2, p2, q2, e2, rfl, rfl, h2, r2⟩ := trodAll_cons r1
  obtain ⟨rfl, rfl, rfl⟩ := trodAll_nil r2
  subst e2
  subst e1
  obtain rfl : args = #[v0, v1, v2] := by cases args; simp_all
  obtain ⟨rfl, rfl⟩ := trodVars_none hV
  obtain ⟨cs0, rfl, _⟩ := okWide_struct Tryz.underlying24 (hval 0 24 v0 rfl rfl)
  obtain ⟨cs1, rfl, _⟩ := okWide_struct Tryz.underlying35 (hval 1 35 v1 rfl rfl)
  obtain ⟨s2, rfl⟩ := okWide_string Tryz.underlying9 (hval 2 9 v2 rfl rfl)
  have k0 := h0
  have lt0 : ∀ x ∈ p0, x.block < W.heap.size := by obtain ⟨m, hm⟩ := k0; exact DataW.trod_lt m _ _ _ hm
  obtain ⟨fuel0, hf0⟩ := h0
  obtain ⟨a0, m0, c0, l0, hcs0, hG0⟩ := regs_in hf0
  have hv0 : (Value.agg cs0) = .agg ([.slice a0 m0 c0] : List Value).toArray := by
    congr 1
    apply Array.ext'
    exact hcs0
  have k1 := h1
  have lt1 : ∀ x ∈ p1, x.block < W.heap.size := by obtain ⟨m, hm⟩ := k1; exact DataW.trod_lt m _ _ _ hm
  obtain ⟨fuel1, hf1⟩ := h1
  obtain ⟨o1, pa1, pc1, hcs1, hr1, hc1, hR1⟩ := op_in hf1
  have hv1 : (Value.agg cs1) = .agg ([.int .u32 o1.au, .slice pa1 o1.n pc1, .int .u64 o1.st, .int .u8 o1.k, .string o1.key, .int .u8 o1.vk, .int .i64 o1.num, .int .u64 o1.bits, .string o1.t, .int .u32 o1.e, .int .u32 o1.s] : List Value).toArray := by
    congr 1
    apply Array.ext'
    exact hcs1
  have k2 := h2
  have lt2 : ∀ x ∈ p2, x.block < W.heap.size := by obtain ⟨m, hm⟩ := k2; exact DataW.trod_lt m _ _ _ hm
  obtain ⟨fuel2, hf2⟩ := h2
  have K0 := of_laid hL
  clear hA0 hval0
  have hwalk := lwwApplies a0 m0 c0 l0 ⟨o1, pa1, pc1⟩ s2 0 W K0 hG0 hr1 hR1 hc1
  rw [← hv0, ← hv1] at hwalk
  refine hwalk.mono fun e W' hret => ?_
  obtain ⟨v, rfl, bel, rfl⟩ := hret
  exact ⟨_, rfl, _, _, _, [], _, [], hW', trodAll_mk1 (shut_bool Tryz.underlying4 _), (trodAll_cons_mk (Below.trod laidOut (by kernel_rfl) (of_decide_eq_true (by kernel_rfl)) k0 bel lt0) (trodAll_cons_mk (Below.trod laidOut (by kernel_rfl) (of_decide_eq_true (by kernel_rfl)) k1 bel lt1) (trodAll_cons_mk (Below.trod laidOut (by kernel_rfl) (of_decide_eq_true (by kernel_rfl)) k2 bel lt2) trodAll_mk0))), rfl, bel.frame _, fun h => by cases h⟩
theorem lwwApplies_holds : Rows.LwwAppliesSaid :=
  OpenClaim.holds_of_wide 3 Tryz.f3 rfl rfl rfl rfl rfl rfl rfl ⟨rfl, rfl, rfl, rfl, rfl⟩ rfl rfl rfl rfl rfl (by kernel_rfl) Tryz.func3 (by kernel_rfl)
    (of_decide_eq_true (by kernel_rfl)) (by unfold Func.isWrapper; first | (rw [if_pos (by decide +kernel)]; kernel_rfl) | (rw [if_neg (by decide +kernel)]; exact ⟨rfl, rfl⟩))
    (fun os started H enc _ => lwwApplies_lifted os started H enc)
theorem lwwApplies_card : Rows.LwwAppliesCardSaid :=
  Claim7.holds_tied_plain_at .later [] [.data] true (true, "c0b62d8bd913f1108d8d610ce48d6b478033fbc2c3e46cbc608d5a1168dba5c7") false
    lwwApplies_holds (fun _ h => by cases h) (by kernel_rfl) (fun _ h => by cases h) lwwApplies_row_tie rfl ⟨rfl, rfl⟩ (by kernel_rfl) rfl
    (fun f fn hf hfn => by
      obtain rfl : f = 3 := Option.some.inj ((show Tryz.prog.funcNamed "braid/braidlaw22.LwwApplies" = some 3 by kernel_rfl).symm.trans hf) |>.symm
      obtain rfl : fn = Tryz.f3 := (Option.some.inj (Tryz.func3.symm.trans hfn)).symm
      exact ⟨by kernel_rfl, fun j t ht => by
        rw [Tryz.params3] at ht
        have hm : t ∈ [24, 35, 9] := by simpa using Array.mem_of_getElem? ht
        have hall : ([24, 35, 9].all fun u => !Tryz.prog.wantsStandIn u) = true := by kernel_rfl
        exact (show Tryz.prog.wantsStandIn t = false by simpa using List.all_eq_true.1 hall t hm)⟩)
    (by kernel_rfl)
end Go.Proofs.YtimdoffpnjdmmaaGreatDoor.L
