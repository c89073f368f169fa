/-
  LwwOrder: in whatever order the operations of a graph are applied, the registers are those of the graph. Condition: the table digest.constants is as its initialiser lays it (tied by the card).
-/
import Derived.Test.YtimdoffpnjdmmaaGreatDoorPLx12
namespace Go.Proofs.YtimdoffpnjdmmaaGreatDoor.W
open Go.RowKit Go.Proofs.YtimdoffpnjdmmaaGreatDoor.G
set_option linter.unusedVariables false
set_option linter.unusedSimpArgs false
set_option maxRecDepth 20000
set_option maxHeartbeats 8000000
attribute [local irreducible] RS RX RY Code.wp bodyPost J Ent.blk Ent.irow Ent.iown Ent.wrow Ent.wown Ent.grow Ent.gown Ent.all Ent.emp
instance : Ents Tryz.prog 13 := ⟨.mk Tryz.func13 (by kernel_rfl) rfl⟩
instance : Ents Tryz.prog 29 := ⟨.mk Tryz.func29 (by kernel_rfl) rfl⟩
instance : Ents Tryz.prog 31 := ⟨.mk Tryz.func31 (by kernel_rfl) rfl⟩
instance : Ents Tryz.prog 20 := ⟨.mk Tryz.func20 (by kernel_rfl) rfl⟩
/-- What was applied up to now. -/
structure OqA where
 (i : Nat) (a : Option Addr) (c : Nat) (js : List Nat)
theorem lwwOrder {S0 S1 : Nat → Prop} (g : GrA) (fa : Option Addr) (nf cf : Nat) (fs : List Int) (TK : TypeId) (w : World) (K0 : Kst w TK) (G : GrI S0 w g) (F0 : GRow inC 1 S1 w fa nf fs) :
  Calls Tryz.prog 6 #[.agg (grC g).toArray, .slice fa nf cf] w (Ret w fun v _ => v = .bool true) := by
 refine J.enter 92 Tryz.func6 rfl rfl ?_
 refine run ?_
 refine J.box rfl rfl rfl fun b1 => ?_
 refine run ?_
 refine J.callp rfl rfl (fun w' M => lwwAlive TK w' (K0.ext M.ext)) ?_
 refine run ?_
 refine J.call rfl rfl (fun w' M => refGreat g w' (G.ext M.ext)) fun q hq => ?_
 refine run ?_
 refine J.sp rfl rfl rfl (fun c1 => ?_) (fun c1 => ?_)
 ·refine run ?_
  exact J.fin rfl
 have G := G.gr (hq c1)
 have D0 := G.ids
 have G0 := G.ops
 have hl := G.len
 have hlen := D0.len
 refine run ?_
 refine J.callp rfl rfl (fun w' M => refCheck g w' (G.ext M.ext)) ?_
 refine run ?_
 refine J.spn rfl rfl rfl (fun c2 => ?_) (fun c2 => ?_)
 ·refine run ?_
  exact J.fin rfl
 have hz := S.chkG_zero.1 c2
 have hris := hz.2.2.2.1
 have hmn : g.m = g.n := by omega
 refine run ?_
 refine J.spd rfl rfl rfl (fun c3 => ?_) (fun c3 => ?_)
 ·refine run ?_
  exact J.fin rfl
 refine run ?_
 refine J.call rfl rfl (fun w' M => lwwOf g TK w' (K0.ext M.ext) (G.ext M.ext)) fun q hq => ?_
 obtain ⟨⟨qa, qn, qc, ql⟩, qe⟩ := q
 obtain ⟨hq1, hq2, hq3, hq4⟩ := hq
 dsimp only at hq1 hq2 hq3 hq4 ⊢
 obtain rfl : qe = 0 := hq4.trans c2
 obtain rfl : ql = S.ofL g.ids g.ops (List.range g.ops.length) := hq3.trans (S.ofG_ok c2)
 refine run ?_
 refine J.alloc rfl fun b2 => ?_
 refine run ?_
 refine J.callp rfl rfl (fun w' M => lwwNew w') ?_
 refine J.alloc rfl fun b3 => ?_
 refine run ?_
 refine J.nilG rgC 38 51 rgC_len ?_
 refine J.loop (A := OqA) (fun p => [(9, .int .i64 (p.i : Nat))]) [4, 10, 11, 12, 37, 38, 39, 40, 41, 42, 43, 44, 45, 46, 47, 48, 49, 50, 51, 52, 53, 54, 55, 56, 57, 58, 59, 60, 61, 62, 63, 64, 65, 66, 67, 68, 69, 70, 71, 72, 73, 74, 75, 76, 77, 78, 79, 80, 81, 82, 83] (fun p => [.gown rgC 38 51 p.a (S.ofL g.ids g.ops p.js).length p.c (S.ofL g.ids g.ops p.js), .blk b3 [.slice p.a (S.ofL g.ids g.ops p.js).length p.c] 24, .blk b2 [.slice qa qn qc] 24, .gown rgC 38 51 qa qn qc (S.ofL g.ids g.ops (List.range g.ops.length)), .blk b1 (grC g) 67]) (fun p => p.i ≤ nf + g.n ∧ (∀ j ∈ p.js, j < g.m) ∧ ∀ j, j < g.m → nf + j < p.i → j ∈ p.js) (fun p => nf + g.n - p.i) ⟨0, none, 0, []⟩ (by kernel_rfl) ⟨Nat.zero_le _, fun j hj => (by cases hj), fun j _ hj => absurd hj (Nat.not_lt_zero _)⟩ (fun p j hI => ?_)
 obtain ⟨hI1, hI2, hI3⟩ := hI
 refine run ?_
 refine J.ifd rfl (fun d1 => ?_) (fun d1 => ?_)
 ·have hfl := F0.len
  refine run ?_
  refine J.joinX (A := Int) (fun r => [(10, .int .i64 r)]) [53, 54, 55, 56] (fun _ => [.gown rgC 38 51 p.a (S.ofL g.ids g.ops p.js).length p.c (S.ofL g.ids g.ops p.js), .blk b3 [.slice p.a (S.ofL g.ids g.ops p.js).length p.c] 24, .blk b2 [.slice qa qn qc] 24, .gown rgC 38 51 qa qn qc (S.ofL g.ids g.ops (List.range g.ops.length)), .blk b1 (grC g) 67]) (fun r => nf ≤ p.i → r = p.i - nf) ?_ (fun r j2 hr => ?_)
  ·refine J.ifd rfl (fun d2 => ?_) (fun d2 => ?_)
   ·obtain ⟨y, hy⟩ := ex (fs.getD p.i 0)
    have hq : fs[((p.i : Nat) : Int).toNat]? = some y := by rw [hy, Int.toNat_natCast, List.getD_eq_getElem?_getD, List.getElem?_eq_getElem (by omega)]; rfl
    refine run ?_
    exact J.cut y ⟨rfl, trivial⟩ (by kernel_rfl) (fun h => by omega)
   refine run ?_
   exact J.cut (((p.i : Nat) : Int) - nf) ⟨rfl, trivial⟩ (by kernel_rfl) (fun _ => rfl)
  have hnext : (∀ j, j < g.m → nf + j = p.i → j ∈ p.js) → ∀ j, j < g.m → nf + j < p.i + 1 → j ∈ p.js := fun h j hj hlt => by
   rcases Nat.lt_or_ge (nf + j) p.i with e | e
   ·exact hI3 j hj e
   exact h j hj (by omega)
  refine run ?_
  refine J.spd rfl rfl rfl (fun d2 => ?_) (fun d2 => ?_)
  ·refine run ?_
   exact J.next ⟨p.i + 1, p.a, p.c, p.js⟩ ⟨rfl, trivial⟩ (by kernel_rfl) ⟨by dsimp only; omega, hI2, hnext fun j hj e => by have := hr (by omega); omega⟩ (by dsimp only; omega)
  refine run ?_
  refine J.ifd rfl (fun d3 => ?_) (fun d3 => ?_)
  ·refine run ?_
   exact J.next ⟨p.i + 1, p.a, p.c, p.js⟩ ⟨rfl, trivial⟩ (by kernel_rfl) ⟨by dsimp only; omega, hI2, hnext fun j hj e => by have := hr (by omega); omega⟩ (by dsimp only; omega)
  obtain ⟨z, hzz⟩ := G0.ex (i := r) (by omega)
  have R := G.op hzz
  have hzo := GrA.opAt hzz
  have hrm : r.toNat < g.m := by omega
  have h32 := S.idAt_len g.ids r.toNat g.m hlen hrm
  have hown := hz.2.2.1 r.toNat (by omega)
  have hgood := S.ofL_goodG c2 hlen hI2
  have hle := S.ofL_le (ops := g.ops) hris hlen hI2
  have hn16 : g.n ≤ 16 := by have := (hq c1).2.2.1; omega
  have happ := S.app_step (l := S.ofL g.ids g.ops p.js) hgood (by omega) hown h32
  rw [hzo, ← S.ofL_snoc] at happ
  have hjs : ∀ j ∈ p.js ++ [r.toNat], j < g.m := fun j hj => by
   rcases List.mem_append.1 hj with h | h
   ·exact hI2 j h
   rw [List.mem_singleton] at h; omega
  have hgood2 := S.ofL_goodG c2 hlen hjs
  have hrok : ∀ x ∈ S.ofL g.ids g.ops p.js, x.ok := S.ofL_ok fun i hi => S.regI_ok (G.zok i) D0.bd hlen (hI2 i hi)
  refine run ?_
  refine J.fact (.gown rgC 38 51 p.a (S.ofL g.ids g.ops p.js).length p.c (S.ofL g.ids g.ops p.js)) (fun _ _ h => (gown_e h).1.capn) fun hcap => ?_
  refine J.joinX (A := (LsA S.RgV × Int) × Nat) (fun u => [(11, .pointer (some ⟨u.2, 0, none⟩)), (12, .int .i64 u.1.2)]) [66, 67, 68, 69, 70, 71, 72, 73, 74, 75] (fun u => .blk u.2 [.slice u.1.1.a u.1.1.n u.1.1.c] 24 :: .gown rgC 38 51 u.1.1.a u.1.1.n u.1.1.c u.1.1.l :: [.blk b3 [.slice p.a (S.ofL g.ids g.ops p.js).length p.c] 24, .blk b2 [.slice qa qn qc] 24, .gown rgC 38 51 qa qn qc (S.ofL g.ids g.ops (List.range g.ops.length)), .blk b1 (grC g) 67]) (fun u => rsP (S.ofL g.ids g.ops (p.js ++ [r.toNat])) 0 u.1) ?_ (fun u j3 hu => ?_)
  ·refine J.regionT [.blk b3 [.slice p.a (S.ofL g.ids g.ops p.js).length p.c] 24, .blk b1 (grC g) 67] (.br [(0, .q), (1, .q), (2, .q), (3, .q), (4, .q), (5, .q)] 6 (.fin [(7, .q), (8, .q), (9, .q), (10, .e), (11, .e), (12, .q)]) 10 (.fin [(6, .e), (7, .q), (8, .q), (9, .q), (11, .e), (12, .q)])) mixed (by kernel_rfl) (by repeat (first | exact List.Sublist.refl _ | refine List.Sublist.cons_cons _ ?_ | refine List.Sublist.cons _ ?_)) ?_
   refine run ?_
   refine J.nil (J.kt ?_ ?_)
   ·refine J.call rfl rfl (fun w' M => (RG.own' (a := p.a) w' M).elim fun _ k0 => lwwApply p.a _ p.c (S.ofL g.ids g.ops p.js) z TK w' (K0.ext M.ext) ⟨k0, hrok, hcap, by omega⟩ (R.ext M.ext)) fun u hu => ?_
    refine run ?_
    refine J.alloc rfl fun b => ?_
    refine run ?_
    rw [happ.1, happ.2] at hu
    exact J.cut (u, b) ⟨rfl, rfl, trivial⟩ (by kernel_rfl) hu
   refine J.alloc rfl fun b => ?_
   refine run ?_
   refine J.call rfl rfl (fun w' M => (RG.own' (a := p.a) w' M).elim fun _ k0 => lwwApply p.a _ p.c (S.ofL g.ids g.ops p.js) z TK w' (K0.ext M.ext) ⟨k0, hrok, hcap, by omega⟩ (R.ext M.ext)) fun u hu => ?_
   refine run ?_
   rw [happ.1, happ.2] at hu
   refine J.swap ?_
   exact J.cut (u, b) ⟨rfl, rfl, trivial⟩ (by kernel_rfl) hu
  obtain ⟨⟨⟨ua, un, uc, ul⟩, ue⟩, bu⟩ := u
  obtain ⟨hu1, hu2, hu3, hu4⟩ := hu
  dsimp only at hu1 hu2 hu3 hu4 ⊢
  subst hu3 hu4 hu2
  have hle2 := S.ofL_le (ops := g.ops) hris hlen hjs
  refine run ?_
  refine J.callp rfl rfl (fun w' M => (RG.own' (a := ua) w' M).elim fun _ k0 => by have h := refRCheck ua _ uc _ w' ⟨k0, S.ofL_ok fun i hi => S.regI_ok (G.zok i) D0.bd hlen (hjs i hi), hu1, by omega⟩; rw [S.chkR_good.2 hgood2] at h; exact h) ?_
  refine run ?_
  refine J.swap ?_
  refine J.drop (E := [.gown rgC 38 51 ua _ uc (S.ofL g.ids g.ops (p.js ++ [r.toNat])), .blk b3 [.slice ua (S.ofL g.ids g.ops (p.js ++ [r.toNat])).length uc] 24, .blk b2 [.slice qa qn qc] 24, .gown rgC 38 51 qa qn qc (S.ofL g.ids g.ops (List.range g.ops.length)), .blk b1 (grC g) 67]) (.cons_cons _ (.cons _ (List.Sublist.refl _))) ?_
  refine J.next ⟨p.i + 1, ua, uc, p.js ++ [r.toNat]⟩ ⟨rfl, trivial⟩ (by kernel_rfl) ⟨by dsimp only; omega, hjs, fun j hj hlt => ?_⟩ (by dsimp only; omega)
  dsimp only at hlt
  rcases Nat.lt_or_ge (nf + j) p.i with e | e
  ·exact List.mem_append_left _ (hI3 j hj e)
  refine List.mem_append_right _ (List.mem_singleton.2 ?_)
  have := hr (by omega)
  omega
 have hsame : S.ofL g.ids g.ops p.js = S.ofL g.ids g.ops (List.range g.ops.length) := S.ofL_same (S.one_rising hris hlen hI2) fun i => by
  rw [List.mem_range]
  exact ⟨fun h => by have := hI2 i h; omega, fun h => hI3 i (by omega) (by omega)⟩
 have hle := S.ofL_le (ops := g.ops) hris hlen hI2
 refine run ?_
 refine J.callp rfl rfl (fun w' M => (RG.own' (a := p.a) w' M).elim fun _ k0 => (RG.own' (a := qa) w' M).elim fun _ k1 => refRSame p.a qa _ qn p.c qc _ _ w' k0 k1 (by omega)) ?_
 refine run ?_
 exact J.fin (congrArg _ (decide_eq_true hsame))
end Go.Proofs.YtimdoffpnjdmmaaGreatDoor.W
namespace Go.Proofs.YtimdoffpnjdmmaaGreatDoor.L
open Go Go.Proofs.YtimdoffpnjdmmaaGreatDoor Go.Proofs.YtimdoffpnjdmmaaGreatDoor.G Go.Proofs.YtimdoffpnjdmmaaGreatDoor.W
open Go.ChangeShapes Go.WideShapes Go.ChangeAt Go.RowKit
set_option linter.unusedVariables false
set_option maxRecDepth 100000
theorem lwwOrder_door (os : Os) (args : Array Value) : laidMetH Tryz.prog [("braid/digest.constants", Rows.laid_braid_digest_constants)] ((World.doorLaid Tryz.prog 400 os).forCall (fun _ _ => 0) ⟨#[], args, []⟩).memory :=
  laidMetH_of_parts3 (fuel := 8) (laidMet_of_run' 8 (by kernel_rfl) (by kernel_rfl)) (by kernel_rfl) (by kernel_rfl)
theorem lwwOrder_lifted (os : Os) (started : os.Started) (H : Type) (enc : TypeId × Value → H) :
    ReturnsInHanded {} Tryz.checked os 6 .any (fun w args => (Rows.lwwOrderSpec.pre enc Tryz.prog Tryz.f6 [] false w args ∧ laidMetH Tryz.prog [("braid/digest.constants", Rows.laid_braid_digest_constants)] w) ∧ sizedMet enc Tryz.prog Tryz.f6 (OpenSpec.ofChange Rows.lwwOrderSpec) false w args)
      (Rows.lwwOrderSpec.post enc Tryz.prog Tryz.f6 false true false false) := by
  refine returnsInHanded_of_change_and (C := Tryz.checked) (X := fun w _ => laidMetH Tryz.prog [("braid/digest.constants", Rows.laid_braid_digest_constants)] w) (fun _ _ _ hh h => h.of_heap hh) own started (by kernel_rfl) Tryz.func6
    (ChangeSpec.witness_shaped (enc := enc) (C := Tryz.checked) (os := os) (X := fun w _ => laidMetH Tryz.prog [("braid/digest.constants", Rows.laid_braid_digest_constants)] w) false (World.doorLaid Tryz.prog 400 os) #[.agg #[.slice none 0 0, .slice none 0 0], .slice none 0 0] 8 rfl (World.shaped_of_RefB (by kernel_rfl) (by kernel_rfl)) (by kernel_rfl) (by kernel_rfl) (by kernel_rfl) (lwwOrder_door os _)) ?_
  intro W base args ds gs before hval0 hW _ _ hL _
  have hval : ∀ (j : Nat) t v, Tryz.f6.params[j]? = some t → args[j]? = some v → Value.okWide Tryz.prog W .any base t v := hval0
  have hW' := hW
  obtain ⟨p, q, hA0, hV, rfl, hfz, hnd⟩ := hW
  have hA : DataW.TrodAll enc Tryz.prog W 0 (fun _ => true) true Tryz.f6.params.toList args.toList ds p := hA0
  rw [Tryz.params6] at hA hval
  obtain ⟨v0, vs0, d0, ds0, p0, q0, hargs, rfl, rfl, h0, r0⟩ := trodAll_cons hA
  obtain ⟨v1, vs1, d1, ds1, p1, q1, e1, rfl, rfl, h1, r1⟩ := trodAll_cons r0
  obtain ⟨rfl, rfl, rfl⟩ := trodAll_nil r1
  subst e1
  obtain rfl : args = #[v0, v1] := by cases args; simp_all
  obtain ⟨rfl, rfl⟩ := trodVars_none hV
  obtain ⟨cs0, rfl, _⟩ := okWide_struct Tryz.underlying67 (hval 0 67 v0 rfl rfl)
  obtain ⟨a1, m1, c1, rfl⟩ := okWide_slice Tryz.underlying73 (hval 1 73 v1 rfl rfl)
  have k0 := h0
  have lt0 : ∀ x ∈ p0, x.block < W.heap.size := by obtain ⟨m, hm⟩ := k0; exact DataW.trod_lt m _ _ _ hm
  obtain ⟨fuel0, hf0⟩ := h0
  obtain ⟨g0, hcs0, hG0⟩ := graph_in hf0
  have hv0 : (Value.agg cs0) = .agg (grC g0).toArray := by
    congr 1
    apply Array.ext'
    exact hcs0
  have k1 := h1
  have lt1 : ∀ x ∈ p1, x.block < W.heap.size := by obtain ⟨m, hm⟩ := k1; exact DataW.trod_lt m _ _ _ hm
  obtain ⟨fuel1, hf1⟩ := h1
  obtain ⟨_, _, _, fs1, he1, hc1, hR1⟩ := intsS_in hf1
  obtain ⟨rfl, rfl, rfl⟩ := Value.slice.inj (List.cons.inj he1).1
  have K0 := of_laid hL
  clear hA0 hval0
  have hwalk := lwwOrder g0 a1 m1 c1 fs1 0 W K0 hG0 hR1
  rw [← hv0] at hwalk
  refine hwalk.mono fun e W' hret => ?_
  obtain ⟨v, rfl, bel, rfl⟩ := hret
  exact ⟨_, rfl, _, _, _, [], _, [], hW', trodAll_mk1 (shut_bool Tryz.underlying4 _), (trodAll_cons_mk (Below.trod laidOut (by kernel_rfl) (of_decide_eq_true (by kernel_rfl)) k0 bel lt0) (trodAll_cons_mk (Below.trod laidOut (by kernel_rfl) (of_decide_eq_true (by kernel_rfl)) k1 bel lt1) trodAll_mk0)), rfl, bel.frame _, fun h => by cases h⟩
theorem lwwOrder_holds : Rows.LwwOrderSaid :=
  OpenClaim.holds_of_wide 6 Tryz.f6 rfl rfl rfl rfl rfl rfl rfl ⟨rfl, rfl, rfl, rfl, rfl⟩ rfl rfl rfl rfl rfl (by kernel_rfl) Tryz.func6 (by kernel_rfl)
    (of_decide_eq_true (by kernel_rfl)) (by unfold Func.isWrapper; first | (rw [if_pos (by decide +kernel)]; kernel_rfl) | (rw [if_neg (by decide +kernel)]; exact ⟨rfl, rfl⟩))
    (fun os started H enc _ => lwwOrder_lifted os started H enc)
theorem lwwOrder_card : Rows.LwwOrderCardSaid :=
  Claim7.holds_tied_plain_at .later [] [.data] true (true, "c0b62d8bd913f1108d8d610ce48d6b478033fbc2c3e46cbc608d5a1168dba5c7") false
    lwwOrder_holds (fun _ h => by cases h) (by kernel_rfl) (fun _ h => by cases h) lwwOrder_row_tie rfl ⟨rfl, rfl⟩ (by kernel_rfl) rfl
    (fun f fn hf hfn => by
      obtain rfl : f = 6 := Option.some.inj ((show Tryz.prog.funcNamed "braid/braidlaw22.LwwOrder" = some 6 by kernel_rfl).symm.trans hf) |>.symm
      obtain rfl : fn = Tryz.f6 := (Option.some.inj (Tryz.func6.symm.trans hfn)).symm
      exact ⟨by kernel_rfl, fun j t ht => by
        rw [Tryz.params6] at ht
        have hm : t ∈ [67, 73] := by simpa using Array.mem_of_getElem? ht
        have hall : ([67, 73].all fun u => !Tryz.prog.wantsStandIn u) = true := by kernel_rfl
        exact (show Tryz.prog.wantsStandIn t = false by simpa using List.all_eq_true.1 hall t hm)⟩)
    (by kernel_rfl)
end Go.Proofs.YtimdoffpnjdmmaaGreatDoor.L
