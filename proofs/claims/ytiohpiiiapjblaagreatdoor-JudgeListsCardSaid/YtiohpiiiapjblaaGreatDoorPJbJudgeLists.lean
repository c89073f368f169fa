/-
  JudgeLists: Many and Count return the results and errors of the reference for any list, and do not modify it. Condition: the table digest.constants is as its initialiser lays it (tied by the card).
-/
import Derived.Test.YtiohpiiiapjblaaGreatDoorPJb12
namespace Go.Proofs.YtiohpiiiapjblaaGreatDoor.W
open Go.RowKit Go.Proofs.YtiohpiiiapjblaaGreatDoor.G
set_option linter.unusedVariables false
set_option maxRecDepth 20000
set_option maxHeartbeats 8000000
attribute [local irreducible] RS RX
theorem E11 : Enters Tryz.prog 11 := .mk Tryz.func11 (by kernel_rfl) rfl
theorem E12 : Enters Tryz.prog 12 := .mk Tryz.func12 (by kernel_rfl) rfl
theorem E13 : Enters Tryz.prog 13 := .mk Tryz.func13 (by kernel_rfl) rfl
theorem E16 : Enters Tryz.prog 16 := .mk Tryz.func16 (by kernel_rfl) rfl
theorem E17 : Enters Tryz.prog 17 := .mk Tryz.func17 (by kernel_rfl) rfl
theorem judgeLists {S0 : Nat → Prop} (a : Option Addr) (n c : Nat) (ps : List Pc) (TK : TypeId) (w : World) (K0 : Kst w TK) (P0 : PRow .u8 S0 w a n ps) (hc : n ≤ c) :
  Calls Tryz.prog 4 #[.slice a n c] w (Ret w fun v _ => v = .bool true) := by
 replace P0 := P0.weaken (T := fun k => k < w.heap.size) (fun k hk _ => hk)
 have hpl := P0.len
 have hKl := K0.lt
 have hE := Ext.refl w
 refine enterU 59 Tryz.func4 rfl rfl ?_
 refine sq fun K1 hK1 => ?_
 refine RS.asB rfl ?_
 refine nl hK1 ?_
 refine wp_seq_k (fun K2 hK2 => ?_)
 refine sq fun K3 hK3 => ?_
 refine RS.mvS rfl ?_
 refine RS.call E12 (great8 _ _ _ _ _ P0) rfl (fun v4 w4 x4 A4 => ?_)
 replace hE := Ext.tr hE x4
 replace K0 := K0.ext x4
 replace P0 := P0.ext x4
 have zw4 := x4.size
 obtain ⟨bG, rfl, hbG⟩ := A4
 refine RS.nm ?_
 refine nl hK3 ?_
 refine C.ifb rfl (fun c5 => ?_) (fun c5 => ?_)
 ·have hG := c5
  refine sq fun K6 hK6 => ?_
  refine RS.asB rfl ?_
  refine nl hK6 ?_
  refine wp_ret ?_
  refine retB rfl rfl ?_
  exact ⟨_, rfl, hE, rfl⟩
 obtain ⟨hg, hg2, hg3⟩ := hbG c5
 have hp : ∀ p ∈ ps, p.n ≤ 1000 := by
  intro p hq
  obtain ⟨j, hj, rfl⟩ := List.getElem_of_mem hq
  have := hg j (by omega) (by omega)
  rwa [List.getD_eq_getElem?_getD, List.getElem?_eq_getElem hj] at this
 have hml : (if 60 < n then [] else ps.map fun p => S.jdV p.xs).length ≤ 60 := by
  split
  ·simp
  rw [List.length_map]; omega
 have hca := S.cnt_arr (if 60 < n then [] else ps.map fun p => S.jdV p.xs) (by omega)
 refine wp_skip ?_
 refine hK2 _ _ ?_
 refine sq fun K7 hK7 => ?_
 refine RS.mvS rfl ?_
 refine RS.call E13 (wholeR _ _ _ _ _ P0 hp (by omega)) rfl (fun v8 w8 x8 A8 => ?_)
 replace hE := Ext.tr hE x8
 replace K0 := K0.ext x8
 replace P0 := P0.ext x8
 have zw8 := x8.size
 obtain ⟨aW, nW, cW, rfl, hnW, OW⟩ := A8
 have RW := OW.row.weaken (T := fun k => k < w8.heap.size) (fun k hk _ => hk)
 refine RS.nm ?_
 refine RS.asS rfl ?_
 refine nl hK7 ?_
 refine sq fun K9 hK9 => ?_
 refine RS.mvS rfl ?_
 refine RS.call E14 (judgeMany _ _ _ _ _ _ K0 P0 hc hp) rfl (fun v10 w10 x10 A10 => ?_)
 replace hE := Ext.tr hE x10
 replace K0 := K0.ext x10
 replace P0 := P0.ext x10
 replace RW := RW.ext x10
 have zw10 := x10.size
 obtain ⟨aA, nA, cA, rfl, OA⟩ := A10
 have lA := OA.len
 have RA := OA.row.weaken (T := fun k => k < w10.heap.size) (fun k hk _ => hk)
 refine RS.nm ?_
 refine RS.move (v := .tuple _) rfl ?_
 refine RS.extract (v := .slice _ _ _) rfl rfl ?_
 refine RS.extract (v := .int _ _) rfl rfl ?_
 refine RS.asS rfl ?_
 refine RS.asI rfl ?_
 refine nl hK9 ?_
 refine sq fun K11 hK11 => ?_
 refine RS.mvS rfl ?_
 refine RS.call E15 (judgeManyR _ _ _ _ _ P0 hp) rfl (fun v12 w12 x12 A12 => ?_)
 replace hE := Ext.tr hE x12
 replace K0 := K0.ext x12
 replace P0 := P0.ext x12
 replace RW := RW.ext x12
 replace RA := RA.ext x12
 have zw12 := x12.size
 obtain ⟨aB, nB, cB, rfl, OB⟩ := A12
 have lB := OB.len
 have RB := OB.row.weaken (T := fun k => k < w12.heap.size) (fun k hk _ => hk)
 refine RS.nm ?_
 refine RS.move (v := .tuple _) rfl ?_
 refine RS.extract (v := .slice _ _ _) rfl rfl ?_
 refine RS.extract (v := .int _ _) rfl rfl ?_
 refine RS.asS rfl ?_
 refine RS.asI rfl ?_
 refine nl hK11 ?_
 refine sq fun K13 hK13 => ?_
 refine RS.mvS rfl ?_
 refine RS.call E16 (judgeCount _ _ _ _ _ _ K0 P0 hc hp) rfl (fun v14 w14 x14 A14 => ?_)
 replace hE := Ext.tr hE x14
 replace K0 := K0.ext x14
 replace P0 := P0.ext x14
 replace RW := RW.ext x14
 replace RA := RA.ext x14
 replace RB := RB.ext x14
 have zw14 := x14.size
 subst A14
 refine RS.nm ?_
 refine RS.move (v := .tuple _) rfl ?_
 refine RS.extract (v := .agg _) rfl rfl ?_
 refine RS.extract (v := .int _ _) rfl rfl ?_
 refine RS.alloc T48 (fun b15 w15 e15 s15 x15 B15 => ?_)
 refine RS.nm ?_
 replace hE := Ext.tr hE x15
 replace K0 := K0.ext x15
 replace P0 := P0.ext x15
 replace RW := RW.ext x15
 replace RA := RA.ext x15
 replace RB := RB.ext x15
 have zw15 := x15.size
 have A15 : IArr .i64 w15 b15 10 (List.replicate 10 0) [] 48 := IArr.zero B15
 clear B15
 refine RS.storeArr A15 rfl rfl C48 (by decide) hca.1 hca.2 (fun w16 y16 N16 => ?_)
 replace hE := hE.trans (y16.belo)
 replace K0 := K0.sto y16
 replace P0 := P0.sto y16
 replace RW := RW.sto y16
 replace RA := RA.sto y16
 replace RB := RB.sto y16
 have zw16 := y16.size
 replace A15 := N16
 refine RS.asI rfl ?_
 refine nl hK13 ?_
 refine sq fun K17 hK17 => ?_
 refine RS.mvS rfl ?_
 refine RS.call E17 (judgeCountR _ _ _ _ _ P0 hp) rfl (fun v18 w18 x18 A18 => ?_)
 replace hE := Ext.tr hE x18
 replace K0 := K0.ext x18
 replace P0 := P0.ext x18
 replace RW := RW.ext x18
 replace RA := RA.ext x18
 replace RB := RB.ext x18
 replace A15 := A15.ext x18
 have zw18 := x18.size
 subst A18
 refine RS.nm ?_
 refine RS.move (v := .tuple _) rfl ?_
 refine RS.extract (v := .agg _) rfl rfl ?_
 refine RS.extract (v := .int _ _) rfl rfl ?_
 refine RS.alloc T48 (fun b19 w19 e19 s19 x19 B19 => ?_)
 refine RS.nm ?_
 replace hE := Ext.tr hE x19
 replace K0 := K0.ext x19
 replace P0 := P0.ext x19
 replace RW := RW.ext x19
 replace RA := RA.ext x19
 replace RB := RB.ext x19
 replace A15 := A15.ext x19
 have zw19 := x19.size
 have A19 : IArr .i64 w19 b19 10 (List.replicate 10 0) [] 48 := IArr.zero B19
 clear B19
 refine RS.storeArr A19 rfl rfl C48 (by decide) hca.1 hca.2 (fun w20 y20 N20 => ?_)
 replace hE := hE.trans (y20.belo)
 replace K0 := K0.sto y20
 replace P0 := P0.sto y20
 replace RW := RW.sto y20
 replace RA := RA.sto y20
 replace RB := RB.sto y20
 replace A15 := A15.sto y20
 have zw20 := y20.size
 replace A19 := N20
 refine RS.asI rfl ?_
 refine nl hK17 ?_
 refine sq fun K21 hK21 => ?_
 refine RS.mvS rfl ?_
 refine RS.mvS rfl ?_
 refine RS.call E18 (sameBytes _ _ _ _ _ _ _ _ _ RA RB (by omega) (by omega)) rfl (fun v22 w22 x22 A22 => ?_)
 replace hE := Ext.tr hE x22
 replace K0 := K0.ext x22
 replace P0 := P0.ext x22
 replace RW := RW.ext x22
 replace RA := RA.ext x22
 replace RB := RB.ext x22
 replace A15 := A15.ext x22
 replace A19 := A19.ext x22
 have zw22 := x22.size
 subst A22
 refine RS.nm ?_
 refine RS.mvB rfl ?_
 refine RS.splitb 39 rfl rfl (fun c23 => ?_) (fun c23 => ?_)
 ·refine RS.nm ?_
  refine RS.wt 39 ?_
  refine RS.mvI rfl ?_
  refine RS.wt 39 ?_
  refine RS.mvI rfl ?_
  refine RS.wt 39 ?_
  refine RS.o (D.eq rfl rfl) ?_
  refine RS.pick (v := .bool _) rfl rfl ?_
  refine RS.mvB rfl ?_
  refine RS.splite 44 rfl rfl (fun c24 => ?_) (fun c24 => ?_)
  ·refine RS.nm ?_
   refine RS.wt 44 ?_
   refine RS.o (D.loadAgg rfl Tryz.underlying48 rfl C48 (by decide) (by rw [ints_length, A15.len]) A15.cells) ?_
   refine RS.wt 44 ?_
   refine RS.o (D.loadAgg rfl Tryz.underlying48 rfl C48 (by decide) (by rw [ints_length, A19.len]) A19.cells) ?_
   refine RS.wt 44 ?_
   refine RS.o (D.eqI rfl rfl Tryz.underlying48 Tryz.underlying3 C3 (by kernel_rfl) hca.1 hca.1 (by decide)) ?_
   refine RS.pick (v := .bool _) rfl rfl ?_
   refine RS.mvB rfl ?_
   refine RS.splitb 49 rfl rfl (fun c25 => ?_) (fun c25 => ?_)
   ·refine RS.nm ?_
    refine RS.wt 49 ?_
    refine RS.mvI rfl ?_
    refine RS.wt 49 ?_
    refine RS.mvI rfl ?_
    refine RS.wt 49 ?_
    refine RS.o (D.eq rfl rfl) ?_
    refine RS.pick (v := .bool _) rfl rfl ?_
    refine RS.mvB rfl ?_
    refine RS.splite 54 rfl rfl (fun c26 => ?_) (fun c26 => ?_)
    ·refine RS.nm ?_
     refine RS.wt 54 ?_
     refine RS.mvS rfl ?_
     refine RS.wt 54 ?_
     refine RS.call E13 (wholeR _ _ _ _ _ P0 hp (by omega)) rfl (fun v27 w27 x27 A27 => ?_)
     replace hE := Ext.tr hE x27
     replace K0 := K0.ext x27
     replace P0 := P0.ext x27
     replace RW := RW.ext x27
     replace RA := RA.ext x27
     replace RB := RB.ext x27
     replace A15 := A15.ext x27
     replace A19 := A19.ext x27
     have zw27 := x27.size
     obtain ⟨aX, nX, cX, rfl, hnX, OX⟩ := A27
     have RX := OX.row.weaken (T := fun k => k < w27.heap.size) (fun k hk _ => hk)
     refine RS.nm ?_
     refine RS.wt 54 ?_
     refine RS.mvS rfl ?_
     refine RS.wt 54 ?_
     refine RS.call E18 (sameBytes _ _ _ _ _ _ _ _ _ RX RW (by omega) (by omega)) rfl (fun v28 w28 x28 A28 => ?_)
     replace hE := Ext.tr hE x28
     replace K0 := K0.ext x28
     replace P0 := P0.ext x28
     replace RW := RW.ext x28
     replace RA := RA.ext x28
     replace RB := RB.ext x28
     replace A15 := A15.ext x28
     replace A19 := A19.ext x28
     replace RX := RX.ext x28
     have zw28 := x28.size
     subst A28
     refine RS.nm ?_
     refine RS.pick (v := .bool _) rfl rfl ?_
     refine RS.asB rfl ?_
     refine nl hK21 ?_
     refine wp_ret ?_
     refine retB rfl rfl ?_
     exact ⟨_, rfl, hE, congrArg Value.bool (decide_eq_true rfl)⟩
    refine RS.nm ?_
    exact absurd rfl c26
   refine RS.nm ?_
   exact Bool.noConfusion ((decide_eq_true rfl).symm.trans c25)
  refine RS.nm ?_
  exact absurd rfl c24
 refine RS.nm ?_
 exact Bool.noConfusion ((decide_eq_true rfl).symm.trans c23)
end Go.Proofs.YtiohpiiiapjblaaGreatDoor.W
namespace Go.Proofs.YtiohpiiiapjblaaGreatDoor.L
open Go Go.Proofs.YtiohpiiiapjblaaGreatDoor Go.Proofs.YtiohpiiiapjblaaGreatDoor.G Go.Proofs.YtiohpiiiapjblaaGreatDoor.W
open Go.ChangeShapes Go.WideShapes Go.ChangeAt Go.RowKit
set_option linter.unusedVariables false
set_option maxRecDepth 100000
theorem judgeLists_door (os : Os) (args : Array Value) : laidMetH Tryz.prog [("braid/digest.constants", Rows.laid_braid_digest_constants)] ((World.doorLaid Tryz.prog 400 os).forCall (fun _ _ => 0) ⟨#[], args, []⟩).memory :=
  laidMetH_of_parts3 (fuel := 8) (laidMet_of_run' 8 (by kernel_rfl) (by kernel_rfl)) (by kernel_rfl) (by kernel_rfl)
theorem judgeLists_lifted (os : Os) (started : os.Started) (H : Type) (enc : TypeId × Value → H) :
    ReturnsInHanded {} Tryz.checked os 4 .any (fun w args => (Rows.judgeListsSpec.pre enc Tryz.prog Tryz.f4 [] false w args ∧ laidMetH Tryz.prog [("braid/digest.constants", Rows.laid_braid_digest_constants)] w) ∧ sizedMet enc Tryz.prog Tryz.f4 (OpenSpec.ofChange Rows.judgeListsSpec) false w args)
      (Rows.judgeListsSpec.post enc Tryz.prog Tryz.f4 false true false false) := by
  refine returnsInHanded_of_change_and (C := Tryz.checked) (X := fun w _ => laidMetH Tryz.prog [("braid/digest.constants", Rows.laid_braid_digest_constants)] w) (fun _ _ _ hh h => h.of_heap hh) own started (by kernel_rfl) Tryz.func4
    (ChangeSpec.witness_shaped (enc := enc) (C := Tryz.checked) (os := os) (X := fun w _ => laidMetH Tryz.prog [("braid/digest.constants", Rows.laid_braid_digest_constants)] w) false (World.doorLaid Tryz.prog 400 os) #[.slice none 0 0] 8 rfl (World.shaped_of_RefB (by kernel_rfl) (by kernel_rfl)) (by kernel_rfl) (by kernel_rfl) (by kernel_rfl) (judgeLists_door os _)) ?_
  intro W base args ds gs before hval0 hW _ _ hL _
  have hval : ∀ (j : Nat) t v, Tryz.f4.params[j]? = some t → args[j]? = some v → Value.okWide Tryz.prog W .any base t v := hval0
  have hW' := hW
  obtain ⟨p, q, hA0, hV, rfl, hfz, hnd⟩ := hW
  have hA : DataW.TrodAll enc Tryz.prog W 0 (fun _ => true) true Tryz.f4.params.toList args.toList ds p := hA0
  rw [Tryz.params4] at hA hval
  obtain ⟨v0, vs0, d0, ds0, p0, q0, hargs, rfl, rfl, h0, r0⟩ := trodAll_cons hA
  obtain ⟨rfl, rfl, rfl⟩ := trodAll_nil r0
  obtain rfl : args = #[v0] := by cases args; simp_all
  obtain ⟨rfl, rfl⟩ := trodVars_none hV
  obtain ⟨a0, m0, c0, rfl⟩ := okWide_slice Tryz.underlying40 (hval 0 40 v0 rfl rfl)
  have k0 := h0
  have lt0 : ∀ x ∈ p0, x.block < W.heap.size := by obtain ⟨m, hm⟩ := k0; exact DataW.trod_lt m _ _ _ hm
  obtain ⟨fuel0, hf0⟩ := h0
  obtain ⟨_, _, _, ps0, he0, hc0, hR0⟩ := listS_in hf0
  obtain ⟨rfl, rfl, rfl⟩ := Value.slice.inj (List.cons.inj he0).1
  have K0 := of_laid hL
  clear hA0 hval0
  have hwalk := judgeLists a0 m0 c0 ps0 0 W K0 hR0 hc0
  refine hwalk.mono fun e W' hret => ?_
  obtain ⟨v, rfl, bel, rfl⟩ := hret
  exact ⟨_, rfl, _, _, _, [], _, [], hW', trodAll_mk1 (shut_bool Tryz.underlying4 _), (trodAll_cons_mk (Below.trod laidOut (by kernel_rfl) (of_decide_eq_true (by kernel_rfl)) k0 bel lt0) trodAll_mk0), rfl, bel.frame _, fun h => by cases h⟩
theorem judgeLists_holds : Rows.JudgeListsSaid :=
  OpenClaim.holds_of_wide 4 Tryz.f4 rfl rfl rfl rfl rfl rfl rfl ⟨rfl, rfl, rfl, rfl, rfl⟩ rfl rfl rfl rfl rfl (by kernel_rfl) Tryz.func4 (by kernel_rfl)
    (of_decide_eq_true (by kernel_rfl)) (by unfold Func.isWrapper; first | (rw [if_pos (by decide +kernel)]; kernel_rfl) | (rw [if_neg (by decide +kernel)]; exact ⟨rfl, rfl⟩))
    (fun os started H enc _ => judgeLists_lifted os started H enc)
theorem judgeLists_card : Rows.JudgeListsCardSaid :=
  Claim7.holds_tied_plain_at .later [] [.data] true (true, "5f1a454c20384897b10aae27f0fb7605c8ace21901f8afa9a203fa82d3013071") false
    judgeLists_holds (fun _ h => by cases h) (by kernel_rfl) (fun _ h => by cases h) judgeLists_row_tie rfl ⟨rfl, rfl⟩ (by kernel_rfl) rfl
    (fun f fn hf hfn => by
      obtain rfl : f = 4 := Option.some.inj ((show Tryz.prog.funcNamed "braid/braidlaw08.JudgeLists" = some 4 by kernel_rfl).symm.trans hf) |>.symm
      obtain rfl : fn = Tryz.f4 := (Option.some.inj (Tryz.func4.symm.trans hfn)).symm
      exact ⟨by kernel_rfl, fun j t ht => by
        rw [Tryz.params4] at ht
        have hm : t ∈ [40] := by simpa using Array.mem_of_getElem? ht
        have hall : ([40].all fun u => !Tryz.prog.wantsStandIn u) = true := by kernel_rfl
        exact (show Tryz.prog.wantsStandIn t = false by simpa using List.all_eq_true.1 hall t hm)⟩)
    (by kernel_rfl)
end Go.Proofs.YtiohpiiiapjblaaGreatDoor.L
