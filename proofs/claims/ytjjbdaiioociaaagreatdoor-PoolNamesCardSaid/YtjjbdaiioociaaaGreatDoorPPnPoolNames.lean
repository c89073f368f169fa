/-
  PoolNames: the limits and errors. Condition: the table digest.constants is as its initialiser lays it (tied by the card).
-/
import Derived.Test.YtjjbdaiioociaaaGreatDoorPPn15
namespace Go.Proofs.YtjjbdaiioociaaaGreatDoor.L
open Go Go.Proofs.YtjjbdaiioociaaaGreatDoor Go.Proofs.YtjjbdaiioociaaaGreatDoor.G Go.Proofs.YtjjbdaiioociaaaGreatDoor.W
open Go.ChangeShapes Go.WideShapes Go.ChangeAt Go.RowKit
set_option linter.unusedVariables false
set_option maxRecDepth 100000
theorem poolNames_door(os:Os)(args:Array Value):laidMetH Tryz.prog [("braid/digest.constants",Rows.laid_braid_digest_constants)] ((World.doorLaid Tryz.prog 400 os).forCall (fun _ _=>0) ⟨#[],args,[]⟩).memory:=
  laidMetH_of_parts3 (fuel:=8) (laidMet_of_run' 8 (by kernel_rfl) (by kernel_rfl)) (by kernel_rfl) (by kernel_rfl)
theorem poolNames_lifted(os:Os)(started:os.Started)(H:Type)(enc:TypeId×Value→H):
    ReturnsInHanded {} Tryz.checked os 3 .any (fun w args=>(Rows.poolNamesSpec.pre enc Tryz.prog Tryz.f3 [] false w args∧laidMetH Tryz.prog [("braid/digest.constants",Rows.laid_braid_digest_constants)] w)∧sizedMet enc Tryz.prog Tryz.f3 (OpenSpec.ofChange Rows.poolNamesSpec) false w args)
      (Rows.poolNamesSpec.post enc Tryz.prog Tryz.f3 false true false false):=by
  refine returnsInHanded_of_change_and (C:=Tryz.checked) (X:=fun w _=>laidMetH Tryz.prog [("braid/digest.constants",Rows.laid_braid_digest_constants)] w) (fun _ _ _ hh h=>h.of_heap hh) own started (by kernel_rfl) Tryz.func3
    (ChangeSpec.witness_shaped (enc:=enc) (C:=Tryz.checked) (os:=os) (X:=fun w _=>laidMetH Tryz.prog [("braid/digest.constants",Rows.laid_braid_digest_constants)] w) false (World.doorLaid Tryz.prog 400 os) #[] 8 rfl (World.shaped_of_RefB (by kernel_rfl) (by kernel_rfl)) (by kernel_rfl) (by kernel_rfl) (by kernel_rfl) (poolNames_door os _)) ?_
  intro W base args ds gs before hval0 hW _ _ hL _;have hval:∀(j:Nat) t v,Tryz.f3.params[j]? =some t→args[j]? =some v→Value.okWide Tryz.prog W .any base t v:=hval0;have hW':=hW;obtain⟨p,q,hA0,hV,rfl,hfz,hnd⟩:=hW;have hA:DataW.TrodAll enc Tryz.prog W 0 (fun _=>true) true Tryz.f3.params.toList args.toList ds p:=hA0;rw[Tryz.params3]at hA hval;obtain⟨hargs,rfl,rfl⟩:=trodAll_nil hA;obtain rfl:args= #[]:=by cases args;simp_all
  obtain⟨rfl,rfl⟩:=trodVars_none hV;have K0:=of_laid hL;clear hA0 hval0;have hwalk:=poolNames 0 W K0;refine hwalk.mono fun e W' hret=>?_
  obtain⟨v,rfl,bel,rfl⟩:=hret;exact⟨_,rfl,_,_,_,[],_,[],hW',trodAll_mk1 (shut_bool Tryz.underlying4 _),trodAll_mk0,rfl,bel.frame _,fun h=>by cases h⟩
theorem poolNames_closed:joinedFacts Tryz.prog 3 Tryz.f3 Rows.poolNamesSpec Rows.poolNamesRow=true:=by
  unfold joinedFacts;rw[poolNames_f1,poolNames_f2,poolNames_f3,poolNames_f4]
  kernel_rfl
theorem poolNames_holds:Rows.PoolNamesSaid:=
  OpenClaim.holds_of_wide 3 Tryz.f3 rfl rfl rfl rfl rfl rfl rfl ⟨rfl,rfl,rfl,rfl,rfl⟩ rfl rfl rfl rfl rfl (by kernel_rfl) Tryz.func3 poolNames_closed
    (of_decide_eq_true (by kernel_rfl)) (by unfold Func.isWrapper;first|(rw[if_pos (by decide+kernel)];kernel_rfl)|(rw[if_neg (by decide+kernel)];exact⟨rfl,rfl⟩))
    (fun os started H enc _=>poolNames_lifted os started H enc)
theorem poolNames_card:Rows.PoolNamesCardSaid:=
  Claim7.holds_tied_plain_at .later [] [.data] true (true, "d780024759582f4c21eebe46363cb9e1abbcb493ebc94a25406c496a11db6cb1") false
    poolNames_holds (fun _ h=>by cases h) poolNames_c1 (fun _ h=>by cases h) poolNames_row_tie rfl ⟨rfl,rfl⟩ poolNames_c2 rfl
    (fun f fn hf hfn => by
      obtain rfl : f = 3 := Option.some.inj (poolNames_c4.symm.trans hf) |>.symm
      obtain rfl : fn = Tryz.f3 := (Option.some.inj (Tryz.func3.symm.trans hfn)).symm
      exact ⟨poolNames_c5, fun j t ht => by
        rw [Tryz.params3] at ht
        simp at ht⟩)
    poolNames_c3
end Go.Proofs.YtjjbdaiioociaaaGreatDoor.L
