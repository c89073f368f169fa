/-
  DagNames: the limits and errors. Condition: the table digest.constants is as its initialiser lays it (tied by the card).
-/
import Derived.Test.YtjjbdaiioociaaaDoorPDn14
namespace Go.Proofs.YtjjbdaiioociaaaDoor.L
open Go Go.Proofs.YtjjbdaiioociaaaDoor Go.Proofs.YtjjbdaiioociaaaDoor.G Go.Proofs.YtjjbdaiioociaaaDoor.W
open Go.ChangeShapes Go.WideShapes Go.ChangeAt Go.RowKit
set_option linter.unusedVariables false
set_option maxRecDepth 100000
theorem dagNames_door(os:Os)(args:Array Value):laidMetH Tryd.prog [("braid/digest.constants",Rows.laid_braid_digest_constants)] ((World.doorLaid Tryd.prog 400 os).forCall (fun _ _=>0) ⟨#[],args,[]⟩).memory:=
  laidMetH_of_parts3 (fuel:=8) (laidMet_of_run' 8 (by kernel_rfl) (by kernel_rfl)) (by kernel_rfl) (by kernel_rfl)
theorem dagNames_lifted(os:Os)(started:os.Started)(H:Type)(enc:TypeId×Value→H):
    ReturnsInHanded {} Tryd.checked os 3 .any (fun w args=>(Rows.dagNamesSpec.pre enc Tryd.prog Tryd.f3 [] false w args∧laidMetH Tryd.prog [("braid/digest.constants",Rows.laid_braid_digest_constants)] w)∧sizedMet enc Tryd.prog Tryd.f3 (OpenSpec.ofChange Rows.dagNamesSpec) false w args)
      (Rows.dagNamesSpec.post enc Tryd.prog Tryd.f3 false true false false):=by
  refine returnsInHanded_of_change_and (C:=Tryd.checked) (X:=fun w _=>laidMetH Tryd.prog [("braid/digest.constants",Rows.laid_braid_digest_constants)] w) (fun _ _ _ hh h=>h.of_heap hh) own started (by kernel_rfl) Tryd.func3
    (ChangeSpec.witness_shaped (enc:=enc) (C:=Tryd.checked) (os:=os) (X:=fun w _=>laidMetH Tryd.prog [("braid/digest.constants",Rows.laid_braid_digest_constants)] w) false (World.doorLaid Tryd.prog 400 os) #[] 8 rfl (World.shaped_of_RefB (by kernel_rfl) (by kernel_rfl)) (by kernel_rfl) (by kernel_rfl) (by kernel_rfl) (dagNames_door os _)) ?_
  intro W base args ds gs before hval0 hW _ _ hL _;have hval:∀(j:Nat) t v,Tryd.f3.params[j]? =some t→args[j]? =some v→Value.okWide Tryd.prog W .any base t v:=hval0;have hW':=hW;obtain⟨p,q,hA0,hV,rfl,hfz,hnd⟩:=hW;have hA:DataW.TrodAll enc Tryd.prog W 0 (fun _=>true) true Tryd.f3.params.toList args.toList ds p:=hA0;rw[Tryd.params3]at hA hval;obtain⟨hargs,rfl,rfl⟩:=trodAll_nil hA;obtain rfl:args= #[]:=by cases args;simp_all
  obtain⟨rfl,rfl⟩:=trodVars_none hV;have K0:=of_laid hL;clear hA0 hval0;have hwalk:=dagNames 0 W K0;refine hwalk.mono fun e W' hret=>?_
  obtain⟨v,rfl,bel,rfl⟩:=hret;exact⟨_,rfl,_,_,_,[],_,[],hW',trodAll_mk1 (shut_bool Tryd.underlying4 _),trodAll_mk0,rfl,bel.frame _,fun h=>by cases h⟩
theorem dagNames_closed:joinedFacts Tryd.prog 3 Tryd.f3 Rows.dagNamesSpec Rows.dagNamesRow=true:=by
  unfold joinedFacts;rw[dagNames_f1,dagNames_f2,dagNames_f3,dagNames_f4]
  kernel_rfl
theorem dagNames_holds:Rows.DagNamesSaid:=
  OpenClaim.holds_of_wide 3 Tryd.f3 rfl rfl rfl rfl rfl rfl rfl ⟨rfl,rfl,rfl,rfl,rfl⟩ rfl rfl rfl rfl rfl (by kernel_rfl) Tryd.func3 dagNames_closed
    (of_decide_eq_true (by kernel_rfl)) (by unfold Func.isWrapper;first|(rw[if_pos (by decide+kernel)];kernel_rfl)|(rw[if_neg (by decide+kernel)];exact⟨rfl,rfl⟩))
    (fun os started H enc _=>dagNames_lifted os started H enc)
theorem dagNames_card:Rows.DagNamesCardSaid:=
  Claim7.holds_tied_plain_at .later [] [.data] true (true, "8dedcbde8457c3a057ce59c40fdb15dfb31c0ce2e0f82714ae55f767c6209484") false
    dagNames_holds (fun _ h=>by cases h) dagNames_c1 (fun _ h=>by cases h) dagNames_row_tie rfl ⟨rfl,rfl⟩ dagNames_c2 rfl
    (fun f fn hf hfn => by
      obtain rfl : f = 3 := Option.some.inj (dagNames_c4.symm.trans hf) |>.symm
      obtain rfl : fn = Tryd.f3 := (Option.some.inj (Tryd.func3.symm.trans hfn)).symm
      exact ⟨dagNames_c5, fun j t ht => by
        rw [Tryd.params3] at ht
        simp at ht⟩)
    dagNames_c3
end Go.Proofs.YtjjbdaiioociaaaDoor.L
