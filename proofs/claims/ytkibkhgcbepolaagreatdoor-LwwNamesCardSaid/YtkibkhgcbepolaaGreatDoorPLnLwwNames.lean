/-
  LwwNames: the limits and errors, and equal stamps. Condition: the table digest.constants is as its initialiser lays it (tied by the card).
-/
import Derived.Test.YtkibkhgcbepolaaGreatDoorPLn14
namespace Go.Proofs.YtkibkhgcbepolaaGreatDoor.L
open Go Go.Proofs.YtkibkhgcbepolaaGreatDoor Go.Proofs.YtkibkhgcbepolaaGreatDoor.G Go.Proofs.YtkibkhgcbepolaaGreatDoor.W
open Go.ChangeShapes Go.WideShapes Go.ChangeAt Go.RowKit
set_option linter.unusedVariables false
set_option maxRecDepth 100000
theorem lwwNames_door(os:Os)(args:Array Value):laidMetH Tryz.prog [("braid/digest.constants",Rows.laid_braid_digest_constants)] ((World.doorLaid Tryz.prog 400 os).forCall (fun _ _=>0) ⟨#[],args,[]⟩).memory:=
  laidMetH_of_parts3 (fuel:=8) (laidMet_of_run' 8 (by kernel_rfl) (by kernel_rfl)) (by kernel_rfl) (by kernel_rfl)
theorem lwwNames_lifted(os:Os)(started:os.Started)(H:Type)(enc:TypeId×Value→H):
    ReturnsInHanded {} Tryz.checked os 9 .any (fun w args=>(Rows.lwwNamesSpec.pre enc Tryz.prog Tryz.f9 [] false w args∧laidMetH Tryz.prog [("braid/digest.constants",Rows.laid_braid_digest_constants)] w)∧sizedMet enc Tryz.prog Tryz.f9 (OpenSpec.ofChange Rows.lwwNamesSpec) false w args)
      (Rows.lwwNamesSpec.post enc Tryz.prog Tryz.f9 false true false false):=by
  refine returnsInHanded_of_change_and (C:=Tryz.checked) (X:=fun w _=>laidMetH Tryz.prog [("braid/digest.constants",Rows.laid_braid_digest_constants)] w) (fun _ _ _ hh h=>h.of_heap hh) own started (by kernel_rfl) Tryz.func9
    (ChangeSpec.witness_shaped (enc:=enc) (C:=Tryz.checked) (os:=os) (X:=fun w _=>laidMetH Tryz.prog [("braid/digest.constants",Rows.laid_braid_digest_constants)] w) false (World.doorLaid Tryz.prog 400 os) #[] 8 rfl (World.shaped_of_RefB (by kernel_rfl) (by kernel_rfl)) (by kernel_rfl) (by kernel_rfl) (by kernel_rfl) (lwwNames_door os _)) ?_
  intro W base args ds gs before hval0 hW _ _ hL _;have hval:∀(j:Nat) t v,Tryz.f9.params[j]? =some t→args[j]? =some v→Value.okWide Tryz.prog W .any base t v:=hval0;have hW':=hW;obtain⟨p,q,hA0,hV,rfl,hfz,hnd⟩:=hW;have hA:DataW.TrodAll enc Tryz.prog W 0 (fun _=>true) true Tryz.f9.params.toList args.toList ds p:=hA0;rw[Tryz.params9]at hA hval;obtain⟨hargs,rfl,rfl⟩:=trodAll_nil hA;obtain rfl:args= #[]:=by cases args;simp_all
  obtain⟨rfl,rfl⟩:=trodVars_none hV;have K0:=of_laid hL;clear hA0 hval0;have hwalk:=lwwNames 0 W K0;refine hwalk.mono fun e W' hret=>?_
  obtain⟨v,rfl,bel,rfl⟩:=hret;exact⟨_,rfl,_,_,_,[],_,[],hW',trodAll_mk1 (shut_bool Tryz.underlying4 _),trodAll_mk0,rfl,bel.frame _,fun h=>by cases h⟩
theorem lwwNames_closed:joinedFacts Tryz.prog 9 Tryz.f9 Rows.lwwNamesSpec Rows.lwwNamesRow=true:=by
  unfold joinedFacts;rw[lwwNames_f1,lwwNames_f2,lwwNames_f3,lwwNames_f4]
  kernel_rfl
theorem lwwNames_holds:Rows.LwwNamesSaid:=
  OpenClaim.holds_of_wide 9 Tryz.f9 rfl rfl rfl rfl rfl rfl rfl ⟨rfl,rfl,rfl,rfl,rfl⟩ rfl rfl rfl rfl rfl (by kernel_rfl) Tryz.func9 lwwNames_closed
    (of_decide_eq_true (by kernel_rfl)) (by unfold Func.isWrapper;first|(rw[if_pos (by decide+kernel)];kernel_rfl)|(rw[if_neg (by decide+kernel)];exact⟨rfl,rfl⟩))
    (fun os started H enc _=>lwwNames_lifted os started H enc)
theorem lwwNames_card:Rows.LwwNamesCardSaid:=
  Claim7.holds_tied_plain_at .later [] [.data] true (true, "80697c5a864b28f4e8d318d7c2bc416807c3696c6fd9433de8548c8d3cf80fcb") false
    lwwNames_holds (fun _ h=>by cases h) lwwNames_c1 (fun _ h=>by cases h) lwwNames_row_tie rfl ⟨rfl,rfl⟩ lwwNames_c2 rfl
    (fun f fn hf hfn => by
      obtain rfl : f = 9 := Option.some.inj (lwwNames_c4.symm.trans hf) |>.symm
      obtain rfl : fn = Tryz.f9 := (Option.some.inj (Tryz.func9.symm.trans hfn)).symm
      exact ⟨lwwNames_c5, fun j t ht => by
        rw [Tryz.params9] at ht
        simp at ht⟩)
    lwwNames_c3
end Go.Proofs.YtkibkhgcbepolaaGreatDoor.L
