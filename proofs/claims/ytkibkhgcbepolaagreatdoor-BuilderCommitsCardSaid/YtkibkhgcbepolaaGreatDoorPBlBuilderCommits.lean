/-
  BuilderCommits: what is written to a store is committed by it, unless it has no room or has its id already, and is the only head then but for those beyond four. Condition: the table digest.constants is as its initialiser lays it (tied by the card).
-/
import Derived.Test.YtkibkhgcbepolaaGreatDoorPBlBuilderCommitsc
namespace Go.Proofs.YtkibkhgcbepolaaGreatDoor.L
open Go Go.Proofs.YtkibkhgcbepolaaGreatDoor Go.Proofs.YtkibkhgcbepolaaGreatDoor.G Go.Proofs.YtkibkhgcbepolaaGreatDoor.W
open Go.ChangeShapes Go.WideShapes Go.ChangeAt Go.RowKit
set_option linter.unusedVariables false
set_option maxRecDepth 100000
theorem builderCommits_door(os:Os)(args:Array Value):laidMetH Tryz.prog [("braid/digest.constants",Rows.laid_braid_digest_constants)] ((World.doorLaid Tryz.prog 400 os).forCall (fun _ _=>0) ⟨#[],args,[]⟩).memory:=
  laidMetH_of_parts3 (fuel:=8) (laidMet_of_run' 8 (by kernel_rfl) (by kernel_rfl)) (by kernel_rfl) (by kernel_rfl)
theorem builderCommits_lifted(os:Os)(started:os.Started)(H:Type)(enc:TypeId×Value→H):
    ReturnsInHanded {} Tryz.checked os 5 .any (fun w args=>(Rows.builderCommitsSpec.pre enc Tryz.prog Tryz.f5 [] false w args∧laidMetH Tryz.prog [("braid/digest.constants",Rows.laid_braid_digest_constants)] w)∧sizedMet enc Tryz.prog Tryz.f5 (OpenSpec.ofChange Rows.builderCommitsSpec) false w args)
      (Rows.builderCommitsSpec.post enc Tryz.prog Tryz.f5 false true false false):=by
  refine returnsInHanded_of_change_and (C:=Tryz.checked) (X:=fun w _=>laidMetH Tryz.prog [("braid/digest.constants",Rows.laid_braid_digest_constants)] w) (fun _ _ _ hh h=>h.of_heap hh) own started (by kernel_rfl) Tryz.func5
    (ChangeSpec.witness_shaped (enc:=enc) (C:=Tryz.checked) (os:=os) (X:=fun w _=>laidMetH Tryz.prog [("braid/digest.constants",Rows.laid_braid_digest_constants)] w) false (World.doorLaid Tryz.prog 400 os) #[.agg #[.int .i64 0, .slice none 0 0, .slice none 0 0, .int .i64 0, .slice none 0 0], .int .u32 0, .agg #[.int .u8 0, .string .empty, .int .u8 0, .int .i64 0, .int .u64 0, .string .empty]] 8 rfl (World.shaped_of_RefB (by kernel_rfl) (by kernel_rfl)) (by kernel_rfl) (by kernel_rfl) (by kernel_rfl) (builderCommits_door os _)) ?_
  intro W base args ds gs before hval0 hW _ _ hL _;have hval:∀(j:Nat) t v,Tryz.f5.params[j]? =some t→args[j]? =some v→Value.okWide Tryz.prog W .any base t v:=hval0;have hW':=hW;obtain⟨p,q,hA0,hV,rfl,hfz,hnd⟩:=hW;have hA:DataW.TrodAll enc Tryz.prog W 0 (fun _=>true) true Tryz.f5.params.toList args.toList ds p:=hA0;rw[Tryz.params5]at hA hval;obtain⟨v0,vs0,d0,ds0,p0,q0,hargs,rfl,rfl,h0,r0⟩:=trodAll_cons hA;obtain⟨v1,vs1,d1,ds1,p1,q1,e1,rfl,rfl,h1,r1⟩:=trodAll_cons r0;obtain⟨v2,vs2,d2,ds2,p2,q2,e2,rfl,rfl,h2,r2⟩:=trodAll_cons r1;obtain⟨rfl,rfl,rfl⟩:=trodAll_nil r2;subst e2;subst e1;obtain rfl:args= #[v0,v1,v2]:=by cases args;simp_all
  obtain⟨rfl,rfl⟩:=trodVars_none hV;obtain⟨cs0,rfl,_⟩:=okWide_struct Tryz.underlying55 (hval 0 55 v0 rfl rfl);obtain⟨n1,rfl⟩:=okWide_int Tryz.underlying28 (hval 1 28 v1 rfl rfl);obtain⟨cs2,rfl,_⟩:=okWide_struct Tryz.underlying33 (hval 2 33 v2 rfl rfl);have k0:=h0;have lt0:∀x∈p0,x.block<W.heap.size:=by obtain⟨m,hm⟩:=k0;exact DataW.trod_lt m _ _ _ hm
  obtain⟨fuel0,hf0⟩:=h0;obtain⟨s0,hcs0,hG0⟩:=store_in hf0;have hv0:(Value.agg cs0)= .agg (srC s0).toArray:=by
    congr 1;apply Array.ext';exact hcs0
  have k1:=h1;have lt1:∀x∈p1,x.block<W.heap.size:=by obtain⟨m,hm⟩:=k1;exact DataW.trod_lt m _ _ _ hm
  obtain⟨fuel1,hf1⟩:=h1;obtain⟨_,he1,hx1⟩:=int_in Tryz.underlying28 hf1;have hl1:IntKind.min .u32=0∧IntKind.max .u32=4294967295:=by decide
  obtain rfl:=(Value.int.inj (List.cons.inj he1).1).2;have k2:=h2;have lt2:∀x∈p2,x.block<W.heap.size:=by obtain⟨m,hm⟩:=k2;exact DataW.trod_lt m _ _ _ hm
  obtain⟨fuel2,hf2⟩:=h2;obtain⟨o2,hcs2,hr2,hn2⟩:=act_in hf2;have hv2:(Value.agg cs2)= .agg (acC o2).toArray:=by
    congr 1;apply Array.ext';exact hcs2
  have K0:=of_laid hL;clear hA0 hval0;have hwalk:=builderCommits s0 n1 (by omega) o2 hr2 hn2 0 W K0 hG0;rw[←hv0,←hv2]at hwalk;refine hwalk.mono fun e W' hret=>?_
  obtain⟨v,rfl,bel,rfl⟩:=hret;exact⟨_,rfl,_,_,_,[],_,[],hW',trodAll_mk1 (shut_bool Tryz.underlying4 _),(trodAll_cons_mk (Below.trod laidOut (by kernel_rfl) (of_decide_eq_true (by kernel_rfl)) k0 bel lt0) (trodAll_cons_mk (Below.trod laidOut (by kernel_rfl) (of_decide_eq_true (by kernel_rfl)) k1 bel lt1) (trodAll_cons_mk (Below.trod laidOut (by kernel_rfl) (of_decide_eq_true (by kernel_rfl)) k2 bel lt2) trodAll_mk0))),rfl,bel.frame _,fun h=>by cases h⟩
theorem builderCommits_closed:joinedFacts Tryz.prog 5 Tryz.f5 Rows.builderCommitsSpec Rows.builderCommitsRow=true:=by
  unfold joinedFacts;rw[builderCommits_f1,builderCommits_f2,builderCommits_f3,builderCommits_f4]
  kernel_rfl
theorem builderCommits_holds:Rows.BuilderCommitsSaid:=
  OpenClaim.holds_of_wide 5 Tryz.f5 rfl rfl rfl rfl rfl rfl rfl ⟨rfl,rfl,rfl,rfl,rfl⟩ rfl rfl rfl rfl rfl (by kernel_rfl) Tryz.func5 builderCommits_closed
    (of_decide_eq_true (by kernel_rfl)) (by unfold Func.isWrapper;first|(rw[if_pos (by decide+kernel)];kernel_rfl)|(rw[if_neg (by decide+kernel)];exact⟨rfl,rfl⟩))
    (fun os started H enc _=>builderCommits_lifted os started H enc)
theorem builderCommits_card:Rows.BuilderCommitsCardSaid:=
  Claim7.holds_tied_plain_at .later [] [.data] true (true, "80697c5a864b28f4e8d318d7c2bc416807c3696c6fd9433de8548c8d3cf80fcb") false
    builderCommits_holds (fun _ h=>by cases h) builderCommits_c1 (fun _ h=>by cases h) builderCommits_row_tie rfl ⟨rfl,rfl⟩ builderCommits_c2 rfl
    (fun f fn hf hfn => by
      obtain rfl : f = 5 := Option.some.inj (builderCommits_c4.symm.trans hf) |>.symm
      obtain rfl : fn = Tryz.f5 := (Option.some.inj (Tryz.func5.symm.trans hfn)).symm
      exact ⟨builderCommits_c5, fun j t ht => by
        rw [Tryz.params5] at ht
        have hm : t ∈ [55, 28, 33] := by simpa using Array.mem_of_getElem? ht
        have hall : ([55, 28, 33].all fun u => !Tryz.prog.wantsStandIn u) = true := by kernel_rfl
        exact (show Tryz.prog.wantsStandIn t = false by simpa using List.all_eq_true.1 hall t hm)⟩)
    builderCommits_c3
end Go.Proofs.YtkibkhgcbepolaaGreatDoor.L
