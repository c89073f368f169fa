/-
  StoreParts: a run in two parts is a run, a run of one operation is offering it, and what is committed is what Since returns. Condition: the table digest.constants is as its initialiser lays it (tied by the card).
-/
import Derived.Test.YtaapnlnileblaaaGreatDoorPS4StorePartsw
namespace Go.Proofs.YtaapnlnileblaaaGreatDoor.L
open Go Go.Proofs.YtaapnlnileblaaaGreatDoor Go.Proofs.YtaapnlnileblaaaGreatDoor.G Go.Proofs.YtaapnlnileblaaaGreatDoor.W
open Go.ChangeShapes Go.WideShapes Go.ChangeAt Go.RowKit
set_option linter.unusedVariables false
set_option maxRecDepth 100000
theorem storeParts_door(os:Os)(args:Array Value):laidMetH Tryz.prog [("braid/digest.constants",Rows.laid_braid_digest_constants)] ((World.doorLaid Tryz.prog 400 os).forCall (fun _ _=>0) ⟨#[],args,[]⟩).memory:=
  laidMetH_of_parts3 (fuel:=8) (laidMet_of_run' 8 (by kernel_rfl) (by kernel_rfl)) (by kernel_rfl) (by kernel_rfl)
theorem storeParts_lifted(os:Os)(started:os.Started)(H:Type)(enc:TypeId×Value→H):
    ReturnsInHanded {} Tryz.checked os 5 .any (fun w args=>(Rows.storePartsSpec.pre enc Tryz.prog Tryz.f5 [] false w args∧laidMetH Tryz.prog [("braid/digest.constants",Rows.laid_braid_digest_constants)] w)∧sizedMet enc Tryz.prog Tryz.f5 (OpenSpec.ofChange Rows.storePartsSpec) false w args)
      (Rows.storePartsSpec.post enc Tryz.prog Tryz.f5 false true false false):=by
  refine returnsInHanded_of_change_and (C:=Tryz.checked) (X:=fun w _=>laidMetH Tryz.prog [("braid/digest.constants",Rows.laid_braid_digest_constants)] w) (fun _ _ _ hh h=>h.of_heap hh) own started (by kernel_rfl) Tryz.func5
    (ChangeSpec.witness_shaped (enc:=enc) (C:=Tryz.checked) (os:=os) (X:=fun w _=>laidMetH Tryz.prog [("braid/digest.constants",Rows.laid_braid_digest_constants)] w) false (World.doorLaid Tryz.prog 400 os) #[.agg #[.int .i64 0, .slice none 0 0, .slice none 0 0, .int .i64 0, .slice none 0 0], .slice none 0 0, .int .i64 0] 8 rfl (World.shaped_of_RefB (by kernel_rfl) (by kernel_rfl)) (by kernel_rfl) (by kernel_rfl) (by kernel_rfl) (storeParts_door os _)) ?_
  intro W base args ds gs before hval0 hW _ _ hL _;have hval:∀(j:Nat) t v,Tryz.f5.params[j]? =some t→args[j]? =some v→Value.okWide Tryz.prog W .any base t v:=hval0;have hW':=hW;obtain⟨p,q,hA0,hV,rfl,hfz,hnd⟩:=hW;have hA:DataW.TrodAll enc Tryz.prog W 0 (fun _=>true) true Tryz.f5.params.toList args.toList ds p:=hA0;rw[Tryz.params5]at hA hval;obtain⟨v0,vs0,d0,ds0,p0,q0,hargs,rfl,rfl,h0,r0⟩:=trodAll_cons hA;obtain⟨v1,vs1,d1,ds1,p1,q1,e1,rfl,rfl,h1,r1⟩:=trodAll_cons r0;obtain⟨v2,vs2,d2,ds2,p2,q2,e2,rfl,rfl,h2,r2⟩:=trodAll_cons r1;obtain⟨rfl,rfl,rfl⟩:=trodAll_nil r2;subst e2;subst e1;obtain rfl:args= #[v0,v1,v2]:=by cases args;simp_all
  obtain⟨rfl,rfl⟩:=trodVars_none hV;obtain⟨cs0,rfl,_⟩:=okWide_struct Tryz.underlying27 (hval 0 27 v0 rfl rfl);obtain⟨a1,m1,c1,rfl⟩:=okWide_slice Tryz.underlying55 (hval 1 55 v1 rfl rfl);obtain⟨n2,rfl⟩:=okWide_int Tryz.underlying3 (hval 2 3 v2 rfl rfl);have k0:=h0;have lt0:∀x∈p0,x.block<W.heap.size:=by obtain⟨m,hm⟩:=k0;exact DataW.trod_lt m _ _ _ hm
  obtain⟨fuel0,hf0⟩:=h0;obtain⟨s0,hcs0,hG0⟩:=store_in hf0;have hv0:(Value.agg cs0)= .agg (srC s0).toArray:=by
    congr 1;apply Array.ext';exact hcs0
  have k1:=h1;have lt1:∀x∈p1,x.block<W.heap.size:=by obtain⟨m,hm⟩:=k1;exact DataW.trod_lt m _ _ _ hm
  obtain⟨fuel1,hf1⟩:=h1;obtain⟨_,_,_,zs1,he1,hc1,hR1,hQ1⟩:=ops_in hf1;obtain⟨rfl,rfl,rfl⟩:=Value.slice.inj (List.cons.inj he1).1;have k2:=h2;have lt2:∀x∈p2,x.block<W.heap.size:=by obtain⟨m,hm⟩:=k2;exact DataW.trod_lt m _ _ _ hm
  obtain⟨fuel2,hf2⟩:=h2;obtain⟨_,he2,hx2⟩:=int_in Tryz.underlying3 hf2;have hl2:IntKind.min .i64= -9223372036854775808∧IntKind.max .i64=9223372036854775807:=by decide
  obtain rfl:=(Value.int.inj (List.cons.inj he2).1).2;have K0:=of_laid hL;clear hA0 hval0;have hwalk:=storeParts s0 a1 m1 c1 zs1 n2 0 W K0 hG0 (grI_ops hR1 hQ1 hc1);rw[←hv0]at hwalk;refine hwalk.mono fun e W' hret=>?_
  obtain⟨v,rfl,bel,rfl⟩:=hret;exact⟨_,rfl,_,_,_,[],_,[],hW',trodAll_mk1 (shut_bool Tryz.underlying4 _),(trodAll_cons_mk (Below.trod laidOut (by kernel_rfl) (of_decide_eq_true (by kernel_rfl)) k0 bel lt0) (trodAll_cons_mk (Below.trod laidOut (by kernel_rfl) (of_decide_eq_true (by kernel_rfl)) k1 bel lt1) (trodAll_cons_mk (Below.trod laidOut (by kernel_rfl) (of_decide_eq_true (by kernel_rfl)) k2 bel lt2) trodAll_mk0))),rfl,bel.frame _,fun h=>by cases h⟩
theorem storeParts_closed:joinedFacts Tryz.prog 5 Tryz.f5 Rows.storePartsSpec Rows.storePartsRow=true:=by
  unfold joinedFacts;rw[storeParts_f1,storeParts_f2,storeParts_f3,storeParts_f4]
  kernel_rfl
theorem storeParts_holds:Rows.StorePartsSaid:=
  OpenClaim.holds_of_wide 5 Tryz.f5 rfl rfl rfl rfl rfl rfl rfl ⟨rfl,rfl,rfl,rfl,rfl⟩ rfl rfl rfl rfl rfl (by kernel_rfl) Tryz.func5 storeParts_closed
    (of_decide_eq_true (by kernel_rfl)) (by unfold Func.isWrapper;first|(rw[if_pos (by decide+kernel)];kernel_rfl)|(rw[if_neg (by decide+kernel)];exact⟨rfl,rfl⟩))
    (fun os started H enc _=>storeParts_lifted os started H enc)
theorem storeParts_card:Rows.StorePartsCardSaid:=
  Claim7.holds_tied_plain_at .later [] [.data] true (true, "834974f09f41892157c36901e70b4ab6f14d5290977dc85458caf343113352fd") false
    storeParts_holds (fun _ h=>by cases h) (by kernel_rfl) (fun _ h=>by cases h) storeParts_row_tie rfl ⟨rfl,rfl⟩ (by kernel_rfl) rfl
    (fun f fn hf hfn => by
      obtain rfl : f = 5 := Option.some.inj ((show Tryz.prog.funcNamed "braid/braidlaw12.StoreParts" = some 5 by kernel_rfl).symm.trans hf) |>.symm
      obtain rfl : fn = Tryz.f5 := (Option.some.inj (Tryz.func5.symm.trans hfn)).symm
      exact ⟨by kernel_rfl, fun j t ht => by
        rw [Tryz.params5] at ht
        have hm : t ∈ [27, 55, 3] := by simpa using Array.mem_of_getElem? ht
        have hall : ([27, 55, 3].all fun u => !Tryz.prog.wantsStandIn u) = true := by kernel_rfl
        exact (show Tryz.prog.wantsStandIn t = false by simpa using List.all_eq_true.1 hall t hm)⟩)
    (by kernel_rfl)
end Go.Proofs.YtaapnlnileblaaaGreatDoor.L
