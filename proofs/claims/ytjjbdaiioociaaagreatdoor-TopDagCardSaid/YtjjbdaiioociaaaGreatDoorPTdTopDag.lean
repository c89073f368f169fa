/-
  TopDag: graphs, orders, shards and stores agree: a list that makes a graph is committed whole by a store, in its order and in rounds, with the same graph and heads, and what is below the heads at a version is what was committed up to then. Condition: the table digest.constants is as its initialiser lays it (tied by the card).
-/
import Derived.Test.YtjjbdaiioociaaaGreatDoorPTd17
namespace Go.Proofs.YtjjbdaiioociaaaGreatDoor.L
open Go Go.Proofs.YtjjbdaiioociaaaGreatDoor Go.Proofs.YtjjbdaiioociaaaGreatDoor.G Go.Proofs.YtjjbdaiioociaaaGreatDoor.W
open Go.ChangeShapes Go.WideShapes Go.ChangeAt Go.RowKit
set_option linter.unusedVariables false
set_option maxRecDepth 100000
theorem topDag_door(os:Os)(args:Array Value):laidMetH Tryz.prog [("braid/digest.constants",Rows.laid_braid_digest_constants)] ((World.doorLaid Tryz.prog 400 os).forCall (fun _ _=>0) ⟨#[],args,[]⟩).memory:=
  laidMetH_of_parts3 (fuel:=8) (laidMet_of_run' 8 (by kernel_rfl) (by kernel_rfl)) (by kernel_rfl) (by kernel_rfl)
theorem topDag_lifted(os:Os)(started:os.Started)(H:Type)(enc:TypeId×Value→H):
    ReturnsInHanded {} Tryz.checked os 4 .any (fun w args=>(Rows.topDagSpec.pre enc Tryz.prog Tryz.f4 [] false w args∧laidMetH Tryz.prog [("braid/digest.constants",Rows.laid_braid_digest_constants)] w)∧sizedMet enc Tryz.prog Tryz.f4 (OpenSpec.ofChange Rows.topDagSpec) false w args)
      (Rows.topDagSpec.post enc Tryz.prog Tryz.f4 false true false false):=by
  refine returnsInHanded_of_change_and (C:=Tryz.checked) (X:=fun w _=>laidMetH Tryz.prog [("braid/digest.constants",Rows.laid_braid_digest_constants)] w) (fun _ _ _ hh h=>h.of_heap hh) own started (by kernel_rfl) Tryz.func4
    (ChangeSpec.witness_shaped (enc:=enc) (C:=Tryz.checked) (os:=os) (X:=fun w _=>laidMetH Tryz.prog [("braid/digest.constants",Rows.laid_braid_digest_constants)] w) false (World.doorLaid Tryz.prog 400 os) #[.slice none 0 0, .int .i64 0, .int .i64 0, .int .i64 0] 8 rfl (World.shaped_of_RefB (by kernel_rfl) (by kernel_rfl)) (by kernel_rfl) (by kernel_rfl) (by kernel_rfl) (topDag_door os _)) ?_
  intro W base args ds gs before hval0 hW _ _ hL _;have hval:∀(j:Nat) t v,Tryz.f4.params[j]? =some t→args[j]? =some v→Value.okWide Tryz.prog W .any base t v:=hval0;have hW':=hW;obtain⟨p,q,hA0,hV,rfl,hfz,hnd⟩:=hW;have hA:DataW.TrodAll enc Tryz.prog W 0 (fun _=>true) true Tryz.f4.params.toList args.toList ds p:=hA0;rw[Tryz.params4]at hA hval;obtain⟨v0,vs0,d0,ds0,p0,q0,hargs,rfl,rfl,h0,r0⟩:=trodAll_cons hA;obtain⟨v1,vs1,d1,ds1,p1,q1,e1,rfl,rfl,h1,r1⟩:=trodAll_cons r0;obtain⟨v2,vs2,d2,ds2,p2,q2,e2,rfl,rfl,h2,r2⟩:=trodAll_cons r1;obtain⟨v3,vs3,d3,ds3,p3,q3,e3,rfl,rfl,h3,r3⟩:=trodAll_cons r2;obtain⟨rfl,rfl,rfl⟩:=trodAll_nil r3;subst e3;subst e2;subst e1;obtain rfl:args= #[v0,v1,v2,v3]:=by cases args;simp_all
  obtain⟨rfl,rfl⟩:=trodVars_none hV;obtain⟨a0,m0,c0,rfl⟩:=okWide_slice Tryz.underlying62 (hval 0 62 v0 rfl rfl);obtain⟨n1,rfl⟩:=okWide_int Tryz.underlying3 (hval 1 3 v1 rfl rfl);obtain⟨n2,rfl⟩:=okWide_int Tryz.underlying3 (hval 2 3 v2 rfl rfl);obtain⟨n3,rfl⟩:=okWide_int Tryz.underlying3 (hval 3 3 v3 rfl rfl);have k0:=h0;have lt0:∀x∈p0,x.block<W.heap.size:=by obtain⟨m,hm⟩:=k0;exact DataW.trod_lt m _ _ _ hm
  obtain⟨fuel0,hf0⟩:=h0;obtain⟨_,_,_,zs0,he0,hc0,hR0,hQ0⟩:=ops_in hf0;obtain⟨rfl,rfl,rfl⟩:=Value.slice.inj (List.cons.inj he0).1;have k1:=h1;have lt1:∀x∈p1,x.block<W.heap.size:=by obtain⟨m,hm⟩:=k1;exact DataW.trod_lt m _ _ _ hm
  obtain⟨fuel1,hf1⟩:=h1;obtain⟨_,he1,hx1⟩:=int_in Tryz.underlying3 hf1;have hl1:IntKind.min .i64= -9223372036854775808∧IntKind.max .i64=9223372036854775807:=by decide
  obtain rfl:=(Value.int.inj (List.cons.inj he1).1).2;have k2:=h2;have lt2:∀x∈p2,x.block<W.heap.size:=by obtain⟨m,hm⟩:=k2;exact DataW.trod_lt m _ _ _ hm
  obtain⟨fuel2,hf2⟩:=h2;obtain⟨_,he2,hx2⟩:=int_in Tryz.underlying3 hf2;have hl2:IntKind.min .i64= -9223372036854775808∧IntKind.max .i64=9223372036854775807:=by decide
  obtain rfl:=(Value.int.inj (List.cons.inj he2).1).2;have k3:=h3;have lt3:∀x∈p3,x.block<W.heap.size:=by obtain⟨m,hm⟩:=k3;exact DataW.trod_lt m _ _ _ hm
  obtain⟨fuel3,hf3⟩:=h3;obtain⟨_,he3,hx3⟩:=int_in Tryz.underlying3 hf3;have hl3:IntKind.min .i64= -9223372036854775808∧IntKind.max .i64=9223372036854775807:=by decide
  obtain rfl:=(Value.int.inj (List.cons.inj he3).1).2;have K0:=of_laid hL;clear hA0 hval0;have hwalk:=topDag a0 m0 c0 zs0 n1 n2 n3 0 W K0 (grI_ops hR0 hQ0 hc0);refine hwalk.mono fun e W' hret=>?_
  obtain⟨v,rfl,bel,rfl⟩:=hret;exact⟨_,rfl,_,_,_,[],_,[],hW',trodAll_mk1 (shut_bool Tryz.underlying4 _),(trodAll_cons_mk (Below.trod laidOut (by kernel_rfl) (of_decide_eq_true (by kernel_rfl)) k0 bel lt0) (trodAll_cons_mk (Below.trod laidOut (by kernel_rfl) (of_decide_eq_true (by kernel_rfl)) k1 bel lt1) (trodAll_cons_mk (Below.trod laidOut (by kernel_rfl) (of_decide_eq_true (by kernel_rfl)) k2 bel lt2) (trodAll_cons_mk (Below.trod laidOut (by kernel_rfl) (of_decide_eq_true (by kernel_rfl)) k3 bel lt3) trodAll_mk0)))),rfl,bel.frame _,fun h=>by cases h⟩
theorem topDag_closed:joinedFacts Tryz.prog 4 Tryz.f4 Rows.topDagSpec Rows.topDagRow=true:=by
  unfold joinedFacts;rw[topDag_f1,topDag_f2,topDag_f3,topDag_f4]
  kernel_rfl
theorem topDag_holds:Rows.TopDagSaid:=
  OpenClaim.holds_of_wide 4 Tryz.f4 rfl rfl rfl rfl rfl rfl rfl ⟨rfl,rfl,rfl,rfl,rfl⟩ rfl rfl rfl rfl rfl (by kernel_rfl) Tryz.func4 topDag_closed
    (of_decide_eq_true (by kernel_rfl)) (by unfold Func.isWrapper;first|(rw[if_pos (by decide+kernel)];kernel_rfl)|(rw[if_neg (by decide+kernel)];exact⟨rfl,rfl⟩))
    (fun os started H enc _=>topDag_lifted os started H enc)
theorem topDag_card:Rows.TopDagCardSaid:=
  Claim7.holds_tied_plain_at .later [] [.data] true (true, "d780024759582f4c21eebe46363cb9e1abbcb493ebc94a25406c496a11db6cb1") false
    topDag_holds (fun _ h=>by cases h) topDag_c1 (fun _ h=>by cases h) topDag_row_tie rfl ⟨rfl,rfl⟩ topDag_c2 rfl
    (fun f fn hf hfn => by
      obtain rfl : f = 4 := Option.some.inj (topDag_c4.symm.trans hf) |>.symm
      obtain rfl : fn = Tryz.f4 := (Option.some.inj (Tryz.func4.symm.trans hfn)).symm
      exact ⟨topDag_c5, fun j t ht => by
        rw [Tryz.params4] at ht
        have hm : t ∈ [62, 3, 3, 3] := by simpa using Array.mem_of_getElem? ht
        have hall : ([62, 3, 3, 3].all fun u => !Tryz.prog.wantsStandIn u) = true := by kernel_rfl
        exact (show Tryz.prog.wantsStandIn t = false by simpa using List.all_eq_true.1 hall t hm)⟩)
    topDag_c3
end Go.Proofs.YtjjbdaiioociaaaGreatDoor.L
