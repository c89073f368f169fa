/-
  StoreShards: a run with another number of shards has the same verdicts, order and graph. Condition: the table digest.constants is as its initialiser lays it (tied by the card).
-/
import Derived.Test.YtaapnlnileblaaaGreatDoorPS4StoreShardsb
namespace Go.Proofs.YtaapnlnileblaaaGreatDoor.W
open Go.RowKit Go.Proofs.YtaapnlnileblaaaGreatDoor.G
set_option linter.unusedVariables false
set_option linter.unusedSimpArgs false
set_option maxRecDepth 20000
set_option maxHeartbeats 8000000
attribute [local irreducible] RS RX RY Code.wp bodyPost J Ent.blk Ent.iown Ent.wrow Ent.wown Ent.gown Ent.all Ent.emp
instance:Ents Tryz.prog 39:=⟨.mk Tryz.func39 (by kernel_rfl) rfl⟩
instance:Ents Tryz.prog 40:=⟨.mk Tryz.func40 (by kernel_rfl) rfl⟩
theorem StR.i{S0:Nat→Prop}{w:World}{s:StA}(h:StR S0 w s):StI S0 w s:=
 ⟨⟨h.sh.pr,fun g hg=>let k:=h.sh.gi g hg;⟨k.ids,k.ops,k.inn,fun z hz=>(k.ok z hz).rng,⟨k.cap.1,k.cap.2.1⟩⟩,h.sh.hr,⟨h.sh.cap.1,h.sh.cap.2.1⟩⟩,h.os,h.cap.1⟩
theorem storeShards{S2:Nat→Prop}(c m k:Int)(la:Option Addr)(n lc:Nat)(zs:List OpA)(TK:TypeId)(w:World)(K0:Kst w TK)(Z:GrI S2 w ⟨none,la,0,n,0,lc,[],zs⟩):
  Calls Tryz.prog 7 #[.int .i64 c, .int .i64 m, .int .i64 k, .slice la n lc] w (Ret w fun v _=>v= .bool true):=by
 refine J.enter 118 Tryz.func7 rfl rfl ?_;refine run ?_;refine J.call rfl rfl (fun w' M=>stNew c m w') fun u1 hu1=>?_
 refine run ?_;refine J.alloc rfl fun b1=>?_
 refine run ?_;refine J.call rfl rfl (fun w' M=>stNew c k w') fun u2 hu2=>?_
 by_cases A:(1≤c∧c≤40)∧1≤m∧m≤4
 ·by_cases B:(1≤c∧c≤40)∧1≤k∧k≤4
  ·rw[(S.nwT_0 A).2,(S.nwT_0 B).2];refine run ?_;refine J.alloc rfl fun b2=>?_
   refine run ?_;refine J.call rfl rfl (fun w' M=>stFit u1 la n lc zs w' (hu1.own (StZ.nw c m) w' M).i (Z.ext M.ext)) fun f hf=>?_
   cases f with
   |false=>
    refine run ?_;refine J.callp rfl rfl (fun w' M=>stAlive TK w' (K0.ext M.ext)) ?_;refine run ?_;exact J.fin rfl
   |true=>
   obtain⟨h1,h2,h3,h4,h5⟩:=hf rfl;rw[hu1.V]at h2;obtain⟨k2,gk2,_⟩:=S.nw_ok B;have gk1:=(S.nw_ok A).2.1;have Y:=Z.gr h4;have O:GRow opC 11 S2 w la n zs:=Y.ops;have I0:Inns opI S2 w zs:=Y.inn;have hok:∀z∈zs,z.o.ok:=Y.ok;have hzl:=O.len;obtain⟨ops,hops⟩:=ex (zs.map OpA.o);have hol:ops.length=n:=by rw[hops,List.length_map,hzl]
   have hv:∀o∈ops,S.verE o=0:=fun o ho=>by
    rw[hops]at ho;obtain⟨z,hz,rfl⟩:=List.mem_map.1 ho;exact h5 z hz
   obtain⟨sim,hJ⟩:=(S.SimS.nw A B).run (l:=ops) gk1 gk2 h2 k2 hv n (by omega);obtain⟨r1,r2⟩:=S.run_ok gk1 h2 hv n (by omega);obtain⟨r3,r4⟩:=S.run_ok gk2 k2 hv n (by omega);have hn40:=(S.run_le gk1 h2 hv (i:=n) (by omega)).1;have z1:=(StZ.nw c m).run gk1 h2 hv n (by omega);have z2:=(StZ.nw c k).run gk2 k2 hv n (by omega);have F:=S.ok_fineT r2 r1;refine run ?_;refine J.call rfl rfl (fun w' M=>stRunF u1 la n lc zs ops TK w' hops hv (by rw[hu1.V];exact h2) (by omega) (K0.ext M.ext) (hu1.own (StZ.nw c m) w' M) (O.ext M.ext) (I0.ext M.ext) hok) fun q1 hq1=>?_
   obtain⟨t1,va,vc⟩:=q1;dsimp only at hq1⊢;rw[hu1.V]at hq1⊢;refine run ?_;refine J.alloc rfl fun b3=>?_
   refine run ?_;refine J.call rfl rfl (fun w' M=>stRunF u2 la n lc zs ops TK w' hops hv (by rw[hu2.V];exact k2) (by omega) (K0.ext M.ext) (hu2.own (StZ.nw c k) w' M) (O.ext M.ext) (I0.ext M.ext) hok) fun q2 hq2=>?_
   obtain⟨t2,wa,wc⟩:=q2;dsimp only at hq2⊢;rw[hu2.V]at hq2⊢;rw[←hJ];have e1:t1.on=(S.runT (S.nwT c m) ops n).n:=congrArg S.StV.n hq1.V;have e2:t2.on=t1.on:=((congrArg S.StV.n hq2.V).trans sim.n.symm).trans e1.symm;have e3:t1.os=t2.os:=((congrArg S.StV.os hq1.V).trans sim.os).trans (congrArg S.StV.os hq2.V).symm;refine J.know (fun w' M=>refWholeOk (hq1.own z1 w' M).sh) fun hokW=>?_
   rw[show t1.sh.V=(S.runT (S.nwT c m) ops n).sh from congrArg S.StV.sh hq1.V]at hokW;refine run ?_;refine J.alloc rfl fun b4=>?_
   refine run ?_;refine J.call rfl rfl (fun w' M=>stGraph t1 TK w' (K0.ext M.ext) (hq1.own z1 w' M)) fun g1 hg1=>?_
   rw[hq1.V,S.grT_0 r1]at hg1;rw[hq1.V,S.chkT_0 r1];dsimp only[grE,List.cons_append,List.nil_append];refine run ?_;refine J.alloc rfl fun b5=>?_
   refine run ?_;refine J.call rfl rfl (fun w' M=>stGraph t2 TK w' (K0.ext M.ext) (hq2.own z2 w' M)) fun g2 hg2=>?_
   rw[hq2.V,S.grT_0 r3,←sim.g]at hg2;rw[hq2.V,S.chkT_0 r3];dsimp only[grE,List.cons_append,List.nil_append];have s1:=GrP.sz (P:=S.whole (S.runT (S.nwT c m) ops n).sh.ps) hg1 ⟨F.fine.good,F.fine.le⟩;have s2:=GrP.sz (P:=S.whole (S.runT (S.nwT c m) ops n).sh.ps) hg2 ⟨F.fine.good,F.fine.le⟩;have hgs:g1.ids=g2.ids∧g1.ops=g2.ops:=⟨hg1.ids.trans hg2.ids.symm,hg1.ops.trans hg2.ops.symm⟩
   refine run ?_;refine J.alloc rfl fun b6=>?_
   refine run ?_;refine J.callp rfl rfl (fun w' M=>(RI.own' (a:=va) w' M).elim fun _ k0=>(RI.own' (a:=wa) w' M).elim fun _ k1=>sameBytes _ _ _ _ _ _ _ _ w' k0 k1 (by omega) (by omega)) ?_;rw[show decide (S.runJ (S.nwT c m) ops n=S.runJ (S.nwT c m) ops n)=true from decide_eq_true rfl];refine run ?_;refine J.callp rfl rfl (fun w' M=>(RW.own' (a:=t1.oa) w' M).elim fun _ k0=>(RW.own' (a:=t2.oa) w' M).elim fun _ k1=>sameIDs _ _ _ _ _ _ _ _ w' k0 k1 (by omega) (by omega)) ?_;refine run ?_;refine J.spd rfl rfl rfl (fun _=>?_) (fun c=>absurd e3 c);refine run ?_;refine J.callp rfl rfl (fun w' M=>refGSame g1 g2 w' (GrR.own (hg1.ok hokW) hg1.cap s1 w' M) (GrR.own (hg2.ok hokW) hg2.cap s2 w' M)) ?_;refine run ?_;refine J.spd rfl rfl rfl (fun _=>?_) (fun c=>absurd hgs c);refine run ?_;refine J.callp rfl rfl (fun w' M=>stAlive TK w' (K0.ext M.ext)) ?_;refine run ?_;exact J.fin rfl
  rw[(S.nwT_0 A).2,(S.nwT_2 B).2];refine run ?_;refine J.alloc rfl fun b2=>?_
  refine run ?_;refine J.callp rfl rfl (fun w' M=>stAlive TK w' (K0.ext M.ext)) ?_;refine run ?_;exact J.fin rfl
 rw[(S.nwT_2 A).2];by_cases B:(1≤c∧c≤40)∧1≤k∧k≤4
 ·rw[(S.nwT_0 B).2];refine run ?_;refine J.alloc rfl fun b2=>?_
  refine run ?_;refine J.callp rfl rfl (fun w' M=>stAlive TK w' (K0.ext M.ext)) ?_;refine run ?_;exact J.fin rfl
 rw[(S.nwT_2 B).2];refine run ?_;refine J.alloc rfl fun b2=>?_
 refine run ?_;refine J.callp rfl rfl (fun w' M=>stAlive TK w' (K0.ext M.ext)) ?_;refine run ?_;exact J.fin rfl
end Go.Proofs.YtaapnlnileblaaaGreatDoor.W
namespace Go.Proofs.YtaapnlnileblaaaGreatDoor.L
open Go Go.Proofs.YtaapnlnileblaaaGreatDoor Go.Proofs.YtaapnlnileblaaaGreatDoor.G Go.Proofs.YtaapnlnileblaaaGreatDoor.W
open Go.ChangeShapes Go.WideShapes Go.ChangeAt Go.RowKit
set_option linter.unusedVariables false
set_option maxRecDepth 100000
theorem storeShards_door(os:Os)(args:Array Value):laidMetH Tryz.prog [("braid/digest.constants",Rows.laid_braid_digest_constants)] ((World.doorLaid Tryz.prog 400 os).forCall (fun _ _=>0) ⟨#[],args,[]⟩).memory:=
  laidMetH_of_parts3 (fuel:=8) (laidMet_of_run' 8 (by kernel_rfl) (by kernel_rfl)) (by kernel_rfl) (by kernel_rfl)
theorem storeShards_lifted(os:Os)(started:os.Started)(H:Type)(enc:TypeId×Value→H):
    ReturnsInHanded {} Tryz.checked os 7 .any (fun w args=>(Rows.storeShardsSpec.pre enc Tryz.prog Tryz.f7 [] false w args∧laidMetH Tryz.prog [("braid/digest.constants",Rows.laid_braid_digest_constants)] w)∧sizedMet enc Tryz.prog Tryz.f7 (OpenSpec.ofChange Rows.storeShardsSpec) false w args)
      (Rows.storeShardsSpec.post enc Tryz.prog Tryz.f7 false true false false):=by
  refine returnsInHanded_of_change_and (C:=Tryz.checked) (X:=fun w _=>laidMetH Tryz.prog [("braid/digest.constants",Rows.laid_braid_digest_constants)] w) (fun _ _ _ hh h=>h.of_heap hh) own started (by kernel_rfl) Tryz.func7
    (ChangeSpec.witness_shaped (enc:=enc) (C:=Tryz.checked) (os:=os) (X:=fun w _=>laidMetH Tryz.prog [("braid/digest.constants",Rows.laid_braid_digest_constants)] w) false (World.doorLaid Tryz.prog 400 os) #[.int .i64 0, .int .i64 0, .int .i64 0, .slice none 0 0] 8 rfl (World.shaped_of_RefB (by kernel_rfl) (by kernel_rfl)) (by kernel_rfl) (by kernel_rfl) (by kernel_rfl) (storeShards_door os _)) ?_
  intro W base args ds gs before hval0 hW _ _ hL _;have hval:∀(j:Nat) t v,Tryz.f7.params[j]? =some t→args[j]? =some v→Value.okWide Tryz.prog W .any base t v:=hval0;have hW':=hW;obtain⟨p,q,hA0,hV,rfl,hfz,hnd⟩:=hW;have hA:DataW.TrodAll enc Tryz.prog W 0 (fun _=>true) true Tryz.f7.params.toList args.toList ds p:=hA0;rw[Tryz.params7]at hA hval;obtain⟨v0,vs0,d0,ds0,p0,q0,hargs,rfl,rfl,h0,r0⟩:=trodAll_cons hA;obtain⟨v1,vs1,d1,ds1,p1,q1,e1,rfl,rfl,h1,r1⟩:=trodAll_cons r0;obtain⟨v2,vs2,d2,ds2,p2,q2,e2,rfl,rfl,h2,r2⟩:=trodAll_cons r1;obtain⟨v3,vs3,d3,ds3,p3,q3,e3,rfl,rfl,h3,r3⟩:=trodAll_cons r2;obtain⟨rfl,rfl,rfl⟩:=trodAll_nil r3;subst e3;subst e2;subst e1;obtain rfl:args= #[v0,v1,v2,v3]:=by cases args;simp_all
  obtain⟨rfl,rfl⟩:=trodVars_none hV;obtain⟨n0,rfl⟩:=okWide_int Tryz.underlying3 (hval 0 3 v0 rfl rfl);obtain⟨n1,rfl⟩:=okWide_int Tryz.underlying3 (hval 1 3 v1 rfl rfl);obtain⟨n2,rfl⟩:=okWide_int Tryz.underlying3 (hval 2 3 v2 rfl rfl);obtain⟨a3,m3,c3,rfl⟩:=okWide_slice Tryz.underlying55 (hval 3 55 v3 rfl rfl);have k0:=h0;have lt0:∀x∈p0,x.block<W.heap.size:=by obtain⟨m,hm⟩:=k0;exact DataW.trod_lt m _ _ _ hm
  obtain⟨fuel0,hf0⟩:=h0;obtain⟨_,he0,hx0⟩:=int_in Tryz.underlying3 hf0;have hl0:IntKind.min .i64= -9223372036854775808∧IntKind.max .i64=9223372036854775807:=by decide
  obtain rfl:=(Value.int.inj (List.cons.inj he0).1).2;have k1:=h1;have lt1:∀x∈p1,x.block<W.heap.size:=by obtain⟨m,hm⟩:=k1;exact DataW.trod_lt m _ _ _ hm
  obtain⟨fuel1,hf1⟩:=h1;obtain⟨_,he1,hx1⟩:=int_in Tryz.underlying3 hf1;have hl1:IntKind.min .i64= -9223372036854775808∧IntKind.max .i64=9223372036854775807:=by decide
  obtain rfl:=(Value.int.inj (List.cons.inj he1).1).2;have k2:=h2;have lt2:∀x∈p2,x.block<W.heap.size:=by obtain⟨m,hm⟩:=k2;exact DataW.trod_lt m _ _ _ hm
  obtain⟨fuel2,hf2⟩:=h2;obtain⟨_,he2,hx2⟩:=int_in Tryz.underlying3 hf2;have hl2:IntKind.min .i64= -9223372036854775808∧IntKind.max .i64=9223372036854775807:=by decide
  obtain rfl:=(Value.int.inj (List.cons.inj he2).1).2;have k3:=h3;have lt3:∀x∈p3,x.block<W.heap.size:=by obtain⟨m,hm⟩:=k3;exact DataW.trod_lt m _ _ _ hm
  obtain⟨fuel3,hf3⟩:=h3;obtain⟨_,_,_,zs3,he3,hc3,hR3,hQ3⟩:=ops_in hf3;obtain⟨rfl,rfl,rfl⟩:=Value.slice.inj (List.cons.inj he3).1;have K0:=of_laid hL;clear hA0 hval0;have hwalk:=storeShards n0 n1 n2 a3 m3 c3 zs3 0 W K0 (grI_ops hR3 hQ3 hc3);refine hwalk.mono fun e W' hret=>?_
  obtain⟨v,rfl,bel,rfl⟩:=hret;exact⟨_,rfl,_,_,_,[],_,[],hW',trodAll_mk1 (shut_bool Tryz.underlying4 _),(trodAll_cons_mk (Below.trod laidOut (by kernel_rfl) (of_decide_eq_true (by kernel_rfl)) k0 bel lt0) (trodAll_cons_mk (Below.trod laidOut (by kernel_rfl) (of_decide_eq_true (by kernel_rfl)) k1 bel lt1) (trodAll_cons_mk (Below.trod laidOut (by kernel_rfl) (of_decide_eq_true (by kernel_rfl)) k2 bel lt2) (trodAll_cons_mk (Below.trod laidOut (by kernel_rfl) (of_decide_eq_true (by kernel_rfl)) k3 bel lt3) trodAll_mk0)))),rfl,bel.frame _,fun h=>by cases h⟩
theorem storeShards_closed:joinedFacts Tryz.prog 7 Tryz.f7 Rows.storeShardsSpec Rows.storeShardsRow=true:=by
  unfold joinedFacts;rw[storeShards_f1,storeShards_f2,storeShards_f3,storeShards_f4]
  kernel_rfl
theorem storeShards_holds:Rows.StoreShardsSaid:=
  OpenClaim.holds_of_wide 7 Tryz.f7 rfl rfl rfl rfl rfl rfl rfl ⟨rfl,rfl,rfl,rfl,rfl⟩ rfl rfl rfl rfl rfl (by kernel_rfl) Tryz.func7 storeShards_closed
    (of_decide_eq_true (by kernel_rfl)) (by unfold Func.isWrapper;first|(rw[if_pos (by decide+kernel)];kernel_rfl)|(rw[if_neg (by decide+kernel)];exact⟨rfl,rfl⟩))
    (fun os started H enc _=>storeShards_lifted os started H enc)
theorem storeShards_card:Rows.StoreShardsCardSaid:=
  Claim7.holds_tied_plain_at .later [] [.data] true (true, "834974f09f41892157c36901e70b4ab6f14d5290977dc85458caf343113352fd") false
    storeShards_holds (fun _ h=>by cases h) (by kernel_rfl) (fun _ h=>by cases h) storeShards_row_tie rfl ⟨rfl,rfl⟩ (by kernel_rfl) rfl
    (fun f fn hf hfn => by
      obtain rfl : f = 7 := Option.some.inj ((show Tryz.prog.funcNamed "braid/braidlaw12.StoreShards" = some 7 by kernel_rfl).symm.trans hf) |>.symm
      obtain rfl : fn = Tryz.f7 := (Option.some.inj (Tryz.func7.symm.trans hfn)).symm
      exact ⟨by kernel_rfl, fun j t ht => by
        rw [Tryz.params7] at ht
        have hm : t ∈ [3, 3, 3, 55] := by simpa using Array.mem_of_getElem? ht
        have hall : ([3, 3, 3, 55].all fun u => !Tryz.prog.wantsStandIn u) = true := by kernel_rfl
        exact (show Tryz.prog.wantsStandIn t = false by simpa using List.all_eq_true.1 hall t hm)⟩)
    (by kernel_rfl)
end Go.Proofs.YtaapnlnileblaaaGreatDoor.L
