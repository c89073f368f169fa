/-
  StoreFirst: committed are the first operations that fit; the order and the graph at the end are those that were there and those that were committed. Condition: the table digest.constants is as its initialiser lays it (tied by the card).
-/
import Derived.Test.YtaapnlnileblaaaGreatDoorPS4StoreFirstb
namespace Go.Proofs.YtaapnlnileblaaaGreatDoor.W
open Go.RowKit Go.Proofs.YtaapnlnileblaaaGreatDoor.G
set_option linter.unusedVariables false
set_option linter.unusedSimpArgs false
set_option maxRecDepth 20000
set_option maxHeartbeats 8000000
attribute [local irreducible] RS RX RY Code.wp bodyPost J Ent.blk Ent.iown Ent.wrow Ent.wown Ent.gown Ent.all Ent.emp
instance:Ents Tryz.prog 39:=⟨.mk Tryz.func39 (by kernel_rfl) rfl⟩
instance:Ents Tryz.prog 40:=⟨.mk Tryz.func40 (by kernel_rfl) rfl⟩
structure FiA where
 (i:Nat)(a:Option Addr)(m c:Nat)(l:List Int)
theorem storeFirst{S0 S2:Nat→Prop}(s:StA)(la:Option Addr)(n lc:Nat)(zs:List OpA)(TK:TypeId)(w:World)(K0:Kst w TK)(G:StI S0 w s)(Z:GrI S2 w ⟨none,la,0,n,0,lc,[],zs⟩):
  Calls Tryz.prog 6 #[.agg (srC s).toArray, .slice la n lc] w (Ret w fun v _=>v= .bool true):=by
 refine J.enter 143 Tryz.func6 rfl rfl ?_;refine run ?_;refine J.box rfl rfl rfl fun b1=>?_
 refine run ?_;refine J.call rfl rfl (fun w' M=>stFit s la n lc zs w' (G.ext M.ext) (Z.ext M.ext)) fun f hf=>?_
 cases f with
 |false=>
  refine run ?_;refine J.callp rfl rfl (fun w' M=>stAlive TK w' (K0.ext M.ext)) ?_;refine run ?_;exact J.fin rfl
 |true=>
 obtain⟨h1,h2,h3,h4,h5⟩:=hf rfl;have H:=G.st h1;have Y:=Z.gr h4;have O:GRow opC 11 S2 w la n zs:=Y.ops;have I0:Inns opI S2 w zs:=Y.inn;have hok:∀z∈zs,z.o.ok:=Y.ok;have hzl:=O.len;obtain⟨ops,hops⟩:=ex (zs.map OpA.o);have hol:ops.length=n:=by rw[hops,List.length_map,hzl]
 have hv:∀o∈ops,S.verE o=0:=fun o ho=>by
  rw[hops]at ho;obtain⟨z,hz,rfl⟩:=List.mem_map.1 ho;exact h5 z hz
 have hcp:=H.cap;have hrun:=fun i (hi:i≤n)=>S.run_ok H.g h2 hv i (by omega);have hrn:=fun i (hi:i≤n)=>(S.run_le H.g h2 hv (i:=i) (by omega)).1;have zn:=H.z.run H.g h2 hv n (by omega);have hokn:=(hrun n (Nat.le_refl _)).1;refine run ?_;refine J.call rfl rfl (fun w' M=>stRunF s la n lc zs ops TK w' hops hv h2 (by omega) (K0.ext M.ext) (H.ext M.ext) (O.ext M.ext) (I0.ext M.ext) hok) fun q hq=>?_
 obtain⟨t,va,vc⟩:=q;dsimp only at hq⊢;refine J.know (fun w' M=>refWholeOk (hq.own zn w' M).sh) fun hokW=>?_
 rw[show t.sh.V=(S.runT s.V ops n).sh from congrArg S.StV.sh hq.V]at hokW;refine run ?_;refine J.alloc rfl fun b2=>?_
 refine run ?_;refine J.spn rfl rfl rfl (fun c=>absurd rfl c) (fun _=>?_);refine run ?_;refine J.callp rfl rfl (fun w' M=>refStCheck t w' (hq.own zn w' M)) ?_;rw[hq.V,S.chkT_0 hokn];refine run ?_;have hcap:t.cap=s.cap:=(congrArg S.StV.cap hq.V).trans (S.run_cap _ _ _);refine J.ifn rfl (fun c=>absurd hcap c) (fun _=>?_);refine run ?_;refine J.b0W .u8 rfl fun b3=>?_
 refine run ?_;refine J.apW rfl rfl (RW.arg H.os) fun a' c'=>?_
 rw[Nat.zero_add s.on,List.nil_append];refine run ?_;refine J.front (.blk b1 (srC s) 27) ?_;refine J.front (.iown 5 .u8 va n vc (S.runJ s.V ops n)) ?_;refine J.front (.wown 29 .u8 32 t.oa t.on t.oc t.os) ?_;refine J.front (shW t.sh) ?_;refine J.front (.blk b2 (srC t) 27) ?_;refine J.front (.wown 29 .u8 32 a' s.on c' s.os) ?_;refine J.drop (E:=[.wown 29 .u8 32 a' s.on c' s.os, .blk b2 (srC t) 27,shW t.sh, .wown 29 .u8 32 t.oa t.on t.oc t.os, .iown 5 .u8 va n vc (S.runJ s.V ops n), .blk b1 (srC s) 27]) sb ?_;refine J.loop (A:=FiA) (fun p=>[(8, .slice p.a p.m p.c),(9, .int .i64 (p.i:Nat))]) [10,11,12,13,14,15,53,54,55,56,57,58,59,60,61,62,63,64,65,66,67,68,69,70,71,72,73,74,75,76,77,78,79,80,81,82,83,84,85,86,87,88,89,90,91,92,93,94,95,96,97,98,99,100,101,102,103,104,105,106,107,108,109,110,111,112,113,114,115,116,117,118,119,120,121,122,123,124,125,126,127,128,129,130,131,132,133,134,135,136,137] (fun p=>[.wown 29 .u8 32 p.a p.m p.c p.l, .blk b2 (srC t) 27,shW t.sh, .wown 29 .u8 32 t.oa t.on t.oc t.os, .iown 5 .u8 va n vc (S.runJ s.V ops n), .blk b1 (srC s) 27]) (fun p=>p.i≤n∧p.m=(S.runT s.V ops p.i).n∧p.l=(S.runT s.V ops p.i).os) (fun p=>n - p.i) ⟨0,a',s.on,c',s.os⟩ (by kernel_rfl) ⟨Nat.zero_le _,rfl,rfl⟩ (fun p j hI=>?_);obtain⟨i,a,m,c,l⟩:=p;dsimp only at hI⊢;obtain⟨hi,hm,hl⟩:=hI;have hmn:m≤40:=hm▸hrn i hi;refine run ?_;refine J.ifd rfl (fun d1=>?_) (fun d1=>?_)
 ·obtain⟨z,hz⟩:=O.ex (i:=(i:Nat)) (by omega);have R:=Y.op hz;have hz':=hz;rw[Int.toNat_natCast]at hz';have hzo:ops.getD i S.OpV.zero=z.o:=by rw[hops,List.getD_eq_getElem?_getD,List.getElem?_map,hz'];rfl
  have hvz:S.verE z.o=0:=h5 z (List.mem_of_getElem? hz');have hchk:=S.verE_check hvz;have hA:=S.sha_arr (S.encS z.o);have hpl:i<n:=by omega
  have hzn:=R.ok.n;obtain⟨jv,hjv⟩:=ex (S.judT (S.runT s.V ops i) z.o);have hj:jv=(S.runJ s.V ops n).getD ((i:Nat):Int).toNat 0:=by rw[Int.toNat_natCast,S.runJ_at hpl,hzo,hjv]
  have hat:=S.at_neg (m:=m) (ids:=l) (x:=S.sha (S.encS z.o));have hnext:S.runT s.V ops (i+1)=S.offT (S.runT s.V ops i) z.o:=by rw[S.runT,hzo]
  refine run ?_;refine J.callp rfl rfl (fun w' M=>idO z.o R.ok _ _ _ _ (K0.ext M.ext) (R.row.ext M.ext) R.cap) ?_;rw[if_pos hchk,hchk];refine run ?_;refine J.alloc rfl fun b4=>?_
  refine run ?_;refine J.callp rfl rfl (fun w' M=>(RW.own' (a:=a) w' M).elim fun _ k0=>refAt _ _ _ _ _ w' k0 hA (by omega)) ?_;refine run ?_;refine J.ifd rfl (fun d2=>?_) (fun d2=>?_)
  ·have jn:S.judT (S.runT s.V ops i) z.o=5:=S.jud_5 (by rw[←hm,←hl];exact Classical.not_not.1 fun k=>by have:=hat.2 k;omega);obtain rfl:jv=5:=hjv.trans jn;refine run ?_;refine J.drop (E:=[.wown 29 .u8 32 a m c l, .blk b2 (srC t) 27,shW t.sh, .wown 29 .u8 32 t.oa t.on t.oc t.os, .iown 5 .u8 va n vc (S.runJ s.V ops n), .blk b1 (srC s) 27]) sb ?_;exact J.next ⟨i+1,a,m,c,l⟩ ⟨rfl,rfl,trivial⟩ (by kernel_rfl) ⟨by dsimp only;omega,by dsimp only;rw[hnext,S.off_no (by rw[jn];decide)];exact hm,by dsimp only;rw[hnext,S.off_no (by rw[jn];decide)];exact hl⟩ (by dsimp only;omega)
  have n1:¬S.inS (S.runT s.V ops i).n (S.runT s.V ops i).os (S.idOf z.o):=by rw[←hm,←hl];exact hat.1 (by omega)
  refine run ?_;refine J.callp rfl rfl (fun w' M=>(RW.own' (a:=a) w' M).elim fun _ k0=>refAll _ _ _ _ _ _ _ _ w' k0 (R.row.ext M.ext) (by omega) (by omega)) ?_;refine run ?_;refine J.ifb rfl (fun d3=>?_) (fun d3=>?_)
  ·have d3:¬S.allI m l z.o.n z.o.ids:=by simpa using d3
   have jn:S.judT (S.runT s.V ops i) z.o=6:=S.jud_6 n1 (by rw[←hm,←hl];exact d3);obtain rfl:jv=6:=hjv.trans jn;refine run ?_;refine J.drop (E:=[.wown 29 .u8 32 a m c l, .blk b2 (srC t) 27,shW t.sh, .wown 29 .u8 32 t.oa t.on t.oc t.os, .iown 5 .u8 va n vc (S.runJ s.V ops n), .blk b1 (srC s) 27]) sb ?_;exact J.next ⟨i+1,a,m,c,l⟩ ⟨rfl,rfl,trivial⟩ (by kernel_rfl) ⟨by dsimp only;omega,by dsimp only;rw[hnext,S.off_no (by rw[jn];decide)];exact hm,by dsimp only;rw[hnext,S.off_no (by rw[jn];decide)];exact hl⟩ (by dsimp only;omega)
  have d3:S.allI m l z.o.n z.o.ids:=by simpa using d3
  have n2:S.allI (S.runT s.V ops i).n (S.runT s.V ops i).os z.o.n z.o.ids:=by rw[←hm,←hl];exact d3
  have hcp2:(S.runT s.V ops i).cap=s.cap:=S.run_cap _ _ _;refine run ?_;refine J.ife rfl (fun d4=>?_) (fun d4=>?_)
  ·have jn:S.judT (S.runT s.V ops i) z.o=8:=S.jud_8 n1 n2 (by rw[←hm,hcp2];exact d4);obtain rfl:jv=8:=hjv.trans jn;refine run ?_;refine J.drop (E:=[.wown 29 .u8 32 a m c l, .blk b2 (srC t) 27,shW t.sh, .wown 29 .u8 32 t.oa t.on t.oc t.os, .iown 5 .u8 va n vc (S.runJ s.V ops n), .blk b1 (srC s) 27]) sb ?_;exact J.next ⟨i+1,a,m,c,l⟩ ⟨rfl,rfl,trivial⟩ (by kernel_rfl) ⟨by dsimp only;omega,by dsimp only;rw[hnext,S.off_no (by rw[jn];decide)];exact hm,by dsimp only;rw[hnext,S.off_no (by rw[jn];decide)];exact hl⟩ (by dsimp only;omega)
  have jn:S.judT (S.runT s.V ops i) z.o=1:=S.jud_1 n1 n2 (by rw[←hm,hcp2];exact d4);obtain rfl:jv=1:=hjv.trans jn;refine run ?_;refine J.b1W rfl rfl hA fun bb=>?_
  refine run ?_;refine J.apW rfl rfl RW.own' fun a2 c2=>?_
  refine run ?_;refine J.call rfl rfl (fun w' M=>stGraph t TK w' (K0.ext M.ext) (hq.own zn w' M)) fun g hg=>?_
  rw[hq.V,S.grT_0 hokn]at hg;rw[hq.V,S.chkT_0 hokn];dsimp only[grE,List.cons_append,List.nil_append];have F:=S.ok_fineT (hrun n (Nat.le_refl _)).2 hokn;have hall:∀o∈(S.whole (S.runT s.V ops n).sh.ps).ops,o.ok:=hokW;have hgs:=GrP.sz (P:=S.whole (S.runT s.V ops n).sh.ps) hg ⟨F.fine.good,F.fine.le⟩;have hgok:=hg.ok hall;have hhas:(S.whole (S.runT s.V ops n).sh.ps).has (S.idOf z.o) z.o:=by
   have h:=S.run_has H.g h2 hv (i:=i) (by omega) (by rw[hzo];exact jn) (n - (i+1)) (by omega);rw[hzo,show i+1+(n - (i+1))=n by omega]at h;exact h
  have hin:S.inS g.m g.ids (S.sha (S.encS z.o)):=by
   rw[hg.m,hg.ids];exact S.has_in.2 ⟨_,hhas⟩
  have hix:=S.ix_in hin;have hgn:g.n=g.m:=by rw[hg.n,F.fine.good.2,hg.m]
  obtain⟨y,hy⟩:∃y,g.zs[((S.ixS g.m g.ids (S.sha (S.encS z.o)):Nat):Int).toNat]? =some y:=⟨g.zs[S.ixS g.m g.ids (S.sha (S.encS z.o))]'(by have h:=congrArg List.length hg.ops;unfold GrA.ops at h;rw[List.length_map,F.fine.good.2,←hg.m]at h;omega),by rw[Int.toNat_natCast];exact List.getElem?_eq_getElem _⟩
  have hyz:y.o=z.o:=by
   have e:=GrA.opAt hy;rw[Int.toNat_natCast]at e;have e2:(S.whole (S.runT s.V ops n).sh.ps).has (S.idOf z.o) y.o:=⟨S.ixS g.m g.ids (S.sha (S.encS z.o)),by rw[←hg.m];exact hix.1,by rw[←hg.ids];exact hix.2,by rw[←hg.ops];exact e⟩
   exact S.has_fun F.fine.rising e2 hhas
  refine run ?_;refine J.alloc rfl fun b6=>?_
  refine run ?_;refine J.callp rfl rfl (fun w' M=>(RW.own' (a:=g.ia) w' M).elim fun _ k0=>refAt _ _ _ _ _ w' k0 hA (by omega)) ?_;rw[show S.atS g.m g.ids (S.sha (S.encS z.o))=(S.ixS g.m g.ids (S.sha (S.encS z.o)):Nat)from if_pos hin];refine run ?_;refine J.regionX [(0, .q),(1, .q),(2, .q),(3, .q),(4, .q),(5, .q),(6, .q),(7, .q),(8, .q),(9, .q),(10, .q),(11, .q),(12, .q),(13, .q),(14, .q),(15, .q),(16, .q),(17, .q),(18, .q),(19, .q),(20, .q),(21, .q),(22, .q),(23, .e),(24, .q),(25, .q)] mixed (by kernel_rfl) ?_;refine run ?_;refine J.spd rfl rfl rfl (fun c=>absurd c (by omega)) (fun _=>?_);refine run ?_;refine J.callp rfl rfl (fun w' M=>sameO y.o z.o (hgok y (List.mem_of_getElem? hy)) R.ok _ _ _ _ w' ((GrR.own hgok hg.cap hgs w' M).op hy).row (R.row.ext M.ext)) ?_;refine run ?_;refine J.ifb rfl (fun c=>?_) (fun _=>?_)
  ·exfalso;rw[hyz]at c;simp[S.sameO_refl]at c
  refine run ?_;refine J.drop (E:=[.wown 29 .u8 32 a2 (m+1) c2 (l++S.sha (S.encS z.o)), .blk b2 (srC t) 27,shW t.sh, .wown 29 .u8 32 t.oa t.on t.oc t.os, .iown 5 .u8 va n vc (S.runJ s.V ops n), .blk b1 (srC s) 27]) sb ?_;exact J.next ⟨i+1,a2,m+1,c2,l++S.sha (S.encS z.o)⟩ ⟨rfl,rfl,trivial⟩ (by kernel_rfl) ⟨by dsimp only;omega,by dsimp only;rw[hnext,S.off_1 jn,hm];rfl,by dsimp only;rw[hnext,S.off_1 jn,hl];rfl⟩ (by dsimp only;omega)
 obtain rfl:i=n:=by omega
 have e1:t.on=m:=(congrArg S.StV.n hq.V).trans hm.symm;have e2:t.os=l:=(congrArg S.StV.os hq.V).trans hl.symm;refine run ?_;refine J.callp rfl rfl (fun w' M=>(RW.own' (a:=t.oa) w' M).elim fun _ k0=>(RW.own' (a:=a) w' M).elim fun _ k1=>sameIDs _ _ _ _ _ _ _ _ w' k0 k1 (by omega) (by omega)) ?_;refine run ?_;refine J.spd rfl rfl rfl (fun _=>?_) (fun c=>absurd e2 c);refine run ?_;refine J.callp rfl rfl (fun w' M=>stAlive TK w' (K0.ext M.ext)) ?_;refine run ?_;exact J.fin rfl
end Go.Proofs.YtaapnlnileblaaaGreatDoor.W
namespace Go.Proofs.YtaapnlnileblaaaGreatDoor.L
open Go Go.Proofs.YtaapnlnileblaaaGreatDoor Go.Proofs.YtaapnlnileblaaaGreatDoor.G Go.Proofs.YtaapnlnileblaaaGreatDoor.W
open Go.ChangeShapes Go.WideShapes Go.ChangeAt Go.RowKit
set_option linter.unusedVariables false
set_option maxRecDepth 100000
theorem storeFirst_door(os:Os)(args:Array Value):laidMetH Tryz.prog [("braid/digest.constants",Rows.laid_braid_digest_constants)] ((World.doorLaid Tryz.prog 400 os).forCall (fun _ _=>0) ⟨#[],args,[]⟩).memory:=
  laidMetH_of_parts3 (fuel:=8) (laidMet_of_run' 8 (by kernel_rfl) (by kernel_rfl)) (by kernel_rfl) (by kernel_rfl)
theorem storeFirst_lifted(os:Os)(started:os.Started)(H:Type)(enc:TypeId×Value→H):
    ReturnsInHanded {} Tryz.checked os 6 .any (fun w args=>(Rows.storeFirstSpec.pre enc Tryz.prog Tryz.f6 [] false w args∧laidMetH Tryz.prog [("braid/digest.constants",Rows.laid_braid_digest_constants)] w)∧sizedMet enc Tryz.prog Tryz.f6 (OpenSpec.ofChange Rows.storeFirstSpec) false w args)
      (Rows.storeFirstSpec.post enc Tryz.prog Tryz.f6 false true false false):=by
  refine returnsInHanded_of_change_and (C:=Tryz.checked) (X:=fun w _=>laidMetH Tryz.prog [("braid/digest.constants",Rows.laid_braid_digest_constants)] w) (fun _ _ _ hh h=>h.of_heap hh) own started (by kernel_rfl) Tryz.func6
    (ChangeSpec.witness_shaped (enc:=enc) (C:=Tryz.checked) (os:=os) (X:=fun w _=>laidMetH Tryz.prog [("braid/digest.constants",Rows.laid_braid_digest_constants)] w) false (World.doorLaid Tryz.prog 400 os) #[.agg #[.int .i64 0, .slice none 0 0, .slice none 0 0, .int .i64 0, .slice none 0 0], .slice none 0 0] 8 rfl (World.shaped_of_RefB (by kernel_rfl) (by kernel_rfl)) (by kernel_rfl) (by kernel_rfl) (by kernel_rfl) (storeFirst_door os _)) ?_
  intro W base args ds gs before hval0 hW _ _ hL _;have hval:∀(j:Nat) t v,Tryz.f6.params[j]? =some t→args[j]? =some v→Value.okWide Tryz.prog W .any base t v:=hval0;have hW':=hW;obtain⟨p,q,hA0,hV,rfl,hfz,hnd⟩:=hW;have hA:DataW.TrodAll enc Tryz.prog W 0 (fun _=>true) true Tryz.f6.params.toList args.toList ds p:=hA0;rw[Tryz.params6]at hA hval;obtain⟨v0,vs0,d0,ds0,p0,q0,hargs,rfl,rfl,h0,r0⟩:=trodAll_cons hA;obtain⟨v1,vs1,d1,ds1,p1,q1,e1,rfl,rfl,h1,r1⟩:=trodAll_cons r0;obtain⟨rfl,rfl,rfl⟩:=trodAll_nil r1;subst e1;obtain rfl:args= #[v0,v1]:=by cases args;simp_all
  obtain⟨rfl,rfl⟩:=trodVars_none hV;obtain⟨cs0,rfl,_⟩:=okWide_struct Tryz.underlying27 (hval 0 27 v0 rfl rfl);obtain⟨a1,m1,c1,rfl⟩:=okWide_slice Tryz.underlying55 (hval 1 55 v1 rfl rfl);have k0:=h0;have lt0:∀x∈p0,x.block<W.heap.size:=by obtain⟨m,hm⟩:=k0;exact DataW.trod_lt m _ _ _ hm
  obtain⟨fuel0,hf0⟩:=h0;obtain⟨s0,hcs0,hG0⟩:=store_in hf0;have hv0:(Value.agg cs0)= .agg (srC s0).toArray:=by
    congr 1;apply Array.ext';exact hcs0
  have k1:=h1;have lt1:∀x∈p1,x.block<W.heap.size:=by obtain⟨m,hm⟩:=k1;exact DataW.trod_lt m _ _ _ hm
  obtain⟨fuel1,hf1⟩:=h1;obtain⟨_,_,_,zs1,he1,hc1,hR1,hQ1⟩:=ops_in hf1;obtain⟨rfl,rfl,rfl⟩:=Value.slice.inj (List.cons.inj he1).1;have K0:=of_laid hL;clear hA0 hval0;have hwalk:=storeFirst s0 a1 m1 c1 zs1 0 W K0 hG0 (grI_ops hR1 hQ1 hc1);rw[←hv0]at hwalk;refine hwalk.mono fun e W' hret=>?_
  obtain⟨v,rfl,bel,rfl⟩:=hret;exact⟨_,rfl,_,_,_,[],_,[],hW',trodAll_mk1 (shut_bool Tryz.underlying4 _),(trodAll_cons_mk (Below.trod laidOut (by kernel_rfl) (of_decide_eq_true (by kernel_rfl)) k0 bel lt0) (trodAll_cons_mk (Below.trod laidOut (by kernel_rfl) (of_decide_eq_true (by kernel_rfl)) k1 bel lt1) trodAll_mk0)),rfl,bel.frame _,fun h=>by cases h⟩
theorem storeFirst_closed:joinedFacts Tryz.prog 6 Tryz.f6 Rows.storeFirstSpec Rows.storeFirstRow=true:=by
  unfold joinedFacts;rw[storeFirst_f1,storeFirst_f2,storeFirst_f3,storeFirst_f4]
  kernel_rfl
theorem storeFirst_holds:Rows.StoreFirstSaid:=
  OpenClaim.holds_of_wide 6 Tryz.f6 rfl rfl rfl rfl rfl rfl rfl ⟨rfl,rfl,rfl,rfl,rfl⟩ rfl rfl rfl rfl rfl (by kernel_rfl) Tryz.func6 storeFirst_closed
    (of_decide_eq_true (by kernel_rfl)) (by unfold Func.isWrapper;first|(rw[if_pos (by decide+kernel)];kernel_rfl)|(rw[if_neg (by decide+kernel)];exact⟨rfl,rfl⟩))
    (fun os started H enc _=>storeFirst_lifted os started H enc)
theorem storeFirst_card:Rows.StoreFirstCardSaid:=
  Claim7.holds_tied_plain_at .later [] [.data] true (true, "834974f09f41892157c36901e70b4ab6f14d5290977dc85458caf343113352fd") false
    storeFirst_holds (fun _ h=>by cases h) (by kernel_rfl) (fun _ h=>by cases h) storeFirst_row_tie rfl ⟨rfl,rfl⟩ (by kernel_rfl) rfl
    (fun f fn hf hfn => by
      obtain rfl : f = 6 := Option.some.inj ((show Tryz.prog.funcNamed "braid/braidlaw12.StoreFirst" = some 6 by kernel_rfl).symm.trans hf) |>.symm
      obtain rfl : fn = Tryz.f6 := (Option.some.inj (Tryz.func6.symm.trans hfn)).symm
      exact ⟨by kernel_rfl, fun j t ht => by
        rw [Tryz.params6] at ht
        have hm : t ∈ [27, 55] := by simpa using Array.mem_of_getElem? ht
        have hall : ([27, 55].all fun u => !Tryz.prog.wantsStandIn u) = true := by kernel_rfl
        exact (show Tryz.prog.wantsStandIn t = false by simpa using List.all_eq_true.1 hall t hm)⟩)
    (by kernel_rfl)
end Go.Proofs.YtaapnlnileblaaaGreatDoor.L
