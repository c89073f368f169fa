/-
  Part 16 of the lemmas of these laws: ShardSplit.
-/
import Derived.Test.YtkmgnmebadghbaaGreatDoorPSx15
set_option linter.unusedVariables false
set_option linter.unusedSimpArgs false
open Go.Proofs.Tryz
namespace Go.Proofs.YtkmgnmebadghbaaGreatDoor
namespace W
open Go.RowKit G
set_option maxRecDepth 20000
set_option maxHeartbeats 8000000
attribute [local irreducible] RS RX RY Code.wp bodyPost J Ent.blk Ent.iown Ent.wrow Ent.wown Ent.gown Ent.all Ent.emp
instance:Ents prog 47:=⟨.mk func47 (by kernel_rfl) rfl⟩
instance:Ents prog 48:=⟨.mk func48 (by kernel_rfl) rfl⟩
instance:Ents prog 22:=⟨.mk func22 (by kernel_rfl) rfl⟩
theorem shNewW(k:Nat)(hk:1≤k∧k≤4)(w:World):
  Calls prog 11 #[.int .i64 k] w (Gv w (fun q:ShA=> .tuple #[.agg (shC q).toArray, .int .i64 0]) (fun q=>[shW q]) (ShK (S.madeS .nil k))):=by
 have h:=shNew k w;rw[show S.nwE (k:Int)=0 from if_pos (by omega),show S.nwS (k:Int)=S.madeS .nil k from if_pos (by omega)]at h;exact h.mono fun _ _ ⟨r,h1,h2,h3,h4⟩=>⟨r,h1,h2,h3,sep1 (all_i h4)⟩
theorem shPutW{S0 S1:Nat→Prop}(s:ShA)(z:OpA)(TK:TypeId)(w:World)(K0:Kst w TK)(H:ShR S0 w s)(hL:ShL s)(R:OpR S1 w z){u:S.ShV}{x:List Int}(h1:S.puE s.V z.o=0)(h2:S.puI s.V z.o=x)(h3:S.puS s.V z.o=u):
  Calls prog 45 #[.agg (shC s).toArray, .agg (opC z).toArray] w (Gv w (fun r:ShA=> .tuple #[.agg (shC r).toArray, .agg (ints .u8 x).toArray, .int .i64 0]) (fun r=>[shW r]) (ShK u)):=by
 have h:=shPut s z TK w K0 H hL R;rw[h1,h2,h3]at h;exact h.mono fun _ _ ⟨r,h1,h2,h3,h4⟩=>⟨r,h1,h2,h3,sep1 (all_i h4)⟩
theorem J.know{S0:Nat→Prop}{w0:World}{L:List Ent}{X:World→Prop}{p:Prop}(h:∀w,Mem S0 w0 L w→p)(k:p→J S0 w0 L X):J S0 w0 L X:=by
 unfold J at k⊢;exact fun w M=>k (h w M) w M
structure AdS where
 (i:Nat)(t:ShA)(P:S.PG)
theorem shardSplit{S0:Nat→Prop}(s:ShA)(n:Int)(TK:TypeId)(w:World)(K0:Kst w TK)(G:ShI S0 w s):
  Calls prog 7 #[.agg (shC s).toArray, .int .i64 n] w (Ret w fun v _=>v= .bool true):=by
 refine J.enter 193 func7 rfl rfl ?_;refine run ?_;refine J.box rfl rfl rfl fun b2=>?_
 refine run ?_;refine J.call rfl rfl (fun w' M=>shFit s w' (G.ext M.ext)) fun q1 hq1=>?_
 refine run ?_;refine J.spt rfl rfl rfl (fun c1=>?_) (fun c1=>?_)
 ·skip
  refine run ?_;refine J.callp rfl rfl (fun w' M=>shAlive TK w' (K0.ext M.ext)) ?_;refine run ?_;exact J.fin rfl
 refine run ?_;refine J.spd rfl rfl rfl (fun c2=>?_) (fun c2=>?_)
 ·skip
  refine run ?_;refine J.callp rfl rfl (fun w' M=>shAlive TK w' (K0.ext M.ext)) ?_;refine run ?_;exact J.fin rfl
 refine run ?_;refine J.ifd rfl (fun c3=>?_) (fun c3=>?_)
 ·skip
  refine run ?_;refine J.callp rfl rfl (fun w' M=>shAlive TK w' (K0.ext M.ext)) ?_;refine run ?_;exact J.fin rfl
 obtain⟨sm,hok⟩:=hq1 c1;obtain⟨H,hL⟩:=G.sh sm;obtain⟨k,hk⟩:∃k:Nat,n=k:=⟨n.toNat,by omega⟩
 subst hk;have hk4:1≤k∧k≤4:=by omega
 clear c2 c3;obtain⟨n1,n4⟩:=ok_len H hok;have hle:=H.le hL n4;have hwg:=S.whole_good (ps:=s.V.ps) H.ml;have hc:S.chkP (S.whole s.V.ps)=0:=hok.2.1;have hwo:=refWholeOk H;have fg:(S.whole s.V.ps).fine:=(S.chkP_fine hwg.1).1 hc;have hd0:=S.hd_0 hok;have hokp:=(S.ok_iff (v:=s.V) H.ml).1 hok;have hd1:S.hdL s.V=S.hdI (S.whole s.V.ps):=hd0.1.trans hokp.2.2.2.2;have hd2:S.hdV s.V=((S.whole s.V.ps).m:Nat):=hd0.2.trans hokp.2.2.2.1;refine run ?_;refine J.call rfl rfl (fun w' M=>shAll s TK w' (K0.ext M.ext) (H.ext M.ext) hL) fun q hq=>?_
 rw[S.al_0 hok]at hq;rw[S.chkH_0 hok];dsimp only[grE,List.cons_append,List.nil_append];have hqs:q.m≤70∧q.n≤70:=⟨by rw[hq.m];exact Nat.le_trans hle (by decide),by rw[hq.n,hwg.2];exact Nat.le_trans hle (by decide)⟩
 have hqP:q.P=S.whole s.V.ps:=GrP.P hq;have hqok:=hq.ok hwo;rw[←hqP]at hc fg hd1 hd2 hwg;have hqc:S.chkG q.m q.ids q.ops=0:=hc;have hqn:q.n=q.m:=GrP.nm hq (by rw[←hqP];exact fg.good);refine run ?_;refine J.alloc rfl fun b5=>?_
 refine run ?_;refine J.call rfl rfl (fun w' M=>shNewW k hk4 w') fun q0 hq0=>?_
 refine run ?_;refine J.alloc rfl fun b7=>?_
 refine run ?_;refine J.ifn rfl (fun c=>absurd (by rw[hqn]) c) (fun _=>?_);refine run ?_;have hz:=S.chkG_zero.1 hqc;refine J.call rfl rfl (fun w' M=>refOrderL q w' (GrR.own hqok hq.cap hqs w' M) hqn.symm hz.2.2.2.1 hz.2.2.2.2.1) fun l hl=>?_
 obtain⟨l1,l2,l3⟩:=hl;rw[hqn]at l2 l3;have hfull:l.2.length=q.m:=S.order_full fg l2.nd l2.lt l2.sq l3;refine run ?_;refine J.ifn rfl (fun c=>absurd (by rw[l1,hfull]) c) (fun _=>?_);refine run ?_;refine J.front (shW q0) ?_;refine J.front (.blk b7 (shC q0) 25) ?_;refine J.drop (E:=[.blk b7 (shC q0) 25,shW q0, .iown 3 .i64 l.1.1 l.1.2.1 l.1.2.2 (S.castL l.2), .blk b5 (grC q) 61, .gown opC 11 54 q.oa q.n q.oc q.zs, .all (q.zs.map (opE 27)), .wown 27 .u8 32 q.ia q.m q.ic q.ids, .blk b2 (shC s) 25]) sb ?_;refine J.loop (A:=AdS) (fun p=>[(10, .int .i64 (p.i:Nat))]) [4,11,12,13,69,70,71,72,73,74,75,76,77,78,79,80,81,82,83,84,85,86,87,88,89,90,91,92,93,94,95,96,97,98,99,100,101,102,103] (fun p=>[.blk b7 (shC p.t) 25,shW p.t, .iown 3 .i64 l.1.1 l.1.2.1 l.1.2.2 (S.castL l.2), .blk b5 (grC q) 61, .gown opC 11 54 q.oa q.n q.oc q.zs, .all (q.zs.map (opE 27)), .wown 27 .u8 32 q.ia q.m q.ic q.ids, .blk b2 (shC s) 25]) (fun p=>p.i≤l.2.length∧S.PartG q.P l.2 p.i p.P∧ShK (S.madeS p.P k) p.t) (fun p=>l.2.length - p.i) ⟨0,q0, .nil⟩ (by kernel_rfl) ⟨Nat.zero_le _,S.part_zero _ _,hq0⟩ (fun p j hI=>?_);obtain⟨hI1,hI2,ht⟩:=hI;obtain⟨t1,t2⟩:=ht.sz (Nat.le_trans hI2.fine.le (by decide)) hk4.2;have htL:=ht.L hI2.fine;refine run ?_;refine J.ifd rfl (fun d1=>?_) (fun d1=>?_)
 ·have hlt:p.i<l.2.length:=by omega
  obtain⟨e1,e2,e3⟩:=S.part_add fg l2.nd l2.lt l2.sq hI2 hlt;have hm:l.2.getD p.i 0<q.m:=l2.lt _ (S.getD_mem hlt);have hci:((l.2.getD p.i 0:Nat):Int)=(S.castL l.2).getD ((p.i:Nat):Int).toNat 0:=by rw[Int.toNat_natCast,S.castL_get]
  have hzl:q.zs.length=q.n:=by
   have:=hq.n;rw[this,←hq.ops];unfold GrA.ops;rw[List.length_map]
  obtain⟨z,hzz⟩:∃z,q.zs[((l.2.getD p.i 0:Nat):Int).toNat]? =some z:=⟨_,List.getElem?_eq_getElem (by rw[Int.toNat_natCast];omega)⟩
  have hzo:=GrA.opAt hzz;rw[Int.toNat_natCast]at hzo;have hzo:q.P.ops.getD (l.2.getD p.i 0) S.OpV.zero=z.o:=hzo;rw[hzo]at e1 e2 e3;have e4:S.addI p.P z.o=elt 32 q.ids (l.2.getD p.i 0):=e2;have ai:Arr .u8 32 (elt 32 q.ids (l.2.getD p.i 0)):=e4▸S.addI_arr p.P z.o;obtain⟨f1,f2,f3⟩:=S.pu_made (o:=z.o) hI2.fine hk4;rw[←ht.V]at f1 f2 f3;have f3:=f3 e1;refine run ?_;refine J.joinX (A:=ShA×Nat×Nat) (fun u=>[(11, .pointer (some ⟨u.2.1,0,none⟩)),(12, .pointer (some ⟨u.2.2,0,none⟩)),(13, .int .i64 0)]) [75,76,77,78,79,80,81,82,83,84,85,86,87,88] (fun u=>[.blk u.2.2 (ints .u8 (elt 32 q.ids (l.2.getD p.i 0))) 27, .blk u.2.1 (shC u.1) 25,shW u.1, .blk b7 (shC p.t) 25, .iown 3 .i64 l.1.1 l.1.2.1 l.1.2.2 (S.castL l.2), .blk b5 (grC q) 61, .gown opC 11 54 q.oa q.n q.oc q.zs, .all (q.zs.map (opE 27)), .wown 27 .u8 32 q.ia q.m q.ic q.ids, .blk b2 (shC s) 25]) (fun u=>ShK (S.madeS (S.addP p.P z.o) k) u.1) ?_ (fun u j3 hu3=>?_)
  ·refine J.regionW [.blk b7 (shC p.t) 25, .iown 3 .i64 l.1.1 l.1.2.1 l.1.2.2 (S.castL l.2), .blk b5 (grC q) 61, .gown opC 11 54 q.oa q.n q.oc q.zs, .all (q.zs.map (opE 27)), .wown 27 .u8 32 q.ia q.m q.ic q.ids, .blk b2 (shC s) 25] mixed ?_;refine J.wnode [(0, .q),(1, .q),(2, .q),(3, .q),(4, .q),(5, .q),(6, .q),(7, .q),(8, .q)] [9,14,15] 9 #[true,true,true,true,true,true,true,true,true,false,false,false,false,false,false,false,false,false,false] (by kernel_rfl) ?_;refine run ?_;refine J.nil ?_;refine J.wbr ?_ ?_
   ·refine J.call rfl rfl (fun w' M=>shPutW p.t z TK w' (K0.ext M.ext) (ShR.ownB ht.k t1 t2 w' M) htL ((GrR.own hqok hq.cap hqs w' M).op hzz) (f1.trans e1) (f2.trans e4) f3) fun r hr=>?_
    refine J.nil ?_;refine J.wnode [(10, .q),(11, .q),(12, .q),(13, .q)] [14,15] 4 #[true,true,true,true,true,true,true,true,true,true,true,true,true,true,false,false,false,false,false] (by kernel_rfl) ?_;refine run ?_;refine J.nil ?_;refine J.wbr ?_ ?_
    ·refine J.alloc rfl fun bg=>?_
     refine J.nil ?_;refine J.wfin [(15, .e),(16, .e),(17, .e),(18, .q)] (by kernel_rfl) ?_;refine run ?_;refine J.alloc rfl fun bi=>?_
     refine run ?_;refine run ?_;refine run ?_;refine J.front (shW r) ?_;refine J.front (.blk bg (shC r) 25) ?_;refine J.front (.blk bi (ints .u8 (elt 32 q.ids (l.2.getD p.i 0))) 27) ?_;exact J.cut (r,bg,bi) ⟨rfl,rfl,rfl,trivial⟩ (by kernel_rfl) hr
    refine J.wbr ?_ ?_
    ·refine J.alloc rfl fun bi=>?_
     refine J.nil ?_;refine J.wfin [(14, .e),(16, .e),(17, .e),(18, .q)] (by kernel_rfl) ?_;refine run ?_;refine J.alloc rfl fun bg=>?_
     refine run ?_;refine run ?_;refine run ?_;refine J.front (shW r) ?_;refine J.front (.blk bg (shC r) 25) ?_;refine J.front (.blk bi (ints .u8 (elt 32 q.ids (l.2.getD p.i 0))) 27) ?_;exact J.cut (r,bg,bi) ⟨rfl,rfl,rfl,trivial⟩ (by kernel_rfl) hr
    exact J.wbr0
   refine J.wbr ?_ ?_
   ·refine J.alloc rfl fun bg=>?_
    refine J.nil ?_;refine J.wnode [] [9,15] 8 #[true,true,true,true,true,true,true,true,true,false,false,false,false,false,true,false,false,false,false] (by kernel_rfl) ?_;refine run ?_;refine J.nil ?_;refine J.wbr ?_ ?_
    ·refine J.call rfl rfl (fun w' M=>shPutW p.t z TK w' (K0.ext M.ext) (ShR.ownB ht.k t1 t2 w' M) htL ((GrR.own hqok hq.cap hqs w' M).op hzz) (f1.trans e1) (f2.trans e4) f3) fun r hr=>?_
     refine J.nil ?_;refine J.wfin [(10, .q),(11, .q),(12, .q),(13, .q),(15, .e),(16, .e),(17, .e),(18, .q)] (by kernel_rfl) ?_;refine run ?_;refine J.alloc rfl fun bi=>?_
     refine run ?_;refine run ?_;refine run ?_;refine J.front (shW r) ?_;refine J.front (.blk bg (shC r) 25) ?_;refine J.front (.blk bi (ints .u8 (elt 32 q.ids (l.2.getD p.i 0))) 27) ?_;exact J.cut (r,bg,bi) ⟨rfl,rfl,rfl,trivial⟩ (by kernel_rfl) hr
    refine J.wbr ?_ ?_
    ·refine J.alloc rfl fun bi=>?_
     refine J.nil ?_;refine J.wfin [(9, .e),(10, .q),(11, .q),(12, .q),(13, .q),(16, .e),(17, .e),(18, .q)] (by kernel_rfl) ?_;refine run ?_;refine J.call rfl rfl (fun w' M=>shPutW p.t z TK w' (K0.ext M.ext) (ShR.ownB ht.k t1 t2 w' M) htL ((GrR.own hqok hq.cap hqs w' M).op hzz) (f1.trans e1) (f2.trans e4) f3) fun r hr=>?_
     refine run ?_;refine run ?_;refine run ?_;refine J.front (shW r) ?_;refine J.front (.blk bg (shC r) 25) ?_;refine J.front (.blk bi (ints .u8 (elt 32 q.ids (l.2.getD p.i 0))) 27) ?_;exact J.cut (r,bg,bi) ⟨rfl,rfl,rfl,trivial⟩ (by kernel_rfl) hr
    exact J.wbr0
   refine J.wbr ?_ ?_
   ·refine J.alloc rfl fun bi=>?_
    refine J.nil ?_;refine J.wnode [] [9,14] 8 #[true,true,true,true,true,true,true,true,true,false,false,false,false,false,false,true,false,false,false] (by kernel_rfl) ?_;refine run ?_;refine J.nil ?_;refine J.wbr ?_ ?_
    ·refine J.call rfl rfl (fun w' M=>shPutW p.t z TK w' (K0.ext M.ext) (ShR.ownB ht.k t1 t2 w' M) htL ((GrR.own hqok hq.cap hqs w' M).op hzz) (f1.trans e1) (f2.trans e4) f3) fun r hr=>?_
     refine J.nil ?_;refine J.wfin [(10, .q),(11, .q),(12, .q),(13, .q),(14, .e),(16, .e),(17, .e),(18, .q)] (by kernel_rfl) ?_;refine run ?_;refine J.alloc rfl fun bg=>?_
     refine run ?_;refine run ?_;refine run ?_;refine J.front (shW r) ?_;refine J.front (.blk bg (shC r) 25) ?_;refine J.front (.blk bi (ints .u8 (elt 32 q.ids (l.2.getD p.i 0))) 27) ?_;exact J.cut (r,bg,bi) ⟨rfl,rfl,rfl,trivial⟩ (by kernel_rfl) hr
    refine J.wbr ?_ ?_
    ·refine J.alloc rfl fun bg=>?_
     refine J.nil ?_;refine J.wfin [(9, .e),(10, .q),(11, .q),(12, .q),(13, .q),(16, .e),(17, .e),(18, .q)] (by kernel_rfl) ?_;refine run ?_;refine J.call rfl rfl (fun w' M=>shPutW p.t z TK w' (K0.ext M.ext) (ShR.ownB ht.k t1 t2 w' M) htL ((GrR.own hqok hq.cap hqs w' M).op hzz) (f1.trans e1) (f2.trans e4) f3) fun r hr=>?_
     refine run ?_;refine run ?_;refine run ?_;refine J.front (shW r) ?_;refine J.front (.blk bg (shC r) 25) ?_;refine J.front (.blk bi (ints .u8 (elt 32 q.ids (l.2.getD p.i 0))) 27) ?_;exact J.cut (r,bg,bi) ⟨rfl,rfl,rfl,trivial⟩ (by kernel_rfl) hr
    exact J.wbr0
   exact J.wbr0
  obtain⟨r,b11,b12⟩:=u;clear e2 e4 f1 f2 f3;have ai2:Arr .u8 32 (elt 32 q.ids ((l.2.getD p.i 0:Nat):Int).toNat):=ai;dsimp only at hu3⊢;refine run ?_;refine J.regionX [(0, .q),(1, .q),(2, .q),(3, .q),(4, .q),(5, .q),(6, .q),(7, .q),(8, .q),(9, .q),(10, .q),(11, .q),(12, .q),(13, .q)] mixed (by kernel_rfl) ?_;refine run ?_;refine J.ifd rfl (fun c=>?_) (fun _=>?_)
  ·rw[Int.toNat_natCast]at c;exact absurd rfl c
  refine run ?_;refine J.front (shW r) ?_;refine J.front (.blk b7 (shC r) 25) ?_;exact J.next ⟨p.i+1,r,S.addP p.P z.o⟩ ⟨rfl,trivial⟩ (by kernel_rfl) ⟨by dsimp only;omega,e3,hu3⟩ (by dsimp only;omega)
 have hpi:p.i=l.2.length:=by omega
 rw[hpi]at hI2;have hend:=S.part_all fg l2.nd l2.lt (by rw[hfull];exact Nat.le_refl _) hI2;rw[hend]at ht;obtain⟨i,t,P⟩:=p;dsimp only at ht t1 t2 htL hpi⊢;clear hI2 hend hI1;obtain⟨ok2,ew⟩:=S.ok_made (g:=q.P) (n:=k) fg hk4;rw[←ht.V]at ok2 ew;have htl:t.gs.length=k:=by
  have e:(t.gs.map GrA.P).length=(S.madeS q.P k).ps.length:=congrArg (fun v:S.ShV=>v.ps.length) ht.V;rw[S.made_len,List.length_map]at e;exact e
 have hgp:∀i g,t.gs[i]? =some g→g.P=S.prtS q.P k i∧i<k:=fun i g hg=>by
  have hi:i<t.gs.length:=(List.getElem?_eq_some_iff.1 hg).1;have e:t.gs.map GrA.P=(S.madeS q.P k).ps:=congrArg S.ShV.ps ht.V;have e2:=S.made_at (g:=q.P) (n:=k) (i:=i) (by omega);rw[←e,List.getD_eq_getElem?_getD,List.getElem?_map,hg]at e2;exact⟨e2,by omega⟩
 have hvl:t.V.ps.length=k:=by rw[ht.V,S.made_len]
 refine J.know (fun w M=>(show t.gs.length=t.pn∧∀g∈t.gs,∀i,i<g.m→Arr .u8 32 (elt 32 g.ids i)from⟨(ShR.ownB ht.k t1 t2 w M).pr.len,fun g hg i hi=>((ShR.ownB ht.k t1 t2 w M).gi g hg).ids.elt_arr hi⟩)) (fun hkn=>?_);obtain⟨hpn,hai⟩:=hkn;refine run ?_;refine J.loopS (A:=Nat) (fun i=>[(14, .int .i64 (i:Nat))]) [4,15,16,17,104,105,106,107,108,109,110,111,112,113,114,115,116,117,118,119,120,121,122,123,124,125,126,127,128,129,130,131,132,133,134,135,136,137,138,139,140,141,142] (fun i=>i≤t.pn) (fun i=>t.pn - i) 0 (by kernel_rfl) (Nat.zero_le _) (fun i j hI=>?_);refine run ?_;refine J.ifd rfl (fun d1=>?_) (fun d1=>?_)
 ·obtain⟨g,hg⟩:∃g,t.gs[i]? =some g:=⟨_,List.getElem?_eq_getElem (by omega)⟩
  have hg2:t.gs[((i:Nat):Int).toNat]? =some g:=by rw[Int.toNat_natCast];exact hg
  have hgm:=(t1 g (List.mem_of_getElem? hg)).1;refine run ?_;refine J.loopS (A:=Nat) (fun m=>[(15, .int .i64 (m:Nat))]) [4,16,17,111,112,113,114,115,116,117,118,119,120,121,122,123,124,125,126,127,128,129,130,131,132,133,134,135,136,137,138,139,140,141,142] (fun m=>m≤g.m) (fun m=>g.m - m) 0 (by kernel_rfl) (Nat.zero_le _) (fun m j hI=>?_);refine run ?_;refine J.idxG rfl rfl (fun w M=>⟨_,(ShR.ownB ht.k t1 t2 w M).pr⟩) ?_;refine J.flG rfl (fun w M=>⟨_,(ShR.ownB ht.k t1 t2 w M).pr⟩) ?_;refine J.ldGf rfl (fun w M=>⟨_,(ShR.ownB ht.k t1 t2 w M).pr⟩) ?_;refine run ?_;refine J.ifd rfl (fun d2=>?_) (fun d2=>?_)
  ·have hm:m<g.m:=by omega
   have ax:=hai g (List.mem_of_getElem? hg) m hm;have hnum:S.nbO t.V (elt 32 g.ids m)=(i:Nat):=by
    have e:=(hgp i g hg).1;have hh:(S.prtS q.P k i).has (elt 32 g.ids m) (g.ops.getD m S.OpV.zero):=e▸(⟨m,hm,rfl,rfl⟩:g.P.has (elt 32 g.ids m) (g.ops.getD m S.OpV.zero));rw[S.nb_0 ok2,hvl];exact(((S.prt_all fg.good fg.rising).2.2 _ _).1 hh).2
   have ax2:Arr .u8 32 (elt 32 g.ids ((m:Nat):Int).toNat):=ax;refine run ?_;refine J.regionX [(0, .q),(1, .q),(2, .q),(3, .q),(4, .q),(5, .q),(6, .q),(7, .q),(8, .q),(9, .q),(10, .e),(11, .q),(12, .q),(13, .q),(14, .q),(15, .q)] mixed (by kernel_rfl) ?_;refine run ?_;refine J.idxG rfl rfl (fun w M=>⟨_,(ShR.ownB ht.k t1 t2 w M).pr⟩) ?_;refine J.flG rfl (fun w M=>⟨_,(ShR.ownB ht.k t1 t2 w M).pr⟩) ?_;refine J.ldGf rfl (fun w M=>⟨_,(ShR.ownB ht.k t1 t2 w M).pr⟩) ?_;refine run ?_;refine J.idxW rfl rfl (fun w M=>⟨_,((ShR.ownB ht.k t1 t2 w M).g hg).ids⟩) ?_;refine J.ldW (i:=((m:Nat):Int)) rfl (fun w M=>⟨_,((ShR.ownB ht.k t1 t2 w M).g hg).ids⟩) ?_;refine run ?_;refine J.callp rfl rfl (fun w' M=>shNum t _ TK w' (K0.ext M.ext) (ShR.ownB ht.k t1 t2 w' M) htL ax2) ?_;rw[S.chkH_0 ok2,Int.toNat_natCast m,hnum];refine run ?_;refine J.ifn rfl (fun c=>absurd rfl c) (fun _=>?_);refine run ?_;exact J.nextS (m+1) ⟨rfl,trivial⟩ (by kernel_rfl) (by omega) (by omega)
  refine run ?_;exact J.nextS (i+1) ⟨rfl,trivial⟩ (by kernel_rfl) (by omega) (by omega)
 refine run ?_;refine J.call rfl rfl (fun w' M=>shAll t TK w' (K0.ext M.ext) (ShR.ownB ht.k t1 t2 w' M) htL) fun u hu=>?_
 rw[S.al_0 ok2,ew]at hu;rw[S.chkH_0 ok2];dsimp only[grE,List.cons_append,List.nil_append];refine run ?_;refine J.alloc rfl fun b18=>?_
 refine run ?_;refine J.call rfl rfl (fun w' M=>shHeads s TK w' (K0.ext M.ext) (H.ext M.ext) hL) fun x1 hx1=>?_
 obtain⟨xa,xn,xc⟩:=x1;dsimp only at hx1⊢;rw[S.chkH_0 hok,hd1,hd2];refine run ?_;refine J.call rfl rfl (fun w' M=>shHeads t TK w' (K0.ext M.ext) (ShR.ownB ht.k t1 t2 w' M) htL) fun x2 hx2=>?_
 obtain⟨ya,yn,yc⟩:=x2;dsimp only at hx2⊢;have hd3:S.hdL t.V=S.hdI q.P:=by rw[(S.hd_0 ok2).1,ht.V];rfl
 have hd4:S.hdV t.V=(q.P.m:Nat):=by rw[(S.hd_0 ok2).2,ht.V];rfl
 rw[S.chkH_0 ok2,hd3,hd4];refine run ?_;refine J.spe rfl rfl rfl (fun _=>?_) (fun c=>absurd (show(t.pn:Int)=k by omega) c);refine run ?_;have hus:u.m≤70∧u.n≤70:=hu.sz ⟨fg.good,fg.le⟩;have huok:=hu.ok (fun o ho=>hwo o (by rw[←hqP];exact ho));refine J.callp rfl rfl (fun w' M=>refGSame u q w' (GrR.own huok hu.cap hus w' M) (GrR.own hqok hq.cap hqs w' M)) ?_;rw[show decide (u.ids=q.ids∧u.ops=q.ops)=true from decide_eq_true ⟨hu.ids,hu.ops⟩];refine run ?_;refine J.callp rfl rfl (fun w' M=>(RW.row' (a:=xa) w' M).elim fun _ k1=>(RW.row' (a:=ya) w' M).elim fun _ k2=>sameIDs _ _ _ _ _ _ _ _ w' k1 k2 (by omega) (by omega)) ?_;rw[show decide (S.hdI q.P=S.hdI q.P)=true from decide_eq_true rfl];refine run ?_;refine J.spe rfl rfl rfl (fun _=>?_) (fun c=>absurd rfl c);refine run ?_;refine J.callp rfl rfl (fun w' M=>shAlive TK w' (K0.ext M.ext)) ?_;refine run ?_;exact J.fin rfl
end W
end Go.Proofs.YtkmgnmebadghbaaGreatDoor
