/-
  Part 8 of the lemmas of these laws: TopDag.
-/
import Derived.Test.YtjjbdaiioociaaaGreatDoorPTd7
set_option linter.unusedVariables false
set_option linter.unusedSimpArgs false
open Go.Proofs.Tryz
namespace Go.Proofs.YtjjbdaiioociaaaGreatDoor
namespace W
open Go.RowKit G
set_option maxRecDepth 20000
set_option maxHeartbeats 8000000
attribute [local irreducible] RS RX RY Code.wp bodyPost J Ent.blk Ent.iown Ent.wrow Ent.wown Ent.gown Ent.all Ent.emp
instance:Fld prog 65 1 1:=⟨_,_,1,underlying65,rfl,by kernel_rfl,by decide,rfl⟩
instance:Sca prog 62:=⟨_,underlying62,rfl⟩
instance:Und prog 62 (.slice 34):=⟨underlying62⟩
instance:Und prog 59 (.slice 3):=⟨underlying59⟩
instance:Inf prog 3 1 8 [.int .i64 0]:=⟨TI.of (v:= .int .i64 0) (by kernel_rfl) rfl⟩
instance:Siz prog 3 1:=⟨by kernel_rfl⟩
instance:Und prog 160 (.slice 59):=⟨underlying160⟩
instance:Inf prog 59 1 24 [.slice none 0 0]:=⟨TI.of (v:= .slice none 0 0) (by kernel_rfl) rfl⟩
instance:Siz prog 59 1:=⟨by kernel_rfl⟩
instance:Siz prog 34 11:=⟨by kernel_rfl⟩
instance:Agg prog 34 11:=⟨_,underlying34,rfl,by kernel_rfl⟩
instance:Inf prog 34 11 112 [.int .u32 0, .slice none 0 0, .int .u64 0, .int .u8 0, .string .empty, .int .u8 0, .int .i64 0, .int .u64 0, .string .empty, .int .u32 0, .int .u32 0]:=⟨TI.of (v:= .agg #[.int .u32 0, .slice none 0 0, .int .u64 0, .int .u8 0, .string .empty, .int .u8 0, .int .i64 0, .int .u64 0, .string .empty, .int .u32 0, .int .u32 0]) (by kernel_rfl) rfl⟩
instance:Fld prog 34 1 1:=⟨_,_,1,underlying34,rfl,by kernel_rfl,by decide,rfl⟩
instance:Inf prog 23 32 32 (ints .u8 (List.replicate 32 0)):=⟨TI.of (v:= .agg ((ints .u8 (List.replicate 32 0))).toArray) (by kernel_rfl) rfl⟩
instance:Agg prog 65 2:=⟨_,underlying65,rfl,by kernel_rfl⟩
instance:Ents prog 86:=⟨.mk func86 (by kernel_rfl) rfl⟩
instance:Sca prog 59:=⟨_,underlying59,rfl⟩
instance:Sca prog 3:=⟨_,underlying3,rfl⟩
structure ShP where
 (i:Int)(ws rs:List Int)(qs:List Pc)(a:Option Addr)(n c:Nat)
theorem dagShape{S0:Nat→Prop}(g:GrA)(w:World)(G:GrR S0 w g)(he:g.m=g.n)(hn:g.n≤60):
  Calls prog 46 #[.agg (grC g).toArray] w (Ret w fun v _=>v= .int .i64 (S.shapeS g.m g.ids g.ops)):=by
 have D0:=G.ids;have G0:=G.ops;have hl:=G.len;obtain⟨P,hP⟩:=ex (S.prS g.m g.ids g.ops);have hPl:∀i,(P i).length=(g.ops.getD i S.OpV.zero).n:=fun i=>by rw[hP,S.prS_len]
 have hPg:∀i j,j<(g.ops.getD i S.OpV.zero).n→(P i).getD j 0=S.ixS g.m g.ids (S.idAt (g.ops.getD i S.OpV.zero).ids j):=fun i j h=>by rw[hP,S.prS_get _ _ _ _ _ h]
 have hn20:∀i,(g.ops.getD i S.OpV.zero).n≤40:=fun i=>by
  rw[List.getD_eq_getElem?_getD];cases h:g.ops[i]? with
  |none=>exact Nat.zero_le _
  |some o=>
   unfold GrA.ops at h;rw[List.getElem?_map]at h;obtain⟨z,hz,rfl⟩:=Option.map_eq_some_iff.1 h;exact(G.ok z (List.mem_of_getElem? hz)).n
 refine J.enter 132 func46 rfl rfl ?_;refine run ?_;refine J.box rfl rfl rfl fun b1=>?_
 refine run ?_;refine J.loopS (A:=Int) (fun p=>[(3, .int .i64 p)]) [2,16,17,18,19,20,21,22,23,24,25,26,27,28,29,30,31,32,33,34,35] (fun p=>1≤p∧(p≤g.m∨p=1)∧S.RisS g.ids p.toNat) (fun p=>(g.m+1 - p).toNat) 1 (by kernel_rfl) ⟨by decide, .inr rfl,fun k hk=>by omega⟩ (fun p j hI=>?_);obtain⟨h1,h2,h3⟩:=hI;refine run ?_;refine J.ifd rfl (fun c1=>?_) (fun c1=>?_)
 ·refine run ?_;refine J.regionX [(0, .q),(1, .q),(2, .q),(3, .q),(4, .q),(5, .q),(6, .q),(7, .q),(8, .q),(9, .q),(10, .q),(11, .e),(12, .q)] mixed (by kernel_rfl) ?_;refine run ?_;refine J.callp rfl rfl (fun w' M=>dcmp _ _ (D0.elt_arr (by omega)) (D0.elt_arr (by omega)) w') ?_;refine run ?_;have e:p.toNat=(p - 1).toNat+1:=by omega
  refine J.ifd rfl (fun c2=>?_) (fun c2=>?_)
  ·refine run ?_;refine J.fin ?_;rw[S.shape_32 (i:=(p - 1).toNat) (by omega) (by rw[e]at c2;exact c2)]
  refine run ?_;refine J.nextS (p+1) ⟨rfl,trivial⟩ (by kernel_rfl) ⟨by omega, .inl (by omega),fun k hk=>?_⟩ (by omega);by_cases hk2:k+1<p.toNat
  ·exact h3 k hk2
  obtain rfl:k=(p - 1).toNat:=by omega
  rw[e]at c2;exact Int.not_le.1 c2
 have hr:S.Rising g.m g.ids:=fun i hi=>h3 i (by omega);refine run ?_;refine J.mkI rfl rfl rfl fun bw=>?_
 refine run ?_;refine J.mkG pcC default (fun _=>rfl) rfl rfl rfl rfl fun bb=>?_
 refine run ?_;refine J.nilI 3 .i64 ?_;refine J.newA ((List.replicate g.n default).map (pcE 3 .i64)) ?_ fun w=>sep_nils _ _ _ _;refine J.loop (A:=ShP) (fun p=>[(6, .slice p.a p.n p.c),(47, .int .i64 p.i)]) [2,7,8,10,11,12,48,49,50,51,52,53,54,55,56,57,58,59,60,61,62,63,64,65,66,67,68,69,70,71,72,73,74,75,76,77,78,79,80,81,82,83,84,85,86,87,88,89,90,91,92,93] (fun p=>[.all (p.qs.map (pcE 3 .i64)), .iown 3 .i64 p.a p.n p.c p.rs, .gown pcC 1 59 (some ⟨bb,0,none⟩) g.n g.n p.qs, .iown 3 .i64 (some ⟨bw,0,none⟩) g.n g.n p.ws, .blk b1 (grC g) 65])
  (fun p=>(0≤p.i∧p.i≤g.n)∧S.ShQ P g.n p.i.toNat 0 p.qs∧S.ShW P g.n p.i.toNat p.ws∧p.rs=S.castL (S.zeroP P p.i.toNat)∧p.n=p.rs.length∧∀k,k<p.i.toNat→S.allI g.m g.ids (g.ops.getD k S.OpV.zero).n (g.ops.getD k S.OpV.zero).ids)
  (fun p=>g.n - p.i.toNat) ⟨0,List.replicate g.n 0,[],List.replicate g.n default,none,0,0⟩ (by kernel_rfl) ⟨by dsimp only;omega,S.ShQ.first _ _,S.ShW.first _ _,rfl,rfl,fun k hk=>by simp at hk⟩ (fun p j hI=>?_)
 obtain⟨i1,iq,iw,ir,il,io⟩:=hI;refine run ?_;refine J.ifd rfl (fun c2=>?_) (fun c2=>?_)
 ·obtain⟨z,hz⟩:=G0.ex (i:=p.i) (by omega);have R:=G.op hz;have hzo:=GrA.opAt hz;have h20:=R.ok.n;have hPz:=hPl p.i.toNat;rw[hzo]at hPz;refine run ?_;refine J.alloc rfl fun b2=>?_
  refine run ?_;refine J.loop (A:=Int×List Pc) (fun p2=>[(55, .int .i64 p2.1)]) [2,10,11,12,56,57,58,59,60,61,62,63,64,65,66,67,68,69,70,71,72,73,74,75,76,77] (fun p2=>[.blk b2 (opC z) 34, .all (p2.2.map (pcE 3 .i64)), .iown 3 .i64 p.a p.n p.c p.rs, .gown pcC 1 59 (some ⟨bb,0,none⟩) g.n g.n p2.2, .iown 3 .i64 (some ⟨bw,0,none⟩) g.n g.n p.ws, .blk b1 (grC g) 65])
   (fun p2=>(0≤p2.1∧p2.1≤z.o.n)∧S.ShQ P g.n p.i.toNat p2.1.toNat p2.2∧∀k,k<p2.1.toNat→S.inS g.m g.ids (S.idAt z.o.ids k)) (fun p2=>z.o.n - p2.1.toNat) (0,p.qs) (by kernel_rfl) ⟨by dsimp only;omega,iq,fun k hk=>by simp at hk⟩ (fun p2 j2 hI2=>?_)
  obtain⟨k1,kq,ki⟩:=hI2;have D1:=R.row;refine run ?_;refine J.ifd rfl (fun c3=>?_) (fun c3=>?_)
  ·refine run ?_;refine J.alloc rfl fun b3=>?_
   have hx:=D1.elt_arr (i:=p2.1.toNat) (by omega);refine run ?_;refine J.callp rfl rfl (fun w' M=>dagFind g _ w' (D0.ext M.ext) hx hr (by omega)) ?_;refine run ?_;refine J.ifnot rfl (fun c4=>?_) (fun c4=>?_)
   ·refine run ?_;refine J.fin ?_;rw[S.shape_40 (i:=p.i.toNat) (j:=p2.1.toNat) hr (by omega) (by rw[hzo];omega) (by rw[hzo];exact of_decide_eq_false c4)]
   have hin:=of_decide_eq_true c4;have hlt:=((S.spotS_has hr).1 hin).1;have hat:=S.spotS_ix hr hin;obtain⟨q,hq⟩:=kq.get (a:=S.spotS g.m g.ids (elt 32 z.o.ids p2.1.toNat)) (by omega);refine run ?_;refine J.b1 rfl rfl fun b4=>?_
   refine J.openP 3 .i64 p2.2 hq ?_;have hbl:=S.behJ_len P p.i.toNat p2.1.toNat (S.spotS g.m g.ids (elt 32 z.o.ids p2.1.toNat)) 40 (fun i=>by rw[hPl];exact hn20 i);have hqx:=kq.xs _ _ hq;have hqn:q.n≤40*61:=by
    rw[hqx.2,hqx.1,S.castL_len];have:p.i.toNat+1≤61:=by omega
    omega
   refine J.apI rfl rfl RI.own' fun a' c'=>?_
   refine run ?_;refine J.stG1 rfl rfl (q:=⟨a',q.n+1,c',q.xs++[p.i]⟩) rfl ?_;refine J.shutP 3 .i64 p2.2 (S.spotS g.m g.ids (elt 32 z.o.ids p2.1.toNat)) ⟨a',q.n+1,c',q.xs++[p.i]⟩ (by rw[kq.len];omega) ?_;refine run ?_;refine J.next (p2.1+1,p2.2.set (S.spotS g.m g.ids (elt 32 z.o.ids p2.1.toNat)) ⟨a',q.n+1,c',q.xs++[p.i]⟩) ⟨rfl,trivial⟩ (by kernel_rfl) ?_ (by dsimp only;omega);have e1:(p2.1+1).toNat=p2.1.toNat+1:=by omega
   have e2:p.i=(p.i.toNat:Nat):=by omega
   refine⟨by dsimp only;omega,?_,fun k hk=>?_⟩
   ·dsimp only;rw[e1,e2];exact kq.step (by omega) hq (by rw[hPg _ _ (by rw[hzo];omega),hzo];exact hat) a' c'
   dsimp only at hk;rcases Nat.lt_or_ge k p2.1.toNat with h|h
   ·exact ki k h
   obtain rfl:k=p2.1.toNat:=by omega
   exact hin
  have hj:(P p.i.toNat).length≤p2.1.toNat:=by omega
  have e1:(p.i+1).toNat=p.i.toNat+1:=by omega
  have e2:((P p.i.toNat).length:Int)=z.o.n:=by omega
  have hws:=iw.step (by omega);rw[e2]at hws;have hzs:=S.zeroP_succ P p.i.toNat;have hop:∀k,k<p.i.toNat+1→S.allI g.m g.ids (g.ops.getD k S.OpV.zero).n (g.ops.getD k S.OpV.zero).ids:=fun k hk=>by
   rcases Nat.lt_or_ge k p.i.toNat with h|h
   ·exact io k h
   obtain rfl:k=p.i.toNat:=by omega
   rw[hzo];exact fun j hj=>ki j (by omega)
  refine run ?_;have hg:=S.set_get p.ws p.i.toNat p.i.toNat (z.o.n:Int) (by rw[iw.len];omega);rw[if_pos rfl]at hg;have hzl:(S.zeroP P p.i.toNat).length≤p.i.toNat:=by
   have:=List.length_filter_le (fun k=>decide ((P k).length=0)) (List.range p.i.toNat);rw[List.length_range]at this;exact this
  have hpl:p.n≤60:=by rw[il,ir,S.castL_len];omega
  refine J.ife rfl (fun c4=>?_) (fun c4=>?_)
  ·rw[hg]at c4;refine run ?_;refine J.b1 rfl rfl fun b4=>?_
   refine J.apI rfl rfl RI.own' fun a' c'=>?_
   refine run ?_;refine J.next ⟨p.i+1,p.ws.set p.i.toNat z.o.n,p.rs++[p.i],p2.2,a',p.n+1,c'⟩ ⟨rfl,rfl,trivial⟩ (by kernel_rfl) ?_ (by dsimp only;omega);dsimp only;rw[e1];refine⟨by omega,kq.next hj,hws,?_,by rw[il];simp,hop⟩;rw[hzs,if_pos (by omega),S.castL_snoc,ir];congr 2;omega
  rw[hg]at c4;refine run ?_;refine J.next ⟨p.i+1,p.ws.set p.i.toNat z.o.n,p.rs,p2.2,p.a,p.n,p.c⟩ ⟨rfl,rfl,trivial⟩ (by kernel_rfl) ?_ (by dsimp only;omega);dsimp only;rw[e1];exact⟨by omega,kq.next hj,hws,by rw[hzs,if_neg (by omega),ir],il,hop⟩
 have ei:p.i.toNat=g.n:=by omega
 rw[ei]at iq iw ir io;have K0:=iw.kahn;have hop:S.opensS g.m g.ids g.ops:=fun k hk=>io k (by omega);refine run ?_;refine J.loop (A:=ShP) (fun p=>[(6, .slice p.a p.n p.c),(13, .int .i64 p.i)]) [15,94,95,96,97,98,99,100,101,102,103,104,105,106,107,108,109,110,111,112,113,114,115,116,117,118,119,120,121,122,123,124,125,126,127] (fun p'=>[.all (p.qs.map (pcE 3 .i64)), .iown 3 .i64 p'.a p'.n p'.c p'.rs, .gown pcC 1 59 (some ⟨bb,0,none⟩) g.n g.n p.qs, .iown 3 .i64 (some ⟨bw,0,none⟩) g.n g.n p'.ws, .blk b1 (grC g) 65])
  (fun p'=>0≤p'.i∧p'.ws.length=g.n∧∃rd,p'.rs=S.castL rd∧p'.n=rd.length∧S.Kahn P g.n (S.wtS p'.ws) rd p'.i.toNat) (fun p'=>g.n - p'.i.toNat) ⟨0,p.ws,p.rs,[],p.a,p.n,p.c⟩ (by kernel_rfl) ⟨Int.le_refl _,iw.len,_,ir,by rw[il,ir,S.castL_len],K0⟩ (fun p3 j3 hI3=>?_)
 obtain⟨m1,m2,rd,m3,m4,m5⟩:=hI3;have m6:=m5.le;have m7:=m5.dl;refine run ?_;refine J.ifd rfl (fun c3=>?_) (fun c3=>?_)
 ·have hd:p3.i.toNat<rd.length:=by omega
  obtain⟨r0,hr0⟩:=ex (p3.rs.getD p3.i.toNat 0);obtain⟨kk,hkk⟩:=ex (rd.getD p3.i.toNat 0);have hv:r0=kk:=by rw[hr0,m3,S.castL_get,hkk]
  have hkn:kk<g.n:=by rw[hkk];exact m5.lt _ (S.getD_mem hd)
  have hrk:r0.toNat=kk:=by omega
  obtain⟨q,hq⟩:=iq.get hkn;have hqx:=iq.xs _ _ hq;rw[S.behJ_zero]at hqx;have hql:q.n=(S.behS P g.n kk).length:=by rw[hqx.2,hqx.1,S.castL_len]
  have hqb:=S.behJ_len P g.n 0 kk 40 (fun i=>by rw[hPl];exact hn20 i);rw[S.behJ_zero]at hqb;have hq':p.qs[r0.toNat]? =some q:=by rw[hrk];exact hq
  have hr1:0≤r0∧r0<g.n:=by omega
  refine run ?_;refine J.loop (A:=ShP) (fun p=>[(6, .slice p.a p.n p.c),(108, .int .i64 p.i)]) [15,109,110,111,112,113,114,115,116,117,118,119,120,121,122,123,124,125,126,127] (fun p'=>[.all (p.qs.map (pcE 3 .i64)), .iown 3 .i64 p'.a p'.n p'.c p'.rs, .gown pcC 1 59 (some ⟨bb,0,none⟩) g.n g.n p.qs, .iown 3 .i64 (some ⟨bw,0,none⟩) g.n g.n p'.ws, .blk b1 (grC g) 65])
   (fun p'=>(0≤p'.i∧p'.i≤q.n)∧p'.ws.length=g.n∧∃rd,p'.rs=S.castL rd∧p'.n=rd.length∧S.KahnI P g.n (S.wtS p'.ws) rd p3.i.toNat p'.i.toNat∧kk=rd.getD p3.i.toNat 0) (fun p'=>q.n - p'.i.toNat) ⟨0,p3.ws,p3.rs,[],p3.a,p3.n,p3.c⟩ (by kernel_rfl) ⟨by dsimp only;omega,m2,rd,m3,m4,m5.enter hd,hkk⟩ (fun p4 j4 hI4=>?_)
  obtain⟨n1,n2,rd4,n3,n4,n5,n6⟩:=hI4;have n7:=n5.le;refine run ?_;refine J.ifd rfl (fun c4=>?_) (fun c4=>?_)
  ·obtain⟨x,hx⟩:=ex (q.xs.getD p4.i.toNat 0);have hxk:x=((S.behS P g.n kk).getD p4.i.toNat 0:Nat):=by rw[hx,hqx.1,S.castL_get]
   have ht:p4.i.toNat<(S.behS P g.n (rd4.getD p3.i.toNat 0)).length:=by rw[←n6];omega
   have hk0:x.toNat=(S.behS P g.n (rd4.getD p3.i.toNat 0)).getD p4.i.toNat 0:=by rw[←n6];omega
   obtain⟨o1,o2⟩:=n5.told ht hk0;have o3:=n5.down n2 ht hk0;obtain⟨wv,hwv⟩:=ex (p4.ws.getD x.toNat 0);have hwt:S.wtS p4.ws x.toNat=wv.toNat:=by rw[hwv];rfl
   have hx0:0≤x∧x<g.n:=by omega
   refine run ?_;refine J.idxI rfl rfl (RI.all (e:=3) (k:= .i64) hq) ?_;refine J.ldI rfl (RI.all (e:=3) (k:= .i64) hq) ?_;refine J.fact (.iown 3 .i64 (some ⟨bw,0,none⟩) g.n g.n p4.ws) (fun S w=>iown_bd) fun hbd=>?_
   have hwb:=hbd.get x.toNat;simp only[lim]at hwb;have hg:=S.set_get p4.ws x.toNat x.toNat (wv - 1) (by omega);rw[if_pos rfl]at hg;rw[←hwv]at hwb o3;have hdl:=n5.dl;refine run ?_;refine J.ife rfl (fun c5=>?_) (fun c5=>?_)
   ·rw[hg]at c5;rw[if_pos c5]at o3;refine run ?_;refine J.b1 rfl rfl fun b4=>?_
    refine J.apI rfl rfl RI.own' fun a' c'=>?_
    refine run ?_;refine J.next ⟨p4.i+1,p4.ws.set x.toNat (wv - 1),p4.rs++[x],[],a',p4.n+1,c'⟩ ⟨rfl,rfl,trivial⟩ (by kernel_rfl) ?_ (by dsimp only;omega);dsimp only;rw[show(p4.i+1).toNat=p4.i.toNat+1 by omega];refine⟨by omega,by rw[List.length_set];exact n2,rd4++[x.toNat],?_,by simp;exact n4,o3,?_⟩
    ·rw[S.castL_snoc,n3,show((x.toNat:Nat):Int)=x by omega]
    rw[S.getD_snoc,if_pos hdl];exact n6
   rw[hg]at c5;rw[if_neg c5]at o3;refine run ?_;refine J.next ⟨p4.i+1,p4.ws.set x.toNat (wv - 1),p4.rs,[],p4.a,p4.n,p4.c⟩ ⟨rfl,rfl,trivial⟩ (by kernel_rfl) ?_ (by dsimp only;omega);dsimp only;rw[show(p4.i+1).toNat=p4.i.toNat+1 by omega];exact⟨by omega,by rw[List.length_set];exact n2,rd4,n3,n4,o3,n6⟩
  have hlv:=n5.leave (by rw[←n6];omega);refine run ?_;refine J.next ⟨p3.i+1,p4.ws,p4.rs,[],p4.a,p4.n,p4.c⟩ ⟨rfl,rfl,trivial⟩ (by kernel_rfl) ?_ (by dsimp only;omega);dsimp only;rw[show(p3.i+1).toNat=p3.i.toNat+1 by omega];exact⟨by omega,n2,rd4,n3,n4,hlv⟩
 have hf:=m5.last (by omega);rw[hP,←hl]at hf;have hse:=S.shape_end hr hop hf;refine run ?_;refine J.ifd rfl (fun c4=>?_) (fun c4=>?_)
 ·refine run ?_;refine J.fin ?_;rw[hse,if_pos (by omega)]
 refine run ?_;refine J.fin ?_;rw[hse,if_neg (by omega)]
instance:Ents prog 44:=⟨.mk func44 (by kernel_rfl) rfl⟩
instance:Und prog 5 (.int .u8):=⟨underlying5⟩
instance:Siz prog 5 1:=⟨by kernel_rfl⟩
instance:Ents prog 43:=⟨.mk func43 (by kernel_rfl) rfl⟩
instance:Ents prog 46:=⟨.mk func46 (by kernel_rfl) rfl⟩
instance:Ents prog 78:=⟨.mk func78 (by kernel_rfl) rfl⟩
instance:Siz prog 25 1:=⟨by kernel_rfl⟩
instance:Ents prog 47:=⟨.mk func47 (by kernel_rfl) rfl⟩
instance:SInf prog 34 [(0,1),(1,1),(2,1),(3,6),(9,2)]:=⟨_,underlying34,by kernel_rfl,by kernel_rfl⟩
instance:Ents prog 88:=⟨.mk func88 (by kernel_rfl) rfl⟩
theorem dagCheck{S0:Nat→Prop}(g:GrA)(TK:TypeId)(w:World)(K0:Kst w TK)(G:GrR S0 w g):
  Calls prog 47 #[.agg (grC g).toArray] w (Ret w fun v _=>v= .int .i64 (S.chkG g.m g.ids g.ops)):=by
 have D0:=G.ids;have G0:=G.ops;have hl:=G.len;have hcp:=G.cap;refine J.enter 49 func47 rfl rfl ?_;refine run ?_;refine J.box rfl rfl rfl fun b1=>?_
 refine run ?_;refine J.ifd rfl (fun c=>?_) (fun c=>?_)
 ·refine run ?_;refine J.fin ?_;unfold S.chkG;rw[if_pos (by omega)]
 refine run ?_;refine J.ifn rfl (fun c2=>?_) (fun c2=>?_)
 ·refine run ?_;refine J.fin ?_;unfold S.chkG;rw[if_neg (by omega),if_pos (by omega)]
 refine run ?_;have h8:∀i,i<g.n→¬S.ownS (g.ops.getD i S.OpV.zero) (S.idAt g.ids i)→(8:Int)=S.chkG g.m g.ids g.ops:=fun i hi h=>by
  unfold S.chkG;rw[if_neg (by omega),if_neg (by omega),if_pos fun ho=>h (ho i (by omega))]
 refine J.loopS (A:=Int) (fun p=>[(21, .int .i64 p)]) [2,3,4,5,6,22,23,24,25,26,27,28,29,30,31,32,33,34,35,36,37,38,39,40,41,42,43,44,45,46,47] (fun p=>(0≤p∧p≤g.n)∧∀i,i<p.toNat→S.ownS (g.ops.getD i S.OpV.zero) (S.idAt g.ids i)) (fun p=>g.n - p.toNat) 0 (by kernel_rfl) ⟨by omega,fun i hi=>by omega⟩ (fun p j hI=>?_);obtain⟨h1,hI⟩:=hI;refine run ?_;refine J.ifd rfl (fun c3=>?_) (fun c3=>?_)
 ·obtain⟨z,hz⟩:=G0.ex (i:=p) (by omega);have R:=G.op hz;have hzo:=GrA.opAt hz;have hsa:=S.idX_arr z.o;refine run ?_;refine J.alloc rfl fun b2=>?_
  refine run ?_;refine J.callp rfl rfl (fun w' M=>idO z.o R.ok _ _ _ _ (K0.ext M.ext) (R.row.ext M.ext) R.cap) ?_;refine run ?_;refine J.alloc rfl fun b3=>?_
  refine run ?_;refine J.regionX [(0, .q),(1, .q),(2, .q),(3, .q),(4, .q),(5, .q),(6, .q),(7, .q),(8, .q),(9, .q),(10, .q),(11, .q),(12, .q),(13, .e),(14, .q),(15, .q)] mixed (by kernel_rfl) ?_;refine run ?_;have h9:¬S.ownS z.o (S.idAt g.ids p.toNat)→(8:Int)=S.chkG g.m g.ids g.ops:=fun h=>h8 p.toNat (by omega) (by rw[hzo];exact h);refine J.spn rfl rfl rfl (fun c4=>?_) (fun c4=>?_)
  ·refine run ?_;refine J.fin (congrArg _ (h9 fun h=>c4 (S.verE_check h.1)))
  refine run ?_;refine J.spd rfl rfl rfl (fun c5=>?_) (fun c5=>?_)
  ·refine run ?_;refine J.fin (congrArg _ (h9 fun h=>c5 ?_));rw[if_pos c4];exact h.2
  rw[if_pos c4]at c5;refine run ?_;refine J.callp rfl rfl (fun w' M=>verifyO z.o R.ok _ _ _ _ (K0.ext M.ext) (R.row.ext M.ext) R.cap) ?_;refine run ?_;refine J.ifn rfl (fun c6=>?_) (fun c6=>?_)
  ·refine run ?_;exact J.fin (congrArg _ (h9 fun h=>c6 h.1))
  refine run ?_;refine J.nextS (p+1) ⟨rfl,trivial⟩ (by kernel_rfl) ⟨by omega,fun i hi=>?_⟩ (by omega);rcases Nat.lt_or_ge i p.toNat with h|h
  ·exact hI i h
  obtain rfl:i=p.toNat:=by omega
  rw[hzo];exact⟨c6,Decidable.not_not.1 c5⟩
 refine run ?_;refine J.callp rfl rfl (fun w' M=>dagShape g w' (G.ext M.ext) (by omega) (by omega)) ?_;refine run ?_;refine J.fin ?_;unfold S.chkG;rw[if_neg (by omega),if_neg (by omega),if_neg (not_not_intro (show S.ownsS g.ids g.ops from fun i hi=>hI i (by omega)))]
theorem cloneW{S0:Nat→Prop}(a:Option Addr)(n c:Nat)(ids:List Int)(w:World)(D0:WRow .u8 32 S0 w a n ids)(hc:n≤c)(hn:n≤1000):
  Calls prog 78 #[.slice a n c] w (Gv w (fun q:Option Addr×Nat=> .slice q.1 n q.2) (fun q=>[.wown 23 .u8 32 q.1 n q.2 ids]) fun q=>n≤q.2):=
 Gv.of (cloneID a n c ids w D0 hc hn) fun v w' x ⟨a',n',c',hv,hn',O⟩=>⟨(a',c'),by rw[hv,hn'],by subst hn';exact O.own.cap.1,sep1 (by subst hn';exact wown_ok O)⟩
theorem dagTwin{S0:Nat→Prop}(z:OpA)(w:World)(R:OpR S0 w z):
  Calls prog 88 #[.agg (opC z).toArray] w (Gv w (fun q:Option Addr×Nat=> .agg (opC ⟨z.o,q.1,q.2⟩).toArray) (fun q=>[.wown 23 .u8 32 q.1 z.o.n q.2 z.o.ids]) fun q=>z.o.n≤q.2):=by
 refine J.enter 7 func88 rfl rfl ?_;refine run ?_;refine J.box rfl rfl rfl fun b1=>?_
 refine run ?_;refine J.alloc rfl fun b2=>?_
 refine run ?_;have h20:=R.ok.n;refine J.call rfl rfl (fun w' M=>cloneW _ _ _ _ _ (R.row.ext M.ext) R.cap (by omega)) fun q hq=>?_
 refine run ?_;exact J.finG q rfl hq (.cons_cons _ (List.nil_sublist _))
theorem dagGet{S0:Nat→Prop}(g:GrA)(x:List Int)(TK:TypeId)(w:World)(K0:Kst w TK)(G:GrR S0 w g)(hx:Arr .u8 32 x):
  Calls prog 54 #[.agg (grC g).toArray, .agg (ints .u8 x).toArray] w (Gv w (fun q:OpA×Int=> .tuple #[.agg (opC q.1).toArray, .int .i64 q.2]) (fun q=>[.wrow .u8 32 q.1.pa q.1.o.n q.1.o.ids]) fun q=>q.1.o.n≤q.1.pc∧q.1.o=S.getO g.m g.ids g.ops x∧q.2=S.getE g.m g.ids g.ops x):=by
 refine J.enter 28 func54 rfl rfl ?_;refine run ?_;refine J.box rfl rfl rfl fun b1=>?_
 refine run ?_;refine J.box rfl rfl rfl fun b2=>?_
 refine run ?_;refine J.alloc rfl fun b3=>?_
 refine run ?_;refine J.callp rfl rfl (fun w' M=>dagCheck g _ w' (K0.ext M.ext) (G.ext M.ext)) ?_;refine run ?_;refine J.ifn rfl (fun c=>?_) (fun c=>?_)
 ·refine run ?_;refine J.nilW .u8 32 ?_;exact J.finG (⟨S.OpV.zero,none,0⟩,S.chkG g.m g.ids g.ops) rfl ⟨Nat.le_refl _,(if_pos c).symm,(if_pos c).symm⟩ (.cons_cons _ (List.nil_sublist _))
 have hz:=S.chkG_zero.1 c;have G0:=G.ops;refine run ?_;refine J.callp rfl rfl (fun w' M=>dagFind g _ w' (G.ids.ext M.ext) hx hz.2.2.2.1 G.cap.2.2.1) ?_;refine run ?_;refine J.ifnot rfl (fun c2=>?_) (fun c2=>?_)
 ·refine run ?_;refine J.nilW .u8 32 ?_;exact J.finG (⟨S.OpV.zero,none,0⟩,6) rfl ⟨Nat.le_refl _,by unfold S.getO;rw[if_neg (not_not_intro c),if_neg (of_decide_eq_false c2)],by unfold S.getE;rw[if_neg (not_not_intro c),if_neg (of_decide_eq_false c2)]⟩ (.cons_cons _ (List.nil_sublist _))
 have hin:=of_decide_eq_true c2;have hlt:=((S.spotS_has hz.2.2.2.1).1 hin).1;have hl:=G.len;obtain⟨z,hz2⟩:=G.ops.ex (i:=(S.spotS g.m g.ids x:Nat)) (by omega);have R:=G.op hz2;refine run ?_;refine J.call rfl rfl (fun w' M=>dagTwin z w' (R.ext M.ext)) fun q hq=>?_
 refine run ?_;refine J.re (.wown 23 .u8 32 q.1 z.o.n q.2 z.o.ids) (.wrow .u8 32 q.1 z.o.n z.o.ids) (fun S w=>wown_wrow) ?_;refine J.finG (⟨z.o,q.1,q.2⟩,0) rfl ⟨hq,?_,?_⟩ (.cons_cons _ (List.nil_sublist _))
 ·unfold S.getO;rw[if_neg (not_not_intro c),if_pos hin,←S.spotS_ix hz.2.2.2.1 hin];exact(GrA.opAt hz2).symm
 unfold S.getE;rw[if_neg (not_not_intro c),if_pos hin]
end W
namespace S
open G
def atS(m:Nat)(ids x:List Int):Int:=if inS m ids x then(ixS m ids x:Nat)else -1
theorem at_hit{m:Nat}{ids x:List Int}{i:Nat}(hi:i<m)(e:idAt ids i=x)(hf:∀j,j<i→idAt ids j≠x):(i:Int)=atS m ids x:=by
 unfold atS;rw[if_pos ⟨i,hi,e⟩,ix_first hi e hf]
theorem at_miss{m:Nat}{ids x:List Int}(hf:∀j,j<m→idAt ids j≠x):(-1:Int)=atS m ids x:=by
 unfold atS;rw[if_neg];rintro⟨i,hi,e⟩;exact hf i hi e
theorem at_neg{m:Nat}{ids x:List Int}:atS m ids x<0↔¬inS m ids x:=by
 unfold atS;by_cases h:inS m ids x
 ·rw[if_pos h];exact⟨fun h1=>by omega,fun h1=>absurd h h1⟩
 ·rw[if_neg h];exact⟨fun _=>h,fun _=>by decide⟩
structure HvS(ids:List Int)(rd:List Nat)(hv:List Int):Prop where
 len:hv.length=32*rd.length
 at_:∀k,k<rd.length→idAt hv k=idAt ids (rd.getD k 0)
theorem HvS.all{m:Nat}{ids hv:List Int}{ops:List OpV}{rd:List Nat}(h:HvS ids rd hv)(hr:Rising m ids)(hb:∀x∈rd,x<m){i:Nat}(ho:allI m ids (ops.getD i OpV.zero).n (ops.getD i OpV.zero).ids):
  allI rd.length hv (ops.getD i OpV.zero).n (ops.getD i OpV.zero).ids↔∀p∈prS m ids ops i,p∈rd:=by
 constructor
 ·intro ha p hp;unfold prS at hp;obtain⟨j,hj,rfl⟩:=List.mem_map.1 hp;obtain⟨k,hk,e⟩:=ha j (List.mem_range.1 hj);rw[h.at_ k hk]at e;have hm:=getD_mem hk;rw[←e,ix_eq hr (hb _ hm)];exact hm
 ·intro ha j hj;have hp:ixS m ids (idAt (ops.getD i OpV.zero).ids j)∈rd:=ha _ (by unfold prS;exact List.mem_map.2 ⟨j,List.mem_range.2 hj,rfl⟩);obtain⟨k,hk,e⟩:=List.getElem_of_mem hp;refine⟨k,hk,?_⟩;rw[h.at_ k hk,List.getD_eq_getElem?_getD,List.getElem?_eq_getElem hk,Option.getD_some,e];exact(ix_in (ho j hj)).2
end S
namespace W
open Go.RowKit G
set_option maxRecDepth 20000
set_option maxHeartbeats 8000000
attribute [local irreducible] RS RX RY Code.wp bodyPost J Ent.blk Ent.iown Ent.wrow Ent.wown Ent.gown Ent.all Ent.emp
instance:Ents prog 115:=⟨.mk func115 (by kernel_rfl) rfl⟩
theorem refAt{S0:Nat→Prop}(a:Option Addr)(n c:Nat)(ids x:List Int)(w:World)(D0:WRow .u8 32 S0 w a n ids)(hx:Arr .u8 32 x)(hn:n≤1000):
  Calls prog 115 #[.slice a n c, .agg (ints .u8 x).toArray] w (Ret w fun v _=>v= .int .i64 (S.atS n ids x)):=by
 refine J.enter 17 func115 rfl rfl ?_;refine run ?_;refine J.box rfl rfl rfl fun b1=>?_
 refine run ?_;refine J.loopS (A:=Int) (fun p=>[(5, .int .i64 p)]) [6,7,8,9,10,11,12,13,14,15,16,17,18] (fun p=>(0≤p∧p≤n)∧∀k,k<p.toNat→S.idAt ids k≠x) (fun p=>n - p.toNat) 0 (by kernel_rfl) ⟨by omega,fun k hk=>by omega⟩ (fun p j hI=>?_);obtain⟨h1,hI⟩:=hI;refine run ?_;refine J.ifd rfl (fun c1=>?_) (fun c1=>?_)
 ·obtain⟨q,hq⟩:=ex (elt 32 ids p.toNat);have hqa:Arr .u8 32 q:=hq▸D0.elt_arr (by omega);refine run ?_;refine J.regionX [(0, .q),(1, .q),(2, .q),(3, .q),(4, .q),(5, .q)] mixed (by kernel_rfl) ?_;refine run ?_;refine J.ifd rfl (fun c2=>?_) (fun c2=>?_)
  ·refine run ?_;refine J.fin ?_;rw[←S.at_hit (i:=p.toNat) (by omega) (by rw[←c2];exact hq.symm) hI];congr 1;omega
  refine run ?_;refine J.nextS (p+1) ⟨rfl,trivial⟩ (by kernel_rfl) ⟨by omega,fun k hk=>?_⟩ (by omega);rcases Nat.lt_or_ge k p.toNat with h|h
  ·exact hI k h
  obtain rfl:k=p.toNat:=by omega
  exact fun e=>c2 (hq.trans e)
 refine run ?_;refine J.fin ?_;rw[←S.at_miss fun k hk=>hI k (by omega)]
theorem refAll{S0 S1:Nat→Prop}(a a2:Option Addr)(n c n2 c2:Nat)(ids ps:List Int)(w:World)(D0:WRow .u8 32 S0 w a n ids)(D1:WRow .u8 32 S1 w a2 n2 ps)(hn:n≤1000)(hn2:n2≤1000):
  Calls prog 67 #[.slice a n c, .slice a2 n2 c2] w (Ret w fun v _=>v= .bool (decide (S.allI n ids n2 ps))):=by
 refine J.enter 17 func67 rfl rfl ?_;refine run ?_;refine J.loopS (A:=Int) (fun p=>[(5, .int .i64 p)]) [6,7,8,9,10,11,12,13,14,15,16,17,18] (fun p=>(0≤p∧p≤n2)∧∀k,k<p.toNat→S.inS n ids (S.idAt ps k)) (fun p=>n2 - p.toNat) 0 (by kernel_rfl) ⟨by omega,fun k hk=>by omega⟩ (fun p j hI=>?_);obtain⟨h1,hI⟩:=hI;refine run ?_;refine J.ifd rfl (fun c1=>?_) (fun c1=>?_)
 ·refine run ?_;refine J.callp rfl rfl (fun w' M=>refAt _ _ _ _ _ _ (D0.ext M.ext) (D1.elt_arr (by omega)) hn) ?_;refine run ?_;refine J.ifd rfl (fun c2=>?_) (fun c2=>?_)
  ·refine run ?_;exact J.fin (congrArg _ (decide_eq_false fun h=>S.at_neg.1 c2 (h _ (by omega))).symm)
  refine run ?_;refine J.nextS (p+1) ⟨rfl,trivial⟩ (by kernel_rfl) ⟨by omega,fun k hk=>?_⟩ (by omega);rcases Nat.lt_or_ge k p.toNat with h|h
  ·exact hI k h
  obtain rfl:k=p.toNat:=by omega
  exact Decidable.not_not.1 fun h=>c2 (S.at_neg.2 h)
 refine run ?_;exact J.fin (congrArg _ (decide_eq_true fun k hk=>hI k (by omega)).symm)
instance:Ents prog 76:=⟨.mk func76 (by kernel_rfl) rfl⟩
def bigO(o:S.OpV):Prop:=20<o.n∨100<o.key.size∨100<o.t.size
structure GrI(S0:Nat→Prop)(w:World)(g:GrA):Prop where
 ids:WRow .u8 32 S0 w g.ia g.m g.ids
 ops:GRow opC 11 S0 w g.oa g.n g.zs
 inn:Inns opI S0 w g.zs
 rng:∀z∈g.zs,z.o.rng
 cap:g.m≤g.ic∧g.n≤g.oc
def GrSm(g:GrA):Prop:=g.m≤70∧g.n≤70∧¬(16<g.n∧g.n≤60)∧∀i,i<g.n→¬bigO (g.ops.getD i S.OpV.zero)
theorem GrI.ext{S0:Nat→Prop}{w w':World}{g:GrA}(h:GrI S0 w g)(x:Ext w w'):GrI S0 w' g:=⟨h.ids.ext x,h.ops.ext x,h.inn.ext x,h.rng,h.cap⟩
theorem GrI.gr {S0 : Nat → Prop} {w : World} {g : GrA} (h : GrI S0 w g) (hs : GrSm g) : GrR S0 w g := ⟨h.ids, h.ops, h.inn, fun z hz => by
 obtain ⟨i, hi, rfl⟩ := List.getElem_of_mem hz
 have h1 := hs.2.2.2 i (by rw [← h.ops.len]; exact hi)
 rw [GrA.opAt (List.getElem?_eq_getElem hi)] at h1
 exact (h.rng _ hz).ok h1, h.cap.1, h.cap.2, hs.1, hs.2.1⟩
theorem refGreat{S0:Nat→Prop}(g:GrA)(w:World)(G:GrI S0 w g):
  Calls prog 39 #[.agg (grC g).toArray] w (Gv w (fun q:Bool=> .bool q) (fun _=>[]) fun q=>q=false→GrSm g):=by
 have G0:=G.ops;refine J.enter 42 func39 rfl rfl ?_;refine run ?_;refine J.box rfl rfl rfl fun b1=>?_
 refine run ?_;refine J.loopS (A:=Int) (fun p=>[(3, .int .i64 p)]) [4,5,6,7,8,9,10,11,12,13,14,15,16,17,18,19,20] (fun p=>(0≤p∧p≤g.n∧p≤71)∧∀k,k<p.toNat→¬bigO (g.ops.getD k S.OpV.zero)) (fun p=>g.n - p.toNat) 0 (by kernel_rfl) ⟨by omega,fun k hk=>by omega⟩ (fun p j hI=>?_);obtain⟨h1,hI⟩:=hI;refine run ?_;have hend:∀ {L:List Ent} {X:World→Prop},(¬(p<g.n)∨¬p≤70)→((g.n≤70→∀k,k<g.n→¬bigO (g.ops.getD k S.OpV.zero))→J no w L X)→J no w L X:=fun h k=>k fun hn i hi=>hI i (by omega);refine J.spd rfl rfl rfl (fun c1=>?_) (fun c1=>?_)
 ·refine run ?_;refine J.ifd rfl (fun c2=>?_) (fun c2=>?_)
  ·obtain⟨z,hz⟩:=G0.ex (i:=p) (by omega);have hzo:=GrA.opAt hz;refine run ?_;refine J.callp rfl rfl (fun w' M=>great z.o z.pa z.pc w') ?_;refine run ?_;refine J.ifd rfl (fun c3=>?_) (fun c3=>?_)
   ·refine run ?_;exact J.finG true rfl (fun h=>by cases h) (List.nil_sublist _)
   refine run ?_;refine J.nextS (p+1) ⟨rfl,trivial⟩ (by kernel_rfl) ⟨by omega,fun k hk=>?_⟩ (by omega);rcases Nat.lt_or_ge k p.toNat with h|h
   ·exact hI k h
   obtain rfl:k=p.toNat:=by omega
   rw[hzo];exact c3
  refine hend (.inr c2) fun hA=>?_
  refine run ?_;refine J.spd rfl rfl rfl (fun c3=>?_) (fun c3=>?_)
  ·refine run ?_;refine J.spd rfl rfl rfl (fun c4=>?_) (fun c4=>?_)
   ·refine run ?_;exact J.finG true rfl (fun h=>by cases h) (List.nil_sublist _)
   refine run ?_;refine J.spd rfl rfl rfl (fun c5=>?_) (fun c5=>?_)
   ·refine run ?_;exact J.finG true rfl (fun h=>by cases h) (List.nil_sublist _)
   refine run ?_;exact J.finG (decide ((70:Int)<g.m)) rfl (fun h=>by have:=of_decide_eq_false h;exact⟨by omega,by omega,by omega,hA (by omega)⟩) (List.nil_sublist _)
  refine run ?_;refine J.spd rfl rfl rfl (fun c5=>?_) (fun c5=>?_)
  ·refine run ?_;exact J.finG true rfl (fun h=>by cases h) (List.nil_sublist _)
  refine run ?_;exact J.finG (decide ((70:Int)<g.m)) rfl (fun h=>by have:=of_decide_eq_false h;exact⟨by omega,by omega,by omega,hA (by omega)⟩) (List.nil_sublist _)
 refine hend (.inl c1) fun hA=>?_
 refine run ?_;refine J.spd rfl rfl rfl (fun c3=>?_) (fun c3=>?_)
 ·refine run ?_;refine J.spd rfl rfl rfl (fun c4=>?_) (fun c4=>?_)
  ·refine run ?_;exact J.finG true rfl (fun h=>by cases h) (List.nil_sublist _)
  refine run ?_;refine J.spd rfl rfl rfl (fun c5=>?_) (fun c5=>?_)
  ·refine run ?_;exact J.finG true rfl (fun h=>by cases h) (List.nil_sublist _)
  refine run ?_;exact J.finG (decide ((70:Int)<g.m)) rfl (fun h=>by have:=of_decide_eq_false h;exact⟨by omega,by omega,by omega,hA (by omega)⟩) (List.nil_sublist _)
 refine run ?_;refine J.spd rfl rfl rfl (fun c5=>?_) (fun c5=>?_)
 ·refine run ?_;exact J.finG true rfl (fun h=>by cases h) (List.nil_sublist _)
 refine run ?_;exact J.finG (decide ((70:Int)<g.m)) rfl (fun h=>by have:=of_decide_eq_false h;exact⟨by omega,by omega,by omega,hA (by omega)⟩) (List.nil_sublist _)
end W
namespace L
open Go Go.Proofs.YtjjbdaiioociaaaGreatDoor G W
open Go.ChangeShapes Go.WideShapes Go.ChangeAt Go.RowKit
set_option maxRecDepth 100000
section
variable{H:Type}{enc:TypeId×Value→H}{P:Program}{w:World}{base:Nat}{sp:Nat→Bool}{held:Bool}{fuel:Nat}{cs:List Value}{x:DataW H×List MemPlace}{t:TypeId}
theorem grow_in{α:Type}{e sz:Nat}(f:α→List Value)(Q:α→Prop)(d:α)(hf:∀x,(f x).length=sz)(ht:P.underlying t=some (.slice e))(hes:P.cellsOf e=sz)(hz:0<sz)
    (h1:∀m ds y,DataW.trod enc P w base sp held m e ds=some y→∃z,ds=f z∧Q z)(h:DataW.trod enc P w base sp held fuel t cs=some x):
    ∃a n c zs,cs=[.slice a n c]∧n≤c∧GRow f sz (fun _=>True) w a n zs∧∀z∈zs,Q z:=by
  rcases DataW.trod_slice ht h with⟨h2,_⟩|⟨a,len,cap,elems,rest,m,_,h2,_,_,hlc,_,hel,he,_⟩
  · exact⟨none,0,0,[],h2,Nat.le_refl _, .nil hf,fun z hz=>by cases hz⟩
  · refine⟨some a,len,cap,?_⟩
    by_cases h0:len=0
    · subst h0
      exact⟨[],h2,hlc, .nil hf,fun z hz=>by cases hz⟩
    · have one:∀i,i<len→∃z,Q z∧∀j,j<sz→w.cell? ((a.add (i*sz)).add j)=(f z)[j]? :=by
        intro i hi;have h3:=he i hi;rw[List.getElem?_eq_getElem (by omega),hes]at h3;cases hc:w.cells? base (a.add (i*sz)) sz with
        |none=>rw[hc]at h3;cases h3
        |some ds=>
          rw[hc,Option.bind_some]at h3;obtain⟨z,h4,h5⟩:=h1 _ _ _ h3;obtain⟨h6,h7⟩:=cells_in hc;exact⟨z,h5,fun j hj=>by rw[h7 j hj,h4]⟩
      obtain⟨b0,o,spot⟩:=a;obtain rfl:spot=none:=by
        obtain⟨z,_,h3⟩:=one 0 (by omega);have h4:=h3 0 hz;rw[List.getElem?_eq_getElem (by rw[hf];exact hz)]at h4;have:=World.cell?_spot h4;simpa [Addr.add]using this
      obtain ⟨zs, h3, h4⟩ := list_of d (fun i z => Q z ∧ ∀ j, j < sz → w.cell? ⟨b0, o + (i * sz + j), none⟩ = (f z)[j]?) len (fun i hi => by
        obtain ⟨z, h5, h6⟩ := one i hi
        exact ⟨z, h5, fun j hj => by have := h6 j hj; rw [add_mk, add_mk, Nat.add_assoc] at this; exact this⟩)
      refine⟨zs,h2,hlc,⟨.inr ⟨b0,o,rfl,trivial,fun j hj=>?_⟩,h3,hf⟩,fun z hz=>?_⟩
      · rw[flat_len f sz hf,h3]at hj
        have hi:j / sz<len:=Nat.div_lt_of_lt_mul hj;have hm:=Nat.mod_lt j hz;have h5:=(h4 _ hi).2 _ hm;rw[Nat.mul_comm (j / sz),Nat.div_add_mod]at h5;have hg:=flat_get f sz hf d zs (j / sz) (by omega);have e2:=congrArg (fun t=>t[j % sz]?) hg;simp only[List.getElem?_take,if_pos hm,List.getElem?_drop,Nat.div_add_mod]at e2;rw[h5,←e2,List.getD_eq_getElem?_getD,List.getElem?_eq_getElem (by rw[flat_len f sz hf,h3];exact hj)];rfl
      · obtain⟨j,hj,rfl⟩:=List.getElem_of_mem hz
        have:=(h4 j (by omega)).1;rw[List.getD_eq_getElem?_getD,List.getElem?_eq_getElem hj]at this;exact this
end
section
variable{H:Type}{enc:TypeId×Value→H}{w:World}{base:Nat}{sp:Nat→Bool}{held:Bool}{fuel:Nat}{cs:List Value}{x:DataW H×List MemPlace}
theorem ops_in(h:DataW.trod enc prog w base sp held fuel 62 cs=some x):∃a n c zs,cs=[.slice a n c]∧n≤c∧GRow opC 11 (fun _=>True) w a n zs∧∀z∈zs,z.o.rng∧z.o.n≤z.pc∧WRow .u8 32 (fun _=>True) w z.pa z.o.n z.o.ids:=
  grow_in opC (fun z => z.o.rng ∧ z.o.n ≤ z.pc ∧ WRow .u8 32 (fun _ => True) w z.pa z.o.n z.o.ids) ⟨S.OpV.zero, none, 0⟩ (fun _ => rfl) underlying62 z_op (by decide) (fun m ds y hd => by
    obtain ⟨o, pa, pc, h1, h2, h3, h4⟩ := op_in hd
    exact ⟨⟨o, pa, pc⟩, h1, h2, h3, h4⟩) h
end
end L
end Go.Proofs.YtjjbdaiioociaaaGreatDoor
