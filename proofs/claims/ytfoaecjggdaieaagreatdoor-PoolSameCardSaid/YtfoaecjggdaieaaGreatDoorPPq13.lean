/-
  Part 13 of the lemmas of these laws: PoolSteps, PoolGoes, PoolSame.
-/
import Derived.Test.YtfoaecjggdaieaaGreatDoorPPq12
set_option linter.unusedVariables false
set_option linter.unusedSimpArgs false
open Go.Proofs.Tryz
namespace Go.Proofs.YtfoaecjggdaieaaGreatDoor
namespace W
open Go.RowKit G
set_option maxRecDepth 20000
set_option maxHeartbeats 8000000
attribute [local irreducible] RS RX RY Code.wp bodyPost J Ent.blk Ent.irow Ent.iown Ent.wrow Ent.wown Ent.grow Ent.gown Ent.all Ent.emp
instance:Fld prog 53 1 1:=⟨_,_,1,underlying53,rfl,by kernel_rfl,by decide,rfl⟩
instance:Sca prog 9:=⟨_,underlying9,rfl⟩
instance:Und prog 9 .string:=⟨underlying9⟩
instance:Fld prog 53 2 2:=⟨_,_,4,underlying53,rfl,by kernel_rfl,by decide,rfl⟩
instance:Fld prog 51 3 3:=⟨_,_,1,underlying51,rfl,by kernel_rfl,by decide,rfl⟩
instance:Ents prog 60:=⟨.mk func60 (by kernel_rfl) rfl⟩
instance:Ents prog 36:=⟨.mk func36 (by kernel_rfl) rfl⟩
instance:Ents prog 26:=⟨.mk func26 (by kernel_rfl) rfl⟩
theorem pLong(z:OpA)(w:World):
  Calls prog 26 #[.agg (opC z).toArray] w (Gv w (fun q:Bool=> .bool q) (fun _=>[]) fun q=>q=false→z.o.n≤40∧z.o.key.size≤100∧z.o.t.size≤100):=by
 refine J.enter 21 func26 rfl rfl ?_;refine run ?_;refine J.box rfl rfl rfl fun b1=>?_
 refine run ?_;refine J.spd rfl rfl rfl (fun c1=>?_) (fun c1=>?_)
 ·refine run ?_;exact J.finG true rfl (fun h=>by cases h) (List.nil_sublist _)
 refine run ?_;refine J.spd rfl rfl rfl (fun c2=>?_) (fun c2=>?_)
 ·refine run ?_;exact J.finG true rfl (fun h=>by cases h) (List.nil_sublist _)
 refine run ?_;exact J.finG (decide ((100:Int)<z.o.t.size)) rfl (fun h=>by have:=of_decide_eq_false h;exact⟨by omega,by omega,by omega⟩) (List.nil_sublist _)
theorem pOk{o:S.OpV}(h:o.rng)(k:o.n≤40∧o.key.size≤100∧o.t.size≤100):o.ok:=⟨h.au,h.st,h.k,h.vk,h.num,h.bits,h.e,h.s,k.1,k.2.1,k.2.2⟩
theorem lAt{α β:Type}{f:α→β}{l l2:List α}(h:l.map f=l2.map f){i:Nat}{x y:α}(hx:l[i]? =some x)(hy:l2[i]? =some y):f x=f y:=by
 have:=congrArg (fun t=>t[i]?) h;simp only[List.getElem?_map,hx,hy,Option.map_some,Option.some.injEq]at this;exact this
theorem jdR_i{S0:Nat→Prop}{w:World}{d:JdA}(h:JdI S0 w d)(k:d.o.o.n≤40∧d.o.o.key.size≤100∧d.o.o.t.size≤100):JdR S0 w d:=⟨⟨pOk h.rng k,h.row,h.cap⟩,h.id⟩
structure PlB(p:PlA):Prop where
 j:∀z∈p.js,z.n≤600
 h:∀z∈p.hs,z.bn≤600∧z.j.o.o.n≤40∧z.j.o.o.key.size≤100∧z.j.o.o.t.size≤100
 d:∀z∈p.ds,z.o.o.n≤40∧z.o.o.key.size≤100∧z.o.o.t.size≤100
 n:p.jn≤20∧p.hn≤20∧p.dn≤100
theorem plR_i{S0:Nat→Prop}{w:World}{p:PlA}(G:PlI S0 w p)(B:PlB p):PlR S0 w p:=by
 have hn:=B.n;exact⟨G.jr,G.hr,G.dr,fun j hj=>⟨⟨(G.ji j hj).cap,B.j j hj⟩,(G.ji j hj).row⟩,fun j hj=>⟨⟨(jdR_i (G.hi j hj).j (B.h j hj).2).k,(G.hi j hj).cap,(B.h j hj).1⟩,jdR_i (G.hi j hj).j (B.h j hj).2,(G.hi j hj).row⟩,fun d hd=>jdR_i (G.di d hd) (B.d d hd),G.cap.1,G.cap.2.1,G.cap.2.2,by omega,by omega,by omega⟩
theorem PlI.ext{S0:Nat→Prop}{w w':World}{p:PlA}(h:PlI S0 w p)(x:Ext w w'):PlI S0 w' p:=⟨h.jr.ext x,h.hr.ext x,h.dr.ext x,fun j hj=>⟨(h.ji j hj).row.ext x,(h.ji j hj).cap⟩,fun j hj=>⟨⟨(h.hi j hj).j.rng,(h.hi j hj).j.row.ext x,(h.hi j hj).j.cap,(h.hi j hj).j.id⟩,(h.hi j hj).row.ext x,(h.hi j hj).cap⟩,fun j hj=>⟨(h.di j hj).rng,(h.di j hj).row.ext x,(h.di j hj).cap,(h.di j hj).id⟩,h.cap⟩
theorem refSameJobs{S0 S1:Nat→Prop}{S2 S3:Nat→Prop}(a:Option Addr)(n c:Nat)(l:List JbA)(a2:Option Addr)(n2 c2:Nat)(l2:List JbA)(w:World)(G0:GRow jbC 2 S0 w a n l)(G1:GRow jbC 2 S1 w a2 n2 l2)(RA:∀j∈l,JbR S2 w j)(RB:∀j∈l2,JbR S3 w j)(h:l.map JbA.V=l2.map JbA.V)(hn:n≤100):
  Calls prog 36 #[.slice a n c, .slice a2 n2 c2] w (Ret w fun v _=>v= .bool true):=by
 have h1:=G0.len;have h2:=G1.len;have h3:l.length=l2.length:=by have:=congrArg List.length h;rwa[List.length_map,List.length_map]at this
 obtain rfl:n2=n:=by omega
 refine J.enter 40 func36 rfl rfl ?_;refine run ?_;refine J.ifn rfl (fun c=>absurd rfl c) (fun _=>?_);refine run ?_;refine J.loopS (A:=Int) (fun i=>[(5, .int .i64 i)]) [4,11,12,13,14,15,16,17,18,19,20,21,22,23,24,25,26,27,28,29,30,31,32,33,34,35,36,37,38,39,40,41] (fun i=>0≤i∧i≤n2) (fun i=>n2 - i.toNat) 0 (by kernel_rfl) ⟨by omega,by omega⟩ (fun i j hI=>?_);refine run ?_;refine J.ifd rfl (fun d1=>?_) (fun d1=>?_)
 ·obtain⟨z,hz⟩:=G0.ex (i:=i) (by omega);obtain⟨y,hy⟩:=G1.ex (i:=i) (by omega);have e:=lAt h hz hy;have et:z.t=y.t:=congrArg S.JbV.t e;have eb:z.bs=y.bs:=congrArg S.JbV.b e;have ZR:=RA z (List.mem_of_getElem? hz);have YR:=RB y (List.mem_of_getElem? hy);have hzn:=ZR.k.n;have hyn:=YR.k.n;refine run ?_;refine J.regionX [(0, .q),(1, .q),(2, .q),(3, .q),(4, .q),(5, .q),(6, .q),(7, .q),(8, .q),(9, .q),(10, .q),(11, .q),(12, .q),(13, .q),(14, .q),(15, .q),(16, .q),(17, .q),(18, .q),(19, .q),(20, .q),(21, .q),(22, .e),(23, .q),(24, .q)] mixed (by kernel_rfl) ?_;refine run ?_;refine J.spn rfl rfl rfl (fun c=>absurd et c) (fun _=>?_);refine run ?_;refine J.callp rfl rfl (fun w' M=>sameBytes z.a z.n z.c z.bs y.a y.n y.c y.bs w' (ZR.row.ext M.ext) (YR.row.ext M.ext) (by omega) (by omega)) ?_;rw[decide_eq_true eb];refine run ?_;exact J.nextS (i+1) ⟨rfl,trivial⟩ (by kernel_rfl) ⟨by omega,by omega⟩ (by omega)
 refine run ?_;exact J.fin rfl
theorem refSameJdT{S0 S1:Nat→Prop}(j k:JdA)(w:World)(R:JdR S0 w j)(R2:JdR S1 w k)(h:j.V=k.V):
  Calls prog 18 #[.agg (jdC j).toArray, .agg (jdC k).toArray] w (Ret w fun v _=>v= .bool true):=by
 have:=refSameJd j k w R R2;rwa[decide_eq_true ((S.sameJ_eq (a:=j.V) (b:=k.V) R.o.row.len R2.o.row.len).2 h)]at this
theorem refPSame{S0 S1:Nat→Prop}(p q:PlA)(w:World)(R:PlR S0 w p)(Q:PlR S1 w q)(h:p.V=q.V):
  Calls prog 14 #[.agg (plC p).toArray, .agg (plC q).toArray] w (Ret w fun v _=>v= .bool true):=by
 have G1:=R.jr;have G2:=R.hr;have G3:=R.dr;have K1:=Q.jr;have K2:=Q.hr;have K3:=Q.dr;have hcp:=R.cap;have hcp2:=R.cap.2.2.2;have ec:p.cap=q.cap:=congrArg S.PlV.cap h;have e1:p.js.map JbA.V=q.js.map JbA.V:=congrArg S.PlV.js h;have e2:p.hs.map HdA.V=q.hs.map HdA.V:=congrArg S.PlV.hs h;have e3:p.ds.map JdA.V=q.ds.map JdA.V:=congrArg S.PlV.ds h;have el2:p.hn=q.hn:=by have:=congrArg List.length e2;rw[List.length_map,List.length_map,G2.len,K2.len]at this;exact this
 have el3:p.dn=q.dn:=by have:=congrArg List.length e3;rw[List.length_map,List.length_map,G3.len,K3.len]at this;exact this
 refine J.enter 97 func14 rfl rfl ?_;refine run ?_;refine J.box rfl rfl rfl fun b1=>?_
 refine J.box rfl rfl rfl fun b2=>?_
 refine run ?_;refine J.spn rfl rfl rfl (fun c=>absurd ec c) (fun _=>?_);refine run ?_;refine J.callp rfl rfl (fun w' M=>refSameJobs _ _ _ _ _ _ _ _ w' (G1.ext M.ext) (K1.ext M.ext) (fun j hj=>(R.ji j hj).ext M.ext) (fun j hj=>(Q.ji j hj).ext M.ext) e1 (by omega)) ?_;refine run ?_;refine J.spn rfl rfl rfl (fun c=>absurd (by rw[el2]) c) (fun _=>?_);refine run ?_;refine J.ifn rfl (fun c=>absurd (by rw[el3]) c) (fun _=>?_);refine run ?_;refine J.loopS (A:=Int) (fun i=>[(5, .int .i64 i)]) [4,6,7,40,41,42,43,44,45,46,47,48,49,50,51,52,53,54,55,56,57,58,59,60,61,62,63,64,65,66,67,68,69,70,71,72,73,74,75,76,77,78,79] (fun i=>0≤i∧i≤p.hn) (fun i=>p.hn - i.toNat) 0 (by kernel_rfl) ⟨by omega,by omega⟩ (fun i j hI=>?_);refine run ?_;refine J.ifd rfl (fun d1=>?_) (fun d1=>?_)
 ·obtain⟨z,hz⟩:=G2.ex (i:=i) (by omega);obtain⟨y,hy⟩:=K2.ex (i:=i) (by omega);have e:=lAt e2 hz hy;have es:z.s=y.s:=congrArg S.HdV.s e;have ejt:z.jt=y.jt:=congrArg S.HdV.jt e;have ebs:z.bs=y.bs:=congrArg S.HdV.b e;have ejj:z.j.V=y.j.V:=congrArg S.HdV.j e;have ejb:([⟨z.jt,z.ba,z.bn,z.bc,z.bs⟩]:List JbA).map JbA.V=([⟨y.jt,y.ba,y.bn,y.bc,y.bs⟩]:List JbA).map JbA.V:=by simp[JbA.V,ejt,ebs]
  have ZR:=R.h hz;have YR:=Q.h hy;refine run ?_;refine J.regionT [.blk b2 (plC q) 26, .blk b1 (plC p) 26] (.br [(0, .q),(1, .q),(2, .q),(3, .q),(4, .q),(5, .q),(6, .q),(7, .q),(8, .q),(9, .q)] 10 (.fin [(11, .e),(12, .e),(13, .e)]) 11 (.fin [(10, .e),(12, .e),(13, .e)])) mixed (by kernel_rfl) (by repeat(first|exact List.Sublist.refl _|refine List.Sublist.cons_cons _ ?_|refine List.Sublist.cons _ ?_)) ?_;refine run ?_;refine J.nil (J.kt ?_ ?_)
  ·refine J.alloc rfl fun b3=>?_
   refine run ?_;refine J.alloc rfl fun b4=>?_
   refine run ?_;refine J.spn rfl rfl rfl (fun c=>absurd es c) (fun _=>?_);refine run ?_;refine J.b1G jbC ⟨z.jt,z.ba,z.bn,z.bc,z.bs⟩ jbC_len rfl rfl rfl fun b5=>?_
   refine run ?_;refine J.b1G jbC ⟨y.jt,y.ba,y.bn,y.bc,y.bs⟩ jbC_len rfl rfl rfl fun b6=>?_
   refine run ?_;refine J.callp rfl rfl (fun w' M=>(RG.own' (a:=some ⟨b5,0,none⟩) w' M).elim fun _ k0=>(RG.own' (a:=some ⟨b6,0,none⟩) w' M).elim fun _ k1=>refSameJobs _ _ _ _ _ _ _ _ w' k0 k1 (fun j hj=>by rw[List.mem_singleton]at hj;subst hj;exact⟨⟨ZR.k.cap,ZR.k.n⟩,ZR.row.ext M.ext⟩) (fun j hj=>by rw[List.mem_singleton]at hj;subst hj;exact⟨⟨YR.k.cap,YR.k.n⟩,YR.row.ext M.ext⟩) ejb (by decide)) ?_;refine run ?_;refine J.ldp rfl ?_ (hv:=hdC_jd z.j.h) (hn:=jdC_len' z.j);refine run ?_;refine J.ldp rfl ?_ (hv:=hdC_jd y.j.h) (hn:=jdC_len' y.j);refine run ?_;refine J.callp rfl rfl (fun w' M=>refSameJdT z.j y.j w' (ZR.j.ext M.ext) (YR.j.ext M.ext) ejj) ?_;refine run ?_;exact J.nextS (i+1) ⟨rfl,trivial⟩ (by kernel_rfl) ⟨by omega,by omega⟩ (by omega)
  refine J.alloc rfl fun b4=>?_
  refine run ?_;refine J.alloc rfl fun b3=>?_
  refine run ?_;refine J.spn rfl rfl rfl (fun c=>absurd es c) (fun _=>?_);refine run ?_;refine J.b1G jbC ⟨z.jt,z.ba,z.bn,z.bc,z.bs⟩ jbC_len rfl rfl rfl fun b5=>?_
  refine run ?_;refine J.b1G jbC ⟨y.jt,y.ba,y.bn,y.bc,y.bs⟩ jbC_len rfl rfl rfl fun b6=>?_
  refine run ?_;refine J.callp rfl rfl (fun w' M=>(RG.own' (a:=some ⟨b5,0,none⟩) w' M).elim fun _ k0=>(RG.own' (a:=some ⟨b6,0,none⟩) w' M).elim fun _ k1=>refSameJobs _ _ _ _ _ _ _ _ w' k0 k1 (fun j hj=>by rw[List.mem_singleton]at hj;subst hj;exact⟨⟨ZR.k.cap,ZR.k.n⟩,ZR.row.ext M.ext⟩) (fun j hj=>by rw[List.mem_singleton]at hj;subst hj;exact⟨⟨YR.k.cap,YR.k.n⟩,YR.row.ext M.ext⟩) ejb (by decide)) ?_;refine run ?_;refine J.ldp rfl ?_ (hv:=hdC_jd z.j.h) (hn:=jdC_len' z.j);refine run ?_;refine J.ldp rfl ?_ (hv:=hdC_jd y.j.h) (hn:=jdC_len' y.j);refine run ?_;refine J.callp rfl rfl (fun w' M=>refSameJdT z.j y.j w' (ZR.j.ext M.ext) (YR.j.ext M.ext) ejj) ?_;refine run ?_;exact J.nextS (i+1) ⟨rfl,trivial⟩ (by kernel_rfl) ⟨by omega,by omega⟩ (by omega)
 refine run ?_;refine J.loopS (A:=Int) (fun i=>[(8, .int .i64 i)]) [4,80,81,82,83,84,85,86,87,88,89,90,91,92,93,94,95,96,97,98] (fun i=>0≤i∧i≤p.dn) (fun i=>p.dn - i.toNat) 0 (by kernel_rfl) ⟨by omega,by omega⟩ (fun i j hI=>?_);refine run ?_;refine J.ifd rfl (fun d1=>?_) (fun d1=>?_)
 ·obtain⟨z,hz⟩:=G3.ex (i:=i) (by omega);obtain⟨y,hy⟩:=K3.ex (i:=i) (by omega);have e:=lAt e3 hz hy;have ZR:=R.d hz;have YR:=Q.d hy;refine run ?_;refine J.regionX [(0, .q),(1, .q),(2, .q),(3, .q),(4, .q),(5, .q),(6, .q),(7, .q),(8, .q),(9, .q),(10, .e),(11, .q)] mixed (by kernel_rfl) ?_;refine run ?_;refine J.callp rfl rfl (fun w' M=>refSameJdT z y w' (ZR.ext M.ext) (YR.ext M.ext) e) ?_;refine run ?_;exact J.nextS (i+1) ⟨rfl,trivial⟩ (by kernel_rfl) ⟨by omega,by omega⟩ (by omega)
 refine run ?_;exact J.fin rfl
theorem refPGreat{S0:Nat→Prop}(p:PlA)(w:World)(G:PlI S0 w p):
  Calls prog 8 #[.agg (plC p).toArray] w (Gv w (fun q:Bool=> .bool q) (fun _=>[]) fun q=>q=false→PlB p):=by
 have G1:=G.jr;have G2:=G.hr;have G3:=G.dr;have hl1:=G1.len;have hl2:=G2.len;have hl3:=G3.len;have hcp:=G.cap;refine J.enter 88 func8 rfl rfl ?_;refine run ?_;refine J.box rfl rfl rfl fun b1=>?_
 refine run ?_;refine J.spd rfl rfl rfl (fun c1=>?_) (fun c1=>?_)
 ·skip
  refine run ?_;exact J.finG true rfl (fun h=>by cases h) (List.nil_sublist _)
 refine run ?_;refine J.spd rfl rfl rfl (fun c2=>?_) (fun c2=>?_)
 ·skip
  refine run ?_;exact J.finG true rfl (fun h=>by cases h) (List.nil_sublist _)
 refine run ?_;refine J.spd rfl rfl rfl (fun c3=>?_) (fun c3=>?_)
 ·refine run ?_;refine J.spd rfl rfl rfl (fun c4=>?_) (fun c4=>?_)
  ·skip
   refine run ?_;exact J.finG true rfl (fun h=>by cases h) (List.nil_sublist _)
  refine run ?_;refine J.ifd rfl (fun c5=>?_) (fun c5=>?_)
  ·skip
   refine run ?_;exact J.finG true rfl (fun h=>by cases h) (List.nil_sublist _)
  have hdn:p.dn≤100:=by omega
  refine run ?_;refine J.loopS (A:=Int) (fun i=>[(3, .int .i64 i)]) [2,34,35,36,37,38,39,40,41,42,43,44,45,46,47,48] (fun i=>(0≤i∧i≤p.jn)∧∀(k:Nat) (z:JbA),k<i.toNat→p.js[k]? =some z→z.n≤600) (fun i=>p.jn - i.toNat) 0 (by kernel_rfl) ⟨by omega,fun k z hk=>by omega⟩ (fun i j hI=>?_);obtain⟨hi,hI⟩:=hI;refine run ?_;refine J.ifd rfl (fun d1=>?_) (fun d1=>?_)
  ·obtain⟨z,hz⟩:=G1.ex (i:=i) (by omega);refine run ?_;refine J.ifd rfl (fun d2=>?_) (fun d2=>?_)
   ·skip
    refine run ?_;exact J.finG true rfl (fun h=>by cases h) (List.nil_sublist _)
   refine run ?_;refine J.nextS (i+1) ⟨rfl,trivial⟩ (by kernel_rfl) ⟨by omega,fun k y hk hy=>?_⟩ (by omega);rcases Nat.lt_or_ge k i.toNat with e|e
   ·exact hI k y e hy
   obtain rfl:k=i.toNat:=by omega
   rw[hz]at hy;cases hy;omega
  have kj:∀z∈p.js,z.n≤600:=fun z hz=>by
   obtain⟨k,hk⟩:=List.mem_iff_getElem?.1 hz;have:=(List.getElem?_eq_some_iff.1 hk).1;exact hI k z (by omega) hk
  clear hI hi d1;refine run ?_;refine J.loopS (A:=Int) (fun i=>[(4, .int .i64 i)]) [2,49,50,51,52,53,54,55,56,57,58,59,60,61,62,63,64,65,66,67,68,69,70,71,72,73,74] (fun i=>(0≤i∧i≤p.hn)∧∀(k:Nat) (z:HdA),k<i.toNat→p.hs[k]? =some z→z.bn≤600∧z.j.o.o.n≤40∧z.j.o.o.key.size≤100∧z.j.o.o.t.size≤100) (fun i=>p.hn - i.toNat) 0 (by kernel_rfl) ⟨by omega,fun k z hk=>by omega⟩ (fun i j hI=>?_);obtain⟨hi,hI⟩:=hI;refine run ?_;refine J.ifd rfl (fun d1=>?_) (fun d1=>?_)
  ·obtain⟨z,hz⟩:=G2.ex (i:=i) (by omega);refine run ?_;refine J.spd rfl rfl rfl (fun d2=>?_) (fun d2=>?_)
   ·skip
    refine run ?_;exact J.finG true rfl (fun h=>by cases h) (List.nil_sublist _)
   refine J.want rfl rfl rfl ?_;refine J.fl rfl rfl ?_;refine J.want rfl rfl rfl ?_;refine J.ld rfl ?_;refine J.want rfl rfl rfl ?_;refine J.mv rfl ?_;refine J.want rfl rfl rfl ?_;refine J.idxG rfl rfl (RG.arg G2) ?_;refine J.want rfl rfl rfl ?_;refine J.flG rfl (RG.arg G2) ?_;refine J.want rfl rfl rfl ?_;refine J.flGG rfl (RG.arg G2) ?_;refine J.want rfl rfl rfl ?_;refine J.ldGa rfl (RG.arg G2) ?_ (q:=z) (hf:=show((hdC z).drop 5).take 11=opC z.j.o from rfl);refine J.want rfl rfl rfl ?_;refine J.call rfl rfl (fun w' M=>pLong z.j.o w') fun b hb=>?_
   refine run ?_;cases b with
   |true=>
    refine run ?_;exact J.finG true rfl (fun h=>by cases h) (List.nil_sublist _)
   |false=>
    have hb:=hb rfl;refine run ?_;refine J.nextS (i+1) ⟨rfl,trivial⟩ (by kernel_rfl) ⟨by omega,fun k y hk hy=>?_⟩ (by omega);rcases Nat.lt_or_ge k i.toNat with e|e
    ·exact hI k y e hy
    obtain rfl:k=i.toNat:=by omega
    rw[hz]at hy;cases hy;exact⟨by omega,hb⟩
  have kh:∀z∈p.hs,z.bn≤600∧z.j.o.o.n≤40∧z.j.o.o.key.size≤100∧z.j.o.o.t.size≤100:=fun z hz=>by
   obtain⟨k,hk⟩:=List.mem_iff_getElem?.1 hz;have:=(List.getElem?_eq_some_iff.1 hk).1;exact hI k z (by omega) hk
  clear hI hi d1;refine run ?_;refine J.loopS (A:=Int) (fun i=>[(5, .int .i64 i)]) [2,75,76,77,78,79,80,81,82,83,84,85,86,87,88] (fun i=>(0≤i∧i≤p.dn)∧∀(k:Nat) (z:JdA),k<i.toNat→p.ds[k]? =some z→z.o.o.n≤40∧z.o.o.key.size≤100∧z.o.o.t.size≤100) (fun i=>p.dn - i.toNat) 0 (by kernel_rfl) ⟨by omega,fun k z hk=>by omega⟩ (fun i j hI=>?_);obtain⟨hi,hI⟩:=hI;refine run ?_;refine J.ifd rfl (fun d1=>?_) (fun d1=>?_)
  ·obtain⟨z,hz⟩:=G3.ex (i:=i) (by omega)
   repeat(first|refine J.skip ?_|refine J.thn ?_|refine J.sq ?_|refine J.block ?_)
   refine J.region ?_;refine J.fl rfl rfl ?_;refine J.ld rfl ?_;refine J.mv rfl ?_;refine J.idxG rfl rfl (RG.arg G3) ?_;refine J.flG rfl (RG.arg G3) ?_;refine J.ldGa rfl (RG.arg G3) ?_ (q:=z) (hf:=show((jdC z).drop 2).take 11=opC z.o from rfl);refine J.call rfl rfl (fun w' M=>pLong z.o w') fun b hb=>?_
   refine run ?_;cases b with
   |true=>
    refine run ?_;exact J.finG true rfl (fun h=>by cases h) (List.nil_sublist _)
   |false=>
    have hb:=hb rfl;refine run ?_;refine J.nextS (i+1) ⟨rfl,trivial⟩ (by kernel_rfl) ⟨by omega,fun k y hk hy=>?_⟩ (by omega);rcases Nat.lt_or_ge k i.toNat with e|e
    ·exact hI k y e hy
    obtain rfl:k=i.toNat:=by omega
    rw[hz]at hy;cases hy;exact hb
  have kd:∀z∈p.ds,z.o.o.n≤40∧z.o.o.key.size≤100∧z.o.o.t.size≤100:=fun z hz=>by
   obtain⟨k,hk⟩:=List.mem_iff_getElem?.1 hz;have:=(List.getElem?_eq_some_iff.1 hk).1;exact hI k z (by omega) hk
  refine run ?_;exact J.finG false rfl (fun _=>⟨kj,kh,kd,by omega,by omega,by omega⟩) (List.nil_sublist _)
 refine run ?_;refine J.ifd rfl (fun c5=>?_) (fun c5=>?_)
 ·skip
  refine run ?_;exact J.finG true rfl (fun h=>by cases h) (List.nil_sublist _)
 have hdn:p.dn≤100:=by omega
 refine run ?_;refine J.loopS (A:=Int) (fun i=>[(3, .int .i64 i)]) [2,34,35,36,37,38,39,40,41,42,43,44,45,46,47,48] (fun i=>(0≤i∧i≤p.jn)∧∀(k:Nat) (z:JbA),k<i.toNat→p.js[k]? =some z→z.n≤600) (fun i=>p.jn - i.toNat) 0 (by kernel_rfl) ⟨by omega,fun k z hk=>by omega⟩ (fun i j hI=>?_);obtain⟨hi,hI⟩:=hI;refine run ?_;refine J.ifd rfl (fun d1=>?_) (fun d1=>?_)
 ·obtain⟨z,hz⟩:=G1.ex (i:=i) (by omega);refine run ?_;refine J.ifd rfl (fun d2=>?_) (fun d2=>?_)
  ·skip
   refine run ?_;exact J.finG true rfl (fun h=>by cases h) (List.nil_sublist _)
  refine run ?_;refine J.nextS (i+1) ⟨rfl,trivial⟩ (by kernel_rfl) ⟨by omega,fun k y hk hy=>?_⟩ (by omega);rcases Nat.lt_or_ge k i.toNat with e|e
  ·exact hI k y e hy
  obtain rfl:k=i.toNat:=by omega
  rw[hz]at hy;cases hy;omega
 have kj:∀z∈p.js,z.n≤600:=fun z hz=>by
  obtain⟨k,hk⟩:=List.mem_iff_getElem?.1 hz;have:=(List.getElem?_eq_some_iff.1 hk).1;exact hI k z (by omega) hk
 clear hI hi d1;refine run ?_;refine J.loopS (A:=Int) (fun i=>[(4, .int .i64 i)]) [2,49,50,51,52,53,54,55,56,57,58,59,60,61,62,63,64,65,66,67,68,69,70,71,72,73,74] (fun i=>(0≤i∧i≤p.hn)∧∀(k:Nat) (z:HdA),k<i.toNat→p.hs[k]? =some z→z.bn≤600∧z.j.o.o.n≤40∧z.j.o.o.key.size≤100∧z.j.o.o.t.size≤100) (fun i=>p.hn - i.toNat) 0 (by kernel_rfl) ⟨by omega,fun k z hk=>by omega⟩ (fun i j hI=>?_);obtain⟨hi,hI⟩:=hI;refine run ?_;refine J.ifd rfl (fun d1=>?_) (fun d1=>?_)
 ·obtain⟨z,hz⟩:=G2.ex (i:=i) (by omega);refine run ?_;refine J.spd rfl rfl rfl (fun d2=>?_) (fun d2=>?_)
  ·skip
   refine run ?_;exact J.finG true rfl (fun h=>by cases h) (List.nil_sublist _)
  refine J.want rfl rfl rfl ?_;refine J.fl rfl rfl ?_;refine J.want rfl rfl rfl ?_;refine J.ld rfl ?_;refine J.want rfl rfl rfl ?_;refine J.mv rfl ?_;refine J.want rfl rfl rfl ?_;refine J.idxG rfl rfl (RG.arg G2) ?_;refine J.want rfl rfl rfl ?_;refine J.flG rfl (RG.arg G2) ?_;refine J.want rfl rfl rfl ?_;refine J.flGG rfl (RG.arg G2) ?_;refine J.want rfl rfl rfl ?_;refine J.ldGa rfl (RG.arg G2) ?_ (q:=z) (hf:=show((hdC z).drop 5).take 11=opC z.j.o from rfl);refine J.want rfl rfl rfl ?_;refine J.call rfl rfl (fun w' M=>pLong z.j.o w') fun b hb=>?_
  refine run ?_;cases b with
  |true=>
   refine run ?_;exact J.finG true rfl (fun h=>by cases h) (List.nil_sublist _)
  |false=>
   have hb:=hb rfl;refine run ?_;refine J.nextS (i+1) ⟨rfl,trivial⟩ (by kernel_rfl) ⟨by omega,fun k y hk hy=>?_⟩ (by omega);rcases Nat.lt_or_ge k i.toNat with e|e
   ·exact hI k y e hy
   obtain rfl:k=i.toNat:=by omega
   rw[hz]at hy;cases hy;exact⟨by omega,hb⟩
 have kh:∀z∈p.hs,z.bn≤600∧z.j.o.o.n≤40∧z.j.o.o.key.size≤100∧z.j.o.o.t.size≤100:=fun z hz=>by
  obtain⟨k,hk⟩:=List.mem_iff_getElem?.1 hz;have:=(List.getElem?_eq_some_iff.1 hk).1;exact hI k z (by omega) hk
 clear hI hi d1;refine run ?_;refine J.loopS (A:=Int) (fun i=>[(5, .int .i64 i)]) [2,75,76,77,78,79,80,81,82,83,84,85,86,87,88] (fun i=>(0≤i∧i≤p.dn)∧∀(k:Nat) (z:JdA),k<i.toNat→p.ds[k]? =some z→z.o.o.n≤40∧z.o.o.key.size≤100∧z.o.o.t.size≤100) (fun i=>p.dn - i.toNat) 0 (by kernel_rfl) ⟨by omega,fun k z hk=>by omega⟩ (fun i j hI=>?_);obtain⟨hi,hI⟩:=hI;refine run ?_;refine J.ifd rfl (fun d1=>?_) (fun d1=>?_)
 ·obtain⟨z,hz⟩:=G3.ex (i:=i) (by omega)
  repeat(first|refine J.skip ?_|refine J.thn ?_|refine J.sq ?_|refine J.block ?_)
  refine J.region ?_;refine J.fl rfl rfl ?_;refine J.ld rfl ?_;refine J.mv rfl ?_;refine J.idxG rfl rfl (RG.arg G3) ?_;refine J.flG rfl (RG.arg G3) ?_;refine J.ldGa rfl (RG.arg G3) ?_ (q:=z) (hf:=show((jdC z).drop 2).take 11=opC z.o from rfl);refine J.call rfl rfl (fun w' M=>pLong z.o w') fun b hb=>?_
  refine run ?_;cases b with
  |true=>
   refine run ?_;exact J.finG true rfl (fun h=>by cases h) (List.nil_sublist _)
  |false=>
   have hb:=hb rfl;refine run ?_;refine J.nextS (i+1) ⟨rfl,trivial⟩ (by kernel_rfl) ⟨by omega,fun k y hk hy=>?_⟩ (by omega);rcases Nat.lt_or_ge k i.toNat with e|e
   ·exact hI k y e hy
   obtain rfl:k=i.toNat:=by omega
   rw[hz]at hy;cases hy;exact hb
 have kd:∀z∈p.ds,z.o.o.n≤40∧z.o.o.key.size≤100∧z.o.o.t.size≤100:=fun z hz=>by
  obtain⟨k,hk⟩:=List.mem_iff_getElem?.1 hz;have:=(List.getElem?_eq_some_iff.1 hk).1;exact hI k z (by omega) hk
 refine run ?_;exact J.finG false rfl (fun _=>⟨kj,kh,kd,by omega,by omega,by omega⟩) (List.nil_sublist _)
end W
namespace G
open Go.RowKit
def Gm{α:Type}(w:World)(S:Nat→Prop)(g:α→Value)(E:α→List Ent)(p:α→Prop)(e:Ending)(w':World):Prop:=
 ∃x,e= .returned (g x)∧p x∧Pr S w w'∧Sep (E x) (fun b=>S b∨w.heap.size≤b) w'
theorem Sep.cut:∀ {E L:List Ent} {U:Nat→Prop} {w:World},Sep (E++L) U w→∃S T:Nat→Prop,(∀b,S b→U b)∧(∀b,T b→U b)∧(∀b,S b→T b→False)∧Sep E S w∧Sep L T w
 |[],_,U,_,h=>⟨no,U,fun _ h=>h.elim,fun _ h=>h,fun _ h=>h.elim,trivial,h⟩
 |e::E,L,U,w,⟨S1,T1,g1,g2,g3,g4,g5⟩=>by
  obtain⟨S,T,h1,h2,h3,h4,h5⟩:=Sep.cut (E:=E) g5;exact⟨fun b=>S1 b∨S b,T,fun b hb=>hb.elim (g1 b) fun k=>g2 b (h1 b k),fun b hb=>g2 b (h2 b hb),fun b hb hc=>hb.elim (fun k=>g3 b k (h2 b hc)) fun k=>h3 b k hc,⟨S1,S,fun _ h=> .inl h,fun _ h=> .inr h,fun b hb hc=>g3 b hb (h1 b hc),g4,h4⟩,h5⟩
section
variable{α:Type}{f:α→List Value}{sz n c:Nat}{a:Option Addr}{lst:List α}{S:Nat→Prop}{w:World}{e:TypeId}
theorem grow_e(h:(Ent.grow f sz a n lst).ok S w):GRow f sz S w a n lst:=h
theorem grow_i(h:GRow f sz S w a n lst):(Ent.grow f sz a n lst).ok S w:=h
theorem gown_grow(h:(Ent.gown f sz e a n c lst).ok S w):(Ent.grow f sz a n lst).ok S w:=h.1.rowO.weaken fun b _ hb=>h.2 b hb
theorem GRow.tl{m:Nat}{l:List α}(h:GRow f sz S w a n l)(h1:1≤n)(hm:n≤m):GRow f sz S w (subA a 1 sz m) (n - 1) (l.drop 1):=by
 have hl:=h.len;have k:=h.sub 1 n m (Nat.le_refl _) h1 hm;rwa[List.take_of_length_le (by rw[List.length_drop];omega)]at k
end
section
variable{S0 S:Nat→Prop}{w0 w:World}{L E R:List Ent}{P:Program}{ops:Array Oper}{K:List Value→World→Prop}{rest:List (Oper×Kd)}{l:List Value}{m:Md}{d:Tmp}{ty:TypeId}{pos:String}{af:Array Edge}{kd:Kd}{f:FuncId}{args:Array Operand}{av cap:List Value}{ts:Array TypeId}{x:Operand}{v:Value}
theorem Mem.cut(M:Mem S0 w0 (E++R) w):∃S:Nat→Prop,(∀b,S b→(S0 b∨w0.heap.size≤b)∧b<w.heap.size)∧Sep E S w∧∀w' E',Pr S w w'→Sep E' (fun b=>S b∨w.heap.size≤b) w'→Mem S0 w0 (E'++R) w':=by
 obtain⟨S,T,h1,h2,h3,h4,h5⟩:=(M.sep.mono (V:=fun b=>(S0 b∨w0.heap.size≤b)∧b<w.heap.size) fun b hb hu=>⟨hu,hb⟩).cut;have hl:=M.le;refine⟨S,h1,h4,fun w' E' hp k=>⟨M.pr.prn hp fun b hb=>(h1 b hb).1,?_⟩⟩;refine k.app (h5.step fun b hb hl=>hp.block b hl fun hs=>h3 b hs hb) (fun b hb=>?_) (fun b hb=>(h2 b hb).1) fun b hb hc=>?_
 ·rcases hb with k|k
  ·exact(h1 b k).1
  ·exact .inr (by omega)
 ·rcases hb with k|k
  ·exact h3 b k hc
  ·have:=(h2 b hc).2;omega
theorem J.callM{α:Type}(x0:α){g:α→Value}{Ex E':α→List Ent}{p:α→Prop}{l':α→List Value}[N:Ents P f](ha:args.toList.map (ev l)=av)(hL:L=E++R)(h:∀w S,Mem S0 w0 L w→(∀b,S b→S0 b∨w0.heap.size≤b)→Sep E S w→Calls P f av.toArray w (Gm w S g Ex p))(k:∀x,p x→J S0 w0 (E' x) (RY S0 w0 m P ops K rest (l' x)))
  (hE:∀x,Ex x++R=E' x:=by intro x;dsimp only[List.cons_append,List.nil_append])(hl:∀x,l.set d (g x)=l' x:=by intro x;dsimp only[List.set])(hk:∀x,okG m kd (E' x):=by first|exact fun _=>trivial|(intro _;repeat(first|exact List.Sublist.refl _|refine List.Sublist.cons_cons _ ?_|refine List.Sublist.cons _ ?_))):
  J S0 w0 L (RY S0 w0 m P ops K ((⟨some d, .call {callee:= .value (.func f),args:=args,argTypes:=ts},ty,pos,af,none⟩,kd)::rest) l):=
 J.bigs x0 hk fun w M K' hK=>by
  subst hL;obtain⟨S,hs0,hs,hm⟩:=M.cut;refine RS.callx N.h (h w S M (fun b hb=>(hs0 b hb).1) hs) ha fun nd w' hR=>?_
  obtain⟨x,h1,h2,h3,h4⟩:=hR;refine⟨_,h1,RS.nil ?_⟩;have M':=hm w' (Ex x) h3 h4;rw[hE]at M';refine hK _ w' x M' ?_;rw[hl];exact k x h2 w' M'
theorem callb_run{dd:Option Tmp}{fs:Array Value}{av:Array Value}(he:Enters P f)(hx:ev l x= .func (.func f) fs #[])(ha:fs++args.map (ev l)=av):
  (execOp (ev l) ⟨dd, .call {callee:= .value x,args:=args,argTypes:=ts},ty,pos,af,none⟩).run P w= .ok (.enter f av) w:=by
 obtain⟨fn,h1,h2,h3⟩:=he;have h4:¬fn.name= "runtime.NumGoroutine" :=by simpa using h2
 have h5:¬fn.body=none:=by intro e;simp[e]at h3
 simp only[execOp,resolve];rw[hx,←ha];simp[Deferred.ofValue,invoke,callFunc,h1,h4,h5,program,Sem.run]
theorem RS.callb{fs:List Value}{rest:List Oper}{R:Ending→World→Prop}(he:Enters P f)(h:Calls P f av.toArray w R)(hx:ev l x= .func (.func f) fs.toArray #[])(ha:fs++args.toList.map (ev l)=av)
  (k:∀e w',R e w'→∃v,e= .returned v∧RS P ops K rest (l.set d v) w'):
  RS P ops K (⟨some d, .call {callee:= .value x,args:=args,argTypes:=ts},ty,pos,af,none⟩::rest) l w:=by
 unfold RS;rw[if_pos (by simp[Region.wanted])];unfold Oper.wp;rw[eval_fr,callb_run he hx (show fs.toArray++args.map (ev l)=av.toArray by rw[args_map rfl,←ha];simp)];simp only[Oper.upon];refine h.mono fun e w' hR=>?_
 obtain⟨v,rfl,hk⟩:=k e w' hR;exact⟨_,put_fr _ _ _,hk⟩
theorem J.callMb{α:Type}(x0:α){fs:List Value}{g:α→Value}{Ex E':α→List Ent}{p:α→Prop}{l':α→List Value}[N:Ents P f](hx:ev l x= .func (.func f) fs.toArray #[])(ha:fs++args.toList.map (ev l)=av)(hL:L=E++R)(h:∀w S,Mem S0 w0 L w→(∀b,S b→S0 b∨w0.heap.size≤b)→Sep E S w→Calls P f av.toArray w (Gm w S g Ex p))(k:∀x,p x→J S0 w0 (E' x) (RY S0 w0 m P ops K rest (l' x)))
  (hE:∀x,Ex x++R=E' x:=by intro x;dsimp only[List.cons_append,List.nil_append])(hl:∀x,l.set d (g x)=l' x:=by intro x;dsimp only[List.set])(hk:∀x,okG m kd (E' x):=by first|exact fun _=>trivial|(intro _;repeat(first|exact List.Sublist.refl _|refine List.Sublist.cons_cons _ ?_|refine List.Sublist.cons _ ?_))):
  J S0 w0 L (RY S0 w0 m P ops K ((⟨some d, .call {callee:= .value x,args:=args,argTypes:=ts},ty,pos,af,none⟩,kd)::rest) l):=
 J.bigs x0 hk fun w M K' hK=>by
  subst hL;obtain⟨S,hs0,hs,hm⟩:=M.cut;refine RS.callb N.h (h w S M (fun b hb=>(hs0 b hb).1) hs) hx ha fun nd w' hR=>?_
  obtain⟨x,h1,h2,h3,h4⟩:=hR;refine⟨_,h1,RS.nil ?_⟩;have M':=hm w' (Ex x) h3 h4;rw[hE]at M';refine hK _ w' x M' ?_;rw[hl];exact k x h2 w' M'
theorem J.enterM{fn:Func}{c0:Code}{Q:Ending→World→Prop}(u:Nat)(hE:Sep E S w0)(hf:P.funcs[f]? =some fn)(hb:fn.body=some c0)(hu:fn.ntmps - av.length=u)(h:J S w0 E (c0.wp P (bodyPost P fn Q) (fr l)))(hl:av++List.replicate u undef=l:=by dsimp only[List.reduceReplicate,List.cons_append,List.nil_append]):Calls P f av.toArray w0 Q:=
 enterU u hf hb hu (h w0 ⟨Pr.refl _ _,hE.mono fun b _ hb=> .inl hb⟩) hl
theorem J.finM{α:Type}{g:α→Value}{Ex:α→List Ent}{p:α→Prop}(x:α)(h:v=g x)(hp:p x)(hs:(Ex x).Sublist L):J S w0 L (Gm w0 S g Ex p (.returned v)):=fun w M=>⟨x,by rw[h],hp,M.pr,M.sep.sub hs⟩
end
section
variable{S0:Nat→Prop}{w0:World}{L:List Ent}{P:Program}{ops:Array Oper}{K:List Value→World→Prop}{rest:List (Oper×Kd)}{l l':List Value}{m:Md}{d:Tmp}{ty xt:TypeId}{pos:String}{af:Array Edge}{kd:Kd}{x:Operand}{sz n:Nat}{a:Option Addr}{i:Int}{α:Type}{f:α→List Value}{lst:List α}{vs:List Value}
theorem J.ldGe{off s1:Nat}[U:Agg P xt s1](hk:okE m kd=true)(hx:ev l x=pt a (i.toNat*sz+off))(hR:RG S0 w0 L f sz a n lst)(kk:J S0 w0 L (RY S0 w0 m P ops K rest l')){q:α}(hq:lst[i.toNat]? =some q:=by assumption)(hf:((f q).drop off).take s1=vs:=by dsimp only[List.drop,List.take])(hn:vs.length=s1:=by rfl)(ho:Nat.ble (off+s1) sz=true:=by rfl)(hs1:s1≠0:=by decide)(hi:0≤i∧i<n:=by omega)(hl:l.set d (.agg vs.toArray)=l':=by dsimp only[List.set]):
  J S0 w0 L (RY S0 w0 m P ops K ((⟨some d, .load xt x,ty,pos,af,none⟩,kd)::rest) l):=
 J.eff hk fun w M K' hK => RS.o (by
  obtain ⟨S, h⟩ := hR w M
  have ho := Nat.le_of_ble_eq_true ho
  obtain ⟨b, o', ha, _, hc⟩ := h.get (by omega) hq hi
  obtain ⟨_, u1, u2, u3⟩ := U.h
  refine D.loadAgg (by rw [hx, pt_some ha]) u1 u2 u3 hs1 hn ?_
  intro j hj
  have h1 := hc (off + j) (by rw [h.szf]; omega)
  rw [show o' + i.toNat * sz + (off + j) = o' + (i.toNat * sz + off) + j by omega] at h1
  rw [h1, ← hf]
  simp only [List.getD_eq_getElem?_getD, List.getElem?_take, List.getElem?_drop]
  rw [if_pos (by omega)]) (RS.nil (hK _ w (Ext.refl w) (kk w M))) hl
end
end G
namespace S
open G
def ofJ(t:Int)(b:List Int):JdV:=⟨t,jdV b,jdO b,jdI b⟩
def stgP(v:PlV)(i:Nat):HdV:=v.hs.getD i HdV.zero
def canP(v:PlV)(i:Nat):Prop:=((stgP v i).s=0∧0<v.js.length)∨(stgP v i).s=1∨((stgP v i).s≠0∧(stgP v i).s≠1∧v.ds.length<60)
noncomputable instance(v:PlV)(i:Nat):Decidable (canP v i):=Classical.propDecidable _
def insL(l:List JdV)(k:Nat)(d:JdV):List JdV:=l.take k++d::l.drop k
noncomputable def didP(v:PlV)(i:Nat):PlV:=
 if(stgP v i).s=0 then⟨v.cap,v.js.drop 1,v.hs.set i ⟨1,(v.js.getD 0 JbV.zero).t,(v.js.getD 0 JbV.zero).b,JdV.zero⟩,v.ds⟩
 else if(stgP v i).s=1 then⟨v.cap,v.js,v.hs.set i ⟨2,0,[],ofJ (stgP v i).jt (stgP v i).b⟩,v.ds⟩
 else⟨v.cap,v.js,v.hs.set i HdV.zero,insL v.ds (spT v (stgP v i).j.t) (stgP v i).j⟩
noncomputable def stepP(v:PlV)(i:Nat):PlV:=if canP v i then didP v i else v
noncomputable def stepN(v:PlV)(i:Nat):Nat:=if canP v i then 1 else 0
noncomputable def runP:PlV→List Nat→PlV
 |v,[]=>v
 |v,i::l=>runP (stepP v i) l
noncomputable def runN:PlV→List Nat→Nat
 |_,[]=>0
 |v,i::l=>stepN v i+runN (stepP v i) l
theorem runP_app:∀(l m:List Nat) (v:PlV),runP v (l++m)=runP (runP v l) m
 |[],_,_=>rfl
 |i::l,m,v=>runP_app l m (stepP v i)
theorem runN_app:∀(l m:List Nat) (v:PlV),runN v (l++m)=runN v l+runN (runP v l) m
 |[],m,v=>(Nat.zero_add _).symm
 |i::l,m,v=>by
  show stepN v i+runN (stepP v i) (l++m)=stepN v i+runN (stepP v i) l+_;rw[runN_app l m,Nat.add_assoc];rfl
theorem runP_snoc(v:PlV)(l:List Nat)(i:Nat):runP v (l++[i])=stepP (runP v l) i:=runP_app l [i] v
theorem runN_snoc(v:PlV)(l:List Nat)(i:Nat):runN v (l++[i])=runN v l+stepN (runP v l) i:=by rw[runN_app];rfl
structure Vld(v:PlV):Prop where
 c:C1 v
 d:∀x∈v.ds,FindP x
 ds:v.dT.Pairwise (· < ·)
 h:∀x∈v.hs,handP x
 j:∀x∈v.js,TickP x.t
 js:v.jT.Pairwise (· < ·)
 nd:v.tk.Nodup
 lt:∀x∈v.tk,∀y∈v.jT,x<y
theorem srt_iff{l:List Int}:(∀k,k<l.length→0<k→l.getD (k - 1) 0<l.getD k 0)↔l.Pairwise (· < ·):=by
 rw[List.pairwise_iff_getElem];have g:∀i (h:i<l.length),l.getD i 0=l[i]:=fun i h=>by rw[List.getD_eq_getElem?_getD,List.getElem?_eq_getElem h];rfl
 constructor
 ·intro h i j hi hj hij;have:=rise_lt h hij hj;rwa[g i hi,g j hj]at this
 ·intro h k hk h0;rw[g _ (by omega),g _ hk];exact h (k - 1) k (by omega) hk (by omega)
theorem allD{α:Type}{l:List α}{z:α}{Q:α→Prop}:(∀k,k<l.length→Q (l.getD k z))↔∀x∈l,Q x:=by
 constructor
 ·intro h x hx;obtain⟨i,hi,rfl⟩:=List.mem_iff_getElem.1 hx;have:=h i hi;rwa[List.getD_eq_getElem?_getD,List.getElem?_eq_getElem hi,Option.getD_some]at this
 ·intro h k hk;rw[List.getD_eq_getElem?_getD,List.getElem?_eq_getElem hk,Option.getD_some];exact h _ (List.getElem_mem hk)
theorem vld_iff(v:PlV):vldP v↔Vld v:=by
 rw[vldP_iff];have e1:C2 v↔(∀x∈v.ds,FindP x)∧v.dT.Pairwise (· < ·):=by
  rw[←srt_iff,←allD (z:=JdV.zero)];unfold C2 dn1;simp only[List.length_map];exact⟨fun h=>⟨fun k hk=>(h k hk).1,fun k hk=>(h k hk).2⟩,fun h k hk=>⟨h.1 k hk,h.2 k hk⟩⟩
 have e2:R3 v↔∀x∈v.hs,handP x:=allD (z:=HdV.zero);have e3:R4 v↔(∀x∈v.js,TickP x.t)∧v.jT.Pairwise (· < ·):=by
  rw[←srt_iff];have e:(∀x∈v.js,TickP x.t)↔∀x∈v.jT,TickP x:=by simp[PlV.jT]
  rw[e,mem_getD];unfold R4 jb2;simp only[List.length_map];exact⟨fun h=>⟨fun k hk=>(h k hk).1,fun k hk=>(h k hk).2⟩,fun h k hk=>⟨h.1 k hk,h.2 k hk⟩⟩
 have e4:v.jT.Pairwise (· < ·)→(R5 v↔v.tk.Nodup∧∀x∈v.tk,∀y∈v.jT,x<y):=by
  intro hs;have a:(0<v.js.length→∀x∈v.tk,x<v.jT.getD 0 0)↔∀x∈v.tk,∀y∈v.jT,x<y:=by
   have el:v.js.length=v.jT.length:=(List.length_map _).symm;rw[el];generalize v.jT=J at hs;cases J with
   |nil=>simp
   |cons j J=>
    rw[List.pairwise_cons]at hs;simp only[List.length_cons,List.getD_cons_zero];constructor
    ·intro h x hx y hy;have h1:=h (by omega) x hx;rcases List.mem_cons.1 hy with rfl|hy
     ·exact h1
     ·exact Int.lt_trans h1 (hs.1 y hy)
    ·exact fun h _ x hx=>h x hx _ (List.mem_cons_self ..)
  unfold R5 tk1;rw[nodup_of,←a];constructor
  ·exact fun h=>⟨fun i hi=>(h i hi).1,fun h0=>mem_getD.2 fun i hi=>(h i hi).2 h0⟩
  ·exact fun h i hi=>⟨h.1 i hi,fun h0=>mem_getD.1 (h.2 h0) i hi⟩
 constructor
 ·rintro⟨h1,h2,h3,h4,h5⟩;have k2:=e1.1 h2;have k4:=e3.1 h4;have k5:=(e4 k4.2).1 h5;exact⟨h1,k2.1,k2.2,e2.1 h3,k4.1,k4.2,k5.1,k5.2⟩
 ·intro h;exact⟨h.c,e1.2 ⟨h.d,h.ds⟩,e2.2 h.h,e3.2 ⟨h.j,h.js⟩,(e4 h.js).2 ⟨h.nd,h.lt⟩⟩
theorem spl_at{α:Type}{l:List α}{i:Nat}(z:α)(hi:i<l.length):∃A B,l=A++l.getD i z::B∧A.length=i∧∀y,l.set i y=A++y::B:=by
 refine⟨l.take i,l.drop (i+1),?_,List.length_take_of_le (by omega),fun y=>?_⟩
 ·rw[List.getD_eq_getElem?_getD,List.getElem?_eq_getElem hi,Option.getD_some,←List.drop_eq_getElem_cons hi,List.take_append_drop]
 ·rw[List.set_eq_take_append_cons_drop,if_pos hi]
theorem noO_zero:NoO OpV.zero (List.replicate 32 0):=⟨⟨rfl,rfl,rfl,⟨rfl,rfl,rfl,rfl,rfl,rfl⟩,rfl,rfl⟩,rfl⟩
theorem judZ_zero{s t:Int}{b:List Int}:judZ ⟨s,t,b,JdV.zero⟩:=⟨noO_zero,rfl,rfl⟩
theorem find_of{t:Int}{b:List Int}(ht:TickP t):FindP (ofJ t b):=by
 refine⟨ht,?_⟩;have hb:=jd_bd b;by_cases h:jdV b=0
 ·obtain⟨h1,h2⟩:=jd_zero h;refine .inl ⟨h,?_,?_⟩
  ·show verE (jdO b)=0;rw[h1];unfold jdV at h;split at h
   ·cases h
   ·split at h
    ·split at h
     ·assumption
     ·cases h
    ·cases h
  ·show idOf (jdO b)=jdI b;rw[h1,h2]
 ·obtain⟨h1,h2⟩:=jd_ne h;refine .inr ⟨?_,?_⟩
  ·show jdV b=2∨jdV b=3∨jdV b=4;omega
  ·show NoO (jdO b) (jdI b);rw[h1,h2];exact noO_zero
section
variable{cap:Int}{js:List JbV}{A B:List HdV}{h0:HdV}{ds:List JdV}{j:JbV}
theorem tk_mid(x:HdV):PlV.tk ⟨cap,js,A++x::B,ds⟩=ds.map JdV.t++(A.flatMap handL++(handL x++B.flatMap handL)):=by
 unfold PlV.tk;rw[List.flatMap_append,List.flatMap_cons]
theorem hands_mid{Q:HdV→Prop}{x:HdV}(h:∀y∈A++h0::B,Q y)(hx:Q x):∀y∈A++x::B,Q y:=fun y hy=>by
 rcases List.mem_append.1 hy with k|k
 ·exact h y (List.mem_append_left _ k)
 ·rcases List.mem_cons.1 k with rfl|k
  ·exact hx
  ·exact h y (List.mem_append_right _ (List.mem_cons_of_mem _ k))
theorem len_mid(x:HdV):(A++x::B).length=(A++h0::B).length:=by rw[List.length_append,List.length_append];rfl
theorem did_take(h:Vld ⟨cap,j::js,A++h0::B,ds⟩)(hz:h0.s=0):Vld ⟨cap,js,A++⟨1,j.t,j.b,JdV.zero⟩::B,ds⟩:=by
 have hnd:=h.nd;have hlt:=h.lt;have hj:=h.js;have e0:handL h0=[]:=by unfold handL;rw[if_neg (by omega),if_neg (by omega)]
 rw[tk_mid,e0,List.nil_append]at hnd hlt;have e1:PlV.tk ⟨cap,js,A++⟨1,j.t,j.b,JdV.zero⟩::B,ds⟩=ds.map JdV.t++(A.flatMap handL++j.t::B.flatMap handL):=by rw[tk_mid];rfl
 have ej:PlV.jT ⟨cap,j::js,A++h0::B,ds⟩=j.t::js.map JbV.t:=rfl;rw[ej]at hlt hj;rw[List.pairwise_cons]at hj;have hp:List.Perm (ds.map JdV.t++(A.flatMap handL++j.t::B.flatMap handL)) (j.t::(ds.map JdV.t++(A.flatMap handL++B.flatMap handL))):=
  (List.Perm.append_left _ List.perm_middle).trans List.perm_middle
 refine⟨?_,h.d,h.ds,hands_mid h.h (.inr (.inl ⟨rfl,judZ_zero,h.j j (List.mem_cons_self ..)⟩)),fun x hx=>h.j x (List.mem_cons_of_mem _ hx),hj.2,?_,?_⟩
 ·obtain⟨c1,c2,c3,c4,c5,c6⟩:=h.c;have el:=len_mid (A:=A) (B:=B) (h0:=h0) ⟨1,j.t,j.b,JdV.zero⟩;refine⟨c1,c2,?_,?_,?_,c6⟩
  ·have:(((j::js).length:Nat):Int)≤cap:=c3;rw[List.length_cons]at this;show((js.length:Nat):Int)≤cap;omega
  ·show 1≤(A++_::B).length;rw[el];exact c4
  ·show(A++_::B).length≤3;rw[el];exact c5
 ·rw[e1,hp.nodup_iff,List.nodup_cons];exact⟨fun hm=>by have:=hlt _ hm _ (List.mem_cons_self ..);omega,hnd⟩
 ·rw[e1];intro x hx y hy;rcases List.mem_cons.1 (hp.mem_iff.1 hx)with rfl|hx
  ·exact hj.1 y hy
  ·exact hlt x hx y (List.mem_cons_of_mem _ hy)
theorem did_judge(h:Vld ⟨cap,js,A++h0::B,ds⟩)(hz:h0.s=1):Vld ⟨cap,js,A++⟨2,0,[],ofJ h0.jt h0.b⟩::B,ds⟩:=by
 have e:PlV.tk ⟨cap,js,A++⟨2,0,[],ofJ h0.jt h0.b⟩::B,ds⟩=PlV.tk ⟨cap,js,A++h0::B,ds⟩:=by
  rw[tk_mid,tk_mid];have:handL h0=[h0.jt]:=if_pos hz;rw[this];rfl
 have hp:=h.h h0 (List.mem_append_right _ (List.mem_cons_self ..));have ht:TickP h0.jt:=by
  rcases hp with k|k|k
  ·have:=k.1;omega
  ·exact k.2.2
  ·have:=k.1;omega
 have el:=len_mid (A:=A) (B:=B) (h0:=h0) ⟨2,0,[],ofJ h0.jt h0.b⟩;refine⟨?_,h.d,h.ds,hands_mid h.h (.inr (.inr ⟨rfl,⟨rfl,rfl⟩,find_of ht⟩)),h.j,h.js,by rw[e];exact h.nd,by rw[e];exact h.lt⟩;obtain⟨c1,c2,c3,c4,c5,c6⟩:=h.c;refine⟨c1,c2,c3,?_,?_,c6⟩
 ·show 1≤(A++_::B).length;rw[el];exact c4
 ·show(A++_::B).length≤3;rw[el];exact c5
theorem insL_map(k:Nat)(d:JdV):(insL ds k d).map JdV.t=(ds.map JdV.t).take k++d.t::(ds.map JdV.t).drop k:=by
 unfold insL;rw[List.map_append,List.map_cons,List.map_take,List.map_drop]
theorem insL_perm(k:Nat)(d:JdV):List.Perm (insL ds k d) (d::ds):=by
 unfold insL;refine List.perm_middle.trans ?_;rw[List.take_append_drop]
theorem did_put{k:Nat}(h:Vld ⟨cap,js,A++h0::B,ds⟩)(hz:h0.s=2)(hl:ds.length<60)(k1:∀x∈(ds.map JdV.t).take k,x<h0.j.t)(k2:∀x∈(ds.map JdV.t).drop k,h0.j.t<x):Vld ⟨cap,js,A++HdV.zero::B,insL ds k h0.j⟩:=by
 have e0:handL h0=[h0.j.t]:=by unfold handL;rw[if_neg (by omega),if_pos hz]
 have hnd:=h.nd;have hlt:=h.lt;rw[tk_mid,e0]at hnd hlt;have e1:PlV.tk ⟨cap,js,A++HdV.zero::B,insL ds k h0.j⟩=(insL ds k h0.j).map JdV.t++(A.flatMap handL++B.flatMap handL):=by rw[tk_mid];rfl
 have hp:List.Perm ((insL ds k h0.j).map JdV.t++(A.flatMap handL++B.flatMap handL)) (ds.map JdV.t++(A.flatMap handL++([h0.j.t]++B.flatMap handL))):=by
  refine(((insL_perm k h0.j).map JdV.t).append_right _).trans ?_;show List.Perm (h0.j.t::(ds.map JdV.t++(A.flatMap handL++B.flatMap handL))) _;refine List.perm_middle.symm.trans (List.Perm.append_left _ ?_);exact List.perm_middle.symm
 have hp0:=h.h h0 (List.mem_append_right _ (List.mem_cons_self ..));have hf:FindP h0.j:=by
  rcases hp0 with k|k|k
  ·have:=k.1;omega
  ·have:=k.1;omega
  ·exact k.2.2
 have el:=len_mid (A:=A) (B:=B) (h0:=h0) HdV.zero;have il:(insL ds k h0.j).length=ds.length+1:=(insL_perm k h0.j).length_eq;refine⟨?_,?_,?_,hands_mid h.h (.inl ⟨rfl,⟨rfl,rfl⟩,judZ_zero⟩),h.j,h.js,?_,?_⟩
 ·obtain⟨c1,c2,c3,c4,c5,c6⟩:=h.c;refine⟨c1,c2,c3,?_,?_,?_⟩
  ·show 1≤(A++_::B).length;rw[el];exact c4
  ·show(A++_::B).length≤3;rw[el];exact c5
  ·show(insL ds k h0.j).length≤60;omega
 ·intro x hx;rcases List.mem_cons.1 ((insL_perm k h0.j).mem_iff.1 hx)with rfl|hx
  ·exact hf
  ·exact h.d x hx
 ·show((insL ds k h0.j).map JdV.t).Pairwise (· < ·);have hs:(ds.map JdV.t).Pairwise (· < ·):=h.ds;rw[insL_map];rw[←List.take_append_drop k (ds.map JdV.t),List.pairwise_append]at hs;rw[List.pairwise_append,List.pairwise_cons];refine⟨hs.1,⟨k2,hs.2.1⟩,fun a ha b hb=>?_⟩;rcases List.mem_cons.1 hb with rfl|hb
  ·exact k1 a ha
  ·exact hs.2.2 a ha b hb
 ·rw[e1,hp.nodup_iff];exact hnd
 ·rw[e1];intro x hx y hy;exact hlt x (hp.mem_iff.1 hx) y hy
end
theorem spT_cut{v:PlV}{n:Int}(h2:C2 v)(hn:¬n∈v.dT):(∀x∈v.dT.take (spT v n),x<n)∧∀x∈v.dT.drop (spT v n),n<x:=by
 have hl:v.dT.length=v.ds.length:=List.length_map _;have g:∀i (h:i<v.dT.length),v.dT[i]=(v.ds.getD i JdV.zero).t:=fun i h=>by
  rw[←dT_at v (by omega),List.getD_eq_getElem?_getD,List.getElem?_eq_getElem h];rfl
 constructor
 ·intro x hx;obtain⟨i,hi,rfl⟩:=List.mem_iff_getElem.1 hx;rw[List.length_take]at hi;rw[List.getElem_take,g i (by omega)];exact spT_lo (by omega)
 ·intro x hx;obtain⟨i,hi,rfl⟩:=List.mem_iff_getElem.1 hx;rw[List.length_drop]at hi;have hk:spT v n+i<v.dT.length:=by omega
  have h0:0≤cT v n (spT v n):=spotC_ge (c:=cT v n) (show spT v n<v.ds.length by omega);have h1:0≤cT v n (spT v n+i):=by
   apply Classical.byContradiction;intro hc;rcases Nat.eq_zero_or_pos i with h|h
   ·subst h;exact hc h0
   ·have:=mono_T h2 n (i:=spT v n) (j:=spT v n+i) (by omega) (by omega) (by omega);omega
  have h3:v.dT[spT v n+i]≠n:=fun he=>hn (he▸List.getElem_mem hk);rw[List.getElem_drop];rw[g _ hk]at h3⊢;unfold cT at h1;have:=cmT_lt (t:=(v.ds.getD (spT v n+i) JdV.zero).t) (n:=n);omega
theorem dT_mem{v:PlV}{k:Nat}(hk:k<v.ds.length):v.dT.drop k=(v.ds.getD k JdV.zero).t::v.dT.drop (k+1):=by
 have hl:k<v.dT.length:=by rw[List.length_map];exact hk
 rw[List.drop_eq_getElem_cons hl,←dT_at v hk,List.getD_eq_getElem?_getD,List.getElem?_eq_getElem hl];rfl
theorem cT_ge{v:PlV}{n:Int}{k:Nat}(h:∀x∈v.dT.drop k,n<x)(hk:k<v.ds.length):0≤cT v n k:=by
 rw[dT_mem hk]at h;have h1:=h _ (List.mem_cons_self ..);unfold cT;have:=cmT_lt (t:=(v.ds.getD k JdV.zero).t) (n:=n);omega
theorem cT_lo{v:PlV}{n:Int}(h2:C2 v)(hno:¬n∈v.dT){k:Nat}(hk:k<v.ds.length)(hle:(v.ds.getD k JdV.zero).t≤n)(m:Nat)(hm:m<k+1):cT v n m<0:=by
 have hl:v.dT.length=v.ds.length:=List.length_map _
 have hne : (v.ds.getD k JdV.zero).t ≠ n := fun e => hno (by
  rw [← e, ← dT_at v hk, List.getD_eq_getElem?_getD, List.getElem?_eq_getElem (by omega), Option.getD_some]
  exact List.getElem_mem _)
 unfold cT;rw[cmT_lt];rcases Nat.lt_or_ge m k with c|c
 ·have:=rise_lt h2.rise c (by omega);rw[dT_at v (by omega),dT_at v hk]at this;omega
 ·obtain rfl:m=k:=by omega
  omega
theorem drop_gt{v:PlV}{n:Int}{k:Nat}(h:∀x∈v.dT.drop (k+1),n<x)(hk:k<v.ds.length)(hlt:n<(v.ds.getD k JdV.zero).t):∀x∈v.dT.drop k,n<x:=by
 rw[dT_mem hk];intro x hx;rcases List.mem_cons.1 hx with rfl|hx
 ·exact hlt
 ·exact h x hx
theorem hand_s{h:HdV}(hp:handP h):h.s=0∨h.s=1∨h.s=2:=by
 rcases hp with k|k|k
 ·exact .inl k.1
 ·exact .inr (.inl k.1)
 ·exact .inr (.inr k.1)
theorem Vld.c2{v:PlV}(h:Vld v):C2 v:=((vldP_iff v).1 ((vld_iff v).2 h)).2.1
theorem Vld.hand{v:PlV}(h:Vld v){i:Nat}(hi:i<v.hs.length):handP (stgP v i):=by
 unfold stgP;rw[List.getD_eq_getElem?_getD,List.getElem?_eq_getElem hi,Option.getD_some];exact h.h _ (List.getElem_mem hi)
theorem Vld.out{v:PlV}(h:Vld v){i:Nat}(hi:i<v.hs.length)(h2:(stgP v i).s=2):¬(stgP v i).j.t∈v.dT:=by
 obtain⟨A,B,e,hl,hs⟩:=spl_at HdV.zero hi;obtain⟨cap,js,H,ds⟩:=v;have e':H=A++stgP ⟨cap,js,H,ds⟩ i::B:=e;generalize stgP ⟨cap,js,H,ds⟩ i=h0 at e' h2;subst e';have hnd:=h.nd;have e0:handL h0=[h0.j.t]:=by unfold handL;rw[if_neg (by omega),if_pos h2]
 rw[tk_mid,e0]at hnd;intro hm;have:=(List.nodup_append.1 hnd).2.2 _ hm h0.j.t (List.mem_append_right _ (List.mem_append_left _ (List.mem_singleton_self _)));exact this rfl
theorem Vld.did{v:PlV}{i:Nat}(h:Vld v)(hi:i<v.hs.length)(hc:canP v i):Vld (didP v i):=by
 have hp:=h.hand hi;have ho:=h.out hi;have h2:=h.c2;obtain⟨A,B,e,hl,hs⟩:=spl_at HdV.zero hi;obtain⟨cap,js,H,ds⟩:=v;unfold didP;have e':H=A++stgP ⟨cap,js,H,ds⟩ i::B:=e;rcases hc with⟨c0,c1⟩|c1|⟨c0,c1,c2⟩
 ·rw[if_pos c0];cases js with
  |nil=>exact absurd c1 (by simp)
  |cons j js=>
   dsimp only at hs⊢;rw[hs];rw[e']at h;exact did_take h c0
 ·rw[if_neg (by omega),if_pos c1];dsimp only at hs⊢;rw[hs];rw[e']at h;exact did_judge h c1
 ·have c3:(stgP ⟨cap,js,H,ds⟩ i).s=2:=by have:=hand_s hp;omega
  rw[if_neg c0,if_neg c1];obtain⟨k1,k2⟩:=spT_cut h2 (ho c3);dsimp only at hs⊢;rw[hs];rw[e']at h;exact did_put h c3 c2 k1 k2
theorem Vld.step{v:PlV}{i:Nat}(h:Vld v)(hi:i<v.hs.length):Vld (stepP v i):=by
 unfold stepP;split
 ·exact h.did hi (by assumption)
 ·exact h
theorem did_hs(v:PlV)(i:Nat):(didP v i).hs.length=v.hs.length:=by
 unfold didP;split
 ·exact List.length_set ..
 ·split<;>exact List.length_set ..
theorem step_hs(v:PlV)(i:Nat):(stepP v i).hs.length=v.hs.length:=by
 unfold stepP;split
 ·exact did_hs v i
 ·rfl
theorem run_hs:∀(l:List Nat) (v:PlV),(runP v l).hs.length=v.hs.length
 |[],_=>rfl
 |i::l,v=>(run_hs l (stepP v i)).trans (step_hs v i)
theorem Vld.run:∀ {l:List Nat} {v:PlV},Vld v→(∀i∈l,i<v.hs.length)→Vld (runP v l)
 |[],_,h,_=>h
 |i::l,v,h,k=>Vld.run (l:=l) (v:=stepP v i) (h.step (k i (List.mem_cons_self ..))) fun j hj=>by rw[step_hs];exact k j (List.mem_cons_of_mem _ hj)
def pkP(v:PlV)(l:List Int):Prop:=∀x∈l,0≤x∧x<v.hs.length
noncomputable instance(v:PlV)(l:List Int):Decidable (pkP v l):=Classical.propDecidable _
noncomputable def runE(v:PlV)(l:List Int):Int:=if ¬vldP v then 8 else if 300<l.length then 4 else if pkP v l then 0 else 2
noncomputable def runV(v:PlV)(l:List Int):PlV:=if runE v l=0 then runP v (l.map Int.toNat)else PlV.zero
noncomputable def runM(v:PlV)(l:List Int):Nat:=if runE v l=0 then runN v (l.map Int.toNat)else 0
section
variable{v:PlV}{l:List Int}
theorem runE_8(h:¬vldP v):runE v l=8:=if_pos h
theorem runE_4(h:vldP v)(h2:300<l.length):runE v l=4:=by unfold runE;rw[if_neg (not_not_intro h),if_pos h2]
theorem runE_2(h:vldP v)(h2:¬300<l.length)(h3:¬pkP v l):runE v l=2:=by unfold runE;rw[if_neg (not_not_intro h),if_neg h2,if_neg h3]
theorem runE_0(h:vldP v)(h2:¬300<l.length)(h3:pkP v l):runE v l=0:=by unfold runE;rw[if_neg (not_not_intro h),if_neg h2,if_pos h3]
theorem run_no(h:runE v l≠0):runV v l=PlV.zero∧runM v l=0:=⟨if_neg h,if_neg h⟩
theorem run_yes(h:runE v l=0):runV v l=runP v (l.map Int.toNat)∧runM v l=runN v (l.map Int.toNat):=⟨if_pos h,if_pos h⟩
theorem runE_in(h:runE v l=0):vldP v∧¬300<l.length∧pkP v l:=by
 unfold runE at h;split at h
 ·cases h
 ·split at h
  ·cases h
  ·split at h
   ·exact⟨Classical.byContradiction fun k=>by contradiction,by assumption,by assumption⟩
   ·cases h
end
end S
namespace W
open Go.RowKit G
set_option maxRecDepth 20000
set_option maxHeartbeats 8000000
attribute [local irreducible] RS RX RY Code.wp bodyPost J Ent.blk Ent.irow Ent.iown Ent.wrow Ent.wown Ent.grow Ent.gown Ent.all Ent.emp
instance:Fld prog 112 0 0:=⟨_,_,1,underlying112,rfl,by kernel_rfl,by decide,rfl⟩
instance:Sca prog 86:=⟨_,underlying86,rfl⟩
instance:Fld prog 112 1 1:=⟨_,_,1,underlying112,rfl,by kernel_rfl,by decide,rfl⟩
instance:Sca prog 110:=⟨_,underlying110,rfl⟩
theorem jdC_cell(z:JdA):∀u∈jdC z,cellB u=true:=List.all_eq_true.1 (jdC_cells z)
theorem jdC_1(x:JdA):List.take (1*45) (List.flatMap jdC [x])=jdC x:=by
 rw[List.flatMap_cons,List.flatMap_nil,List.append_nil,List.take_of_length_le (by rw[jdC_len'];exact Nat.le_refl _)]
theorem mid_erase{α:Type}(f:α→Ent)(l:List α){p:Nat}(x:α)(h:p≤l.length):((l.take p++x::l.drop p).map f).eraseIdx p=l.map f:=by
 rw[List.map_append,List.map_cons,List.eraseIdx_append_of_length_le (by rw[List.length_map,List.length_take];omega),List.length_map,List.length_take,Nat.min_eq_left h,Nat.sub_self,List.eraseIdx_cons_zero,←List.map_append,List.take_append_drop]
theorem mid_set{α:Type}(f:α→Ent)(l:List α){p:Nat}(x:α)(h:p≤l.length):((l.take p++x::l.drop p).map f).set p (f x)=(l.take p++x::l.drop p).map f:=by
 rw[←List.map_set,List.set_append_right _ _ (by rw[List.length_take];omega),List.length_take,Nat.min_eq_left h,Nat.sub_self,List.set_cons_zero]
theorem insJd(a:Option Addr)(n c:Nat)(l:List JdA)(i:Nat)(x:JdA)(b2:Nat)(w:World)(hO:GOwn jdC 45 0 w 61 a n c l)(hi:i≤n)(hn:n≤1000)(hB:Blk w b2 (jdC x) 61)(hne:¬obk a=some b2):
  Calls prog 79 #[.slice a n c, .int .i64 i, .slice (some ⟨b2,0,none⟩) 1 1] w (Gw w jdC 45 61 a (l.take i++x::l.drop i)):=by
 have hlen:=hO.len;have hcn:=hO.capn;have hcm:=hO.own.cap.2;refine J.enterG 92 hO func79 rfl rfl ?_;refine run ?_;refine J.ife rfl (fun h=>?_) (fun h=>?_)
 ·obtain rfl:i=n:=by omega
  refine run ?_;refine J.apG rfl rfl (RG.blkO hB hne jdC_len') jdC_one fun a' c'=>?_
  refine run ?_;have e:l.take i++x::l.drop i=l++[x]:=by rw[List.take_of_length_le (by omega),List.drop_of_length_le (by omega)]
  rw[e];exact J.finW rfl
 have hin:i<n:=by omega
 obtain⟨g,rfl⟩:=hO.some (by omega);have hlt:(l.take i++x::l.drop i).length=n+1:=by simp;omega
 refine run ?_;refine J.ifd rfl (fun h2=>?_) (fun h2=>?_)
 ·refine run ?_;refine J.apZ (p:=i) (k0:=n+1 - i) jdC n l rfl (by(conv=>lhs;whnf)<;>exact sl3 (by omega) (by omega) rfl) (by(conv=>lhs;whnf)<;>exact congrArg _ (by omega)) fun b' c' cs' hcs=>?_
  obtain⟨k1,k2,k3,k4⟩:=hcs;refine run ?_;refine J.copyR (b:=b') (o:=i*45) (n:=n+1 - i) (k:=1) (by(conv=>lhs;whnf)<;>exact sl3 (by omega) (by omega) rfl) rfl (RG.cells (RG.blkO hB hne jdC_len')) (by rw[List.flatMap_cons,List.flatMap_nil,List.append_nil,jdC_len']) (fun u hu=>jdC_cell x u (by simpa using List.mem_of_mem_take hu)) rfl ?_;refine run ?_;refine J.regionX [(0, .q),(1, .q),(2, .q),(3, .q),(4, .q),(5, .q),(6, .q),(7, .q),(8, .g)] mixed (by kernel_rfl) ?_;refine run ?_;refine J.copyR (b:=b') (o:=(i+1)*45) (n:=n - i) (n2:=n - i) (k:=n - i) (a:=some ⟨g,i*45,none⟩) (by(conv=>lhs;whnf)<;>exact sl3 (by omega) (by omega) rfl) (by(conv=>lhs;whnf)<;>exact sl3 (by omega) (by omega) rfl) (RG.cells (RG.tail RG.own' hin)) (by rw[flat_len jdC 45 jdC_len',List.length_drop,hlen,Nat.mul_comm]) (fun u hu=>by obtain⟨y,_,hy⟩:=List.mem_flatMap.1 (List.mem_of_mem_take hu);exact jdC_cell y u hy) rfl ?_ (ho:=by simp only[splice_length];omega);refine run ?_;have hz:=(ins_flat (f:=jdC) (sz:=45) (z:=x) jdC_len' hlen hin (by omega) k2).2
  refine J.ruc jdC 45 61 b' (n + 1) c' (l.take i ++ x :: l.drop i) jdC_len' (by simp only [splice_length]; exact k1) (by
   rw [jdC_1, List.take_of_length_le (l := List.flatMap jdC (List.drop i l)) (by rw [flat_len jdC 45 jdC_len', List.length_drop, hlen]; omega)]
   exact hz) (by omega) k4 hlt ?_
  exact J.finW (a':=some ⟨b',0,none⟩) (n':=n+1) (c':=c') (by(conv=>lhs;whnf)<;>exact sl3 (by omega) (by omega) rfl)
 refine run ?_;refine J.cur jdC 45 61 g n c l fun cur hcur=>?_
 obtain⟨k1,k2,k3,k4,k5⟩:=hcur;have hcl:(n+1)*45≤cur.length:=by omega
 refine J.extv (E := Extern.SlicesOverlaps.overlaps #[24, 24] #[4]) (v := .bool false) func105 (by kernel_rfl) (by kernel_rfl) (by kernel_rfl) (by kernel_rfl) rfl (fun w' M => by
  have B1 := hB.pr M.pr hne
  have B2 : Blk w' g cur 61 := M.blk .here
  exact Lib.run_overlaps_apart w' _ _ 61 Und.h 45 (fun w => size_run Siz.h (by decide)) ⟨b2, 0, none⟩ ⟨g, _, none⟩ 1 1 _ _ (fun e => hne (show some g = some b2 from congrArg some (show g = b2 from e.symm))) _ _ _ _ (blk_shape B1) (blk_shape B2) (by omega) (blk_free B1) (blk_free B1)) ?_
 refine run ?_;refine J.regionX [(0, .q),(1, .q),(2, .q),(3, .q),(4, .q),(5, .q),(6, .q),(7, .q),(8, .g)] mixed (by kernel_rfl) ?_;refine run ?_;refine J.copyR (b:=g) (o:=(i+1)*45) (n:=n - i) (k:=n - i) (n2:=n+1 - i) (ds:=(cur.drop (i*45)).take ((n+1 - i)*45)) (by(conv=>lhs;whnf)<;>exact sl3 (by omega) (by omega) rfl) (by(conv=>lhs;whnf)<;>exact sl3 (by omega) (by omega) rfl) (fun w' M=>⟨_,M.part (o:=i*45) (b:=g) (by rw[List.length_take,List.length_drop,Nat.min_eq_left (by omega)])⟩) (by rw[List.length_take,List.length_drop];omega) (fun u hu=>?_) rfl ?_
 ·rw[List.take_take,Nat.min_eq_left (by omega)]at hu;have h5:=flat_drop jdC 45 jdC_len' l i;rw[←k2,List.drop_take,show n*45 - i*45=(n - i)*45 by omega]at h5;rw[h5]at hu;obtain⟨y,_,hy⟩:=List.mem_flatMap.1 hu;exact jdC_cell y u hy
 refine run ?_;refine J.copyR (b:=g) (o:=i*45) (n:=n+1 - i) (k:=1) (by(conv=>lhs;whnf)<;>exact sl3 (by omega) (by omega) rfl) rfl (RG.cells (RG.blkO hB hne jdC_len')) (by rw[List.flatMap_cons,List.flatMap_nil,List.append_nil,jdC_len']) (fun u hu=>jdC_cell x u (by simpa using List.mem_of_mem_take hu)) rfl ?_ (ho:=by simp only[splice_length];omega);refine run ?_;have hz:=(ins_flat (f:=jdC) (sz:=45) (z:=x) (cs:=cur) jdC_len' hlen hin hcl (by rw[←flat_take jdC 45 jdC_len',←k2,List.take_take,Nat.min_eq_left (by omega)])).1
 refine J.ruc jdC 45 61 g (n + 1) c (l.take i ++ x :: l.drop i) jdC_len' (by simp only [splice_length]; exact k1) (by
  have ed : (cur.drop (i * 45)).take ((n - i) * 45) = (l.drop i).flatMap jdC := by rw [← flat_drop jdC 45 jdC_len', ← k2, List.drop_take, show n * 45 - i * 45 = (n - i) * 45 by omega]
  rw [jdC_1, List.take_take, Nat.min_eq_left (by omega), ed]
  exact hz) (by omega) k4 hlt ?_
 exact J.finW (by(conv=>lhs;whnf)<;>exact sl3 (by omega) (by omega) rfl)
@[reducible] def plF(p:PlA):List Ent:=[.grow jbC 2 p.ja p.jn p.js, .gown hdC 48 67 p.ha p.hn p.hc p.hs, .gown jdC 45 61 p.da p.dn p.dc p.ds, .all (p.js.map jbE), .all (p.hs.map hdE), .all (p.ds.map jdE)]
structure PlQ(v:S.PlV)(p:PlA):Prop where
 k:PlP v p
 c:p.jn≤p.jc
 l:p.js.length=p.jn∧p.hs.length=p.hn∧p.ds.length=p.dn
@[reducible] def wkE(bw bp bh:Nat)(i:Int)(fv:Value)(p:PlA):List Ent:= .blk bw [.pointer (some ⟨bp,0,none⟩),pt (some ⟨bh,0,none⟩) (i.toNat*48),fv] 112:: .blk bp (plC p) 26::plF p
def WkP(v:S.PlV)(i:Int)(q:PlA×Bool):Prop:=PlQ (S.stepP v i.toNat) q.1∧q.2=decide (S.canP v i.toNat)
theorem WkP.no{v:S.PlV}{i:Int}{p:PlA}(h:PlQ v p)(hn:¬S.canP v i.toNat):WkP v i (p,false):=⟨by unfold S.stepP;rw[if_neg hn];exact h,(decide_eq_false hn).symm⟩
theorem WkP.yes{v:S.PlV}{i:Int}{p:PlA}(hn:S.canP v i.toNat)(h:PlQ (S.didP v i.toNat) p):WkP v i (p,true):=⟨by unfold S.stepP;rw[if_pos hn];exact h,(decide_eq_true hn).symm⟩
theorem PlQ.stg{v:S.PlV}{p:PlA}(h:PlQ v p){i:Int}{z:HdA}(hz:p.hs[i.toNat]? =some z):S.stgP v i.toNat=z.V:=by
 rw[←h.k.V];exact PlA.hAt hz
theorem PlQ.take{v:S.PlV}{cap:Int}{ja ja' ha da:Option Addr}{jn jc jc' hn hc dn dc k:Nat}{js:List JbA}{hs:List HdA}{ds:List JdA}{z:JbA}(h:PlQ v ⟨cap,ja,jn,jc,js,ha,hn,hc,hs,da,dn,dc,ds⟩)(hz:js[0]? =some z)(h0:(S.stgP v k).s=0)(hc':jn - 1≤jc'):
  PlQ (S.didP v k) ⟨cap,ja',jn - 1,jc',js.drop 1,ha,hn,hc,hs.set k ⟨1,z.t,z.a,z.n,z.c,z.bs,JdA.zero⟩,da,dn,dc,ds⟩:=by
 obtain⟨⟨hV,hj,hh,hd,hn'⟩,hc0,l1,l2,l3⟩:=h;dsimp only at hj hh hd hn' hc0 l1 l2 l3;have ez:=PlA.jAt (p:=⟨cap,ja,jn,jc,js,ha,hn,hc,hs,da,dn,dc,ds⟩) hz;rw[hV]at ez;have hzk:JbK z:=hj z (List.mem_of_getElem? hz);refine⟨⟨?_,fun j hm=>hj j (List.mem_of_mem_drop hm),fun x hx=>?_,hd,by dsimp only;omega⟩,hc',by dsimp only;rw[List.length_drop,l1],by dsimp only;rw[List.length_set,l2],l3⟩
 ·unfold S.didP;rw[if_pos h0,ez];subst hV;unfold PlA.V;dsimp only;rw[List.map_drop,List.map_set];rfl
 rcases List.mem_or_eq_of_mem_set hx with k|rfl
 ·exact hh x k
 exact⟨JdK.zero,hzk.1,hzk.2⟩
theorem erase_0{α:Type}(f:α→Ent)(l:List α):(l.map f).eraseIdx 0=(l.drop 1).map f:=by cases l<;>rfl
theorem wkTake{Z:Nat→Prop}{v:S.PlV}(p:PlA)(bw bp bh:Nat)(fv:Value)(i:Int)(w:World)(hS:Sep (wkE bw bp bh i fv p) Z w)(hq:PlQ v p)(ha:p.ha=some ⟨bh,0,none⟩)(hi:0≤i∧i<p.hn)(hz:(S.stgP v i.toNat).s=0):
  Calls prog 56 #[.pointer (some ⟨bw,0,none⟩)] w (Gm w Z (fun q:PlA×Bool=> .bool q.2) (fun q=>wkE bw bp bh i fv q.1) (WkP v i)):=by
 obtain⟨cap,ja,jn,jc,js,ha2,hn,hc,hs,da,dn,dc,ds⟩:=p;dsimp only[wkE,plF]at hS ha hi⊢;subst ha;have hn2:=hq.k.n;have hcp:=hq.c;have hjl:=hq.l.1;have hhl:=hq.l.2.1;have hV:=hq.k.V;dsimp only at hn2 hcp hjl hhl;obtain⟨h0,hh0⟩:∃z,hs[i.toNat]? =some z:=⟨_,List.getElem?_eq_getElem (by omega)⟩
 have hst:=hq.stg hh0;have hjv:v.js.length=jn:=by rw[←hV];exact(List.length_map _).trans hjl
 refine J.enterM 40 hS func56 rfl rfl ?_;refine run ?_;refine J.ife rfl (fun c1=>?_) (fun c1=>?_)
 ·refine run ?_;exact J.finM ((⟨cap,ja,jn,jc,js,some ⟨bh,0,none⟩,hn,hc,hs,da,dn,dc,ds⟩:PlA),false) rfl (WkP.no hq fun h=>by unfold S.canP at h;omega) sb
 obtain⟨z,hz0⟩:∃z,js[(0:Int).toNat]? =some z:=⟨_,List.getElem?_eq_getElem (by rw[hjl];show 0<jn;omega)⟩
 refine J.fact (p:=∃b o,ja=some ⟨b,o,none⟩) (.grow jbC 2 ja jn js) (fun _ _ h=>let ⟨b,o,k,_⟩:=(grow_e h).get (i:=0) (by decide) hz0 (by omega);⟨b,o,k⟩) fun hja=>?_
 obtain⟨bj,oj,rfl⟩:=hja;refine run ?_;refine J.regionX [(0, .q),(1, .q),(2, .q),(3, .q),(4, .q),(5, .q),(6, .q),(7, .q),(8, .q),(9, .q),(10, .q),(11, .q),(12, .q),(13, .q),(14, .q),(15, .g)] mixed (by kernel_rfl) ?_;refine run ?_;refine J.stG (f:=hdC) (a:=some ⟨bh,0,none⟩) (i:=i) (q:=⟨1,z.t,z.a,z.n,z.c,z.bs,JdA.zero⟩) rfl rfl rfl ?_ (hv:=hdC_cells ⟨1,z.t,z.a,z.n,z.c,z.bs,JdA.zero⟩);refine run ?_;refine J.regionX [(0, .q),(1, .q),(2, .q),(3, .q),(4, .q),(5, .q),(6, .q),(7, .q),(8, .q),(9, .q),(10, .q),(11, .q),(12, .q),(13, .q),(14, .g)] mixed (by kernel_rfl) ?_;refine run ?_;refine J.re (.grow jbC 2 (some ⟨bj,oj,none⟩) jn js) (.grow jbC 2 (subA (some ⟨bj,oj,none⟩) 1 2 jc) (jn - 1) (js.drop 1)) (fun _ _ h=>grow_i ((grow_e h).tl (by omega) hcp)) ?_;refine J.openA (js.map jbE) 0 (e:=jbE z) (by rw[List.getElem?_map,show js[0]? =some z from hz0];rfl) ?_;rw[erase_0];refine J.openA (hs.map hdE) i.toNat (e:=hdE h0) (by rw[List.getElem?_map,hh0];rfl) ?_;refine J.nilW .u8 32 ?_;refine J.pair (jbE z) (.wrow .u8 32 none 0 []) ?_;refine J.re (.all [jbE z, .wrow .u8 32 none 0 []]) (hdE ⟨1,z.t,z.a,z.n,z.c,z.bs,JdA.zero⟩) (fun _ _ h=>h) ?_;refine J.shutA (hs.map hdE) i.toNat (hdE ⟨1,z.t,z.a,z.n,z.c,z.bs,JdA.zero⟩) (by rw[List.length_map];omega) ?_;rw[←List.map_set];refine J.front (.all ((hs.set i.toNat ⟨1,z.t,z.a,z.n,z.c,z.bs,JdA.zero⟩).map hdE)) ?_;refine J.front (.all ((js.drop 1).map jbE)) ?_;refine J.front (.gown jdC 45 61 da dn dc ds) ?_;refine J.front (.gown hdC 48 67 (some ⟨bh,0,none⟩) hn hc (hs.set i.toNat ⟨1,z.t,z.a,z.n,z.c,z.bs,JdA.zero⟩)) ?_;refine J.front (.grow jbC 2 (subA (some ⟨bj,oj,none⟩) 1 2 jc) (jn - 1) (js.drop 1)) ?_;refine J.front (.blk bp [.int .i64 cap, .slice (subA (some ⟨bj,oj,none⟩) (Int.toNat 1) 2 jc) ((jn:Int).toNat - Int.toNat 1) (jc - Int.toNat 1), .slice (some ⟨bh,0,none⟩) hn hc, .slice da dn dc] 26) ?_
 refine J.front (.blk bw [.pointer (some ⟨bp,0,none⟩),pt (some ⟨bh,0,none⟩) (i.toNat*48),fv] 112) ?_;exact J.finM ((⟨cap,subA (some ⟨bj,oj,none⟩) 1 2 jc,jn - 1,jc - 1,js.drop 1,some ⟨bh,0,none⟩,hn,hc,hs.set i.toNat ⟨1,z.t,z.a,z.n,z.c,z.bs,JdA.zero⟩,da,dn,dc,ds⟩:PlA),true) rfl (WkP.yes (.inl ⟨hz,by omega⟩) (hq.take hz0 hz (by omega))) sb
instance:Ents prog 24:=⟨.mk func24 (by kernel_rfl) rfl⟩
theorem judgeV{S0:Nat→Prop}(a:Option Addr)(n c:Nat)(bs:List Int)(TK:TypeId)(w:World)(K0:Kst w TK)(R0:IRow .u8 S0 w a n bs)(hc:n≤c)(hn:n≤1000):
  Calls prog 24 #[.slice a n c] w (Gv w (fun q:Option Addr×Nat=> .tuple #[.agg (opC ⟨S.jdO bs,q.1,q.2⟩).toArray, .agg (ints .u8 (S.jdI bs)).toArray, .int .u8 (S.jdV bs)]) (fun q=>[.wrow .u8 32 q.1 (S.jdO bs).n (S.jdO bs).ids]) fun q=>(S.jdO bs).n≤q.2):=
 Gv.of (judgeOf a n c bs TK w K0 R0 hc (by omega)) fun v w' _ ⟨a',c',hv,hcc,W⟩=>⟨(a',c'),hv,hcc,sep1 (wrow_i W)⟩
theorem judgeVR{S0:Nat→Prop}(a:Option Addr)(n c:Nat)(bs:List Int)(w:World)(R0:IRow .u8 S0 w a n bs)(hc:n≤c)(hn:n≤1000):
  Calls prog 80 #[.slice a n c] w (Gv w (fun q:Option Addr×Nat=> .tuple #[.agg (opC ⟨S.jdO bs,q.1,q.2⟩).toArray, .agg (ints .u8 (S.jdI bs)).toArray, .int .u8 (S.jdV bs)]) (fun q=>[.wrow .u8 32 q.1 (S.jdO bs).n (S.jdO bs).ids]) fun q=>(S.jdO bs).n≤q.2):=
 Gv.of (judgeOfR a n c bs w R0 hc (by omega)) fun v w' _ ⟨a',c',hv,hcc,W⟩=>⟨(a',c'),hv,hcc,sep1 (wrow_i W)⟩
theorem hd_own{Z:Nat→Prop}{w0:World}{L:List Ent}{hs:List HdA}{F:Ent→List Ent}[R:RE L (.all (hs.map hdE)) F](hk:∀h∈hs,HdK h){i:Nat}{z:HdA}(hz:hs[i]? =some z)(w:World)(M:Mem Z w0 L w):∃S,HdR S w z:=by
 obtain⟨A,_,e⟩:=M.get (R.h (.all (hs.map hdE))).same;obtain⟨S',_,k⟩:=sep_mem (List.mem_map.2 ⟨z,List.mem_of_getElem? hz,rfl⟩) (all_e e);exact⟨S',hdR_e (hk z (List.mem_of_getElem? hz)) k⟩
theorem PlQ.judge{v:S.PlV}{cap:Int}{ja ha da:Option Addr}{jn jc hn hc dn dc k:Nat}{js:List JbA}{hs:List HdA}{ds:List JdA}{h0:HdA}{j:JdA}(h:PlQ v ⟨cap,ja,jn,jc,js,ha,hn,hc,hs,da,dn,dc,ds⟩)(hz:hs[k]? =some h0)(h1:(S.stgP v k).s=1)(hj:j.V=S.ofJ h0.jt h0.bs)(hk:JdK j):
  PlQ (S.didP v k) ⟨cap,ja,jn,jc,js,ha,hn,hc,hs.set k ⟨2,0,none,0,0,[],j⟩,da,dn,dc,ds⟩:=by
 obtain⟨⟨hV,hjj,hh,hd,hn'⟩,hc0,l1,l2,l3⟩:=h;dsimp only at hjj hh hd hn' hc0 l1 l2 l3;have ez:=PlA.hAt (p:=⟨cap,ja,jn,jc,js,ha,hn,hc,hs,da,dn,dc,ds⟩) hz;rw[hV]at ez;have ez:S.stgP v k=h0.V:=ez;refine⟨⟨?_,hjj,fun x hx=>?_,hd,hn'⟩,hc0,l1,by dsimp only;rw[List.length_set,l2],l3⟩
 ·unfold S.didP;rw[if_neg (by omega),if_pos h1,ez];subst hV;unfold PlA.V;dsimp only;rw[List.map_set];unfold HdA.V;dsimp only;rw[hj]
 rcases List.mem_or_eq_of_mem_set hx with k|rfl
 ·exact hh x k
 exact⟨hk,Nat.le_refl _,Nat.zero_le _⟩
theorem spl_id(t v:Int)(o:OpA)(id:List Int)(h:id.length=32){x:List Int}(hx:x.length=32):splice (jdC ⟨t,v,o,id,h⟩) 13 (ints .u8 x)=jdC ⟨t,v,o,x,hx⟩:=by
 rw[splice_mid _ _ _ (by rw[jdC_len',ints_length,hx];decide),List.drop_of_length_le (by rw[jdC_len',ints_length,hx];decide),List.append_nil];rfl
theorem fillO_h2{x:Value}{vs:List Value}(h:vs.length=45):fillO [(0,1),(1,2),(3,45)] 48 [(0,[x]),(2,vs)]=true:=by
 simp[fillO,h]
theorem jdO_k{b:List Int}(hB:Bd .u8 b){t:Int}{pa:Option Addr}{pc:Nat}(hc:(S.jdO b).n≤pc):JdK ⟨t,S.jdV b,⟨S.jdO b,pa,pc⟩,S.jdI b,(S.jdI_arr b).1⟩:=⟨(S.jdO_ok hB).1,hc,S.jdI_arr b⟩
@[reducible] def hdJ(j:JdA):HdA:=⟨2,0,none,0,0,[],j⟩
theorem wkJudge{Z:Nat→Prop}{v:S.PlV}(p:PlA)(bw bp bh:Nat)(fv:Value)(i:Int)(TK:TypeId)(w:World)(K0:Kst w TK)(hg:¬Z gK)(hS:Sep (wkE bw bp bh i fv p) Z w)(hq:PlQ v p)(ha:p.ha=some ⟨bh,0,none⟩)(hi:0≤i∧i<p.hn)(hz:(S.stgP v i.toNat).s=1):
  Calls prog 57 #[.pointer (some ⟨bw,0,none⟩)] w (Gm w Z (fun q:PlA×Bool=> .bool q.2) (fun q=>wkE bw bp bh i fv q.1) (WkP v i)):=by
 obtain⟨cap,ja,jn,jc,js,ha2,hn,hc,hs,da,dn,dc,ds⟩:=p;dsimp only[wkE,plF]at hS ha hi⊢;subst ha;have hhl:=hq.l.2.1;have hkk:=hq.k.h;dsimp only at hhl hkk;obtain⟨h0,hh0⟩:∃z,hs[i.toNat]? =some z:=⟨_,List.getElem?_eq_getElem (by omega)⟩
 have hst:=hq.stg hh0;have hk0:=hkk h0 (List.mem_of_getElem? hh0);have hb6:=hk0.n;have hjI:=S.jdI_arr h0.bs;refine J.enterM 42 hS func57 rfl rfl ?_;refine J.fact (p:=Bd .u8 h0.bs) (.all (hs.map hdE)) (fun _ _ h=>let ⟨_,_,k⟩:=sep_mem (List.mem_map.2 ⟨h0,List.mem_of_getElem? hh0,rfl⟩) (all_e h);(hdR_e hk0 k).row.bd) fun hbd=>?_
 refine run ?_;refine J.ldGf (a:=some ⟨bh,0,none⟩) (i:=i) (off:=2) rfl RG.own' ?_;refine run ?_;refine J.call rfl rfl (fun w' M=>(hd_own hkk hh0 w' M).elim fun _ k0=>judgeV h0.ba h0.bn h0.bc h0.bs TK w' (K0.pr M.pr hg) k0.row hk0.cap (by omega)) fun q hq1=>?_
 refine run ?_;refine J.alloc rfl fun b3=>?_
 refine J.alloc rfl fun b4=>?_
 refine run ?_;refine J.ldGf (a:=some ⟨bh,0,none⟩) (i:=i) (off:=1) rfl RG.own' ?_;refine run ?_;refine J.alloc rfl fun b6=>?_
 refine run ?_;refine J.ife rfl (fun c1=>?_) (fun c1=>?_)
 ·refine J.regionR [.blk b4 (ints .u8 (S.jdI h0.bs)) 59, .blk b3 (opC ⟨S.jdO h0.bs,q.1,q.2⟩) 57] [(0, .q),(1, .q),(2, .q),(3, .e),(4, .q),(5, .e)] mixed (by kernel_rfl) (by repeat(first|exact List.Sublist.refl _|refine List.Sublist.cons_cons _ ?_|refine List.Sublist.cons _ ?_)) ?_;refine run ?_;refine J.sta rfl rfl ?_ (hn:=by rw[ints_length,hjI.1]) (hv:=ints_cellB _ _) (ho:=by rfl) (hc:=spl_id h0.jt (S.jdV h0.bs) ⟨S.jdO h0.bs,q.1,q.2⟩ (List.replicate 32 0) rfl hjI.1);refine run ?_;obtain⟨jj,ejj⟩:=ex (⟨h0.jt,S.jdV h0.bs,⟨S.jdO h0.bs,q.1,q.2⟩,S.jdI h0.bs,hjI.1⟩:JdA);rw[←ejj];have hVj:jj.V=S.ofJ h0.jt h0.bs:=by rw[ejj];rfl
  have hKj:JdK jj:=by rw[ejj];exact jdO_k hbd hq1
  refine J.re (.wrow .u8 32 q.1 (S.jdO h0.bs).n (S.jdO h0.bs).ids) (jdE jj) (fun _ _ h=>by rw[ejj];exact h) ?_;refine run ?_;refine J.regionX [(0, .q),(1, .q),(2, .q),(3, .q),(4, .q),(5, .q),(6, .q),(7, .g)] mixed (by kernel_rfl) ?_;refine run ?_;refine J.bd rfl ?_ (ho:=by exact fillO_h2 (jdC_len' jj)) (hf:=by exact spl_hd (h:=hdJ jj) rfl rfl);refine run ?_;refine J.stG (f:=hdC) (a:=some ⟨bh,0,none⟩) (i:=i) (q:=hdJ jj) rfl rfl rfl ?_ (hv:=hdC_cells (hdJ jj));refine run ?_;refine J.openA (hs.map hdE) i.toNat (e:=hdE h0) (by rw[List.getElem?_map,hh0];rfl) ?_;refine J.nilR .u8 ?_;refine J.pair (.irow .u8 none 0 []) (jdE jj) ?_;refine J.re (.all [.irow .u8 none 0 [],jdE jj]) (hdE (hdJ jj)) (fun _ _ h=>h) ?_;refine J.shutA (hs.map hdE) i.toNat (hdE (hdJ jj)) (by rw[List.length_map];omega) ?_;rw[←List.map_set];refine J.front (.all ((hs.set i.toNat (hdJ jj)).map hdE)) ?_;refine J.front (.all (js.map jbE)) ?_;refine J.front (.gown jdC 45 61 da dn dc ds) ?_;refine J.front (.gown hdC 48 67 (some ⟨bh,0,none⟩) hn hc (hs.set i.toNat (hdJ jj))) ?_;refine J.front (.grow jbC 2 ja jn js) ?_;refine J.front (.blk bp [.int .i64 cap, .slice ja jn jc, .slice (some ⟨bh,0,none⟩) hn hc, .slice da dn dc] 26) ?_;refine J.front (.blk bw [.pointer (some ⟨bp,0,none⟩),pt (some ⟨bh,0,none⟩) (i.toNat*48),fv] 112) ?_;exact J.finM ((⟨cap,ja,jn,jc,js,some ⟨bh,0,none⟩,hn,hc,hs.set i.toNat (hdJ jj),da,dn,dc,ds⟩:PlA),true) rfl (WkP.yes (.inr (.inl hz)) (hq.judge hh0 hz hVj hKj)) sb
 obtain⟨jj,ejj⟩:=ex (⟨h0.jt,S.jdV h0.bs,⟨S.OpV.zero,none,0⟩,List.replicate 32 0,rfl⟩:JdA);have hVj:jj.V=S.ofJ h0.jt h0.bs:=by
  rw[ejj];unfold S.ofJ;rw[(S.jd_ne c1).1,(S.jd_ne c1).2]
 have hKj:JdK jj:=by rw[ejj];exact⟨S.OpV.zero_ok,Nat.le_refl _,zero_ids⟩
 change J Z w (Ent.blk b6 (jdC ⟨h0.jt,S.jdV h0.bs,⟨S.OpV.zero,none,0⟩,List.replicate 32 0,rfl⟩) 61::_) _;rw[←ejj];refine J.nilW .u8 32 ?_;refine J.re (.wrow .u8 32 none 0 []) (jdE jj) (fun _ _ h=>by rw[ejj];exact h) ?_;refine run ?_;refine J.regionX [(0, .q),(1, .q),(2, .q),(3, .q),(4, .q),(5, .q),(6, .q),(7, .g)] mixed (by kernel_rfl) ?_;refine run ?_;refine J.bd rfl ?_ (ho:=by exact fillO_h2 (jdC_len' jj)) (hf:=by exact spl_hd (h:=hdJ jj) rfl rfl);refine run ?_;refine J.stG (f:=hdC) (a:=some ⟨bh,0,none⟩) (i:=i) (q:=hdJ jj) rfl rfl rfl ?_ (hv:=hdC_cells (hdJ jj));refine run ?_;refine J.openA (hs.map hdE) i.toNat (e:=hdE h0) (by rw[List.getElem?_map,hh0];rfl) ?_;refine J.nilR .u8 ?_;refine J.pair (.irow .u8 none 0 []) (jdE jj) ?_;refine J.re (.all [.irow .u8 none 0 [],jdE jj]) (hdE (hdJ jj)) (fun _ _ h=>h) ?_;refine J.shutA (hs.map hdE) i.toNat (hdE (hdJ jj)) (by rw[List.length_map];omega) ?_;rw[←List.map_set];refine J.front (.all ((hs.set i.toNat (hdJ jj)).map hdE)) ?_;refine J.front (.all (js.map jbE)) ?_;refine J.front (.gown jdC 45 61 da dn dc ds) ?_;refine J.front (.gown hdC 48 67 (some ⟨bh,0,none⟩) hn hc (hs.set i.toNat (hdJ jj))) ?_;refine J.front (.grow jbC 2 ja jn js) ?_;refine J.front (.blk bp [.int .i64 cap, .slice ja jn jc, .slice (some ⟨bh,0,none⟩) hn hc, .slice da dn dc] 26) ?_;refine J.front (.blk bw [.pointer (some ⟨bp,0,none⟩),pt (some ⟨bh,0,none⟩) (i.toNat*48),fv] 112) ?_;exact J.finM ((⟨cap,ja,jn,jc,js,some ⟨bh,0,none⟩,hn,hc,hs.set i.toNat (hdJ jj),da,dn,dc,ds⟩:PlA),true) rfl (WkP.yes (.inr (.inl hz)) (hq.judge hh0 hz hVj hKj)) sb
instance:Ents prog 79:=⟨.mk func79 (by kernel_rfl) rfl⟩
theorem PlQ.put{v:S.PlV}{cap:Int}{ja ha da da':Option Addr}{jn jc hn hc dn dc dc' k n':Nat}{js:List JbA}{hs:List HdA}{ds:List JdA}{h0:HdA}(h:PlQ v ⟨cap,ja,jn,jc,js,ha,hn,hc,hs,da,dn,dc,ds⟩)(hz:hs[k]? =some h0)(h2:(S.stgP v k).s=2)(hd:dn<60)(en:n'=dn+1):
  PlQ (S.didP v k) ⟨cap,ja,jn,jc,js,ha,hn,hc,hs.set k HdA.zero,da',n',dc',ds.take (S.spT v h0.j.t)++h0.j::ds.drop (S.spT v h0.j.t)⟩:=by
 obtain⟨⟨hV,hjj,hh,hdd,hn'⟩,hc0,l1,l2,l3⟩:=h;dsimp only at hjj hh hdd hn' hc0 l1 l2 l3;have ez:=PlA.hAt (p:=⟨cap,ja,jn,jc,js,ha,hn,hc,hs,da,dn,dc,ds⟩) hz;rw[hV]at ez;have ez:S.stgP v k=h0.V:=ez;have hle:S.spT v h0.j.t≤ds.length:=by
  have:=S.spT_le v h0.j.t;have e:v.ds.length=ds.length:=by rw[←hV];exact List.length_map _
  omega
 have eV:S.didP v k=⟨v.cap,v.js,v.hs.set k S.HdV.zero,S.insL v.ds (S.spT v h0.j.t) h0.j.V⟩:=by
  unfold S.didP;rw[if_neg (by omega),if_neg (by omega),ez]
 rw[eV];generalize S.spT v h0.j.t=q at hle;refine⟨⟨?_,hjj,fun x hx=>?_,fun x hx=>?_,by dsimp only;omega⟩,hc0,l1,by dsimp only;rw[List.length_set,l2],by dsimp only;simp;omega⟩
 ·subst hV;unfold PlA.V S.insL;dsimp only;rw[List.map_set,List.map_append,List.map_cons,List.map_take,List.map_drop];rfl
 ·rcases List.mem_or_eq_of_mem_set hx with k|rfl
  ·exact hh x k
  exact HdK.zero
 rcases List.mem_append.1 hx with k|k
 ·exact hdd x (List.mem_of_mem_take k)
 rcases List.mem_cons.1 k with rfl|k
 ·exact(hh h0 (List.mem_of_getElem? hz)).j
 exact hdd x (List.mem_of_mem_drop k)
theorem hd_j(h:HdA):((hdC h).drop 3).take 45=jdC h.j:=List.take_of_length_le (by show(jdC h.j).length≤45;rw[jdC_len'];exact Nat.le_refl _)
theorem wkPut{Z:Nat→Prop}{v:S.PlV}(p:PlA)(bw bp bh:Nat)(fv:Value)(i:Int)(w:World)(hS:Sep (wkE bw bp bh i fv p) Z w)(hq:PlQ v p)(hvl:S.Vld v)(ha:p.ha=some ⟨bh,0,none⟩)(hi:0≤i∧i<p.hn)(hz:(S.stgP v i.toNat).s=2):
  Calls prog 58 #[.pointer (some ⟨bw,0,none⟩)] w (Gm w Z (fun q:PlA×Bool=> .bool q.2) (fun q=>wkE bw bp bh i fv q.1) (WkP v i)):=by
 obtain⟨cap,ja,jn,jc,js,ha2,hn,hc,hs,da,dn,dc,ds⟩:=p;dsimp only[wkE,plF]at hS ha hi⊢;subst ha;have hhl:=hq.l.2.1;have hdl:=hq.l.2.2;have hkk:=hq.k.h;have hV:=hq.k.V;have hn2:=hq.k.n;dsimp only at hhl hdl hkk hn2;obtain⟨h0,hh0⟩:∃z,hs[i.toNat]? =some z:=⟨_,List.getElem?_eq_getElem (by omega)⟩
 have hst:=hq.stg hh0;have hdv:v.ds.length=dn:=by rw[←hV];exact(List.length_map _).trans hdl
 have hd60:v.ds.length≤60:=hvl.c.2.2.2.2.2;have hjl:=jdC_len' h0.j;refine J.enterM 57 hS func58 rfl rfl ?_;refine run ?_;refine J.ife rfl (fun c1=>?_) (fun c1=>?_)
 ·refine run ?_;exact J.finM ((⟨cap,ja,jn,jc,js,some ⟨bh,0,none⟩,hn,hc,hs,da,dn,dc,ds⟩:PlA),false) rfl (WkP.no hq fun h=>by unfold S.canP at h;omega) sb
 refine run ?_;refine J.ldGa (a:=some ⟨bh,0,none⟩) (i:=i) (sz:=48) (off:=3) rfl RG.own' ?_ (q:=h0) (hf:=by exact hd_j h0) (hn:=by exact hjl);refine run ?_;refine J.alloc rfl fun b3=>?_
 refine run ?_;refine J.regionX [(0, .q),(1, .q),(2, .q),(3, .q),(4, .q),(5, .q),(6, .q),(7, .q),(8, .q),(9, .e),(10, .q),(11, .q),(12, .q),(13, .q),(14, .q)] mixed (by kernel_rfl) ?_;refine run ?_
 refine J.callp rfl rfl (fun w' M => (RG.own' (a := da) w' M).elim fun _ k0 => by
  have := bsJd ⟨cap, ja, jn, jc, js, some ⟨bh, 0, none⟩, hn, hc, hs, da, dn, dc, ds⟩ h0.j.t w' k0 (hV.symm ▸ hvl.c2) (by dsimp only; omega)
  rwa [hV] at this) ?_
 obtain⟨sp,hsp⟩:=ex (S.spT v h0.j.t);have hsl:sp≤dn:=by rw[hsp,←hdv];exact S.spT_le v h0.j.t
 rw[←hsp];refine run ?_;have hzl:(ds.take sp++h0.j::ds.drop sp).length=dn+1:=by simp;omega
 refine J.regionR [.blk b3 (jdC h0.j) 61, .blk bw [.pointer (some ⟨bp,0,none⟩),pt (some ⟨bh,0,none⟩) (i.toNat*48),fv] 112, .blk bp (plC ⟨cap,ja,jn,jc,js,some ⟨bh,0,none⟩,hn,hc,hs,da,dn,dc,ds⟩) 26] [(0, .q),(1, .q),(2, .q),(3, .q),(4, .q),(5, .q),(6, .q),(7, .q),(8, .q),(9, .q),(10, .q),(11, .q),(12, .q),(13, .e),(14, .e),(15, .q),(16, .q),(17, .g)] mixed (by kernel_rfl) (by repeat(first|exact List.Sublist.refl _|refine List.Sublist.cons_cons _ ?_|refine List.Sublist.cons _ ?_)) ?_;refine run ?_;refine J.b1G jdC h0.j jdC_len' rfl rfl rfl fun bx=>?_
 refine run ?_
 refine J.callG rfl (fun w' M hO' => insJd da dn dc ds sp h0.j bx w' hO' (by omega) (by omega) (let ⟨_, _, k⟩ := M.get (GO.h (a := some ⟨bx, 0, none⟩) (some ⟨bx, 0, none⟩) 1 1 [h0.j]).same; gown_one (gown_e k).1) (fun he => by
  obtain ⟨S1, S2, h1, h2, h3⟩ := M.two (.gown jdC 45 61 da dn dc ds) (.gown jdC 45 61 (some ⟨bx, 0, none⟩) 1 1 [h0.j])
  exact h1 bx ((gown_e h2).2 _ he) ((gown_e h3).2 _ rfl))) fun a' c' => ?_
 rw[hzl];refine J.nc rfl rfl ?_;refine J.fl rfl rfl ?_;refine J.last ?_;refine run ?_;refine J.stG (f:=hdC) (a:=some ⟨bh,0,none⟩) (i:=i) (q:=HdA.zero) rfl rfl rfl ?_ (hv:=hdC_cells HdA.zero);refine run ?_;refine J.openA (hs.map hdE) i.toNat (e:=hdE h0) (by rw[List.getElem?_map,hh0];rfl) ?_;refine J.re (hdE h0) (.all [.irow .u8 h0.ba h0.bn h0.bs,jdE h0.j]) (fun _ _ h=>h) ?_;refine J.openA [.irow .u8 h0.ba h0.bn h0.bs,jdE h0.j] 1 rfl ?_;dsimp only[List.eraseIdx];refine J.re (.all (ds.map jdE)) (.all (((ds.take sp++h0.j::ds.drop sp).map jdE).eraseIdx sp)) (fun _ _ h=>by rw[mid_erase _ _ _ (by omega)];exact h) ?_;refine J.shutA ((ds.take sp++h0.j::ds.drop sp).map jdE) sp (jdE h0.j) (by rw[List.length_map];omega) ?_;refine J.re (.all (((ds.take sp++h0.j::ds.drop sp).map jdE).set sp (jdE h0.j))) (.all ((ds.take sp++h0.j::ds.drop sp).map jdE)) (fun _ _ h=>by rw[mid_set _ _ _ (by omega)]at h;exact h) ?_;refine J.nilR .u8 ?_;refine J.nilW .u8 32 ?_;refine J.pair (.irow .u8 none 0 []) (.wrow .u8 32 none 0 []) ?_;refine J.re (.all [.irow .u8 none 0 [], .wrow .u8 32 none 0 []]) (hdE HdA.zero) (fun _ _ h=>h) ?_;refine J.shutA (hs.map hdE) i.toNat (hdE HdA.zero) (by rw[List.length_map];omega) ?_;rw[←List.map_set];refine J.front (.all ((ds.take sp++h0.j::ds.drop sp).map jdE)) ?_;refine J.front (.all ((hs.set i.toNat HdA.zero).map hdE)) ?_;refine J.front (.all (js.map jbE)) ?_;refine J.front (.gown jdC 45 61 a' (dn+1) c' (ds.take sp++h0.j::ds.drop sp)) ?_;refine J.front (.gown hdC 48 67 (some ⟨bh,0,none⟩) hn hc (hs.set i.toNat HdA.zero)) ?_;refine J.front (.grow jbC 2 ja jn js) ?_;refine J.front (.blk bp [.int .i64 cap, .slice ja jn jc, .slice (some ⟨bh,0,none⟩) hn hc, .slice a' (dn+1) c'] 26) ?_;refine J.front (.blk bw [.pointer (some ⟨bp,0,none⟩),pt (some ⟨bh,0,none⟩) (i.toNat*48),fv] 112) ?_;have hfin:=hq.put (da':=a') (dc':=c') hh0 hz (by omega) (rfl:dn+1=dn+1);rw[←hsp]at hfin
 exact J.finM ((⟨cap,ja,jn,jc,js,some ⟨bh,0,none⟩,hn,hc,hs.set i.toNat HdA.zero,a',dn+1,c',ds.take sp++h0.j::ds.drop sp⟩:PlA),true) rfl (WkP.yes (.inr (.inr ⟨by omega,by omega,by omega⟩)) hfin) sb
instance:SInf prog 112 [(0,1),(1,1),(2,1)]:=⟨_,underlying112,by kernel_rfl,by kernel_rfl⟩
instance:Inf prog 112 3 24 [.pointer none, .pointer none, .nilFunc]:=⟨TI.of (v:= .agg #[.pointer none, .pointer none, .nilFunc]) (by kernel_rfl) rfl⟩
instance:Ents prog 56:=⟨.mk func56 (by kernel_rfl) rfl⟩
instance:Fld prog 112 2 2:=⟨_,_,1,underlying112,rfl,by kernel_rfl,by decide,rfl⟩
instance:Siz prog 42 1:=⟨by kernel_rfl⟩
instance:Ents prog 57:=⟨.mk func57 (by kernel_rfl) rfl⟩
instance:Ents prog 58:=⟨.mk func58 (by kernel_rfl) rfl⟩
instance:Sca prog 42:=⟨_,underlying42,rfl⟩
theorem poolStep{Z:Nat→Prop}{v:S.PlV}(p:PlA)(bp:Nat)(i:Int)(TK:TypeId)(w:World)(K0:Kst w TK)(hg:¬Z gK)(hS:Sep (.blk bp (plC p) 26::plF p) Z w)(hq:PlQ v p)(hvl:S.Vld v)(hi:0≤i∧i<p.hn):
  Calls prog 32 #[.pointer (some ⟨bp,0,none⟩), .int .i64 i] w (Gm w Z (fun q:PlA×Bool=> .bool q.2) (fun q=> .blk bp (plC q.1) 26::plF q.1) (WkP v i)):=by
 obtain⟨cap,ja,jn,jc,js,ha,hn,hc,hs,da,dn,dc,ds⟩:=p;dsimp only[plF]at hS hi⊢;have hhl:=hq.l.2.1;have hV:=hq.k.V;dsimp only at hhl;obtain⟨h0,hh0⟩:∃z,hs[i.toNat]? =some z:=⟨_,List.getElem?_eq_getElem (by omega)⟩
 have hst:=hq.stg hh0;have hvh:v.hs.length=hn:=by rw[←hV];exact(List.length_map _).trans hhl
 have h3:=S.hand_s (hvl.hand (i:=i.toNat) (by omega));have hs0:(S.stgP v i.toNat).s=h0.s:=congrArg S.HdV.s hst;refine J.enterM 44 hS func32 rfl rfl ?_;refine J.fact (p:=∃b,ha=some ⟨b,0,none⟩) (.gown hdC 48 67 ha hn hc hs) (fun _ _ h=>(gown_e h).1.some (by omega)) fun hha=>?_
 obtain⟨bh,rfl⟩:=hha;refine run ?_;refine J.box rfl rfl rfl fun bw=>?_
 refine run ?_;refine J.ldGf (a:=some ⟨bh,0,none⟩) (i:=i) (off:=0) rfl RG.own' ?_;refine run ?_;refine J.ife rfl (fun c1=>?_) (fun c1=>?_)
 ·refine run ?_;refine J.fn rfl rfl rfl ?_;refine run ?_;refine J.callMb (PlA.zero,false) (E:=wkE bw bp bh i (.func (.func 56) #[.pointer (some ⟨bw,0,none⟩)] #[]) ⟨cap,ja,jn,jc,js,some ⟨bh,0,none⟩,hn,hc,hs,da,dn,dc,ds⟩) (R:=[]) rfl rfl rfl (fun w' X M hx hs=>wkTake _ bw bp bh _ i w' hs hq rfl hi (by omega)) fun q hq'=>?_
  refine run ?_;exact J.finM q rfl hq' sb
 refine run ?_;refine J.ife rfl (fun c2=>?_) (fun c2=>?_)
 ·refine run ?_;refine J.fn rfl rfl rfl ?_;refine run ?_;refine J.callMb (PlA.zero,false) (E:=wkE bw bp bh i (.func (.func 57) #[.pointer (some ⟨bw,0,none⟩)] #[]) ⟨cap,ja,jn,jc,js,some ⟨bh,0,none⟩,hn,hc,hs,da,dn,dc,ds⟩) (R:=[]) rfl rfl rfl (fun w' X M hx hs=>wkJudge _ bw bp bh _ i TK w' (K0.pr M.pr hg) (fun h=>(hx _ h).elim hg (fun h=>absurd K0.lt (by omega))) hs hq rfl hi (by omega)) fun q hq'=>?_
  refine run ?_;exact J.finM q rfl hq' sb
 refine run ?_;refine J.fn rfl rfl rfl ?_;refine run ?_;refine J.callMb (PlA.zero,false) (E:=wkE bw bp bh i (.func (.func 58) #[.pointer (some ⟨bw,0,none⟩)] #[]) ⟨cap,ja,jn,jc,js,some ⟨bh,0,none⟩,hn,hc,hs,da,dn,dc,ds⟩) (R:=[]) rfl rfl rfl (fun w' X M hx hs=>wkPut _ bw bp bh _ i w' hs hq hvl rfl hi (by omega)) fun q hq'=>?_
 refine run ?_;exact J.finM q rfl hq' sb
instance:Ents prog 30:=⟨.mk func30 (by kernel_rfl) rfl⟩
instance:Ents prog 54:=⟨.mk func54 (by kernel_rfl) rfl⟩
instance:Ents prog 29:=⟨.mk func29 (by kernel_rfl) rfl⟩
instance:Ents prog 32:=⟨.mk func32 (by kernel_rfl) rfl⟩
instance:Ents prog 12:=⟨.mk func12 (by kernel_rfl) rfl⟩
def outP(n:Nat)(x:Int):Prop:=x<0∨(n:Int)≤x
instance(n:Nat)(x:Int):Decidable (outP n x):=by unfold outP;infer_instance
theorem poolRun1(p:PlA)(x:Int)(b:Nat)(T:TypeId)(w:World)(hB:Blk w b (plC p) T):
  Calls prog 30 #[.int .i64 x, .pointer (some ⟨b,0,none⟩)] w (Ret w fun v _=>v= .bool (decide (outP p.hn x))):=by
 refine J.enter 11 func30 rfl rfl ?_;refine run ?_;refine J.spd rfl rfl rfl (fun c1=>?_) (fun c1=>?_)
 ·refine run ?_;exact J.fin (congrArg _ (decide_eq_true (.inl c1)).symm)
 refine run ?_;refine J.ldO hB (fun h=>h) rfl ?_;refine run ?_;exact J.fin (congrArg _ (decide_eq_decide.2 ⟨fun h=> .inr h,fun h=>h.resolve_left c1⟩))
theorem idxRun1{S0:Nat→Prop}(p:PlA)(b:Nat)(T:TypeId)(a:Option Addr)(n c:Nat)(xs:List Int)(w:World)(hB:Blk w b (plC p) T)(D0:GRow inC 1 S0 w a n xs)(hn:n≤100000):
  Calls prog 54 #[.slice a n c, .func (.func 30) #[] #[.pointer (some ⟨b,0,none⟩)]] w (Gv w (fun r:Int=> .int .i64 r) (fun _=>[]) fun r=>0≤r↔∃x∈xs,outP p.hn x):=by
 have hl:=D0.len;refine J.enter 17 func54 rfl rfl ?_;refine run ?_;refine J.loopS (A:=Int) (fun p=>[(8, .int .i64 p)]) [4,5,9,10,11,12,13,14,15,16,17,18] (fun q=>(0≤q∧q≤n)∧∀x∈xs.take q.toNat,¬outP p.hn x) (fun q=>n - q.toNat) 0 (by kernel_rfl) ⟨by omega,fun i hi=>by simp at hi⟩ (fun q j hI=>?_);obtain⟨h1,hI⟩:=hI;refine run ?_;refine J.ifd rfl (fun c1=>?_) (fun c1=>?_)
 ·obtain⟨y,hy⟩:=D0.ex (i:=q) (by omega);refine run ?_;refine J.callvp rfl rfl rfl (fun w' M=>poolRun1 p y b T w' (hB.ext M.ext)) ?_;refine run ?_;refine J.ifd rfl (fun c2=>?_) (fun c2=>?_)
  ·refine run ?_;exact J.finG q rfl ⟨fun _=>⟨y,List.mem_of_getElem? hy,c2⟩,fun _=>by omega⟩ (List.nil_sublist _)
  refine run ?_;refine J.nextS (q+1) ⟨rfl,trivial⟩ (by kernel_rfl) ⟨by omega,fun x hx=>?_⟩ (by omega);rw[show(q+1).toNat=q.toNat+1 by omega,List.take_add_one,hy,Option.toList_some]at hx;rcases List.mem_append.1 hx with e|e
  ·exact hI x e
  rw[List.mem_singleton]at e;rw[e];exact c2
 refine run ?_;refine J.finG (-1) rfl ⟨fun h=>by omega,fun⟨x,hx,h⟩=>absurd h (hI x ?_)⟩ (List.nil_sublist _);rwa[List.take_of_length_le (by omega)]
theorem hasRun1{S0:Nat→Prop}(p:PlA)(b:Nat)(T:TypeId)(a:Option Addr)(n c:Nat)(xs:List Int)(w:World)(hB:Blk w b (plC p) T)(D0:GRow inC 1 S0 w a n xs)(hn:n≤100000):
  Calls prog 29 #[.slice a n c, .func (.func 30) #[] #[.pointer (some ⟨b,0,none⟩)]] w (Ret w fun v _=>v= .bool (decide (∃x∈xs,outP p.hn x))):=by
 refine J.enter 7 func29 rfl rfl ?_;refine run ?_;refine J.call rfl rfl (fun w' M=>idxRun1 p b T a n c xs w' (hB.ext M.ext) (D0.ext M.ext) hn) fun r hr=>?_
 refine run ?_;exact J.fin (congrArg _ (decide_eq_decide.2 hr))
theorem outP_no{v:S.PlV}{n:Nat}{xs:List Int}(h:v.hs.length=n):¬(∃x∈xs,outP n x)↔S.pkP v xs:=by
 unfold S.pkP outP;rw[h];constructor
 ·intro k x hx;exact⟨Classical.byContradiction fun c=>k ⟨x,hx, .inl (by omega)⟩,Classical.byContradiction fun c=>k ⟨x,hx, .inr (by omega)⟩⟩
 rintro k ⟨x,hx,c⟩;have:=k x hx;omega
@[reducible] def rnT(q:PlA×Nat×Int):Value:= .tuple #[.agg (plC q.1).toArray, .int .i64 (q.2.1:Nat), .int .i64 q.2.2]
@[reducible] def rnE(q:PlA×Nat×Int):List Ent:=plF q.1
def RnP(v:S.PlV)(xs:List Int)(q:PlA×Nat×Int):Prop:=PlQ (S.runV v xs) q.1∧q.2.1=S.runM v xs∧q.2.2=S.runE v xs
theorem PlQ.zero:PlQ S.PlV.zero PlA.zero:=⟨PlP.zero,Nat.le_refl _,rfl,rfl,rfl⟩
theorem RnP.no{v:S.PlV}{xs:List Int}{e:Int}(he:S.runE v xs=e)(h:e≠0):RnP v xs (PlA.zero,0,e):=by
 obtain⟨h1,h2⟩:=S.run_no (v:=v) (l:=xs) (by rw[he];exact h);exact⟨by rw[h1];exact PlQ.zero,h2.symm,he.symm⟩
theorem RnP.yes{v:S.PlV}{xs:List Int}{p:PlA}{n:Nat}(he:S.runE v xs=0)(h:PlQ (S.runP v (xs.map Int.toNat)) p)(hn:n=S.runN v (xs.map Int.toNat)):RnP v xs (p,n,0):=by
 obtain⟨h1,h2⟩:=S.run_yes he;exact⟨by rw[h1];exact h,by rw[h2];exact hn,he.symm⟩
theorem J.nilPf{S0:Nat→Prop}{w0:World}{L:List Ent}{X:World→Prop}(k:J S0 w0 (plF PlA.zero++L) X):J S0 w0 L X:=
 J.noA (J.noA (J.noA (J.nilG jdC 45 61 jdC_len' (J.nilG hdC 48 67 hdC_len' (J.add0 (.grow jbC 2 none 0 []) (fun w=>grow_i (GRow.nil jbC_len)) k)))))
structure RnA where
 (i n:Nat)(p:PlA)
theorem poolRun{S0 S1:Nat→Prop}(p:PlA)(a:Option Addr)(m c:Nat)(xs:List Int)(TK:TypeId)(w:World)(K0:Kst w TK)(R:PlR S0 w p)(D0:GRow inC 1 S1 w a m xs)(hm:m≤100000):
  Calls prog 12 #[.agg (plC p).toArray, .slice a m c] w (Gv w rnT rnE (RnP p.V xs)):=by
 have hl:=D0.len;have hhl:=R.hl;refine J.enter 39 func12 rfl rfl ?_;refine run ?_;refine J.box rfl rfl rfl fun b1=>?_
 refine J.alloc rfl fun b2=>?_
 refine run ?_;refine J.callp rfl rfl (fun w' M=>poolCheck p TK w' (K0.ext M.ext) (R.ext M.ext)) ?_;refine run ?_;refine J.ifn rfl (fun c1=>?_) (fun c1=>?_)
 ·have hv:¬S.vldP p.V:=fun h=>c1 (S.vldE_0 h);have he:=S.runE_8 (l:=xs) hv;rw[S.vldE_8 hv];refine run ?_;refine J.nilPf ?_;exact J.finG (PlA.zero,0,8) (by first|done|rfl|(rw[he];rfl)) (RnP.no he (by decide)) sb
 have hv:=S.vldE_ok.1 c1;refine run ?_;refine J.ifd rfl (fun c2=>?_) (fun c2=>?_)
 ·have he:=S.runE_4 (l:=xs) hv (by omega);refine run ?_;refine J.nilPf ?_;exact J.finG (PlA.zero,0,4) (by first|done|rfl|(rw[he];rfl)) (RnP.no he (by decide)) sb
 refine run ?_;refine J.fn rfl rfl rfl ?_;refine J.callp rfl rfl (fun w' M=>hasRun1 p b1 _ a m c xs w' (M.blk (.there .here)) (D0.ext M.ext) hm) ?_;refine run ?_;refine J.ifd rfl (fun c3=>?_) (fun c3=>?_)
 ·have he:=S.runE_2 (l:=xs) hv (by omega) (fun h=>(outP_no hhl).2 h c3);refine run ?_;refine J.nilPf ?_;exact J.finG (PlA.zero,0,2) (by first|done|rfl|(rw[he];rfl)) (RnP.no he (by decide)) sb
 have hpk:=(outP_no hhl).1 c3;have he:=S.runE_0 hv (by omega) hpk;refine run ?_;refine J.call rfl rfl (fun w' M=>poolTwin p w' (R.ext M.ext)) fun q hq=>?_
 refine run ?_;refine J.alloc rfl fun b3=>?_
 refine run ?_;refine J.fact (.gown jbC 2 65 q.ja q.jn q.jc q.js) (fun _ _ h=>(gown_e h).1.len) fun hq1=>?_
 refine J.fact (.gown hdC 48 67 q.ha q.hn q.hc q.hs) (fun _ _ h=>(gown_e h).1.len) fun hq2=>?_
 refine J.fact (.gown jdC 45 61 q.da q.dn q.dc q.ds) (fun _ _ h=>(gown_e h).1.len) fun hq3=>?_
 refine J.fact (.gown jbC 2 65 q.ja q.jn q.jc q.js) (fun _ _ h=>(gown_e h).1.capn) fun hq4=>?_
 have hQ:PlQ p.V q:=⟨hq,hq4,hq1,hq2,hq3⟩
 have hvl:=(S.vld_iff p.V).1 hv;refine J.re (.gown jbC 2 65 q.ja q.jn q.jc q.js) (.grow jbC 2 q.ja q.jn q.js) (fun _ _ h=>gown_grow h) ?_;refine J.drop (E:=[.blk b3 (plC q) 26, .grow jbC 2 q.ja q.jn q.js, .gown hdC 48 67 q.ha q.hn q.hc q.hs, .gown jdC 45 61 q.da q.dn q.dc q.ds, .all (q.js.map jbE), .all (q.hs.map hdE), .all (q.ds.map jdE), .blk b2 [.int .i64 0, .slice none 0 0, .slice none 0 0, .slice none 0 0] 26]) sb ?_;refine J.loop (A:=RnA) (fun r=>[(9, .int .i64 (r.n:Nat)),(30, .int .i64 (r.i:Nat))]) [11,31,32,33,34,35,36,37,38] (fun r=>[.blk b3 (plC r.p) 26, .grow jbC 2 r.p.ja r.p.jn r.p.js, .gown hdC 48 67 r.p.ha r.p.hn r.p.hc r.p.hs, .gown jdC 45 61 r.p.da r.p.dn r.p.dc r.p.ds, .all (r.p.js.map jbE), .all (r.p.hs.map hdE), .all (r.p.ds.map jdE), .blk b2 [.int .i64 0, .slice none 0 0, .slice none 0 0, .slice none 0 0] 26]) (fun r=>r.i≤m∧PlQ (S.runP p.V ((xs.take r.i).map Int.toNat)) r.p∧r.n=S.runN p.V ((xs.take r.i).map Int.toNat)∧r.n≤r.i) (fun r=>m - r.i) ⟨0,0,q⟩ (by kernel_rfl) ⟨Nat.zero_le _,hQ,rfl,Nat.le_refl _⟩ (fun r j hI=>?_);obtain⟨hi,hr,hn,hni⟩:=hI;have hrh:r.p.hn=p.hn:=by
  have e1:=S.run_hs ((xs.take r.i).map Int.toNat) p.V;rw[←hr.k.V]at e1;have e2:r.p.V.hs.length=r.p.hs.length:=List.length_map _;have e3:=hr.l.2.1;omega
 refine run ?_;refine J.ifd rfl (fun d1=>?_) (fun d1=>?_)
 ·obtain⟨x,hx⟩:=D0.ex (i:=(r.i:Nat)) (by omega);have hx':xs[r.i]? =some x:=hx;have hxb:=hpk x (List.mem_of_getElem? hx');have hvr:S.Vld (S.runP p.V ((xs.take r.i).map Int.toNat)):=hvl.run fun k hk=>by
   obtain⟨y,hy,rfl⟩:=List.mem_map.1 hk;have:=hpk y (List.mem_of_mem_take hy);omega
  have et:(xs.take (r.i+1)).map Int.toNat=(xs.take r.i).map Int.toNat++[x.toNat]:=by
   rw[List.take_add_one,hx',Option.toList_some,List.map_append];rfl
  refine run ?_;refine J.callM (PlA.zero,false) (E:= .blk b3 (plC r.p) 26::plF r.p) (R:=[.blk b2 [.int .i64 0, .slice none 0 0, .slice none 0 0, .slice none 0 0] 26]) rfl rfl (fun w' X M hX hs=>poolStep r.p b3 x TK w' (K0.ext M.ext) (fun h=>(hX _ h).elim (fun h=>h) (fun h=>absurd K0.lt (by omega))) hs hr hvr (by omega)) fun s hs=>?_
  obtain⟨sp,sb⟩:=s;obtain⟨hs1,hs2⟩:=hs;dsimp only at hs1 hs2⊢;subst hs2;have e1:S.runP p.V ((xs.take (r.i+1)).map Int.toNat)=S.stepP (S.runP p.V ((xs.take r.i).map Int.toNat)) x.toNat:=by rw[et,S.runP_snoc]
  have e2:S.runN p.V ((xs.take (r.i+1)).map Int.toNat)=r.n+S.stepN (S.runP p.V ((xs.take r.i).map Int.toNat)) x.toNat:=by rw[et,S.runN_snoc,hn]
  refine run ?_;refine J.ifd rfl (fun d2=>?_) (fun d2=>?_)
  ·refine run ?_;refine J.next ⟨r.i+1,r.n+1,sp⟩ ⟨rfl,rfl,trivial⟩ (by kernel_rfl) ⟨by dsimp only;omega,by dsimp only;rw[e1];exact hs1,?_,by dsimp only;omega⟩ (by dsimp only;omega);dsimp only;rw[e2];unfold S.stepN;rw[if_pos d2]
  refine run ?_;refine J.next ⟨r.i+1,r.n,sp⟩ ⟨rfl,rfl,trivial⟩ (by kernel_rfl) ⟨by dsimp only;omega,by dsimp only;rw[e1];exact hs1,?_,by dsimp only;omega⟩ (by dsimp only;omega);dsimp only;rw[e2];unfold S.stepN;rw[if_neg d2];rfl
 rw[List.take_of_length_le (by omega)]at hr hn;refine run ?_;exact J.finG (r.p,r.n,0) rfl (RnP.yes he hr hn) sb
theorem poolStep1{S0:Nat→Prop}(p:PlA)(i:Int)(TK:TypeId)(w:World)(K0:Kst w TK)(R:PlR S0 w p):
  Calls prog 10 #[.agg (plC p).toArray, .int .i64 i] w (Gv w (fun q:PlA×Nat×Int=> .tuple #[.agg (plC q.1).toArray, .bool (decide ((0:Int)<((q.2.1:Nat):Int))), .int .i64 q.2.2]) rnE (RnP p.V [i])):=by
 refine J.enter 20 func10 rfl rfl ?_;refine run ?_;refine J.box rfl rfl rfl fun b1=>?_
 refine J.alloc rfl fun b2=>?_
 refine run ?_;refine J.b1V inC i (fun _=>rfl) rfl rfl rfl rfl fun b4=>?_
 refine run ?_;refine J.call rfl rfl (fun w' M=>(RG.own' (a:=some ⟨b4,0,none⟩) w' M).elim fun _ k0=>poolRun p (some ⟨b4,0,none⟩) 1 1 [i] TK w' (K0.ext M.ext) (R.ext M.ext) k0 (by omega)) fun q hq=>?_
 refine run ?_;refine J.alloc rfl fun b5=>?_
 refine run ?_;exact J.finG q rfl hq sb
instance:Ents prog 80:=⟨.mk func80 (by kernel_rfl) rfl⟩
instance:Ents prog 23:=⟨.mk func23 (by kernel_rfl) rfl⟩
theorem fillO_j3{x:Value}{os vs:List Value}(h1:os.length=11)(h:vs.length=32):fillO [(0,1),(1,1),(2,11),(13,32)] 45 [(0,[x]),(2,os),(3,vs)]=true:=by
 simp[fillO,h,h1]
theorem refPOf{S0:Nat→Prop}(j:JbA)(w:World)(R:JbR S0 w j):
  Calls prog 59 #[.agg (jbC j).toArray] w (Gv w (fun q:JdA=> .agg (jdC q).toArray) (fun q=>[jdE q]) fun q=>q.V=S.ofJ j.t j.bs∧JdK q):=by
 have D0:=R.row;have hn:=R.k.n;have hjI:=S.jdI_arr j.bs;have hcap:=R.k.cap;refine J.enter 23 func59 rfl rfl ?_;refine run ?_;refine J.box rfl rfl rfl fun b1=>?_
 refine J.alloc rfl fun b2=>?_
 refine run ?_;refine J.call rfl rfl (fun w' M=>judgeVR j.a j.n j.c j.bs w' (D0.ext M.ext) hcap (by omega)) fun q hq1=>?_
 refine run ?_;refine J.alloc rfl fun b3=>?_
 refine J.alloc rfl fun b4=>?_
 refine run ?_;refine J.ifn rfl (fun c1=>?_) (fun c1=>?_)
 ·refine run ?_;refine J.nilW .u8 32 ?_;refine J.re (.wrow .u8 32 none 0 []) (jdE ⟨j.t,S.jdV j.bs,⟨S.OpV.zero,none,0⟩,List.replicate 32 0,rfl⟩) (fun _ _ h=>h) ?_;refine J.finG (⟨j.t,S.jdV j.bs,⟨S.OpV.zero,none,0⟩,List.replicate 32 0,rfl⟩:JdA) rfl ⟨?_,S.OpV.zero_ok,Nat.le_refl _,zero_ids⟩ sb;unfold S.ofJ;rw[(S.jd_ne c1).1,(S.jd_ne c1).2]
 refine run ?_;refine J.bd rfl ?_ (ho:=by exact fillO_j3 rfl (by rw[ints_length,hjI.1])) (hf:=by exact spl_id j.t 0 ⟨S.jdO j.bs,q.1,q.2⟩ (List.replicate 32 0) rfl hjI.1);have hl2:=jdC_len' ⟨j.t,0,⟨S.jdO j.bs,q.1,q.2⟩,S.jdI j.bs,hjI.1⟩;refine run ?_;refine J.re (.wrow .u8 32 q.1 (S.jdO j.bs).n (S.jdO j.bs).ids) (jdE ⟨j.t,0,⟨S.jdO j.bs,q.1,q.2⟩,S.jdI j.bs,hjI.1⟩) (fun _ _ h=>h) ?_;refine J.finG (⟨j.t,0,⟨S.jdO j.bs,q.1,q.2⟩,S.jdI j.bs,hjI.1⟩:JdA) rfl ⟨?_,(S.jdO_ok D0.bd).1,hq1,hjI⟩ sb;unfold S.ofJ;rw[c1]
theorem refPCan{S0:Nat→Prop}(p:PlA)(i:Int)(w:World)(R:PlR S0 w p)(hv:S.vldP p.V)(hi:0≤i∧i<p.hn):
  Calls prog 34 #[.agg (plC p).toArray, .int .i64 i] w (Ret w fun v _=>v= .bool (decide (S.canP p.V i.toNat))):=by
 have G2:=R.hr;have hjl:=R.jl;have hhl:=R.hl;have hdl:=R.dl;obtain⟨h0,hh0⟩:=G2.ex (i:=i) (by omega);have hst:S.stgP p.V i.toNat=h0.V:=PlA.hAt hh0;have hs0:(S.stgP p.V i.toNat).s=h0.s:=congrArg S.HdV.s hst;have h3:=S.hand_s (((S.vld_iff p.V).1 hv).hand (i:=i.toNat) (by omega));refine J.enter 21 func34 rfl rfl ?_;refine run ?_;refine J.box rfl rfl rfl fun b1=>?_
 refine run ?_;refine J.ife rfl (fun c1=>?_) (fun c1=>?_)
 ·refine run ?_;exact J.fin (congrArg _ (decide_eq_decide.2 (by unfold S.canP;omega)))
 refine run ?_;refine J.ife rfl (fun c2=>?_) (fun c2=>?_)
 ·refine run ?_;exact J.fin (congrArg _ (decide_eq_true (by unfold S.canP;omega)).symm)
 refine run ?_;exact J.fin (congrArg _ (decide_eq_decide.2 (by unfold S.canP;omega)))
theorem refPPicks{S0 S1:Nat→Prop}(p:PlA)(a:Option Addr)(m c:Nat)(xs:List Int)(w:World)(R:PlR S0 w p)(D0:GRow inC 1 S1 w a m xs)(hm:m≤100000):
  Calls prog 33 #[.agg (plC p).toArray, .slice a m c] w (Ret w fun v _=>v= .int .i64 (S.runE p.V xs)):=by
 have hl:=D0.len;have hhl:=R.hl;refine J.enter 33 func33 rfl rfl ?_;refine run ?_;refine J.box rfl rfl rfl fun b1=>?_
 refine run ?_;refine J.callp rfl rfl (fun w' M=>refPCheck p w' (R.ext M.ext)) ?_;refine run ?_;refine J.ifn rfl (fun c1=>?_) (fun c1=>?_)
 ·have hv:¬S.vldP p.V:=fun h=>c1 (S.vldE_0 h);refine run ?_;refine J.callp rfl rfl (fun w' M=>refPCheck p w' (R.ext M.ext)) ?_;refine run ?_;exact J.fin (by rw[S.runE_8 hv,S.vldE_8 hv])
 have hv:=S.vldE_ok.1 c1;refine run ?_;refine J.ifd rfl (fun c2=>?_) (fun c2=>?_)
 ·refine run ?_;exact J.fin (by rw[S.runE_4 hv (by omega)])
 refine run ?_;refine J.loopS (A:=Int) (fun q=>[(5, .int .i64 q)]) [4,14,15,16,17,18,19,20,21,22,23,24,25,26,27,28,29,30,31,32,33,34] (fun q=>(0≤q∧q≤m)∧∀x∈xs.take q.toNat,0≤x∧x<p.hn) (fun q=>m - q.toNat) 0 (by kernel_rfl) ⟨by omega,fun i hi=>by simp at hi⟩ (fun q j hI=>?_);obtain⟨h1,hI⟩:=hI;refine run ?_;refine J.ifd rfl (fun c3=>?_) (fun c3=>?_)
 ·obtain⟨y,hy⟩:=D0.ex (i:=q) (by omega);have no:¬(0≤y∧y<p.hn)→¬S.pkP p.V xs:=fun h k=>by
   have:=k y (List.mem_of_getElem? hy);omega
  refine run ?_;refine J.regionX [(0, .q),(1, .q),(2, .q),(3, .q),(4, .q),(5, .q),(6, .q),(7, .q),(8, .q),(9, .q),(10, .q),(11, .q),(12, .q),(13, .q),(14, .q)] mixed (by kernel_rfl) ?_;refine run ?_;refine J.spd rfl rfl rfl (fun c4=>?_) (fun c4=>?_)
  ·refine run ?_;exact J.fin (by rw[S.runE_2 hv (by omega) (no (by omega))])
  refine run ?_;refine J.ifd rfl (fun c5=>?_) (fun c5=>?_)
  ·refine run ?_;exact J.fin (by rw[S.runE_2 hv (by omega) (no (by omega))])
  refine run ?_;refine J.nextS (q+1) ⟨rfl,trivial⟩ (by kernel_rfl) ⟨by omega,fun x hx=>?_⟩ (by omega);rw[show(q+1).toNat=q.toNat+1 by omega,List.take_add_one,hy,Option.toList_some]at hx;rcases List.mem_append.1 hx with e|e
  ·exact hI x e
  rw[List.mem_singleton]at e;rw[e];omega
 refine run ?_;rw[List.take_of_length_le (by omega)]at hI;exact J.fin (by rw[S.runE_0 hv (by omega) (fun x hx=>by have:=hI x hx;omega)])
instance:Ents prog 9:=⟨.mk func9 (by kernel_rfl) rfl⟩
instance:Ents prog 59:=⟨.mk func59 (by kernel_rfl) rfl⟩
theorem bub{α:Type}{ds:List α}(x:α){y:α}{k:Nat}(h:ds[k]? =some y):(ds.take (k+1)++x::ds.drop (k+1))[k+1]? =some x∧(ds.take (k+1)++x::ds.drop (k+1))[k]? =some y∧((ds.take (k+1)++x::ds.drop (k+1)).set (k+1) y).set k x=ds.take k++x::ds.drop k:=by
 obtain⟨hk,hy⟩:=List.getElem?_eq_some_iff.1 h;have e1:ds.take (k+1)=ds.take k++[y]:=by rw[List.take_add_one,h];rfl
 have e2:ds.drop k=y::ds.drop (k+1):=by rw[List.drop_eq_getElem_cons hk,hy]
 have ht:(ds.take k).length=k:=List.length_take_of_le (by omega);rw[e1,e2];generalize ds.take k=T at ht;subst ht;rw[List.append_assoc];refine⟨?_,?_,?_⟩
 ·rw[List.getElem?_append_right (by omega),Nat.add_sub_cancel_left];rfl
 ·rw[List.getElem?_append_right (Nat.le_refl _),Nat.sub_self];rfl
 rw[List.set_append_right _ _ (by omega),Nat.add_sub_cancel_left,List.set_append_right _ _ (Nat.le_refl _),Nat.sub_self];rfl
theorem refPDid{S0:Nat→Prop}(p:PlA)(i:Int)(w:World)(R:PlR S0 w p)(hv:S.vldP p.V)(hi:0≤i∧i<p.hn)(hcan:S.canP p.V i.toNat):
  Calls prog 35 #[.agg (plC p).toArray, .int .i64 i] w (Gv w (fun q:PlA=> .agg (plC q).toArray) plF (PlQ (S.didP p.V i.toNat))):=by
 have hvl:=(S.vld_iff p.V).1 hv;have hph:=R.hl;have hst3:=S.hand_s (hvl.hand (i:=i.toNat) (by omega));have hout:=hvl.out (i:=i.toNat) (by omega);obtain⟨v,eV⟩:=ex p.V;rw[←eV]at hvl hcan hst3 hout hph⊢;refine J.enter 97 func35 rfl rfl ?_;refine run ?_;refine J.box rfl rfl rfl fun b1=>?_
 refine J.alloc rfl fun b2=>?_
 refine run ?_;refine J.call rfl rfl (fun w' M=>refPTwin p w' (R.ext M.ext)) fun q hq=>?_
 rw[←eV]at hq;refine run ?_;refine J.alloc rfl fun b5=>?_
 refine run ?_;refine J.fact (.gown jbC 2 65 q.ja q.jn q.jc q.js) (fun _ _ h=>(gown_e h).1.len) fun hq1=>?_
 refine J.fact (.gown hdC 48 67 q.ha q.hn q.hc q.hs) (fun _ _ h=>(gown_e h).1.len) fun hq2=>?_
 refine J.fact (.gown jdC 45 61 q.da q.dn q.dc q.ds) (fun _ _ h=>(gown_e h).1.len) fun hq3=>?_
 refine J.fact (.gown jbC 2 65 q.ja q.jn q.jc q.js) (fun _ _ h=>(gown_e h).1.capn) fun hq4=>?_
 have hQ:PlQ v q:=⟨hq,hq4,hq1,hq2,hq3⟩
 refine J.re (.gown jbC 2 65 q.ja q.jn q.jc q.js) (.grow jbC 2 q.ja q.jn q.js) (fun _ _ h=>gown_grow h) ?_;obtain⟨cap,ja,jn,jc,js,ha,hn,hc,hs,da,dn,dc,ds⟩:=q;dsimp only at hq1 hq2 hq3 hq4⊢;have hV:=hq.V;have hhn:v.hs.length=hn:=by rw[←hV];exact(List.length_map _).trans hq2
 have hjn:v.js.length=jn:=by rw[←hV];exact(List.length_map _).trans hq1
 have hdn:v.ds.length=dn:=by rw[←hV];exact(List.length_map _).trans hq3
 obtain⟨h0,hh0⟩:∃z,hs[i.toNat]? =some z:=⟨_,List.getElem?_eq_getElem (by omega)⟩
 have hst:=hQ.stg hh0;have hs0:(S.stgP v i.toNat).s=h0.s:=congrArg S.HdV.s hst;have hl48:=hdC_len' h0;refine J.fact (p:=∃b,ha=some ⟨b,0,none⟩) (.gown hdC 48 67 ha hn hc hs) (fun _ _ h=>(gown_e h).1.some (by omega)) fun hha=>?_
 obtain⟨bh,rfl⟩:=hha;refine run ?_;refine J.alloc rfl fun b6=>?_
 refine run ?_;refine J.stG (f:=hdC) (i:=i) (q:=HdA.zero) rfl rfl rfl ?_ (hv:=hdC_cells HdA.zero);refine J.openA (hs.map hdE) i.toNat (e:=hdE h0) (by rw[List.getElem?_map,hh0];rfl) ?_;refine J.re (hdE h0) (.all [.irow .u8 h0.ba h0.bn h0.bs,jdE h0.j]) (fun _ _ h=>h) ?_;refine run ?_;refine J.ife rfl (fun c1=>?_) (fun c1=>?_)
 ·have h1j:0<v.js.length:=by unfold S.canP at hcan;omega
  obtain⟨z,hz0⟩:∃z,js[(0:Int).toNat]? =some z:=⟨_,List.getElem?_eq_getElem (by rw[hq1];show 0<jn;omega)⟩
  refine J.fact (p:=∃b o,ja=some ⟨b,o,none⟩) (.grow jbC 2 ja jn js) (fun _ _ h=>let ⟨b,o,k,_⟩:=(grow_e h).get (i:=0) (by decide) hz0 (by omega);⟨b,o,k⟩) fun hja=>?_
  obtain⟨bj,oj,rfl⟩:=hja;refine run ?_;refine J.regionX [(0, .q),(1, .q),(2, .q),(3, .q),(4, .q),(5, .q),(6, .q),(7, .q),(8, .q),(9, .g)] mixed (by kernel_rfl) ?_;refine run ?_;refine J.stG (f:=hdC) (i:=i) (q:=⟨1,z.t,z.a,z.n,z.c,z.bs,JdA.zero⟩) rfl rfl rfl ?_ (hv:=hdC_cells ⟨1,z.t,z.a,z.n,z.c,z.bs,JdA.zero⟩);rw[List.set_set];refine run ?_;refine J.re (.grow jbC 2 (some ⟨bj,oj,none⟩) jn js) (.grow jbC 2 (subA (some ⟨bj,oj,none⟩) 1 2 jc) (jn - 1) (js.drop 1)) (fun _ _ h=>grow_i ((grow_e h).tl (by omega) hq4)) ?_;refine J.openA (js.map jbE) 0 (e:=jbE z) (by rw[List.getElem?_map,show js[0]? =some z from hz0];rfl) ?_;rw[erase_0];refine J.nilW .u8 32 ?_;refine J.pair (jbE z) (.wrow .u8 32 none 0 []) ?_;refine J.re (.all [jbE z, .wrow .u8 32 none 0 []]) (hdE ⟨1,z.t,z.a,z.n,z.c,z.bs,JdA.zero⟩) (fun _ _ h=>h) ?_;refine J.shutA (hs.map hdE) i.toNat (hdE ⟨1,z.t,z.a,z.n,z.c,z.bs,JdA.zero⟩) (by rw[List.length_map];omega) ?_;rw[←List.map_set];refine J.front (.all ((hs.set i.toNat ⟨1,z.t,z.a,z.n,z.c,z.bs,JdA.zero⟩).map hdE)) ?_;refine J.front (.all ((js.drop 1).map jbE)) ?_;refine J.front (.gown jdC 45 61 da dn dc ds) ?_;refine J.front (.gown hdC 48 67 (some ⟨bh,0,none⟩) hn hc (hs.set i.toNat ⟨1,z.t,z.a,z.n,z.c,z.bs,JdA.zero⟩)) ?_;refine J.front (.grow jbC 2 (subA (some ⟨bj,oj,none⟩) 1 2 jc) (jn - 1) (js.drop 1)) ?_;exact J.finG (⟨cap,subA (some ⟨bj,oj,none⟩) 1 2 jc,jn - 1,jc - 1,js.drop 1,some ⟨bh,0,none⟩,hn,hc,hs.set i.toNat ⟨1,z.t,z.a,z.n,z.c,z.bs,JdA.zero⟩,da,dn,dc,ds⟩:PlA) rfl (hQ.take hz0 (by omega) (by omega)) sb
 refine run ?_;refine J.ife rfl (fun c2=>?_) (fun c2=>?_)
 ·refine J.openA [.irow .u8 h0.ba h0.bn h0.bs,jdE h0.j] 0 rfl ?_;dsimp only[List.eraseIdx];have hk0:=hq.h h0 (List.mem_of_getElem? hh0);refine J.regionX [(0, .q),(1, .q),(2, .q),(3, .q),(4, .q),(5, .e),(6, .q),(7, .q),(8, .g)] mixed (by kernel_rfl) ?_;refine run ?_;refine J.call rfl rfl (fun w' M=>(RI.row' (a:=h0.ba) w' M).elim fun _ k0=>refPOf ⟨h0.jt,h0.ba,h0.bn,h0.bc,h0.bs⟩ w' ⟨⟨hk0.cap,hk0.n⟩,k0⟩) fun u hu=>?_
  refine J.bd rfl ?_ (ho:=by exact fillO_h2 (jdC_len' u)) (hf:=by exact spl_hd (h:=hdJ u) rfl rfl);refine run ?_;refine J.stG (f:=hdC) (i:=i) (q:=hdJ u) rfl rfl rfl ?_ (hv:=hdC_cells (hdJ u));rw[List.set_set];refine run ?_;refine J.nilR .u8 ?_;refine J.pair (.irow .u8 none 0 []) (jdE u) ?_;refine J.re (.all [.irow .u8 none 0 [],jdE u]) (hdE (hdJ u)) (fun _ _ h=>h) ?_;refine J.shutA (hs.map hdE) i.toNat (hdE (hdJ u)) (by rw[List.length_map];omega) ?_;rw[←List.map_set];refine J.front (.all ((hs.set i.toNat (hdJ u)).map hdE)) ?_;refine J.front (.all (js.map jbE)) ?_;refine J.front (.gown jdC 45 61 da dn dc ds) ?_;refine J.front (.gown hdC 48 67 (some ⟨bh,0,none⟩) hn hc (hs.set i.toNat (hdJ u))) ?_;refine J.front (.grow jbC 2 ja jn js) ?_;exact J.finG (⟨cap,ja,jn,jc,js,some ⟨bh,0,none⟩,hn,hc,hs.set i.toNat (hdJ u),da,dn,dc,ds⟩:PlA) rfl (hQ.judge hh0 (by omega) hu.1 hu.2) sb
 have hz2:(S.stgP v i.toNat).s=2:=by omega
 have hd6:dn<60:=by unfold S.canP at hcan;omega
 have hno:¬h0.j.t∈v.dT:=by
  have:=hout hz2;rwa[hst]at this
 obtain⟨cut1,cut2⟩:=S.spT_cut hvl.c2 hno;refine J.openA [.irow .u8 h0.ba h0.bn h0.bs,jdE h0.j] 1 rfl ?_;dsimp only[List.eraseIdx];refine run ?_;refine J.ldp rfl ?_ (hv:=hd_j h0) (hn:=jdC_len' h0.j);refine run ?_;refine J.b1G jdC h0.j jdC_len' rfl rfl rfl fun bx=>?_
 refine run ?_;refine J.apG rfl rfl RG.own' jdC_one fun a' c'=>?_
 refine run ?_;refine J.fact (p:=∃b,a'=some ⟨b,0,none⟩) (.gown jdC 45 61 a' (dn+1) c' (ds++[h0.j])) (fun _ _ h=>(gown_e h).1.some (by omega)) fun hda=>?_
 obtain⟨bd,rfl⟩:=hda;have e0:ds++[h0.j]=ds.take dn++h0.j::ds.drop dn:=by rw[List.take_of_length_le (by omega),List.drop_of_length_le (by omega)]
 rw[e0,show((dn+1:Nat):Int) - 1=(dn:Nat)by omega];refine J.front (.blk b5 [.int .i64 cap, .slice ja jn jc, .slice (some ⟨bh,0,none⟩) hn hc, .slice (some ⟨bd,0,none⟩) (dn+1) c'] 26) ?_;refine J.front (jdE h0.j) ?_;refine J.front (.gown jdC 45 61 (some ⟨bd,0,none⟩) (dn+1) c' (ds.take dn++h0.j::ds.drop dn)) ?_;refine J.drop (E:=[.gown jdC 45 61 (some ⟨bd,0,none⟩) (dn+1) c' (ds.take dn++h0.j::ds.drop dn),jdE h0.j, .blk b5 [.int .i64 cap, .slice ja jn jc, .slice (some ⟨bh,0,none⟩) hn hc, .slice (some ⟨bd,0,none⟩) (dn+1) c'] 26, .grow jbC 2 ja jn js, .gown hdC 48 67 (some ⟨bh,0,none⟩) hn hc (hs.set i.toNat HdA.zero), .all (js.map jbE), .all ((hs.map hdE).eraseIdx i.toNat), .all (ds.map jdE), .blk b2 [.int .i64 0, .slice none 0 0, .slice none 0 0, .slice none 0 0] 26]) sb ?_;refine J.loop (A:=Nat) (fun k=>[(7, .int .i64 (k:Nat))]) [33,34,35,36,37,38,39,40,41,42,43,44,45,46,47,48,49,50,51,52,53,54,55,56,57,58,59,60,61,62,63,64,65,66,67,68,69,70,71,72] (fun k=>[.gown jdC 45 61 (some ⟨bd,0,none⟩) (dn+1) c' (ds.take k++h0.j::ds.drop k),jdE h0.j, .blk b5 [.int .i64 cap, .slice ja jn jc, .slice (some ⟨bh,0,none⟩) hn hc, .slice (some ⟨bd,0,none⟩) (dn+1) c'] 26, .grow jbC 2 ja jn js, .gown hdC 48 67 (some ⟨bh,0,none⟩) hn hc (hs.set i.toNat HdA.zero), .all (js.map jbE), .all ((hs.map hdE).eraseIdx i.toNat), .all (ds.map jdE), .blk b2 [.int .i64 0, .slice none 0 0, .slice none 0 0, .slice none 0 0] 26]) (fun k=>k≤dn∧∀x∈v.dT.drop k,h0.j.t<x) (fun k=>k) dn (by kernel_rfl) ⟨Nat.le_refl _,fun x hx=>by rw[List.drop_of_length_le (by rw[List.length_map];omega)]at hx;cases hx⟩ (fun k j hI=>?_);obtain⟨hk,hI⟩:=hI;refine run ?_;refine J.regionX [(0, .q),(1, .q),(2, .q),(3, .q),(4, .q),(5, .q),(6, .q),(7, .q),(8, .q),(9, .q),(10, .q),(11, .q),(12, .q),(13, .q),(14, .q),(15, .q),(16, .q),(17, .q)] mixed (by kernel_rfl) ?_;refine run ?_
 refine J.spd rfl rfl rfl (fun c3=>?_) (fun c3=>?_)
 rotate_left
 ·obtain rfl:k=0:=by omega
  refine run ?_;have hsp:S.spT v h0.j.t=0:=S.spotC_eq (by omega) (fun m hm=>absurd hm (Nat.not_lt_zero m)) (fun h=>S.cT_ge hI h);refine J.re (.all (ds.map jdE)) (.all (((ds.take 0++h0.j::ds.drop 0).map jdE).eraseIdx 0)) (fun _ _ h=>by rw[mid_erase _ _ _ (by omega)];exact h) ?_;refine J.shutA ((ds.take 0++h0.j::ds.drop 0).map jdE) 0 (jdE h0.j) (by rw[List.length_map,List.length_append,List.length_cons,List.length_take];omega) ?_;refine J.re (.all (((ds.take 0++h0.j::ds.drop 0).map jdE).set 0 (jdE h0.j))) (.all ((ds.take 0++h0.j::ds.drop 0).map jdE)) (fun _ _ h=>by rw[mid_set _ _ _ (by omega)]at h;exact h) ?_;refine J.nilR .u8 ?_;refine J.nilW .u8 32 ?_;refine J.pair (.irow .u8 none 0 []) (.wrow .u8 32 none 0 []) ?_;refine J.re (.all [.irow .u8 none 0 [], .wrow .u8 32 none 0 []]) (hdE HdA.zero) (fun _ _ h=>h) ?_;refine J.shutA (hs.map hdE) i.toNat (hdE HdA.zero) (by rw[List.length_map];omega) ?_;rw[←List.map_set];refine J.front (.all ((ds.take 0++h0.j::ds.drop 0).map jdE)) ?_;refine J.front (.all ((hs.set i.toNat HdA.zero).map hdE)) ?_;refine J.front (.all (js.map jbE)) ?_;refine J.front (.gown jdC 45 61 (some ⟨bd,0,none⟩) (dn+1) c' (ds.take 0++h0.j::ds.drop 0)) ?_;refine J.front (.gown hdC 48 67 (some ⟨bh,0,none⟩) hn hc (hs.set i.toNat HdA.zero)) ?_;refine J.front (.grow jbC 2 ja jn js) ?_;have hfin:=hQ.put (da':=some ⟨bd,0,none⟩) (dc':=c') hh0 hz2 hd6 (rfl:dn+1=dn+1);rw[hsp]at hfin;exact J.finG (⟨cap,ja,jn,jc,js,some ⟨bh,0,none⟩,hn,hc,hs.set i.toNat HdA.zero,some ⟨bd,0,none⟩,dn+1,c',ds.take 0++h0.j::ds.drop 0⟩:PlA) rfl hfin sb
 obtain⟨k,rfl⟩:∃k',k=k'+1:=⟨k - 1,by omega⟩
 obtain⟨y,hy⟩:∃y,ds[k]? =some y:=⟨_,List.getElem?_eq_getElem (by omega)⟩
 obtain⟨g1,g2,g3⟩:=bub h0.j hy;have g1':(ds.take (k+1)++h0.j::ds.drop (k+1))[((k+1:Nat):Int).toNat]? =some h0.j:=g1;have g2':(ds.take (k+1)++h0.j::ds.drop (k+1))[(((k+1:Nat):Int) - 1).toNat]? =some y:=by rw[show(((k+1:Nat):Int) - 1).toNat=k by omega];exact g2
 have hyt:(v.ds.getD k S.JdV.zero).t=y.t:=by
  rw[←hV];exact congrArg S.JdV.t (PlA.dAt (p:=⟨cap,ja,jn,jc,js,some ⟨bh,0,none⟩,hn,hc,hs,da,dn,dc,ds⟩) hy)
 refine run ?_;refine J.ldGf (a:=some ⟨bd,0,none⟩) (i:=((k+1:Nat):Int)) (off:=0) rfl RG.own' ?_;refine run ?_;refine J.ldGf (a:=some ⟨bd,0,none⟩) (i:=((k+1:Nat):Int) - 1) (off:=0) rfl RG.own' ?_;refine run ?_;refine J.ifd rfl (fun c4=>?_) (fun c4=>?_)
 rotate_left
 ·skip
  refine run ?_;have hsp:S.spT v h0.j.t=(k+1):=S.spotC_eq (by omega) (S.cT_lo hvl.c2 hno (by omega) (by omega)) (fun h=>S.cT_ge hI h);refine J.re (.all (ds.map jdE)) (.all (((ds.take (k+1)++h0.j::ds.drop (k+1)).map jdE).eraseIdx (k+1))) (fun _ _ h=>by rw[mid_erase _ _ _ (by omega)];exact h) ?_;refine J.shutA ((ds.take (k+1)++h0.j::ds.drop (k+1)).map jdE) (k+1) (jdE h0.j) (by rw[List.length_map,List.length_append,List.length_cons,List.length_take];omega) ?_;refine J.re (.all (((ds.take (k+1)++h0.j::ds.drop (k+1)).map jdE).set (k+1) (jdE h0.j))) (.all ((ds.take (k+1)++h0.j::ds.drop (k+1)).map jdE)) (fun _ _ h=>by rw[mid_set _ _ _ (by omega)]at h;exact h) ?_;refine J.nilR .u8 ?_;refine J.nilW .u8 32 ?_;refine J.pair (.irow .u8 none 0 []) (.wrow .u8 32 none 0 []) ?_;refine J.re (.all [.irow .u8 none 0 [], .wrow .u8 32 none 0 []]) (hdE HdA.zero) (fun _ _ h=>h) ?_;refine J.shutA (hs.map hdE) i.toNat (hdE HdA.zero) (by rw[List.length_map];omega) ?_;rw[←List.map_set];refine J.front (.all ((ds.take (k+1)++h0.j::ds.drop (k+1)).map jdE)) ?_;refine J.front (.all ((hs.set i.toNat HdA.zero).map hdE)) ?_;refine J.front (.all (js.map jbE)) ?_;refine J.front (.gown jdC 45 61 (some ⟨bd,0,none⟩) (dn+1) c' (ds.take (k+1)++h0.j::ds.drop (k+1))) ?_;refine J.front (.gown hdC 48 67 (some ⟨bh,0,none⟩) hn hc (hs.set i.toNat HdA.zero)) ?_;refine J.front (.grow jbC 2 ja jn js) ?_;have hfin:=hQ.put (da':=some ⟨bd,0,none⟩) (dc':=c') hh0 hz2 hd6 (rfl:dn+1=dn+1);rw[hsp]at hfin;exact J.finG (⟨cap,ja,jn,jc,js,some ⟨bh,0,none⟩,hn,hc,hs.set i.toNat HdA.zero,some ⟨bd,0,none⟩,dn+1,c',ds.take (k+1)++h0.j::ds.drop (k+1)⟩:PlA) rfl hfin sb
 refine run ?_;refine J.regionT [.blk b5 [.int .i64 cap, .slice ja jn jc, .slice (some ⟨bh,0,none⟩) hn hc, .slice (some ⟨bd,0,none⟩) (dn+1) c'] 26] (.br [(0, .q),(1, .q),(2, .q),(3, .q),(4, .q),(5, .q),(6, .q),(7, .q),(8, .q),(9, .q),(10, .q),(11, .q),(13, .q),(14, .q),(15, .q),(16, .q)] 12 (.fin [(17, .e),(18, .q),(19, .e),(20, .q),(21, .e)]) 17 (.fin [(12, .e),(18, .q),(19, .e),(20, .q),(21, .e)])) mixed (by kernel_rfl) (by repeat(first|exact List.Sublist.refl _|refine List.Sublist.cons_cons _ ?_|refine List.Sublist.cons _ ?_)) ?_;refine run ?_;refine J.nil (J.kt ?_ ?_)
 ·refine J.ldGe rfl (a:=some ⟨bd,0,none⟩) (i:=((k+1:Nat):Int) - 1) (off:=0) rfl RG.own' ?_ (q:=y) (hf:=by exact jdC_all' y) (hn:=by exact jdC_len' y);refine run ?_;refine J.ldGe rfl (a:=some ⟨bd,0,none⟩) (i:=((k+1:Nat):Int)) (off:=0) rfl RG.own' ?_ (q:=h0.j) (hf:=by exact jdC_all' h0.j) (hn:=by exact jdC_len' h0.j);refine run ?_;refine J.stG (f:=jdC) (a:=some ⟨bd,0,none⟩) (i:=((k+1:Nat):Int)) (q:=y) rfl rfl rfl ?_ (hv:=jdC_cells y);refine run ?_;refine J.stG (f:=jdC) (a:=some ⟨bd,0,none⟩) (i:=((k+1:Nat):Int) - 1) (q:=h0.j) rfl rfl rfl ?_ (hv:=jdC_cells h0.j);rw[show((ds.take (k+1)++h0.j::ds.drop (k+1)).set ((k+1:Nat):Int).toNat y).set (((k+1:Nat):Int) - 1).toNat h0.j=ds.take k++h0.j::ds.drop k from by rw[show(((k+1:Nat):Int) - 1).toNat=k by omega];exact g3];refine run ?_;rw[show((k+1:Nat):Int) - 1=(k:Nat)by omega];exact J.next k ⟨rfl,trivial⟩ (by kernel_rfl) ⟨by omega,S.drop_gt hI (by omega) (by rw[hyt];exact c4)⟩ (by omega)
 refine J.ldGe rfl (a:=some ⟨bd,0,none⟩) (i:=((k+1:Nat):Int)) (off:=0) rfl RG.own' ?_ (q:=h0.j) (hf:=by exact jdC_all' h0.j) (hn:=by exact jdC_len' h0.j);refine run ?_;refine J.ldGe rfl (a:=some ⟨bd,0,none⟩) (i:=((k+1:Nat):Int) - 1) (off:=0) rfl RG.own' ?_ (q:=y) (hf:=by exact jdC_all' y) (hn:=by exact jdC_len' y);refine run ?_;refine J.stG (f:=jdC) (a:=some ⟨bd,0,none⟩) (i:=((k+1:Nat):Int)) (q:=y) rfl rfl rfl ?_ (hv:=jdC_cells y);refine run ?_;refine J.stG (f:=jdC) (a:=some ⟨bd,0,none⟩) (i:=((k+1:Nat):Int) - 1) (q:=h0.j) rfl rfl rfl ?_ (hv:=jdC_cells h0.j);rw[show((ds.take (k+1)++h0.j::ds.drop (k+1)).set ((k+1:Nat):Int).toNat y).set (((k+1:Nat):Int) - 1).toNat h0.j=ds.take k++h0.j::ds.drop k from by rw[show(((k+1:Nat):Int) - 1).toNat=k by omega];exact g3];refine run ?_;rw[show((k+1:Nat):Int) - 1=(k:Nat)by omega];exact J.next k ⟨rfl,trivial⟩ (by kernel_rfl) ⟨by omega,S.drop_gt hI (by omega) (by rw[hyt];exact c4)⟩ (by omega)
end W
end Go.Proofs.YtfoaecjggdaieaaGreatDoor
