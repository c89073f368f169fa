/-
  What this law alone needs.
-/
import Derived.Test.YtkibkhgcbepolaaGreatDoorPBl14
namespace Go.Proofs.YtkibkhgcbepolaaGreatDoor.S
open G
set_option linter.unusedVariables false
theorem numF_ge{f:Nat→Bool}{k:Nat}:∀ {n:Nat},(∀i,i<k→f i=false)→(∀i,k≤i→i<n→f i=true)→numF f n=n - k
 |0,_,_=>by rw[numF];omega
 |n+1,h1,h2=>by
  rw[numF,numF_ge (n:=n) h1 fun i hi hn=>h2 i hi (by omega)];rcases Nat.lt_or_ge n k with c|c
  ·rw[h1 n c];simp;omega
  ·rw[h2 n c (by omega)];simp;omega
theorem kp_first{g:PG}{o:OpV}(hg:g.fine)(hn:o.n=min (hdN g) 4)(hi:o.ids=(hdI g).take (32*min (hdN g) 4)):kpN o (hdN g) (hdI g)=hdN g - 4:=by
 obtain⟨h1,h2,h3⟩:=hd_all hg;have e:∀j,j<min (hdN g) 4→idAt o.ids j=idAt (hdI g) j:=fun j hj=>by
  rw[hi];unfold idAt;rw[List.drop_take,List.take_take,Nat.min_eq_left (by omega)]
 have:=numF_ge (f:=keepF o (hdI g)) (k:=min (hdN g) 4) (n:=hdN g) (fun i hk=>?_) (fun i hk hn2=>?_)
 ·show numF (keepF o (hdI g)) (hdN g)=_;rw[this];omega
 ·unfold keepF;exact decide_eq_false (not_not_intro ⟨i,by rw[hn];exact hk,e i hk⟩)
 ·unfold keepF;refine decide_eq_true fun⟨j,hj,ej⟩=>?_
  rw[hn]at hj;rw[e j hj]at ej;have:=rising_inj h2 (i:=j) (j:=i) (by omega) hn2 ej;omega
end Go.Proofs.YtkibkhgcbepolaaGreatDoor.S
namespace Go.Proofs.YtkibkhgcbepolaaGreatDoor.W
open Go.RowKit Go.Proofs.YtkibkhgcbepolaaGreatDoor.G
set_option linter.unusedVariables false
set_option linter.unusedSimpArgs false
set_option maxRecDepth 20000
set_option maxHeartbeats 8000000
attribute [local irreducible] RS RX RY Code.wp bodyPost J Ent.blk Ent.irow Ent.iown Ent.wrow Ent.wown Ent.gown Ent.all Ent.emp
instance:Ents Tryz.prog 21:=⟨.mk Tryz.func21 (by kernel_rfl) rfl⟩
instance:Ents Tryz.prog 27:=⟨.mk Tryz.func27 (by kernel_rfl) rfl⟩
instance:Ents Tryz.prog 23:=⟨.mk Tryz.func23 (by kernel_rfl) rfl⟩
instance:Ents Tryz.prog 32:=⟨.mk Tryz.func32 (by kernel_rfl) rfl⟩
instance:Ents Tryz.prog 35:=⟨.mk Tryz.func35 (by kernel_rfl) rfl⟩
theorem refIn{S0:Nat→Prop}(a:Option Addr)(n c:Nat)(ids x:List Int)(w:World)(D0:WRow .u8 32 S0 w a n ids)(hx:Arr .u8 32 x)(hn:n≤1000):
  Calls Tryz.prog 35 #[.slice a n c, .agg (ints .u8 x).toArray] w (Ret w fun v _=>v= .bool (decide (S.inS n ids x))):=by
 refine J.enter 16 Tryz.func35 rfl rfl ?_;refine run ?_;refine J.box rfl rfl rfl fun b1=>?_
 refine run ?_;refine J.loopS (A:=Nat) (fun p=>[(5, .int .i64 (p:Nat))]) [6,7,8,9,10,11,12,13,14,15,16,17] (fun p=>p≤n∧∀k,k<p→S.idAt ids k≠x) (fun p=>n - p) 0 (by kernel_rfl) ⟨Nat.zero_le _,fun k hk=>by omega⟩ (fun p j hI=>?_);obtain⟨h1,hI⟩:=hI;refine run ?_;refine J.ifd rfl (fun c1=>?_) (fun c1=>?_)
 ·obtain⟨q,hq⟩:=ex (elt 32 ids ((p:Nat):Int).toNat);have hq':S.idAt ids p=q:=by rw[hq,Int.toNat_natCast];rfl
  have hqa:Arr .u8 32 q:=hq▸D0.elt_arr (by omega);refine run ?_;refine J.regionX [(0, .q),(1, .q),(2, .q),(3, .q),(4, .q),(5, .q)] mixed (by kernel_rfl) ?_;refine run ?_;refine J.ifd rfl (fun c2=>?_) (fun c2=>?_)
  ·refine run ?_;exact J.fin (congrArg _ (decide_eq_true ⟨p,by omega,hq'.trans c2⟩).symm)
  refine run ?_;refine J.nextS (p+1) ⟨rfl,trivial⟩ (by kernel_rfl) ⟨by omega,fun k hk=>?_⟩ (by omega);rcases Nat.lt_or_ge k p with h|h
  ·exact hI k h
  obtain rfl:k=p:=by omega
  exact fun e=>c2 (hq'.symm.trans e)
 refine run ?_;exact J.fin (congrArg _ (decide_eq_false fun⟨k,hk,e⟩=>hI k (by omega) e).symm)
theorem builderCommits{S0:Nat→Prop}(s:StA)(x:Int)(hx:0≤x∧x<4294967296)(o:S.OpV)(hr:o.rng)(h0:o.n=0)(TK:TypeId)(w:World)(K0:Kst w TK)(G:StI S0 w s):
  Calls Tryz.prog 5 #[.agg (srC s).toArray, .int .u32 x, .agg (acC o).toArray] w (Ret w fun v _=>v= .bool true):=by
 refine J.enter 127 Tryz.func5 rfl rfl ?_;refine run ?_;refine J.box rfl rfl rfl fun b1=>?_
 refine J.box rfl rfl rfl fun b2=>?_
 refine run ?_;refine J.callp rfl rfl (fun w' M=>bdAlive TK w' (K0.ext M.ext)) ?_;refine run ?_;refine J.call rfl rfl (fun w' M=>refStGreat s w' (G.ext M.ext)) fun q1 hq1=>?_
 refine run ?_;refine J.sp rfl rfl rfl (fun c1=>?_) (fun c1=>?_)
 ·refine run ?_;exact J.fin rfl
 have H:=G.st (hq1 c1);refine run ?_;refine J.callp rfl rfl (fun w' M=>refStCheck s w' (H.ext M.ext)) ?_;refine run ?_;refine J.spn rfl rfl rfl (fun c2=>?_) (fun c2=>?_)
 ·refine run ?_;exact J.fin rfl
 have hok:=S.chkT_iff.1 c2;refine run ?_;refine J.callp rfl rfl (fun w' M=>lawGreat24 o w') ?_;refine run ?_;refine J.spd rfl rfl rfl (fun c3=>?_) (fun c3=>?_)
 ·refine run ?_;exact J.fin rfl
 have ho:o.ok:=hr.ok fun h=>by
  rcases h with h|h
  ·omega
  exact c3 h
 have hf:=S.wrt_fit (x:=x) H.g ho;have hA:=hf.i;have F:=S.ok_fineT H.g hok;refine run ?_;refine J.call rfl rfl (fun w' M=>bWrite x hx s o ho TK w' (K0.ext M.ext) (H.ext M.ext)) fun y hy=>?_
 refine run ?_;refine J.alloc rfl fun b4=>?_
 refine J.alloc rfl fun b5=>?_
 refine run ?_;refine J.ifn rfl (fun d1=>?_) (fun d1=>?_)
 ·refine run ?_;exact J.fin rfl
 obtain⟨⟨yo,yp,yc⟩,ya,yn,yd⟩:=y;obtain⟨hy1,hy2⟩:=hy;dsimp only at hy1 hy2⊢;subst hy1;obtain⟨r1,r2,r3,r4,_⟩:=S.wrt_good H.g hok ho d1;have hvo:=hf.o;have hck:=S.check_zero.1 (S.verE_check r2);obtain⟨_,r5,r6⟩:True∧(S.wrtR s.V x o).o.n=min (S.hdN (S.whole s.V.sh.ps)) 4∧(S.wrtR s.V x o).o.ids=(S.hdI (S.whole s.V.sh.ps)).take (32*min (S.hdN (S.whole s.V.sh.ps)) 4):=⟨trivial,(S.wrt_good H.g hok ho d1).2.2.2.2⟩
 refine run ?_;refine J.regionX [(0, .q),(1, .e),(2, .q),(3, .q),(4, .q),(6, .q),(5, .e),(7, .q),(8, .q)] mixed (by kernel_rfl) ?_;refine run ?_;refine J.callp rfl rfl (fun w' M=>(RW.row' (a:=yp) w' M).elim fun _ k=>verifyOR _ hvo _ _ _ k hy2) ?_;rw[r2];refine run ?_;refine J.callp rfl rfl (fun w' M=>(RW.row' (a:=yp) w' M).elim fun _ k=>ofO _ hvo _ _ _ k hy2 hck.1 (fun hk=>S.fine4 hck.2.2.2.2.2.2 hk)) ?_;have hA3:Arr .u8 32 (S.sha (S.encS (S.wrtR s.V x o).o)):=S.sha_arr _;refine run ?_;refine J.ifb rfl (fun c=>absurd c (by simp[show S.sha (S.encS (S.wrtR s.V x o).o)=(S.wrtR s.V x o).i from r1.symm])) (fun _=>?_);obtain⟨k1,k2⟩:=S.off_ok H.g hok r2;have zu:=H.z.off H.g hok r2;refine run ?_;refine J.call rfl rfl (fun w' M=>(RW.row' (a:=yp) w' M).elim fun _ k=>stOfferF s ⟨(S.wrtR s.V x o).o,yp,yc⟩ TK w' r2 hok (K0.ext M.ext) (H.ext M.ext) ⟨hvo,k,hy2⟩) fun u hu=>?_
 dsimp only at hu⊢;refine run ?_;refine J.alloc rfl fun b6=>?_
 refine run ?_;refine J.call rfl rfl (fun w' M=>refStGraph s w' (H.ext M.ext)) fun g hg=>?_
 rw[S.grT_0 hok]at hg;dsimp only[grE,List.cons_append,List.nil_append];have hgs:=GrP.sz (P:=S.whole s.sh.V.ps) hg ⟨F.fine.good,F.fine.le⟩;have hgok:=hg.ok (refWholeOk H.sh);have hgP:g.P=S.whole s.V.sh.ps:=GrP.P hg;have hgm:g.m=s.on:=by
  have h:=congrArg S.PG.m hgP;exact h.trans F.m
 have hin:S.inS g.m g.ids (S.wrtR s.V x o).i↔S.inS s.V.n s.V.os (S.idOf (S.wrtR s.V x o).o):=by
  rw[r1,hg.m,hg.ids];exact(F.same _).symm
 have hat:=S.at_neg (m:=g.m) (ids:=g.ids) (x:=(S.wrtR s.V x o).i);refine run ?_;refine J.alloc rfl fun b7=>?_
 refine run ?_;refine J.callp rfl rfl (fun w' M=>(RW.own' (a:=g.ia) w' M).elim fun _ k0=>refAt _ _ _ _ _ w' k0 hA (by omega)) ?_;refine run ?_;refine J.callp rfl rfl (fun w' M=>refStCheck u w' (hu.own zu w' M)) ?_;rw[hu.V,S.chkT_0 k1];refine run ?_;refine J.ifd rfl (fun d4=>?_) (fun d4=>?_)
 ·have hj:S.judT s.V (S.wrtR s.V x o).o=5:=S.jud_5 (hin.1 (Classical.not_not.1 fun k=>by have:=hat.2 k;omega));rw[hj];refine run ?_;exact J.fin rfl
 have n1:¬S.inS s.V.n s.V.os (S.idOf (S.wrtR s.V x o).o):=fun k=>hat.1 (by omega) (hin.2 k);refine run ?_;refine J.ife rfl (fun d5=>?_) (fun d5=>?_)
 ·have hj:S.judT s.V (S.wrtR s.V x o).o=8:=S.jud_8 n1 r4 (by show(s.on:Int)=s.cap;rw[←d5,hgm]);rw[hj];refine run ?_;exact J.fin rfl
 have hj:S.judT s.V (S.wrtR s.V x o).o=1:=S.jud_1 n1 r4 (fun e=>d5 (by rw[hgm];exact e));obtain⟨a1,a2⟩:=S.com_add H.g hok r2 hj;obtain⟨m1,m2,m3⟩:=S.com_ok H.g hok r2 hj;obtain⟨_,_,b3f,b4f,_⟩:=S.add_fine F.fine.good.1 a1;obtain⟨e1,e2⟩:=S.hd_add F.fine.good.1 a1;rw[S.kp_first F.fine r5 r6]at e1;have hhd:=(S.hd_new F.fine.good.1 a1 (S.idOf (S.wrtR s.V x o).o)).2 (.inr rfl);rw[hj];rw[S.off_1 hj]at hu zu;refine run ?_;refine J.know (fun w' M=>refWholeOk (hu.own zu w' M).sh) fun hokW=>?_
 rw[show u.sh.V=(S.comT s.V (S.wrtR s.V x o).o).sh from congrArg S.StV.sh hu.V,m3,←a2]at hokW;refine J.call rfl rfl (fun w' M=>refStGraph u w' (hu.own zu w' M)) fun h hh=>?_
 rw[hu.V,S.grT_0 m1,m3,←a2]at hh;dsimp only[grE,List.cons_append,List.nil_append];have hhs:=GrP.sz (P:=S.addP (S.whole s.V.sh.ps) (S.wrtR s.V x o).o) hh ⟨b3f.good,b3f.le⟩;have hhok:=hh.ok hokW;have hhP:h.P=S.addP (S.whole s.V.sh.ps) (S.wrtR s.V x o).o:=GrP.P hh;have hc1:S.chkG g.m g.ids g.ops=0:=by
  have k:=(S.chkP_fine F.fine.good.1).2 F.fine;rw[←hgP]at k;exact k
 have hc2:S.chkG h.m h.ids h.ops=0:=by
  have k:=(S.chkP_fine b3f.good.1).2 b3f;rw[←hhP]at k;exact k
 refine run ?_;refine J.alloc rfl fun b8=>?_
 refine run ?_;refine J.regionX [(0, .q),(2, .q),(1, .e),(3, .e),(4, .q),(5, .q)] mixed (by kernel_rfl) ?_;refine run ?_;refine J.call rfl rfl (fun w' M=>refTop g w' (GrR.own hgok hg.cap hgs w' M) hc1) fun q7 hq7=>?_
 refine run ?_;refine J.call rfl rfl (fun w' M=>refTop h w' (GrR.own hhok hh.cap hhs w' M) hc2) fun q8 hq8=>?_
 refine run ?_;rw[hgP]at hq7;rw[hhP,e1]at hq8;have hh60:S.hdN (S.whole s.V.sh.ps)≤60:=Nat.le_trans (S.numF_le _ _) F.fine.le;have hIn:S.inS q8.2.1 (S.hdI h.P) (S.wrtR s.V x o).i:=by
  rw[hq8,←e1,hhP,r1];exact hhd
 refine J.callp rfl rfl (fun w' M=>(RW.own' (a:=q8.1) w' M).elim fun _ k0=>refIn _ _ _ _ _ w' k0 hA (by omega)) ?_;rw[decide_eq_true hIn];refine run ?_;exact J.fin (congrArg _ (beq_iff_eq.2 (by rw[hq8,hq7];split<;>omega)))
end Go.Proofs.YtkibkhgcbepolaaGreatDoor.W
