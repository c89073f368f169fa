/-
  Part 14 of the lemmas of these laws: StoreFinds, StoreOffers.
-/
import Derived.Test.YtaapnlnileblaaaGreatDoorPSf13
set_option linter.unusedVariables false
set_option linter.unusedSimpArgs false
open Go.Proofs.Tryz
namespace Go.Proofs.YtaapnlnileblaaaGreatDoor
namespace S
open G
theorem srt_rising{n:Nat}{l:List Int}(hl:l.length=32*n)(hr:Rising n l):srtS l n=(n,l):=by
 obtain⟨h1,h2,h3⟩:=srt_good hl n (Nat.le_refl _);obtain⟨e1,e2⟩:=idsG_ext hl h1 hr h2 fun x=>(h3 x).symm;exact Prod.ext e1.symm e2.symm
theorem sel_rising{f:Nat→Bool}{n:Nat}{l:List Int}(hl:l.length=32*n)(hr:Rising n l):(selF f l n).length=32*numF f n∧Rising (numF f n) (selF f l n)∧∀x,inS (numF f n) (selF f l n) x↔∃k,k<n∧f k=true∧idAt l k=x:=by
 obtain⟨h1,h2,h3⟩:=sel_all (f:=f) (g:=idG n l) (idG_good hl) hr n (Nat.le_refl _);refine⟨h1.1,h2,fun x=>?_⟩;have:inS (numF f n) (selF f l n) x↔∃o,(selP f (idG n l) n).has x o:=has_in (g:=selP f (idG n l) n);refine this.trans ⟨fun⟨o,ho⟩=>?_,fun⟨k,hk,h4,h5⟩=>⟨_,(h3 x _).2 ⟨k,hk,h4,h5,rfl⟩⟩⟩;obtain⟨k,hk,h4,h5,_⟩:=(h3 x o).1 ho;exact⟨k,hk,h4,h5⟩
theorem ver_rising{o:OpV}(h:verE o=0):Rising o.n o.ids∧o.n≤4:=by
 have:=check_zero.1 (verE_check h);exact⟨this.2.1,this.1⟩
theorem abs_sorted{v:StV}{o:OpV}(hv:verE o=0)(hw:o.ids.length=32*o.n):srtS (selF (absF v.n v.os o.ids) o.ids o.n) (numF (absF v.n v.os o.ids) o.n)=(numF (absF v.n v.os o.ids) o.n,selF (absF v.n v.os o.ids) o.ids o.n):=by
 obtain⟨h1,h2,_⟩:=sel_rising (f:=absF v.n v.os o.ids) hw (ver_rising hv).1;exact srt_rising h1 h2
end S
namespace W
open Go.RowKit G
set_option maxRecDepth 20000
set_option maxHeartbeats 8000000
attribute [local irreducible] RS RX RY Code.wp bodyPost J Ent.blk Ent.iown Ent.wrow Ent.wown Ent.gown Ent.all Ent.emp
instance:Ents prog 64:=⟨.mk func64 (by kernel_rfl) rfl⟩
instance:Ents prog 69:=⟨.mk func69 (by kernel_rfl) rfl⟩
instance:Ents prog 70:=⟨.mk func70 (by kernel_rfl) rfl⟩
instance:Ents prog 130:=⟨.mk func130 (by kernel_rfl) rfl⟩
instance:Ents prog 33:=⟨.mk func33 (by kernel_rfl) rfl⟩
instance:Ents prog 81:=⟨.mk func81 (by kernel_rfl) rfl⟩
theorem refStNew(c n:Int)(w:World):
  Calls prog 18 #[.int .i64 c, .int .i64 n] w (Gv w (fun q:StA=> .tuple #[.agg (srC q).toArray, .int .i64 (S.nwTE c n)]) (fun q=>stE q) (StK (S.nwT c n))):=by
 have bad:¬((1≤c∧c≤40)∧1≤n∧n≤4)→S.nwT c n=S.StV.zero∧S.nwTE c n=2:=S.nwT_2;refine J.enter 25 func18 rfl rfl ?_;refine run ?_;refine J.alloc rfl fun b1=>?_
 refine run ?_;refine J.call rfl rfl (fun w' M=>shOne (refShNew n w')) fun u hu=>?_
 refine run ?_;refine J.alloc rfl fun b2=>?_
 refine run ?_;refine J.spd rfl rfl rfl (fun c1=>?_) (fun c1=>?_)
 ·obtain⟨e1,e2⟩:=bad (by omega);rw[e2];refine run ?_;refine J.nilWo 29 .u8 32 ?_;refine J.nilSh ?_;exact J.finG StA.zero rfl (stZero e1) sb
 refine run ?_;refine J.spd rfl rfl rfl (fun c2=>?_) (fun c2=>?_)
 ·obtain⟨e1,e2⟩:=bad (by omega);rw[e2];refine run ?_;refine J.nilWo 29 .u8 32 ?_;refine J.nilSh ?_;exact J.finG StA.zero rfl (stZero e1) sb
 refine run ?_;refine J.ifn rfl (fun c3=>?_) (fun c3=>?_)
 ·obtain⟨e1,e2⟩:=bad fun h=>c3 (if_pos h.2);rw[e2];refine run ?_;refine J.nilWo 29 .u8 32 ?_;refine J.nilSh ?_;exact J.finG StA.zero rfl (stZero e1) sb
 have hn:1≤n∧n≤4:=Classical.byContradiction fun h=>by
  rw[show S.nwE n=2 from if_neg h]at c3;exact absurd c3 (by decide)
 obtain⟨e1,e2⟩:=S.nwT_0 (c:=c) (n:=n) ⟨by omega,hn⟩;rw[e2];refine run ?_;refine J.nilWo 29 .u8 32 ?_;refine J.front (.wown 29 .u8 32 none 0 0 []) ?_;refine J.front (shW u) ?_;refine J.finG ⟨c,u,none,0,0,[]⟩ rfl ⟨?_,hu.k⟩ sb;rw[e1];have e4:u.V=S.nwS n:=hu.V;unfold StA.V;dsimp only;rw[e4,show S.nwS n=S.madeS S.PG.nil n.toNat from if_pos hn]
theorem refStAsked{S0 S1:Nat→Prop}(s:StA)(z:OpA)(w:World)(H:StR S0 w s)(R:OpR S1 w z):
  Calls prog 69 #[.agg (srC s).toArray, .agg (opC z).toArray] w (Ret w fun v _=>v= .int .i64 (S.askE s.V z.o)):=by
 refine J.enter 8 func69 rfl rfl ?_;refine run ?_;refine J.box rfl rfl rfl fun b1=>?_
 refine J.box rfl rfl rfl fun b2=>?_
 refine run ?_;refine J.callp rfl rfl (fun w' M=>refStCheck s w' (H.ext M.ext)) ?_;refine run ?_;refine J.ifn rfl (fun c1=>?_) (fun c1=>?_)
 ·obtain⟨k1,k2⟩:=S.chkT_ne c1;refine run ?_;exact J.fin (congrArg _ (S.askE_8 k1).symm)
 refine run ?_;refine J.callp rfl rfl (fun w' M=>verifyOR z.o R.ok _ _ _ (R.row.ext M.ext) R.cap) ?_;refine run ?_;exact J.fin (congrArg _ (S.askE_v (S.chkT_iff.1 c1)).symm)
theorem refAbsent{S0 S1:Nat→Prop}(a:Option Addr)(m c:Nat)(ids:List Int)(a2:Option Addr)(n c2:Nat)(ps:List Int)(w:World)(D0:WRow .u8 32 S0 w a m ids)(D1:WRow .u8 32 S1 w a2 n ps)(hm:m≤1000)(hn:n≤500):
  Calls prog 70 #[.slice a m c, .slice a2 n c2] w (Gv w (fun q:Option Addr×Nat×Nat=> .slice q.1 q.2.1 q.2.2) (fun q=>[.wown 29 .u8 32 q.1 q.2.1 q.2.2 (S.srtS (S.selF (S.absF m ids ps) ps n) (S.numF (S.absF m ids ps) n)).2]) fun q=>q.2.1=(S.srtS (S.selF (S.absF m ids ps) ps n) (S.numF (S.absF m ids ps) n)).1):=by
 obtain⟨F,hF⟩:=ex (S.absF m ids ps);rw[←hF];refine J.enter 27 func70 rfl rfl ?_;refine run ?_;refine J.nilWo 29 .u8 32 ?_;refine J.loop (A:=NmA) (fun k=>[(5, .slice k.a k.n k.c),(6, .int .i64 (k.i:Nat))]) [7,8,9,10,11,12,13,14,15,16,17,18,19,20,21,22,23,24,25,26] (fun k=>[.wown 29 .u8 32 k.a k.n k.c (S.selF F ps k.i)]) (fun k=>k.i≤n∧k.n=S.numF F k.i) (fun k=>n - k.i) ⟨0,0,none,0⟩ (by kernel_rfl) ⟨Nat.zero_le _,rfl⟩ (fun k j3 hI=>?_);obtain⟨hk,hkn⟩:=hI;have hnle:=S.numF_le F k.i;refine run ?_;refine J.ifd rfl (fun c2=>?_) (fun c2=>?_)
 ·obtain⟨y,hy⟩:=ex (elt 32 ps ((k.i:Nat):Int).toNat);have hyA:Arr .u8 32 y:=hy▸D1.elt_arr (by omega);have hyi:S.idAt ps k.i=y:=by rw[hy,Int.toNat_natCast];rfl
  have hFp:F k.i=decide (¬S.inS m ids y):=by rw[hF];unfold S.absF;rw[hyi]
  refine run ?_;refine J.callp rfl rfl (fun w' M=>refAt _ _ _ _ _ w' (D0.ext M.ext) hyA (by omega)) ?_;refine run ?_;refine J.ifd rfl (fun c3=>?_) (fun c3=>?_)
  ·have ey:F k.i=true:=by rw[hFp];exact decide_eq_true (S.at_neg.1 c3)
   have e3:S.selF F ps k.i++y=S.selF F ps (k.i+1):=by rw[S.selF,ey,hyi];rfl
   have e4:S.numF F (k.i+1)=k.n+1:=by rw[S.numF,ey,←hkn];rfl
   refine run ?_;refine J.b1W rfl rfl hyA fun bb=>?_
   refine J.apW rfl rfl RW.own' fun a' c'=>?_
   rw[e3];refine run ?_;exact J.next ⟨k.i+1,k.n+1,a',c'⟩ ⟨rfl,rfl,trivial⟩ (by kernel_rfl) ⟨by dsimp only;omega,e4.symm⟩ (by dsimp only;omega)
  have ey:F k.i=false:=by rw[hFp];exact decide_eq_false (not_not_intro (Classical.not_not.1 fun h=>c3 (S.at_neg.2 h)))
  have e3:S.selF F ps k.i=S.selF F ps (k.i+1):=by rw[S.selF,ey];exact(List.append_nil _).symm
  have e4:S.numF F (k.i+1)=k.n:=by rw[S.numF,ey,←hkn];rfl
  rw[e3];refine run ?_;exact J.next ⟨k.i+1,k.n,k.a,k.c⟩ ⟨rfl,rfl,trivial⟩ (by kernel_rfl) ⟨by dsimp only;omega,e4.symm⟩ (by dsimp only;omega)
 have hnm:=S.numF_le F n;obtain⟨ki,kn,ka,kc⟩:=k;dsimp only at hk hkn hnle c2⊢;obtain rfl:ki=n:=by omega
 refine J.fact (.wown 29 .u8 32 ka kn kc (S.selF F ps ki)) (fun _ _ h=>(wown_len h).2) fun hc1=>?_
 refine run ?_;refine J.call rfl rfl (fun w' M=>(RW.own' (a:=ka) w' M).elim fun _ k0=>refSorted ka kn kc _ w' k0 hc1 (by omega)) fun q hq=>?_
 refine run ?_;rw[←hkn];exact J.finG q rfl hq sb
theorem refStMissing{S0 S1:Nat→Prop}(s:StA)(z:OpA)(w:World)(H:StR S0 w s)(R:OpR S1 w z):
  Calls prog 22 #[.agg (srC s).toArray, .agg (opC z).toArray] w (Gv w (fun q:Option Addr×Nat=> .tuple #[.slice q.1 (S.msN s.V z.o) q.2, .int .i64 (S.askE s.V z.o)]) (fun q=>[.wown 29 .u8 32 q.1 (S.msN s.V z.o) q.2 (S.msL s.V z.o)]) fun q=>S.msN s.V z.o≤q.2):=by
 have hcp:=H.cap;have h20:=R.ok.n;have hw:=R.row.len;refine J.enter 16 func22 rfl rfl ?_;refine run ?_;refine J.box rfl rfl rfl fun b1=>?_
 refine J.box rfl rfl rfl fun b2=>?_
 refine run ?_;refine J.callp rfl rfl (fun w' M=>refStAsked s z w' (H.ext M.ext) (R.ext M.ext)) ?_;refine run ?_;refine J.ifn rfl (fun c1=>?_) (fun c1=>?_)
 ·obtain⟨k1,k2⟩:=S.ms_no c1;rw[k1,k2];refine run ?_;refine J.nilWo 29 .u8 32 ?_;exact J.finG (none,0) rfl (Nat.le_refl _) sb
 obtain⟨k1,k2⟩:=S.ms_yes c1;have hv:=(S.askE_0 c1).2;have hs:S.srtS (S.selF (S.absF s.on s.os z.o.ids) z.o.ids z.o.n) (S.numF (S.absF s.on s.os z.o.ids) z.o.n)=(S.numF (S.absF s.on s.os z.o.ids) z.o.n,S.selF (S.absF s.on s.os z.o.ids) z.o.ids z.o.n):=S.abs_sorted (v:=s.V) hv hw;rw[k1,k2,c1];refine run ?_;refine J.call rfl rfl (fun w' M=>refAbsent _ _ _ _ _ _ _ _ w' (H.os.ext M.ext) (R.row.ext M.ext) (by omega) (by omega)) fun q hq=>?_
 rw[hs]at hq⊢;obtain⟨qa,qn,qc⟩:=q;dsimp only at hq⊢;subst hq;refine J.fact (.wown 29 .u8 32 qa (S.numF (S.absF s.on s.os z.o.ids) z.o.n) qc (S.selF (S.absF s.on s.os z.o.ids) z.o.ids z.o.n)) (fun _ _ h=>(wown_len h).2) fun hcap=>?_
 refine run ?_;exact J.finG (qa,qc) rfl hcap sb
theorem refJudgedT{S0 S1:Nat→Prop}(s:StA)(z:OpA)(w:World)(H:StR S0 w s)(R:OpR S1 w z)(hv:S.verE z.o=0):
  Calls prog 130 #[.agg (srC s).toArray, .agg (opC z).toArray] w (Ret w fun v _=>v= .int .u8 (S.judT s.V z.o)):=by
 have hcp:=H.cap;have h20:=R.ok.n;have hA:=S.sha_arr (S.encS z.o);have hck:=S.check_zero.1 (S.verE_check hv);refine J.enter 21 func130 rfl rfl ?_;refine run ?_;refine J.box rfl rfl rfl fun b1=>?_
 refine J.box rfl rfl rfl fun b2=>?_
 refine run ?_;refine J.regionX [(0, .q),(1, .q),(2, .q),(3, .e),(4, .e),(5, .q)] mixed (by kernel_rfl) ?_;refine run ?_;refine J.callp rfl rfl (fun w' M=>ofO z.o R.ok _ _ _ (R.row.ext M.ext) R.cap hck.1 (fun hk=>S.fine4 hck.2.2.2.2.2.2 hk)) ?_;refine run ?_;refine J.callp rfl rfl (fun w' M=>refAt _ _ _ _ _ w' (H.os.ext M.ext) hA (by omega)) ?_;refine run ?_;have a1:(0≤S.atS s.on s.os (S.sha (S.encS z.o)))↔S.inS s.on s.os (S.sha (S.encS z.o)):=by rw[←Int.not_lt,S.at_neg,Classical.not_not]
 refine J.ifd rfl (fun c1=>?_) (fun c1=>?_)
 ·refine run ?_;exact J.fin (congrArg _ (S.jud_5 (a1.1 c1)).symm)
 have c1':¬S.inS s.V.n s.V.os (S.idOf z.o):=fun h=>c1 (a1.2 h);refine run ?_;refine J.callp rfl rfl (fun w' M=>refAll _ _ _ _ _ _ _ _ w' (H.os.ext M.ext) (R.row.ext M.ext) (by omega) (by omega)) ?_;refine run ?_;refine J.ifnot rfl (fun c2=>?_) (fun c2=>?_)
 ·refine run ?_;exact J.fin (congrArg _ (S.jud_6 c1' (of_decide_eq_false c2)).symm)
 have c2:=of_decide_eq_true c2;refine run ?_;refine J.ife rfl (fun c3=>?_) (fun c3=>?_)
 ·refine run ?_;exact J.fin (congrArg _ (S.jud_8 c1' c2 c3).symm)
 refine run ?_;exact J.fin (congrArg _ (S.jud_1 c1' c2 c3).symm)
theorem refOfferedT{S0 S1:Nat→Prop}(s:StA)(z:OpA)(w:World)(H:StR S0 w s)(R:OpR S1 w z)(hok:S.okT s.V)(hv:S.verE z.o=0):
  Calls prog 81 #[.agg (srC s).toArray, .agg (opC z).toArray] w (Gv w (fun q:StA=> .tuple #[.agg (srC q).toArray, .int .u8 (S.judT s.V z.o)]) (fun q=>stE q) (StK (S.offT s.V z.o))):=by
 have hcp:=H.cap;have hA:=S.sha_arr (S.encS z.o);have hck:=S.check_zero.1 (S.verE_check hv);have F:=S.ok_fineT H.g hok;obtain⟨n1,n4⟩:=ok_len H.sh hok.1.2.1;have hle:=H.sh.le H.L n4;have hwg:=S.whole_good (ps:=s.sh.V.ps) H.sh.ml;have hll:s.sh.V.ps.length=s.sh.pn:=by rw[List.length_map,H.sh.pr.len]
 refine J.enter 36 func81 rfl rfl ?_;refine run ?_;refine J.box rfl rfl rfl fun b1=>?_
 refine J.box rfl rfl rfl fun b2=>?_
 refine J.alloc rfl fun b3=>?_
 refine run ?_;refine J.callp rfl rfl (fun w' M=>refJudgedT s z w' (H.ext M.ext) (R.ext M.ext) hv) ?_;refine run ?_;refine J.call rfl rfl (fun w' M=>refStTwin s w' (H.ext M.ext)) fun t ht=>?_
 refine run ?_;refine J.alloc rfl fun b4=>?_
 refine run ?_;refine J.ife rfl (fun c2=>?_) (fun c2=>?_)
 ·obtain⟨a1,a2⟩:=S.com_add H.g hok hv c2;obtain⟨_,_,b3f,b4f,_⟩:=S.add_fine F.fine.good.1 a1;rw[a2]at b3f b4f;refine run ?_;refine J.callp rfl rfl (fun w' M=>ofO z.o R.ok _ _ _ (R.row.ext M.ext) R.cap hck.1 (fun hk=>S.fine4 hck.2.2.2.2.2.2 hk)) ?_;refine run ?_;refine J.alloc rfl fun b5=>?_
  refine run ?_;refine J.regionX [(0, .q),(1, .q),(3, .q),(4, .q),(6, .q),(7, .q),(8, .q),(9, .q),(2, .e),(5, .e),(10, .e),(11, .q),(12, .g)] mixed (by kernel_rfl) ?_;refine run ?_;refine J.call rfl rfl (fun w' M=>refWhole s.sh w' (H.sh.ext M.ext) H.L n4) fun q hq=>?_
  dsimp only[grE,List.cons_append,List.nil_append];have hqs:=GrP.sz (P:=S.whole s.sh.V.ps) hq ⟨F.fine.good,F.fine.le⟩;have hqok:=hq.ok (refWholeOk H.sh);have hqP:q.P=S.whole s.sh.V.ps:=GrP.P hq;have hqm:q.m=(S.whole s.sh.V.ps).m:=hq.m;have hqn:q.n=q.m:=by rw[hq.n,hwg.2,hqm]
  have h60:(S.whole s.sh.V.ps).m≤60:=F.fine.le;refine run ?_;refine J.call rfl rfl (fun w' M=>refPut q (S.sha (S.encS z.o)) z w' (GrR.own hqok hq.cap hqs w' M) hA (R.ext M.ext) hqn (by omega)) fun r hr=>?_
  dsimp only[grE,List.cons_append,List.nil_append];have hq1:q.m=(S.whole s.sh.V.ps).m:=congrArg S.PG.m hqP;have hq2:q.ids=(S.whole s.sh.V.ps).ids:=congrArg S.PG.ids hqP;have hq3:q.ops=(S.whole s.sh.V.ps).ops:=congrArg S.PG.ops hqP;rw[hq1,hq2,hq3]at hr;have hrP:r.P=S.putP (S.whole s.sh.V.ps) (S.idOf z.o) z.o:=GrP.P hr;have hro:∀o∈(S.putP (S.whole s.sh.V.ps) (S.idOf z.o) z.o).ops,o.ok:=fun o ho=>by
   rcases List.mem_append.1 ho with h|h
   ·exact refWholeOk H.sh o (List.mem_of_mem_take h)
   rcases List.mem_cons.1 h with rfl|h
   ·exact R.ok
   exact refWholeOk H.sh o (List.mem_of_mem_drop h)
  have hrs:=GrP.sz (P:=S.putP (S.whole s.sh.V.ps) (S.idOf z.o) z.o) hr ⟨b3f.good,b3f.le⟩;have hrc:S.chkG r.m r.ids r.ops=0:=by
   have h:=(S.chkP_fine b3f.good.1).2 b3f;have h:S.chkP (S.putP (S.whole s.sh.V.ps) (S.idOf z.o) z.o)=0:=h;rw[←hrP]at h;exact h
  refine run ?_;refine J.call rfl rfl (fun w' M=>shOne (refMade r s.sh.pn w' (GrR.own (hr.ok hro) hr.cap hrs w' M) hrc n4)) fun u hu=>?_
  rw[hrP]at hu;refine run ?_;refine J.b1W rfl rfl hA fun bb=>?_
  have hton:t.on=s.on:=congrArg S.StV.n ht.V;refine J.apW rfl rfl RW.own' fun a' c'=>?_
  refine run ?_;refine J.front (.wown 29 .u8 32 a' (t.on+1) c' (t.os++S.sha (S.encS z.o))) ?_;refine J.front (shW u) ?_;refine J.finG ⟨t.cap,u,a',t.on+1,c',t.os++S.sha (S.encS z.o)⟩ rfl ⟨?_,hu.k⟩ sb;rw[S.off_1 c2];have e1:t.cap=s.cap:=congrArg S.StV.cap ht.V;have e2:t.on=s.on:=congrArg S.StV.n ht.V;have e3:t.os=s.os:=congrArg S.StV.os ht.V;have e4:u.V=_:=hu.V;unfold StA.V S.comT;dsimp only;rw[e1,e2,e3,e4,←hll]
 refine run ?_;refine J.finG t rfl ⟨?_,ht.k⟩ sb;rw[S.off_no c2];exact ht.V
theorem refStOffer{S0 S1:Nat→Prop}(s:StA)(z:OpA)(w:World)(H:StR S0 w s)(R:OpR S1 w z):
  Calls prog 35 #[.agg (srC s).toArray, .agg (opC z).toArray] w (Gv w (fun q:StA=> .tuple #[.agg (srC q).toArray, .int .u8 (S.ofJ s.V z.o), .int .i64 (S.askE s.V z.o)]) (fun q=>stE q) (StK (S.ofS s.V z.o))):=by
 refine J.enter 23 func35 rfl rfl ?_;refine run ?_;refine J.box rfl rfl rfl fun b1=>?_
 refine J.box rfl rfl rfl fun b2=>?_
 refine J.alloc rfl fun b3=>?_
 refine run ?_;refine J.callp rfl rfl (fun w' M=>refStAsked s z w' (H.ext M.ext) (R.ext M.ext)) ?_;refine run ?_;refine J.ifn rfl (fun c1=>?_) (fun c1=>?_)
 ·rw[(S.of_no c1).2];refine run ?_;refine J.nilWo 29 .u8 32 ?_;refine J.nilSh ?_;exact J.finG StA.zero rfl (stZero (S.of_no c1).1) sb
 obtain⟨hok,hv⟩:=S.askE_0 c1;rw[(S.of_yes c1).1,(S.of_yes c1).2,c1];refine run ?_;refine J.call rfl rfl (fun w' M=>refOfferedT s z w' (H.ext M.ext) (R.ext M.ext) hok hv) fun q hq=>?_
 refine run ?_;refine J.alloc rfl fun b4=>?_
 refine run ?_;exact J.finG q rfl hq sb
theorem refStRun{S0 S1:Nat→Prop}(s:StA)(a:Option Addr)(n c:Nat)(zs:List OpA)(w:World)(H:StR S0 w s)(O:GRow opC 11 S1 w a n zs)(I0:Inns opI S1 w zs)(hok:∀z∈zs,z.o.ok)(hn:n≤100000):
  Calls prog 37 #[.agg (srC s).toArray, .slice a n c] w (Gv w (fun q:StA×Option Addr×Nat=> .tuple #[.agg (srC q.1).toArray, .slice q.2.1 (S.runL s.V (zs.map OpA.o)).length q.2.2, .int .i64 (S.runE s.V (zs.map OpA.o))]) (fun q=>[shW q.1.sh, .wown 29 .u8 32 q.1.oa q.1.on q.1.oc q.1.os, .iown 5 .u8 q.2.1 (S.runL s.V (zs.map OpA.o)).length q.2.2 (S.runL s.V (zs.map OpA.o))]) fun q=>StK (S.runS s.V (zs.map OpA.o)) q.1):=by
 have hl:=O.len;obtain⟨ops,hops⟩:=ex (zs.map OpA.o);have hol:ops.length=n:=by rw[hops,List.length_map,hl]
 have opR:∀ {i:Nat} {z:OpA},zs[i]? =some z→OpR S1 w z∧ops.getD i S.OpV.zero=z.o:=fun {i z} h=>by
  have hm:=List.mem_of_getElem? h;have h1:=I0 z hm ⟨.u8,32,z.pa,z.o.n,z.pc,z.o.ids⟩ (List.mem_singleton.2 rfl);exact⟨⟨hok z hm,h1.1,h1.2⟩,by rw[hops,List.getD_eq_getElem?_getD,List.getElem?_map,h];rfl⟩
 rw[←hops];refine J.enter 59 func37 rfl rfl ?_;refine run ?_;refine J.box rfl rfl rfl fun b1=>?_
 refine J.alloc rfl fun b2=>?_
 refine run ?_;refine J.callp rfl rfl (fun w' M=>refStCheck s w' (H.ext M.ext)) ?_;refine run ?_;refine J.ifn rfl (fun c1=>?_) (fun c1=>?_)
 ·obtain⟨k1,k2⟩:=S.chkT_ne c1;have he:=S.runE_8 (l:=ops) k1;obtain⟨e1,e2⟩:=S.run_no (v:=s.V) (l:=ops) (by rw[he];decide);rw[he,e2];refine run ?_;refine J.nilI 5 .u8 ?_;refine J.nilWo 29 .u8 32 ?_;refine J.nilSh ?_;exact J.finG (StA.zero,none,0) rfl (stZero e1) sb
 have hokT:=S.chkT_iff.1 c1;refine run ?_;refine J.ifd rfl (fun c2=>?_) (fun c2=>?_)
 ·have he:=S.runE_4 (l:=ops) hokT (by omega);obtain⟨e1,e2⟩:=S.run_no (v:=s.V) (l:=ops) (by rw[he];decide);rw[he,e2];refine run ?_;refine J.nilI 5 .u8 ?_;refine J.nilWo 29 .u8 32 ?_;refine J.nilSh ?_;exact J.finG (StA.zero,none,0) rfl (stZero e1) sb
 have h60:¬60<ops.length:=by omega
 have hev:=S.runE_v (l:=ops) hokT h60;refine run ?_;refine J.loopS (A:=Nat) (fun p=>[(7, .int .i64 (p:Nat))]) [8,22,23,24,25,26,27,28,29,30,31,32,33,34,35,36] (fun p=>p≤n∧∀k,k<p→S.verE (ops.getD k S.OpV.zero)=0) (fun p=>n - p) 0 (by kernel_rfl) ⟨Nat.zero_le _,fun i hi=>by omega⟩ (fun p j hI=>?_);obtain⟨hp,hI⟩:=hI;refine run ?_;refine J.ifd rfl (fun c3=>?_) (fun c3=>?_)
 ·obtain⟨z,hz⟩:=O.ex (i:=(p:Nat)) (by omega);have hz':=hz;rw[Int.toNat_natCast]at hz';obtain⟨R,hzo⟩:=opR hz';refine run ?_;refine J.callp rfl rfl (fun w' M=>verifyOR z.o R.ok _ _ _ (R.row.ext M.ext) R.cap) ?_;refine run ?_;refine J.ifn rfl (fun c4=>?_) (fun c4=>?_)
  ·have he:S.runE s.V ops=S.verE z.o:=by
    rw[hev,←hzo];exact S.verL_first (by omega) hI (by rw[hzo];exact c4)
   obtain⟨e1,e2⟩:=S.run_no (v:=s.V) (l:=ops) (by rw[he];exact c4);rw[he,e2];refine run ?_;refine J.nilI 5 .u8 ?_;refine J.nilWo 29 .u8 32 ?_;refine J.nilSh ?_;exact J.finG (StA.zero,none,0) rfl (stZero e1) sb
  refine run ?_;refine J.nextS (p+1) ⟨rfl,trivial⟩ (by kernel_rfl) ⟨by omega,fun k hk=>?_⟩ (by omega);rcases Nat.lt_or_ge k p with h|h
  ·exact hI k h
  obtain rfl:k=p:=by omega
  rw[hzo];exact c4
 have hvl:S.verL ops=0:=S.verL_all fun k hk=>hI k (by omega);have hvo:=S.verL_zero.1 hvl;have he:S.runE s.V ops=0:=hev.trans hvl;obtain⟨e1,e2⟩:=S.run_yes he;rw[he,e1,e2,S.runJ_len,hol];have hrun:=fun i hi=>S.run_ok H.g hokT hvo i hi;have hsz:=fun i hi=>H.z.run H.g hokT hvo i hi;refine run ?_;refine J.call rfl rfl (fun w' M=>refStTwin s w' (H.ext M.ext)) fun t ht=>?_
 refine run ?_;refine J.alloc rfl fun b4=>?_
 refine run ?_;refine J.nilI 5 .u8 ?_;refine J.front (.blk b1 (srC s) 27) ?_;refine J.front (.iown 5 .u8 none 0 0 []) ?_;refine J.front (.wown 29 .u8 32 t.oa t.on t.oc t.os) ?_;refine J.front (shW t.sh) ?_;refine J.front (.blk b4 (srC t) 27) ?_;refine J.loop (A:=RnA) (fun p=>[(10, .slice p.a p.i p.c),(11, .int .i64 (p.i:Nat))]) [12,13,39,40,41,42,43,44,45,46,47,48,49,50,51,52,53,54,55,56,57,58] (fun p=>[.blk b4 (srC p.t) 27,shW p.t.sh, .wown 29 .u8 32 p.t.oa p.t.on p.t.oc p.t.os, .iown 5 .u8 p.a p.i p.c (S.runJ s.V ops p.i), .blk b1 (srC s) 27, .blk b2 [.int .i64 0, .slice none 0 0, .slice none 0 0, .int .i64 0, .slice none 0 0] 27]) (fun p=>p.i≤n∧StK (S.runT s.V ops p.i) p.t) (fun p=>n - p.i) ⟨0,t,none,0⟩ (by kernel_rfl) ⟨Nat.zero_le _,ht⟩ (fun p j hI=>?_) sb;obtain⟨hp,hT⟩:=hI;refine run ?_;refine J.ifd rfl (fun c3=>?_) (fun c3=>?_)
 ·obtain⟨z,hz⟩:=O.ex (i:=(p.i:Nat)) (by omega);have hz':=hz;rw[Int.toNat_natCast]at hz';obtain⟨R,hzo⟩:=opR hz';have hvz:S.verE z.o=0:=by rw[←hzo];exact hvo _ (by rw[S.getD_at (by omega)];exact List.getElem_mem _)
  have hbd:=jud_bd (S.runT s.V ops p.i) z.o;have hokp:=(hrun p.i (by omega)).1;rw[←hT.V]at hokp;refine run ?_;refine J.joinX (A:=StA×Nat) (fun u=>[(12, .pointer (some ⟨u.2,0,none⟩)),(13, .int .u8 (S.judT (S.runT s.V ops p.i) z.o))]) [45,46,47,48,49,50,51,52,53] (fun u=>[.blk u.2 (srC u.1) 27,shW u.1.sh, .wown 29 .u8 32 u.1.oa u.1.on u.1.oc u.1.os, .blk b4 (srC p.t) 27, .iown 5 .u8 p.a p.i p.c (S.runJ s.V ops p.i), .blk b1 (srC s) 27, .blk b2 [.int .i64 0, .slice none 0 0, .slice none 0 0, .int .i64 0, .slice none 0 0] 27]) (fun u=>StK (S.runT s.V ops (p.i+1)) u.1) ?_ (fun u j2 hu=>?_)
  ·refine J.regionW [.blk b4 (srC p.t) 27] mixed ?_;refine J.wnode [(0, .q),(1, .q),(2, .q),(3, .q),(4, .q)] [5,9] 6 #[true,true,true,true,true,false,false,false,false,false,false,false] (by kernel_rfl) ?_;refine run ?_;refine J.nil ?_;refine J.wbr ?_ ?_
   ·refine J.call rfl rfl (fun w' M=>refOfferedT p.t z w' (hT.own (hsz p.i (by omega)) w' M) (R.ext M.ext) hokp hvz) fun u hu=>?_
    refine J.nil ?_;refine J.wfin [(6, .q),(7, .q),(8, .q),(9, .e),(10, .e),(11, .q)] (by kernel_rfl) ?_;refine run ?_;refine J.alloc rfl fun b5=>?_
    refine run ?_;refine run ?_;rw[hT.V]at hu⊢;refine J.front (.wown 29 .u8 32 u.oa u.on u.oc u.os) ?_;refine J.front (shW u.sh) ?_;refine J.front (.blk b5 (srC u) 27) ?_;exact J.cut (u,b5) ⟨rfl,rfl,trivial⟩ (by kernel_rfl) (by dsimp only;rw[S.runT,hzo];exact hu)
   refine J.wbr ?_ ?_
   ·refine J.alloc rfl fun b5=>?_
    refine J.nil ?_;refine J.wfin [(5, .e),(6, .q),(7, .q),(8, .q),(10, .e),(11, .q)] (by kernel_rfl) ?_;refine run ?_;refine J.call rfl rfl (fun w' M=>refOfferedT p.t z w' (hT.own (hsz p.i (by omega)) w' M) (R.ext M.ext) hokp hvz) fun u hu=>?_
    refine run ?_;refine run ?_;rw[hT.V]at hu⊢;refine J.front (.wown 29 .u8 32 u.oa u.on u.oc u.os) ?_;refine J.front (shW u.sh) ?_;refine J.front (.blk b5 (srC u) 27) ?_;exact J.cut (u,b5) ⟨rfl,rfl,trivial⟩ (by kernel_rfl) (by dsimp only;rw[S.runT,hzo];exact hu)
   exact J.wbr0
  obtain⟨u,b6⟩:=u;dsimp only at hu⊢;refine run ?_;refine J.regionR [.blk b6 (srC u) 27] [(0, .q),(1, .q),(2, .q),(3, .e),(4, .e),(5, .e),(6, .q)] mixed (by kernel_rfl) (by repeat(first|exact List.Sublist.refl _|refine List.Sublist.cons_cons _ ?_|refine List.Sublist.cons _ ?_)) ?_;refine run ?_;refine J.b1 rfl rfl fun bb=>?_
  refine J.apI rfl rfl RI.own' fun a' c'=>?_
  have e3:S.runJ s.V ops p.i++[S.judT (S.runT s.V ops p.i) z.o]=S.runJ s.V ops (p.i+1):=by rw[S.runJ,hzo]
  rw[e3];refine run ?_;refine J.front (.iown 5 .u8 a' (p.i+1) c' (S.runJ s.V ops (p.i+1))) ?_;refine J.front (.wown 29 .u8 32 u.oa u.on u.oc u.os) ?_;refine J.front (shW u.sh) ?_;refine J.front (.blk b4 (srC u) 27) ?_;refine J.drop (E:=[.blk b4 (srC u) 27,shW u.sh, .wown 29 .u8 32 u.oa u.on u.oc u.os, .iown 5 .u8 a' (p.i+1) c' (S.runJ s.V ops (p.i+1)), .blk b1 (srC s) 27, .blk b2 [.int .i64 0, .slice none 0 0, .slice none 0 0, .int .i64 0, .slice none 0 0] 27]) sb ?_;exact J.next ⟨p.i+1,u,a',c'⟩ ⟨rfl,rfl,trivial⟩ (by kernel_rfl) ⟨by dsimp only;omega,hu⟩ (by dsimp only;omega)
 obtain⟨pi,t',ra,rc⟩:=p;dsimp only at hp hT c3⊢;obtain rfl:pi=n:=by omega
 refine run ?_;exact J.finG (t',ra,rc) rfl hT sb
theorem refStSince{S0:Nat→Prop}(s:StA)(k:Int)(w:World)(H:StR S0 w s):
  Calls prog 26 #[.agg (srC s).toArray, .int .i64 k] w (Gv w (fun q:Option Addr×Nat=> .tuple #[.slice q.1 (S.sinN s.V k) q.2, .int .i64 (S.sinE s.V k)]) (fun q=>[.wown 29 .u8 32 q.1 (S.sinN s.V k) q.2 (S.sinL s.V k)]) fun q=>S.sinN s.V k≤q.2):=by
 have hcp:=H.cap;refine J.enter 22 func26 rfl rfl ?_;refine run ?_;refine J.box rfl rfl rfl fun b1=>?_
 refine run ?_;refine J.callp rfl rfl (fun w' M=>refStCheck s w' (H.ext M.ext)) ?_;refine run ?_;refine J.ifn rfl (fun c1=>?_) (fun c1=>?_)
 ·obtain⟨k1,k2⟩:=S.chkT_ne c1;have he:=S.sinE_8 (k:=k) k1;obtain⟨e1,e2⟩:=S.sin_no (v:=s.V) (k:=k) (by rw[he];decide);rw[he,e1,e2];refine run ?_;refine J.nilWo 29 .u8 32 ?_;exact J.finG (none,0) rfl (Nat.le_refl _) sb
 have hok:=S.chkT_iff.1 c1;have hver:(s.on:Int)=s.sh.ver:=hok.1.2.2.2;have bad:¬(0≤k∧k≤s.V.n)→S.sinE s.V k=2∧S.sinN s.V k=0∧S.sinL s.V k=[]:=fun h=>by
  have he:=S.sinE_2 hok h;obtain⟨e1,e2⟩:=S.sin_no (v:=s.V) (k:=k) (by rw[he];decide);exact⟨he,e1,e2⟩
 refine run ?_;refine J.spd rfl rfl rfl (fun c2=>?_) (fun c2=>?_)
 ·obtain⟨he,e1,e2⟩:=bad (by omega);rw[he,e1,e2];refine run ?_;refine J.nilWo 29 .u8 32 ?_;exact J.finG (none,0) rfl (Nat.le_refl _) sb
 refine run ?_;refine J.ifd rfl (fun c3=>?_) (fun c3=>?_)
 ·obtain⟨he,e1,e2⟩:=bad (fun h=>by have h1:k≤(s.on:Int):=h.2;omega);rw[he,e1,e2];refine run ?_;refine J.nilWo 29 .u8 32 ?_;exact J.finG (none,0) rfl (Nat.le_refl _) sb
 have he:=S.sinE_0 hok (k:=k) ⟨by omega,by show k≤(s.on:Int);omega⟩;obtain⟨e1,e2⟩:=S.sin_yes he;rw[he,e1,e2];have D1:=wDp H.os k.toNat s.oc (by omega) hcp.1;refine run ?_;refine J.b0W .u8 rfl fun b3=>?_
 refine run ?_;refine J.apW rfl rfl (RW.arg D1) fun a' c'=>?_
 rw[Int.toNat_natCast s.on,Nat.zero_add (s.on - k.toNat),List.nil_append];refine J.fact (.wown 29 .u8 32 a' (s.on - k.toNat) c' (s.os.drop (32*k.toNat))) (fun _ _ h=>(wown_len h).2) fun hcap=>?_
 refine run ?_;exact J.finG (a',c') rfl hcap sb
end W
end Go.Proofs.YtaapnlnileblaaaGreatDoor
