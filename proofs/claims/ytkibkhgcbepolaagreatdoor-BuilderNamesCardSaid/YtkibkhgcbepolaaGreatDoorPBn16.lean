/-
  Part 16 of the lemmas of these laws: BuilderNames.
-/
import Derived.Test.YtkibkhgcbepolaaGreatDoorPBn15
set_option linter.unusedVariables false
set_option linter.unusedSimpArgs false
open Go.Proofs.Tryz
namespace Go.Proofs.YtkibkhgcbepolaaGreatDoor
namespace W
open Go.RowKit G
set_option maxRecDepth 20000
set_option maxHeartbeats 8000000
attribute [local irreducible] RS RX RY Code.wp bodyPost J Ent.blk Ent.irow Ent.iown Ent.wrow Ent.wown Ent.gown Ent.all Ent.emp
instance:Ents prog 84:=⟨.mk func84 (by kernel_rfl) rfl⟩
instance:Fld prog 37 2 2:=⟨_,_,1,underlying37,rfl,by kernel_rfl,by decide,rfl⟩
instance:Sca prog 29:=⟨_,underlying29,rfl⟩
theorem eltR{S0:Nat→Prop}{w:World}{b o n:Nat}{ids:List Int}(h:WRow .u8 32 S0 w (some ⟨b,o,none⟩) n ids){i:Int}(hi:0≤i∧i<n):IRow .u8 S0 w (some ⟨b,o+i.toNat*32,none⟩) 32 (elt 32 ids i.toNat):=by
 obtain⟨b',o',e,hs,hc⟩:=h.at_ (by decide) hi;cases e;have hA:=h.elt_arr (i:=i.toNat) (by omega);exact⟨.inr ⟨_,_,rfl,hs,hc⟩,hA.1,hA.2⟩
theorem wTake{S0:Nat→Prop}{w:World}{a:Option Addr}{n:Nat}{ids:List Int}(h:WRow .u8 32 S0 w a n ids)(p c:Nat)(hp:p≤n)(hc:p≤c):WRow .u8 32 S0 w (subA a 0 32 c) p (ids.take (32*p)):=by
 have hl:=h.len;have:=h.row.sub 0 p 32 c (by rw[ints_length];omega) (Nat.zero_le _) hc;refine⟨?_,by rw[List.length_take];omega,h.bd.take _⟩;simpa [ints,List.map_take,Nat.mul_comm]using this
theorem min4(n:Nat):(if(4:Int)<(n:Int)then 4 else(n:Int))=((min n 4:Nat):Int):=by split<;>omega
theorem bPreds{S0:Nat→Prop}(a:Option Addr)(n c:Nat)(ids:List Int)(w:World)(D0:WRow .u8 32 S0 w a n ids)(hc:n≤c)(hn:n≤1000):
  Calls prog 12 #[.slice a n c] w (Gv w (fun q:Option Addr×Nat=> .tuple #[.slice q.1 (S.preN n ids) q.2, .int .i64 (S.preE n ids)]) (fun q=>[.wown 24 .u8 32 q.1 (S.preN n ids) q.2 (S.preL n ids)]) fun q=>S.preN n ids≤q.2):=by
 have hlen:=D0.len;have nil:∀e:Int,S.preE n ids=e→e≠0→S.preN n ids=0∧S.preL n ids=[]:=fun e h1 h2=>S.pre_no (by rw[h1];exact h2);refine J.enter 30 func12 rfl rfl ?_;refine run ?_;refine J.ifd rfl (fun c1=>?_) (fun c1=>?_)
 ·refine run ?_;have he:=S.preE_4 (n:=n) (ids:=ids) (by omega);obtain⟨e1,e2⟩:=nil 4 he (by decide);rw[he,e1,e2];refine J.nilWo 24 .u8 32 ?_;exact J.finG (none,0) rfl (Nat.le_refl _) (.cons_cons _ (List.nil_sublist _))
 refine run ?_;refine J.loopS (A:=Int) (fun p=>[(4, .int .i64 p)]) [2,3,8,9,10,11,12,13,14,15,16,17,18,19,20,21,22,23,24] (fun p=>(1≤p∧(p≤n∨p=1))∧∀i,i+1<p.toNat→S.cmpS (S.idAt ids i) (S.idAt ids (i+1))<0) (fun p=>n - p.toNat) 1 (by kernel_rfl) ⟨by omega,fun i hi=>by omega⟩ (fun p j hI=>?_);obtain⟨h1,hI⟩:=hI;refine run ?_;refine J.ifd rfl (fun c2=>?_) (fun c2=>?_)
 ·obtain⟨b0,o0,ha,_,_⟩:=D0.at_ (by decide) (i:=0) (by omega);subst ha;refine run ?_;refine J.regionX [(0, .q),(1, .q),(2, .q),(3, .q),(4, .q),(5, .q),(6, .q),(7, .q),(8, .q),(9, .e),(10, .q)] mixed (by kernel_rfl) ?_;refine run ?_;refine J.callp rfl rfl (fun w' M=>bcompare _ _ _ _ _ _ _ _ w' (eltR (D0.ext M.ext) (i:=p - 1) (by omega)) (eltR (D0.ext M.ext) (i:=p) (by omega))) ?_;refine run ?_;have e3:p.toNat=(p - 1).toNat+1:=by omega
  refine J.ifd rfl (fun c3=>?_) (fun c3=>?_)
  ·refine run ?_
   have he := S.preE_32 (n := n) (ids := ids) (by omega) (fun hr => by
    have := hr (p - 1).toNat (by omega)
    rw [← e3] at this
    exact absurd c3 (Int.not_le.2 this))
   obtain⟨e1,e2⟩:=nil 32 he (by decide);rw[he,e1,e2];refine J.nilWo 24 .u8 32 ?_;exact J.finG (none,0) rfl (Nat.le_refl _) (.cons_cons _ (List.nil_sublist _))
  refine run ?_;refine J.nextS (p+1) ⟨rfl,trivial⟩ (by kernel_rfl) ⟨by omega,fun i hi=>?_⟩ (by omega);rcases Nat.lt_or_ge (i+1) p.toNat with h|h
  ·exact hI i h
  obtain rfl:i=(p - 1).toNat:=by omega
  rw[←e3];exact Int.not_le.1 c3
 have hr:S.Rising n ids:=fun i hi=>hI i (by omega);have he:=S.preE_0 (by omega) hr;obtain⟨e1,e2⟩:=S.pre_yes he;rw[he,e1,e2];refine run ?_;refine J.mn rfl rfl rfl ?_ (hr:=min4 n);refine run ?_;refine J.call rfl rfl (fun w' M=>cloneW (subA a 0 32 c) (min n 4) c (ids.take (32*min n 4)) w' (wTake (D0.ext M.ext) (min n 4) c (by omega) (by omega)) (by omega) (by omega)) fun q hq=>?_
 refine run ?_;exact J.finG q rfl hq sb
theorem bStamp{S0:Nat→Prop}(g:GrA)(TK:TypeId)(w:World)(K0:Kst w TK)(G:GrR S0 w g):
  Calls prog 16 #[.agg (grC g).toArray] w (Ret w fun v _=>v= .tuple #[.int .u64 (S.stmV g.P), .int .i64 (S.stmE g.P)]):=by
 have G0:=G.ops;have hl:=G.len;have hcp:=G.cap;refine J.enter 28 func16 rfl rfl ?_;refine run ?_;refine J.box rfl rfl rfl fun b1=>?_
 refine run ?_;refine J.callp rfl rfl (fun w' M=>dagCheck g TK w' (K0.ext M.ext) (G.ext M.ext)) ?_;refine run ?_;refine J.ifn rfl (fun c1=>?_) (fun c1=>?_)
 ·obtain⟨he,hne⟩:=S.stmE_1 (g:=g.P) c1;refine run ?_;refine J.fin ?_;rw[S.stmV_no hne,he];rfl
 have hst:=S.chk_st (g:=g.P) c1;refine run ?_;refine J.loopS (A:=Int×Int) (fun p=>[(5, .int .u64 p.2),(16, .int .i64 p.1)]) [7,17,18,19,20,21,22,23,24,25] (fun p=>(0≤p.1∧p.1≤g.n)∧(0≤p.2∧p.2≤1000000000001)∧p.2=S.nxtS (g.ops.take p.1.toNat)) (fun p=>g.n - p.1.toNat) (0,0) (by kernel_rfl) ⟨by dsimp only;omega,by dsimp only;omega,rfl⟩ (fun p j hI=>?_);obtain⟨p,m⟩:=p;obtain⟨h1,h2,h3⟩:=hI;dsimp only at h1 h2 h3⊢;refine run ?_;refine J.ifd rfl (fun c2=>?_) (fun c2=>?_)
 ·obtain⟨z,hz⟩:=G0.ex (i:=p) (by omega);have hzo:=GrA.opAt hz;have R:=G.op hz;have hzs:=R.ok.st;have hz2:=hst z.o (by rw[←hzo,S.getD_at (by omega)];exact List.getElem_mem _);refine run ?_;refine J.alloc rfl fun b2=>?_
  refine run ?_;have e3:=S.nxt_step (l:=g.ops) (i:=p.toNat) (by omega);rw[←h3,hzo]at e3;refine J.nextS (p+1,if z.o.st+1>m then z.o.st+1 else m) ⟨rfl,rfl,trivial⟩ (by kernel_rfl) ⟨by dsimp only;omega,by dsimp only;split<;>omega,?_⟩ (by dsimp only;omega);dsimp only;rw[show(p+1).toNat=p.toNat+1 by omega,e3];rfl
 have hpn:S.nxtS g.P.ops=m:=by rw[h3,List.take_of_length_le (by omega)]
 refine run ?_;refine J.ifd rfl (fun c3=>?_) (fun c3=>?_)
 ·have he:=S.stmE_2 (g:=g.P) c1 (by rw[hpn];exact c3);refine run ?_;refine J.fin ?_;rw[S.stmV_no (by rw[he];decide),he]
 have he:=S.stmE_0 (g:=g.P) c1 (by rw[hpn];exact c3);refine run ?_;refine J.fin ?_;rw[S.stmV_yes he,he,hpn]
instance:Und prog 262 (.slice 25):=⟨underlying262⟩
instance:Siz prog 25 1:=⟨by kernel_rfl⟩
instance:Sca prog 25:=⟨_,underlying25,rfl⟩
instance:Ents prog 12:=⟨.mk func12 (by kernel_rfl) rfl⟩
instance:Agg prog 33 6:=⟨_,underlying33,rfl,by kernel_rfl⟩
instance:Ents prog 97:=⟨.mk func97 (by kernel_rfl) rfl⟩
instance:Inf prog 25 1 8 [.int .i64 0]:=⟨TI.of (v:= .int .i64 0) (by kernel_rfl) rfl⟩
instance:Ents prog 99:=⟨.mk func99 (by kernel_rfl) rfl⟩
@[reducible] def acC(o:S.OpV):List Value:=[.int .u8 o.k, .string o.key, .int .u8 o.vk, .int .i64 o.num, .int .u64 o.bits, .string o.t]
theorem signB(x:Int)(hx:0≤x∧x<4294967296){S0:Nat→Prop}(z:OpA)(TK:TypeId)(w:World)(K0:Kst w TK)(R:OpR S0 w z):
  Calls prog 96 #[.int .u32 x, .agg (opC z).toArray] w (Gv w (fun q:OpA×Int=> .tuple #[.agg (opC q.1).toArray, .int .i64 q.2]) (fun q=>[.wrow .u8 32 q.1.pa q.1.o.n q.1.o.ids]) fun q=>q.1.o.n≤q.1.pc∧q.1.o=S.signS x z.o∧q.2=S.signE x z.o):=
 Gv.of (signO x hx z.o R.ok _ _ TK w K0 R.row R.cap) fun v w' _ ⟨a',c',hv,hc,W⟩=>⟨(⟨S.signS x z.o,a',c'⟩,S.signE x z.o),hv,⟨hc,rfl,rfl⟩,sep1 (show(Ent.wrow .u8 32 a' (S.signS x z.o).n (S.signS x z.o).ids).ok _ _ by unfold Ent.wrow;exact W)⟩
theorem signBR(x:Int)(hx:0≤x∧x<4294967296){S0:Nat→Prop}(z:OpA)(w:World)(R:OpR S0 w z):
  Calls prog 13 #[.int .u32 x, .agg (opC z).toArray] w (Gv w (fun q:OpA×Int=> .tuple #[.agg (opC q.1).toArray, .int .i64 q.2]) (fun q=>[.wrow .u8 32 q.1.pa q.1.o.n q.1.o.ids]) fun q=>q.1.o.n≤q.1.pc∧q.1.o=S.signS x z.o∧q.2=S.signE x z.o):=
 Gv.of (signOR x hx z.o R.ok _ _ w R.row R.cap) fun v w' _ ⟨a',c',hv,hc,W⟩=>⟨(⟨S.signS x z.o,a',c'⟩,S.signE x z.o),hv,⟨hc,rfl,rfl⟩,sep1 (show(Ent.wrow .u8 32 a' (S.signS x z.o).n (S.signS x z.o).ids).ok _ _ by unfold Ent.wrow;exact W)⟩
theorem encB{S0:Nat→Prop}(z:OpA)(w:World)(R:OpR S0 w z)(hc:S.checkE z.o=0):
  Calls prog 97 #[.agg (opC z).toArray] w (Gv w (fun q:Option Addr×Nat×Nat=> .tuple #[.slice q.1 q.2.1 q.2.2, .int .i64 0]) (fun q=>[.irow .u8 q.1 q.2.1 (S.encS z.o)]) fun _=>True):=
 Gv.of (encodeO z.o R.ok _ _ w R.row R.cap) fun v w' _ ⟨a',n',c',xs,hv,O,hx⟩=>⟨(a',n',c'),by rw[hv,hc],trivial,sep1 (by rw[if_pos hc]at hx;subst hx;exact iown_irow (iown_ok O))⟩
theorem bFirst{S0:Nat→Prop}(a:Option Addr)(w:World)(O:GRow inC 1 S0 w a 2 [0,0]):
  Calls prog 99 #[.slice a 2 2] w (Ret w fun v _=>v= .int .i64 0):=by
 refine J.enter 14 func99 rfl rfl ?_;refine run ?_;refine J.loopS (A:=Int) (fun p=>[(7, .int .i64 p)]) [2,4,8,9,10,11,12,13,14] (fun p=>0≤p∧p≤2) (fun p=>2 - p.toNat) 0 (by kernel_rfl) ⟨by omega,by omega⟩ (fun p j hI=>?_);refine run ?_;refine J.ifd rfl (fun c1=>?_) (fun c1=>?_)
 ·have hq:([0,0]:List Int)[p.toNat]? =some 0:=by
   rcases(show p.toNat=0∨p.toNat=1 by omega)with h|h<;>rw[h]<;>rfl
  refine run ?_;exact J.nextS (p+1) ⟨rfl,trivial⟩ (by kernel_rfl) ⟨by omega,by omega⟩ (by omega)
 refine run ?_;exact J.fin rfl
def BldP(x:Int)(n:Nat)(ids:List Int)(st:Int)(o:S.OpV)(q:OpA×Option Addr×Nat×Nat):Prop:=q.1.o=S.bldV x n ids st o∧q.1.o.n≤q.1.pc
@[reducible] def bldC(x:Int)(n:Nat)(ids:List Int)(st:Int)(o:S.OpV)(q:OpA×Option Addr×Nat×Nat):Value:= .tuple #[.agg (opC q.1).toArray, .slice q.2.1 q.2.2.1 q.2.2.2, .agg (ints .u8 (S.bldI x n ids st o)).toArray, .int .i64 (S.bldE x n ids st o)]
@[reducible] def bldP(x:Int)(n:Nat)(ids:List Int)(st:Int)(o:S.OpV)(q:OpA×Option Addr×Nat×Nat):List Ent:=[.wrow .u8 32 q.1.pa q.1.o.n q.1.o.ids, .irow .u8 q.2.1 q.2.2.1 (S.bldB x n ids st o)]
theorem bldO_ok{n:Nat}{ids:List Int}{st:Int}{o:S.OpV}(ho:o.ok)(hs:0≤st∧st<18446744073709551616):(S.bldO n ids st o).ok:=⟨(by show(0:Int)≤0∧(0:Int)<4294967296;decide),hs,ho.k,ho.vk,ho.num,ho.bits,(by show(0:Int)≤0∧(0:Int)<4294967296;decide),(by show(0:Int)≤0∧(0:Int)<4294967296;decide),by have:=S.preN_le n ids;show S.preN n ids≤40;omega,ho.key,ho.t⟩
theorem bBuild(x:Int)(hx:0≤x∧x<4294967296){S0:Nat→Prop}(a:Option Addr)(n c:Nat)(ids:List Int)(st:Int)(hs:0≤st∧st<18446744073709551616)(o:S.OpV)(ho:o.ok)(TK:TypeId)(w:World)(K0:Kst w TK)(D0:WRow .u8 32 S0 w a n ids)(hc:n≤c)(hn:n≤1000):
  Calls prog 17 #[.int .u32 x, .slice a n c, .int .u64 st, .agg (acC o).toArray] w (Gv w (bldC x n ids st o) (bldP x n ids st o) (BldP x n ids st o)):=by
 have hok:=bldO_ok (n:=n) (ids:=ids) ho hs;have h4:=S.preN_le n ids;refine J.enter 56 func17 rfl rfl ?_;refine run ?_;refine J.box rfl rfl rfl fun b1=>?_
 refine J.alloc rfl fun b2=>?_
 refine run ?_;refine J.alloc rfl fun b3=>?_
 refine run ?_;refine J.call rfl rfl (fun w' M=>bPreds a n c ids w' (D0.ext M.ext) hc hn) fun q hq=>?_
 refine run ?_;refine J.ifn rfl (fun c1=>?_) (fun c1=>?_)
 ·have he:=S.bldE_1 (x:=x) (st:=st) (o:=o) c1;obtain⟨e1,e2,e3⟩:=S.bld_no (x:=x) (n:=n) (ids:=ids) (st:=st) (o:=o) (by rw[he];exact c1);refine run ?_;refine J.bz rfl ?_;refine run ?_;refine J.nilR .u8 (J.nilW .u8 32 ?_);refine J.finG (⟨S.OpV.zero,none,0⟩,none,0,0) ?_ ⟨e1.symm,Nat.le_refl _⟩ ?_
  ·unfold bldC;rw[he,e3];rfl
  unfold bldP;rw[e2];exact .cons_cons _ (.cons_cons _ (List.nil_sublist _))
 have he:=S.bldE_2 (x:=x) (st:=st) (o:=o) c1;refine run ?_;refine J.call rfl rfl (fun w' M=>(RW.own' (a:=q.1) w' M).elim fun _ k0=>signB x hx ⟨S.bldO n ids st o,q.1,q.2⟩ TK w' (K0.ext M.ext) ⟨hok,k0,hq⟩) fun z hz=>?_
 obtain⟨⟨zo,zp,zc⟩,ze⟩:=z;obtain⟨hz1,hz2,hz3⟩:=hz;dsimp only at hz1 hz2 hz3⊢;subst hz2 hz3;refine run ?_;refine J.alloc rfl fun b4=>?_
 refine run ?_;refine J.ifn rfl (fun c2=>?_) (fun c2=>?_)
 ·obtain⟨e1,e2,e3⟩:=S.bld_no (x:=x) (n:=n) (ids:=ids) (st:=st) (o:=o) (by rw[he];exact c2);refine run ?_;refine J.bz rfl ?_;refine run ?_;refine J.nilR .u8 (J.nilW .u8 32 ?_);refine J.finG (⟨S.OpV.zero,none,0⟩,none,0,0) ?_ ⟨e1.symm,Nat.le_refl _⟩ ?_
  ·unfold bldC;rw[he,e3];rfl
  unfold bldP;rw[e2];exact .cons_cons _ (.cons_cons _ (List.nil_sublist _))
 refine J.fact (.wown 24 .u8 32 q.1 (S.preN n ids) q.2 (S.preL n ids)) (fun _ _ h=>(wown_len h).1) fun hpl=>?_
 have hg:=S.sign_good hok hpl c2;have hck:S.checkE (S.signS x (S.bldO n ids st o))=0:=hg.2.2.1;have hso:=S.signS_ok x _ hok;have hA:Arr .u8 32 (S.sha (S.encS (S.signS x (S.bldO n ids st o)))):=S.sha_arr _;obtain⟨e1,e2,e3⟩:=S.bld_yes (x:=x) (n:=n) (ids:=ids) (st:=st) (o:=o) (by rw[he];exact c2);refine run ?_;refine J.call rfl rfl (fun w' M=>(RW.row' (a:=zp) w' M).elim fun _ k0=>encB ⟨S.signS x (S.bldO n ids st o),zp,zc⟩ w' ⟨hso,k0,hz1⟩ hck) fun y hy=>?_
 refine run ?_;refine J.callp rfl rfl (fun w' M=>(RW.row' (a:=zp) w' M).elim fun _ k0=>idO (S.signS x (S.bldO n ids st o)) hso zp zc _ w' (K0.ext M.ext) k0 hz1) ?_;rw[if_pos hck,hck];refine run ?_;refine J.alloc rfl fun b5=>?_
 refine run ?_;refine J.regionR [.blk b5 (ints .u8 (S.sha (S.encS (S.signS x (S.bldO n ids st o))))) 24, .blk b4 (opC ⟨S.signS x (S.bldO n ids st o),zp,zc⟩) 37] [(0, .q),(1, .q),(2, .q),(3, .q),(4, .q),(5, .e),(6, .e),(7, .e),(8, .q),(9, .e),(10, .q)] mixed (by kernel_rfl) (by repeat(first|exact List.Sublist.refl _|refine List.Sublist.cons_cons _ ?_|refine List.Sublist.cons _ ?_)) ?_;refine run ?_;refine J.b2V (p:=0) (q:=0) inC (fun _=>rfl) rfl rfl rfl rfl rfl rfl rfl fun b6=>?_
 refine J.callp rfl rfl (fun w' M=>(RG.own' (a:=some ⟨b6,0,none⟩) w' M).elim fun _ k0=>bFirst _ w' k0) ?_;refine run ?_;refine J.front (.wrow .u8 32 zp (S.signS x (S.bldO n ids st o)).n (S.signS x (S.bldO n ids st o)).ids) ?_;refine J.finG (⟨S.signS x (S.bldO n ids st o),zp,zc⟩,y) ?_ ⟨e1.symm,hz1⟩ ?_
 ·unfold bldC;rw[he,c2,e3]
 unfold bldP;rw[e2]
 repeat(first|exact List.nil_sublist _|refine List.Sublist.cons_cons _ ?_|refine List.Sublist.cons _ ?_)
instance:Ents prog 80:=⟨.mk func80 (by kernel_rfl) rfl⟩
instance:Ents prog 16:=⟨.mk func16 (by kernel_rfl) rfl⟩
instance:Ents prog 17:=⟨.mk func17 (by kernel_rfl) rfl⟩
@[reducible] def bdC(r:S.BdV)(q:OpA×Option Addr×Nat×Nat):Value:= .tuple #[.agg (opC q.1).toArray, .slice q.2.1 q.2.2.1 q.2.2.2, .agg (ints .u8 r.i).toArray, .int .i64 r.e]
@[reducible] def bdP(r:S.BdV)(q:OpA×Option Addr×Nat×Nat):List Ent:=[.wrow .u8 32 q.1.pa q.1.o.n q.1.o.ids, .irow .u8 q.2.1 q.2.2.1 r.b]
def BdP(r:S.BdV)(q:OpA×Option Addr×Nat×Nat):Prop:=q.1.o=r.o∧q.1.o.n≤q.1.pc
theorem bBuildR(x:Int)(hx:0≤x∧x<4294967296){S0:Nat→Prop}(a:Option Addr)(n c:Nat)(ids:List Int)(st:Int)(hs:0≤st∧st<18446744073709551616)(o:S.OpV)(ho:o.ok)(TK:TypeId)(w:World)(K0:Kst w TK)(D0:WRow .u8 32 S0 w a n ids)(hc:n≤c)(hn:n≤1000):
  Calls prog 17 #[.int .u32 x, .slice a n c, .int .u64 st, .agg (acC o).toArray] w (Gv w (bdC (S.bldR x n ids st o)) (bdP (S.bldR x n ids st o)) (BdP (S.bldR x n ids st o))):=bBuild x hx a n c ids st hs o ho TK w K0 D0 hc hn
theorem bFirst2{S0:Nat→Prop}(a:Option Addr)(e:Int)(w:World)(O:GRow inC 1 S0 w a 2 [e,0]):
  Calls prog 99 #[.slice a 2 2] w (Ret w fun v _=>v= .int .i64 e):=by
 refine J.enter 14 func99 rfl rfl ?_;refine run ?_;refine J.loopS (A:=Int) (fun p=>[(7, .int .i64 p)]) [4,8,9,10,11,12,13,14] (fun p=>(0≤p∧p≤2)∧(0<p→e=0)) (fun p=>2 - p.toNat) 0 (by kernel_rfl) ⟨by omega,fun h=>by omega⟩ (fun p j hI=>?_);obtain⟨hI,he⟩:=hI;refine run ?_;refine J.ifd rfl (fun c1=>?_) (fun c1=>?_)
 ·have hq:([e,0]:List Int)[p.toNat]? =some (if p=0 then e else 0):=by
   rcases(show p=0∨p=1 by omega)with h|h
   ·subst h;rfl
   subst h;rfl
  refine run ?_;refine J.ifn rfl (fun c2=>?_) (fun c2=>?_)
  ·have e0:p=0:=by
    rcases(show p=0∨p=1 by omega)with h|h
    ·exact h
    rw[if_neg (by omega)]at c2;exact absurd rfl c2
   refine run ?_;exact J.fin (congrArg _ (if_pos e0))
  refine run ?_;refine J.nextS (p+1) ⟨rfl,trivial⟩ (by kernel_rfl) ⟨by omega,fun _=>?_⟩ (by omega);rcases(show p=0∨p=1 by omega)with h|h
  ·rw[if_pos h]at c2;exact c2
  exact he (by omega)
 refine run ?_;exact J.fin (congrArg _ (he (by omega)).symm)
theorem stHeads2{S0:Nat→Prop}(s:ShA)(TK:TypeId)(w:World)(K0:Kst w TK)(H:ShR S0 w s)(hL:ShL s)(hok:S.okR s.V):
  Calls prog 70 #[.agg (shC s).toArray] w (Gv w (fun q:Option Addr×Nat×Nat=> .tuple #[.slice q.1 q.2.1 q.2.2, .int .i64 s.ver, .int .i64 0]) (fun q=>[.wrow .u8 32 q.1 q.2.1 s.hs]) fun q=>q.2.1≤100∧q.2.1≤q.2.2∧q.2.1=s.hn):=by
 have hcp:=H.cap;refine J.enter 15 func70 rfl rfl ?_;refine run ?_;refine J.box rfl rfl rfl fun b1=>?_
 refine run ?_;refine J.callp rfl rfl (fun w' M=>shCheck s _ w' (K0.ext M.ext) (H.ext M.ext) hL) ?_;rw[S.chkH_0 hok];refine run ?_;refine J.regionR [.blk b1 (shC s) 53] [(0, .q),(1, .q),(3, .q),(4, .q),(2, .e),(5, .q),(6, .q),(7, .q)] mixed (by kernel_rfl) (by repeat(first|exact List.Sublist.refl _|refine List.Sublist.cons_cons _ ?_|refine List.Sublist.cons _ ?_)) ?_;refine run ?_;refine J.call rfl rfl (fun w' M=>cloneW _ _ _ _ _ (H.hr.ext M.ext) hcp.2.1 (by omega)) fun q hq=>?_
 refine run ?_;refine J.re (.wown 24 .u8 32 q.1 s.hn q.2 s.hs) (.wrow .u8 32 q.1 s.hn s.hs) (fun S w=>wown_wrow) ?_;exact J.finG (q.1,s.hn,q.2) rfl ⟨hcp.2.2.2,hq,rfl⟩ sb
theorem bWrite(x:Int)(hx:0≤x∧x<4294967296){S0:Nat→Prop}(s:StA)(o:S.OpV)(ho:o.ok)(TK:TypeId)(w:World)(K0:Kst w TK)(H:StR S0 w s):
  Calls prog 20 #[.agg (srC s).toArray, .int .u32 x, .agg (acC o).toArray] w (Gv w (bdC (S.wrtR s.V x o)) (bdP (S.wrtR s.V x o)) (BdP (S.wrtR s.V x o))):=by
 have hcp:=H.sh.cap;refine J.enter 55 func20 rfl rfl ?_;refine run ?_;refine J.box rfl rfl rfl fun b1=>?_
 refine J.box rfl rfl rfl fun b2=>?_
 refine J.alloc rfl fun b3=>?_
 refine run ?_;refine J.alloc rfl fun b4=>?_
 refine run ?_;refine J.call rfl rfl (fun w' M=>stGraph s TK w' (K0.ext M.ext) (H.ext M.ext)) fun q hq=>?_
 dsimp only[grE,List.cons_append,List.nil_append];refine run ?_;refine J.alloc rfl fun b5=>?_
 refine run ?_;refine J.ifn rfl (fun c1=>?_) (fun c1=>?_)
 ·obtain⟨k1,k2⟩:=S.chkT_ne c1;rw[S.wrt_8 k1,k2];refine run ?_;refine J.bz rfl ?_;refine run ?_;refine J.nilR .u8 (J.nilW .u8 32 ?_);exact J.finG (⟨S.OpV.zero,none,0⟩,none,0,0) rfl ⟨rfl,Nat.le_refl _⟩ sb
 have hok:=S.chkT_iff.1 c1;have F:=S.ok_fineT H.g hok;obtain⟨n1,n4⟩:=ok_len H.sh hok.1.2.1;rw[S.grT_0 hok]at hq;have hqs:=GrP.sz hq ⟨F.fine.good,F.fine.le⟩;have hqok:=hq.ok (refWholeOk H.sh);have hqP:=GrP.P hq;refine run ?_;refine J.callp rfl rfl (fun w' M=>bStamp q TK w' (K0.ext M.ext) (GrR.own hqok hq.cap hqs w' M)) ?_;rw[hqP];refine run ?_;refine J.call rfl rfl (fun w' M=>stHeads2 s.sh TK w' (K0.ext M.ext) (H.sh.ext M.ext) H.L hok.1.2.1) fun d hd=>?_
 obtain⟨ha,hn,hc⟩:=d;dsimp only at hd⊢;obtain⟨hn1,hn2,rfl⟩:=hd;refine run ?_;refine J.b2V (p:=S.stmE (S.whole s.sh.V.ps)) (q:=0) inC (fun _=>rfl) rfl rfl rfl rfl rfl rfl rfl fun b6=>?_
 refine J.callp rfl rfl (fun w' M=>(RG.own' (a:=some ⟨b6,0,none⟩) w' M).elim fun _ k0=>bFirst2 _ _ w' k0) ?_;refine run ?_;refine J.ifn rfl (fun c2=>?_) (fun c2=>?_)
 ·rw[S.wrt_s hok c2];refine run ?_;refine J.bz rfl ?_;refine run ?_;refine J.nilR .u8 (J.nilW .u8 32 ?_);exact J.finG (⟨S.OpV.zero,none,0⟩,none,0,0) rfl ⟨rfl,Nat.le_refl _⟩ sb
 have hsu:0≤S.stmV (S.whole s.sh.V.ps)∧S.stmV (S.whole s.sh.V.ps)<18446744073709551616:=⟨(S.stm_rng c2).1,Int.lt_of_le_of_lt (S.stm_rng c2).2 (by decide)⟩
 have hhs:s.sh.hs=S.hdI (S.whole s.sh.V.ps):=F.hs;have hhn:S.hdN (S.whole s.sh.V.ps)=s.sh.hn:=by
  have h1:(S.hdI (S.whole s.sh.V.ps)).length=32*S.hdN (S.whole s.sh.V.ps):=(S.hd_all F.fine).1;have h2:=H.sh.hr.len;rw[←hhs]at h1;omega
 have ew:=S.wrt_0 (x:=x) (o:=o) hok c2;rw[show S.hdN (S.whole s.V.sh.ps)=s.sh.hn from hhn,show S.hdI (S.whole s.V.sh.ps)=s.sh.hs from hhs.symm]at ew;rw[ew];have hf:(S.bldR x s.sh.hn s.sh.hs (S.stmV (S.whole s.sh.V.ps)) o).fit:=S.bld_fit ho hsu H.sh.hr.len;have hA:=hf.i;refine run ?_;refine J.call rfl rfl (fun w' M=>(RW.row' (a:=ha) w' M).elim fun _ k0=>bBuildR x hx ha s.sh.hn hc s.sh.hs (S.stmV (S.whole s.sh.V.ps)) hsu o ho TK w' (K0.ext M.ext) k0 hn2 (by omega)) fun u hu=>?_
 refine run ?_;exact J.finG u rfl hu sb
end W
namespace G
open Go.RowKit
section
variable{S0:Nat→Prop}{w0:World}{L:List Ent}{P:Program}{ops:Array Oper}{K:List Value→World→Prop}{rest:List (Oper×Kd)}{l:List Value}{m:Md}{d:Tmp}{ty t e:TypeId}{pos:String}{af:Array Edge}{kd:Kd}{α:Type}
theorem J.bnG{n sz by_:Nat}{parts:Array (Nat×Operand)}{zs vs:List Value}(f:α→List Value)(qs:List α)(hf:∀x,(f x).length=sz)[U:Und P t (.slice e)][I:Inf P e sz by_ zs]{l':Nat→List Value}(hk:okE m kd=true)(hv:(parts.toList.map Prod.snd).map (ev l)=vs)(hc:vs.flatMap (·.cells.toList)=qs.flatMap f)(hcs:∀v∈vs,v.cells.size=sz)
  (kk:∀b,J S0 w0 (.gown f sz e (some ⟨b,0,none⟩) n n qs::L) (RY S0 w0 m P ops K rest (l' b)))(hp:parts.toList=enumV 0 (parts.toList.map Prod.snd):=by rfl)(hl2:vs.length=n:=by rfl)(hq:qs.length=n:=by rfl)(hz:0<sz:=by decide)(hn:Nat.ble n 1000=true:=by rfl)(hz2:Nat.ble sz 1000=true:=by rfl)(h0:Nat.ble 1 n=true:=by rfl)
  (hl:∀b,l.set d (.slice (some ⟨b,0,none⟩) n n)=l' b:=by intro b;dsimp only[List.set]):J S0 w0 L (RY S0 w0 m P ops K ((⟨some d, .buildSlice t n parts,ty,pos,af,none⟩,kd)::rest) l):=
 J.eff hk fun w M K' hK => RS.buildSlice (vs := vs) (cs := qs.flatMap f) U.h I.h hz hn hz2 hp hv hl2 hc hcs h0 fun b w' e1 s1 x1 B => RS.nil (hK _ w' x1 (by
  rw [hl]
  exact kk b w' (M.new x1 (gown_blk (lst := qs) ⟨by subst e1; exact Nat.le_refl _, B⟩ hf rfl hq (by have := Nat.le_of_ble_eq_true hn; omega)))))
end
end G
namespace W
open Go.RowKit G
set_option maxRecDepth 20000
set_option maxHeartbeats 8000000
attribute [local irreducible] RS RX RY Code.wp bodyPost J Ent.blk Ent.irow Ent.iown Ent.wrow Ent.wown Ent.gown Ent.all Ent.emp
theorem StZ.off{v:S.StV}{o:S.OpV}(hz:StZ v)(hg:S.StG v)(h:S.okT v)(hv:S.verE o=0):StZ (S.offT v o):=by
 by_cases c:S.judT v o=1
 ·rw[S.off_1 c];obtain⟨a1,a2⟩:=S.com_add hg h hv c;have F:=S.ok_fineT hg h;obtain⟨_,_,b3,b4,_⟩:=S.add_fine F.fine.good.1 a1;rw[a2]at b3 b4;have hle:=b3.le;have hcp:=F.cap;have hps:=F.ps;refine⟨fun p hp=>?_,⟨?_,?_⟩,fun _=>?_,?_⟩
  ·obtain⟨i,hi,rfl⟩:=List.mem_map.1 hp;obtain⟨h1,h2⟩:=S.prt_size (S.putP (S.whole v.sh.ps) (S.idOf o) o) v.sh.ps.length i;exact⟨by omega,by omega⟩
  ·show(S.madeS _ _).ps.length≤6;rw[S.made_len];omega
  ·exact Nat.le_trans (S.numF_le _ _) (Nat.le_trans hle (by decide))
  ·exact Nat.le_trans (S.allN_made b3) (Nat.le_trans hle (by decide))
  show v.n+1≤70;omega
 rw[S.off_no c];exact hz
instance:Ents prog 100:=⟨.mk func100 (by kernel_rfl) rfl⟩
instance:Ents prog 193:=⟨.mk func193 (by kernel_rfl) rfl⟩
instance:Ents prog 41:=⟨.mk func41 (by kernel_rfl) rfl⟩
instance:Ents prog 101:=⟨.mk func101 (by kernel_rfl) rfl⟩
instance:Ents prog 102:=⟨.mk func102 (by kernel_rfl) rfl⟩
theorem refStNew(c n:Int)(w:World):
  Calls prog 18 #[.int .i64 c, .int .i64 n] w (Gv w (fun q:StA=> .tuple #[.agg (srC q).toArray, .int .i64 (S.nwTE c n)]) (fun q=>stE q) (StK (S.nwT c n))):=by
 have bad:¬((1≤c∧c≤40)∧1≤n∧n≤4)→S.nwT c n=S.StV.zero∧S.nwTE c n=2:=S.nwT_2;refine J.enter 25 func18 rfl rfl ?_;refine run ?_;refine J.alloc rfl fun b1=>?_
 refine run ?_;refine J.call rfl rfl (fun w' M=>shOne (refShNew n w')) fun u hu=>?_
 refine run ?_;refine J.alloc rfl fun b2=>?_
 refine run ?_;refine J.spd rfl rfl rfl (fun c1=>?_) (fun c1=>?_)
 ·obtain⟨e1,e2⟩:=bad (by omega);rw[e2];refine run ?_;refine J.nilWo 24 .u8 32 ?_;refine J.nilSh ?_;exact J.finG StA.zero rfl (stZero e1) sb
 refine run ?_;refine J.spd rfl rfl rfl (fun c2=>?_) (fun c2=>?_)
 ·obtain⟨e1,e2⟩:=bad (by omega);rw[e2];refine run ?_;refine J.nilWo 24 .u8 32 ?_;refine J.nilSh ?_;exact J.finG StA.zero rfl (stZero e1) sb
 refine run ?_;refine J.ifn rfl (fun c3=>?_) (fun c3=>?_)
 ·obtain⟨e1,e2⟩:=bad fun h=>c3 (if_pos h.2);rw[e2];refine run ?_;refine J.nilWo 24 .u8 32 ?_;refine J.nilSh ?_;exact J.finG StA.zero rfl (stZero e1) sb
 have hn:1≤n∧n≤4:=Classical.byContradiction fun h=>by
  rw[show S.nwE n=2 from if_neg h]at c3;exact absurd c3 (by decide)
 obtain⟨e1,e2⟩:=S.nwT_0 (c:=c) (n:=n) ⟨by omega,hn⟩;rw[e2];refine run ?_;refine J.nilWo 24 .u8 32 ?_;refine J.front (.wown 24 .u8 32 none 0 0 []) ?_;refine J.front (shW u) ?_;refine J.finG ⟨c,u,none,0,0,[]⟩ rfl ⟨?_,hu.k⟩ sb;rw[e1];have e4:u.V=S.nwS n:=hu.V;unfold StA.V;dsimp only;rw[e4,show S.nwS n=S.madeS S.PG.nil n.toNat from if_pos hn]
theorem refStAsked{S0 S1:Nat→Prop}(s:StA)(z:OpA)(w:World)(H:StR S0 w s)(R:OpR S1 w z):
  Calls prog 101 #[.agg (srC s).toArray, .agg (opC z).toArray] w (Ret w fun v _=>v= .int .i64 (S.askE s.V z.o)):=by
 refine J.enter 8 func101 rfl rfl ?_;refine run ?_;refine J.box rfl rfl rfl fun b1=>?_
 refine J.box rfl rfl rfl fun b2=>?_
 refine run ?_;refine J.callp rfl rfl (fun w' M=>refStCheck s w' (H.ext M.ext)) ?_;refine run ?_;refine J.ifn rfl (fun c1=>?_) (fun c1=>?_)
 ·obtain⟨k1,k2⟩:=S.chkT_ne c1;refine run ?_;exact J.fin (congrArg _ (S.askE_8 k1).symm)
 refine run ?_;refine J.callp rfl rfl (fun w' M=>verifyOR z.o R.ok _ _ _ (R.row.ext M.ext) R.cap) ?_;refine run ?_;exact J.fin (congrArg _ (S.askE_v (S.chkT_iff.1 c1)).symm)
theorem refJudgedT{S0 S1:Nat→Prop}(s:StA)(z:OpA)(w:World)(H:StR S0 w s)(R:OpR S1 w z)(hv:S.verE z.o=0):
  Calls prog 193 #[.agg (srC s).toArray, .agg (opC z).toArray] w (Ret w fun v _=>v= .int .u8 (S.judT s.V z.o)):=by
 have hcp:=H.cap;have h20:=R.ok.n;have hA:=S.sha_arr (S.encS z.o);have hck:=S.check_zero.1 (S.verE_check hv);refine J.enter 21 func193 rfl rfl ?_;refine run ?_;refine J.box rfl rfl rfl fun b1=>?_
 refine J.box rfl rfl rfl fun b2=>?_
 refine run ?_;refine J.regionX [(0, .q),(1, .q),(2, .q),(3, .e),(4, .e),(5, .q)] mixed (by kernel_rfl) ?_;refine run ?_;refine J.callp rfl rfl (fun w' M=>ofO z.o R.ok _ _ _ (R.row.ext M.ext) R.cap hck.1 (fun hk=>S.fine4 hck.2.2.2.2.2.2 hk)) ?_;refine run ?_;refine J.callp rfl rfl (fun w' M=>refAt _ _ _ _ _ w' (H.os.ext M.ext) hA (by omega)) ?_;refine run ?_;have a1:(0≤S.atS s.on s.os (S.sha (S.encS z.o)))↔S.inS s.on s.os (S.sha (S.encS z.o)):=by rw[←Int.not_lt,S.at_neg,Classical.not_not]
 refine J.ifd rfl (fun c1=>?_) (fun c1=>?_)
 ·refine run ?_;exact J.fin (congrArg _ (S.jud_5 (a1.1 c1)).symm)
 have c1':¬S.inS s.V.n s.V.os (S.idOf z.o):=fun h=>c1 (a1.2 h);refine run ?_;refine J.callp rfl rfl (fun w' M=>refAll _ _ _ _ _ _ _ _ w' (H.os.ext M.ext) (R.row.ext M.ext) (by omega) (by omega)) ?_;refine run ?_;refine J.ifnot rfl (fun c2=>?_) (fun c2=>?_)
 ·refine run ?_;exact J.fin (congrArg _ (S.jud_6 c1' (of_decide_eq_false c2)).symm)
 have c2:=of_decide_eq_true c2;refine run ?_;refine J.ife rfl (fun c3=>?_) (fun c3=>?_)
 ·refine run ?_;exact J.fin (congrArg _ (S.jud_8 c1' c2 c3).symm)
 refine run ?_;exact J.fin (congrArg _ (S.jud_1 c1' c2 c3).symm)
theorem refOfferedT{S0 S1:Nat→Prop}(s:StA)(z:OpA)(w:World)(H:StR S0 w s)(R:OpR S1 w z)(hok:S.okT s.V)(hv:S.verE z.o=0):
  Calls prog 102 #[.agg (srC s).toArray, .agg (opC z).toArray] w (Gv w (fun q:StA=> .tuple #[.agg (srC q).toArray, .int .u8 (S.judT s.V z.o)]) (fun q=>stE q) (StK (S.offT s.V z.o))):=by
 have hcp:=H.cap;have hA:=S.sha_arr (S.encS z.o);have hck:=S.check_zero.1 (S.verE_check hv);have F:=S.ok_fineT H.g hok;obtain⟨n1,n4⟩:=ok_len H.sh hok.1.2.1;have hle:=H.sh.le H.L n4;have hwg:=S.whole_good (ps:=s.sh.V.ps) H.sh.ml;have hll:s.sh.V.ps.length=s.sh.pn:=by rw[List.length_map,H.sh.pr.len]
 refine J.enter 36 func102 rfl rfl ?_;refine run ?_;refine J.box rfl rfl rfl fun b1=>?_
 refine J.box rfl rfl rfl fun b2=>?_
 refine J.alloc rfl fun b3=>?_
 refine run ?_;refine J.callp rfl rfl (fun w' M=>refJudgedT s z w' (H.ext M.ext) (R.ext M.ext) hv) ?_;refine run ?_;refine J.call rfl rfl (fun w' M=>refStTwin s w' (H.ext M.ext)) fun t ht=>?_
 refine run ?_;refine J.alloc rfl fun b4=>?_
 refine run ?_;refine J.ife rfl (fun c2=>?_) (fun c2=>?_)
 ·obtain⟨a1,a2⟩:=S.com_add H.g hok hv c2;obtain⟨_,_,b3f,b4f,_⟩:=S.add_fine F.fine.good.1 a1;rw[a2]at b3f b4f;refine run ?_;refine J.callp rfl rfl (fun w' M=>ofO z.o R.ok _ _ _ (R.row.ext M.ext) R.cap hck.1 (fun hk=>S.fine4 hck.2.2.2.2.2.2 hk)) ?_;refine run ?_;refine J.alloc rfl fun b5=>?_
  refine run ?_;refine J.regionX [(0, .q),(1, .q),(3, .q),(4, .q),(6, .q),(7, .q),(8, .q),(9, .q),(2, .e),(5, .e),(10, .e),(11, .q),(12, .g)] mixed (by kernel_rfl) ?_;refine run ?_;refine J.call rfl rfl (fun w' M=>refWhole s.sh w' (H.sh.ext M.ext) H.L n4) fun q hq=>?_
  dsimp only[grE,List.cons_append,List.nil_append];have hqs:=GrP.sz (P:=S.whole s.sh.V.ps) hq ⟨F.fine.good,F.fine.le⟩;have hqok:=hq.ok (refWholeOk H.sh);have hqP:q.P=S.whole s.sh.V.ps:=GrP.P hq;have hqm:q.m=(S.whole s.sh.V.ps).m:=hq.m;have hqn:q.n=q.m:=by rw[hq.n,hwg.2,hqm]
  have h60:(S.whole s.sh.V.ps).m≤60:=F.fine.le;refine run ?_;refine J.call rfl rfl (fun w' M=>refPut q (S.sha (S.encS z.o)) z w' (GrR.own hqok hq.cap hqs w' M) hA (R.ext M.ext) hqn (by omega)) fun r hr=>?_
  dsimp only[grE,List.cons_append,List.nil_append];have hq1:q.m=(S.whole s.sh.V.ps).m:=congrArg S.PG.m hqP;have hq2:q.ids=(S.whole s.sh.V.ps).ids:=congrArg S.PG.ids hqP;have hq3:q.ops=(S.whole s.sh.V.ps).ops:=congrArg S.PG.ops hqP;rw[hq1,hq2,hq3]at hr;have hrP:r.P=S.putP (S.whole s.sh.V.ps) (S.idOf z.o) z.o:=GrP.P hr;have hro:∀o∈(S.putP (S.whole s.sh.V.ps) (S.idOf z.o) z.o).ops,o.ok:=fun o ho=>by
   rcases List.mem_append.1 ho with h|h
   ·exact refWholeOk H.sh o (List.mem_of_mem_take h)
   rcases List.mem_cons.1 h with rfl|h
   ·exact R.ok
   exact refWholeOk H.sh o (List.mem_of_mem_drop h)
  have hrs:=GrP.sz (P:=S.putP (S.whole s.sh.V.ps) (S.idOf z.o) z.o) hr ⟨b3f.good,b3f.le⟩;have hrc:S.chkG r.m r.ids r.ops=0:=by
   have h:=(S.chkP_fine b3f.good.1).2 b3f;have h:S.chkP (S.putP (S.whole s.sh.V.ps) (S.idOf z.o) z.o)=0:=h;rw[←hrP]at h;exact h
  refine run ?_;refine J.call rfl rfl (fun w' M=>shOne (refMade r s.sh.pn w' (GrR.own (hr.ok hro) hr.cap hrs w' M) hrc n4)) fun u hu=>?_
  rw[hrP]at hu;refine run ?_;refine J.b1W rfl rfl hA fun bb=>?_
  have hton:t.on=s.on:=congrArg S.StV.n ht.V;refine J.apW rfl rfl RW.own' fun a' c'=>?_
  refine run ?_;refine J.front (.wown 24 .u8 32 a' (t.on+1) c' (t.os++S.sha (S.encS z.o))) ?_;refine J.front (shW u) ?_;refine J.finG ⟨t.cap,u,a',t.on+1,c',t.os++S.sha (S.encS z.o)⟩ rfl ⟨?_,hu.k⟩ sb;rw[S.off_1 c2];have e1:t.cap=s.cap:=congrArg S.StV.cap ht.V;have e2:t.on=s.on:=congrArg S.StV.n ht.V;have e3:t.os=s.os:=congrArg S.StV.os ht.V;have e4:u.V=_:=hu.V;unfold StA.V S.comT;dsimp only;rw[e1,e2,e3,e4,←hll]
 refine run ?_;refine J.finG t rfl ⟨?_,ht.k⟩ sb;rw[S.off_no c2];exact ht.V
theorem refStOffer{S0 S1:Nat→Prop}(s:StA)(z:OpA)(w:World)(H:StR S0 w s)(R:OpR S1 w z):
  Calls prog 19 #[.agg (srC s).toArray, .agg (opC z).toArray] w (Gv w (fun q:StA=> .tuple #[.agg (srC q).toArray, .int .u8 (S.ofJ s.V z.o), .int .i64 (S.askE s.V z.o)]) (fun q=>stE q) (StK (S.ofS s.V z.o))):=by
 refine J.enter 23 func19 rfl rfl ?_;refine run ?_;refine J.box rfl rfl rfl fun b1=>?_
 refine J.box rfl rfl rfl fun b2=>?_
 refine J.alloc rfl fun b3=>?_
 refine run ?_;refine J.callp rfl rfl (fun w' M=>refStAsked s z w' (H.ext M.ext) (R.ext M.ext)) ?_;refine run ?_;refine J.ifn rfl (fun c1=>?_) (fun c1=>?_)
 ·rw[(S.of_no c1).2];refine run ?_;refine J.nilWo 24 .u8 32 ?_;refine J.nilSh ?_;exact J.finG StA.zero rfl (stZero (S.of_no c1).1) sb
 obtain⟨hok,hv⟩:=S.askE_0 c1;rw[(S.of_yes c1).1,(S.of_yes c1).2,c1];refine run ?_;refine J.call rfl rfl (fun w' M=>refOfferedT s z w' (H.ext M.ext) (R.ext M.ext) hok hv) fun q hq=>?_
 refine run ?_;refine J.alloc rfl fun b4=>?_
 refine run ?_;exact J.finG q rfl hq sb
end W
namespace S
open G
/-! ### the third operation -/
/-! ### new stores -/
theorem nw_ok{c n:Int}(h:(1≤c∧c≤40)∧1≤n∧n≤4):okT (nwT c n)∧StG (nwT c n)∧whole (nwT c n).sh.ps=PG.nil:=by
 rw[(nwT_0 h).1];obtain⟨m1,m2⟩:=ok_made (n:=n.toNat) nil_fine (by omega);refine⟨⟨⟨h.1,m1,?_,?_⟩,fun i hi=>absurd hi (Nat.not_lt_zero _)⟩,⟨fun p hp=>((made_good nil_fine.good nil_fine.rising).mem hp).1.1,rfl⟩,m2⟩
 ·show((0:Nat):Int)≤c;omega
 ·rfl
/-! ### the example -/
/-! ### runs in parts -/
/-! ### what was committed is there -/
/-! ### other shards -/
/-! ### what is missing -/
end S
namespace W
open Go.RowKit G
set_option maxRecDepth 20000
set_option maxHeartbeats 8000000
attribute [local irreducible] RS RX RY Code.wp bodyPost J Ent.blk Ent.irow Ent.iown Ent.wrow Ent.wown Ent.gown Ent.all Ent.emp
theorem StZ.zero:StZ S.StV.zero:=⟨fun p hp=>(by cases hp),⟨Nat.zero_le _,Nat.zero_le _⟩,fun _=>Nat.zero_le _,Nat.zero_le _⟩
theorem StZ.nw(c n:Int):StZ (S.nwT c n):=by
 by_cases h:(1≤c∧c≤40)∧1≤n∧n≤4
 ·rw[(S.nwT_0 h).1];refine⟨fun p hp=>?_,⟨?_,Nat.zero_le _⟩,fun _=>Nat.le_trans (S.allN_made S.nil_fine) (Nat.zero_le _),Nat.zero_le _⟩
  ·obtain⟨i,hi,rfl⟩:=List.mem_map.1 hp;obtain⟨h1,h2⟩:=S.prt_size S.PG.nil n.toNat i;exact⟨Nat.le_trans h1 (Nat.zero_le _),Nat.le_trans h2 (Nat.zero_le _)⟩
  show(S.madeS _ _).ps.length≤6;rw[S.made_len];omega
 rw[(S.nwT_2 h).1];exact StZ.zero
end W
namespace S
open G
def hbN:OpV:=⟨0,0,1,0,0,0,0,0,0,[], .empty, .empty⟩
def hbA:OpV:=⟨0,4,1,0,0,0,0,0,0,[], .empty, .empty⟩
theorem hb_okN:hbN.ok:=⟨by decide,by decide,by decide,by decide,by decide,by decide,by decide,by decide,by decide,by decide,by decide⟩
theorem hb_okA:hbA.ok:=⟨by decide,by decide,by decide,by decide,by decide,by decide,by decide,by decide,by decide,by decide,by decide⟩
theorem hb_signE:signE 5 hbA=0:=signE_zero.2 ⟨by decide,check_zero.2 ⟨(by decide:(0:Nat)≤4),rising_nil,isG_pub 5 (by decide),(by decide:(4:Int)≤1000000000000),(by decide:(0:Int)<500000003),(by decide:(0:Int)<500000003), .inl ⟨rfl,rfl,rfl,rfl,rfl,rfl⟩⟩⟩
noncomputable def hbO:OpV:=signS 5 hbA
theorem hb_is:hbO.n=0∧hbO.ids=[]∧hbO.st=4:=by
 unfold hbO;rw[signS_eq hb_signE];exact⟨rfl,rfl,rfl⟩
theorem hb_ok:hbO.ok:=signS_ok 5 hbA hb_okA
theorem hb_ver:verE hbO=0:=(sign_good hb_okA rfl hb_signE).2.2.2.2.2.2
theorem hb_nw:nwT 3 1=⟨3,madeS PG.nil 1,0,[]⟩:=(nwT_0 (by decide)).1
theorem hb_okT:okT (nwT 3 1)∧StG (nwT 3 1)∧whole (nwT 3 1).sh.ps=PG.nil:=nw_ok (by decide)
theorem hb_jud:judT (nwT 3 1) hbO=1:=by
 rw[hb_nw];refine jud_1 (fun⟨i,hi,_⟩=>absurd hi (Nat.not_lt_zero _)) (fun j hj=>?_) (by decide);rw[hb_is.1]at hj;exact absurd hj (Nat.not_lt_zero _)
noncomputable def hbT:StV:=comT (nwT 3 1) hbO
theorem hbT_of:ofS (nwT 3 1) hbO=hbT∧askE (nwT 3 1) hbO=0:=by
 have e:askE (nwT 3 1) hbO=0:=(askE_v hb_okT.1).trans hb_ver;exact⟨(of_yes e).1.trans (off_1 hb_jud),e⟩
theorem putP_nil0(x:List Int)(o:OpV):putP PG.nil x o=⟨1,x,[o]⟩:=by
 unfold putP insW insO PG.nil;simp
theorem rising_one{x:List Int}:Rising 1 x:=fun i hi=>absurd hi (Nat.not_lt_zero _)
theorem hd_one{x:List Int}{o:OpV}(hf:(⟨1,x,[o]⟩:PG).fine)(hx:x.length=32)(ho:o.n=0):hdN ⟨1,x,[o]⟩=1∧hdI ⟨1,x,[o]⟩=x:=by
 obtain⟨h1,h2,h3⟩:=hd_all hf;refine idsG_ext h1 (by rw[hx]) h2 rising_one fun y=>(h3 y).trans ⟨fun h=>h.1,fun h=>⟨h,fun z u hu=>?_⟩⟩;obtain⟨i,hi,_,e⟩:=hu;obtain rfl:i=0:=by
  have:i<1:=hi;omega
 have e:o=u:=e;subst e;rw[ho];exact fun⟨k,hk,_⟩=>absurd hk (Nat.not_lt_zero _)
theorem nxt_one{o:OpV}(h:o.st=4):nxtS [o]=5:=by
 show stp 0 o=5;unfold stp;rw[h];decide
theorem pre_one{x:List Int}(hx:x.length=32):preE 1 x=0∧preN 1 x=1∧preL 1 x=x:=by
 have e:preE 1 x=0:=preE_0 (by decide) rising_one;refine⟨e,(pre_yes e).1,(pre_yes e).2.trans ?_⟩;exact List.take_of_length_le (by rw[hx];decide)
theorem bld_one{x:List Int}(hx:x.length=32):(bldR 6 1 x 5 hbN).e=0∧(bldR 6 1 x 5 hbN).o.st=5∧(bldR 6 1 x 5 hbN).o.n=1∧(bldR 6 1 x 5 hbN).o.ids=x:=by
 obtain⟨p1,p2,p3⟩:=pre_one hx
 have hs : signE 6 (bldO 1 x 5 hbN) = 0 := signE_zero.2 ⟨by decide, check_zero.2 ⟨by show preN 1 x ≤ 4; exact preN_le _ _, by
  show Rising (preN 1 x) (preL 1 x)
  rw [p2]
  exact rising_one, isG_pub 6 (by decide), (by decide : (5 : Int) ≤ 1000000000000), (by decide : (0 : Int) < 500000003), (by decide : (0 : Int) < 500000003), .inl ⟨rfl, rfl, rfl, rfl, rfl, rfl⟩⟩⟩
 have he:bldE 6 1 x 5 hbN=0:=(bldE_2 p1).trans hs;refine⟨he,?_⟩;show(bldV 6 1 x 5 hbN).st=5∧(bldV 6 1 x 5 hbN).n=1∧(bldV 6 1 x 5 hbN).ids=x;rw[(bld_yes he).1,signS_eq hs];exact⟨rfl,p2,p3⟩
theorem hbT_ok:okT hbT∧StG hbT∧whole hbT.sh.ps=⟨1,idOf hbO,[hbO]⟩:=by
 obtain⟨h1,h2,h3⟩:=com_ok hb_okT.2.1 hb_okT.1 hb_ver hb_jud;rw[hb_okT.2.2,putP_nil0]at h3;exact⟨h1,h2,h3⟩
theorem hbT_fine:(whole hbT.sh.ps).fine:=(ok_fineT hbT_ok.2.1 hbT_ok.1).fine
theorem hbT_hd:hdN (whole hbT.sh.ps)=1∧hdI (whole hbT.sh.ps)=idOf hbO:=by
 have h:=hbT_fine;rw[hbT_ok.2.2]at h⊢;exact hd_one h (idOf_len _) hb_is.1
theorem hbT_stm:stmE (whole hbT.sh.ps)=0∧stmV (whole hbT.sh.ps)=5:=by
 have hn:nxtS (whole hbT.sh.ps).ops=5:=by
  rw[hbT_ok.2.2];exact nxt_one hb_is.2.2
 have e:=stmE_0 ((chkP_fine hbT_fine.good.1).2 hbT_fine) (by rw[hn];decide);exact⟨e,(stmV_yes e).trans hn⟩
theorem hb_wrt:(wrtR hbT 6 hbN).e=0∧(wrtR hbT 6 hbN).o.st=5∧(wrtR hbT 6 hbN).o.n=1∧(wrtR hbT 6 hbN).o.ids=idOf hbO:=by
 rw[wrt_0 hbT_ok.1 hbT_stm.1,hbT_hd.1,hbT_hd.2,hbT_stm.2];exact bld_one (idOf_len _)
theorem hb_nil:preE 0 []=0∧preN 0 []=0∧preL 0 []=[]:=⟨preE_0 (by decide) rising_nil,(pre_yes (preE_0 (by decide) rising_nil)).1,(pre_yes (preE_0 (by decide) rising_nil)).2⟩
theorem hb_stm0:stmE PG.nil=0∧stmV PG.nil=0:=by
 have e:=stmE_0 (g:=PG.nil) hx_chk (by decide);exact⟨e,stmV_yes e⟩
def hbI(k:Int):List Int:=k::List.replicate 31 0
def hbF:List Int:=hbI 1++(hbI 2++(hbI 3++(hbI 4++hbI 5)))
theorem hb_arr {k : Int} (h : 0 ≤ k ∧ k < 256) : Arr .u8 32 (hbI k) := ⟨rfl, fun x hx => by
 rcases List.mem_cons.1 hx with rfl | h2
 ·exact h
 ·rw [List.eq_of_mem_replicate h2]; decide⟩
theorem hb_five:preE 5 hbF=0∧preN 5 hbF=4∧preL 5 hbF=hbF.take 128:=by
 have e:preE 5 hbF=0:=preE_0 (by decide) (by decide+kernel);exact⟨e,(pre_yes e).1,(pre_yes e).2⟩
end S
namespace W
open Go.RowKit G
set_option maxRecDepth 20000
set_option maxHeartbeats 8000000
attribute [local irreducible] RS RX RY Code.wp bodyPost J Ent.blk Ent.irow Ent.iown Ent.wrow Ent.wown Ent.gown Ent.all Ent.emp
instance:Siz prog 33 6:=⟨by kernel_rfl⟩
instance:Ents prog 14:=⟨.mk func14 (by kernel_rfl) rfl⟩
instance:Ents prog 13:=⟨.mk func13 (by kernel_rfl) rfl⟩
instance:Ents prog 18:=⟨.mk func18 (by kernel_rfl) rfl⟩
instance:Ents prog 19:=⟨.mk func19 (by kernel_rfl) rfl⟩
instance:Ents prog 20:=⟨.mk func20 (by kernel_rfl) rfl⟩
instance:Ents prog 103:=⟨.mk func103 (by kernel_rfl) rfl⟩
theorem none24(w:World):Calls prog 14 #[] w (Ret w fun v _=>v= .agg (acC S.hbN).toArray):=by
 refine J.enter 2 func14 rfl rfl ?_;refine run ?_;refine J.alloc rfl fun b1=>?_
 refine run ?_;exact J.fin rfl
theorem five24(w:World):Calls prog 103 #[] w (Gv w (fun q:Nat=> .slice (some ⟨q,0,none⟩) 5 5) (fun q=>[.wown 24 .u8 32 (some ⟨q,0,none⟩) 5 5 S.hbF]) fun _=>True):=by
 refine J.enter 7 func103 rfl rfl ?_;refine run ?_;refine J.bI .u8 (List.replicate 32 0) [(0,1)] (S.hbI 1) rfl rfl rfl rfl ?_;refine run ?_;refine J.bI .u8 (List.replicate 32 0) [(0,2)] (S.hbI 2) rfl rfl rfl rfl ?_;refine run ?_;refine J.bI .u8 (List.replicate 32 0) [(0,3)] (S.hbI 3) rfl rfl rfl rfl ?_;refine run ?_;refine J.bI .u8 (List.replicate 32 0) [(0,4)] (S.hbI 4) rfl rfl rfl rfl ?_;refine run ?_;refine J.bI .u8 (List.replicate 32 0) [(0,5)] (S.hbI 5) rfl rfl rfl rfl ?_;refine run ?_
 refine J.bnG (vs := [.agg (ints .u8 (S.hbI 1)).toArray, .agg (ints .u8 (S.hbI 2)).toArray, .agg (ints .u8 (S.hbI 3)).toArray, .agg (ints .u8 (S.hbI 4)).toArray, .agg (ints .u8 (S.hbI 5)).toArray]) idC [⟨S.hbI 1, rfl⟩, ⟨S.hbI 2, rfl⟩, ⟨S.hbI 3, rfl⟩, ⟨S.hbI 4, rfl⟩, ⟨S.hbI 5, rfl⟩] idC_len rfl rfl rfl (fun v hv => by
  simp only [List.mem_cons, List.not_mem_nil, or_false] at hv
  rcases hv with rfl | rfl | rfl | rfl | rfl <;> rfl) fun b => ?_
 refine run ?_;have e:flatI [⟨S.hbI 1,rfl⟩,⟨S.hbI 2,rfl⟩,⟨S.hbI 3,rfl⟩,⟨S.hbI 4,rfl⟩,⟨S.hbI 5,rfl⟩]=S.hbF:=by decide
 have hbd:Bd .u8 S.hbF:=fun x hx=>by
  have k:=fun(i:Int) (hi:0≤i∧i<256)=>(S.hb_arr hi).2;rcases List.mem_append.1 hx with h|h
  ·exact k 1 (by decide) x h
  rcases List.mem_append.1 h with h|h
  ·exact k 2 (by decide) x h
  rcases List.mem_append.1 h with h|h
  ·exact k 3 (by decide) x h
  rcases List.mem_append.1 h with h|h
  ·exact k 4 (by decide) x h
  exact k 5 (by decide) x h
 refine J.re (.gown idC 32 24 (some ⟨b,0,none⟩) 5 5 [⟨S.hbI 1,rfl⟩,⟨S.hbI 2,rfl⟩,⟨S.hbI 3,rfl⟩,⟨S.hbI 4,rfl⟩,⟨S.hbI 5,rfl⟩]) (.wown 24 .u8 32 (some ⟨b,0,none⟩) 5 5 S.hbF) (fun _ _ h=>e▸gown_wown (e.symm▸hbd) h) ?_;exact J.finG b rfl trivial sb
theorem bdAlive(TK:TypeId)(w:World)(K0:Kst w TK):Calls prog 21 #[] w (Ret w fun v _=>v= .bool true):=by
 have hbZ:StZ S.hbT:=by
  have h:=(StZ.nw 3 1).off S.hb_okT.2.1 S.hb_okT.1 S.hb_ver;rwa[S.off_1 S.hb_jud]at h
 have hA:Arr .u8 32 (S.idOf S.hbO):=S.sha_arr _;have hbk:S.hbO.k=1:=by
  unfold S.hbO;rw[S.signS_eq S.hb_signE];rfl
 have hrI:Arr .u8 32 (S.wrtR S.hbT 6 S.hbN).i:=(S.wrt_fit S.hbT_ok.2.1 S.hb_okN).i;refine J.enter 107 func21 rfl rfl ?_;refine run ?_;refine J.call rfl rfl (fun w' M=>bPreds (S0:=no) none 0 0 [] w' WRow.nil (Nat.le_refl _) (by decide)) fun l hl=>?_
 rw[S.hb_nil.1,S.hb_nil.2.1,S.hb_nil.2.2];refine run ?_;refine J.callp rfl rfl (fun w' M=>bStamp (S0:=no) GrA.nil TK w' (K0.ext M.ext) ⟨WRow.nil,GRow.nil' opC_len,Inns.nil,fun z hz=>(by cases hz),Nat.le_refl _,Nat.le_refl _,Nat.zero_le _,Nat.zero_le _⟩) ?_;rw[show GrA.nil.P=S.PG.nil from rfl,S.hb_stm0.1,S.hb_stm0.2];refine run ?_;refine J.callp rfl rfl (fun w' M=>none24 w') ?_;refine run ?_;refine J.call rfl rfl (fun w' M=>signBR (S0:=no) 5 (by decide) ⟨S.hbA,none,0⟩ w' ⟨S.hb_okA,WRow.nil,Nat.le_refl _⟩) fun q hq=>?_
 obtain⟨⟨o,pa,pc⟩,e⟩:=q;obtain⟨h1,h2,h3⟩:=hq;dsimp only at h1 h2 h3⊢;obtain rfl:o=S.hbO:=h2;refine run ?_;refine J.alloc rfl fun b1=>?_
 refine run ?_;refine J.call rfl rfl (fun w' M=>refStNew 3 1 w') fun u hu=>?_
 rw[show S.nwTE 3 1=0 from rfl];refine run ?_;refine J.alloc rfl fun b2=>?_
 refine run ?_;refine J.call rfl rfl (fun w' M=>(RW.row' (a:=pa) w' M).elim fun _ k=>refStOffer u ⟨S.hbO,pa,pc⟩ w' (hu.own (StZ.nw 3 1) w' M) ⟨S.hb_ok,k,h1⟩) fun t ht=>?_
 rw[hu.V,S.hbT_of.1]at ht;rw[hu.V,S.hbT_of.2];refine run ?_;refine J.alloc rfl fun b3=>?_
 refine run ?_;refine J.joinX (A:=OpA×Nat) (fun u=>[(12, .pointer (some ⟨u.2,0,none⟩)),(15, .int .i64 0)]) [13,14,44,45,46,47,48,49,50,51] (fun u=>[.blk u.2 (opC u.1) 37, .wrow .u8 32 u.1.pa u.1.o.n u.1.o.ids, .blk b1 (opC ⟨S.hbO,pa,pc⟩) 37, .wrow .u8 32 pa S.hbO.n S.hbO.ids]) (fun u=>u.1.o.st=5∧u.1.o.n=1∧u.1.o.ids=S.idOf S.hbO) ?_ (fun u j1 hu6=>?_)
 ·refine J.regionW [.blk b3 (srC t) 55] mixed ?_;refine J.wst (A:=(OpA×Option Addr×Nat×Nat)×Nat×Unit) (fun p=>[(12, .pointer (some ⟨p.2.1,0,none⟩)),(44,bdC (S.wrtR S.hbT 6 S.hbN) p.1),(45, .agg (srC t).toArray),(46, .agg (acC S.hbN).toArray),(47,bdC (S.wrtR S.hbT 6 S.hbN) p.1),(48, .agg (opC p.1.1).toArray),(49, .slice p.1.2.1 p.1.2.2.1 p.1.2.2.2),(50, .agg (ints .u8 (S.wrtR S.hbT 6 S.hbN).i).toArray),(51, .int .i64 (S.wrtR S.hbT 6 S.hbN).e)]) [] (fun p=>[.blk p.2.1 [.int .u32 0, .slice none 0 0, .int .u64 0, .int .u8 0, .string .empty, .int .u8 0, .int .i64 0, .int .u64 0, .string .empty, .int .u32 0, .int .u32 0] 37, .wrow .u8 32 p.1.1.pa p.1.1.o.n p.1.1.o.ids, .irow .u8 p.1.2.1 p.1.2.2.1 (S.wrtR S.hbT 6 S.hbN).b, .blk b3 (srC t) 55,shW t.sh, .wown 24 .u8 32 t.oa t.on t.oc t.os, .blk b1 (opC ⟨S.hbO,pa,pc⟩) 37, .wrow .u8 32 pa S.hbO.n S.hbO.ids]) (fun p=>BdP (S.wrtR S.hbT 6 S.hbN) p.1∧True) 5 (bs 14 511) (fun p j hp=>?_) (fun st0=>?_)
  ·obtain⟨q,bg,_⟩:=p;obtain⟨hq,_⟩:=hp
   try dsimp only
   try dsimp only at hq
   refine J.wfin [(9, .e),(10, .e),(11, .q),(12, .e),(13, .q)] (by kernel_rfl) ?_;refine run ?_;refine J.alloc rfl fun bi=>?_
   refine run ?_;refine run ?_;refine run ?_;have e1:q.1.o.n=1:=by rw[hq.1];exact S.hb_wrt.2.2.1
   have e2:q.1.o.ids=S.idOf S.hbO:=by rw[hq.1];exact S.hb_wrt.2.2.2
   have e3:q.1.o.st=5:=by rw[hq.1];exact S.hb_wrt.2.1
   rw[S.hb_wrt.1];refine J.front (.wrow .u8 32 pa S.hbO.n S.hbO.ids) ?_;refine J.front (.blk b1 (opC ⟨S.hbO,pa,pc⟩) 37) ?_;refine J.front (.wrow .u8 32 q.1.pa q.1.o.n q.1.o.ids) ?_;refine J.front (.blk bg (opC q.1) 37) ?_;refine J.drop (E:=[.blk bg (opC q.1) 37, .wrow .u8 32 q.1.pa q.1.o.n q.1.o.ids, .blk b1 (opC ⟨S.hbO,pa,pc⟩) 37, .wrow .u8 32 pa S.hbO.n S.hbO.ids]) sb ?_;exact J.cut (q.1,bg) ⟨rfl,rfl,trivial⟩ (by kernel_rfl) ⟨e3,e1,e2⟩
  refine J.wst (A:=(OpA×Option Addr×Nat×Nat)×Nat×Unit) (fun p=>[(14, .pointer (some ⟨p.2.1,0,none⟩)),(44,bdC (S.wrtR S.hbT 6 S.hbN) p.1),(45, .agg (srC t).toArray),(46, .agg (acC S.hbN).toArray),(47,bdC (S.wrtR S.hbT 6 S.hbN) p.1),(48, .agg (opC p.1.1).toArray),(49, .slice p.1.2.1 p.1.2.2.1 p.1.2.2.2),(50, .agg (ints .u8 (S.wrtR S.hbT 6 S.hbN).i).toArray),(51, .int .i64 (S.wrtR S.hbT 6 S.hbN).e)]) [] (fun p=>[.blk p.2.1 (ints .u8 (List.replicate 32 0)) 24, .wrow .u8 32 p.1.1.pa p.1.1.o.n p.1.1.o.ids, .irow .u8 p.1.2.1 p.1.2.2.1 (S.wrtR S.hbT 6 S.hbN).b, .blk b3 (srC t) 55,shW t.sh, .wown 24 .u8 32 t.oa t.on t.oc t.os, .blk b1 (opC ⟨S.hbO,pa,pc⟩) 37, .wrow .u8 32 pa S.hbO.n S.hbO.ids]) (fun p=>BdP (S.wrtR S.hbT 6 S.hbN) p.1∧True) 5 (bs 14 767) (fun p j hp=>?_) (fun st1=>?_)
  ·obtain⟨q,bi,_⟩:=p;obtain⟨hq,_⟩:=hp
   try dsimp only
   try dsimp only at hq
   refine J.wfin [(8, .e),(10, .e),(11, .q),(12, .e),(13, .q)] (by kernel_rfl) ?_;refine run ?_;refine J.alloc rfl fun bg=>?_
   refine run ?_;refine run ?_;refine run ?_;have e1:q.1.o.n=1:=by rw[hq.1];exact S.hb_wrt.2.2.1
   have e2:q.1.o.ids=S.idOf S.hbO:=by rw[hq.1];exact S.hb_wrt.2.2.2
   have e3:q.1.o.st=5:=by rw[hq.1];exact S.hb_wrt.2.1
   rw[S.hb_wrt.1];refine J.front (.wrow .u8 32 pa S.hbO.n S.hbO.ids) ?_;refine J.front (.blk b1 (opC ⟨S.hbO,pa,pc⟩) 37) ?_;refine J.front (.wrow .u8 32 q.1.pa q.1.o.n q.1.o.ids) ?_;refine J.front (.blk bg (opC q.1) 37) ?_;refine J.drop (E:=[.blk bg (opC q.1) 37, .wrow .u8 32 q.1.pa q.1.o.n q.1.o.ids, .blk b1 (opC ⟨S.hbO,pa,pc⟩) 37, .wrow .u8 32 pa S.hbO.n S.hbO.ids]) sb ?_;exact J.cut (q.1,bg) ⟨rfl,rfl,trivial⟩ (by kernel_rfl) ⟨e3,e1,e2⟩
  refine J.wst (A:=(OpA×Option Addr×Nat×Nat)×Unit) (fun p=>[(45, .agg (srC t).toArray),(46, .agg (acC S.hbN).toArray),(47,bdC (S.wrtR S.hbT 6 S.hbN) p.1)]) [] (fun p=>[.wrow .u8 32 p.1.1.pa p.1.1.o.n p.1.1.o.ids, .irow .u8 p.1.2.1 p.1.2.2.1 (S.wrtR S.hbT 6 S.hbN).b, .blk b3 (srC t) 55,shW t.sh, .wown 24 .u8 32 t.oa t.on t.oc t.os, .blk b1 (opC ⟨S.hbO,pa,pc⟩) 37, .wrow .u8 32 pa S.hbO.n S.hbO.ids]) (fun p=>BdP (S.wrtR S.hbT 6 S.hbN) p.1∧True) 11 (bs 14 7) (fun p j hp=>?_) (fun st2=>?_)
  ·obtain⟨q,_⟩:=p;obtain⟨hq,_⟩:=hp
   try dsimp only
   try dsimp only at hq
   refine J.wnode [(3, .q),(4, .q),(5, .q),(6, .q),(7, .q)] [8,9] 5 (bs 14 255) (by kernel_rfl) ?_;refine run ?_;refine J.nil ?_;refine J.wbr ?_ ?_
   ·refine J.alloc rfl fun bg=>?_
    refine J.nil ?_;exact st0 (q,bg,()) _ _ _ ⟨rfl,rfl,rfl,rfl,rfl,rfl,rfl,rfl,rfl,trivial⟩ (by kernel_rfl) (by kernel_rfl) ⟨hq,trivial⟩ inferInstance
   refine J.wbr ?_ ?_
   ·refine J.alloc rfl fun bi=>?_
    refine J.nil ?_;exact st1 (q,bi,()) _ _ _ ⟨rfl,rfl,rfl,rfl,rfl,rfl,rfl,rfl,rfl,trivial⟩ (by kernel_rfl) (by kernel_rfl) ⟨hq,trivial⟩ inferInstance
   exact J.wbr0
  refine J.wst (A:=(OpA×Option Addr×Nat×Nat)×Nat×Unit) (fun p=>[(12, .pointer (some ⟨p.2.1,0,none⟩)),(45, .agg (srC t).toArray),(46, .agg (acC S.hbN).toArray),(47,bdC (S.wrtR S.hbT 6 S.hbN) p.1)]) [] (fun p=>[.blk p.2.1 [.int .u32 0, .slice none 0 0, .int .u64 0, .int .u8 0, .string .empty, .int .u8 0, .int .i64 0, .int .u64 0, .string .empty, .int .u32 0, .int .u32 0] 37, .wrow .u8 32 p.1.1.pa p.1.1.o.n p.1.1.o.ids, .irow .u8 p.1.2.1 p.1.2.2.1 (S.wrtR S.hbT 6 S.hbN).b, .blk b3 (srC t) 55,shW t.sh, .wown 24 .u8 32 t.oa t.on t.oc t.os, .blk b1 (opC ⟨S.hbO,pa,pc⟩) 37, .wrow .u8 32 pa S.hbO.n S.hbO.ids]) (fun p=>BdP (S.wrtR S.hbT 6 S.hbN) p.1∧True) 10 (bs 14 263) (fun p j hp=>?_) (fun st3=>?_)
  ·obtain⟨q,bg,_⟩:=p;obtain⟨hq,_⟩:=hp
   try dsimp only
   try dsimp only at hq
   refine J.wfin [(3, .q),(4, .q),(5, .q),(6, .q),(7, .q),(9, .e),(10, .e),(11, .q),(12, .e),(13, .q)] (by kernel_rfl) ?_;refine run ?_;refine J.alloc rfl fun bi=>?_
   refine run ?_;refine run ?_;refine run ?_;have e1:q.1.o.n=1:=by rw[hq.1];exact S.hb_wrt.2.2.1
   have e2:q.1.o.ids=S.idOf S.hbO:=by rw[hq.1];exact S.hb_wrt.2.2.2
   have e3:q.1.o.st=5:=by rw[hq.1];exact S.hb_wrt.2.1
   rw[S.hb_wrt.1];refine J.front (.wrow .u8 32 pa S.hbO.n S.hbO.ids) ?_;refine J.front (.blk b1 (opC ⟨S.hbO,pa,pc⟩) 37) ?_;refine J.front (.wrow .u8 32 q.1.pa q.1.o.n q.1.o.ids) ?_;refine J.front (.blk bg (opC q.1) 37) ?_;refine J.drop (E:=[.blk bg (opC q.1) 37, .wrow .u8 32 q.1.pa q.1.o.n q.1.o.ids, .blk b1 (opC ⟨S.hbO,pa,pc⟩) 37, .wrow .u8 32 pa S.hbO.n S.hbO.ids]) sb ?_;exact J.cut (q.1,bg) ⟨rfl,rfl,trivial⟩ (by kernel_rfl) ⟨e3,e1,e2⟩
  refine J.wst (A:=Nat×Nat×Unit) (fun p=>[(12, .pointer (some ⟨p.1,0,none⟩)),(14, .pointer (some ⟨p.2.1,0,none⟩)),(45, .agg (srC t).toArray),(46, .agg (acC S.hbN).toArray)]) [] (fun p=>[.blk p.1 [.int .u32 0, .slice none 0 0, .int .u64 0, .int .u8 0, .string .empty, .int .u8 0, .int .i64 0, .int .u64 0, .string .empty, .int .u32 0, .int .u32 0] 37, .blk p.2.1 (ints .u8 (List.replicate 32 0)) 24, .blk b3 (srC t) 55,shW t.sh, .wown 24 .u8 32 t.oa t.on t.oc t.os, .blk b1 (opC ⟨S.hbO,pa,pc⟩) 37, .wrow .u8 32 pa S.hbO.n S.hbO.ids]) (fun p=>True) 10 (bs 14 771) (fun p j hp=>?_) (fun st4=>?_)
  ·obtain⟨bg,bi,_⟩:=p;obtain _:=hp
   try dsimp only
   refine J.wfin [(2, .e),(3, .q),(4, .q),(5, .q),(6, .q),(7, .q),(10, .e),(11, .q),(12, .e),(13, .q)] (by kernel_rfl) ?_;refine run ?_;refine J.call rfl rfl (fun w' M=>by have h:=bWrite 6 (by decide) t S.hbN S.hb_okN TK w' (K0.ext M.ext) (ht.own hbZ w' M);rwa[ht.V]at h) fun q hq=>?_
   refine run ?_;refine run ?_;refine run ?_;have e1:q.1.o.n=1:=by rw[hq.1];exact S.hb_wrt.2.2.1
   have e2:q.1.o.ids=S.idOf S.hbO:=by rw[hq.1];exact S.hb_wrt.2.2.2
   have e3:q.1.o.st=5:=by rw[hq.1];exact S.hb_wrt.2.1
   rw[S.hb_wrt.1];refine J.front (.wrow .u8 32 pa S.hbO.n S.hbO.ids) ?_;refine J.front (.blk b1 (opC ⟨S.hbO,pa,pc⟩) 37) ?_;refine J.front (.wrow .u8 32 q.1.pa q.1.o.n q.1.o.ids) ?_;refine J.front (.blk bg (opC q.1) 37) ?_;refine J.drop (E:=[.blk bg (opC q.1) 37, .wrow .u8 32 q.1.pa q.1.o.n q.1.o.ids, .blk b1 (opC ⟨S.hbO,pa,pc⟩) 37, .wrow .u8 32 pa S.hbO.n S.hbO.ids]) sb ?_;exact J.cut (q.1,bg) ⟨rfl,rfl,trivial⟩ (by kernel_rfl) ⟨e3,e1,e2⟩
  refine J.wst (A:=Nat×Unit) (fun p=>[(12, .pointer (some ⟨p.1,0,none⟩)),(45, .agg (srC t).toArray),(46, .agg (acC S.hbN).toArray)]) [] (fun p=>[.blk p.1 [.int .u32 0, .slice none 0 0, .int .u64 0, .int .u8 0, .string .empty, .int .u8 0, .int .i64 0, .int .u64 0, .string .empty, .int .u32 0, .int .u32 0] 37, .blk b3 (srC t) 55,shW t.sh, .wown 24 .u8 32 t.oa t.on t.oc t.os, .blk b1 (opC ⟨S.hbO,pa,pc⟩) 37, .wrow .u8 32 pa S.hbO.n S.hbO.ids]) (fun p=>True) 11 (bs 14 259) (fun p j hp=>?_) (fun st5=>?_)
  ·obtain⟨bg,_⟩:=p;obtain _:=hp
   try dsimp only
   refine J.wnode [] [2,9] 10 (bs 14 259) (by kernel_rfl) ?_;refine run ?_;refine J.nil ?_;refine J.wbr ?_ ?_
   ·refine J.call rfl rfl (fun w' M=>by have h:=bWrite 6 (by decide) t S.hbN S.hb_okN TK w' (K0.ext M.ext) (ht.own hbZ w' M);rwa[ht.V]at h) fun q hq=>?_
    refine J.nil ?_;refine J.front (.irow .u8 q.2.1 q.2.2.1 (S.wrtR S.hbT 6 S.hbN).b) ?_;refine J.front (.wrow .u8 32 q.1.pa q.1.o.n q.1.o.ids) ?_;refine J.front (.blk bg [.int .u32 0, .slice none 0 0, .int .u64 0, .int .u8 0, .string .empty, .int .u8 0, .int .i64 0, .int .u64 0, .string .empty, .int .u32 0, .int .u32 0] 37) ?_;exact st3 (q,bg,()) _ _ _ ⟨rfl,rfl,rfl,rfl,trivial⟩ (by kernel_rfl) (by kernel_rfl) ⟨hq,trivial⟩ inferInstance
   refine J.wbr ?_ ?_
   ·refine J.alloc rfl fun bi=>?_
    refine J.nil ?_;refine J.front (.blk bi (ints .u8 (List.replicate 32 0)) 24) ?_;refine J.front (.blk bg [.int .u32 0, .slice none 0 0, .int .u64 0, .int .u8 0, .string .empty, .int .u8 0, .int .i64 0, .int .u64 0, .string .empty, .int .u32 0, .int .u32 0] 37) ?_;exact st4 (bg,bi,()) _ _ _ ⟨rfl,rfl,rfl,rfl,trivial⟩ (by kernel_rfl) (by kernel_rfl) trivial inferInstance
   exact J.wbr0
  refine J.wst (A:=(OpA×Option Addr×Nat×Nat)×Nat×Unit) (fun p=>[(14, .pointer (some ⟨p.2.1,0,none⟩)),(45, .agg (srC t).toArray),(46, .agg (acC S.hbN).toArray),(47,bdC (S.wrtR S.hbT 6 S.hbN) p.1)]) [] (fun p=>[.blk p.2.1 (ints .u8 (List.replicate 32 0)) 24, .wrow .u8 32 p.1.1.pa p.1.1.o.n p.1.1.o.ids, .irow .u8 p.1.2.1 p.1.2.2.1 (S.wrtR S.hbT 6 S.hbN).b, .blk b3 (srC t) 55,shW t.sh, .wown 24 .u8 32 t.oa t.on t.oc t.os, .blk b1 (opC ⟨S.hbO,pa,pc⟩) 37, .wrow .u8 32 pa S.hbO.n S.hbO.ids]) (fun p=>BdP (S.wrtR S.hbT 6 S.hbN) p.1∧True) 10 (bs 14 519) (fun p j hp=>?_) (fun st6=>?_)
  ·obtain⟨q,bi,_⟩:=p;obtain⟨hq,_⟩:=hp
   try dsimp only
   try dsimp only at hq
   refine J.wfin [(3, .q),(4, .q),(5, .q),(6, .q),(7, .q),(8, .e),(10, .e),(11, .q),(12, .e),(13, .q)] (by kernel_rfl) ?_;refine run ?_;refine J.alloc rfl fun bg=>?_
   refine run ?_;refine run ?_;refine run ?_;have e1:q.1.o.n=1:=by rw[hq.1];exact S.hb_wrt.2.2.1
   have e2:q.1.o.ids=S.idOf S.hbO:=by rw[hq.1];exact S.hb_wrt.2.2.2
   have e3:q.1.o.st=5:=by rw[hq.1];exact S.hb_wrt.2.1
   rw[S.hb_wrt.1];refine J.front (.wrow .u8 32 pa S.hbO.n S.hbO.ids) ?_;refine J.front (.blk b1 (opC ⟨S.hbO,pa,pc⟩) 37) ?_;refine J.front (.wrow .u8 32 q.1.pa q.1.o.n q.1.o.ids) ?_;refine J.front (.blk bg (opC q.1) 37) ?_;refine J.drop (E:=[.blk bg (opC q.1) 37, .wrow .u8 32 q.1.pa q.1.o.n q.1.o.ids, .blk b1 (opC ⟨S.hbO,pa,pc⟩) 37, .wrow .u8 32 pa S.hbO.n S.hbO.ids]) sb ?_;exact J.cut (q.1,bg) ⟨rfl,rfl,trivial⟩ (by kernel_rfl) ⟨e3,e1,e2⟩
  refine J.wst (A:=Nat×Unit) (fun p=>[(14, .pointer (some ⟨p.1,0,none⟩)),(45, .agg (srC t).toArray),(46, .agg (acC S.hbN).toArray)]) [] (fun p=>[.blk p.1 (ints .u8 (List.replicate 32 0)) 24, .blk b3 (srC t) 55,shW t.sh, .wown 24 .u8 32 t.oa t.on t.oc t.os, .blk b1 (opC ⟨S.hbO,pa,pc⟩) 37, .wrow .u8 32 pa S.hbO.n S.hbO.ids]) (fun p=>True) 11 (bs 14 515) (fun p j hp=>?_) (fun st7=>?_)
  ·obtain⟨bi,_⟩:=p;obtain _:=hp
   try dsimp only
   refine J.wnode [] [2,8] 10 (bs 14 515) (by kernel_rfl) ?_;refine run ?_;refine J.nil ?_;refine J.wbr ?_ ?_
   ·refine J.call rfl rfl (fun w' M=>by have h:=bWrite 6 (by decide) t S.hbN S.hb_okN TK w' (K0.ext M.ext) (ht.own hbZ w' M);rwa[ht.V]at h) fun q hq=>?_
    refine J.nil ?_;refine J.front (.irow .u8 q.2.1 q.2.2.1 (S.wrtR S.hbT 6 S.hbN).b) ?_;refine J.front (.wrow .u8 32 q.1.pa q.1.o.n q.1.o.ids) ?_;refine J.front (.blk bi (ints .u8 (List.replicate 32 0)) 24) ?_;exact st6 (q,bi,()) _ _ _ ⟨rfl,rfl,rfl,rfl,trivial⟩ (by kernel_rfl) (by kernel_rfl) ⟨hq,trivial⟩ inferInstance
   refine J.wbr ?_ ?_
   ·refine J.alloc rfl fun bg=>?_
    refine J.nil ?_;exact st4 (bg,bi,()) _ _ _ ⟨rfl,rfl,rfl,rfl,trivial⟩ (by kernel_rfl) (by kernel_rfl) trivial inferInstance
   exact J.wbr0
  refine J.wst (A:=Unit) (fun p=>[(45, .agg (srC t).toArray),(46, .agg (acC S.hbN).toArray)]) [] (fun p=>[.blk b3 (srC t) 55,shW t.sh, .wown 24 .u8 32 t.oa t.on t.oc t.os, .blk b1 (opC ⟨S.hbO,pa,pc⟩) 37, .wrow .u8 32 pa S.hbO.n S.hbO.ids]) (fun p=>True) 12 (bs 14 3) (fun p j hp=>?_) (fun st8=>?_)
  ·obtain _:=p;obtain _:=hp
   try dsimp only
   refine J.wnode [] [2,8,9] 11 (bs 14 3) (by kernel_rfl) ?_;refine run ?_;refine J.nil ?_;refine J.wbr ?_ ?_
   ·refine J.call rfl rfl (fun w' M=>by have h:=bWrite 6 (by decide) t S.hbN S.hb_okN TK w' (K0.ext M.ext) (ht.own hbZ w' M);rwa[ht.V]at h) fun q hq=>?_
    refine J.nil ?_;exact st2 (q,()) _ _ _ ⟨rfl,rfl,rfl,trivial⟩ (by kernel_rfl) (by kernel_rfl) ⟨hq,trivial⟩ inferInstance
   refine J.wbr ?_ ?_
   ·refine J.alloc rfl fun bg=>?_
    refine J.nil ?_;exact st5 (bg,()) _ _ _ ⟨rfl,rfl,rfl,trivial⟩ (by kernel_rfl) (by kernel_rfl) trivial inferInstance
   refine J.wbr ?_ ?_
   ·refine J.alloc rfl fun bi=>?_
    refine J.nil ?_;exact st7 (bi,()) _ _ _ ⟨rfl,rfl,rfl,trivial⟩ (by kernel_rfl) (by kernel_rfl) trivial inferInstance
   exact J.wbr0
  refine J.wst (A:=Nat×Nat×Unit) (fun p=>[(12, .pointer (some ⟨p.1,0,none⟩)),(14, .pointer (some ⟨p.2.1,0,none⟩)),(45, .agg (srC t).toArray)]) [] (fun p=>[.blk p.1 [.int .u32 0, .slice none 0 0, .int .u64 0, .int .u8 0, .string .empty, .int .u8 0, .int .i64 0, .int .u64 0, .string .empty, .int .u32 0, .int .u32 0] 37, .blk p.2.1 (ints .u8 (List.replicate 32 0)) 24, .blk b3 (srC t) 55,shW t.sh, .wown 24 .u8 32 t.oa t.on t.oc t.os, .blk b1 (opC ⟨S.hbO,pa,pc⟩) 37, .wrow .u8 32 pa S.hbO.n S.hbO.ids]) (fun p=>True) 11 (bs 14 769) (fun p j hp=>?_) (fun st9=>?_)
  ·obtain⟨bg,bi,_⟩:=p;obtain _:=hp
   try dsimp only
   refine J.wfin [(1, .e),(2, .e),(3, .q),(4, .q),(5, .q),(6, .q),(7, .q),(10, .e),(11, .q),(12, .e),(13, .q)] (by kernel_rfl) ?_;refine run ?_;refine J.callp rfl rfl (fun w' M=>none24 w') ?_;refine run ?_;refine J.call rfl rfl (fun w' M=>by have h:=bWrite 6 (by decide) t S.hbN S.hb_okN TK w' (K0.ext M.ext) (ht.own hbZ w' M);rwa[ht.V]at h) fun q hq=>?_
   refine run ?_;refine run ?_;refine run ?_;have e1:q.1.o.n=1:=by rw[hq.1];exact S.hb_wrt.2.2.1
   have e2:q.1.o.ids=S.idOf S.hbO:=by rw[hq.1];exact S.hb_wrt.2.2.2
   have e3:q.1.o.st=5:=by rw[hq.1];exact S.hb_wrt.2.1
   rw[S.hb_wrt.1];refine J.front (.wrow .u8 32 pa S.hbO.n S.hbO.ids) ?_;refine J.front (.blk b1 (opC ⟨S.hbO,pa,pc⟩) 37) ?_;refine J.front (.wrow .u8 32 q.1.pa q.1.o.n q.1.o.ids) ?_;refine J.front (.blk bg (opC q.1) 37) ?_;refine J.drop (E:=[.blk bg (opC q.1) 37, .wrow .u8 32 q.1.pa q.1.o.n q.1.o.ids, .blk b1 (opC ⟨S.hbO,pa,pc⟩) 37, .wrow .u8 32 pa S.hbO.n S.hbO.ids]) sb ?_;exact J.cut (q.1,bg) ⟨rfl,rfl,trivial⟩ (by kernel_rfl) ⟨e3,e1,e2⟩
  refine J.wst (A:=Nat×Unit) (fun p=>[(12, .pointer (some ⟨p.1,0,none⟩)),(45, .agg (srC t).toArray)]) [] (fun p=>[.blk p.1 [.int .u32 0, .slice none 0 0, .int .u64 0, .int .u8 0, .string .empty, .int .u8 0, .int .i64 0, .int .u64 0, .string .empty, .int .u32 0, .int .u32 0] 37, .blk b3 (srC t) 55,shW t.sh, .wown 24 .u8 32 t.oa t.on t.oc t.os, .blk b1 (opC ⟨S.hbO,pa,pc⟩) 37, .wrow .u8 32 pa S.hbO.n S.hbO.ids]) (fun p=>True) 12 (bs 14 257) (fun p j hp=>?_) (fun st10=>?_)
  ·obtain⟨bg,_⟩:=p;obtain _:=hp
   try dsimp only
   refine J.wnode [] [1,9] 11 (bs 14 257) (by kernel_rfl) ?_;refine run ?_;refine J.nil ?_;refine J.wbr ?_ ?_
   ·refine J.callp rfl rfl (fun w' M=>none24 w') ?_;refine J.nil ?_;exact st5 (bg,()) _ _ _ ⟨rfl,rfl,rfl,trivial⟩ (by kernel_rfl) (by kernel_rfl) trivial inferInstance
   refine J.wbr ?_ ?_
   ·refine J.alloc rfl fun bi=>?_
    refine J.nil ?_;refine J.front (.blk bi (ints .u8 (List.replicate 32 0)) 24) ?_;refine J.front (.blk bg [.int .u32 0, .slice none 0 0, .int .u64 0, .int .u8 0, .string .empty, .int .u8 0, .int .i64 0, .int .u64 0, .string .empty, .int .u32 0, .int .u32 0] 37) ?_;exact st9 (bg,bi,()) _ _ _ ⟨rfl,rfl,rfl,trivial⟩ (by kernel_rfl) (by kernel_rfl) trivial inferInstance
   exact J.wbr0
  refine J.wst (A:=Nat×Unit) (fun p=>[(14, .pointer (some ⟨p.1,0,none⟩)),(45, .agg (srC t).toArray)]) [] (fun p=>[.blk p.1 (ints .u8 (List.replicate 32 0)) 24, .blk b3 (srC t) 55,shW t.sh, .wown 24 .u8 32 t.oa t.on t.oc t.os, .blk b1 (opC ⟨S.hbO,pa,pc⟩) 37, .wrow .u8 32 pa S.hbO.n S.hbO.ids]) (fun p=>True) 12 (bs 14 513) (fun p j hp=>?_) (fun st11=>?_)
  ·obtain⟨bi,_⟩:=p;obtain _:=hp
   try dsimp only
   refine J.wnode [] [1,8] 11 (bs 14 513) (by kernel_rfl) ?_;refine run ?_;refine J.nil ?_;refine J.wbr ?_ ?_
   ·refine J.callp rfl rfl (fun w' M=>none24 w') ?_;refine J.nil ?_;exact st7 (bi,()) _ _ _ ⟨rfl,rfl,rfl,trivial⟩ (by kernel_rfl) (by kernel_rfl) trivial inferInstance
   refine J.wbr ?_ ?_
   ·refine J.alloc rfl fun bg=>?_
    refine J.nil ?_;exact st9 (bg,bi,()) _ _ _ ⟨rfl,rfl,rfl,trivial⟩ (by kernel_rfl) (by kernel_rfl) trivial inferInstance
   exact J.wbr0
  refine J.wnode [(0, .q)] [1,8,9] 12 (bs 14 1) (by kernel_rfl) ?_;refine run ?_;refine J.nil ?_;refine J.wbr ?_ ?_
  ·refine J.callp rfl rfl (fun w' M=>none24 w') ?_;refine J.nil ?_;exact st8 () _ _ _ ⟨rfl,rfl,trivial⟩ (by kernel_rfl) (by kernel_rfl) trivial inferInstance
  refine J.wbr ?_ ?_
  ·refine J.alloc rfl fun bg=>?_
   refine J.nil ?_;exact st10 (bg,()) _ _ _ ⟨rfl,rfl,trivial⟩ (by kernel_rfl) (by kernel_rfl) trivial inferInstance
  refine J.wbr ?_ ?_
  ·refine J.alloc rfl fun bi=>?_
   refine J.nil ?_;exact st11 (bi,()) _ _ _ ⟨rfl,rfl,trivial⟩ (by kernel_rfl) (by kernel_rfl) trivial inferInstance
  exact J.wbr0
 obtain⟨z,bz⟩:=u;obtain⟨hz1,hz2,hz3⟩:=hu6;dsimp only at hz1 hz2 hz3⊢;refine run ?_;refine J.call rfl rfl (fun w' M=>five24 w') fun q5 _=>?_
 refine run ?_;refine J.call rfl rfl (fun w' M=>(RW.own' (a:=some ⟨q5,0,none⟩) w' M).elim fun _ k=>bPreds _ 5 5 S.hbF w' k (Nat.le_refl _) (by decide)) fun f hf=>?_
 rw[S.hb_five.1,S.hb_five.2.1,S.hb_five.2.2];refine run ?_;refine J.regionX [(0, .q),(1, .q),(2, .q),(3, .q),(4, .q),(5, .q),(6, .q),(7, .q),(8, .q),(9, .q),(10, .q),(11, .q),(12, .q),(13, .q),(14, .q),(15, .q),(16, .q),(17, .q),(18, .q),(19, .q),(20, .q),(21, .q),(22, .q),(23, .q),(24, .q),(25, .q),(26, .q),(27, .q),(28, .q),(29, .q),(30, .q),(31, .q),(32, .q),(33, .q),(34, .q),(35, .q),(36, .e),(37, .e),(38, .e),(39, .q),(40, .q),(41, .q),(42, .q),(43, .q),(44, .q),(45, .q),(46, .e),(47, .q),(48, .e),(49, .q),(50, .q)] mixed (by kernel_rfl) ?_;refine run ?_;refine J.spe rfl rfl rfl (fun _=>?_) (fun c=>absurd hz1 c);refine run ?_;refine J.callp rfl rfl (fun w' M=>(RW.row' (a:=pa) w' M).elim fun _ k=>ofO S.hbO S.hb_ok _ _ _ k h1 (by rw[S.hb_is.1];decide) (fun h=>by rw[hbk]at h;exact absurd h (by decide))) ?_;refine run ?_;refine J.b1W rfl rfl hA fun bx=>?_
 refine run ?_;refine J.callp rfl rfl (fun w' M=>(RW.row' (a:=z.pa) w' M).elim fun _ k0=>(RW.own' (a:=some ⟨bx,0,none⟩) w' M).elim fun _ k1=>sameIDs _ _ _ _ _ _ _ _ w' k0 k1 (by omega) (by omega)) ?_;rw[show decide (z.o.ids=S.idOf S.hbO)=true from decide_eq_true hz3];refine run ?_;refine J.call rfl rfl (fun w' M=>five24 w') fun q6 _=>?_
 refine run ?_;refine J.callp rfl rfl (fun w' M=>(RW.own' (a:=f.1) w' M).elim fun _ k0=>(RW.own' (a:=some ⟨q6,0,none⟩) w' M).elim fun _ k1=>sameIDs _ _ _ _ _ _ _ _ w' k0 (wTk k1 4 5 (by decide) (by decide)) (by omega) (by omega)) ?_;refine run ?_;exact J.fin rfl
theorem zeroStR(w:World):StR no w StA.zero:=⟨⟨GRow.nil' grC_len,fun g hg=>(by cases hg),WRow.nil,Nat.le_refl _,Nat.le_refl _,Nat.zero_le _,Nat.zero_le _⟩,WRow.nil,⟨Nat.le_refl _,Nat.zero_le _⟩,fun _=>Nat.zero_le _⟩
end W
namespace S
open G
def bnM:Nat→List Int
 |0=>[]
 |k+1=>bnM k++hbI (k:Nat)
theorem bnM_len:∀k,(bnM k).length=32*k
 |0=>rfl
 |k+1=>by rw[bnM,List.length_append,bnM_len k];simp[hbI];omega
theorem bn_many:preE 61 (bnM 61)=4:=preE_4 (by decide)
theorem bn_most:preE 60 ((bnM 61).take 1920)=0∧preN 60 ((bnM 61).take 1920)=4∧preL 60 ((bnM 61).take 1920)=(bnM 61).take 128:=by
 have e:preE 60 ((bnM 61).take 1920)=0:=preE_0 (by decide) (by decide+kernel);refine⟨e,(pre_yes e).1,(pre_yes e).2.trans ?_⟩;rw[List.take_take];rfl
theorem bn_turn:preE 2 (hbI 2++hbI 1)=32:=preE_32 (by decide) (by decide+kernel)
theorem bn_same:preE 2 (hbI 1++hbI 1)=32:=preE_32 (by decide) (by decide+kernel)
/-! the last stamp -/
def bnA:OpV:=⟨0,1000000000000,1,0,0,0,0,0,0,[], .empty, .empty⟩
theorem bn_okA:bnA.ok:=⟨by decide,by decide,by decide,by decide,by decide,by decide,by decide,by decide,by decide,by decide,by decide⟩
theorem bn_signE:signE 5 bnA=0:=signE_zero.2 ⟨by decide,check_zero.2 ⟨(by decide:(0:Nat)≤4),rising_nil,isG_pub 5 (by decide),(by decide:(1000000000000:Int)≤1000000000000),(by decide:(0:Int)<500000003),(by decide:(0:Int)<500000003), .inl ⟨rfl,rfl,rfl,rfl,rfl,rfl⟩⟩⟩
noncomputable def bnO:OpV:=signS 5 bnA
theorem bn_is:bnO.n=0∧bnO.ids=[]∧bnO.st=1000000000000:=by
 unfold bnO;rw[signS_eq bn_signE];exact⟨rfl,rfl,rfl⟩
theorem bn_ok:bnO.ok:=signS_ok 5 bnA bn_okA
theorem bn_ver:verE bnO=0:=(sign_good bn_okA rfl bn_signE).2.2.2.2.2.2
theorem bn_nw:nwT 2 1=⟨2,madeS PG.nil 1,0,[]⟩:=(nwT_0 (by decide)).1
theorem bn_nwE:nwTE 2 1=0:=(nwT_0 (by decide)).2
theorem bn_okT:okT (nwT 2 1)∧StG (nwT 2 1)∧whole (nwT 2 1).sh.ps=PG.nil:=nw_ok (by decide)
theorem bn_jud:judT (nwT 2 1) bnO=1:=by
 rw[bn_nw];refine jud_1 (fun⟨i,hi,_⟩=>absurd hi (Nat.not_lt_zero _)) (fun j hj=>?_) (by decide);rw[bn_is.1]at hj;exact absurd hj (Nat.not_lt_zero _)
noncomputable def bnT:StV:=comT (nwT 2 1) bnO
theorem bnT_of:ofS (nwT 2 1) bnO=bnT∧askE (nwT 2 1) bnO=0:=by
 have e:askE (nwT 2 1) bnO=0:=(askE_v bn_okT.1).trans bn_ver;exact⟨(of_yes e).1.trans (off_1 bn_jud),e⟩
theorem bnT_ok:okT bnT∧StG bnT∧whole bnT.sh.ps=⟨1,idOf bnO,[bnO]⟩:=by
 obtain⟨h1,h2,h3⟩:=com_ok bn_okT.2.1 bn_okT.1 bn_ver bn_jud;rw[bn_okT.2.2,putP_nil0]at h3;exact⟨h1,h2,h3⟩
theorem bnG_fine:(⟨1,idOf bnO,[bnO]⟩:PG).fine:=by
 have h:=(ok_fineT bnT_ok.2.1 bnT_ok.1).fine;rwa[bnT_ok.2.2]at h
theorem bn_of:lstE [bnO]=0∧lstP [bnO]=⟨1,idOf bnO,[bnO]⟩:=lst_perm bnG_fine (List.Perm.refl _)
theorem nxt_last{o:OpV}(h:o.st=1000000000000):nxtS [o]=1000000000001:=by
 show stp 0 o=_;unfold stp;rw[h];decide
theorem bn_nxt:nxtS [bnO]=1000000000001:=nxt_last bn_is.2.2
theorem bn_stm:stmE ⟨1,idOf bnO,[bnO]⟩=16:=stmE_2 ((chkP_fine bnG_fine.good.1).2 bnG_fine) (by rw[show(⟨1,idOf bnO,[bnO]⟩:PG).ops=[bnO]from rfl,bn_nxt];decide)
theorem bn_bad{x:List Int}:stmE ⟨1,x,[]⟩=8:=by
 have e:chkP ⟨1,x,[]⟩=8:=by
  unfold chkP chkG;rw[if_neg (show ¬60<([]:List OpV).length by decide),if_pos (show 1≠([]:List OpV).length by decide)]
 exact(stmE_1 (by rw[e];decide)).1.trans e
/-! what is not built -/
theorem bn_b1:bldR 0 61 (bnM 61) 0 hbN= .no 4:=by
 have e:bldE 0 61 (bnM 61) 0 hbN=4:=(bldE_1 (by rw[bn_many];decide)).trans bn_many;obtain⟨h1,h2,h3⟩:=bld_no (x:=0) (n:=61) (ids:=bnM 61) (st:=0) (o:=hbN) (by rw[e];decide);unfold bldR BdV.no;rw[h1,h2,h3,e]
theorem bn_b1e:(bldR 0 61 (bnM 61) 0 hbN).e=4:=by rw[bn_b1];rfl
theorem sign8{x:Int}{o:OpV}(hx:0<x∧x<500000003)(hn:o.n=0)(h:¬(1000000000000≥o.st∧FineAct o.k o.key o.vk o.num o.bits o.t)):signE x o=8:=by
 unfold signE;rw[if_pos (secE_zero.2 hx)];exact(check8 (o:=(o.wit x).bare) (by show ¬4<o.n;omega) (by show Rising o.n o.ids;rw[hn];exact fun j hj=>absurd hj (by omega)) fun h2=>h ⟨h2.2.1,h2.2.2.2.2⟩).symm
theorem bn_b2:(bldR 5 0 [] 1000000000001 hbN).e=8:=by
 show bldE 5 0 [] 1000000000001 hbN=8;exact(bldE_2 hb_nil.1).trans (sign8 (by decide) (by show preN 0 []=0;exact hb_nil.2.1) fun h=>absurd h.1 (by show ¬(1000000000000:Int)≥1000000000001;decide))
theorem bn_b3{n:Nat}{ids:List Int}{st:Int}(hp:preE n ids=0)(hn:preN n ids=0):(bldR 5 n ids st OpV.zero).e=8:=by
 show bldE 5 n ids st OpV.zero=8;exact(bldE_2 hp).trans (sign8 (by decide) hn fun h=>absurd h.2 (by show ¬FineAct 0 .empty 0 0 0 .empty;decide))
theorem bn_b4 : (bldR 0 0 [] 0 hbN).e = 2 ∧ signE 0 hbN = 2 := ⟨by
 show bldE 0 0 [] 0 hbN = 2
 exact (bldE_2 hb_nil.1).trans rfl, rfl⟩
/-! what is not written -/
theorem bn_w1:(wrtR bnT 5 hbN).e=16:=by
 have e:stmE (whole bnT.sh.ps)=16:=by rw[bnT_ok.2.2];exact bn_stm
 rw[wrt_s bnT_ok.1 (by rw[e];decide)];exact e
theorem bn_w2:(wrtR StV.zero 5 hbN).e=8:=by
 rw[wrt_8 fun h=>absurd h.1.1.1 (by decide)];rfl
theorem bn_w3:(wrtR (nwT 2 1) 5 OpV.zero).e=8:=by
 have hw:=bn_okT.2.2;rw[wrt_0 bn_okT.1 (by rw[hw];exact hb_stm0.1),hw];have h0:hdN PG.nil=0:=Nat.le_zero.1 (numF_le _ _);have h1:(hdI PG.nil)=[]:=List.eq_nil_of_length_eq_zero (by rw[(hd_all nil_fine).1,h0]);rw[h0,h1];exact bn_b3 hb_nil.1 hb_nil.2.1
end S
namespace G
open Go.RowKit
theorem rs_mono{P:Program}{ops:Array Oper}{K K':List Value→World→Prop}(hk:∀l w,K l w→K' l w):∀(os:List Oper) (l:List Value) (w:World),RS P ops K os l w→RS P ops K' os l w
 |[],l,w,h=>by
  unfold RS at h⊢;exact hk l w h
 |o::rest,l,w,h=>by
  unfold RS at h⊢;split at h
  ·rename_i c;rw[if_pos c];unfold Oper.wp at h⊢;exact upon_mono (fun a w ⟨l',e,h⟩=>⟨l',e,rs_mono hk rest l' w h⟩) (fun _ _ _ h=>h) h
  ·rename_i c;rw[if_neg c];exact rs_mono hk rest _ w h
/-! ### parts in another order -/
theorem Sep.perm{E E':List Ent}(h:E.Perm E'):∀ {U:Nat→Prop} {w:World},Sep E U w→Sep E' U w:=by
 induction h with
 |nil=>exact fun h=>h
 |cons x _ ih=>exact fun⟨S,T,h1,h2,h3,h4,h5⟩=>⟨S,T,h1,h2,h3,h4,ih h5⟩
 |swap x y l=>
  rintro U w ⟨S1,T1,a1,a2,a3,a4,S2,T2,b1,b2,b3,b4,b5⟩;exact⟨S2,fun b=>S1 b∨T2 b,fun b hb=>a2 b (b1 b hb),fun b hb=>hb.elim (a1 b) (fun k=>a2 b (b2 b k)),fun b hb hc=>hc.elim (fun k=>a3 b k (b1 b hb)) (b3 b hb),b4,S1,T2,fun b hb=> .inl hb,fun b hb=> .inr hb,fun b hb hc=>a3 b hb (b2 b hc),a4,b5⟩
 |trans _ _ ih1 ih2=>exact fun h=>ih2 (ih1 h)
theorem Sep.parts:∀ {E L:List Ent} {U:Nat→Prop} {w:World},Sep (E++L) U w→∃S T:Nat→Prop,(∀b,S b→U b)∧(∀b,T b→U b)∧(∀b,S b→T b→False)∧Sep E S w∧Sep L T w
 |[],L,U,w,h=>⟨no,U,fun _ h=>h.elim,fun _ h=>h,fun _ h=>h.elim,trivial,h⟩
 |e::E,L,U,w,⟨A,B,h1,h2,h3,h4,h5⟩=>by
  obtain⟨S,T,g1,g2,g3,g4,g5⟩:=Sep.parts h5;exact⟨fun b=>A b∨S b,T,fun b hb=>hb.elim (h1 b) (fun k=>h2 b (g1 b k)),fun b hb=>h2 b (g2 b hb),fun b hb hc=>hb.elim (fun k=>h3 b k (g2 b hc)) (fun k=>g3 b k hc),⟨A,S,fun b hb=> .inl hb,fun b hb=> .inr hb,fun b hb hc=>h3 b hb (g1 b hc),h4,g4⟩,g5⟩
theorem Sep.pack{E V L:List Ent}{U:Nat→Prop}{w:World}(h:Sep (E++(V++L)) U w):Sep (E++ .all V::L) U w:=by
 obtain⟨S,T,h1,h2,h3,h4,h5⟩:=h.parts;obtain⟨S2,T2,g1,g2,g3,g4,g5⟩:=h5.parts;exact Sep.app (T:=T) h4 ⟨S2,T2,g1,g2,g3,(show(Ent.all V).ok S2 w by unfold Ent.all;exact g4),g5⟩ h1 h2 h3
theorem Sep.unpack{E V L:List Ent}{U:Nat→Prop}{w:World}(h:Sep (E++ .all V::L) U w):Sep (E++(V++L)) U w:=by
 obtain⟨S,T,h1,h2,h3,h4,h5⟩:=h.parts;obtain⟨S2,T2,g1,g2,g3,g4,g5⟩:=h5;exact Sep.app (T:=T) h4 (Sep.app (show Sep V S2 w by unfold Ent.all at g4;exact g4) g5 g1 g2 g3) h1 h2 h3
theorem Mem.perm{S0:Nat→Prop}{w0 w:World}{L L':List Ent}(M:Mem S0 w0 L w)(h:L.Perm L'):Mem S0 w0 L' w:=⟨M.pr,M.sep.perm h⟩
/-! ### what is said of each operation -/
structure Cl(δ:Type) where
 dst:Option Nat
 val:(Nat→δ)→Value
 own:(Nat→δ)→List Ent
 p:(Nat→δ)→Prop
 dep:List Nat
 use:List Nat
 eat:List Nat
def hasN(l:List Nat)(j:Nat):Bool:=l.any (Nat.beq j)
theorem hasN_iff{l:List Nat}{j:Nat}:hasN l j=true↔j∈l:=by
 unfold hasN;rw[List.any_eq_true];exact⟨fun⟨x,h1,h2⟩=>Nat.eq_of_beq_eq_true h2▸h1,fun h=>⟨j,h,Nat.beq_refl j⟩⟩
section
variable{δ:Type}
def msk(i:Nat)(dep:List Nat)(c:Nat→δ):Nat→δ:=fun j=>cond (Nat.beq j i||hasN dep j) (c j) (c i)
theorem msk_eq{i:Nat}{dep:List Nat}{c c':Nat→δ}(h0:c i=c' i)(h:∀j∈dep,c j=c' j):msk i dep c=msk i dep c':=by
 funext j;unfold msk;cases e:(Nat.beq j i||hasN dep j)
 ·exact h0
 ·rw[Bool.or_eq_true]at e;rcases e with e|e
  ·obtain rfl:=Nat.eq_of_beq_eq_true e;exact h0
  ·exact h j (hasN_iff.1 e)
def put(c:Nat→δ)(i:Nat)(x:δ):Nat→δ:=fun j=>cond (Nat.beq j i) x (c j)
theorem put_ne{c:Nat→δ}{i j:Nat}{x:δ}(h:j≠i):put c i x j=c j:=by
 unfold put;cases e:Nat.beq j i
 ·rfl
 ·exact absurd (Nat.eq_of_beq_eq_true e) h
variable(T:List (Cl δ))
def clAt(i:Nat):Cl δ:=T.getD i ⟨none,fun _=>undef,fun _=>[],fun _=>True,[],[],[]⟩
def clV(i:Nat)(c:Nat→δ):Value:=(clAt T i).val (msk i (clAt T i).dep c)
def clO(i:Nat)(c:Nat→δ):List Ent:=(clAt T i).own (msk i (clAt T i).dep c)
def clP(i:Nat)(c:Nat→δ):Prop:=(clAt T i).p (msk i (clAt T i).dep c)
def dstD:List Nat:=T.filterMap Cl.dst
def depD(i:Nat):List Nat:=(clAt T i).dep.filterMap fun j=>(clAt T j).dst
def useF(i:Nat)(c:Nat→δ):List Ent:=((List.range T.length).filter fun j=>hasN (clAt T i).use j).flatMap fun j=>clO T j c
def keepF(i:Nat)(c:Nat→δ):List Ent:=((List.range T.length).filter fun j=>hasN (clAt T i).use j&& !hasN (clAt T i).eat j).flatMap fun j=>clO T j c
def MF(i:Nat)(c:Nat→δ):List (Nat×Value):=(clAt T i).dep.filterMap fun j=>(clAt T j).dst.map fun d=>(d,clV T j c)
def JF(i:Nat):List Nat:=(dstD T).filter fun d=> !hasN (depD T i) d
def frF(lb:List Value)(i:Nat)(c:Nat→δ)(v:Nat→Value):List Value:=upd (upd lb (MF T i c)) (junk (JF T i) v)
def OutF(S0:Nat→Prop)(w0:World)(L:List Ent)(i:Nat)(F:Ent)(c:Nat→δ)(l l':List Value)(w':World):Prop:=∃x,clP T i (put c i x)∧l'=putL (clAt T i).dst (clV T i (put c i x)) l∧Mem S0 w0 (clO T i (put c i x)++(keepF T i c++F::L)) w'
def stepF(S0:Nat→Prop)(w0:World)(L:List Ent)(P:Program)(l0:List Oper)(lb:List Value)(i:Nat):Prop:=∀(F:Ent) (c:Nat→δ) (v:Nat→Value),(∀j∈(clAt T i).dep,clP T j c)→J S0 w0 (useF T i c++F::L) (RY S0 w0 .s P l0.toArray (OutF T S0 w0 L i F c (frF T lb i c v)) [(nth l0 i, .e)] (frF T lb i c v))
def stepsF(S0:Nat→Prop)(w0:World)(L:List Ent)(P:Program)(l0:List Oper)(lb:List Value):List Nat→Prop
 |[]=>True
 |i::r=>stepF T S0 w0 L P l0 lb i∧stepsF S0 w0 L P l0 lb r
def dn(n:Nat)(li:Array Bool)(j:Nat):Bool:=li.getD j false||Nat.ble n j
def slF(c:Nat→δ):List (Nat×Value):=(List.range T.length).filterMap fun j=>(clAt T j).dst.map fun d=>(d,clV T j c)
def endF(c:Nat→δ):List Ent:=((List.range T.length).filter fun j=> !(List.range T.length).any fun k=>hasN (clAt T k).eat j).flatMap fun j=>clO T j c
def allF(c:Nat→δ):List Nat→Prop
 |[]=>True
 |i::r=>clP T i c∧allF c r
def checkF(l0:List Oper)(n:Nat):Bool:=
 Nat.ble l0.length T.length && (((List.range T.length).all fun i => Nat.blt i l0.length || ((clAt T i).dst.isNone && ((clAt T i).dep.isEmpty && (clAt T i).eat.isEmpty))) && ((List.range l0.length).all fun i => (nth l0 i).dst == (clAt T i).dst && ((nth l0 i).guard.isNone && (((nth l0 i).after.all fun e => !Region.binds .any e || Nat.blt e.on i) &&
  (((clAt T i).dep.all fun j => Nat.blt j T.length && (hasN (ancL l0.toArray 5000 (depsL l0.toArray i) []) j || Nat.ble l0.length j)) && (((clAt T i).use.all fun j => hasN (clAt T i).dep j) && (((clAt T i).eat.all fun j => hasN (clAt T i).use j) &&
  ((List.range l0.length).all fun k => Nat.beq k i || (!((clAt T k).eat.any fun j => hasN (clAt T i).use j) || hasN (ancL l0.toArray 5000 (depsL l0.toArray k) []) i))))))))) && (decide (dstD T).Nodup && (dstD T).all fun d => Nat.blt d n)
variable{T}
theorem stepsF_mem{S0:Nat→Prop}{w0:World}{L:List Ent}{P:Program}{l0:List Oper}{lb:List Value}:∀ {is:List Nat},stepsF T S0 w0 L P l0 lb is→∀i∈is,stepF T S0 w0 L P l0 lb i
 |[],_,i,hi=>by cases hi
 |j::r,h,i,hi=>by
  rcases List.mem_cons.1 hi with rfl|hi
  ·exact h.1
  ·exact stepsF_mem h.2 i hi
theorem allF_of{c:Nat→δ}:∀ {is:List Nat},(∀i∈is,clP T i c)→allF T c is
 |[],_=>trivial
 |i::r,h=>⟨h i (List.mem_cons_self ..),allF_of fun j hj=>h j (List.mem_cons_of_mem _ hj)⟩
theorem FF_same{l lb:List Value}(ds:List Nat)(hl:l.length=lb.length)(h:∀s,s∉ds→l[s]? =lb[s]?):FF lb ds (fun s=>l.getD s undef)=l:=by
 apply List.ext_getElem?;intro s;rw[FF_get];by_cases c:s∈ds∧s<lb.length
 ·rw[if_pos c,List.getD_eq_getElem?_getD,List.getElem?_eq_getElem (by omega)];rfl
 ·rw[if_neg c];by_cases k:s∈ds
  ·have:¬s<lb.length:=fun h=>c ⟨k,h⟩;rw[List.getElem?_eq_none (by omega),List.getElem?_eq_none (by omega)]
  ·exact(h s k).symm
theorem fmap_slots{l:List Value}{c:Nat→δ}:∀(js:List Nat),(∀j∈js,∀d,(clAt T j).dst=some d→l.getD d undef=clV T j c)→(js.filterMap fun j=>(clAt T j).dst.map fun d=>(d,clV T j c))=(js.filterMap fun j=>(clAt T j).dst).map fun d=>(d,l.getD d undef)
 |[],_=>rfl
 |j::r,h=>by
  have ih:=fmap_slots r fun k hk=>h k (List.mem_cons_of_mem _ hk);cases e:(clAt T j).dst with
  |none=>rw[List.filterMap_cons_none (f:=fun j=>(clAt T j).dst.map fun d=>(d,clV T j c)) (by rw[e];rfl),List.filterMap_cons_none (f:=fun j=>(clAt T j).dst) e,ih]
  |some d=>rw[List.filterMap_cons_some (f:=fun j=>(clAt T j).dst.map fun d=>(d,clV T j c)) (by rw[e];rfl),List.filterMap_cons_some (f:=fun j=>(clAt T j).dst) e,ih,List.map_cons,h j (List.mem_cons_self ..) d e]
structure OkF(T:List (Cl δ))(S0:Nat→Prop)(w0:World)(L:List Ent)(l0:List Oper)(lb:List Value)(li:Array Bool)(c:Nat→δ)(l:List Value)(w:World):Prop where
 sz:li.size=l0.length
 cl:Closed l0.toArray li
 len:l.length=lb.length
 out:∀s,s∉dstD T→l[s]? =lb[s]?
 val:∀i,i<T.length→dn l0.length li i=true→∀d,(clAt T i).dst=some d→l.getD d undef=clV T i c
 p:∀i,i<T.length→dn l0.length li i=true→clP T i c
 mem:Mem S0 w0 (((List.range T.length).filter fun j=>dn l0.length li j&& !(List.range T.length).any fun k=>dn l0.length li k&&hasN (clAt T k).eat j).flatMap (fun j=>clO T j c)++L) w
theorem nodupF{n:Nat}(f:Nat→Bool):((List.range n).filter f).Nodup:=List.Pairwise.filter _ List.nodup_range
theorem flat_congr{α β:Type}{f g:α→List β}:∀ {l:List α},(∀x∈l,f x=g x)→l.flatMap f=l.flatMap g
 |[],_=>rfl
 |x::l,h=>by rw[List.flatMap_cons,List.flatMap_cons,h x (List.mem_cons_self ..),flat_congr fun y hy=>h y (List.mem_cons_of_mem _ hy)]
theorem anyF{S0:Nat→Prop}{w0:World}{L:List Ent}{P:Program}{l0:List Oper}{lb:List Value}{Q:Act→World→Prop}(hB:checkF T l0 lb.length=true)(hst:∀i,i<l0.length→stepF T S0 w0 L P l0 lb i)
  (hend:∀c w,(∀i,i<T.length→clP T i c)→Mem S0 w0 (endF T c++L) w→Q (fr (upd lb (slF T c))) w):
  ∀(n:Nat) (li:Array Bool) (c:Nat→δ) (l:List Value) (w:World),cntU l0.length li=n→OkF T S0 w0 L l0 lb li c l w→wpX P l0.toArray (fun _ _=>True) [] Q n li (fr l) w:=by
 simp only[checkF,Bool.and_eq_true,decide_eq_true_eq]at hB;obtain⟨⟨hN,hvt,hall⟩,hnd,hdl⟩:=hB;have hN:l0.length≤T.length:=Nat.le_of_ble_eq_true hN;have virt:∀i,l0.length≤i→i<T.length→(clAt T i).dst=none∧(clAt T i).dep=[]∧(clAt T i).eat=[]:=fun i h1 h2=>by
  have:=List.all_eq_true.1 hvt i (List.mem_range.2 h2);simp only[Bool.or_eq_true,Bool.and_eq_true,Option.isNone_iff_eq_none,List.isEmpty_iff]at this;rcases this with h|h
  ·rw[Nat.blt_eq]at h;omega
  ·exact h
 have dn_lt:∀ {li:Array Bool} {j:Nat},j<l0.length→dn l0.length li j=li.getD j false:=fun {li j} h=>by
  unfold dn;have:Nat.ble l0.length j=false:=by rw[Bool.eq_false_iff];intro e;have:=Nat.le_of_ble_eq_true e;omega
  rw[this,Bool.or_false]
 have dn_ge:∀ {li:Array Bool} {j:Nat},l0.length≤j→dn l0.length li j=true:=fun {li j} h=>by
  unfold dn;rw[Nat.ble_eq_true_of_le h,Bool.or_true]
 have one:∀i,i<l0.length→(nth l0 i).dst=(clAt T i).dst∧(nth l0 i).guard=none∧(∀e∈(nth l0 i).after,Region.binds .any e=true→e.on<i)∧(∀j∈(clAt T i).dep,j<T.length∧(j∈ancL l0.toArray 5000 (depsL l0.toArray i) []∨l0.length≤j))∧(∀j∈(clAt T i).use,j∈(clAt T i).dep)∧(∀j∈(clAt T i).eat,j∈(clAt T i).use)∧(∀k,k<l0.length→k≠i→∀j∈(clAt T k).eat,j∈(clAt T i).use→i∈ancL l0.toArray 5000 (depsL l0.toArray k) []):=by
  intro i hi;have:=List.all_eq_true.1 hall i (List.mem_range.2 hi);simp only[Bool.and_eq_true,beq_iff_eq,Option.isNone_iff_eq_none,List.all_eq_true,Array.all_eq_true_iff_forall_mem,Bool.or_eq_true,Bool.not_eq_true',hasN_iff,List.mem_range]at this;obtain⟨h1,h2,h3,h4,h5,h6,h7⟩:=this;refine⟨h1,h2,fun e he hb=>?_,fun j hj=>?_,h5,h6,fun k hk hne j hj hu=>?_⟩
  ·rcases h3 e he with h|h
   ·rw[hb]at h;cases h
   ·rwa[Nat.blt_eq]at h
  ·have:=h4 j hj;rw[Nat.blt_eq]at this;exact⟨this.1,this.2.imp_right Nat.le_of_ble_eq_true⟩
  ·rcases h7 k hk with h|h|h
   ·exact absurd (Nat.eq_of_beq_eq_true h) hne
   ·have:=List.any_eq_false.1 h j hj;exact absurd (hasN_iff.2 hu) this
   ·exact h
 have ancD:∀ {li:Array Bool},Closed l0.toArray li→∀k,k<l0.length→li.getD k false=true→∀j∈ancL l0.toArray 5000 (depsL l0.toArray k) [],li.getD j false=true:=fun hc k hk hl j hj=>by
  refine ancL_spec hc 5000 (depsL l0.toArray k) [] (fun q hq=>?_) (fun q hq=>by cases hq) j hj;unfold depsL at hq;rw[nth_mem_range hk]at hq;obtain⟨e,he,rfl⟩:=List.mem_map.1 hq;rw[List.mem_filter]at he;exact hc k _ (nth_mem_range hk) hl e (by simpa using he.1) he.2
 have dmem:∀i d,i<T.length→(clAt T i).dst=some d→d∈dstD T:=fun i d hi hd=>by
  unfold dstD;refine List.mem_filterMap.2 ⟨clAt T i,?_,hd⟩;unfold clAt;rw[List.getD_eq_getElem?_getD,List.getElem?_eq_getElem (by omega)];exact List.getElem_mem _
 have dinj:∀i j d,i<T.length→j<T.length→(clAt T i).dst=some d→(clAt T j).dst=some d→i=j:=fun i j d hi hj h1 h2=>by
  have e1:clAt T i=T[i]'(by omega):=by unfold clAt;rw[List.getD_eq_getElem?_getD,List.getElem?_eq_getElem (by omega)];rfl
  have e2:clAt T j=T[j]'(by omega):=by unfold clAt;rw[List.getD_eq_getElem?_getD,List.getElem?_eq_getElem (by omega)];rfl
  rw[e1]at h1;rw[e2]at h2;have hp:=hnd;unfold dstD at hp;rw[List.Nodup,List.pairwise_filterMap]at hp;rcases Nat.lt_trichotomy i j with c|c|c
  ·exact absurd rfl (List.pairwise_iff_getElem.1 hp i j (by omega) (by omega) c d h1 d h2)
  ·exact c
  ·exact absurd rfl (List.pairwise_iff_getElem.1 hp j i (by omega) (by omega) c d h2 d h1)
 intro n
 induction n with
 |zero=>
  intro li c l w hc H;have hall:∀i,i<l0.length→li.getD i false=true:=by
   intro i hi;have:=List.countP_eq_zero.1 hc i (by simpa using hi);simpa using this
  have hdn:∀i,dn l0.length li i=true:=fun i=>by
   rcases Nat.lt_or_ge i l0.length with h|h
   ·rw[dn_lt h];exact hall i h
   ·exact dn_ge h
  refine⟨?_,?_⟩
  ·cases hr:Region.ready .any l0.toArray li with
   |nil=>rfl
   |cons j r=>
    obtain⟨hj0,oj,hoj,_⟩:=mem_ready.1 (show j∈Region.ready .any l0.toArray li by rw[hr];exact List.mem_cons_self ..);have hjn:j<l0.length:=by simpa using(Array.getElem?_eq_some_iff.1 hoj).1
    have h1:=hall j hjn;have hlt:j<li.size:=by rw[H.sz];exact hjn
    simp[hlt]at hj0 h1;rw[h1]at hj0;cases hj0
  ·have e:l=upd lb (slF T c):=by
    have h1:=FF_same (dstD T) H.len H.out;unfold FF at h1;rw[←h1];congr 1;unfold slF;rw[fmap_slots (l:=l) _ fun j hj d hd=>H.val j (List.mem_range.1 hj) (hdn j) d hd];congr 1;unfold dstD clAt;have:∀(T:List (Cl δ)),T.filterMap Cl.dst=(List.range T.length).filterMap fun j=>(T.getD j ⟨none,fun _=>undef,fun _=>[],fun _=>True,[],[],[]⟩).dst:=fun T=>by
     have h2:T=(List.range T.length).map fun j=>T.getD j ⟨none,fun _=>undef,fun _=>[],fun _=>True,[],[],[]⟩:=by
      apply List.ext_getElem
      ·simp
      ·intro i h1 h2;simp[h1]
     conv=>lhs;rw[h2]
     rw[List.filterMap_map];rfl
    exact this T
   rw[e];refine hend c w (fun i hi=>H.p i hi (hdn i)) ?_;have hm:=H.mem;refine cast (congrArg (fun x=>Mem S0 w0 (x++L) w) ?_) hm;unfold endF;refine congrArg (fun q=>List.flatMap _ q) (List.filter_congr fun j hj=>?_);rw[hdn j,Bool.true_and];congr 1;rw[Bool.eq_iff_iff,List.any_eq_true,List.any_eq_true];constructor
   ·rintro⟨k,hk,h⟩;rw[Bool.and_eq_true]at h;exact⟨k,hk,h.2⟩
   ·rintro⟨k,hk,h⟩;exact⟨k,hk,by rw[hdn k,h];rfl⟩
 |succ n ih=>
  intro li c l w hc H;refine⟨fun h0=>?_,fun i hi=>?_⟩
  ·exfalso;have hex:∃s,s<l0.length∧li.getD s false=false:=by
    have hp:0<(List.range l0.length).countP fun i=> !li.getD i false:=by unfold cntU at hc;omega
    obtain⟨s,hs,h⟩:=List.countP_pos_iff.1 hp;exact⟨s,by simpa using hs,by simpa using h⟩
   obtain⟨s,hs,hmin⟩:∃s,(s<l0.length∧li.getD s false=false)∧∀t,t<s→li.getD t false=true:=by
    obtain⟨s,hs⟩:=hex
    induction s using Nat.strongRecOn with
    |_ s ihs=>
     by_cases h:∃t,t<s∧li.getD t false=false
     ·obtain⟨t,ht,hf⟩:=h;exact ihs t ht ⟨by omega,hf⟩
     ·refine⟨s,hs,fun t ht=>?_⟩;cases hb:li.getD t false
      ·exact absurd ⟨t,ht,hb⟩ h
      ·rfl
   have:s∈Region.ready .any l0.toArray li:=by
    refine mem_ready.2 ⟨?_,nth l0 s,nth_mem_range hs.1,fun e he hb=>hmin _ ((one s hs.1).2.2.1 e he hb)⟩;have:=hs.2;have hlt:s<li.size:=by rw[H.sz];exact hs.1
    simp[hlt]at this⊢;exact this
   rw[h0]at this;cases this
  ·obtain⟨hi0,oi,hoi,hia⟩:=mem_ready.1 hi;have him:i<l0.length:=by simpa using(Array.getElem?_eq_some_iff.1 hoi).1
   rw[nth_mem_range him]at hoi;obtain rfl:=Option.some.inj hoi;obtain⟨o1,o2,o3,o4,o5,o6,o7⟩:=one i him;have hif:li.getD i false=false:=by
    have hlt:i<li.size:=by rw[H.sz];exact him
    simp[hlt]at hi0⊢;exact hi0
   have hni:dn l0.length li i=false:=by rw[dn_lt him];exact hif
   have hdone:∀j∈(clAt T i).dep,dn l0.length li j=true:=fun j hj=>by
    rcases(o4 j hj).2 with h|h
    ·have := ancL_spec H.cl 5000 (depsL l0.toArray i) [] (fun q hq => by
      unfold depsL at hq
      rw [nth_mem_range him] at hq
      obtain ⟨e, he, rfl⟩ := List.mem_map.1 hq
      rw [List.mem_filter] at he
      exact hia e (by simpa using he.1) he.2) (fun q hq => by cases hq) j h
     unfold dn;rw[this];rfl
    ·exact dn_ge h
   have huse:∀j∈(clAt T i).use,(dn l0.length li j&& !(List.range T.length).any fun k=>dn l0.length li k&&hasN (clAt T k).eat j)=true:=fun j hj=>by
    rw[hdone j (o5 j hj),Bool.true_and,Bool.not_eq_true',List.any_eq_false];intro k hk h;rw[Bool.and_eq_true,hasN_iff]at h;have hkn:k<l0.length:=by
     rcases Nat.lt_or_ge k l0.length with c|c
     ·exact c
     ·rw[(virt k c (List.mem_range.1 hk)).2.2]at h;exact absurd h.2 (List.not_mem_nil)
    have hne:k≠i:=fun e=>by rw[e,hni]at h;cases h.1
    rw[dn_lt hkn]at h;have:=ancD H.cl k hkn h.1 i (o7 k hkn hne j h.2 hj);rw[hif]at this;cases this
   -- the others
   obtain⟨V,hV⟩:∃V:List Nat,V=(List.range T.length).filter fun j=>(dn l0.length li j&& !(List.range T.length).any fun k=>dn l0.length li k&&hasN (clAt T k).eat j)&& !hasN (clAt T i).use j:=⟨_,rfl⟩
   have hVn:V.Nodup:=hV▸nodupF _;have hVm:∀j,j∈V↔j<T.length∧(dn l0.length li j&& !(List.range T.length).any fun k=>dn l0.length li k&&hasN (clAt T k).eat j)=true∧j∉(clAt T i).use:=fun j=>by
    rw[hV,List.mem_filter,List.mem_range,Bool.and_eq_true,Bool.not_eq_true',←Bool.not_eq_true,hasN_iff]
   have hperm:((List.range T.length).filter fun j=>dn l0.length li j&& !(List.range T.length).any fun k=>dn l0.length li k&&hasN (clAt T k).eat j).Perm (((List.range T.length).filter fun j=>hasN (clAt T i).use j)++V):=by
    refine(List.perm_ext_iff_of_nodup (nodupF _) (List.nodup_append.2 ⟨nodupF _,hVn,fun a ha b hb e=>?_⟩)).2 fun a=>?_
    ·subst e;rw[List.mem_filter,hasN_iff]at ha;exact((hVm a).1 hb).2.2 ha.2
    ·rw[List.mem_append,hVm,List.mem_filter,List.mem_filter,List.mem_range,hasN_iff];constructor
     ·rintro⟨h1,h2⟩;by_cases hu:a∈(clAt T i).use
      ·exact .inl ⟨h1,hu⟩
      ·exact .inr ⟨h1,h2,hu⟩
     ·rintro(⟨h1,h2⟩|⟨h1,h2,_⟩)
      ·exact⟨h1,huse a h2⟩
      ·exact⟨h1,h2⟩
   have M1:Mem S0 w0 (useF T i c++ .all (V.flatMap fun j=>clO T j c)::L) w:=by
    have h1:=H.mem.perm ((hperm.flatMap_right fun j=>clO T j c).append_right L);rw[List.flatMap_append,List.append_assoc]at h1;exact⟨h1.pr,h1.sep.pack⟩
   have hfr:frF T lb i c (fun s=>l.getD s undef)=l:=by
    have e1:MF T i c=(depD T i).map fun d=>(d,l.getD d undef):=fmap_slots (l:=l) _ fun j hj d hd=>H.val j (o4 j hj).1 (hdone j hj) d hd;unfold frF junk;rw[e1];have e2:upd (upd lb ((depD T i).map fun d=>(d,l.getD d undef))) ((JF T i).map fun d=>(d,l.getD d undef))=FF (FF lb (depD T i) fun d=>l.getD d undef) (JF T i) fun d=>l.getD d undef:=rfl;rw[e2];refine FF_same (lb:=FF lb (depD T i) fun d=>l.getD d undef) (JF T i) (by rw[FF_len];exact H.len) fun s hs=>?_
    rw[FF_get];by_cases hsd:s∈depD T i∧s<lb.length
    ·rw[if_pos hsd,List.getD_eq_getElem?_getD,List.getElem?_eq_getElem (by rw[H.len];exact hsd.2)];rfl
    ·rw[if_neg hsd];by_cases hsl:s<lb.length
     ·refine H.out s fun hd=>hs ?_;unfold JF;rw[List.mem_filter,Bool.not_eq_true',←Bool.not_eq_true,hasN_iff];exact⟨hd,fun h=>hsd ⟨h,hsl⟩⟩
     ·rw[List.getElem?_eq_none (by have:=H.len;omega),List.getElem?_eq_none (by omega)]
   have hk:=hst i him (.all (V.flatMap fun j=>clO T j c)) c (fun s=>l.getD s undef) (fun j hj=>H.p j (o4 j hj).1 (hdone j hj)) w M1;rw[hfr]at hk;have hk:RS P l0.toArray (OutF T S0 w0 L i (.all (V.flatMap fun j=>clO T j c)) c l) [nth l0 i] l w:=hk;unfold RS at hk;unfold xOp;rw[nth_mem_range him];have hwn:Region.wanted (nth l0 i) (yielded l0.toArray (fr l).tmps)=true:=by simp[Region.wanted,o2]
   simp only[hwn,if_true];rw[if_pos (by simp[Region.wanted,o2])]at hk;unfold Oper.wp at hk⊢;refine upon_mono ?_ (fun _ _ _ h=>h) hk;rintro a' w' ⟨l',rfl,hO⟩;refine⟨fun _=>trivial,?_⟩;have hO:OutF T S0 w0 L i (.all (V.flatMap fun j=>clO T j c)) c l l' w':=hO;obtain⟨x,hp,rfl,hM⟩:=hO;have same:∀j,j<T.length→dn l0.length li j=true→msk j (clAt T j).dep (put c i x)=msk j (clAt T j).dep c:=fun j hjt hj=>by
    have hne:j≠i:=fun e=>by rw[e,hni]at hj;cases hj
    refine msk_eq (put_ne hne) fun q hq=>put_ne fun e=>?_
    rcases Nat.lt_or_ge j l0.length with c|c
    ·rw[dn_lt c]at hj;rcases((one j c).2.2.2.1 q hq).2 with h|h
     ·have:=ancD H.cl j c hj q h;rw[e,hif]at this;cases this
     ·omega
    ·rw[(virt j c hjt).2.1]at hq;cases hq
   have hg:∀j,dn l0.length (li.setIfInBounds i true) j=true↔j=i∨dn l0.length li j=true:=fun j=>by
    by_cases e:j=i
    ·subst e;have hlt:j<li.size:=by rw[H.sz];exact him
     rw[dn_lt him];simp[hlt]
    ·unfold dn;rw[getD_set_ne false (Ne.symm e)];simp[e]
   refine ih _ (put c i x) _ w' ?_ ⟨by simp[H.sz],H.cl.set hi,?_,?_,?_,?_,?_⟩
   ·have:=countP_set l0.length li i him (by rw[H.sz];exact him) hif;omega
   ·unfold putL;split
    ·rw[List.length_set];exact H.len
    ·exact H.len
   ·intro s hs;unfold putL;split
    ·rename_i d hd;rw[List.getElem?_set_ne (fun e=>hs (by rw[←e];exact dmem i d (by omega) hd))];exact H.out s hs
    ·exact H.out s hs
   ·intro j hj hl d hd;rcases(hg j).1 hl with rfl|hl
    ·rw[hd];have hdn:d<lb.length:=by
      have:=List.all_eq_true.1 hdl d (dmem j d hj hd);rwa[Nat.blt_eq]at this
     show(l.set d _).getD d undef=_;rw[List.getD_eq_getElem?_getD,List.getElem?_set,if_pos rfl,if_pos (by rw[H.len];exact hdn)];rfl
    ·have hne:j≠i:=fun e=>by rw[e,hni]at hl;cases hl
     have h1:=H.val j hj hl d hd;have h2:clV T j (put c i x)=clV T j c:=by unfold clV;rw[same j hj hl]
     rw[h2,←h1];unfold putL;split
     ·rename_i d' hd';rw[List.getD_eq_getElem?_getD,List.getElem?_set_ne (fun e=>hne (dinj j i d hj (by omega) hd (by rw[hd',e]))),←List.getD_eq_getElem?_getD]
     ·rfl
   ·intro j hj hl;rcases(hg j).1 hl with rfl|hl
    ·exact hp
    ·have h1:=H.p j hj hl;unfold clP at h1⊢;rwa[same j hj hl]
   ·have hM2:Mem S0 w0 (clO T i (put c i x)++(keepF T i c++(V.flatMap (fun j=>clO T j c)++L))) w':=by
     have h1:=hM.sep;rw[←List.append_assoc]at h1;have h2:=h1.unpack;rw[List.append_assoc]at h2;exact⟨hM.pr,h2⟩
    have e1:keepF T i c=keepF T i (put c i x):=by
     unfold keepF;refine flat_congr fun j hj=>?_
     rw[List.mem_filter,Bool.and_eq_true,hasN_iff]at hj;unfold clO;rw[same j (List.mem_range.1 hj.1) (hdone j (o5 j hj.2.1))]
    have e2:V.flatMap (fun j=>clO T j c)=V.flatMap fun j=>clO T j (put c i x):=flat_congr fun j hj=>by
     have:=((hVm j).1 hj).2.1;rw[Bool.and_eq_true]at this;unfold clO;rw[same j ((hVm j).1 hj).1 this.1]
    rw[e1,e2]at hM2;unfold keepF at hM2;rw[←List.append_assoc,←List.append_assoc]at hM2;refine hM2.perm (List.Perm.append_right L ?_);have e3:clO T i (put c i x)=[i].flatMap fun j=>clO T j (put c i x):=by simp
    rw[e3,←List.flatMap_append,←List.flatMap_append];refine List.Perm.flatMap_right _ ?_;have live:∀a,a≠i→((dn l0.length (li.setIfInBounds i true) a&& !(List.range T.length).any fun k=>dn l0.length (li.setIfInBounds i true) k&&hasN (clAt T k).eat a)=true↔(dn l0.length li a&& !(List.range T.length).any fun k=>dn l0.length li k&&hasN (clAt T k).eat a)=true∧a∉(clAt T i).eat):=fun a ha=>by
     rw[Bool.and_eq_true,Bool.and_eq_true,hg,Bool.not_eq_true',Bool.not_eq_true',List.any_eq_false,List.any_eq_false];constructor
     ·rintro⟨h1,h2⟩;refine⟨⟨h1.resolve_left ha,fun k hk h=>h2 k hk ?_⟩,fun h=>h2 i (List.mem_range.2 (by omega)) ?_⟩
      ·rw[Bool.and_eq_true]at h⊢;exact⟨(hg k).2 (.inr h.1),h.2⟩
      ·rw[Bool.and_eq_true];exact⟨(hg i).2 (.inl rfl),hasN_iff.2 h⟩
     ·rintro⟨⟨h1,h2⟩,h3⟩;refine⟨.inr h1,fun k hk h=>?_⟩;rw[Bool.and_eq_true]at h;rcases(hg k).1 h.1 with rfl|h4
      ·exact h3 (hasN_iff.1 h.2)
      ·exact h2 k hk (by rw[Bool.and_eq_true];exact⟨h4,h.2⟩)
    have livei:(dn l0.length (li.setIfInBounds i true) i&& !(List.range T.length).any fun k=>dn l0.length (li.setIfInBounds i true) k&&hasN (clAt T k).eat i)=true:=by
     rw[Bool.and_eq_true];refine⟨(hg i).2 (.inl rfl),?_⟩;rw[Bool.not_eq_true',List.any_eq_false];intro k hk h;rw[Bool.and_eq_true,hasN_iff]at h;have hkn:k<l0.length:=by
      rcases Nat.lt_or_ge k l0.length with c|c
      ·exact c
      ·rw[(virt k c (List.mem_range.1 hk)).2.2]at h;exact absurd h.2 (List.not_mem_nil)
     obtain⟨_,_,_,k4,k5,k6,_⟩:=one k hkn;have hia2:=(k4 i (k5 i (k6 i h.2))).2.resolve_right (by omega);rcases(hg k).1 h.1 with rfl|hkd
     ·have:=hdone k (k5 k (k6 k h.2));rw[hni]at this;cases this
     ·rw[dn_lt hkn]at hkd;have:=ancD H.cl k hkn hkd i hia2;rw[hif]at this;cases this
    refine(List.perm_ext_iff_of_nodup ?_ (nodupF _)).2 fun a=>?_
    ·rw[List.append_assoc,List.nodup_append];refine⟨List.nodup_cons.2 ⟨(by simp),List.nodup_nil⟩,List.nodup_append.2 ⟨nodupF _,hVn,fun a ha b hb e=>?_⟩,fun a ha b hb e=>?_⟩
     ·subst e;rw[List.mem_filter,Bool.and_eq_true,hasN_iff]at ha;exact((hVm a).1 hb).2.2 ha.2.1
     ·subst e;rw[List.mem_singleton]at ha;subst ha;rcases List.mem_append.1 hb with h|h
      ·rw[List.mem_filter,Bool.and_eq_true,hasN_iff]at h;have:=hdone a (o5 a h.2.1);rw[hni]at this;cases this
      ·have:=((hVm a).1 h).2.1;rw[hni]at this;cases this
    ·rw[List.append_assoc,List.mem_append,List.mem_append,List.mem_singleton,hVm,List.mem_filter,List.mem_filter,List.mem_range,Bool.and_eq_true,hasN_iff,Bool.not_eq_true',←Bool.not_eq_true,hasN_iff];by_cases ha:a=i
     ·subst ha;exact⟨fun _=>⟨by omega,livei⟩,fun _=> .inl rfl⟩
     ·rw[live a ha];constructor
      ·rintro(h|⟨h1,h2,h3⟩|⟨h1,h2,h3⟩)
       ·exact absurd h ha
       ·exact⟨h1,huse a h2,h3⟩
       ·exact⟨h1,h2,fun h=>h3 (o6 a h)⟩
      ·rintro⟨h1,h2,h3⟩;by_cases hu:a∈(clAt T i).use
       ·exact .inr (.inl ⟨h1,hu,h3⟩)
       ·exact .inr (.inr ⟨h1,h2,hu⟩)
end
section
variable{δ:Type}{T:List (Cl δ)}{S0:Nat→Prop}{w0:World}{L:List Ent}{P:Program}{Q:Exit→Act→World→Prop}{l0:List Oper}{lb:List Value}{id:Nat}
theorem J.regionF(d0:δ)(T:List (Cl δ))(V:List Ent)(M:(Nat→δ)→List (Nat×Value))(E:(Nat→δ)→List Ent){l1:(Nat→δ)→List Value}{La:List Ent}(hm:P.follows .mixedOrders=true)(hB:checkF T l0 lb.length=true)(hV:((List.range (T.length - l0.length)).flatMap fun j=>clO T (l0.length+j) fun _=>d0)=V)(hp0:allF T (fun _=>d0) ((List.range (T.length - l0.length)).map fun j=>l0.length+j))(hs:stepsF T S0 w0 L P l0 lb (List.range l0.length))(hM:∀c,slF T c=M c)(hE:∀c,endF T c=E c)
  {L1:(Nat→δ)→List Ent}(k:∀c,allF T c (List.range l0.length)→J S0 w0 (L1 c) (RY S0 w0 .s P l0.toArray (KN Q) [] (l1 c)))(hl:∀c,upd lb (M c)=l1 c:=by intro c;simp only[upd,List.set_cons_succ,List.set_cons_zero];exact rfl)(hL:∀c,E c++L=L1 c:=by intro c;dsimp only[List.cons_append,List.nil_append])
  (hA:V++L=La:=by first|rfl|dsimp only[List.cons_append,List.nil_append]):J S0 w0 La ((Code.region id l0.toArray true).wp P Q (fr lb)):=fun w Mm=>by
 subst hA hV;refine wp_region_any hm ?_;have hN:l0.length≤T.length:=by
  simp only[checkF,Bool.and_eq_true]at hB;exact Nat.le_of_ble_eq_true hB.1.1
 have hf:∀i,(Array.replicate l0.length false).getD i false=false:=fun i=>by
  rw[Array.getD_eq_getD_getElem?,Array.getElem?_replicate];split<;>rfl
 have hdn:∀i,dn l0.length (Array.replicate l0.length false) i=Nat.ble l0.length i:=fun i=>by
  unfold dn;rw[hf i,Bool.false_or]
 have allV:∀(is:List Nat) (c:Nat→δ),allF T c is→∀i∈is,clP T i c:=fun is=>by
  induction is with
  |nil=>intro c _ i hi;cases hi
  |cons j r ih=>
   intro c h i hi;rcases List.mem_cons.1 hi with rfl|hi
   ·exact h.1
   ·exact ih c h.2 i hi
 have hvt:∀i,l0.length≤i→i<T.length→(clAt T i).dst=none∧(clAt T i).eat=[]:=fun i h1 h2=>by
  simp only[checkF,Bool.and_eq_true]at hB;have:=List.all_eq_true.1 hB.1.2.1 i (List.mem_range.2 h2);simp only[Bool.or_eq_true,Bool.and_eq_true,Option.isNone_iff_eq_none,List.isEmpty_iff]at this;rcases this with h|h
  ·rw[Nat.blt_eq]at h;omega
  ·exact⟨h.1,h.2.2⟩
 have key := anyF (P := P) (Q := fun a w => ∃ l, a = fr l ∧ Q .normal (fr l) w) hB (fun i hi => stepsF_mem hs i (List.mem_range.2 hi)) (fun c w' hp hM' => by
  refine ⟨_, rfl, ?_⟩
  rw [hE, hL] at hM'
  rw [hM, hl]
  have := k c (allF_of fun i hi => hp i (by have := List.mem_range.1 hi; omega)) w' hM'
  unfold RY RS at this
  exact this) l0.length (Array.replicate l0.length false) (fun _ => d0) lb { w with drawn := w.drawn + 1 }
  (by
   unfold cntU
   rw [List.countP_eq_length.2 (fun i _ => by rw [hf i]; rfl), List.length_range])
  ⟨by simp, (by intro k ok _ h; rw [hf] at h; cases h), rfl, fun _ _ => rfl, (fun i hi h d hd => by
   rw [hdn] at h
   rw [(hvt i (Nat.le_of_ble_eq_true h) hi).1] at hd
   cases hd), (fun i hi h => by
   rw [hdn] at h
   have h := Nat.le_of_ble_eq_true h
   exact allV _ _ hp0 i (List.mem_map.2 ⟨i - l0.length, List.mem_range.2 (by omega), by omega⟩)), by
   have e : ((List.range T.length).filter fun j => dn l0.length (Array.replicate l0.length false) j && !(List.range T.length).any fun k => dn l0.length (Array.replicate l0.length false) k && hasN (clAt T k).eat j) = (List.range (T.length - l0.length)).map fun j => l0.length + j := by
    have e1 : ((List.range T.length).filter fun j => dn l0.length (Array.replicate l0.length false) j && !(List.range T.length).any fun k => dn l0.length (Array.replicate l0.length false) k && hasN (clAt T k).eat j) = (List.range T.length).filter fun j => Nat.ble l0.length j := List.filter_congr fun j _ => by
     rw [hdn]
     have : ((List.range T.length).any fun k => dn l0.length (Array.replicate l0.length false) k && hasN (clAt T k).eat j) = false := by
      rw [List.any_eq_false]
      intro k hk h
      rw [Bool.and_eq_true, hdn, hasN_iff] at h
      rw [(hvt k (Nat.le_of_ble_eq_true h.1) (List.mem_range.1 hk)).2] at h
      exact absurd h.2 (List.not_mem_nil)
     rw [this]
     simp
    rw [e1]
    obtain ⟨q, hq⟩ := Nat.le.dest hN
    rw [← hq, List.range_add, List.filter_append, show l0.length + q - l0.length = q by omega]
    rw [List.filter_eq_nil_iff.2 fun j hj => (by
     have := List.mem_range.1 hj
     intro h
     have := Nat.le_of_ble_eq_true h
     omega), List.nil_append]
    refine List.filter_eq_self.2 fun j hj => ?_
    obtain ⟨m, _, rfl⟩ := List.mem_map.1 hj
    exact Nat.ble_eq_true_of_le (by omega)
   rw [e, List.flatMap_map]
   exact Mm.grow ((Below.refl _ _).drew)⟩
 have h2:=wpAny_of_X (Q':=Q) (fun a w (h:∃l,a=fr l∧Q .normal (fr l) w)=>by obtain⟨l,rfl,h⟩:=h;exact h) l0.length (Array.replicate l0.length false) (fr lb) _ key;simpa using h2
theorem stepF.i{i:Nat}{o:Oper}(kd:Kd)(U K:(Nat→δ)→List Ent)(O:(Nat→δ)→δ→List Ent)(V:(Nat→δ)→δ→Value)(p:(Nat→δ)→Prop)(q:(Nat→δ)→δ→Prop)(M:(Nat→δ)→List (Nat×Value))(Jk:List Nat)(dd:Option Nat){l1:(Nat→δ)→(Nat→Value)→List Value}
  {L1:Ent→(Nat→δ)→List Ent}(h:∀F c v,p c→J S0 w0 (L1 F c) (RY S0 w0 .s P l0.toArray (fun l' w'=>∃x,q c x∧l'=putL dd (V c x) (l1 c v)∧Mem S0 w0 (O c x++(K c++F::L)) w') [(o,kd)] (l1 c v)))
  (hU:∀c,useF T i c=U c)(hK:∀c,keepF T i c=K c)(hO:∀c x,clO T i (put c i x)=O c x)(hV:∀c x,clV T i (put c i x)=V c x)(hp:∀c,(∀j∈(clAt T i).dep,clP T j c)→p c)(hq:∀c x,q c x→clP T i (put c i x))(hM:∀c,MF T i c=M c)(hJ:JF T i=Jk)(hd:(clAt T i).dst=dd)(ho:nth l0 i=o:=by dsimp only[nth])
  (hl:∀c v,upd (upd lb (M c)) (junk Jk v)=l1 c v:=by intro c v;simp only[upd,junk,List.map_cons,List.map_nil,List.set_cons_succ,List.set_cons_zero];exact rfl)
  (hL:∀F c,U c++F::L=L1 F c:=by intro F c;dsimp only[List.cons_append,List.nil_append]):stepF T S0 w0 L P l0 lb i:=fun F c v hpp=>by
 subst ho;unfold frF;rw[hM,hJ,hl,hU,hL];have:=h F c v (hp c hpp);unfold OutF;rw[hd,hK];intro w Mm;have h2:=this w Mm;unfold RY at h2⊢;have h2:RS P l0.toArray _ [nth l0 i] (l1 c v) w:=h2;show RS P l0.toArray _ [nth l0 i] (l1 c v) w;refine rs_mono (fun l' w' ⟨x,h1,h2,h3⟩=>⟨x,hq c x h1,?_,?_⟩) _ _ _ h2
 ·rw[hV];exact h2
 ·rw[hO];exact h3
theorem J.outF{δ:Type}{L' F:List Ent}{q:δ→Prop}{V:δ→Value}{O:δ→List Ent}{l l':List Value}{dd:Option Nat}(x:δ)(hq:q x)(hl:l'=putL dd (V x) l)(hs:(O x++F).Sublist L'):J S0 w0 L' (fun w'=>∃x,q x∧l'=putL dd (V x) l∧Mem S0 w0 (O x++F) w'):=fun w Mm=>⟨x,hq,hl,Mm.sub hs⟩
end
end G
end Go.Proofs.YtkibkhgcbepolaaGreatDoor
