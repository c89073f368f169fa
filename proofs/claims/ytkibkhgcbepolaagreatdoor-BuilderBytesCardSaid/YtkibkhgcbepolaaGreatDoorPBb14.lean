/-
  Part 14 of the lemmas of these laws: BuilderBytes.
-/
import Derived.Test.YtkibkhgcbepolaaGreatDoorPBb13
set_option linter.unusedVariables false
set_option linter.unusedSimpArgs false
open Go.Proofs.Tryz
namespace Go.Proofs.YtkibkhgcbepolaaGreatDoor
namespace W
open Go.RowKit G
set_option maxRecDepth 20000
set_option maxHeartbeats 8000000
attribute [local irreducible] RS RX RY Code.wp bodyPost J Ent.blk Ent.irow Ent.iown Ent.wrow Ent.wown Ent.gown Ent.all Ent.emp
instance:Ents prog 84:=⟨.mk func84 (by kernel_rfl) rfl⟩
instance:Fld prog 37 2 2:=⟨_,_,1,underlying37,rfl,by kernel_rfl,by decide,rfl⟩
instance:Sca prog 29:=⟨_,underlying29,rfl⟩
theorem eltR{S0:Nat→Prop}{w:World}{b o n:Nat}{ids:List Int}(h:WRow .u8 32 S0 w (some ⟨b,o,none⟩) n ids){i:Int}(hi:0≤i∧i<n):IRow .u8 S0 w (some ⟨b,o+i.toNat*32,none⟩) 32 (elt 32 ids i.toNat):=by
 obtain⟨b',o',e,hs,hc⟩:=h.at_ (by decide) hi;cases e;have hA:=h.elt_arr (i:=i.toNat) (by omega);exact⟨.inr ⟨_,_,rfl,hs,hc⟩,hA.1,hA.2⟩
theorem wTake{S0:Nat→Prop}{w:World}{a:Option Addr}{n:Nat}{ids:List Int}(h:WRow .u8 32 S0 w a n ids)(p c:Nat)(hp:p≤n)(hc:p≤c):WRow .u8 32 S0 w (subA a 0 32 c) p (ids.take (32*p)):=by
 have hl:=h.len;have:=h.row.sub 0 p 32 c (by rw[ints_length];omega) (Nat.zero_le _) hc;refine⟨?_,by rw[List.length_take];omega,h.bd.take _⟩;simpa [ints,List.map_take,Nat.mul_comm]using this
theorem min4(n:Nat):(if(4:Int)<(n:Int)then 4 else(n:Int))=((min n 4:Nat):Int):=by split<;>omega
theorem bPreds{S0:Nat→Prop}(a:Option Addr)(n c:Nat)(ids:List Int)(w:World)(D0:WRow .u8 32 S0 w a n ids)(hc:n≤c)(hn:n≤1000):
  Calls prog 12 #[.slice a n c] w (Gv w (fun q:Option Addr×Nat=> .tuple #[.slice q.1 (S.preN n ids) q.2, .int .i64 (S.preE n ids)]) (fun q=>[.wown 24 .u8 32 q.1 (S.preN n ids) q.2 (S.preL n ids)]) fun q=>S.preN n ids≤q.2):=by
 have hlen:=D0.len;have nil:∀e:Int,S.preE n ids=e→e≠0→S.preN n ids=0∧S.preL n ids=[]:=fun e h1 h2=>S.pre_no (by rw[h1];exact h2);refine J.enter 30 func12 rfl rfl ?_;refine run ?_;refine J.ifd rfl (fun c1=>?_) (fun c1=>?_)
 ·refine run ?_;have he:=S.preE_4 (n:=n) (ids:=ids) (by omega);obtain⟨e1,e2⟩:=nil 4 he (by decide);rw[he,e1,e2];refine J.nilWo 24 .u8 32 ?_;exact J.finG (none,0) rfl (Nat.le_refl _) (.cons_cons _ (List.nil_sublist _))
 refine run ?_;refine J.loopS (A:=Int) (fun p=>[(4, .int .i64 p)]) [2,3,8,9,10,11,12,13,14,15,16,17,18,19,20,21,22,23,24] (fun p=>(1≤p∧(p≤n∨p=1))∧∀i,i+1<p.toNat→S.cmpS (S.idAt ids i) (S.idAt ids (i+1))<0) (fun p=>n - p.toNat) 1 (by kernel_rfl) ⟨by omega,fun i hi=>by omega⟩ (fun p j hI=>?_);obtain⟨h1,hI⟩:=hI;refine run ?_;refine J.ifd rfl (fun c2=>?_) (fun c2=>?_)
 ·obtain⟨b0,o0,ha,_,_⟩:=D0.at_ (by decide) (i:=0) (by omega);subst ha;refine run ?_;refine J.regionX [(0, .q),(1, .q),(2, .q),(3, .q),(4, .q),(5, .q),(6, .q),(7, .q),(8, .q),(9, .e),(10, .q)] mixed (by kernel_rfl) ?_;refine run ?_;refine J.callp rfl rfl (fun w' M=>bcompare _ _ _ _ _ _ _ _ w' (eltR (D0.ext M.ext) (i:=p - 1) (by omega)) (eltR (D0.ext M.ext) (i:=p) (by omega))) ?_;refine run ?_;have e3:p.toNat=(p - 1).toNat+1:=by omega
  refine J.ifd rfl (fun c3=>?_) (fun c3=>?_)
  ·refine run ?_
   have he := S.preE_32 (n := n) (ids := ids) (by omega) (fun hr => by
    have := hr (p - 1).toNat (by omega)
    rw [← e3] at this
    exact absurd c3 (Int.not_le.2 this))
   obtain⟨e1,e2⟩:=nil 32 he (by decide);rw[he,e1,e2];refine J.nilWo 24 .u8 32 ?_;exact J.finG (none,0) rfl (Nat.le_refl _) (.cons_cons _ (List.nil_sublist _))
  refine run ?_;refine J.nextS (p+1) ⟨rfl,trivial⟩ (by kernel_rfl) ⟨by omega,fun i hi=>?_⟩ (by omega);rcases Nat.lt_or_ge (i+1) p.toNat with h|h
  ·exact hI i h
  obtain rfl:i=(p - 1).toNat:=by omega
  rw[←e3];exact Int.not_le.1 c3
 have hr:S.Rising n ids:=fun i hi=>hI i (by omega);have he:=S.preE_0 (by omega) hr;obtain⟨e1,e2⟩:=S.pre_yes he;rw[he,e1,e2];refine run ?_;refine J.mn rfl rfl rfl ?_ (hr:=min4 n);refine run ?_;refine J.call rfl rfl (fun w' M=>cloneW (subA a 0 32 c) (min n 4) c (ids.take (32*min n 4)) w' (wTake (D0.ext M.ext) (min n 4) c (by omega) (by omega)) (by omega) (by omega)) fun q hq=>?_
 refine run ?_;exact J.finG q rfl hq sb
theorem bStamp{S0:Nat→Prop}(g:GrA)(TK:TypeId)(w:World)(K0:Kst w TK)(G:GrR S0 w g):
  Calls prog 16 #[.agg (grC g).toArray] w (Ret w fun v _=>v= .tuple #[.int .u64 (S.stmV g.P), .int .i64 (S.stmE g.P)]):=by
 have G0:=G.ops;have hl:=G.len;have hcp:=G.cap;refine J.enter 28 func16 rfl rfl ?_;refine run ?_;refine J.box rfl rfl rfl fun b1=>?_
 refine run ?_;refine J.callp rfl rfl (fun w' M=>dagCheck g TK w' (K0.ext M.ext) (G.ext M.ext)) ?_;refine run ?_;refine J.ifn rfl (fun c1=>?_) (fun c1=>?_)
 ·obtain⟨he,hne⟩:=S.stmE_1 (g:=g.P) c1;refine run ?_;refine J.fin ?_;rw[S.stmV_no hne,he];rfl
 have hst:=S.chk_st (g:=g.P) c1;refine run ?_;refine J.loopS (A:=Int×Int) (fun p=>[(5, .int .u64 p.2),(16, .int .i64 p.1)]) [7,17,18,19,20,21,22,23,24,25] (fun p=>(0≤p.1∧p.1≤g.n)∧(0≤p.2∧p.2≤1000000000001)∧p.2=S.nxtS (g.ops.take p.1.toNat)) (fun p=>g.n - p.1.toNat) (0,0) (by kernel_rfl) ⟨by dsimp only;omega,by dsimp only;omega,rfl⟩ (fun p j hI=>?_);obtain⟨p,m⟩:=p;obtain⟨h1,h2,h3⟩:=hI;dsimp only at h1 h2 h3⊢;refine run ?_;refine J.ifd rfl (fun c2=>?_) (fun c2=>?_)
 ·obtain⟨z,hz⟩:=G0.ex (i:=p) (by omega);have hzo:=GrA.opAt hz;have R:=G.op hz;have hzs:=R.ok.st;have hz2:=hst z.o (by rw[←hzo,S.getD_at (by omega)];exact List.getElem_mem _);refine run ?_;refine J.alloc rfl fun b2=>?_
  refine run ?_;have e3:=S.nxt_step (l:=g.ops) (i:=p.toNat) (by omega);rw[←h3,hzo]at e3;refine J.nextS (p+1,if z.o.st+1>m then z.o.st+1 else m) ⟨rfl,rfl,trivial⟩ (by kernel_rfl) ⟨by dsimp only;omega,by dsimp only;split<;>omega,?_⟩ (by dsimp only;omega);dsimp only;rw[show(p+1).toNat=p.toNat+1 by omega,e3];rfl
 have hpn:S.nxtS g.P.ops=m:=by rw[h3,List.take_of_length_le (by omega)]
 refine run ?_;refine J.ifd rfl (fun c3=>?_) (fun c3=>?_)
 ·have he:=S.stmE_2 (g:=g.P) c1 (by rw[hpn];exact c3);refine run ?_;refine J.fin ?_;rw[S.stmV_no (by rw[he];decide),he]
 have he:=S.stmE_0 (g:=g.P) c1 (by rw[hpn];exact c3);refine run ?_;refine J.fin ?_;rw[S.stmV_yes he,he,hpn]
instance:Fld prog 33 1 1:=⟨_,_,1,underlying33,rfl,by kernel_rfl,by decide,rfl⟩
instance:Sca prog 9:=⟨_,underlying9,rfl⟩
instance:Und prog 9 .string:=⟨underlying9⟩
instance:Fld prog 33 2 2:=⟨_,_,4,underlying33,rfl,by kernel_rfl,by decide,rfl⟩
instance:Fld prog 31 3 3:=⟨_,_,1,underlying31,rfl,by kernel_rfl,by decide,rfl⟩
instance:Und prog 262 (.slice 25):=⟨underlying262⟩
instance:Siz prog 25 1:=⟨by kernel_rfl⟩
instance:Sca prog 25:=⟨_,underlying25,rfl⟩
instance:Ents prog 12:=⟨.mk func12 (by kernel_rfl) rfl⟩
instance:Agg prog 33 6:=⟨_,underlying33,rfl,by kernel_rfl⟩
instance:Ents prog 97:=⟨.mk func97 (by kernel_rfl) rfl⟩
instance:Inf prog 25 1 8 [.int .i64 0]:=⟨TI.of (v:= .int .i64 0) (by kernel_rfl) rfl⟩
instance:Ents prog 99:=⟨.mk func99 (by kernel_rfl) rfl⟩
@[reducible] def acC(o:S.OpV):List Value:=[.int .u8 o.k, .string o.key, .int .u8 o.vk, .int .i64 o.num, .int .u64 o.bits, .string o.t]
theorem signB(x:Int)(hx:0≤x∧x<4294967296){S0:Nat→Prop}(z:OpA)(TK:TypeId)(w:World)(K0:Kst w TK)(R:OpR S0 w z):
  Calls prog 96 #[.int .u32 x, .agg (opC z).toArray] w (Gv w (fun q:OpA×Int=> .tuple #[.agg (opC q.1).toArray, .int .i64 q.2]) (fun q=>[.wrow .u8 32 q.1.pa q.1.o.n q.1.o.ids]) fun q=>q.1.o.n≤q.1.pc∧q.1.o=S.signS x z.o∧q.2=S.signE x z.o):=
 Gv.of (signO x hx z.o R.ok _ _ TK w K0 R.row R.cap) fun v w' _ ⟨a',c',hv,hc,W⟩=>⟨(⟨S.signS x z.o,a',c'⟩,S.signE x z.o),hv,⟨hc,rfl,rfl⟩,sep1 (show(Ent.wrow .u8 32 a' (S.signS x z.o).n (S.signS x z.o).ids).ok _ _ by unfold Ent.wrow;exact W)⟩
theorem signBR(x:Int)(hx:0≤x∧x<4294967296){S0:Nat→Prop}(z:OpA)(w:World)(R:OpR S0 w z):
  Calls prog 13 #[.int .u32 x, .agg (opC z).toArray] w (Gv w (fun q:OpA×Int=> .tuple #[.agg (opC q.1).toArray, .int .i64 q.2]) (fun q=>[.wrow .u8 32 q.1.pa q.1.o.n q.1.o.ids]) fun q=>q.1.o.n≤q.1.pc∧q.1.o=S.signS x z.o∧q.2=S.signE x z.o):=
 Gv.of (signOR x hx z.o R.ok _ _ w R.row R.cap) fun v w' _ ⟨a',c',hv,hc,W⟩=>⟨(⟨S.signS x z.o,a',c'⟩,S.signE x z.o),hv,⟨hc,rfl,rfl⟩,sep1 (show(Ent.wrow .u8 32 a' (S.signS x z.o).n (S.signS x z.o).ids).ok _ _ by unfold Ent.wrow;exact W)⟩
theorem encB{S0:Nat→Prop}(z:OpA)(w:World)(R:OpR S0 w z)(hc:S.checkE z.o=0):
  Calls prog 97 #[.agg (opC z).toArray] w (Gv w (fun q:Option Addr×Nat×Nat=> .tuple #[.slice q.1 q.2.1 q.2.2, .int .i64 0]) (fun q=>[.irow .u8 q.1 q.2.1 (S.encS z.o)]) fun _=>True):=
 Gv.of (encodeO z.o R.ok _ _ w R.row R.cap) fun v w' _ ⟨a',n',c',xs,hv,O,hx⟩=>⟨(a',n',c'),by rw[hv,hc],trivial,sep1 (by rw[if_pos hc]at hx;subst hx;exact iown_irow (iown_ok O))⟩
theorem lawGreat24(o:S.OpV)(w:World):
  Calls prog 23 #[.agg (acC o).toArray] w (Ret w fun v _=>v= .bool (decide (100<o.key.size∨100<o.t.size))):=by
 refine J.enter 13 func23 rfl rfl ?_;refine run ?_;refine J.box rfl rfl rfl fun b1=>?_
 refine run ?_;refine J.spd rfl rfl rfl (fun c=>?_) (fun c=>?_)
 ·refine run ?_;exact J.fin (congrArg _ (decide_eq_true (.inl (by omega))).symm)
 refine run ?_;exact J.fin (congrArg _ (decide_eq_decide.2 ⟨fun h=> .inr (by omega),fun h=>by rcases h with h|h<;>omega⟩))
theorem bFirst{S0:Nat→Prop}(a:Option Addr)(w:World)(O:GRow inC 1 S0 w a 2 [0,0]):
  Calls prog 99 #[.slice a 2 2] w (Ret w fun v _=>v= .int .i64 0):=by
 refine J.enter 14 func99 rfl rfl ?_;refine run ?_;refine J.loopS (A:=Int) (fun p=>[(7, .int .i64 p)]) [2,4,8,9,10,11,12,13,14] (fun p=>0≤p∧p≤2) (fun p=>2 - p.toNat) 0 (by kernel_rfl) ⟨by omega,by omega⟩ (fun p j hI=>?_);refine run ?_;refine J.ifd rfl (fun c1=>?_) (fun c1=>?_)
 ·have hq:([0,0]:List Int)[p.toNat]? =some 0:=by
   rcases(show p.toNat=0∨p.toNat=1 by omega)with h|h<;>rw[h]<;>rfl
  refine run ?_;exact J.nextS (p+1) ⟨rfl,trivial⟩ (by kernel_rfl) ⟨by omega,by omega⟩ (by omega)
 refine run ?_;exact J.fin rfl
def BldP(x:Int)(n:Nat)(ids:List Int)(st:Int)(o:S.OpV)(q:OpA×Option Addr×Nat×Nat):Prop:=q.1.o=S.bldV x n ids st o∧q.1.o.n≤q.1.pc
@[reducible] def bldC(x:Int)(n:Nat)(ids:List Int)(st:Int)(o:S.OpV)(q:OpA×Option Addr×Nat×Nat):Value:= .tuple #[.agg (opC q.1).toArray, .slice q.2.1 q.2.2.1 q.2.2.2, .agg (ints .u8 (S.bldI x n ids st o)).toArray, .int .i64 (S.bldE x n ids st o)]
@[reducible] def bldP(x:Int)(n:Nat)(ids:List Int)(st:Int)(o:S.OpV)(q:OpA×Option Addr×Nat×Nat):List Ent:=[.wrow .u8 32 q.1.pa q.1.o.n q.1.o.ids, .irow .u8 q.2.1 q.2.2.1 (S.bldB x n ids st o)]
theorem bldO_ok{n:Nat}{ids:List Int}{st:Int}{o:S.OpV}(ho:o.ok)(hs:0≤st∧st<18446744073709551616):(S.bldO n ids st o).ok:=⟨(by show(0:Int)≤0∧(0:Int)<4294967296;decide),hs,ho.k,ho.vk,ho.num,ho.bits,(by show(0:Int)≤0∧(0:Int)<4294967296;decide),(by show(0:Int)≤0∧(0:Int)<4294967296;decide),by have:=S.preN_le n ids;show S.preN n ids≤40;omega,ho.key,ho.t⟩
theorem bBuild(x:Int)(hx:0≤x∧x<4294967296){S0:Nat→Prop}(a:Option Addr)(n c:Nat)(ids:List Int)(st:Int)(hs:0≤st∧st<18446744073709551616)(o:S.OpV)(ho:o.ok)(TK:TypeId)(w:World)(K0:Kst w TK)(D0:WRow .u8 32 S0 w a n ids)(hc:n≤c)(hn:n≤1000):
  Calls prog 17 #[.int .u32 x, .slice a n c, .int .u64 st, .agg (acC o).toArray] w (Gv w (bldC x n ids st o) (bldP x n ids st o) (BldP x n ids st o)):=by
 have hok:=bldO_ok (n:=n) (ids:=ids) ho hs;have h4:=S.preN_le n ids;refine J.enter 56 func17 rfl rfl ?_;refine run ?_;refine J.box rfl rfl rfl fun b1=>?_
 refine J.alloc rfl fun b2=>?_
 refine run ?_;refine J.alloc rfl fun b3=>?_
 refine run ?_;refine J.call rfl rfl (fun w' M=>bPreds a n c ids w' (D0.ext M.ext) hc hn) fun q hq=>?_
 refine run ?_;refine J.ifn rfl (fun c1=>?_) (fun c1=>?_)
 ·have he:=S.bldE_1 (x:=x) (st:=st) (o:=o) c1;obtain⟨e1,e2,e3⟩:=S.bld_no (x:=x) (n:=n) (ids:=ids) (st:=st) (o:=o) (by rw[he];exact c1);refine run ?_;refine J.bz rfl ?_;refine run ?_;refine J.nilR .u8 (J.nilW .u8 32 ?_);refine J.finG (⟨S.OpV.zero,none,0⟩,none,0,0) ?_ ⟨e1.symm,Nat.le_refl _⟩ ?_
  ·unfold bldC;rw[he,e3];rfl
  unfold bldP;rw[e2];exact .cons_cons _ (.cons_cons _ (List.nil_sublist _))
 have he:=S.bldE_2 (x:=x) (st:=st) (o:=o) c1;refine run ?_;refine J.call rfl rfl (fun w' M=>(RW.own' (a:=q.1) w' M).elim fun _ k0=>signB x hx ⟨S.bldO n ids st o,q.1,q.2⟩ TK w' (K0.ext M.ext) ⟨hok,k0,hq⟩) fun z hz=>?_
 obtain⟨⟨zo,zp,zc⟩,ze⟩:=z;obtain⟨hz1,hz2,hz3⟩:=hz;dsimp only at hz1 hz2 hz3⊢;subst hz2 hz3;refine run ?_;refine J.alloc rfl fun b4=>?_
 refine run ?_;refine J.ifn rfl (fun c2=>?_) (fun c2=>?_)
 ·obtain⟨e1,e2,e3⟩:=S.bld_no (x:=x) (n:=n) (ids:=ids) (st:=st) (o:=o) (by rw[he];exact c2);refine run ?_;refine J.bz rfl ?_;refine run ?_;refine J.nilR .u8 (J.nilW .u8 32 ?_);refine J.finG (⟨S.OpV.zero,none,0⟩,none,0,0) ?_ ⟨e1.symm,Nat.le_refl _⟩ ?_
  ·unfold bldC;rw[he,e3];rfl
  unfold bldP;rw[e2];exact .cons_cons _ (.cons_cons _ (List.nil_sublist _))
 refine J.fact (.wown 24 .u8 32 q.1 (S.preN n ids) q.2 (S.preL n ids)) (fun _ _ h=>(wown_len h).1) fun hpl=>?_
 have hg:=S.sign_good hok hpl c2;have hck:S.checkE (S.signS x (S.bldO n ids st o))=0:=hg.2.2.1;have hso:=S.signS_ok x _ hok;have hA:Arr .u8 32 (S.sha (S.encS (S.signS x (S.bldO n ids st o)))):=S.sha_arr _;obtain⟨e1,e2,e3⟩:=S.bld_yes (x:=x) (n:=n) (ids:=ids) (st:=st) (o:=o) (by rw[he];exact c2);refine run ?_;refine J.call rfl rfl (fun w' M=>(RW.row' (a:=zp) w' M).elim fun _ k0=>encB ⟨S.signS x (S.bldO n ids st o),zp,zc⟩ w' ⟨hso,k0,hz1⟩ hck) fun y hy=>?_
 refine run ?_;refine J.callp rfl rfl (fun w' M=>(RW.row' (a:=zp) w' M).elim fun _ k0=>idO (S.signS x (S.bldO n ids st o)) hso zp zc _ w' (K0.ext M.ext) k0 hz1) ?_;rw[if_pos hck,hck];refine run ?_;refine J.alloc rfl fun b5=>?_
 refine run ?_;refine J.regionR [.blk b5 (ints .u8 (S.sha (S.encS (S.signS x (S.bldO n ids st o))))) 24, .blk b4 (opC ⟨S.signS x (S.bldO n ids st o),zp,zc⟩) 37] [(0, .q),(1, .q),(2, .q),(3, .q),(4, .q),(5, .e),(6, .e),(7, .e),(8, .q),(9, .e),(10, .q)] mixed (by kernel_rfl) (by repeat(first|exact List.Sublist.refl _|refine List.Sublist.cons_cons _ ?_|refine List.Sublist.cons _ ?_)) ?_;refine run ?_;refine J.b2V (p:=0) (q:=0) inC (fun _=>rfl) rfl rfl rfl rfl rfl rfl rfl fun b6=>?_
 refine J.callp rfl rfl (fun w' M=>(RG.own' (a:=some ⟨b6,0,none⟩) w' M).elim fun _ k0=>bFirst _ w' k0) ?_;refine run ?_;refine J.front (.wrow .u8 32 zp (S.signS x (S.bldO n ids st o)).n (S.signS x (S.bldO n ids st o)).ids) ?_;refine J.finG (⟨S.signS x (S.bldO n ids st o),zp,zc⟩,y) ?_ ⟨e1.symm,hz1⟩ ?_
 ·unfold bldC;rw[he,c2,e3]
 unfold bldP;rw[e2]
 repeat(first|exact List.nil_sublist _|refine List.Sublist.cons_cons _ ?_|refine List.Sublist.cons _ ?_)
end W
namespace L
open Go Go.Proofs.YtkibkhgcbepolaaGreatDoor G W
open Go.ChangeShapes Go.WideShapes Go.ChangeAt Go.RowKit
set_option maxRecDepth 100000
section
variable{H:Type}{enc:TypeId×Value→H}{w:World}{base:Nat}{sp:Nat→Bool}{held:Bool}{fuel:Nat}{cs:List Value}{x:DataW H×List MemPlace}
theorem act_in(h:DataW.trod enc prog w base sp held fuel 33 cs=some x):∃o:S.OpV,cs=acC o∧o.rng∧o.n=0:=by
  have hl:=(fields_in underlying33 h).1;rw[z_act]at hl
  match cs,hl,h with
  |[c3,c4,c5,c6,c7,c8],_,f3=>
    obtain⟨_,_,g0⟩:=field_in 0 underlying33 rfl z_u8 f3;obtain⟨_,_,g1⟩:=field_in 1 underlying33 rfl z_str f3;obtain⟨_,_,g2⟩:=field_in 2 underlying33 rfl z_val f3;obtain⟨k,e3,r3⟩:=int_in underlying5 g0;obtain⟨key,e4,_,_⟩:=DataW.trod_string underlying9 g1;obtain⟨_,_,v0⟩:=field_in 0 underlying31 rfl z_u8 g2;obtain⟨_,_,v1⟩:=field_in 1 underlying31 rfl z_i64 g2;obtain⟨_,_,v2⟩:=field_in 2 underlying31 rfl z_u64 g2;obtain⟨_,_,v3⟩:=field_in 3 underlying31 rfl z_str g2;obtain⟨vk,e5,r5⟩:=int_in underlying5 v0;obtain⟨num,e6,r6⟩:=int_in underlying2 v1;obtain⟨bits,e7,r7⟩:=int_in underlying29 v2;obtain⟨tx,e8,_,_⟩:=DataW.trod_string underlying9 v3;have q3:[c3]=[Value.int .u8 k]:=e3;have q4:[c4]=[Value.string key]:=e4;have q5:[c5]=[Value.int .u8 vk]:=e5;have q6:[c6]=[Value.int .i64 num]:=e6;have q7:[c7]=[Value.int .u64 bits]:=e7;have q8:[c8]=[Value.string tx]:=e8;simp only[List.cons.injEq,and_true]at q3 q4 q5 q6 q7 q8;subst q3 q4 q5 q6 q7 q8;have u8:IntKind.min .u8=0∧IntKind.max .u8=255:=by decide
    have u64:IntKind.min .u64=0∧IntKind.max .u64=18446744073709551615:=by decide
    have i64:IntKind.min .i64= -9223372036854775808∧IntKind.max .i64=9223372036854775807:=by decide
    refine⟨⟨0,0,k,vk,num,bits,0,0,0,[],key,tx⟩,rfl,⟨?_,?_,?_,?_,?_,?_,?_,?_⟩,rfl⟩<;>dsimp only<;>omega
end
end L
end Go.Proofs.YtkibkhgcbepolaaGreatDoor
