/-
  Part 14 of the lemmas of these laws: BuilderLater, BuilderCommits.
-/
import Derived.Test.YtkibkhgcbepolaaGreatDoorPBl13
set_option linter.unusedVariables false
set_option linter.unusedSimpArgs false
open Go.Proofs.Tryz
namespace Go.Proofs.YtkibkhgcbepolaaGreatDoor
namespace W
open Go.RowKit G
set_option maxRecDepth 20000
set_option maxHeartbeats 8000000
attribute [local irreducible] RS RX RY Code.wp bodyPost J Ent.blk Ent.irow Ent.iown Ent.wrow Ent.wown Ent.gown Ent.all Ent.emp
instance:Fld prog 33 1 1:=⟨_,_,1,underlying33,rfl,by kernel_rfl,by decide,rfl⟩
instance:Sca prog 9:=⟨_,underlying9,rfl⟩
instance:Und prog 9 .string:=⟨underlying9⟩
instance:Fld prog 33 2 2:=⟨_,_,4,underlying33,rfl,by kernel_rfl,by decide,rfl⟩
instance:Fld prog 31 3 3:=⟨_,_,1,underlying31,rfl,by kernel_rfl,by decide,rfl⟩
instance:Und prog 262 (.slice 25):=⟨underlying262⟩
instance:Siz prog 25 1:=⟨by kernel_rfl⟩
instance:Sca prog 25:=⟨_,underlying25,rfl⟩
instance:Ents prog 12:=⟨.mk func12 (by kernel_rfl) rfl⟩
instance:Agg prog 33 6:=⟨_,underlying33,rfl,by kernel_rfl⟩
instance:Ents prog 97:=⟨.mk func97 (by kernel_rfl) rfl⟩
instance:Inf prog 25 1 8 [.int .i64 0]:=⟨TI.of (v:= .int .i64 0) (by kernel_rfl) rfl⟩
instance:Ents prog 99:=⟨.mk func99 (by kernel_rfl) rfl⟩
@[reducible] def acC(o:S.OpV):List Value:=[.int .u8 o.k, .string o.key, .int .u8 o.vk, .int .i64 o.num, .int .u64 o.bits, .string o.t]
theorem signB(x:Int)(hx:0≤x∧x<4294967296){S0:Nat→Prop}(z:OpA)(TK:TypeId)(w:World)(K0:Kst w TK)(R:OpR S0 w z):
  Calls prog 96 #[.int .u32 x, .agg (opC z).toArray] w (Gv w (fun q:OpA×Int=> .tuple #[.agg (opC q.1).toArray, .int .i64 q.2]) (fun q=>[.wrow .u8 32 q.1.pa q.1.o.n q.1.o.ids]) fun q=>q.1.o.n≤q.1.pc∧q.1.o=S.signS x z.o∧q.2=S.signE x z.o):=
 Gv.of (signO x hx z.o R.ok _ _ TK w K0 R.row R.cap) fun v w' _ ⟨a',c',hv,hc,W⟩=>⟨(⟨S.signS x z.o,a',c'⟩,S.signE x z.o),hv,⟨hc,rfl,rfl⟩,sep1 (show(Ent.wrow .u8 32 a' (S.signS x z.o).n (S.signS x z.o).ids).ok _ _ by unfold Ent.wrow;exact W)⟩
theorem signBR(x:Int)(hx:0≤x∧x<4294967296){S0:Nat→Prop}(z:OpA)(w:World)(R:OpR S0 w z):
  Calls prog 13 #[.int .u32 x, .agg (opC z).toArray] w (Gv w (fun q:OpA×Int=> .tuple #[.agg (opC q.1).toArray, .int .i64 q.2]) (fun q=>[.wrow .u8 32 q.1.pa q.1.o.n q.1.o.ids]) fun q=>q.1.o.n≤q.1.pc∧q.1.o=S.signS x z.o∧q.2=S.signE x z.o):=
 Gv.of (signOR x hx z.o R.ok _ _ w R.row R.cap) fun v w' _ ⟨a',c',hv,hc,W⟩=>⟨(⟨S.signS x z.o,a',c'⟩,S.signE x z.o),hv,⟨hc,rfl,rfl⟩,sep1 (show(Ent.wrow .u8 32 a' (S.signS x z.o).n (S.signS x z.o).ids).ok _ _ by unfold Ent.wrow;exact W)⟩
theorem encB{S0:Nat→Prop}(z:OpA)(w:World)(R:OpR S0 w z)(hc:S.checkE z.o=0):
  Calls prog 97 #[.agg (opC z).toArray] w (Gv w (fun q:Option Addr×Nat×Nat=> .tuple #[.slice q.1 q.2.1 q.2.2, .int .i64 0]) (fun q=>[.irow .u8 q.1 q.2.1 (S.encS z.o)]) fun _=>True):=
 Gv.of (encodeO z.o R.ok _ _ w R.row R.cap) fun v w' _ ⟨a',n',c',xs,hv,O,hx⟩=>⟨(a',n',c'),by rw[hv,hc],trivial,sep1 (by rw[if_pos hc]at hx;subst hx;exact iown_irow (iown_ok O))⟩
theorem lawGreat24(o:S.OpV)(w:World):
  Calls prog 23 #[.agg (acC o).toArray] w (Ret w fun v _=>v= .bool (decide (100<o.key.size∨100<o.t.size))):=by
 refine J.enter 13 func23 rfl rfl ?_;refine run ?_;refine J.box rfl rfl rfl fun b1=>?_
 refine run ?_;refine J.spd rfl rfl rfl (fun c=>?_) (fun c=>?_)
 ·refine run ?_;exact J.fin (congrArg _ (decide_eq_true (.inl (by omega))).symm)
 refine run ?_;exact J.fin (congrArg _ (decide_eq_decide.2 ⟨fun h=> .inr (by omega),fun h=>by rcases h with h|h<;>omega⟩))
theorem bFirst{S0:Nat→Prop}(a:Option Addr)(w:World)(O:GRow inC 1 S0 w a 2 [0,0]):
  Calls prog 99 #[.slice a 2 2] w (Ret w fun v _=>v= .int .i64 0):=by
 refine J.enter 14 func99 rfl rfl ?_;refine run ?_;refine J.loopS (A:=Int) (fun p=>[(7, .int .i64 p)]) [2,4,8,9,10,11,12,13,14] (fun p=>0≤p∧p≤2) (fun p=>2 - p.toNat) 0 (by kernel_rfl) ⟨by omega,by omega⟩ (fun p j hI=>?_);refine run ?_;refine J.ifd rfl (fun c1=>?_) (fun c1=>?_)
 ·have hq:([0,0]:List Int)[p.toNat]? =some 0:=by
   rcases(show p.toNat=0∨p.toNat=1 by omega)with h|h<;>rw[h]<;>rfl
  refine run ?_;exact J.nextS (p+1) ⟨rfl,trivial⟩ (by kernel_rfl) ⟨by omega,by omega⟩ (by omega)
 refine run ?_;exact J.fin rfl
def BldP(x:Int)(n:Nat)(ids:List Int)(st:Int)(o:S.OpV)(q:OpA×Option Addr×Nat×Nat):Prop:=q.1.o=S.bldV x n ids st o∧q.1.o.n≤q.1.pc
@[reducible] def bldC(x:Int)(n:Nat)(ids:List Int)(st:Int)(o:S.OpV)(q:OpA×Option Addr×Nat×Nat):Value:= .tuple #[.agg (opC q.1).toArray, .slice q.2.1 q.2.2.1 q.2.2.2, .agg (ints .u8 (S.bldI x n ids st o)).toArray, .int .i64 (S.bldE x n ids st o)]
@[reducible] def bldP(x:Int)(n:Nat)(ids:List Int)(st:Int)(o:S.OpV)(q:OpA×Option Addr×Nat×Nat):List Ent:=[.wrow .u8 32 q.1.pa q.1.o.n q.1.o.ids, .irow .u8 q.2.1 q.2.2.1 (S.bldB x n ids st o)]
theorem bldO_ok{n:Nat}{ids:List Int}{st:Int}{o:S.OpV}(ho:o.ok)(hs:0≤st∧st<18446744073709551616):(S.bldO n ids st o).ok:=⟨(by show(0:Int)≤0∧(0:Int)<4294967296;decide),hs,ho.k,ho.vk,ho.num,ho.bits,(by show(0:Int)≤0∧(0:Int)<4294967296;decide),(by show(0:Int)≤0∧(0:Int)<4294967296;decide),by have:=S.preN_le n ids;show S.preN n ids≤40;omega,ho.key,ho.t⟩
theorem bBuild(x:Int)(hx:0≤x∧x<4294967296){S0:Nat→Prop}(a:Option Addr)(n c:Nat)(ids:List Int)(st:Int)(hs:0≤st∧st<18446744073709551616)(o:S.OpV)(ho:o.ok)(TK:TypeId)(w:World)(K0:Kst w TK)(D0:WRow .u8 32 S0 w a n ids)(hc:n≤c)(hn:n≤1000):
  Calls prog 17 #[.int .u32 x, .slice a n c, .int .u64 st, .agg (acC o).toArray] w (Gv w (bldC x n ids st o) (bldP x n ids st o) (BldP x n ids st o)):=by
 have hok:=bldO_ok (n:=n) (ids:=ids) ho hs;have h4:=S.preN_le n ids;refine J.enter 56 func17 rfl rfl ?_;refine run ?_;refine J.box rfl rfl rfl fun b1=>?_
 refine J.alloc rfl fun b2=>?_
 refine run ?_;refine J.alloc rfl fun b3=>?_
 refine run ?_;refine J.call rfl rfl (fun w' M=>bPreds a n c ids w' (D0.ext M.ext) hc hn) fun q hq=>?_
 refine run ?_;refine J.ifn rfl (fun c1=>?_) (fun c1=>?_)
 ·have he:=S.bldE_1 (x:=x) (st:=st) (o:=o) c1;obtain⟨e1,e2,e3⟩:=S.bld_no (x:=x) (n:=n) (ids:=ids) (st:=st) (o:=o) (by rw[he];exact c1);refine run ?_;refine J.bz rfl ?_;refine run ?_;refine J.nilR .u8 (J.nilW .u8 32 ?_);refine J.finG (⟨S.OpV.zero,none,0⟩,none,0,0) ?_ ⟨e1.symm,Nat.le_refl _⟩ ?_
  ·unfold bldC;rw[he,e3];rfl
  unfold bldP;rw[e2];exact .cons_cons _ (.cons_cons _ (List.nil_sublist _))
 have he:=S.bldE_2 (x:=x) (st:=st) (o:=o) c1;refine run ?_;refine J.call rfl rfl (fun w' M=>(RW.own' (a:=q.1) w' M).elim fun _ k0=>signB x hx ⟨S.bldO n ids st o,q.1,q.2⟩ TK w' (K0.ext M.ext) ⟨hok,k0,hq⟩) fun z hz=>?_
 obtain⟨⟨zo,zp,zc⟩,ze⟩:=z;obtain⟨hz1,hz2,hz3⟩:=hz;dsimp only at hz1 hz2 hz3⊢;subst hz2 hz3;refine run ?_;refine J.alloc rfl fun b4=>?_
 refine run ?_;refine J.ifn rfl (fun c2=>?_) (fun c2=>?_)
 ·obtain⟨e1,e2,e3⟩:=S.bld_no (x:=x) (n:=n) (ids:=ids) (st:=st) (o:=o) (by rw[he];exact c2);refine run ?_;refine J.bz rfl ?_;refine run ?_;refine J.nilR .u8 (J.nilW .u8 32 ?_);refine J.finG (⟨S.OpV.zero,none,0⟩,none,0,0) ?_ ⟨e1.symm,Nat.le_refl _⟩ ?_
  ·unfold bldC;rw[he,e3];rfl
  unfold bldP;rw[e2];exact .cons_cons _ (.cons_cons _ (List.nil_sublist _))
 refine J.fact (.wown 24 .u8 32 q.1 (S.preN n ids) q.2 (S.preL n ids)) (fun _ _ h=>(wown_len h).1) fun hpl=>?_
 have hg:=S.sign_good hok hpl c2;have hck:S.checkE (S.signS x (S.bldO n ids st o))=0:=hg.2.2.1;have hso:=S.signS_ok x _ hok;have hA:Arr .u8 32 (S.sha (S.encS (S.signS x (S.bldO n ids st o)))):=S.sha_arr _;obtain⟨e1,e2,e3⟩:=S.bld_yes (x:=x) (n:=n) (ids:=ids) (st:=st) (o:=o) (by rw[he];exact c2);refine run ?_;refine J.call rfl rfl (fun w' M=>(RW.row' (a:=zp) w' M).elim fun _ k0=>encB ⟨S.signS x (S.bldO n ids st o),zp,zc⟩ w' ⟨hso,k0,hz1⟩ hck) fun y hy=>?_
 refine run ?_;refine J.callp rfl rfl (fun w' M=>(RW.row' (a:=zp) w' M).elim fun _ k0=>idO (S.signS x (S.bldO n ids st o)) hso zp zc _ w' (K0.ext M.ext) k0 hz1) ?_;rw[if_pos hck,hck];refine run ?_;refine J.alloc rfl fun b5=>?_
 refine run ?_;refine J.regionR [.blk b5 (ints .u8 (S.sha (S.encS (S.signS x (S.bldO n ids st o))))) 24, .blk b4 (opC ⟨S.signS x (S.bldO n ids st o),zp,zc⟩) 37] [(0, .q),(1, .q),(2, .q),(3, .q),(4, .q),(5, .e),(6, .e),(7, .e),(8, .q),(9, .e),(10, .q)] mixed (by kernel_rfl) (by repeat(first|exact List.Sublist.refl _|refine List.Sublist.cons_cons _ ?_|refine List.Sublist.cons _ ?_)) ?_;refine run ?_;refine J.b2V (p:=0) (q:=0) inC (fun _=>rfl) rfl rfl rfl rfl rfl rfl rfl fun b6=>?_
 refine J.callp rfl rfl (fun w' M=>(RG.own' (a:=some ⟨b6,0,none⟩) w' M).elim fun _ k0=>bFirst _ w' k0) ?_;refine run ?_;refine J.front (.wrow .u8 32 zp (S.signS x (S.bldO n ids st o)).n (S.signS x (S.bldO n ids st o)).ids) ?_;refine J.finG (⟨S.signS x (S.bldO n ids st o),zp,zc⟩,y) ?_ ⟨e1.symm,hz1⟩ ?_
 ·unfold bldC;rw[he,c2,e3]
 unfold bldP;rw[e2]
 repeat(first|exact List.nil_sublist _|refine List.Sublist.cons_cons _ ?_|refine List.Sublist.cons _ ?_)
end W
namespace L
open Go Go.Proofs.YtkibkhgcbepolaaGreatDoor G W
open Go.ChangeShapes Go.WideShapes Go.ChangeAt Go.RowKit
set_option maxRecDepth 100000
section
variable{H:Type}{enc:TypeId×Value→H}{w:World}{base:Nat}{sp:Nat→Bool}{held:Bool}{fuel:Nat}{cs:List Value}{x:DataW H×List MemPlace}
theorem act_in(h:DataW.trod enc prog w base sp held fuel 33 cs=some x):∃o:S.OpV,cs=acC o∧o.rng∧o.n=0:=by
  have hl:=(fields_in underlying33 h).1;rw[z_act]at hl
  match cs,hl,h with
  |[c3,c4,c5,c6,c7,c8],_,f3=>
    obtain⟨_,_,g0⟩:=field_in 0 underlying33 rfl z_u8 f3;obtain⟨_,_,g1⟩:=field_in 1 underlying33 rfl z_str f3;obtain⟨_,_,g2⟩:=field_in 2 underlying33 rfl z_val f3;obtain⟨k,e3,r3⟩:=int_in underlying5 g0;obtain⟨key,e4,_,_⟩:=DataW.trod_string underlying9 g1;obtain⟨_,_,v0⟩:=field_in 0 underlying31 rfl z_u8 g2;obtain⟨_,_,v1⟩:=field_in 1 underlying31 rfl z_i64 g2;obtain⟨_,_,v2⟩:=field_in 2 underlying31 rfl z_u64 g2;obtain⟨_,_,v3⟩:=field_in 3 underlying31 rfl z_str g2;obtain⟨vk,e5,r5⟩:=int_in underlying5 v0;obtain⟨num,e6,r6⟩:=int_in underlying2 v1;obtain⟨bits,e7,r7⟩:=int_in underlying29 v2;obtain⟨tx,e8,_,_⟩:=DataW.trod_string underlying9 v3;have q3:[c3]=[Value.int .u8 k]:=e3;have q4:[c4]=[Value.string key]:=e4;have q5:[c5]=[Value.int .u8 vk]:=e5;have q6:[c6]=[Value.int .i64 num]:=e6;have q7:[c7]=[Value.int .u64 bits]:=e7;have q8:[c8]=[Value.string tx]:=e8;simp only[List.cons.injEq,and_true]at q3 q4 q5 q6 q7 q8;subst q3 q4 q5 q6 q7 q8;have u8:IntKind.min .u8=0∧IntKind.max .u8=255:=by decide
    have u64:IntKind.min .u64=0∧IntKind.max .u64=18446744073709551615:=by decide
    have i64:IntKind.min .i64= -9223372036854775808∧IntKind.max .i64=9223372036854775807:=by decide
    refine⟨⟨0,0,k,vk,num,bits,0,0,0,[],key,tx⟩,rfl,⟨?_,?_,?_,?_,?_,?_,?_,?_⟩,rfl⟩<;>dsimp only<;>omega
end
end L
namespace W
open Go.RowKit G
set_option maxRecDepth 20000
set_option maxHeartbeats 8000000
attribute [local irreducible] RS RX RY Code.wp bodyPost J Ent.blk Ent.irow Ent.iown Ent.wrow Ent.wown Ent.gown Ent.all Ent.emp
instance:Ents prog 80:=⟨.mk func80 (by kernel_rfl) rfl⟩
instance:Ents prog 16:=⟨.mk func16 (by kernel_rfl) rfl⟩
instance:Ents prog 17:=⟨.mk func17 (by kernel_rfl) rfl⟩
@[reducible] def bdC(r:S.BdV)(q:OpA×Option Addr×Nat×Nat):Value:= .tuple #[.agg (opC q.1).toArray, .slice q.2.1 q.2.2.1 q.2.2.2, .agg (ints .u8 r.i).toArray, .int .i64 r.e]
@[reducible] def bdP(r:S.BdV)(q:OpA×Option Addr×Nat×Nat):List Ent:=[.wrow .u8 32 q.1.pa q.1.o.n q.1.o.ids, .irow .u8 q.2.1 q.2.2.1 r.b]
def BdP(r:S.BdV)(q:OpA×Option Addr×Nat×Nat):Prop:=q.1.o=r.o∧q.1.o.n≤q.1.pc
theorem bBuildR(x:Int)(hx:0≤x∧x<4294967296){S0:Nat→Prop}(a:Option Addr)(n c:Nat)(ids:List Int)(st:Int)(hs:0≤st∧st<18446744073709551616)(o:S.OpV)(ho:o.ok)(TK:TypeId)(w:World)(K0:Kst w TK)(D0:WRow .u8 32 S0 w a n ids)(hc:n≤c)(hn:n≤1000):
  Calls prog 17 #[.int .u32 x, .slice a n c, .int .u64 st, .agg (acC o).toArray] w (Gv w (bdC (S.bldR x n ids st o)) (bdP (S.bldR x n ids st o)) (BdP (S.bldR x n ids st o))):=bBuild x hx a n c ids st hs o ho TK w K0 D0 hc hn
theorem bFirst2{S0:Nat→Prop}(a:Option Addr)(e:Int)(w:World)(O:GRow inC 1 S0 w a 2 [e,0]):
  Calls prog 99 #[.slice a 2 2] w (Ret w fun v _=>v= .int .i64 e):=by
 refine J.enter 14 func99 rfl rfl ?_;refine run ?_;refine J.loopS (A:=Int) (fun p=>[(7, .int .i64 p)]) [4,8,9,10,11,12,13,14] (fun p=>(0≤p∧p≤2)∧(0<p→e=0)) (fun p=>2 - p.toNat) 0 (by kernel_rfl) ⟨by omega,fun h=>by omega⟩ (fun p j hI=>?_);obtain⟨hI,he⟩:=hI;refine run ?_;refine J.ifd rfl (fun c1=>?_) (fun c1=>?_)
 ·have hq:([e,0]:List Int)[p.toNat]? =some (if p=0 then e else 0):=by
   rcases(show p=0∨p=1 by omega)with h|h
   ·subst h;rfl
   subst h;rfl
  refine run ?_;refine J.ifn rfl (fun c2=>?_) (fun c2=>?_)
  ·have e0:p=0:=by
    rcases(show p=0∨p=1 by omega)with h|h
    ·exact h
    rw[if_neg (by omega)]at c2;exact absurd rfl c2
   refine run ?_;exact J.fin (congrArg _ (if_pos e0))
  refine run ?_;refine J.nextS (p+1) ⟨rfl,trivial⟩ (by kernel_rfl) ⟨by omega,fun _=>?_⟩ (by omega);rcases(show p=0∨p=1 by omega)with h|h
  ·rw[if_pos h]at c2;exact c2
  exact he (by omega)
 refine run ?_;exact J.fin (congrArg _ (he (by omega)).symm)
theorem stHeads2{S0:Nat→Prop}(s:ShA)(TK:TypeId)(w:World)(K0:Kst w TK)(H:ShR S0 w s)(hL:ShL s)(hok:S.okR s.V):
  Calls prog 70 #[.agg (shC s).toArray] w (Gv w (fun q:Option Addr×Nat×Nat=> .tuple #[.slice q.1 q.2.1 q.2.2, .int .i64 s.ver, .int .i64 0]) (fun q=>[.wrow .u8 32 q.1 q.2.1 s.hs]) fun q=>q.2.1≤100∧q.2.1≤q.2.2∧q.2.1=s.hn):=by
 have hcp:=H.cap;refine J.enter 15 func70 rfl rfl ?_;refine run ?_;refine J.box rfl rfl rfl fun b1=>?_
 refine run ?_;refine J.callp rfl rfl (fun w' M=>shCheck s _ w' (K0.ext M.ext) (H.ext M.ext) hL) ?_;rw[S.chkH_0 hok];refine run ?_;refine J.regionR [.blk b1 (shC s) 53] [(0, .q),(1, .q),(3, .q),(4, .q),(2, .e),(5, .q),(6, .q),(7, .q)] mixed (by kernel_rfl) (by repeat(first|exact List.Sublist.refl _|refine List.Sublist.cons_cons _ ?_|refine List.Sublist.cons _ ?_)) ?_;refine run ?_;refine J.call rfl rfl (fun w' M=>cloneW _ _ _ _ _ (H.hr.ext M.ext) hcp.2.1 (by omega)) fun q hq=>?_
 refine run ?_;refine J.re (.wown 24 .u8 32 q.1 s.hn q.2 s.hs) (.wrow .u8 32 q.1 s.hn s.hs) (fun S w=>wown_wrow) ?_;exact J.finG (q.1,s.hn,q.2) rfl ⟨hcp.2.2.2,hq,rfl⟩ sb
theorem bWrite(x:Int)(hx:0≤x∧x<4294967296){S0:Nat→Prop}(s:StA)(o:S.OpV)(ho:o.ok)(TK:TypeId)(w:World)(K0:Kst w TK)(H:StR S0 w s):
  Calls prog 20 #[.agg (srC s).toArray, .int .u32 x, .agg (acC o).toArray] w (Gv w (bdC (S.wrtR s.V x o)) (bdP (S.wrtR s.V x o)) (BdP (S.wrtR s.V x o))):=by
 have hcp:=H.sh.cap;refine J.enter 55 func20 rfl rfl ?_;refine run ?_;refine J.box rfl rfl rfl fun b1=>?_
 refine J.box rfl rfl rfl fun b2=>?_
 refine J.alloc rfl fun b3=>?_
 refine run ?_;refine J.alloc rfl fun b4=>?_
 refine run ?_;refine J.call rfl rfl (fun w' M=>stGraph s TK w' (K0.ext M.ext) (H.ext M.ext)) fun q hq=>?_
 dsimp only[grE,List.cons_append,List.nil_append];refine run ?_;refine J.alloc rfl fun b5=>?_
 refine run ?_;refine J.ifn rfl (fun c1=>?_) (fun c1=>?_)
 ·obtain⟨k1,k2⟩:=S.chkT_ne c1;rw[S.wrt_8 k1,k2];refine run ?_;refine J.bz rfl ?_;refine run ?_;refine J.nilR .u8 (J.nilW .u8 32 ?_);exact J.finG (⟨S.OpV.zero,none,0⟩,none,0,0) rfl ⟨rfl,Nat.le_refl _⟩ sb
 have hok:=S.chkT_iff.1 c1;have F:=S.ok_fineT H.g hok;obtain⟨n1,n4⟩:=ok_len H.sh hok.1.2.1;rw[S.grT_0 hok]at hq;have hqs:=GrP.sz hq ⟨F.fine.good,F.fine.le⟩;have hqok:=hq.ok (refWholeOk H.sh);have hqP:=GrP.P hq;refine run ?_;refine J.callp rfl rfl (fun w' M=>bStamp q TK w' (K0.ext M.ext) (GrR.own hqok hq.cap hqs w' M)) ?_;rw[hqP];refine run ?_;refine J.call rfl rfl (fun w' M=>stHeads2 s.sh TK w' (K0.ext M.ext) (H.sh.ext M.ext) H.L hok.1.2.1) fun d hd=>?_
 obtain⟨ha,hn,hc⟩:=d;dsimp only at hd⊢;obtain⟨hn1,hn2,rfl⟩:=hd;refine run ?_;refine J.b2V (p:=S.stmE (S.whole s.sh.V.ps)) (q:=0) inC (fun _=>rfl) rfl rfl rfl rfl rfl rfl rfl fun b6=>?_
 refine J.callp rfl rfl (fun w' M=>(RG.own' (a:=some ⟨b6,0,none⟩) w' M).elim fun _ k0=>bFirst2 _ _ w' k0) ?_;refine run ?_;refine J.ifn rfl (fun c2=>?_) (fun c2=>?_)
 ·rw[S.wrt_s hok c2];refine run ?_;refine J.bz rfl ?_;refine run ?_;refine J.nilR .u8 (J.nilW .u8 32 ?_);exact J.finG (⟨S.OpV.zero,none,0⟩,none,0,0) rfl ⟨rfl,Nat.le_refl _⟩ sb
 have hsu:0≤S.stmV (S.whole s.sh.V.ps)∧S.stmV (S.whole s.sh.V.ps)<18446744073709551616:=⟨(S.stm_rng c2).1,Int.lt_of_le_of_lt (S.stm_rng c2).2 (by decide)⟩
 have hhs:s.sh.hs=S.hdI (S.whole s.sh.V.ps):=F.hs;have hhn:S.hdN (S.whole s.sh.V.ps)=s.sh.hn:=by
  have h1:(S.hdI (S.whole s.sh.V.ps)).length=32*S.hdN (S.whole s.sh.V.ps):=(S.hd_all F.fine).1;have h2:=H.sh.hr.len;rw[←hhs]at h1;omega
 have ew:=S.wrt_0 (x:=x) (o:=o) hok c2;rw[show S.hdN (S.whole s.V.sh.ps)=s.sh.hn from hhn,show S.hdI (S.whole s.V.sh.ps)=s.sh.hs from hhs.symm]at ew;rw[ew];have hf:(S.bldR x s.sh.hn s.sh.hs (S.stmV (S.whole s.sh.V.ps)) o).fit:=S.bld_fit ho hsu H.sh.hr.len;have hA:=hf.i;refine run ?_;refine J.call rfl rfl (fun w' M=>(RW.row' (a:=ha) w' M).elim fun _ k0=>bBuildR x hx ha s.sh.hn hc s.sh.hs (S.stmV (S.whole s.sh.V.ps)) hsu o ho TK w' (K0.ext M.ext) k0 hn2 (by omega)) fun u hu=>?_
 refine run ?_;exact J.finG u rfl hu sb
end W
namespace G
open Go.RowKit
section
variable{S0:Nat→Prop}{w0:World}{L:List Ent}{P:Program}{ops:Array Oper}{K:List Value→World→Prop}{rest:List (Oper×Kd)}{l:List Value}{m:Md}{d:Tmp}{ty t e:TypeId}{pos:String}{af:Array Edge}{kd:Kd}{α:Type}
theorem J.bnG{n sz by_:Nat}{parts:Array (Nat×Operand)}{zs vs:List Value}(f:α→List Value)(qs:List α)(hf:∀x,(f x).length=sz)[U:Und P t (.slice e)][I:Inf P e sz by_ zs]{l':Nat→List Value}(hk:okE m kd=true)(hv:(parts.toList.map Prod.snd).map (ev l)=vs)(hc:vs.flatMap (·.cells.toList)=qs.flatMap f)(hcs:∀v∈vs,v.cells.size=sz)
  (kk:∀b,J S0 w0 (.gown f sz e (some ⟨b,0,none⟩) n n qs::L) (RY S0 w0 m P ops K rest (l' b)))(hp:parts.toList=enumV 0 (parts.toList.map Prod.snd):=by rfl)(hl2:vs.length=n:=by rfl)(hq:qs.length=n:=by rfl)(hz:0<sz:=by decide)(hn:Nat.ble n 1000=true:=by rfl)(hz2:Nat.ble sz 1000=true:=by rfl)(h0:Nat.ble 1 n=true:=by rfl)
  (hl:∀b,l.set d (.slice (some ⟨b,0,none⟩) n n)=l' b:=by intro b;dsimp only[List.set]):J S0 w0 L (RY S0 w0 m P ops K ((⟨some d, .buildSlice t n parts,ty,pos,af,none⟩,kd)::rest) l):=
 J.eff hk fun w M K' hK => RS.buildSlice (vs := vs) (cs := qs.flatMap f) U.h I.h hz hn hz2 hp hv hl2 hc hcs h0 fun b w' e1 s1 x1 B => RS.nil (hK _ w' x1 (by
  rw [hl]
  exact kk b w' (M.new x1 (gown_blk (lst := qs) ⟨by subst e1; exact Nat.le_refl _, B⟩ hf rfl hq (by have := Nat.le_of_ble_eq_true hn; omega)))))
theorem run0 {X : World → Prop} {q : Prop} (k : q) (h : Hold q → J S0 w0 L X := by
 intro k
 repeat (first
  | refine J.thn ?_
  | refine J.sq ?_
  | refine J.block ?_
  | refine J.skip ?_
  | refine J.exit ?_
  | refine J.the ?_
  | refine J.ibe ?_
  | refine J.ibn ?_
  | refine J.ibx rfl ?_
  | refine J.ift rfl ?_
  | refine J.iff rfl ?_)
 exact k.out) : J S0 w0 L X := h ⟨k⟩
end
abbrev FW(ro:Option Nat):Fence:= {Fence.wide with round:=ro}
def noDef(o:Oper):Bool:=match o.op with
 | .defer _=>false
 |_=>true
theorem noDef_ne{o:Oper}(h:noDef o=true)(c:Call):o.op≠ .defer c:=fun e=>by
 unfold noDef at h;rw[e]at h;cases h
section
variable{P:Program}{ops:Array Oper}{K:List Value→World→Prop}{Q:Exit→Act→World→Prop}{n:Nat}{ro:Option Nat}{ds:List Deferred}
theorem callsW{f:FuncId}{args:Array Value}{w:World}{R:Ending→World→Prop}(h:Calls P f args w R):CallsIn (FW ro) n P f args w R:=(callsIn_wide (n:=n)).2 h
theorem rowsW{row:String}{args:Array Value}{w:World}{R:Value→World→Prop}(h:Rows P row args w R):RowsIn (FW ro) n P row args w R:=fun c cs _=>let ⟨v,w',r,s⟩:=h c cs;⟨v,w',r,(stepsIn_wide (P:=P)).2 s⟩
theorem fr_inj{l l':List Value}(h:fr l=fr l'):l=l':=List.toArray_inj (congrArg Act.tmps h)
theorem put_ds(l:List Value)(d:Option Tmp)(v:Value):(⟨l.toArray,ds⟩:Act).put d v=⟨(putL d v l).toArray,ds⟩:=by cases d<;>simp[Act.put,putL]
theorem uponW{o:Oper}{l:List Value}{nx nx':Act→World→Prop}(hn:∀l' w',nx (fr l') w'→nx' ⟨l'.toArray,ds⟩ w'){r:Result Next}(h:o.upon P (fr l) (fun a' w'=>∃l',a'=fr l'∧nx (fr l') w') (fun _ _ _=>False) r):o.uponIn (FW ro) n P ⟨l.toArray,ds⟩ nx' Q r:=by
 have put1:∀v w',(∃l',(fr l).put o.dst v=fr l'∧nx (fr l') w')→nx' ((⟨l.toArray,ds⟩:Act).put o.dst v) w':=fun v w' ⟨l',e,k⟩=>by
  rw[put_fr]at e;rw[put_ds,fr_inj e];exact hn l' w' k
 cases r with
 |ok x w=>
  cases x with
  |value v=>exact put1 v w h
  |skip=>exact put1 undef w h
  |defer d=>
   obtain⟨l',e,_⟩:=h;have:({fr l with defers:=d::(fr l).defers}:Act).put o.dst undef=fr l':=e;have e2:=congrArg Act.defers this;cases hd:o.dst<;>simp[hd,Act.put,fr]at e2
  |enter f args=>
   refine⟨fun h=>absurd (show(none:Option Nat).isSome=true from h) (by decide),?_⟩;have h:Calls P f args w _:=h;refine callsW (h.mono fun e w' he=>?_);cases e with
   |returned v=>exact put1 v w' he
   |panicked chain=>exact he.elim
   |outgrown=>
    obtain⟨a,w,k⟩:=he;exact k.elim
  |row row args=>
   refine⟨fun h=>absurd (show(none:Option Nat).isSome=true from h) (by decide),?_⟩;have h:Rows P row args w _:=h;exact rowsW (fun c cs=>let ⟨v,w',r,s⟩:=h c cs;⟨v,w',put1 v w' r,s⟩)
  |_=>exact h.elim
 |halt x w=>cases x<;>exact h.elim
theorem eval_ds(l:List Value):(⟨l.toArray,ds⟩:Act).eval=ev l:=by
 rw[←eval_fr];funext x;cases x<;>rfl
theorem rs_in{tail:List Oper}:∀(pre:List Oper) (l:List Value) (w:World),pre.all noDef=true→RS P ops K pre l w→(∀l' w',K l' w'→wpListIn (FW ro) n P ops Q tail ⟨l'.toArray,ds⟩ w')→wpListIn (FW ro) n P ops Q (pre++tail) ⟨l.toArray,ds⟩ w
 |[],l,w,_,h,k=>k l w h
 |o::rest,l,w,hn,h,k=>by
  rw[List.all_cons,Bool.and_eq_true]at hn;unfold RS at h;rw[List.cons_append];unfold wpListIn;split
  ·rename_i hw;rw[if_pos (by exact hw)]at h;refine⟨fun _ _=>trivial,?_⟩;rw[Oper.semAt_eq _ _ _ (noDef_ne hn.1),eval_ds];unfold Oper.wp at h;rw[eval_fr]at h;refine uponW (nx:=fun a' w'=>∃l',a'=fr l'∧RS P ops K rest l' w') (fun l' w' ⟨l2,e,r⟩=>?_) (upon_mono (fun a w' ⟨l',e,r⟩=>⟨l',e,l',rfl,r⟩) (fun _ _ _ h=>h) h);obtain rfl:=fr_inj e;exact rs_in rest l' w' hn.2 r k
  ·rename_i hw;rw[if_neg (by exact hw)]at h;refine⟨fun _ _=>trivial,?_⟩;rw[put_ds];exact rs_in rest _ w hn.2 h k
theorem region_ds{id:Nat}{l0:List Oper}{l:List Value}{w:World}(hn:l0.all noDef=true)(h:RS P l0.toArray (fun l w=>Q .normal ⟨l.toArray,ds⟩ w) l0 l w):(Code.region id l0.toArray false).wpIn (FW ro) n P Q ⟨l.toArray,ds⟩ w:=by
 refine wpIn_region_lit ?_;have:=rs_in (P:=P) (ro:=ro) (n:=n) (ds:=ds) (Q:=Q) (tail:=[]) l0 l w hn h (fun l' w' k=>k);rwa[List.append_nil]at this
end
/-! ### over a memory that is a list of parts -/
def Ent.defd(D:Nat):Ent:=⟨fun S w=>S D∧w.heap[D]? =some (.deferred (some [])),fun {S w w'} h k=>⟨h.1,(k D h.1 (Array.getElem?_eq_some_iff.1 h.2).1).trans h.2⟩,fun {S T w} h k=>⟨k D (Array.getElem?_eq_some_iff.1 h.2).1 h.1,h.2⟩⟩
@[reducible] def markD(D:Nat):List Deferred:=[{target:= .collected D,args:= #[]}]
def KD(ds:List Deferred)(Q:Exit→Act→World→Prop)(l:List Value)(w:World):Prop:=Q .normal ⟨l.toArray,ds⟩ w
section
variable{S0:Nat→Prop}{w0:World}{L L':List Ent}{P:Program}{Q:Exit→Act→World→Prop}{l:List Value}{x y c:Code}{o:Operand}{id:Nat}{n:Nat}{ro:Option Nat}{ds:List Deferred}{N:Act→World→Prop}
theorem J.dreg{l0:List Oper}{pl:List (Oper×Kd)}(h:J S0 w0 L (RY S0 w0 .s P l0.toArray (KD ds Q) pl l))(hn:l0.all noDef=true:=by rfl)(hp:l0.map (fun o=>(o,Kd.q))=pl:=by dsimp only[List.map]):J S0 w0 L ((Code.region id l0.toArray false).wpIn (FW ro) n P Q ⟨l.toArray,ds⟩):=fun w M=>by
 refine region_ds hn ?_;have:=h w M;subst hp;unfold RY at this;rw[List.map_map]at this;have e:(Prod.fst ∘ fun o:Oper=>(o,Kd.q))=_root_.id:=rfl;rwa[e,List.map_id]at this
theorem J.dnil{ops:Array Oper}(h:J S0 w0 L (Q .normal ⟨l.toArray,ds⟩)):J S0 w0 L (RY S0 w0 .s P ops (KD ds Q) [] l):=J.nil h
theorem J.dsq{a:Act}(h:J S0 w0 L (x.wpIn (FW ro) n P (Exit.then (y.wpIn (FW ro) n P Q) Q) a)):J S0 w0 L ((Code.seq x y).wpIn (FW ro) n P Q a):=fun w M=>wpIn_seq (h w M)
theorem J.dblk{a:Act}(h:J S0 w0 L (c.wpIn (FW ro) n P (Exit.inBlock id Q) a)):J S0 w0 L ((Code.block id c).wpIn (FW ro) n P Q a):=fun w M=>wpIn_block (h w M)
theorem J.dret{a:Act}(h:J S0 w0 L (Q .ret a)):J S0 w0 L (Code.ret.wpIn (FW ro) n P Q a):=fun w M=>wpIn_ret (h w M)
theorem J.dskip{a:Act}(h:J S0 w0 L (Q .normal a)):J S0 w0 L (Code.skip.wpIn (FW ro) n P Q a):=fun w M=>wpIn_skip (h w M)
theorem J.dife{a b:Int}(hc:ev l o= .bool (a==b))(ht:a=b→J S0 w0 L (x.wpIn (FW ro) n P Q ⟨l.toArray,ds⟩))(hf:a≠b→J S0 w0 L (y.wpIn (FW ro) n P Q ⟨l.toArray,ds⟩)):J S0 w0 L ((Code.cond o x y).wpIn (FW ro) n P Q ⟨l.toArray,ds⟩):=fun w M=>
 wpIn_cond_split (t:=a==b) ((congrFun (eval_ds l) o).trans hc) (fun h=>ht (by simpa using h) w M) (fun h=>hf (by simpa using h) w M)
theorem J.retM{D:Nat}{F:Ent→List Ent}[R:RE L (.defd D) F]{fn:Func}{Rr:Ending→World→Prop}(k:J S0 w0 (F .emp) (bodyPost P fn Rr .ret (fr l))):J S0 w0 L (bodyPostM Fence.wide n P fn Rr .ret ⟨l.toArray,markD D⟩):=fun w M=>by
 obtain⟨S,hS,⟨hD,hK⟩,hput⟩:=M.foc (R.h .emp);have hg:=grownBy_putObj' w D (.deferred none);obtain⟨_,v,h2,h3⟩:=k _ (hput (w.putObj D (.deferred none)) S ⟨hg.os,hg.tape,hg.output,hg.size,fun k hk hs=>hg.block k hk fun e=>by cases e;exact hs hD⟩ trivial fun b hb=> .inl hb);exact⟨by simp, .inl ⟨D,_,rfl,run_takeDeferred hK,⟨v,h2,h3⟩⟩⟩
theorem J.toM{fn:Func}{Rr:Ending→World→Prop}(k:J S0 w0 L (bodyPost P fn Rr .ret (fr l))):J S0 w0 L (bodyPostM Fence.wide n P fn Rr .ret (fr l)):=fun w M=>let ⟨_,v,h2,h3⟩:=k w M;⟨v,h2,h3⟩
theorem J.enterR{f:FuncId}{av:List Value}{fn:Func}{Rr:Ending→World→Prop}(u:Nat)(hf:P.funcs[f]? =some fn)(hb:fn.body=some c)(hu:fn.ntmps - av.length=u)(h:J no w0 [] (c.wp P (bodyPostM Fence.wide 9 P fn Rr) (fr l)))(hl:av++List.replicate u undef=l:=by dsimp only[List.reduceReplicate,List.cons_append,List.nil_append]):Calls P f av.toArray w0 Rr:=
 (callsIn_wide (n := 9)).1 (callsIn_of_wp_marks hf hb trivial ((wpIn_wide (n := 9)).2 (by
  subst hl
  have h2 := h w0 (Mem.first w0)
  have e : (av ++ List.replicate u undef).toArray = av.toArray ++ Array.replicate (fn.ntmps - av.toArray.size) undef := by simp [hu]
  have e2 : fr (av ++ List.replicate u undef) = { tmps := av.toArray ++ Array.replicate (fn.ntmps - av.toArray.size) undef, defers := [] } := congrArg (fun t => (⟨t, []⟩ : Act)) e
  rw [e2] at h2
  exact h2)))
end
section
variable{w w' W W':World}{B b n c:Nat}{cs:List Value}{T e:TypeId}{row:Option Nat}{a:Option Addr}{k:IntKind}{sz:Nat}{xs:List Int}{S:Nat→Prop}
theorem blk_own(h:Blk W b cs T)(hg:W.grownBy W' row)(hr:∀r,row=some r→B≤r∧∃o:Obj,W.heap[r]? =some o∧o.isCells=false):Blk W' b cs T:=by
 have hlt:=h.lt;unfold Blk at h⊢;refine(hg.block b hlt fun e=>?_).trans h;obtain⟨_,o,ho,hc⟩:=hr b e.symm;rw[h]at ho;cases ho;cases hc
theorem ext_own(h:Ext w W)(hB:w.heap.size≤B)(hg:W.grownBy W' row)(hr:∀r,row=some r→B≤r∧∃o:Obj,W.heap[r]? =some o∧o.isCells=false):Ext w W':=h.grown hg h.size (fun j e=>Nat.le_trans hB (hr j e).1)
theorem pr_ext(h:Ext w W)(k:Pr S W W')(hS:∀b,S b→w.heap.size≤b):Ext w W':=Below.trans h (k.below hS h.size)
theorem pr_no(h:Ext w W):Pr no w W:=⟨h.os,h.tape,h.output,h.size,fun k hk _=>h.block k hk⟩
end
/-! ### an iterator -/
section
variable{S0:Nat→Prop}{w0:World}{L:List Ent}{P:Program}{Q:Exit→Act→World→Prop}{l:List Value}{ops:Array Oper}{id n:Nat}{post:List Oper}
theorem J.from{X:World→Prop}{w:World}(h:J no w [] X):X w:=h w (Mem.first w)
theorem J.at{X:World→Prop}{w:World}(M:Mem S0 w0 L w)(h:J S0 w0 L X):X w:=h w M
def KY(n:Nat)(P:Program)(ops:Array Oper)(Q:Exit→Act→World→Prop)(post:List Oper)(l:List Value)(w:World):Prop:=wpListIn Fence.wide n P ops Q post (fr l) w
theorem J.regY{l0:List Oper}{pl:List (Oper×Kd)}(k n:Nat)(h:J S0 w0 L (RY S0 w0 .s P l0.toArray (KY n P l0.toArray Q post) pl l))(hn:(l0.take k).all noDef=true:=by rfl)(hp:(l0.take k).map (fun o=>(o,Kd.q))=pl:=by dsimp only[List.take,List.map])(hq:l0.drop k=post:=by dsimp only[List.drop]):J S0 w0 L ((Code.region id l0.toArray false).wp P Q (fr l)):=fun w M=>by
 refine(wpIn_wide (n:=n)).1 (wpIn_region_lit ?_);have h2:=h w M;subst hp hq;unfold RY at h2;rw[List.map_map]at h2;have e:(Prod.fst ∘ fun o:Oper=>(o,Kd.q))=_root_.id:=rfl;rw[e,List.map_id]at h2;have:=rs_in (P:=P) (ro:=none) (n:=n) (ds:=[]) (Q:=Q) (tail:=l0.drop k) (l0.take k) l w hn h2 (fun l' w' k=>k);rwa[List.take_append_drop]at this
theorem yield_step{d:Tmp}{x:Operand}{args:Array Operand}{ts:Array TypeId}{ty:TypeId}{pos:String}{af:Array Edge}{j lp:Nat}{vs:List Value}{w:World}{R:Ending→World→Prop}(hv:yielded ops l.toArray j=some true)(hx:ev l x= .func (.yield lp) #[] #[])(ha:args.toList.map (ev l)=vs)(hy:YieldAt Fence.wide (n - 1) P lp vs.toArray w R)
  (k:∀e w',R e w'→∃v,e= .returned v∧wpListIn Fence.wide n P ops Q post (fr (l.set d v)) w'):wpListIn Fence.wide n P ops Q (⟨some d, .call {callee:= .value x,args:=args,argTypes:=ts},ty,pos,af,some (j,true)⟩::post) (fr l) w:=by
 obtain⟨fn,tmps,assign,body,hy1,hy2⟩:=hy;unfold wpListIn;rw[if_pos (by simp[Region.wanted,hv])];refine⟨fun _ _=>trivial,?_⟩;have hr:(execOp (ev l) ⟨some d, .call {callee:= .value x,args:=args,argTypes:=ts},ty,pos,af,some (j,true)⟩).run P w= .ok (.round lp fn tmps assign body) w:=by
  simp only[execOp,resolve,args_map ha];rw[hx];simp[Deferred.ofValue,invoke,go_sem,hy1]
 rw[Oper.semAt_eq _ _ _ (by intro c e;cases e),eval_fr,hr];refine⟨fun h=>absurd (show(none:Option Nat).isSome=true from h) (by decide),hy2.mono fun e w' he=>?_⟩;obtain⟨v,rfl,hk⟩:=k e w' he;show wpListIn _ _ _ _ _ _ ((fr l).put (some d) v) w';rw[put_fr];exact hk
theorem yield_skip{d:Tmp}{op:Op}{ty:TypeId}{pos:String}{af:Array Edge}{j:Nat}{w:World}(hv:(yielded ops l.toArray j==some true)=false)(k:wpListIn Fence.wide n P ops Q post (fr (l.set d undef)) w):wpListIn Fence.wide n P ops Q (⟨some d,op,ty,pos,af,some (j,true)⟩::post) (fr l) w:=by
 unfold wpListIn;rw[if_neg (by simp only[Region.wanted];rw[hv];decide)];refine⟨fun _ _=>trivial,?_⟩;rw[put_fr];exact k
theorem rest_in{w:World}(hn:post.all noDef=true)(h:RS P ops (fun l w=>Q .normal (fr l) w) post l w):wpListIn Fence.wide n P ops Q post (fr l) w:=by
 have:=rs_in (P:=P) (ro:=none) (n:=n) (ds:=[]) (Q:=Q) (tail:=[]) post l w hn h (fun l' w' k=>k);rwa[List.append_nil]at this
theorem J.restY{pl:List (Oper×Kd)}{w:World}(h:J S0 w0 L (RY S0 w0 .s P ops (KN Q) pl l))(M:Mem S0 w0 L w)(hn:post.all noDef=true:=by rfl)(hp:post.map (fun o=>(o,Kd.q))=pl:=by dsimp only[List.map]):wpListIn Fence.wide n P ops Q post (fr l) w:=by
 refine rest_in hn ?_;have h2:=h w M;subst hp;unfold RY at h2;rw[List.map_map]at h2;have e:(Prod.fst ∘ fun o:Oper=>(o,Kd.q))=_root_.id:=rfl;rwa[e,List.map_id]at h2
end
abbrev IdB:= {xs:List Int // Arr .u8 32 xs}
def flatB(l:List IdB):List Int:=l.flatMap fun x=>x.1
theorem flatB_snoc(l:List IdB)(x:IdB):flatB (l++[x])=flatB l++x.1:=by unfold flatB;simp
def IterC(P:Program)(g:FuncId)(lb:List Value)(n:Nat)(xs:List Int)(w:World):Prop:=SeqStopsK Fence.wide 8 P g lb.toArray (fun x:IdB=> #[.agg (ints .u8 x.1).toArray]) (Below w.heap.size) (fun l=>l.length=n∧flatB l=xs) (fun l=>0<l.length∧0<n) 1000 w
theorem grown_ext{w w':World}(h:Ext w w'):w.grownBy w' none:=⟨h.os,h.tape,h.output,h.size,fun k hk _=>h.block k hk⟩
theorem enters_run{P:Program}{f:FuncId}(he:Enters P f)(args:Array Value)(w:World):(callFunc f args).run P w= .ok (.enter f args) w:=by
 obtain⟨fn,h1,h2,h3⟩:=he;have h4:¬fn.name= "runtime.NumGoroutine" :=by simpa using h2
 have h5:¬fn.body=none:=by intro e;simp[e]at h3
 simp[callFunc,h1,h4,h5,program,Sem.run]
theorem zip1{f:Array Value→Tmp×Value→Array Value}(hf:∀t p v,f t (p,v)=t.setIfInBounds p v)(l:List Value)(p:Tmp)(v:Value):Array.foldl f (fr l).tmps (#[p].zip #[v])=(l.set p v).toArray:=by
 simp[hf]
section
variable{S0:Nat→Prop}{w W w':World}{b5 b2 n c D:Nat}{cs cs2:List Value}{T T2 e:TypeId}{a:Option Addr}{k:IntKind}{sz:Nat}{xs:List Int}{L:List Ent}
theorem not_defd{b:Nat}(h:Blk W b cs T)(hD:W.heap[D]? =some (.deferred (some []))):¬b=D:=fun e=>by
 subst e;unfold Blk at h;rw[h]at hD;cases hD
theorem J.dthn{P:Program}{N:Act→World→Prop}{Q:Exit→Act→World→Prop}{w0:World}{a:Act}(h:J S0 w0 L (N a)):J S0 w0 L (Exit.then N Q .normal a):=h
end
section
variable{S:Nat→Prop}{w W w':World}{b3 b6 D:Nat}{cs cs6:List Value}{T T6:TypeId}
theorem others_pr (h : Pr S w w') (hS : ∀ b, S b → ∃ cs T, Blk w b cs T) : KeepsOthers w w' := ⟨h.size, fun k o hk ho => (h.block k (Array.getElem?_eq_some_iff.1 hk).1 fun hs => by
 obtain ⟨cs, T, hb⟩ := hS k hs
 unfold Blk at hb
 rw [hb] at hk
 cases hk
 cases ho).trans hk⟩
theorem memB1(h6:Blk W b6 cs6 T6):Mem (fun b=>b=b6) W [.blk b6 cs6 T6] W:=⟨Pr.refl _ _,fun b=>b=b6,no,fun b h=> .inl h,fun b h=>h.elim,fun b _ g=>g,⟨rfl,h6⟩,trivial⟩
theorem memD2(hx:Ext w W)(hD:W.heap[D]? =some (.deferred (some [])))(h3:Blk W b3 cs T)(h6:Blk W b6 cs6 T6)(d:¬b3=b6)(l1:w.heap.size≤D)(l2:w.heap.size≤b3)(l3:w.heap.size≤b6):Mem no w [.defd D, .blk b3 cs T, .blk b6 cs6 T6] W:=
 ⟨pr_no hx, fun b => b = D, fun b => b = b3 ∨ b = b6, fun b h => .inr (h ▸ l1), fun b h => .inr (h.elim (fun h => h ▸ l2) fun h => h ▸ l3), fun b h g => by
  subst h
  rcases g with g | g
  ·exact not_defd h3 hD g.symm
  ·exact not_defd h6 hD g.symm, ⟨rfl, hD⟩, fun b => b = b3, fun b => b = b6, fun b h => .inl h, fun b h => .inr h, fun b h g => d (h.symm.trans g), ⟨rfl, h3⟩, fun b => b = b6, no, fun b h => h, fun b h => h.elim, fun b _ g => g, ⟨rfl, h6⟩, trivial⟩
theorem memD1(hx:Ext w W)(hD:W.heap[D]? =some (.deferred (some [])))(h6:Blk W b6 cs6 T6)(l1:w.heap.size≤D)(l3:w.heap.size≤b6):Mem no w [.defd D, .blk b6 cs6 T6] W:=
 ⟨pr_no hx,fun b=>b=D,fun b=>b=b6,fun b h=> .inr (h▸l1),fun b h=> .inr (h▸l3),fun b h g=>not_defd h6 hD (g.symm.trans h),⟨rfl,hD⟩,fun b=>b=b6,no,fun b h=>h,fun b h=>h.elim,fun b _ g=>g,⟨rfl,h6⟩,trivial⟩
theorem blk_two{S0:Nat→Prop}{L:List Ent}(M:Mem S0 W (.blk b6 cs6 T6:: .blk b3 cs T::L) w'):¬b3=b6:=fun e=>by
 obtain⟨S,U,h1,h2,h3,⟨k1,k2⟩,S',U',g1,g2,g3,⟨q1,q2⟩,_⟩:=M.sep;subst e;exact h3 _ k1 (g1 _ q1)
end
end G
namespace W
open Go.RowKit G
set_option maxRecDepth 20000
set_option maxHeartbeats 8000000
attribute [local irreducible] RS RX RY Code.wp bodyPost J Ent.blk Ent.irow Ent.iown Ent.wrow Ent.wown Ent.gown Ent.all Ent.emp
instance:Ents prog 212:=⟨.mk func212 (by kernel_rfl) rfl⟩
theorem stMissing0(s:StA)(z:OpA)(w:World):
  Calls prog 119 #[.agg (srC s).toArray, .agg (opC z).toArray] w (Gv w (fun q:Nat×Nat=> .func (.func 212) #[] #[.pointer (some ⟨q.1,0,none⟩), .pointer (some ⟨q.2,0,none⟩)]) (fun q=>[.blk q.1 (opC z) 37, .blk q.2 (srC s) 55]) (fun _=>True)):=by
 refine J.enter 4 func119 rfl rfl ?_;refine run ?_;refine J.box rfl rfl rfl fun b1=>?_
 refine J.box rfl rfl rfl fun b2=>?_
 refine run ?_;refine J.fn rfl rfl rfl ?_;refine run ?_;exact J.finG (b2,b1) rfl trivial sb
theorem missIter{S0 S1:Nat→Prop}(s:StA)(z:OpA)(bo bs:Nat)(T T2:TypeId)(w0:World)(hbo:Blk w0 bo (opC z) T)(hbs:Blk w0 bs (srC s) T2)(D0:WRow .u8 32 S0 w0 s.oa s.on s.os)(D1:WRow .u8 32 S1 w0 z.pa z.o.n z.o.ids)(hn:s.on≤70)(hz:z.o.n≤40):
  IterC prog 212 [.pointer (some ⟨bo,0,none⟩), .pointer (some ⟨bs,0,none⟩)] (S.numF (S.absF s.on s.os z.o.ids) z.o.n) (S.selF (S.absF s.on s.os z.o.ids) z.o.ids z.o.n) w0:=by
 intro lp JJ Jx Wb hW hJ hJx hY h0;have hW:Ext w0 Wb:=hW;obtain⟨F,hF⟩:=ex (S.absF s.on s.os z.o.ids);rw[←hF];refine(callsIn_wide (n:=8)).2 ?_;show Calls prog 212 ([.func (.yield lp) #[] #[], .pointer (some ⟨bo,0,none⟩), .pointer (some ⟨bs,0,none⟩)]:List Value).toArray Wb _;have hbW:=hbo.ext hW;refine J.enter 22 func212 rfl rfl ?_;refine run ?_;refine J.ldOq hbW rfl ?_;refine run ?_;unfold J;intro w M;refine C.loop (A:=Nat×List IdB) (fun p=>[(9, .int .i64 (p.1:Nat))]) [5,10,11,12,13,14,15,16,17,18,19,20,21,22,23,24] (fun p w=>(p.1≤z.o.n∧p.2.length=S.numF F p.1∧flatB p.2=S.selF F z.o.ids p.1)∧Ext w0 w∧JJ p.2 w) (fun p=>z.o.n - p.1) (0,[]) (by kernel_rfl) ⟨⟨Nat.zero_le _,rfl,rfl⟩,hW.tr M.ext,hJ _ _ _ none h0 (grown_ext M.ext) (fun r e=>by cases e)⟩ (fun p j w hI=>?_);obtain⟨⟨hp1,hp2,hp3⟩,hw0,hjj⟩:=hI;obtain⟨p,pre⟩:=p;dsimp only at hp1 hp2 hp3 hjj;simp only[upd,junk,List.map_cons,List.map_nil,List.set_cons_succ,List.set_cons_zero];refine J.from ?_;have D1':=D1.ext hw0;have hbsW:=hbs.ext hw0;refine run ?_;refine J.ifd rfl (fun c1=>?_) (fun c1=>?_)
 rotate_left
 ·refine run ?_;obtain rfl:p=z.o.n:=by omega
  unfold J;exact fun w' M=>⟨⟨_,rfl⟩, .inl ⟨pre,⟨hp2,hp3⟩,hJ _ _ _ none hjj (grown_ext M.ext) (fun r e=>by cases e)⟩⟩
 obtain⟨y,hy⟩:=ex (elt 32 z.o.ids ((p:Nat):Int).toNat);have hyA:Arr .u8 32 y:=hy▸D1.elt_arr (by omega);have hyi:S.idAt z.o.ids p=y:=by rw[hy,Int.toNat_natCast];rfl
 have hFp:F p=decide (¬S.inS s.on s.os y):=by rw[hF];unfold S.absF;rw[hyi]
 refine run ?_;refine J.alloc rfl fun b5=>?_
 refine J.staw rfl rfl ?_;refine J.nilN ?_;refine run0 ?_;refine J.regY 8 8 ?_;refine run ?_;refine J.ldOq hbsW rfl ?_;refine run ?_;refine J.callp rfl rfl (fun w' M=>hasID _ _ _ _ _ w' ((D0.ext hw0).ext M.ext) hyA (by omega)) ?_;refine run ?_;refine J.spt rfl rfl rfl (fun c2=>?_) (fun c2=>?_)
 ·have hFt:F p=true:=by rw[hFp];exact decide_eq_true (of_decide_eq_false c2)
  refine run ?_;refine J.nil ?_;unfold J;intro w1 M1;unfold KY;refine yield_step (vs:=[.agg (ints .u8 y).toArray]) rfl rfl rfl (hY pre ⟨y,hyA⟩ w1 (hJ _ _ _ none hjj (grown_ext M1.ext) (fun r e=>by cases e)) (by have:=S.numF_le F p;omega)) (fun e w2 he=>?_);rcases he with⟨rfl,hj2,hk2⟩|⟨rfl,hx2⟩
  ·refine⟨_,rfl,J.restY (S0:=no) ?_ (Mem.first w2)⟩;have hw2:Ext w0 w2:=(hw0.tr M1.ext).trans hk2;refine run ?_;unfold J;intro w3 M3;refine C.next (p+1,pre++[(⟨y,hyA⟩:IdB)]) ⟨rfl,trivial⟩ (by kernel_rfl) ⟨⟨by dsimp only;omega,?_,?_⟩,hw2.tr M3.ext,hJ _ _ _ none hj2 (grown_ext M3.ext) (fun r e=>by cases e)⟩ (by dsimp only;omega)
   ·dsimp only;rw[List.length_append,S.numF,hFt,hp2];rfl
   dsimp only;rw[flatB_snoc,hp3,S.selF,hFt,hyi];rfl
  refine⟨_,rfl,J.restY (S0:=no) ?_ (Mem.first w2)⟩;refine run ?_;unfold J;intro w3 M3;refine⟨⟨_,rfl⟩, .inr ⟨_,⟨by simp,?_⟩,hJx _ _ _ none hx2 (grown_ext M3.ext) (fun r e=>by cases e)⟩⟩;have h1:S.numF F (p+1)=S.numF F p+1:=by rw[S.numF,hFt];rfl
  exact Nat.pos_of_ne_zero fun h=>by have:=S.numF_zero.1 h p (by omega);rw[hFt]at this;cases this
 have hFf:F p=false:=by rw[hFp];exact decide_eq_false (not_not_intro (of_decide_eq_true c2))
 refine run ?_;refine J.nil ?_;unfold J;intro w1 M1;unfold KY;refine yield_skip rfl ?_;refine J.restY ?_ M1;refine run ?_;unfold J;intro w3 M3;refine C.next (p+1,pre) ⟨rfl,trivial⟩ (by kernel_rfl) ⟨⟨by dsimp only;omega,?_,?_⟩,hw0.tr M3.ext,hJ _ _ _ none hjj (grown_ext M3.ext) (fun r e=>by cases e)⟩ (by dsimp only;omega)
 ·dsimp only;rw[S.numF,hFf,hp2];rfl
 dsimp only;rw[S.selF,hFf,hp3];exact(List.append_nil _).symm
instance:Ents prog 42:=⟨.mk func42 (by kernel_rfl) rfl⟩
instance:Ents prog 114:=⟨.mk func114 (by kernel_rfl) rfl⟩
instance:Ents prog 119:=⟨.mk func119 (by kernel_rfl) rfl⟩
instance:Inf prog 5 1 1 [.int .u8 0]:=⟨TI.of (v:= .int .u8 0) (by kernel_rfl) rfl⟩
theorem stAsked{S0 S1:Nat→Prop}(s:StA)(z:OpA)(TK:TypeId)(w:World)(K0:Kst w TK)(H:StR S0 w s)(R:OpR S1 w z):
  Calls prog 114 #[.agg (srC s).toArray, .agg (opC z).toArray] w (Ret w fun v _=>v= .int .i64 (S.askE s.V z.o)):=by
 refine J.enter 11 func114 rfl rfl ?_;refine run ?_;refine J.box rfl rfl rfl fun b1=>?_
 refine J.box rfl rfl rfl fun b2=>?_
 refine run ?_;refine J.callp rfl rfl (fun w' M=>stCheck s _ w' (K0.ext M.ext) (H.ext M.ext)) ?_;refine run ?_;refine J.ifn rfl (fun c1=>?_) (fun c1=>?_)
 ·obtain⟨k1,k2⟩:=S.chkT_ne c1;rw[k2];refine run ?_;exact J.fin (congrArg _ (S.askE_8 k1).symm)
 refine run ?_;refine J.callp rfl rfl (fun w' M=>verifyO z.o R.ok _ _ _ _ (K0.ext M.ext) (R.row.ext M.ext) R.cap) ?_;refine run ?_;exact J.fin (congrArg _ (S.askE_v (S.chkT_iff.1 c1)).symm)
theorem stVerdict{S0 S1:Nat→Prop}(s:StA)(z:OpA)(w:World)(H:StR S0 w s)(R:OpR S1 w z)(hv:s.on=s.sh.ver):
  Calls prog 115 #[.agg (srC s).toArray, .agg (opC z).toArray, .agg (ints .u8 (S.idOf z.o)).toArray] w (Ret w fun v _=>v= .int .u8 (S.judT s.V z.o)):=by
 have hcp:=H.cap;have h20:=R.ok.n;have hA:=S.sha_arr (S.encS z.o);show Calls prog 115 ([.agg (srC s).toArray, .agg (opC z).toArray, .agg (ints .u8 (S.idOf z.o)).toArray]:List Value).toArray w _;refine J.enterR 18 func115 rfl rfl ?_;refine run ?_;refine J.box rfl rfl rfl fun b3=>?_
 refine J.box rfl rfl rfl fun b4=>?_
 refine J.box rfl rfl rfl fun b5=>?_
 refine J.alloc rfl fun b6=>?_
 refine run ?_;refine J.callp rfl rfl (fun w' M=>hasID _ _ _ _ _ w' (H.os.ext M.ext) hA (by omega)) ?_;refine run ?_;refine J.ifd rfl (fun c1=>?_) (fun c1=>?_)
 ·refine run ?_;refine J.toM ?_;refine run ?_;exact J.fin (congrArg _ (S.jud_5 c1).symm)
 refine run ?_;refine J.call rfl rfl (fun w' M=>stMissing0 s z w') fun m _=>?_
 refine run ?_;refine J.front (.blk b3 (srC s) 55) ?_;refine J.front (.blk b6 [.int .u8 0] 5) ?_;unfold J;intro w1 M1;have x1:Ext w w1:=M1.ext;have d36:=blk_two M1;have hB6:=blkC b6 M1;have hB3:=blkC b3 M1;obtain⟨S6,hS6,h6⟩:=M1.get .here;obtain⟨S3,hS3,h3⟩:=M1.get (.there .here);have hb6:w.heap.size≤b6:=(hS6 b6 (blk_e h6).1).1.resolve_left fun h=>h;have hb3:w.heap.size≤b3:=(hS3 b3 (blk_e h3).1).1.resolve_left fun h=>h;have hit:=missIter s z m.1 m.2 _ _ w1 (blkC m.1 M1) (blkC m.2 M1) (H.os.ext x1) (R.row.ext x1) (by omega) (by omega);refine(wpIn_wide (n:=9)).1 ?_;refine wpIn_rangeFunc_ownF (F:=Fence.wide) (n:=9) (w:=w1) (gf:=212) rfl (by decide) (by rw[eval_fr];rfl) trivial (enters_run Ents.h) hit (fun h k=>belowK_t h k) (belowK_b (Nat.le_refl _)) (Below.refl _ _) (fun x=>rfl)
  (fun(k:List IdB) (Wb:World)=>k=[]∧Ext w Wb∧Blk Wb b3 (srC s) 55∧Blk Wb b6 [.int .u8 0] 5)
  (fun c _ Wb=>c= .ret∧Ext w Wb∧Blk Wb b6 [.int .u8 6] 5)
  (fun k A B row ⟨h0,hx,h1,h2⟩ hg hr=>⟨h0,ext_own hx x1.size hg hr,blk_own h1 hg hr,blk_own h2 hg hr⟩)
  (fun c k A B row ⟨h0,hx,h1⟩ hg hr=>⟨h0,ext_own hx x1.size hg hr,blk_own h1 hg hr⟩)
  ⟨rfl,x1,hB3,hB6⟩ (fun x=>fr [.agg (srC s).toArray, .agg (opC z).toArray, .agg (ints .u8 (S.idOf z.o)).toArray, .pointer (some ⟨b3,0,none⟩), .pointer (some ⟨b4,0,none⟩), .pointer (some ⟨b5,0,none⟩), .pointer (some ⟨b6,0,none⟩), .pointer (some ⟨b3,4,none⟩), .slice s.oa s.on s.oc, .agg (ints .u8 (S.idOf z.o)).toArray, .bool (decide (S.inS s.on s.os (S.idOf z.o))), .agg (srC s).toArray, .agg (opC z).toArray, .func (.func 212) #[] #[.pointer (some ⟨m.1,0,none⟩), .pointer (some ⟨m.2,0,none⟩)], .agg (ints .u8 x.1).toArray,undef,undef,undef,undef,undef,undef]) ?_ ?_ ?_ ?_
 ·intro r x Wb K hK;rw[zip1 (fun _ _ _=>rfl)];exact wpIn_skip hK
 ·intro r pre x Wb hI hlen;obtain⟨rfl,hx,i3,i6⟩:=hI;refine J.at (memB1 i6) ?_;refine J.dblk (J.dsq (J.dreg ?_));refine run ?_;refine J.dret ?_;unfold J;intro w2 M2;refine⟨others_pr M2.pr fun b h=>⟨_,_,h▸i6⟩,rfl,pr_ext hx M2.pr fun b h=>h▸hb6,blkC b6 M2⟩
 ·intro D ks Wb hD ⟨hk1,hk2⟩ ⟨h0,hx,i3,i6⟩ hK;subst h0;have hall:S.allI s.on s.os z.o.n z.o.ids:=S.abs_none.1 hk1.symm;show Code.wp _ (Code.seq _ _) _ ⟨([.agg (srC s).toArray, .agg (opC z).toArray, .agg (ints .u8 (S.idOf z.o)).toArray, .pointer (some ⟨b3,0,none⟩), .pointer (some ⟨b4,0,none⟩), .pointer (some ⟨b5,0,none⟩), .pointer (some ⟨b6,0,none⟩), .pointer (some ⟨b3,4,none⟩), .slice s.oa s.on s.oc, .agg (ints .u8 (S.idOf z.o)).toArray, .bool (decide (S.inS s.on s.os (S.idOf z.o))), .agg (srC s).toArray, .agg (opC z).toArray, .func (.func 212) #[] #[.pointer (some ⟨m.1,0,none⟩), .pointer (some ⟨m.2,0,none⟩)],undef,undef,undef,undef,undef,undef,undef]:List Value).toArray,markD D⟩ Wb;refine(wpIn_wide (n:=9)).1 ?_;refine J.at (memD2 hx hK i3 i6 d36 (Nat.le_trans x1.size hD) hb3 hb6) ?_;refine J.dsq (ro:=none) (J.dsq (J.dreg ?_));refine run ?_;refine J.dnil (J.dthn (P:=prog) (J.dife rfl (fun c3=>?_) (fun c3=>?_)))
  ·refine J.dsq (J.dreg ?_);refine run ?_;refine J.dnil (J.dthn (P:=prog) (J.dret ?_));refine J.retM ?_;refine run ?_;exact J.fin (congrArg _ (S.jud_8 c1 hall (by show(s.on:Int)=s.cap;omega)).symm)
  refine J.dskip (J.dthn (P:=prog) (J.dsq (J.dreg ?_)));refine run ?_;refine J.dnil (J.dthn (P:=prog) (J.dret ?_));refine J.retM ?_;refine run ?_;exact J.fin (congrArg _ (S.jud_1 c1 hall (by show(s.on:Int)≠s.cap;omega)).symm)
 intro D c pre Wb hD ⟨hp,hn⟩ ⟨hc,hx,i6⟩ hK;subst hc;have hall:¬S.allI s.on s.os z.o.n z.o.ids:=fun h=>by have:=S.abs_none.2 h;omega
 refine J.at (memD1 hx hK i6 (Nat.le_trans x1.size hD) hb6) ?_;refine J.dret (ro:=none) ?_;show J no w _ (bodyPostM Fence.wide 9 _ _ _ .ret ⟨([.agg (srC s).toArray, .agg (opC z).toArray, .agg (ints .u8 (S.idOf z.o)).toArray, .pointer (some ⟨b3,0,none⟩), .pointer (some ⟨b4,0,none⟩), .pointer (some ⟨b5,0,none⟩), .pointer (some ⟨b6,0,none⟩), .pointer (some ⟨b3,4,none⟩), .slice s.oa s.on s.oc, .agg (ints .u8 (S.idOf z.o)).toArray, .bool (decide (S.inS s.on s.os (S.idOf z.o))), .agg (srC s).toArray, .agg (opC z).toArray, .func (.func 212) #[] #[.pointer (some ⟨m.1,0,none⟩), .pointer (some ⟨m.2,0,none⟩)],undef,undef,undef,undef,undef,undef,undef]:List Value).toArray,markD D⟩);refine J.retM ?_;refine run ?_;exact J.fin (congrArg _ (S.jud_6 c1 hall).symm)
instance:Ents prog 209:=⟨.mk func209 (by kernel_rfl) rfl⟩
theorem cloneGr{S0:Nat→Prop}(a:Option Addr)(n c:Nat)(l:List GrA)(w:World)(D0:GRow (fun g:GrA=>grC g) 2 S0 w a n l)(hn:n≤1000):
  Calls prog 209 #[.slice a n c] w (Gv w (fun q:Option Addr×Nat=> .slice q.1 n q.2) (fun q=>[.gown (fun g:GrA=>grC g) 2 43 q.1 n q.2 l]) fun _=>True):=by
 refine J.enter 7 func209 rfl rfl ?_;refine run ?_;refine J.ifb rfl (fun c1=>?_) (fun c1=>?_)
 ·obtain⟨rfl,rfl⟩:=D0.none (by decide) c1;refine run ?_;refine J.nilG (fun g:GrA=>grC g) 2 43 grC_len ?_;exact J.finG (none,0) rfl trivial (.cons_cons _ (List.nil_sublist _))
 refine run ?_;refine J.b0G (fun g:GrA=>grC g) grC_len rfl fun b=>?_
 refine run ?_;refine J.apG rfl rfl (RG.arg D0) grC_one fun a' c'=>?_
 refine run ?_;refine J.re (.gown (fun g:GrA=>grC g) 2 43 a' (0+n) c' ([]++l)) (.gown (fun g:GrA=>grC g) 2 43 a' n c' l) (fun S w h=>by rw[Nat.zero_add]at h;exact h) ?_;exact J.finG (a',c') (by rw[Nat.zero_add]) trivial (.cons_cons _ (List.nil_sublist _))
structure TwO where
 (i:Nat)(D:List GrA)
theorem mid_at{α:Type}{D l:List α}{i:Nat}{x:α}(hD:D.length=i)(h:l[i]? =some x):(D++l.drop i)[((i:Nat):Int).toNat]? =some x:=by
 rw[Int.toNat_natCast,List.getElem?_append_right (by omega),hD,Nat.sub_self,List.getElem?_drop,Nat.add_zero];exact h
theorem stTwin{S0:Nat→Prop}(s:StA)(w:World)(H:StR S0 w s):
  Calls prog 116 #[.agg (srC s).toArray] w (Gv w (fun q:StA=> .agg (srC q).toArray) (fun q=>stE q) (StK s.V)):=by
 have P0:=H.sh.pr;have hl:=P0.len;have hcp:=H.sh.cap;have hcp2:=H.cap;refine J.enter 76 func116 rfl rfl ?_;refine run ?_;refine J.box rfl rfl rfl fun b1=>?_
 refine J.alloc rfl fun b2=>?_
 refine run ?_;refine J.regionX [(0, .q),(1, .q),(2, .q),(4, .q),(5, .q),(3, .e),(7, .q),(8, .q),(6, .e),(9, .g),(10, .q),(11, .g)] mixed (by kernel_rfl) ?_;refine run ?_;refine J.call rfl rfl (fun w' M=>cloneW s.sh.ha s.sh.hn s.sh.hc s.sh.hs w' (H.sh.hr.ext M.ext) hcp.2.1 (by omega)) fun q1 hq1=>?_
 refine run ?_;refine J.call rfl rfl (fun w' M=>cloneW s.oa s.on s.oc s.os w' (H.os.ext M.ext) hcp2.1 (by omega)) fun q2 hq2=>?_
 obtain⟨ha,hc⟩:=q1;obtain⟨oa,oc⟩:=q2;dsimp only at hq1 hq2⊢;refine run ?_;refine J.call rfl rfl (fun w' M=>cloneGr s.sh.pa s.sh.pn s.sh.pc s.sh.gs w' (P0.ext M.ext) (by omega)) fun q3 hq3=>?_
 obtain⟨pa,pc⟩:=q3;dsimp only at hq3⊢;refine run ?_;refine J.noA ?_;refine J.re (.gown (fun g:GrA=>grC g) 2 43 pa s.sh.pn pc s.sh.gs) (.gown (fun g:GrA=>grC g) 2 43 pa s.sh.pn pc ([]++s.sh.gs.drop 0)) (fun _ _ h=>h) ?_;refine J.re (.all []) (.all (([]:List GrA).map grAll)) (fun _ _ h=>h) ?_;refine J.front (.wown 24 .u8 32 oa s.on oc s.os) ?_;refine J.front (.wown 24 .u8 32 ha s.sh.hn hc s.sh.hs) ?_;refine J.front (.blk b1 [.int .i64 s.cap, .slice pa s.sh.pn pc, .slice ha s.sh.hn hc, .int .i64 s.sh.ver, .slice oa s.on oc] 55) ?_;refine J.front (.all (([]:List GrA).map grAll)) ?_;refine J.front (.gown (fun g:GrA=>grC g) 2 43 pa s.sh.pn pc ([]++s.sh.gs.drop 0)) ?_;refine J.drop (E:=[.gown (fun g:GrA=>grC g) 2 43 pa s.sh.pn pc ([]++s.sh.gs.drop 0), .all (([]:List GrA).map grAll), .blk b1 [.int .i64 s.cap, .slice pa s.sh.pn pc, .slice ha s.sh.hn hc, .int .i64 s.sh.ver, .slice oa s.on oc] 55, .wown 24 .u8 32 ha s.sh.hn hc s.sh.hs, .wown 24 .u8 32 oa s.on oc s.os, .blk b2 [.int .i64 0, .slice none 0 0, .slice none 0 0, .int .i64 0, .slice none 0 0] 55]) sb ?_;refine J.loop (A:=TwO) (fun p=>[(26, .int .i64 (p.i:Nat))]) [3,4,5,27,28,29,30,31,32,33,34,35,36,37,38,39,40,41,42,43,44,45,46,47,48,49,50,51,52,53,54,55,56,57,58,59,60,61,62,63,64,65,66,67,68,69,70,71,72,73,74,75] (fun p=>[.gown (fun g:GrA=>grC g) 2 43 pa s.sh.pn pc (p.D++s.sh.gs.drop p.i), .all (p.D.map grAll), .blk b1 [.int .i64 s.cap, .slice pa s.sh.pn pc, .slice ha s.sh.hn hc, .int .i64 s.sh.ver, .slice oa s.on oc] 55, .wown 24 .u8 32 ha s.sh.hn hc s.sh.hs, .wown 24 .u8 32 oa s.on oc s.os, .blk b2 [.int .i64 0, .slice none 0 0, .slice none 0 0, .int .i64 0, .slice none 0 0] 55]) (fun p=>p.i≤s.sh.pn∧p.D.length=p.i∧p.D.map GrA.P=s.sh.V.ps.take p.i∧∀x∈p.D,GrK x) (fun p=>s.sh.pn - p.i) ⟨0,[]⟩ (by kernel_rfl) ⟨Nat.zero_le _,rfl,rfl,fun z hz=>by cases hz⟩ (fun p j hI=>?_)
 obtain⟨hp,hD,hps,hpk⟩:=hI;refine run ?_;refine J.ifd rfl (fun c1=>?_) (fun c1=>?_)
 ·obtain⟨g,hg⟩:=P0.ex (i:=(p.i:Nat)) (by omega);have hg':=hg;rw[Int.toNat_natCast]at hg';have G:=H.sh.g hg';have hgl:=G.len;have hgc:=G.cap;have G0:=G.ops;have hz1:(p.D++s.sh.gs.drop p.i)[((p.i:Nat):Int).toNat]? =some g:=mid_at hD hg';have hll:(p.D++s.sh.gs.drop p.i).length=s.sh.pn:=by rw[List.length_append,List.length_drop];omega
  refine J.fact (.gown (fun g:GrA=>grC g) 2 43 pa s.sh.pn pc (p.D++s.sh.gs.drop p.i)) (fun _ _ h=>(gown_e h).1.some (by omega)) fun hpa=>?_
  have hpb:∃b o,pa=some ⟨b,o,none⟩:=hpa.elim fun b h=>⟨b,0,h⟩
  refine run ?_;refine J.regionX [(0, .q),(1, .c),(2, .q),(3, .q),(4, .q),(5, .q),(7, .q),(8, .q),(9, .q),(10, .q),(6, .e),(11, .e),(12, .q),(13, .q),(14, .g),(15, .q),(16, .q),(17, .g)] mixed (by kernel_rfl) ?_;refine run ?_;refine J.ncP rfl hpb rfl ?_;refine run ?_;refine J.ncP rfl hpb rfl ?_;refine run ?_;refine J.call rfl rfl (fun w' M=>cloneW g.ia g.m g.ic g.ids w' (G.ids.ext M.ext) hgc.1 (by omega)) fun q1 hq1=>?_
  obtain⟨ia,ic⟩:=q1;dsimp only at hq1⊢;refine run ?_;refine J.call rfl rfl (fun w' M=>cloneO g.oa g.n g.oc g.zs w' (G0.ext M.ext) (by omega)) fun q2 hq2=>?_
  obtain⟨za,zc⟩:=q2;dsimp only;refine run ?_;refine J.ncP rfl hpb rfl ?_;refine run ?_;refine J.stGf (f:=fun g:GrA=>grC g) (o:=0) (q0:=g) (q:=(⟨ia,g.oa,g.m,g.n,ic,g.oc,g.ids,g.zs⟩:GrA)) rfl rfl hz1 rfl ?_;have hz2:((p.D++s.sh.gs.drop p.i).set ((p.i:Nat):Int).toNat (⟨ia,g.oa,g.m,g.n,ic,g.oc,g.ids,g.zs⟩:GrA))[((p.i:Nat):Int).toNat]? =some ⟨ia,g.oa,g.m,g.n,ic,g.oc,g.ids,g.zs⟩:=by rw[List.getElem?_set,if_pos rfl,if_pos (by omega)]
  refine run ?_;refine J.ncP rfl hpb rfl ?_;refine run ?_;refine J.stGf (f:=fun g:GrA=>grC g) (o:=1) (q0:=(⟨ia,g.oa,g.m,g.n,ic,g.oc,g.ids,g.zs⟩:GrA)) (q:=(⟨ia,za,g.m,g.n,ic,zc,g.ids,g.zs⟩:GrA)) rfl rfl hz2 rfl ?_;have e1:((p.D++s.sh.gs.drop p.i).set ((p.i:Nat):Int).toNat (⟨ia,g.oa,g.m,g.n,ic,g.oc,g.ids,g.zs⟩:GrA)).set ((p.i:Nat):Int).toNat (⟨ia,za,g.m,g.n,ic,zc,g.ids,g.zs⟩:GrA)=(p.D++[(⟨ia,za,g.m,g.n,ic,zc,g.ids,g.zs⟩:GrA)])++s.sh.gs.drop (p.i+1):=by rw[List.set_set,Int.toNat_natCast,S.set_mid hD hg']
  rw[e1];have hz3:((p.D++[(⟨ia,za,g.m,g.n,ic,zc,g.ids,g.zs⟩:GrA)])++s.sh.gs.drop (p.i+1))[((p.i:Nat):Int).toNat]? =some ⟨ia,za,g.m,g.n,ic,zc,g.ids,g.zs⟩:=by
   rw[Int.toNat_natCast,List.append_assoc,List.getElem?_append_right (by omega),hD,Nat.sub_self];rfl
  refine run ?_;refine J.ncP rfl hpb rfl ?_;refine run ?_;refine J.noA ?_;refine J.re (.gown opC 11 37 za g.n zc g.zs) (.gown opC 11 37 za g.n zc ([]++g.zs.drop 0)) (fun _ _ h=>h) ?_;refine J.re (.all []) (.all (([]:List OpA).map (opE 24))) (fun _ _ h=>h) ?_;refine J.front (.wown 24 .u8 32 ia g.m ic g.ids) ?_;refine J.front (.all (p.D.map grAll)) ?_;refine J.front (.gown (fun g:GrA=>grC g) 2 43 pa s.sh.pn pc ((p.D++[(⟨ia,za,g.m,g.n,ic,zc,g.ids,g.zs⟩:GrA)])++s.sh.gs.drop (p.i+1))) ?_;refine J.front (.all (([]:List OpA).map (opE 24))) ?_;refine J.front (.gown opC 11 37 za g.n zc ([]++g.zs.drop 0)) ?_;refine J.drop (E:=[.gown opC 11 37 za g.n zc ([]++g.zs.drop 0), .all (([]:List OpA).map (opE 24)), .gown (fun g:GrA=>grC g) 2 43 pa s.sh.pn pc ((p.D++[(⟨ia,za,g.m,g.n,ic,zc,g.ids,g.zs⟩:GrA)])++s.sh.gs.drop (p.i+1)), .all (p.D.map grAll), .wown 24 .u8 32 ia g.m ic g.ids, .blk b1 [.int .i64 s.cap, .slice pa s.sh.pn pc, .slice ha s.sh.hn hc, .int .i64 s.sh.ver, .slice oa s.on oc] 55, .wown 24 .u8 32 ha s.sh.hn hc s.sh.hs, .wown 24 .u8 32 oa s.on oc s.os, .blk b2 [.int .i64 0, .slice none 0 0, .slice none 0 0, .int .i64 0, .slice none 0 0] 55]) sb ?_
  refine J.loop (A:=TwA) (fun e=>[(55, .int .i64 (e.i:Nat))]) [5,56,57,58,59,60,61,62,63,64,65,66,67,68,69,70,71,72,73,74] (fun e=>[.gown opC 11 37 za g.n zc (e.D++g.zs.drop e.i), .all (e.D.map (opE 24)), .gown (fun g:GrA=>grC g) 2 43 pa s.sh.pn pc ((p.D++[(⟨ia,za,g.m,g.n,ic,zc,g.ids,g.zs⟩:GrA)])++s.sh.gs.drop (p.i+1)), .all (p.D.map grAll), .wown 24 .u8 32 ia g.m ic g.ids, .blk b1 [.int .i64 s.cap, .slice pa s.sh.pn pc, .slice ha s.sh.hn hc, .int .i64 s.sh.ver, .slice oa s.on oc] 55, .wown 24 .u8 32 ha s.sh.hn hc s.sh.hs, .wown 24 .u8 32 oa s.on oc s.os, .blk b2 [.int .i64 0, .slice none 0 0, .slice none 0 0, .int .i64 0, .slice none 0 0] 55]) (fun e=>e.i≤g.n∧e.D.length=e.i∧e.D.map OpA.o=(g.zs.take e.i).map OpA.o∧∀z∈e.D,z.o.n≤z.pc) (fun e=>g.n - e.i) ⟨0,[]⟩ (by kernel_rfl) ⟨Nat.zero_le _,rfl,rfl,fun z hz=>by cases hz⟩ (fun e j2 hE=>?_);obtain⟨he,hED,hEo,hEc⟩:=hE;refine run ?_;refine J.ifd rfl (fun d1=>?_) (fun d1=>?_)
  ·obtain⟨z,hzz⟩:=G0.ex (i:=(e.i:Nat)) (by omega);have R:=G.op hzz;rw[Int.toNat_natCast]at hzz;have hy2:(e.D++g.zs.drop e.i)[((e.i:Nat):Int).toNat]? =some z:=mid_at hED hzz;refine run ?_;refine J.regionX [(0, .q),(1, .q),(2, .q),(3, .q),(4, .q),(5, .q),(6, .q),(7, .q),(8, .q),(9, .q),(10, .q),(11, .q),(12, .q),(13, .e),(14, .q),(15, .q),(16, .g)] mixed (by kernel_rfl) ?_;refine run ?_;refine J.ncP rfl hpb rfl ?_;refine run ?_;refine J.ncP rfl hpb rfl ?_;refine run ?_;refine J.call rfl rfl (fun w' M=>cloneW _ _ _ _ w' (R.row.ext M.ext) R.cap (by have:=R.ok.n;omega)) fun q hq=>?_
   refine run ?_;refine J.stGf (f:=opC) (o:=1) (q0:=z) (q:=⟨z.o,q.1,q.2⟩) rfl rfl hy2 rfl ?_;have e2:(e.D++g.zs.drop e.i).set ((e.i:Nat):Int).toNat (⟨z.o,q.1,q.2⟩:OpA)=(e.D++[(⟨z.o,q.1,q.2⟩:OpA)])++g.zs.drop (e.i+1):=by rw[Int.toNat_natCast,S.set_mid hED hzz]
   rw[e2];refine run ?_;refine J.snocA (e.D.map (opE 24)) (.wown 24 .u8 32 q.1 z.o.n q.2 z.o.ids) ?_;refine J.re (.all (e.D.map (opE 24)++[.wown 24 .u8 32 q.1 z.o.n q.2 z.o.ids])) (.all ((e.D++[(⟨z.o,q.1,q.2⟩:OpA)]).map (opE 24))) (fun _ _ h=>by rw[List.map_append];exact h) ?_
   exact J.next ⟨e.i + 1, e.D ++ [⟨z.o, q.1, q.2⟩]⟩ ⟨rfl, trivial⟩ (by kernel_rfl) ⟨by dsimp only; omega, by simp [hED], by dsimp only; rw [List.map_append, hEo, List.take_add_one, hzz, Option.toList_some, List.map_append]; rfl, fun y hy => by
    rcases List.mem_append.1 hy with h | h
    ·exact hEc y h
    rw [List.mem_singleton] at h; subst h; exact hq⟩ (by dsimp only; omega)
  obtain⟨ei,D⟩:=e;dsimp only at he hED hEo hEc d1⊢;obtain rfl:ei=g.n:=by omega
  rw[List.drop_of_length_le (by have:=G0.len;omega),List.append_nil];have hDo:D.map OpA.o=g.ops:=by rw[hEo,List.take_of_length_le (by have:=G0.len;omega)];rfl
  refine run ?_;refine J.triG (⟨ia,za,g.m,g.n,ic,zc,g.ids,D⟩:GrA) ?_;refine J.snocA (p.D.map grAll) (grAll ⟨ia,za,g.m,g.n,ic,zc,g.ids,D⟩) ?_;refine J.re (.all (p.D.map grAll++[grAll ⟨ia,za,g.m,g.n,ic,zc,g.ids,D⟩])) (.all ((p.D++[(⟨ia,za,g.m,g.n,ic,zc,g.ids,D⟩:GrA)]).map grAll)) (fun _ _ h=>by rw[List.map_append];exact h) ?_;refine J.re (.gown (fun g:GrA=>grC g) 2 43 pa s.sh.pn pc ((p.D++[(⟨ia,za,g.m,g.n,ic,zc,g.ids,g.zs⟩:GrA)])++s.sh.gs.drop (p.i+1))) (.gown (fun g:GrA=>grC g) 2 43 pa s.sh.pn pc ((p.D++[(⟨ia,za,g.m,g.n,ic,zc,g.ids,D⟩:GrA)])++s.sh.gs.drop (p.i+1))) (fun _ _ h=>gown_reG (by simp only[List.flatMap_append];rfl) (by simp only[List.length_append,List.length_cons]) h) ?_;refine J.front (.all ((p.D++[(⟨ia,za,g.m,g.n,ic,zc,g.ids,D⟩:GrA)]).map grAll)) ?_;refine J.front (.gown (fun g:GrA=>grC g) 2 43 pa s.sh.pn pc ((p.D++[(⟨ia,za,g.m,g.n,ic,zc,g.ids,D⟩:GrA)])++s.sh.gs.drop (p.i+1))) ?_
  exact J.next ⟨p.i + 1, p.D ++ [⟨ia, za, g.m, g.n, ic, zc, g.ids, D⟩]⟩ ⟨rfl, trivial⟩ (by kernel_rfl) ⟨by dsimp only; omega, by simp [hD], gsTake hg' (by unfold GrA.P GrA.ops; dsimp only; rw [hDo]; rfl) hps, fun y hy => by
   rcases List.mem_append.1 hy with h | h
   ·exact hpk y h
   rw [List.mem_singleton] at h
   subst h
   exact ⟨fun z hz => G.opz z.o (by rw [← hDo]; exact List.mem_map.2 ⟨z, hz, rfl⟩), hEc⟩⟩ (by dsimp only; omega)
 obtain⟨pi,D⟩:=p;dsimp only at hp hD hps hpk c1⊢;obtain rfl:pi=s.sh.pn:=by omega
 rw[List.drop_of_length_le (by omega),List.append_nil];have hps:D.map GrA.P=s.sh.V.ps:=hps.trans (List.take_of_length_le (by rw[List.length_map,hl];exact Nat.le_refl _));refine run ?_;refine J.pair (.gown (fun g:GrA=>grC g) 2 43 pa s.sh.pn pc D) (.all (D.map grAll)) ?_;refine J.snocA [.gown (fun g:GrA=>grC g) 2 43 pa s.sh.pn pc D, .all (D.map grAll)] (.wown 24 .u8 32 ha s.sh.hn hc s.sh.hs) ?_;refine J.re (.all ([.gown (fun g:GrA=>grC g) 2 43 pa s.sh.pn pc D, .all (D.map grAll)]++[.wown 24 .u8 32 ha s.sh.hn hc s.sh.hs])) (shW ⟨pa,s.sh.pn,pc,D,ha,s.sh.hn,hc,s.sh.hs,s.sh.ver⟩) (fun _ _ h=>by unfold shW;exact h) ?_;refine J.front (shW ⟨pa,s.sh.pn,pc,D,ha,s.sh.hn,hc,s.sh.hs,s.sh.ver⟩) ?_;exact J.finG ⟨s.cap,⟨pa,s.sh.pn,pc,D,ha,s.sh.hn,hc,s.sh.hs,s.sh.ver⟩,oa,s.on,oc,s.os⟩ rfl ⟨by unfold StA.V ShA.V;dsimp only;rw[hps],hpk⟩ sb
instance:Ents prog 115:=⟨.mk func115 (by kernel_rfl) rfl⟩
instance:Ents prog 116:=⟨.mk func116 (by kernel_rfl) rfl⟩
instance:Ents prog 31:=⟨.mk func31 (by kernel_rfl) rfl⟩
theorem StZ.off{v:S.StV}{o:S.OpV}(hz:StZ v)(hg:S.StG v)(h:S.okT v)(hv:S.verE o=0):StZ (S.offT v o):=by
 by_cases c:S.judT v o=1
 ·rw[S.off_1 c];obtain⟨a1,a2⟩:=S.com_add hg h hv c;have F:=S.ok_fineT hg h;obtain⟨_,_,b3,b4,_⟩:=S.add_fine F.fine.good.1 a1;rw[a2]at b3 b4;have hle:=b3.le;have hcp:=F.cap;have hps:=F.ps;refine⟨fun p hp=>?_,⟨?_,?_⟩,fun _=>?_,?_⟩
  ·obtain⟨i,hi,rfl⟩:=List.mem_map.1 hp;obtain⟨h1,h2⟩:=S.prt_size (S.putP (S.whole v.sh.ps) (S.idOf o) o) v.sh.ps.length i;exact⟨by omega,by omega⟩
  ·show(S.madeS _ _).ps.length≤6;rw[S.made_len];omega
  ·exact Nat.le_trans (S.numF_le _ _) (Nat.le_trans hle (by decide))
  ·exact Nat.le_trans (S.allN_made b3) (Nat.le_trans hle (by decide))
  show v.n+1≤70;omega
 rw[S.off_no c];exact hz
theorem stOffer{S0 S1:Nat→Prop}(s:StA)(z:OpA)(TK:TypeId)(w:World)(K0:Kst w TK)(H:StR S0 w s)(R:OpR S1 w z):
  Calls prog 31 #[.agg (srC s).toArray, .agg (opC z).toArray] w (Gv w (fun q:StA=> .tuple #[.agg (srC q).toArray, .int .u8 (S.ofJ s.V z.o), .int .i64 (S.askE s.V z.o)]) (fun q=>stE q) (StK (S.ofS s.V z.o))):=by
 have hcp:=H.cap;have hA:=S.sha_arr (S.encS z.o);refine J.enter 55 func31 rfl rfl ?_;refine run ?_;refine J.box rfl rfl rfl fun b1=>?_
 refine J.box rfl rfl rfl fun b2=>?_
 refine J.alloc rfl fun b3=>?_
 refine run ?_;refine J.callp rfl rfl (fun w' M=>stAsked s z _ w' (K0.ext M.ext) (H.ext M.ext) (R.ext M.ext)) ?_;refine run ?_;refine J.ifn rfl (fun c1=>?_) (fun c1=>?_)
 ·rw[(S.of_no c1).2];refine run ?_;refine J.nilSh (J.nilWo 24 .u8 32 ?_);refine J.front (shW ShA.zero) ?_;exact J.finG StA.zero rfl (stZero (S.of_no c1).1) sb
 obtain⟨hok,hv⟩:=S.askE_0 c1;have hchk:=S.verE_check hv;have hver:(s.on:Int)=s.sh.ver:=hok.1.2.2.2;rw[(S.of_yes c1).1,(S.of_yes c1).2,c1];refine run ?_;refine J.callp rfl rfl (fun w' M=>idO z.o R.ok _ _ _ _ (K0.ext M.ext) (R.row.ext M.ext) R.cap) ?_;rw[if_pos hchk];refine run ?_;refine J.alloc rfl fun b4=>?_
 refine run ?_;refine J.callp rfl rfl (fun w' M=>stVerdict s z w' (H.ext M.ext) (R.ext M.ext) hver) ?_;refine run ?_;refine J.call rfl rfl (fun w' M=>stTwin s w' (H.ext M.ext)) fun t ht=>?_
 refine run ?_;refine J.alloc rfl fun b5=>?_
 refine run ?_;refine J.ife rfl (fun c2=>?_) (fun c2=>?_)
 ·obtain⟨a1,a2⟩:=S.com_add H.g hok hv c2;obtain⟨p1,p2,p3⟩:=S.pu_0 hok.1.2.1 a1;rw[a2]at p2;refine run ?_;refine J.call rfl rfl (fun w' M=>shOne (shPut s.sh z TK w' (K0.ext M.ext) (H.sh.ext M.ext) H.L (R.ext M.ext))) fun r hr=>?_
  rw[show S.puE s.sh.V z.o=0 from p1,show S.puI s.sh.V z.o=S.idOf z.o from p3];refine run ?_;refine J.alloc rfl fun b6=>?_
  refine J.alloc rfl fun b7=>?_
  refine run ?_;refine J.regionG [.blk b6 (shC r) 53, .blk b5 (srC t) 55, .blk b4 (ints .u8 (S.sha (S.encS z.o))) 24] [7,9] [8] mixed ?_;refine J.gfin [(0, .q),(1, .q),(2, .q),(3, .q),(6, .q),(4, .e),(5, .e),(7, .g),(8, .c),(9, .g)] (by kernel_rfl) ?_;refine run ?_;refine J.b1W rfl rfl hA fun bb=>?_
  refine run ?_;have hton:t.on=s.on:=congrArg S.StV.n ht.V;refine J.apW rfl rfl RW.own' fun a' c'=>?_
  refine J.sw rfl ?_;refine run ?_;refine J.front (.wown 24 .u8 32 a' (t.on+1) c' (t.os++S.sha (S.encS z.o))) ?_;refine J.front (shW r) ?_;refine J.finG ⟨t.cap,r,a',t.on+1,c',t.os++S.sha (S.encS z.o)⟩ rfl ⟨?_,hr.k⟩ sb;rw[S.off_1 c2];have e1:t.cap=s.cap:=congrArg S.StV.cap ht.V;have e2:t.on=s.on:=congrArg S.StV.n ht.V;have e3:t.os=s.os:=congrArg S.StV.os ht.V;have e4:r.V=S.puS s.sh.V z.o:=hr.V;unfold StA.V S.comT;dsimp only;rw[e1,e2,e3,e4,show S.puS s.sh.V z.o=_ from p2]
 refine run ?_;refine J.finG t rfl ⟨?_,ht.k⟩ sb;rw[S.off_no c2];exact ht.V
instance:Ents prog 100:=⟨.mk func100 (by kernel_rfl) rfl⟩
instance:Ents prog 193:=⟨.mk func193 (by kernel_rfl) rfl⟩
instance:Ents prog 41:=⟨.mk func41 (by kernel_rfl) rfl⟩
instance:Ents prog 101:=⟨.mk func101 (by kernel_rfl) rfl⟩
instance:Ents prog 102:=⟨.mk func102 (by kernel_rfl) rfl⟩
theorem refStNew(c n:Int)(w:World):
  Calls prog 18 #[.int .i64 c, .int .i64 n] w (Gv w (fun q:StA=> .tuple #[.agg (srC q).toArray, .int .i64 (S.nwTE c n)]) (fun q=>stE q) (StK (S.nwT c n))):=by
 have bad:¬((1≤c∧c≤40)∧1≤n∧n≤4)→S.nwT c n=S.StV.zero∧S.nwTE c n=2:=S.nwT_2;refine J.enter 25 func18 rfl rfl ?_;refine run ?_;refine J.alloc rfl fun b1=>?_
 refine run ?_;refine J.call rfl rfl (fun w' M=>shOne (refShNew n w')) fun u hu=>?_
 refine run ?_;refine J.alloc rfl fun b2=>?_
 refine run ?_;refine J.spd rfl rfl rfl (fun c1=>?_) (fun c1=>?_)
 ·obtain⟨e1,e2⟩:=bad (by omega);rw[e2];refine run ?_;refine J.nilWo 24 .u8 32 ?_;refine J.nilSh ?_;exact J.finG StA.zero rfl (stZero e1) sb
 refine run ?_;refine J.spd rfl rfl rfl (fun c2=>?_) (fun c2=>?_)
 ·obtain⟨e1,e2⟩:=bad (by omega);rw[e2];refine run ?_;refine J.nilWo 24 .u8 32 ?_;refine J.nilSh ?_;exact J.finG StA.zero rfl (stZero e1) sb
 refine run ?_;refine J.ifn rfl (fun c3=>?_) (fun c3=>?_)
 ·obtain⟨e1,e2⟩:=bad fun h=>c3 (if_pos h.2);rw[e2];refine run ?_;refine J.nilWo 24 .u8 32 ?_;refine J.nilSh ?_;exact J.finG StA.zero rfl (stZero e1) sb
 have hn:1≤n∧n≤4:=Classical.byContradiction fun h=>by
  rw[show S.nwE n=2 from if_neg h]at c3;exact absurd c3 (by decide)
 obtain⟨e1,e2⟩:=S.nwT_0 (c:=c) (n:=n) ⟨by omega,hn⟩;rw[e2];refine run ?_;refine J.nilWo 24 .u8 32 ?_;refine J.front (.wown 24 .u8 32 none 0 0 []) ?_;refine J.front (shW u) ?_;refine J.finG ⟨c,u,none,0,0,[]⟩ rfl ⟨?_,hu.k⟩ sb;rw[e1];have e4:u.V=S.nwS n:=hu.V;unfold StA.V;dsimp only;rw[e4,show S.nwS n=S.madeS S.PG.nil n.toNat from if_pos hn]
theorem refStAsked{S0 S1:Nat→Prop}(s:StA)(z:OpA)(w:World)(H:StR S0 w s)(R:OpR S1 w z):
  Calls prog 101 #[.agg (srC s).toArray, .agg (opC z).toArray] w (Ret w fun v _=>v= .int .i64 (S.askE s.V z.o)):=by
 refine J.enter 8 func101 rfl rfl ?_;refine run ?_;refine J.box rfl rfl rfl fun b1=>?_
 refine J.box rfl rfl rfl fun b2=>?_
 refine run ?_;refine J.callp rfl rfl (fun w' M=>refStCheck s w' (H.ext M.ext)) ?_;refine run ?_;refine J.ifn rfl (fun c1=>?_) (fun c1=>?_)
 ·obtain⟨k1,k2⟩:=S.chkT_ne c1;refine run ?_;exact J.fin (congrArg _ (S.askE_8 k1).symm)
 refine run ?_;refine J.callp rfl rfl (fun w' M=>verifyOR z.o R.ok _ _ _ (R.row.ext M.ext) R.cap) ?_;refine run ?_;exact J.fin (congrArg _ (S.askE_v (S.chkT_iff.1 c1)).symm)
theorem refJudgedT{S0 S1:Nat→Prop}(s:StA)(z:OpA)(w:World)(H:StR S0 w s)(R:OpR S1 w z)(hv:S.verE z.o=0):
  Calls prog 193 #[.agg (srC s).toArray, .agg (opC z).toArray] w (Ret w fun v _=>v= .int .u8 (S.judT s.V z.o)):=by
 have hcp:=H.cap;have h20:=R.ok.n;have hA:=S.sha_arr (S.encS z.o);have hck:=S.check_zero.1 (S.verE_check hv);refine J.enter 21 func193 rfl rfl ?_;refine run ?_;refine J.box rfl rfl rfl fun b1=>?_
 refine J.box rfl rfl rfl fun b2=>?_
 refine run ?_;refine J.regionX [(0, .q),(1, .q),(2, .q),(3, .e),(4, .e),(5, .q)] mixed (by kernel_rfl) ?_;refine run ?_;refine J.callp rfl rfl (fun w' M=>ofO z.o R.ok _ _ _ (R.row.ext M.ext) R.cap hck.1 (fun hk=>S.fine4 hck.2.2.2.2.2.2 hk)) ?_;refine run ?_;refine J.callp rfl rfl (fun w' M=>refAt _ _ _ _ _ w' (H.os.ext M.ext) hA (by omega)) ?_;refine run ?_;have a1:(0≤S.atS s.on s.os (S.sha (S.encS z.o)))↔S.inS s.on s.os (S.sha (S.encS z.o)):=by rw[←Int.not_lt,S.at_neg,Classical.not_not]
 refine J.ifd rfl (fun c1=>?_) (fun c1=>?_)
 ·refine run ?_;exact J.fin (congrArg _ (S.jud_5 (a1.1 c1)).symm)
 have c1':¬S.inS s.V.n s.V.os (S.idOf z.o):=fun h=>c1 (a1.2 h);refine run ?_;refine J.callp rfl rfl (fun w' M=>refAll _ _ _ _ _ _ _ _ w' (H.os.ext M.ext) (R.row.ext M.ext) (by omega) (by omega)) ?_;refine run ?_;refine J.ifnot rfl (fun c2=>?_) (fun c2=>?_)
 ·refine run ?_;exact J.fin (congrArg _ (S.jud_6 c1' (of_decide_eq_false c2)).symm)
 have c2:=of_decide_eq_true c2;refine run ?_;refine J.ife rfl (fun c3=>?_) (fun c3=>?_)
 ·refine run ?_;exact J.fin (congrArg _ (S.jud_8 c1' c2 c3).symm)
 refine run ?_;exact J.fin (congrArg _ (S.jud_1 c1' c2 c3).symm)
theorem refOfferedT{S0 S1:Nat→Prop}(s:StA)(z:OpA)(w:World)(H:StR S0 w s)(R:OpR S1 w z)(hok:S.okT s.V)(hv:S.verE z.o=0):
  Calls prog 102 #[.agg (srC s).toArray, .agg (opC z).toArray] w (Gv w (fun q:StA=> .tuple #[.agg (srC q).toArray, .int .u8 (S.judT s.V z.o)]) (fun q=>stE q) (StK (S.offT s.V z.o))):=by
 have hcp:=H.cap;have hA:=S.sha_arr (S.encS z.o);have hck:=S.check_zero.1 (S.verE_check hv);have F:=S.ok_fineT H.g hok;obtain⟨n1,n4⟩:=ok_len H.sh hok.1.2.1;have hle:=H.sh.le H.L n4;have hwg:=S.whole_good (ps:=s.sh.V.ps) H.sh.ml;have hll:s.sh.V.ps.length=s.sh.pn:=by rw[List.length_map,H.sh.pr.len]
 refine J.enter 36 func102 rfl rfl ?_;refine run ?_;refine J.box rfl rfl rfl fun b1=>?_
 refine J.box rfl rfl rfl fun b2=>?_
 refine J.alloc rfl fun b3=>?_
 refine run ?_;refine J.callp rfl rfl (fun w' M=>refJudgedT s z w' (H.ext M.ext) (R.ext M.ext) hv) ?_;refine run ?_;refine J.call rfl rfl (fun w' M=>refStTwin s w' (H.ext M.ext)) fun t ht=>?_
 refine run ?_;refine J.alloc rfl fun b4=>?_
 refine run ?_;refine J.ife rfl (fun c2=>?_) (fun c2=>?_)
 ·obtain⟨a1,a2⟩:=S.com_add H.g hok hv c2;obtain⟨_,_,b3f,b4f,_⟩:=S.add_fine F.fine.good.1 a1;rw[a2]at b3f b4f;refine run ?_;refine J.callp rfl rfl (fun w' M=>ofO z.o R.ok _ _ _ (R.row.ext M.ext) R.cap hck.1 (fun hk=>S.fine4 hck.2.2.2.2.2.2 hk)) ?_;refine run ?_;refine J.alloc rfl fun b5=>?_
  refine run ?_;refine J.regionX [(0, .q),(1, .q),(3, .q),(4, .q),(6, .q),(7, .q),(8, .q),(9, .q),(2, .e),(5, .e),(10, .e),(11, .q),(12, .g)] mixed (by kernel_rfl) ?_;refine run ?_;refine J.call rfl rfl (fun w' M=>refWhole s.sh w' (H.sh.ext M.ext) H.L n4) fun q hq=>?_
  dsimp only[grE,List.cons_append,List.nil_append];have hqs:=GrP.sz (P:=S.whole s.sh.V.ps) hq ⟨F.fine.good,F.fine.le⟩;have hqok:=hq.ok (refWholeOk H.sh);have hqP:q.P=S.whole s.sh.V.ps:=GrP.P hq;have hqm:q.m=(S.whole s.sh.V.ps).m:=hq.m;have hqn:q.n=q.m:=by rw[hq.n,hwg.2,hqm]
  have h60:(S.whole s.sh.V.ps).m≤60:=F.fine.le;refine run ?_;refine J.call rfl rfl (fun w' M=>refPut q (S.sha (S.encS z.o)) z w' (GrR.own hqok hq.cap hqs w' M) hA (R.ext M.ext) hqn (by omega)) fun r hr=>?_
  dsimp only[grE,List.cons_append,List.nil_append];have hq1:q.m=(S.whole s.sh.V.ps).m:=congrArg S.PG.m hqP;have hq2:q.ids=(S.whole s.sh.V.ps).ids:=congrArg S.PG.ids hqP;have hq3:q.ops=(S.whole s.sh.V.ps).ops:=congrArg S.PG.ops hqP;rw[hq1,hq2,hq3]at hr;have hrP:r.P=S.putP (S.whole s.sh.V.ps) (S.idOf z.o) z.o:=GrP.P hr;have hro:∀o∈(S.putP (S.whole s.sh.V.ps) (S.idOf z.o) z.o).ops,o.ok:=fun o ho=>by
   rcases List.mem_append.1 ho with h|h
   ·exact refWholeOk H.sh o (List.mem_of_mem_take h)
   rcases List.mem_cons.1 h with rfl|h
   ·exact R.ok
   exact refWholeOk H.sh o (List.mem_of_mem_drop h)
  have hrs:=GrP.sz (P:=S.putP (S.whole s.sh.V.ps) (S.idOf z.o) z.o) hr ⟨b3f.good,b3f.le⟩;have hrc:S.chkG r.m r.ids r.ops=0:=by
   have h:=(S.chkP_fine b3f.good.1).2 b3f;have h:S.chkP (S.putP (S.whole s.sh.V.ps) (S.idOf z.o) z.o)=0:=h;rw[←hrP]at h;exact h
  refine run ?_;refine J.call rfl rfl (fun w' M=>shOne (refMade r s.sh.pn w' (GrR.own (hr.ok hro) hr.cap hrs w' M) hrc n4)) fun u hu=>?_
  rw[hrP]at hu;refine run ?_;refine J.b1W rfl rfl hA fun bb=>?_
  have hton:t.on=s.on:=congrArg S.StV.n ht.V;refine J.apW rfl rfl RW.own' fun a' c'=>?_
  refine run ?_;refine J.front (.wown 24 .u8 32 a' (t.on+1) c' (t.os++S.sha (S.encS z.o))) ?_;refine J.front (shW u) ?_;refine J.finG ⟨t.cap,u,a',t.on+1,c',t.os++S.sha (S.encS z.o)⟩ rfl ⟨?_,hu.k⟩ sb;rw[S.off_1 c2];have e1:t.cap=s.cap:=congrArg S.StV.cap ht.V;have e2:t.on=s.on:=congrArg S.StV.n ht.V;have e3:t.os=s.os:=congrArg S.StV.os ht.V;have e4:u.V=_:=hu.V;unfold StA.V S.comT;dsimp only;rw[e1,e2,e3,e4,←hll]
 refine run ?_;refine J.finG t rfl ⟨?_,ht.k⟩ sb;rw[S.off_no c2];exact ht.V
theorem refStOffer{S0 S1:Nat→Prop}(s:StA)(z:OpA)(w:World)(H:StR S0 w s)(R:OpR S1 w z):
  Calls prog 19 #[.agg (srC s).toArray, .agg (opC z).toArray] w (Gv w (fun q:StA=> .tuple #[.agg (srC q).toArray, .int .u8 (S.ofJ s.V z.o), .int .i64 (S.askE s.V z.o)]) (fun q=>stE q) (StK (S.ofS s.V z.o))):=by
 refine J.enter 23 func19 rfl rfl ?_;refine run ?_;refine J.box rfl rfl rfl fun b1=>?_
 refine J.box rfl rfl rfl fun b2=>?_
 refine J.alloc rfl fun b3=>?_
 refine run ?_;refine J.callp rfl rfl (fun w' M=>refStAsked s z w' (H.ext M.ext) (R.ext M.ext)) ?_;refine run ?_;refine J.ifn rfl (fun c1=>?_) (fun c1=>?_)
 ·rw[(S.of_no c1).2];refine run ?_;refine J.nilWo 24 .u8 32 ?_;refine J.nilSh ?_;exact J.finG StA.zero rfl (stZero (S.of_no c1).1) sb
 obtain⟨hok,hv⟩:=S.askE_0 c1;rw[(S.of_yes c1).1,(S.of_yes c1).2,c1];refine run ?_;refine J.call rfl rfl (fun w' M=>refOfferedT s z w' (H.ext M.ext) (R.ext M.ext) hok hv) fun q hq=>?_
 refine run ?_;refine J.alloc rfl fun b4=>?_
 refine run ?_;exact J.finG q rfl hq sb
end W
namespace S
open G
/-! ### the third operation -/
/-! ### new stores -/
theorem nw_ok{c n:Int}(h:(1≤c∧c≤40)∧1≤n∧n≤4):okT (nwT c n)∧StG (nwT c n)∧whole (nwT c n).sh.ps=PG.nil:=by
 rw[(nwT_0 h).1];obtain⟨m1,m2⟩:=ok_made (n:=n.toNat) nil_fine (by omega);refine⟨⟨⟨h.1,m1,?_,?_⟩,fun i hi=>absurd hi (Nat.not_lt_zero _)⟩,⟨fun p hp=>((made_good nil_fine.good nil_fine.rising).mem hp).1.1,rfl⟩,m2⟩
 ·show((0:Nat):Int)≤c;omega
 ·rfl
/-! ### the example -/
/-! ### runs in parts -/
/-! ### what was committed is there -/
/-! ### other shards -/
/-! ### what is missing -/
end S
namespace W
open Go.RowKit G
set_option maxRecDepth 20000
set_option maxHeartbeats 8000000
attribute [local irreducible] RS RX RY Code.wp bodyPost J Ent.blk Ent.irow Ent.iown Ent.wrow Ent.wown Ent.gown Ent.all Ent.emp
theorem StZ.zero:StZ S.StV.zero:=⟨fun p hp=>(by cases hp),⟨Nat.zero_le _,Nat.zero_le _⟩,fun _=>Nat.zero_le _,Nat.zero_le _⟩
theorem StZ.nw(c n:Int):StZ (S.nwT c n):=by
 by_cases h:(1≤c∧c≤40)∧1≤n∧n≤4
 ·rw[(S.nwT_0 h).1];refine⟨fun p hp=>?_,⟨?_,Nat.zero_le _⟩,fun _=>Nat.le_trans (S.allN_made S.nil_fine) (Nat.zero_le _),Nat.zero_le _⟩
  ·obtain⟨i,hi,rfl⟩:=List.mem_map.1 hp;obtain⟨h1,h2⟩:=S.prt_size S.PG.nil n.toNat i;exact⟨Nat.le_trans h1 (Nat.zero_le _),Nat.le_trans h2 (Nat.zero_le _)⟩
  show(S.madeS _ _).ps.length≤6;rw[S.made_len];omega
 rw[(S.nwT_2 h).1];exact StZ.zero
end W
namespace G
open Go.RowKit
theorem J.know{S0:Nat→Prop}{w0:World}{L:List Ent}{X:World→Prop}{p:Prop}(h:∀w,Mem S0 w0 L w→p)(k:p→J S0 w0 L X):J S0 w0 L X:=fun w M=>k (h w M) w M
end G
namespace W
open Go.RowKit G
set_option maxRecDepth 20000
set_option maxHeartbeats 8000000
attribute [local irreducible] RS RX RY Code.wp bodyPost J Ent.blk Ent.irow Ent.iown Ent.wrow Ent.wown Ent.gown Ent.all Ent.emp
theorem stOfferF{S0 S1:Nat→Prop}(s:StA)(z:OpA)(TK:TypeId)(w:World)(hv:S.verE z.o=0)(h2:S.okT s.V)(K0:Kst w TK)(H:StR S0 w s)(R:OpR S1 w z):
  Calls prog 31 #[.agg (srC s).toArray, .agg (opC z).toArray] w (Gv w (fun q:StA=> .tuple #[.agg (srC q).toArray, .int .u8 (S.judT s.V z.o), .int .i64 0]) (fun q=>stE q) (StK (S.offT s.V z.o))):=by
 have h:=stOffer s z TK w K0 H R;have he:S.askE s.V z.o=0:=(S.askE_v h2).trans hv;rw[he,(S.of_yes he).1,(S.of_yes he).2]at h;exact h
end W
namespace S
open G
def hbN:OpV:=⟨0,0,1,0,0,0,0,0,0,[], .empty, .empty⟩
def hbA:OpV:=⟨0,4,1,0,0,0,0,0,0,[], .empty, .empty⟩
theorem hb_okN:hbN.ok:=⟨by decide,by decide,by decide,by decide,by decide,by decide,by decide,by decide,by decide,by decide,by decide⟩
theorem hb_okA:hbA.ok:=⟨by decide,by decide,by decide,by decide,by decide,by decide,by decide,by decide,by decide,by decide,by decide⟩
theorem hb_signE:signE 5 hbA=0:=signE_zero.2 ⟨by decide,check_zero.2 ⟨(by decide:(0:Nat)≤4),rising_nil,isG_pub 5 (by decide),(by decide:(4:Int)≤1000000000000),(by decide:(0:Int)<500000003),(by decide:(0:Int)<500000003), .inl ⟨rfl,rfl,rfl,rfl,rfl,rfl⟩⟩⟩
noncomputable def hbO:OpV:=signS 5 hbA
theorem hb_is:hbO.n=0∧hbO.ids=[]∧hbO.st=4:=by
 unfold hbO;rw[signS_eq hb_signE];exact⟨rfl,rfl,rfl⟩
theorem hb_ok:hbO.ok:=signS_ok 5 hbA hb_okA
theorem hb_ver:verE hbO=0:=(sign_good hb_okA rfl hb_signE).2.2.2.2.2.2
theorem hb_nw:nwT 3 1=⟨3,madeS PG.nil 1,0,[]⟩:=(nwT_0 (by decide)).1
theorem hb_okT:okT (nwT 3 1)∧StG (nwT 3 1)∧whole (nwT 3 1).sh.ps=PG.nil:=nw_ok (by decide)
theorem hb_jud:judT (nwT 3 1) hbO=1:=by
 rw[hb_nw];refine jud_1 (fun⟨i,hi,_⟩=>absurd hi (Nat.not_lt_zero _)) (fun j hj=>?_) (by decide);rw[hb_is.1]at hj;exact absurd hj (Nat.not_lt_zero _)
noncomputable def hbT:StV:=comT (nwT 3 1) hbO
theorem hbT_of:ofS (nwT 3 1) hbO=hbT∧askE (nwT 3 1) hbO=0:=by
 have e:askE (nwT 3 1) hbO=0:=(askE_v hb_okT.1).trans hb_ver;exact⟨(of_yes e).1.trans (off_1 hb_jud),e⟩
theorem putP_nil0(x:List Int)(o:OpV):putP PG.nil x o=⟨1,x,[o]⟩:=by
 unfold putP insW insO PG.nil;simp
theorem rising_one{x:List Int}:Rising 1 x:=fun i hi=>absurd hi (Nat.not_lt_zero _)
theorem hd_one{x:List Int}{o:OpV}(hf:(⟨1,x,[o]⟩:PG).fine)(hx:x.length=32)(ho:o.n=0):hdN ⟨1,x,[o]⟩=1∧hdI ⟨1,x,[o]⟩=x:=by
 obtain⟨h1,h2,h3⟩:=hd_all hf;refine idsG_ext h1 (by rw[hx]) h2 rising_one fun y=>(h3 y).trans ⟨fun h=>h.1,fun h=>⟨h,fun z u hu=>?_⟩⟩;obtain⟨i,hi,_,e⟩:=hu;obtain rfl:i=0:=by
  have:i<1:=hi;omega
 have e:o=u:=e;subst e;rw[ho];exact fun⟨k,hk,_⟩=>absurd hk (Nat.not_lt_zero _)
theorem nxt_one{o:OpV}(h:o.st=4):nxtS [o]=5:=by
 show stp 0 o=5;unfold stp;rw[h];decide
theorem pre_one{x:List Int}(hx:x.length=32):preE 1 x=0∧preN 1 x=1∧preL 1 x=x:=by
 have e:preE 1 x=0:=preE_0 (by decide) rising_one;refine⟨e,(pre_yes e).1,(pre_yes e).2.trans ?_⟩;exact List.take_of_length_le (by rw[hx];decide)
theorem bld_one{x:List Int}(hx:x.length=32):(bldR 6 1 x 5 hbN).e=0∧(bldR 6 1 x 5 hbN).o.st=5∧(bldR 6 1 x 5 hbN).o.n=1∧(bldR 6 1 x 5 hbN).o.ids=x:=by
 obtain⟨p1,p2,p3⟩:=pre_one hx
 have hs : signE 6 (bldO 1 x 5 hbN) = 0 := signE_zero.2 ⟨by decide, check_zero.2 ⟨by show preN 1 x ≤ 4; exact preN_le _ _, by
  show Rising (preN 1 x) (preL 1 x)
  rw [p2]
  exact rising_one, isG_pub 6 (by decide), (by decide : (5 : Int) ≤ 1000000000000), (by decide : (0 : Int) < 500000003), (by decide : (0 : Int) < 500000003), .inl ⟨rfl, rfl, rfl, rfl, rfl, rfl⟩⟩⟩
 have he:bldE 6 1 x 5 hbN=0:=(bldE_2 p1).trans hs;refine⟨he,?_⟩;show(bldV 6 1 x 5 hbN).st=5∧(bldV 6 1 x 5 hbN).n=1∧(bldV 6 1 x 5 hbN).ids=x;rw[(bld_yes he).1,signS_eq hs];exact⟨rfl,p2,p3⟩
theorem hbT_ok:okT hbT∧StG hbT∧whole hbT.sh.ps=⟨1,idOf hbO,[hbO]⟩:=by
 obtain⟨h1,h2,h3⟩:=com_ok hb_okT.2.1 hb_okT.1 hb_ver hb_jud;rw[hb_okT.2.2,putP_nil0]at h3;exact⟨h1,h2,h3⟩
theorem hbT_fine:(whole hbT.sh.ps).fine:=(ok_fineT hbT_ok.2.1 hbT_ok.1).fine
theorem hbT_hd:hdN (whole hbT.sh.ps)=1∧hdI (whole hbT.sh.ps)=idOf hbO:=by
 have h:=hbT_fine;rw[hbT_ok.2.2]at h⊢;exact hd_one h (idOf_len _) hb_is.1
theorem hbT_stm:stmE (whole hbT.sh.ps)=0∧stmV (whole hbT.sh.ps)=5:=by
 have hn:nxtS (whole hbT.sh.ps).ops=5:=by
  rw[hbT_ok.2.2];exact nxt_one hb_is.2.2
 have e:=stmE_0 ((chkP_fine hbT_fine.good.1).2 hbT_fine) (by rw[hn];decide);exact⟨e,(stmV_yes e).trans hn⟩
theorem hb_wrt:(wrtR hbT 6 hbN).e=0∧(wrtR hbT 6 hbN).o.st=5∧(wrtR hbT 6 hbN).o.n=1∧(wrtR hbT 6 hbN).o.ids=idOf hbO:=by
 rw[wrt_0 hbT_ok.1 hbT_stm.1,hbT_hd.1,hbT_hd.2,hbT_stm.2];exact bld_one (idOf_len _)
theorem hb_nil:preE 0 []=0∧preN 0 []=0∧preL 0 []=[]:=⟨preE_0 (by decide) rising_nil,(pre_yes (preE_0 (by decide) rising_nil)).1,(pre_yes (preE_0 (by decide) rising_nil)).2⟩
theorem hb_stm0:stmE PG.nil=0∧stmV PG.nil=0:=by
 have e:=stmE_0 (g:=PG.nil) hx_chk (by decide);exact⟨e,stmV_yes e⟩
def hbI(k:Int):List Int:=k::List.replicate 31 0
def hbF:List Int:=hbI 1++(hbI 2++(hbI 3++(hbI 4++hbI 5)))
theorem hb_arr {k : Int} (h : 0 ≤ k ∧ k < 256) : Arr .u8 32 (hbI k) := ⟨rfl, fun x hx => by
 rcases List.mem_cons.1 hx with rfl | h2
 ·exact h
 ·rw [List.eq_of_mem_replicate h2]; decide⟩
theorem hb_five:preE 5 hbF=0∧preN 5 hbF=4∧preL 5 hbF=hbF.take 128:=by
 have e:preE 5 hbF=0:=preE_0 (by decide) (by decide+kernel);exact⟨e,(pre_yes e).1,(pre_yes e).2⟩
end S
namespace W
open Go.RowKit G
set_option maxRecDepth 20000
set_option maxHeartbeats 8000000
attribute [local irreducible] RS RX RY Code.wp bodyPost J Ent.blk Ent.irow Ent.iown Ent.wrow Ent.wown Ent.gown Ent.all Ent.emp
instance:Siz prog 33 6:=⟨by kernel_rfl⟩
instance:Ents prog 14:=⟨.mk func14 (by kernel_rfl) rfl⟩
instance:Ents prog 13:=⟨.mk func13 (by kernel_rfl) rfl⟩
instance:Ents prog 18:=⟨.mk func18 (by kernel_rfl) rfl⟩
instance:Ents prog 19:=⟨.mk func19 (by kernel_rfl) rfl⟩
instance:Ents prog 20:=⟨.mk func20 (by kernel_rfl) rfl⟩
instance:Ents prog 103:=⟨.mk func103 (by kernel_rfl) rfl⟩
theorem none24(w:World):Calls prog 14 #[] w (Ret w fun v _=>v= .agg (acC S.hbN).toArray):=by
 refine J.enter 2 func14 rfl rfl ?_;refine run ?_;refine J.alloc rfl fun b1=>?_
 refine run ?_;exact J.fin rfl
theorem five24(w:World):Calls prog 103 #[] w (Gv w (fun q:Nat=> .slice (some ⟨q,0,none⟩) 5 5) (fun q=>[.wown 24 .u8 32 (some ⟨q,0,none⟩) 5 5 S.hbF]) fun _=>True):=by
 refine J.enter 7 func103 rfl rfl ?_;refine run ?_;refine J.bI .u8 (List.replicate 32 0) [(0,1)] (S.hbI 1) rfl rfl rfl rfl ?_;refine run ?_;refine J.bI .u8 (List.replicate 32 0) [(0,2)] (S.hbI 2) rfl rfl rfl rfl ?_;refine run ?_;refine J.bI .u8 (List.replicate 32 0) [(0,3)] (S.hbI 3) rfl rfl rfl rfl ?_;refine run ?_;refine J.bI .u8 (List.replicate 32 0) [(0,4)] (S.hbI 4) rfl rfl rfl rfl ?_;refine run ?_;refine J.bI .u8 (List.replicate 32 0) [(0,5)] (S.hbI 5) rfl rfl rfl rfl ?_;refine run ?_
 refine J.bnG (vs := [.agg (ints .u8 (S.hbI 1)).toArray, .agg (ints .u8 (S.hbI 2)).toArray, .agg (ints .u8 (S.hbI 3)).toArray, .agg (ints .u8 (S.hbI 4)).toArray, .agg (ints .u8 (S.hbI 5)).toArray]) idC [⟨S.hbI 1, rfl⟩, ⟨S.hbI 2, rfl⟩, ⟨S.hbI 3, rfl⟩, ⟨S.hbI 4, rfl⟩, ⟨S.hbI 5, rfl⟩] idC_len rfl rfl rfl (fun v hv => by
  simp only [List.mem_cons, List.not_mem_nil, or_false] at hv
  rcases hv with rfl | rfl | rfl | rfl | rfl <;> rfl) fun b => ?_
 refine run ?_;have e:flatI [⟨S.hbI 1,rfl⟩,⟨S.hbI 2,rfl⟩,⟨S.hbI 3,rfl⟩,⟨S.hbI 4,rfl⟩,⟨S.hbI 5,rfl⟩]=S.hbF:=by decide
 have hbd:Bd .u8 S.hbF:=fun x hx=>by
  have k:=fun(i:Int) (hi:0≤i∧i<256)=>(S.hb_arr hi).2;rcases List.mem_append.1 hx with h|h
  ·exact k 1 (by decide) x h
  rcases List.mem_append.1 h with h|h
  ·exact k 2 (by decide) x h
  rcases List.mem_append.1 h with h|h
  ·exact k 3 (by decide) x h
  rcases List.mem_append.1 h with h|h
  ·exact k 4 (by decide) x h
  exact k 5 (by decide) x h
 refine J.re (.gown idC 32 24 (some ⟨b,0,none⟩) 5 5 [⟨S.hbI 1,rfl⟩,⟨S.hbI 2,rfl⟩,⟨S.hbI 3,rfl⟩,⟨S.hbI 4,rfl⟩,⟨S.hbI 5,rfl⟩]) (.wown 24 .u8 32 (some ⟨b,0,none⟩) 5 5 S.hbF) (fun _ _ h=>e▸gown_wown (e.symm▸hbd) h) ?_;exact J.finG b rfl trivial sb
theorem bdAlive(TK:TypeId)(w:World)(K0:Kst w TK):Calls prog 21 #[] w (Ret w fun v _=>v= .bool true):=by
 have hbZ:StZ S.hbT:=by
  have h:=(StZ.nw 3 1).off S.hb_okT.2.1 S.hb_okT.1 S.hb_ver;rwa[S.off_1 S.hb_jud]at h
 have hA:Arr .u8 32 (S.idOf S.hbO):=S.sha_arr _;have hbk:S.hbO.k=1:=by
  unfold S.hbO;rw[S.signS_eq S.hb_signE];rfl
 have hrI:Arr .u8 32 (S.wrtR S.hbT 6 S.hbN).i:=(S.wrt_fit S.hbT_ok.2.1 S.hb_okN).i;refine J.enter 107 func21 rfl rfl ?_;refine run ?_;refine J.call rfl rfl (fun w' M=>bPreds (S0:=no) none 0 0 [] w' WRow.nil (Nat.le_refl _) (by decide)) fun l hl=>?_
 rw[S.hb_nil.1,S.hb_nil.2.1,S.hb_nil.2.2];refine run ?_;refine J.callp rfl rfl (fun w' M=>bStamp (S0:=no) GrA.nil TK w' (K0.ext M.ext) ⟨WRow.nil,GRow.nil' opC_len,Inns.nil,fun z hz=>(by cases hz),Nat.le_refl _,Nat.le_refl _,Nat.zero_le _,Nat.zero_le _⟩) ?_;rw[show GrA.nil.P=S.PG.nil from rfl,S.hb_stm0.1,S.hb_stm0.2];refine run ?_;refine J.callp rfl rfl (fun w' M=>none24 w') ?_;refine run ?_;refine J.call rfl rfl (fun w' M=>signBR (S0:=no) 5 (by decide) ⟨S.hbA,none,0⟩ w' ⟨S.hb_okA,WRow.nil,Nat.le_refl _⟩) fun q hq=>?_
 obtain⟨⟨o,pa,pc⟩,e⟩:=q;obtain⟨h1,h2,h3⟩:=hq;dsimp only at h1 h2 h3⊢;obtain rfl:o=S.hbO:=h2;refine run ?_;refine J.alloc rfl fun b1=>?_
 refine run ?_;refine J.call rfl rfl (fun w' M=>refStNew 3 1 w') fun u hu=>?_
 rw[show S.nwTE 3 1=0 from rfl];refine run ?_;refine J.alloc rfl fun b2=>?_
 refine run ?_;refine J.call rfl rfl (fun w' M=>(RW.row' (a:=pa) w' M).elim fun _ k=>refStOffer u ⟨S.hbO,pa,pc⟩ w' (hu.own (StZ.nw 3 1) w' M) ⟨S.hb_ok,k,h1⟩) fun t ht=>?_
 rw[hu.V,S.hbT_of.1]at ht;rw[hu.V,S.hbT_of.2];refine run ?_;refine J.alloc rfl fun b3=>?_
 refine run ?_;refine J.joinX (A:=OpA×Nat) (fun u=>[(12, .pointer (some ⟨u.2,0,none⟩)),(15, .int .i64 0)]) [13,14,44,45,46,47,48,49,50,51] (fun u=>[.blk u.2 (opC u.1) 37, .wrow .u8 32 u.1.pa u.1.o.n u.1.o.ids, .blk b1 (opC ⟨S.hbO,pa,pc⟩) 37, .wrow .u8 32 pa S.hbO.n S.hbO.ids]) (fun u=>u.1.o.st=5∧u.1.o.n=1∧u.1.o.ids=S.idOf S.hbO) ?_ (fun u j1 hu6=>?_)
 ·refine J.regionW [.blk b3 (srC t) 55] mixed ?_;refine J.wst (A:=(OpA×Option Addr×Nat×Nat)×Nat×Unit) (fun p=>[(12, .pointer (some ⟨p.2.1,0,none⟩)),(44,bdC (S.wrtR S.hbT 6 S.hbN) p.1),(45, .agg (srC t).toArray),(46, .agg (acC S.hbN).toArray),(47,bdC (S.wrtR S.hbT 6 S.hbN) p.1),(48, .agg (opC p.1.1).toArray),(49, .slice p.1.2.1 p.1.2.2.1 p.1.2.2.2),(50, .agg (ints .u8 (S.wrtR S.hbT 6 S.hbN).i).toArray),(51, .int .i64 (S.wrtR S.hbT 6 S.hbN).e)]) [] (fun p=>[.blk p.2.1 [.int .u32 0, .slice none 0 0, .int .u64 0, .int .u8 0, .string .empty, .int .u8 0, .int .i64 0, .int .u64 0, .string .empty, .int .u32 0, .int .u32 0] 37, .wrow .u8 32 p.1.1.pa p.1.1.o.n p.1.1.o.ids, .irow .u8 p.1.2.1 p.1.2.2.1 (S.wrtR S.hbT 6 S.hbN).b, .blk b3 (srC t) 55,shW t.sh, .wown 24 .u8 32 t.oa t.on t.oc t.os, .blk b1 (opC ⟨S.hbO,pa,pc⟩) 37, .wrow .u8 32 pa S.hbO.n S.hbO.ids]) (fun p=>BdP (S.wrtR S.hbT 6 S.hbN) p.1∧True) 5 (bs 14 511) (fun p j hp=>?_) (fun st0=>?_)
  ·obtain⟨q,bg,_⟩:=p;obtain⟨hq,_⟩:=hp
   try dsimp only
   try dsimp only at hq
   refine J.wfin [(9, .e),(10, .e),(11, .q),(12, .e),(13, .q)] (by kernel_rfl) ?_;refine run ?_;refine J.alloc rfl fun bi=>?_
   refine run ?_;refine run ?_;refine run ?_;have e1:q.1.o.n=1:=by rw[hq.1];exact S.hb_wrt.2.2.1
   have e2:q.1.o.ids=S.idOf S.hbO:=by rw[hq.1];exact S.hb_wrt.2.2.2
   have e3:q.1.o.st=5:=by rw[hq.1];exact S.hb_wrt.2.1
   rw[S.hb_wrt.1];refine J.front (.wrow .u8 32 pa S.hbO.n S.hbO.ids) ?_;refine J.front (.blk b1 (opC ⟨S.hbO,pa,pc⟩) 37) ?_;refine J.front (.wrow .u8 32 q.1.pa q.1.o.n q.1.o.ids) ?_;refine J.front (.blk bg (opC q.1) 37) ?_;refine J.drop (E:=[.blk bg (opC q.1) 37, .wrow .u8 32 q.1.pa q.1.o.n q.1.o.ids, .blk b1 (opC ⟨S.hbO,pa,pc⟩) 37, .wrow .u8 32 pa S.hbO.n S.hbO.ids]) sb ?_;exact J.cut (q.1,bg) ⟨rfl,rfl,trivial⟩ (by kernel_rfl) ⟨e3,e1,e2⟩
  refine J.wst (A:=(OpA×Option Addr×Nat×Nat)×Nat×Unit) (fun p=>[(14, .pointer (some ⟨p.2.1,0,none⟩)),(44,bdC (S.wrtR S.hbT 6 S.hbN) p.1),(45, .agg (srC t).toArray),(46, .agg (acC S.hbN).toArray),(47,bdC (S.wrtR S.hbT 6 S.hbN) p.1),(48, .agg (opC p.1.1).toArray),(49, .slice p.1.2.1 p.1.2.2.1 p.1.2.2.2),(50, .agg (ints .u8 (S.wrtR S.hbT 6 S.hbN).i).toArray),(51, .int .i64 (S.wrtR S.hbT 6 S.hbN).e)]) [] (fun p=>[.blk p.2.1 (ints .u8 (List.replicate 32 0)) 24, .wrow .u8 32 p.1.1.pa p.1.1.o.n p.1.1.o.ids, .irow .u8 p.1.2.1 p.1.2.2.1 (S.wrtR S.hbT 6 S.hbN).b, .blk b3 (srC t) 55,shW t.sh, .wown 24 .u8 32 t.oa t.on t.oc t.os, .blk b1 (opC ⟨S.hbO,pa,pc⟩) 37, .wrow .u8 32 pa S.hbO.n S.hbO.ids]) (fun p=>BdP (S.wrtR S.hbT 6 S.hbN) p.1∧True) 5 (bs 14 767) (fun p j hp=>?_) (fun st1=>?_)
  ·obtain⟨q,bi,_⟩:=p;obtain⟨hq,_⟩:=hp
   try dsimp only
   try dsimp only at hq
   refine J.wfin [(8, .e),(10, .e),(11, .q),(12, .e),(13, .q)] (by kernel_rfl) ?_;refine run ?_;refine J.alloc rfl fun bg=>?_
   refine run ?_;refine run ?_;refine run ?_;have e1:q.1.o.n=1:=by rw[hq.1];exact S.hb_wrt.2.2.1
   have e2:q.1.o.ids=S.idOf S.hbO:=by rw[hq.1];exact S.hb_wrt.2.2.2
   have e3:q.1.o.st=5:=by rw[hq.1];exact S.hb_wrt.2.1
   rw[S.hb_wrt.1];refine J.front (.wrow .u8 32 pa S.hbO.n S.hbO.ids) ?_;refine J.front (.blk b1 (opC ⟨S.hbO,pa,pc⟩) 37) ?_;refine J.front (.wrow .u8 32 q.1.pa q.1.o.n q.1.o.ids) ?_;refine J.front (.blk bg (opC q.1) 37) ?_;refine J.drop (E:=[.blk bg (opC q.1) 37, .wrow .u8 32 q.1.pa q.1.o.n q.1.o.ids, .blk b1 (opC ⟨S.hbO,pa,pc⟩) 37, .wrow .u8 32 pa S.hbO.n S.hbO.ids]) sb ?_;exact J.cut (q.1,bg) ⟨rfl,rfl,trivial⟩ (by kernel_rfl) ⟨e3,e1,e2⟩
  refine J.wst (A:=(OpA×Option Addr×Nat×Nat)×Unit) (fun p=>[(45, .agg (srC t).toArray),(46, .agg (acC S.hbN).toArray),(47,bdC (S.wrtR S.hbT 6 S.hbN) p.1)]) [] (fun p=>[.wrow .u8 32 p.1.1.pa p.1.1.o.n p.1.1.o.ids, .irow .u8 p.1.2.1 p.1.2.2.1 (S.wrtR S.hbT 6 S.hbN).b, .blk b3 (srC t) 55,shW t.sh, .wown 24 .u8 32 t.oa t.on t.oc t.os, .blk b1 (opC ⟨S.hbO,pa,pc⟩) 37, .wrow .u8 32 pa S.hbO.n S.hbO.ids]) (fun p=>BdP (S.wrtR S.hbT 6 S.hbN) p.1∧True) 11 (bs 14 7) (fun p j hp=>?_) (fun st2=>?_)
  ·obtain⟨q,_⟩:=p;obtain⟨hq,_⟩:=hp
   try dsimp only
   try dsimp only at hq
   refine J.wnode [(3, .q),(4, .q),(5, .q),(6, .q),(7, .q)] [8,9] 5 (bs 14 255) (by kernel_rfl) ?_;refine run ?_;refine J.nil ?_;refine J.wbr ?_ ?_
   ·refine J.alloc rfl fun bg=>?_
    refine J.nil ?_;exact st0 (q,bg,()) _ _ _ ⟨rfl,rfl,rfl,rfl,rfl,rfl,rfl,rfl,rfl,trivial⟩ (by kernel_rfl) (by kernel_rfl) ⟨hq,trivial⟩ inferInstance
   refine J.wbr ?_ ?_
   ·refine J.alloc rfl fun bi=>?_
    refine J.nil ?_;exact st1 (q,bi,()) _ _ _ ⟨rfl,rfl,rfl,rfl,rfl,rfl,rfl,rfl,rfl,trivial⟩ (by kernel_rfl) (by kernel_rfl) ⟨hq,trivial⟩ inferInstance
   exact J.wbr0
  refine J.wst (A:=(OpA×Option Addr×Nat×Nat)×Nat×Unit) (fun p=>[(12, .pointer (some ⟨p.2.1,0,none⟩)),(45, .agg (srC t).toArray),(46, .agg (acC S.hbN).toArray),(47,bdC (S.wrtR S.hbT 6 S.hbN) p.1)]) [] (fun p=>[.blk p.2.1 [.int .u32 0, .slice none 0 0, .int .u64 0, .int .u8 0, .string .empty, .int .u8 0, .int .i64 0, .int .u64 0, .string .empty, .int .u32 0, .int .u32 0] 37, .wrow .u8 32 p.1.1.pa p.1.1.o.n p.1.1.o.ids, .irow .u8 p.1.2.1 p.1.2.2.1 (S.wrtR S.hbT 6 S.hbN).b, .blk b3 (srC t) 55,shW t.sh, .wown 24 .u8 32 t.oa t.on t.oc t.os, .blk b1 (opC ⟨S.hbO,pa,pc⟩) 37, .wrow .u8 32 pa S.hbO.n S.hbO.ids]) (fun p=>BdP (S.wrtR S.hbT 6 S.hbN) p.1∧True) 10 (bs 14 263) (fun p j hp=>?_) (fun st3=>?_)
  ·obtain⟨q,bg,_⟩:=p;obtain⟨hq,_⟩:=hp
   try dsimp only
   try dsimp only at hq
   refine J.wfin [(3, .q),(4, .q),(5, .q),(6, .q),(7, .q),(9, .e),(10, .e),(11, .q),(12, .e),(13, .q)] (by kernel_rfl) ?_;refine run ?_;refine J.alloc rfl fun bi=>?_
   refine run ?_;refine run ?_;refine run ?_;have e1:q.1.o.n=1:=by rw[hq.1];exact S.hb_wrt.2.2.1
   have e2:q.1.o.ids=S.idOf S.hbO:=by rw[hq.1];exact S.hb_wrt.2.2.2
   have e3:q.1.o.st=5:=by rw[hq.1];exact S.hb_wrt.2.1
   rw[S.hb_wrt.1];refine J.front (.wrow .u8 32 pa S.hbO.n S.hbO.ids) ?_;refine J.front (.blk b1 (opC ⟨S.hbO,pa,pc⟩) 37) ?_;refine J.front (.wrow .u8 32 q.1.pa q.1.o.n q.1.o.ids) ?_;refine J.front (.blk bg (opC q.1) 37) ?_;refine J.drop (E:=[.blk bg (opC q.1) 37, .wrow .u8 32 q.1.pa q.1.o.n q.1.o.ids, .blk b1 (opC ⟨S.hbO,pa,pc⟩) 37, .wrow .u8 32 pa S.hbO.n S.hbO.ids]) sb ?_;exact J.cut (q.1,bg) ⟨rfl,rfl,trivial⟩ (by kernel_rfl) ⟨e3,e1,e2⟩
  refine J.wst (A:=Nat×Nat×Unit) (fun p=>[(12, .pointer (some ⟨p.1,0,none⟩)),(14, .pointer (some ⟨p.2.1,0,none⟩)),(45, .agg (srC t).toArray),(46, .agg (acC S.hbN).toArray)]) [] (fun p=>[.blk p.1 [.int .u32 0, .slice none 0 0, .int .u64 0, .int .u8 0, .string .empty, .int .u8 0, .int .i64 0, .int .u64 0, .string .empty, .int .u32 0, .int .u32 0] 37, .blk p.2.1 (ints .u8 (List.replicate 32 0)) 24, .blk b3 (srC t) 55,shW t.sh, .wown 24 .u8 32 t.oa t.on t.oc t.os, .blk b1 (opC ⟨S.hbO,pa,pc⟩) 37, .wrow .u8 32 pa S.hbO.n S.hbO.ids]) (fun p=>True) 10 (bs 14 771) (fun p j hp=>?_) (fun st4=>?_)
  ·obtain⟨bg,bi,_⟩:=p;obtain _:=hp
   try dsimp only
   refine J.wfin [(2, .e),(3, .q),(4, .q),(5, .q),(6, .q),(7, .q),(10, .e),(11, .q),(12, .e),(13, .q)] (by kernel_rfl) ?_;refine run ?_;refine J.call rfl rfl (fun w' M=>by have h:=bWrite 6 (by decide) t S.hbN S.hb_okN TK w' (K0.ext M.ext) (ht.own hbZ w' M);rwa[ht.V]at h) fun q hq=>?_
   refine run ?_;refine run ?_;refine run ?_;have e1:q.1.o.n=1:=by rw[hq.1];exact S.hb_wrt.2.2.1
   have e2:q.1.o.ids=S.idOf S.hbO:=by rw[hq.1];exact S.hb_wrt.2.2.2
   have e3:q.1.o.st=5:=by rw[hq.1];exact S.hb_wrt.2.1
   rw[S.hb_wrt.1];refine J.front (.wrow .u8 32 pa S.hbO.n S.hbO.ids) ?_;refine J.front (.blk b1 (opC ⟨S.hbO,pa,pc⟩) 37) ?_;refine J.front (.wrow .u8 32 q.1.pa q.1.o.n q.1.o.ids) ?_;refine J.front (.blk bg (opC q.1) 37) ?_;refine J.drop (E:=[.blk bg (opC q.1) 37, .wrow .u8 32 q.1.pa q.1.o.n q.1.o.ids, .blk b1 (opC ⟨S.hbO,pa,pc⟩) 37, .wrow .u8 32 pa S.hbO.n S.hbO.ids]) sb ?_;exact J.cut (q.1,bg) ⟨rfl,rfl,trivial⟩ (by kernel_rfl) ⟨e3,e1,e2⟩
  refine J.wst (A:=Nat×Unit) (fun p=>[(12, .pointer (some ⟨p.1,0,none⟩)),(45, .agg (srC t).toArray),(46, .agg (acC S.hbN).toArray)]) [] (fun p=>[.blk p.1 [.int .u32 0, .slice none 0 0, .int .u64 0, .int .u8 0, .string .empty, .int .u8 0, .int .i64 0, .int .u64 0, .string .empty, .int .u32 0, .int .u32 0] 37, .blk b3 (srC t) 55,shW t.sh, .wown 24 .u8 32 t.oa t.on t.oc t.os, .blk b1 (opC ⟨S.hbO,pa,pc⟩) 37, .wrow .u8 32 pa S.hbO.n S.hbO.ids]) (fun p=>True) 11 (bs 14 259) (fun p j hp=>?_) (fun st5=>?_)
  ·obtain⟨bg,_⟩:=p;obtain _:=hp
   try dsimp only
   refine J.wnode [] [2,9] 10 (bs 14 259) (by kernel_rfl) ?_;refine run ?_;refine J.nil ?_;refine J.wbr ?_ ?_
   ·refine J.call rfl rfl (fun w' M=>by have h:=bWrite 6 (by decide) t S.hbN S.hb_okN TK w' (K0.ext M.ext) (ht.own hbZ w' M);rwa[ht.V]at h) fun q hq=>?_
    refine J.nil ?_;refine J.front (.irow .u8 q.2.1 q.2.2.1 (S.wrtR S.hbT 6 S.hbN).b) ?_;refine J.front (.wrow .u8 32 q.1.pa q.1.o.n q.1.o.ids) ?_;refine J.front (.blk bg [.int .u32 0, .slice none 0 0, .int .u64 0, .int .u8 0, .string .empty, .int .u8 0, .int .i64 0, .int .u64 0, .string .empty, .int .u32 0, .int .u32 0] 37) ?_;exact st3 (q,bg,()) _ _ _ ⟨rfl,rfl,rfl,rfl,trivial⟩ (by kernel_rfl) (by kernel_rfl) ⟨hq,trivial⟩ inferInstance
   refine J.wbr ?_ ?_
   ·refine J.alloc rfl fun bi=>?_
    refine J.nil ?_;refine J.front (.blk bi (ints .u8 (List.replicate 32 0)) 24) ?_;refine J.front (.blk bg [.int .u32 0, .slice none 0 0, .int .u64 0, .int .u8 0, .string .empty, .int .u8 0, .int .i64 0, .int .u64 0, .string .empty, .int .u32 0, .int .u32 0] 37) ?_;exact st4 (bg,bi,()) _ _ _ ⟨rfl,rfl,rfl,rfl,trivial⟩ (by kernel_rfl) (by kernel_rfl) trivial inferInstance
   exact J.wbr0
  refine J.wst (A:=(OpA×Option Addr×Nat×Nat)×Nat×Unit) (fun p=>[(14, .pointer (some ⟨p.2.1,0,none⟩)),(45, .agg (srC t).toArray),(46, .agg (acC S.hbN).toArray),(47,bdC (S.wrtR S.hbT 6 S.hbN) p.1)]) [] (fun p=>[.blk p.2.1 (ints .u8 (List.replicate 32 0)) 24, .wrow .u8 32 p.1.1.pa p.1.1.o.n p.1.1.o.ids, .irow .u8 p.1.2.1 p.1.2.2.1 (S.wrtR S.hbT 6 S.hbN).b, .blk b3 (srC t) 55,shW t.sh, .wown 24 .u8 32 t.oa t.on t.oc t.os, .blk b1 (opC ⟨S.hbO,pa,pc⟩) 37, .wrow .u8 32 pa S.hbO.n S.hbO.ids]) (fun p=>BdP (S.wrtR S.hbT 6 S.hbN) p.1∧True) 10 (bs 14 519) (fun p j hp=>?_) (fun st6=>?_)
  ·obtain⟨q,bi,_⟩:=p;obtain⟨hq,_⟩:=hp
   try dsimp only
   try dsimp only at hq
   refine J.wfin [(3, .q),(4, .q),(5, .q),(6, .q),(7, .q),(8, .e),(10, .e),(11, .q),(12, .e),(13, .q)] (by kernel_rfl) ?_;refine run ?_;refine J.alloc rfl fun bg=>?_
   refine run ?_;refine run ?_;refine run ?_;have e1:q.1.o.n=1:=by rw[hq.1];exact S.hb_wrt.2.2.1
   have e2:q.1.o.ids=S.idOf S.hbO:=by rw[hq.1];exact S.hb_wrt.2.2.2
   have e3:q.1.o.st=5:=by rw[hq.1];exact S.hb_wrt.2.1
   rw[S.hb_wrt.1];refine J.front (.wrow .u8 32 pa S.hbO.n S.hbO.ids) ?_;refine J.front (.blk b1 (opC ⟨S.hbO,pa,pc⟩) 37) ?_;refine J.front (.wrow .u8 32 q.1.pa q.1.o.n q.1.o.ids) ?_;refine J.front (.blk bg (opC q.1) 37) ?_;refine J.drop (E:=[.blk bg (opC q.1) 37, .wrow .u8 32 q.1.pa q.1.o.n q.1.o.ids, .blk b1 (opC ⟨S.hbO,pa,pc⟩) 37, .wrow .u8 32 pa S.hbO.n S.hbO.ids]) sb ?_;exact J.cut (q.1,bg) ⟨rfl,rfl,trivial⟩ (by kernel_rfl) ⟨e3,e1,e2⟩
  refine J.wst (A:=Nat×Unit) (fun p=>[(14, .pointer (some ⟨p.1,0,none⟩)),(45, .agg (srC t).toArray),(46, .agg (acC S.hbN).toArray)]) [] (fun p=>[.blk p.1 (ints .u8 (List.replicate 32 0)) 24, .blk b3 (srC t) 55,shW t.sh, .wown 24 .u8 32 t.oa t.on t.oc t.os, .blk b1 (opC ⟨S.hbO,pa,pc⟩) 37, .wrow .u8 32 pa S.hbO.n S.hbO.ids]) (fun p=>True) 11 (bs 14 515) (fun p j hp=>?_) (fun st7=>?_)
  ·obtain⟨bi,_⟩:=p;obtain _:=hp
   try dsimp only
   refine J.wnode [] [2,8] 10 (bs 14 515) (by kernel_rfl) ?_;refine run ?_;refine J.nil ?_;refine J.wbr ?_ ?_
   ·refine J.call rfl rfl (fun w' M=>by have h:=bWrite 6 (by decide) t S.hbN S.hb_okN TK w' (K0.ext M.ext) (ht.own hbZ w' M);rwa[ht.V]at h) fun q hq=>?_
    refine J.nil ?_;refine J.front (.irow .u8 q.2.1 q.2.2.1 (S.wrtR S.hbT 6 S.hbN).b) ?_;refine J.front (.wrow .u8 32 q.1.pa q.1.o.n q.1.o.ids) ?_;refine J.front (.blk bi (ints .u8 (List.replicate 32 0)) 24) ?_;exact st6 (q,bi,()) _ _ _ ⟨rfl,rfl,rfl,rfl,trivial⟩ (by kernel_rfl) (by kernel_rfl) ⟨hq,trivial⟩ inferInstance
   refine J.wbr ?_ ?_
   ·refine J.alloc rfl fun bg=>?_
    refine J.nil ?_;exact st4 (bg,bi,()) _ _ _ ⟨rfl,rfl,rfl,rfl,trivial⟩ (by kernel_rfl) (by kernel_rfl) trivial inferInstance
   exact J.wbr0
  refine J.wst (A:=Unit) (fun p=>[(45, .agg (srC t).toArray),(46, .agg (acC S.hbN).toArray)]) [] (fun p=>[.blk b3 (srC t) 55,shW t.sh, .wown 24 .u8 32 t.oa t.on t.oc t.os, .blk b1 (opC ⟨S.hbO,pa,pc⟩) 37, .wrow .u8 32 pa S.hbO.n S.hbO.ids]) (fun p=>True) 12 (bs 14 3) (fun p j hp=>?_) (fun st8=>?_)
  ·obtain _:=p;obtain _:=hp
   try dsimp only
   refine J.wnode [] [2,8,9] 11 (bs 14 3) (by kernel_rfl) ?_;refine run ?_;refine J.nil ?_;refine J.wbr ?_ ?_
   ·refine J.call rfl rfl (fun w' M=>by have h:=bWrite 6 (by decide) t S.hbN S.hb_okN TK w' (K0.ext M.ext) (ht.own hbZ w' M);rwa[ht.V]at h) fun q hq=>?_
    refine J.nil ?_;exact st2 (q,()) _ _ _ ⟨rfl,rfl,rfl,trivial⟩ (by kernel_rfl) (by kernel_rfl) ⟨hq,trivial⟩ inferInstance
   refine J.wbr ?_ ?_
   ·refine J.alloc rfl fun bg=>?_
    refine J.nil ?_;exact st5 (bg,()) _ _ _ ⟨rfl,rfl,rfl,trivial⟩ (by kernel_rfl) (by kernel_rfl) trivial inferInstance
   refine J.wbr ?_ ?_
   ·refine J.alloc rfl fun bi=>?_
    refine J.nil ?_;exact st7 (bi,()) _ _ _ ⟨rfl,rfl,rfl,trivial⟩ (by kernel_rfl) (by kernel_rfl) trivial inferInstance
   exact J.wbr0
  refine J.wst (A:=Nat×Nat×Unit) (fun p=>[(12, .pointer (some ⟨p.1,0,none⟩)),(14, .pointer (some ⟨p.2.1,0,none⟩)),(45, .agg (srC t).toArray)]) [] (fun p=>[.blk p.1 [.int .u32 0, .slice none 0 0, .int .u64 0, .int .u8 0, .string .empty, .int .u8 0, .int .i64 0, .int .u64 0, .string .empty, .int .u32 0, .int .u32 0] 37, .blk p.2.1 (ints .u8 (List.replicate 32 0)) 24, .blk b3 (srC t) 55,shW t.sh, .wown 24 .u8 32 t.oa t.on t.oc t.os, .blk b1 (opC ⟨S.hbO,pa,pc⟩) 37, .wrow .u8 32 pa S.hbO.n S.hbO.ids]) (fun p=>True) 11 (bs 14 769) (fun p j hp=>?_) (fun st9=>?_)
  ·obtain⟨bg,bi,_⟩:=p;obtain _:=hp
   try dsimp only
   refine J.wfin [(1, .e),(2, .e),(3, .q),(4, .q),(5, .q),(6, .q),(7, .q),(10, .e),(11, .q),(12, .e),(13, .q)] (by kernel_rfl) ?_;refine run ?_;refine J.callp rfl rfl (fun w' M=>none24 w') ?_;refine run ?_;refine J.call rfl rfl (fun w' M=>by have h:=bWrite 6 (by decide) t S.hbN S.hb_okN TK w' (K0.ext M.ext) (ht.own hbZ w' M);rwa[ht.V]at h) fun q hq=>?_
   refine run ?_;refine run ?_;refine run ?_;have e1:q.1.o.n=1:=by rw[hq.1];exact S.hb_wrt.2.2.1
   have e2:q.1.o.ids=S.idOf S.hbO:=by rw[hq.1];exact S.hb_wrt.2.2.2
   have e3:q.1.o.st=5:=by rw[hq.1];exact S.hb_wrt.2.1
   rw[S.hb_wrt.1];refine J.front (.wrow .u8 32 pa S.hbO.n S.hbO.ids) ?_;refine J.front (.blk b1 (opC ⟨S.hbO,pa,pc⟩) 37) ?_;refine J.front (.wrow .u8 32 q.1.pa q.1.o.n q.1.o.ids) ?_;refine J.front (.blk bg (opC q.1) 37) ?_;refine J.drop (E:=[.blk bg (opC q.1) 37, .wrow .u8 32 q.1.pa q.1.o.n q.1.o.ids, .blk b1 (opC ⟨S.hbO,pa,pc⟩) 37, .wrow .u8 32 pa S.hbO.n S.hbO.ids]) sb ?_;exact J.cut (q.1,bg) ⟨rfl,rfl,trivial⟩ (by kernel_rfl) ⟨e3,e1,e2⟩
  refine J.wst (A:=Nat×Unit) (fun p=>[(12, .pointer (some ⟨p.1,0,none⟩)),(45, .agg (srC t).toArray)]) [] (fun p=>[.blk p.1 [.int .u32 0, .slice none 0 0, .int .u64 0, .int .u8 0, .string .empty, .int .u8 0, .int .i64 0, .int .u64 0, .string .empty, .int .u32 0, .int .u32 0] 37, .blk b3 (srC t) 55,shW t.sh, .wown 24 .u8 32 t.oa t.on t.oc t.os, .blk b1 (opC ⟨S.hbO,pa,pc⟩) 37, .wrow .u8 32 pa S.hbO.n S.hbO.ids]) (fun p=>True) 12 (bs 14 257) (fun p j hp=>?_) (fun st10=>?_)
  ·obtain⟨bg,_⟩:=p;obtain _:=hp
   try dsimp only
   refine J.wnode [] [1,9] 11 (bs 14 257) (by kernel_rfl) ?_;refine run ?_;refine J.nil ?_;refine J.wbr ?_ ?_
   ·refine J.callp rfl rfl (fun w' M=>none24 w') ?_;refine J.nil ?_;exact st5 (bg,()) _ _ _ ⟨rfl,rfl,rfl,trivial⟩ (by kernel_rfl) (by kernel_rfl) trivial inferInstance
   refine J.wbr ?_ ?_
   ·refine J.alloc rfl fun bi=>?_
    refine J.nil ?_;refine J.front (.blk bi (ints .u8 (List.replicate 32 0)) 24) ?_;refine J.front (.blk bg [.int .u32 0, .slice none 0 0, .int .u64 0, .int .u8 0, .string .empty, .int .u8 0, .int .i64 0, .int .u64 0, .string .empty, .int .u32 0, .int .u32 0] 37) ?_;exact st9 (bg,bi,()) _ _ _ ⟨rfl,rfl,rfl,trivial⟩ (by kernel_rfl) (by kernel_rfl) trivial inferInstance
   exact J.wbr0
  refine J.wst (A:=Nat×Unit) (fun p=>[(14, .pointer (some ⟨p.1,0,none⟩)),(45, .agg (srC t).toArray)]) [] (fun p=>[.blk p.1 (ints .u8 (List.replicate 32 0)) 24, .blk b3 (srC t) 55,shW t.sh, .wown 24 .u8 32 t.oa t.on t.oc t.os, .blk b1 (opC ⟨S.hbO,pa,pc⟩) 37, .wrow .u8 32 pa S.hbO.n S.hbO.ids]) (fun p=>True) 12 (bs 14 513) (fun p j hp=>?_) (fun st11=>?_)
  ·obtain⟨bi,_⟩:=p;obtain _:=hp
   try dsimp only
   refine J.wnode [] [1,8] 11 (bs 14 513) (by kernel_rfl) ?_;refine run ?_;refine J.nil ?_;refine J.wbr ?_ ?_
   ·refine J.callp rfl rfl (fun w' M=>none24 w') ?_;refine J.nil ?_;exact st7 (bi,()) _ _ _ ⟨rfl,rfl,rfl,trivial⟩ (by kernel_rfl) (by kernel_rfl) trivial inferInstance
   refine J.wbr ?_ ?_
   ·refine J.alloc rfl fun bg=>?_
    refine J.nil ?_;exact st9 (bg,bi,()) _ _ _ ⟨rfl,rfl,rfl,trivial⟩ (by kernel_rfl) (by kernel_rfl) trivial inferInstance
   exact J.wbr0
  refine J.wnode [(0, .q)] [1,8,9] 12 (bs 14 1) (by kernel_rfl) ?_;refine run ?_;refine J.nil ?_;refine J.wbr ?_ ?_
  ·refine J.callp rfl rfl (fun w' M=>none24 w') ?_;refine J.nil ?_;exact st8 () _ _ _ ⟨rfl,rfl,trivial⟩ (by kernel_rfl) (by kernel_rfl) trivial inferInstance
  refine J.wbr ?_ ?_
  ·refine J.alloc rfl fun bg=>?_
   refine J.nil ?_;exact st10 (bg,()) _ _ _ ⟨rfl,rfl,trivial⟩ (by kernel_rfl) (by kernel_rfl) trivial inferInstance
  refine J.wbr ?_ ?_
  ·refine J.alloc rfl fun bi=>?_
   refine J.nil ?_;exact st11 (bi,()) _ _ _ ⟨rfl,rfl,trivial⟩ (by kernel_rfl) (by kernel_rfl) trivial inferInstance
  exact J.wbr0
 obtain⟨z,bz⟩:=u;obtain⟨hz1,hz2,hz3⟩:=hu6;dsimp only at hz1 hz2 hz3⊢;refine run ?_;refine J.call rfl rfl (fun w' M=>five24 w') fun q5 _=>?_
 refine run ?_;refine J.call rfl rfl (fun w' M=>(RW.own' (a:=some ⟨q5,0,none⟩) w' M).elim fun _ k=>bPreds _ 5 5 S.hbF w' k (Nat.le_refl _) (by decide)) fun f hf=>?_
 rw[S.hb_five.1,S.hb_five.2.1,S.hb_five.2.2];refine run ?_;refine J.regionX [(0, .q),(1, .q),(2, .q),(3, .q),(4, .q),(5, .q),(6, .q),(7, .q),(8, .q),(9, .q),(10, .q),(11, .q),(12, .q),(13, .q),(14, .q),(15, .q),(16, .q),(17, .q),(18, .q),(19, .q),(20, .q),(21, .q),(22, .q),(23, .q),(24, .q),(25, .q),(26, .q),(27, .q),(28, .q),(29, .q),(30, .q),(31, .q),(32, .q),(33, .q),(34, .q),(35, .q),(36, .e),(37, .e),(38, .e),(39, .q),(40, .q),(41, .q),(42, .q),(43, .q),(44, .q),(45, .q),(46, .e),(47, .q),(48, .e),(49, .q),(50, .q)] mixed (by kernel_rfl) ?_;refine run ?_;refine J.spe rfl rfl rfl (fun _=>?_) (fun c=>absurd hz1 c);refine run ?_;refine J.callp rfl rfl (fun w' M=>(RW.row' (a:=pa) w' M).elim fun _ k=>ofO S.hbO S.hb_ok _ _ _ k h1 (by rw[S.hb_is.1];decide) (fun h=>by rw[hbk]at h;exact absurd h (by decide))) ?_;refine run ?_;refine J.b1W rfl rfl hA fun bx=>?_
 refine run ?_;refine J.callp rfl rfl (fun w' M=>(RW.row' (a:=z.pa) w' M).elim fun _ k0=>(RW.own' (a:=some ⟨bx,0,none⟩) w' M).elim fun _ k1=>sameIDs _ _ _ _ _ _ _ _ w' k0 k1 (by omega) (by omega)) ?_;rw[show decide (z.o.ids=S.idOf S.hbO)=true from decide_eq_true hz3];refine run ?_;refine J.call rfl rfl (fun w' M=>five24 w') fun q6 _=>?_
 refine run ?_;refine J.callp rfl rfl (fun w' M=>(RW.own' (a:=f.1) w' M).elim fun _ k0=>(RW.own' (a:=some ⟨q6,0,none⟩) w' M).elim fun _ k1=>sameIDs _ _ _ _ _ _ _ _ w' k0 (wTk k1 4 5 (by decide) (by decide)) (by omega) (by omega)) ?_;refine run ?_;exact J.fin rfl
end W
namespace S
open G
theorem nxt_ge0:∀(l:List OpV) (m:Int),m≤l.foldl stp m∧∀o∈l,o.st+1≤l.foldl stp m
 |[],m=>⟨Int.le_refl _,fun o h=>by cases h⟩
 |o::l,m=>by
  rw[List.foldl_cons];obtain⟨h1,h2⟩:=nxt_ge0 l (stp m o);have h3:m≤stp m o∧o.st+1≤stp m o:=by unfold stp;split<;>omega
  refine⟨by omega,fun u hu=>?_⟩;rcases List.mem_cons.1 hu with rfl|h
  ·omega
  ·exact h2 u h
theorem nxt_le0{k:Int}:∀(l:List OpV) (m:Int),m≤k→(∀o∈l,o.st+1≤k)→l.foldl stp m≤k
 |[],m,h,_=>h
 |o::l,m,h,h2=>by
  rw[List.foldl_cons];refine nxt_le0 l _ ?_ fun u hu=>h2 u (List.mem_cons_of_mem _ hu);have:=h2 o (List.mem_cons_self ..);unfold stp;split<;>omega
theorem nxt_lt{l:List OpV}{o:OpV}(h:o∈l):o.st<nxtS l:=by
 have:=(nxt_ge0 l 0).2 o h;unfold nxtS;omega
theorem nxt_add{l:List OpV}{o:OpV}{p:Nat}(h:o.st=nxtS l):nxtS (insO l p o)=o.st+1:=by
 have h0:=(nxt_ge0 l 0).1;have hm:∀u∈insO l p o,u.st+1≤o.st+1:=fun u hu=>by
  unfold insO at hu;rcases List.mem_append.1 hu with k|k
  ·have:=nxt_lt (List.mem_of_mem_take k);omega
  ·rcases List.mem_cons.1 k with rfl|k
   ·omega
   ·have:=nxt_lt (List.mem_of_mem_drop k);omega
 have ho:o∈insO l p o:=List.mem_append.2 (.inr (List.mem_cons_self ..));have h1:=(nxt_ge0 (insO l p o) 0).2 o ho;have h2:=nxt_le0 (insO l p o) 0 (by unfold nxtS at h;omega) hm;unfold nxtS;omega
theorem wrt_good{v:StV}{x:Int}{o:OpV}(hg:StG v)(hok:okT v)(ho:o.ok)(he:(wrtR v x o).e=0):(wrtR v x o).i=idOf (wrtR v x o).o∧verE (wrtR v x o).o=0∧(wrtR v x o).o.st=nxtS (whole v.sh.ps).ops∧allI v.n v.os (wrtR v x o).o.n (wrtR v x o).o.ids∧(wrtR v x o).o.n=min (hdN (whole v.sh.ps)) 4∧(wrtR v x o).o.ids=(hdI (whole v.sh.ps)).take (32*min (hdN (whole v.sh.ps)) 4):=by
 have h2:stmE (whole v.sh.ps)=0:=Classical.byContradiction fun h=>by
  rw[wrt_s hok h]at he;exact h he
 rw[wrt_0 hok h2]at he⊢;have F:=ok_fineT hg hok;obtain⟨hd1,hd2,hd3⟩:=hd_all F.fine;have hst:=stm_rng h2;have hsv:=stmV_yes h2;have hb:bldE x (hdN (whole v.sh.ps)) (hdI (whole v.sh.ps)) (stmV (whole v.sh.ps)) o=0:=he;have hp:preE (hdN (whole v.sh.ps)) (hdI (whole v.sh.ps))=0:=Classical.byContradiction fun c=>by
  rw[bldE_1 c]at hb;exact c hb
 obtain⟨p1,p2⟩:=pre_yes hp;have hs:=hb;rw[bldE_2 hp]at hs;have hpl:(bldO (hdN (whole v.sh.ps)) (hdI (whole v.sh.ps)) (stmV (whole v.sh.ps)) o).ids.length=32*(bldO (hdN (whole v.sh.ps)) (hdI (whole v.sh.ps)) (stmV (whole v.sh.ps)) o).n:=by
  show(preL _ _).length=32*preN _ _;rw[p1,p2,List.length_take];omega
 have hgd:=sign_good (bldO_okS ho (by omega)) hpl hs;show bldI _ _ _ _ _=idOf (bldV _ _ _ _ _)∧verE (bldV _ _ _ _ _)=0∧(bldV _ _ _ _ _).st=_∧allI v.n v.os (bldV _ _ _ _ _).n (bldV _ _ _ _ _).ids∧(bldV _ _ _ _ _).n=_∧(bldV _ _ _ _ _).ids=_;rw[(bld_yes hb).1,(bld_yes hb).2.2];have en:(signS x (bldO (hdN (whole v.sh.ps)) (hdI (whole v.sh.ps)) (stmV (whole v.sh.ps)) o)).n=min (hdN (whole v.sh.ps)) 4:=by rw[signS_eq hs];exact p1
 have ei:(signS x (bldO (hdN (whole v.sh.ps)) (hdI (whole v.sh.ps)) (stmV (whole v.sh.ps)) o)).ids=(hdI (whole v.sh.ps)).take (32*min (hdN (whole v.sh.ps)) 4):=by rw[signS_eq hs];exact p2
 refine⟨rfl,hgd.2.2.2.2.2.2,hgd.2.1.trans hsv,?_,en,ei⟩;rw[en,ei];intro j hj;have e:idAt ((hdI (whole v.sh.ps)).take (32*min (hdN (whole v.sh.ps)) 4)) j=idAt (hdI (whole v.sh.ps)) j:=by
  unfold idAt;rw[List.drop_take,List.take_take,Nat.min_eq_left (by omega)]
 rw[e];exact(F.same _).2 ((hd3 _).1 ⟨j,by omega,rfl⟩).1
end S
end Go.Proofs.YtkibkhgcbepolaaGreatDoor
