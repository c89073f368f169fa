/-
  Part 12 of the lemmas of these laws: TopDag.
-/
import Derived.Test.YtjjbdaiioociaaaGreatDoorPTd11
set_option linter.unusedVariables false
set_option linter.unusedSimpArgs false
open Go.Proofs.Tryz
namespace Go.Proofs.YtjjbdaiioociaaaGreatDoor
namespace W
open Go.RowKit G
@[reducible] def inC(q:Int):List Value:=[.int .i64 q]
theorem gown_e{α:Type}{f:α→List Value}{sz:Nat}{e:TypeId}{a:Option Addr}{n c:Nat}{lst:List α}{S:Nat→Prop}{w:World}(h:(Ent.gown f sz e a n c lst).ok S w):GOwn f sz 0 w e a n c lst∧∀b,obk a=some b→S b:=h
section
end
section
end
end W
namespace S
open G
@[reducible] def idX(o:OpV):List Int:=if checkE o=0 then sha (encS o)else List.replicate 32 0
def opR(o:OpV):RgV:=regO o (idX o) (idX_arr o).1
end S
namespace W
open Go.RowKit G
section
variable{S0:Nat→Prop}{w0:World}{L:List Ent}{P:Program}{Q:Exit→Act→World→Prop}{c y:Code}{l:List Value}{X:World→Prop}{e1 e2:Ent}
theorem J.joinX{A:Type}(M:A→List (Nat×Value))(Jk:List Nat)(Lp:A→List Ent)(I:A→Prop){l':A→(Nat→Value)→List Value}(h:J S0 w0 L (c.wp P (Exit.then (Cut l M Jk (fun p w=>Mem S0 w0 (Lp p) w∧I p)) Q) (fr l)))
  (k:∀p j,I p→J S0 w0 (Lp p) (y.wp P Q (fr (l' p j))))(hl:∀p j,upd (upd l (M p)) (junk Jk j)=l' p j:=by intro p j;simp only[upd,junk,List.map_cons,List.map_nil,List.set_cons_succ,List.set_cons_zero];exact rfl):J S0 w0 L (c.wp P (Exit.then (y.wp P Q) Q) (fr l)):=fun w Mm=>by
 refine wp_mono (h w Mm) fun e a w hq=>?_
 cases e with
 |normal=>
  have hq:Cut l M Jk (fun p w=>Mem S0 w0 (Lp p) w∧I p) a w:=hq;unfold Cut at hq;obtain⟨p',j',rfl,h1,h2⟩:=hq;show y.wp P Q _ w;rw[hl];exact k p' j' h2 w h1
 |_=>exact hq
end
end W
namespace S
open G
theorem OpV.ext'{a b:OpV}(h1:a.au=b.au)(h2:a.st=b.st)(h3:a.k=b.k)(h4:a.vk=b.vk)(h5:a.num=b.num)(h6:a.bits=b.bits)(h7:a.e=b.e)(h8:a.s=b.s)(h9:a.n=b.n)(h10:a.ids=b.ids)(h11:a.key=b.key)(h12:a.t=b.t):a=b:=by
 cases a;cases b;simp only at h1 h2 h3 h4 h5 h6 h7 h8 h9 h10 h11 h12;subst h1 h2 h3 h4 h5 h6 h7 h8 h9 h10 h11 h12;rfl
instance:DecidableEq OpV:=fun a b=>decidable_of_iff (a.au=b.au∧a.st=b.st∧a.k=b.k∧a.vk=b.vk∧a.num=b.num∧a.bits=b.bits∧a.e=b.e∧a.s=b.s∧a.n=b.n∧a.ids=b.ids∧a.key=b.key∧a.t=b.t)
 ⟨fun⟨h1,h2,h3,h4,h5,h6,h7,h8,h9,h10,h11,h12⟩=>OpV.ext' h1 h2 h3 h4 h5 h6 h7 h8 h9 h10 h11 h12,fun h=>by subst h;exact⟨rfl,rfl,rfl,rfl,rfl,rfl,rfl,rfl,rfl,rfl,rfl,rfl⟩⟩
def OpV.wide(o:OpV):Prop:=o.ids.length=32*o.n
theorem sameO_eq{a b:OpV}(ha:a.wide)(hb:b.wide):SameO a b↔a=b:=by
 constructor
 ·rintro⟨h1,h2,h3,⟨h4,h5,h6,h7,h8,h9⟩,h10,h11⟩;unfold OpV.wide at ha hb;have hn:a.n=b.n:=by rw[h2]at ha;omega
  exact OpV.ext' h1 h3 h4 h6 h7 h8 h10 h11 hn h2 h5 h9
 ·rintro rfl;exact sameO_refl a
theorem op_at{l:List OpV}{i:Nat}(h:i<l.length):l[i]? =some (l.getD i OpV.zero):=by rw[List.getD_eq_getElem?_getD,List.getElem?_eq_getElem h];rfl
theorem ops_ext{l m:List OpV}(hl:l.length=m.length)(h:∀i,i<l.length→l.getD i OpV.zero=m.getD i OpV.zero):l=m:=by
 refine List.ext_getElem? fun i=>?_
 by_cases hi:i<l.length
 ·rw[op_at hi,op_at (by omega),h i hi]
 ·rw[List.getElem?_eq_none (by omega),List.getElem?_eq_none (by omega)]
end S
namespace W
open Go.RowKit G
def opE(T:TypeId)(z:OpA):Ent:= .wown T .u8 32 z.pa z.o.n z.pc z.o.ids
def grE(TI TO:TypeId)(g:GrA):List Ent:=[.gown opC 11 TO g.oa g.n g.oc g.zs, .all (g.zs.map (opE TI)), .wown TI .u8 32 g.ia g.m g.ic g.ids]
theorem opC_one(z:OpA):∀u∈opC z,u.oneCell'=true:=by
 intro u hu;simp only[opC,List.mem_cons,List.not_mem_nil,or_false]at hu;rcases hu with rfl|rfl|rfl|rfl|rfl|rfl|rfl|rfl|rfl|rfl|rfl<;>rfl
theorem opC_len(z:OpA):(opC z).length=11:=rfl
instance(z:OpA):LenC (opC z) 11:=⟨rfl,rfl⟩
theorem wown_e{e:TypeId}{k:IntKind}{sz:Nat}{a:Option Addr}{n c:Nat}{xs:List Int}{S:Nat→Prop}{w:World}(h:(Ent.wown e k sz a n c xs).ok S w):WOwn 0 w e k sz a n c xs∧∀b,obk a=some b→S b:=h
theorem wown_row{e:TypeId}{k:IntKind}{sz:Nat}{a:Option Addr}{n c:Nat}{xs:List Int}{S:Nat→Prop}{w:World}(h:(Ent.wown e k sz a n c xs).ok S w):WRow k sz S w a n xs:=wown_wrow h
theorem all_e{E:List Ent}{S:Nat→Prop}{w:World}(h:(Ent.all E).ok S w):Sep E S w:=h
theorem all_i{E:List Ent}{S:Nat→Prop}{w:World}(h:Sep E S w):(Ent.all E).ok S w:=h
theorem sep_mem:∀ {E:List Ent} {S:Nat→Prop} {w:World} {e:Ent},e∈E→Sep E S w→∃S',(∀b,S' b→S b)∧e.ok S' w
 |_::_,_,_,_, .head _,⟨A,_,h1,_,_,h4,_⟩=>⟨A,h1,h4⟩
 |_::_,_,_,_, .tail _ h,⟨_,B,_,h2,_,_,h5⟩=>let ⟨S',k1,k2⟩:=sep_mem h h5;⟨S',fun b hb=>h2 b (k1 b hb),k2⟩
theorem sep_inns{T:TypeId}{zs:List OpA}{S:Nat→Prop}{w:World}(h:Sep (zs.map (opE T)) S w)(hc:∀z∈zs,z.o.n≤z.pc):Inns opI S w zs:=by
 intro z hz i hi;obtain rfl:=List.mem_singleton.1 hi;obtain⟨S',k1,k2⟩:=sep_mem (List.mem_map.2 ⟨z,hz,rfl⟩) h;exact⟨(wown_row k2).weaken fun b _ hb=>k1 b hb,hc z hz⟩
theorem Inns.weak{α:Type}{g:α→List Inn}{S T:Nat→Prop}{w:World}{l:List α}(h:Inns g S w l)(k:∀b,S b→T b):Inns g T w l:=fun x hx i hi=>⟨(h x hx i hi).1.weaken fun b _ hb=>k b hb,(h x hx i hi).2⟩
section
variable{S0:Nat→Prop}{w0:World}{L:List Ent}{X:World→Prop}{e:Ent}{E:List Ent}
theorem J.snocA{F1 F2:Ent→List Ent}(E:List Ent)(e:Ent)[R:RE L e F1][R2:RE (F1 .emp) (.all E) F2](k:J S0 w0 (F2 (.all (E++[e]))) X):J S0 w0 L X:=
 J.merge e (.all E) (.all (E++[e])) (fun S1 S2 w hd h1 h2=>all_i (Sep.app (all_e h2) (sep1 h1) (fun b hb=> .inr hb) (fun b hb=> .inl hb) fun b hb hc=>hd b hc hb)) k
theorem J.noA(k:J S0 w0 (.all []::L) X):J S0 w0 L X:=J.newA [] k fun _=>trivial
end
section
end
theorem GrR.own{S0:Nat→Prop}{w0:World}{L:List Ent}{g:GrA}{TI TO:TypeId}{F1:Option Addr→Nat→Nat→List OpA→List Ent}{F2:Option Addr→Nat→Nat→List Int→List Ent}{F3:Ent→List Ent}
  [R1:GO L g.oa opC 11 TO g.n g.oc g.zs F1][R2:RWO L g.ia TI .u8 32 g.m g.ic g.ids F2][R3:RE L (.all (g.zs.map (opE TI))) F3](hok:∀z∈g.zs,z.o.ok)(hc:∀z∈g.zs,z.o.n≤z.pc)(hm:g.m≤70∧g.n≤70)(w:World)(M:Mem S0 w0 L w):GrR (fun _=>True) w g:=by
 obtain⟨A,_,a⟩:=M.get (R1.h g.oa g.n g.oc g.zs).same;obtain⟨B,_,b⟩:=M.get (R2.h g.ia g.m g.ic g.ids).same;obtain⟨C,_,c⟩:=M.get (R3.h (.all (g.zs.map (opE TI)))).same;have a:=(gown_e a).1;have b':=wown_row b;have b:=(wown_e b).1;exact⟨b'.weaken fun _ _ _=>trivial,a.row.weaken fun _ _ _=>trivial,Inns.weak (sep_inns (all_e c) hc) fun _ _=>trivial,hok,(wown_len (S:=fun _=>True) ⟨b,fun _ _=>trivial⟩).2,a.capn,hm⟩
structure GrP(m:Nat)(ids:List Int)(ops:List S.OpV)(g:GrA):Prop where
 m:g.m=m
 ids:g.ids=ids
 n:g.n=ops.length
 ops:g.ops=ops
 cap:∀z∈g.zs,z.o.n≤z.pc
theorem GrP.ok{m:Nat}{ids:List Int}{ops:List S.OpV}{g:GrA}(h:GrP m ids ops g)(ho:∀o∈ops,o.ok):∀z∈g.zs,z.o.ok:=fun z hz=>ho _ (by rw[←h.ops];unfold GrA.ops;exact List.mem_map.2 ⟨z,hz,rfl⟩)
theorem gown_one{α:Type}{f:α→List Value}{sz:Nat}{w:World}{b:Nat}{x:α}{T:TypeId}(h:GOwn f sz 0 w T (some ⟨b,0,none⟩) 1 1 [x]):Blk w b (f x) T:=by
 obtain⟨cur,B,_,_,h3,h4,_⟩:=h.blk;rw[List.take_of_length_le (by omega)]at h4;rw[h4]at B;simpa using B
theorem blk_free{w:World}{b o:Nat}{cs:List Value}{T:TypeId}(h:Blk w b cs T):w.frozen? ⟨b,o,none⟩=false:=by
 unfold Blk at h;unfold World.frozen?;rw[h];simp
theorem blk_shape{w:World}{b:Nat}{cs:List Value}{T:TypeId}(h:Blk w b cs T):w.shape? b=some (T,cs.length):=by
 unfold Blk at h;unfold World.shape?;rw[h];simp
end W
namespace S
open G
structure PG where
 (m:Nat)(ids:List Int)(ops:List OpV)
def PG.good(g:PG):Prop:=g.ids.length=32*g.m∧g.ops.length=g.m
def PG.has(g:PG)(x:List Int)(o:OpV):Prop:=∃i,i<g.m∧idAt g.ids i=x∧g.ops.getD i OpV.zero=o
def insW(ids:List Int)(p:Nat)(x:List Int):List Int:=ids.take (32*p)++(x++ids.drop (32*p))
def insO(ops:List OpV)(p:Nat)(o:OpV):List OpV:=ops.take p++o::ops.drop p
def putP(g:PG)(x:List Int)(o:OpV):PG:=⟨g.m+1,insW g.ids (spotS g.m g.ids x) x,insO g.ops (spotS g.m g.ids x) o⟩
theorem idAt_get(l:List Int)(i j:Nat):(idAt l i)[j]? =if j<32 then l[32*i+j]? else none:=by unfold idAt;rw[List.getElem?_take,List.getElem?_drop]
theorem insW_get{ids x:List Int}{m p:Nat}(hl:ids.length=32*m)(hx:x.length=32)(hp:p≤m)(k:Nat):(insW ids p x)[k]? =if k<32*p then ids[k]? else if k<32*p+32 then x[k - 32*p]? else ids[k - 32]? :=by
 unfold insW;have h1:(ids.take (32*p)).length=32*p:=by rw[List.length_take,hl];omega
 by_cases a:k<32*p
 ·rw[if_pos a,List.getElem?_append_left (by omega),List.getElem?_take,if_pos a]
 ·rw[if_neg a,List.getElem?_append_right (by omega),h1];by_cases b:k<32*p+32
  ·rw[if_pos b,List.getElem?_append_left (by omega)]
  ·rw[if_neg b,List.getElem?_append_right (by omega),List.getElem?_drop,hx];congr 1;omega
theorem insW_len{ids x:List Int}{m p:Nat}(hl:ids.length=32*m)(hx:x.length=32)(hp:p≤m):(insW ids p x).length=32*(m+1):=by
 unfold insW;rw[List.length_append,List.length_append,List.length_take,List.length_drop,hl,hx];omega
theorem idAt_ins{ids x:List Int}{m p:Nat}(hl:ids.length=32*m)(hx:x.length=32)(hp:p≤m)(i:Nat):idAt (insW ids p x) i=if i<p then idAt ids i else if i=p then x else idAt ids (i - 1):=by
 apply List.ext_getElem?;intro j;rw[idAt_get];by_cases hj:j<32
 ·rw[if_pos hj,insW_get hl hx hp];by_cases a:i<p
  ·rw[if_pos a,if_pos (by omega),idAt_get,if_pos hj]
  ·rw[if_neg a,if_neg (by omega)];by_cases b:i=p
   ·rw[if_pos b,if_pos (by omega)];congr 1;omega
   ·rw[if_neg b,if_neg (by omega),idAt_get,if_pos hj];congr 1;omega
 ·rw[if_neg hj];split
  ·rw[idAt_get,if_neg hj]
  ·split
   ·rw[List.getElem?_eq_none (by omega)]
   ·rw[idAt_get,if_neg hj]
theorem insO_len{ops:List OpV}{p:Nat}(o:OpV)(hp:p≤ops.length):(insO ops p o).length=ops.length+1:=by simp[insO];omega
theorem insO_get{ops:List OpV}{p:Nat}(o:OpV)(hp:p≤ops.length)(i:Nat):(insO ops p o).getD i OpV.zero=if i<p then ops.getD i OpV.zero else if i=p then o else ops.getD (i - 1) OpV.zero:=by
 unfold insO;rw[List.getD_eq_getElem?_getD];have h1:(ops.take p).length=p:=by rw[List.length_take];omega
 by_cases a:i<p
 ·rw[if_pos a,List.getElem?_append_left (by omega),List.getElem?_take,if_pos a,List.getD_eq_getElem?_getD]
 ·rw[if_neg a,List.getElem?_append_right (by omega),h1];by_cases b:i=p
  ·rw[if_pos b,show i - p=0 by omega];rfl
  ·rw[if_neg b,show i - p=(i - p - 1)+1 by omega,List.getElem?_cons_succ,List.getElem?_drop,List.getD_eq_getElem?_getD,show p+(i - p - 1)=i - 1 by omega]
section
variable{g h:PG}{x y:List Int}{o u:OpV}
theorem spot_le(g:PG)(x:List Int):spotS g.m g.ids x≤g.m:=spotC_le _ _
theorem putP_good(hg:g.good)(hx:x.length=32)(o:OpV):(putP g x o).good:=
 ⟨insW_len hg.1 hx (spot_le g x),by show(insO _ _ _).length=_;rw[insO_len _ (by rw[hg.2];exact spot_le g x),hg.2];rfl⟩
theorem putP_has(hg:g.good)(hx:x.length=32)(o:OpV)(y:List Int)(u:OpV):(putP g x o).has y u↔g.has y u∨(y=x∧u=o):=by
 have hp:=spot_le g x;have e1:=fun i=>idAt_ins hg.1 hx hp i;have e2:=fun i=>insO_get (ops:=g.ops) o (by rw[hg.2];exact hp) i;constructor
 ·rintro⟨i,hi,h1,h2⟩;have hi:i<g.m+1:=hi;have h1:idAt (insW g.ids (spotS g.m g.ids x) x) i=y:=h1;have h2:(insO g.ops (spotS g.m g.ids x) o).getD i OpV.zero=u:=h2;rw[e1]at h1;rw[e2]at h2;by_cases a:i<spotS g.m g.ids x
  ·rw[if_pos a]at h1 h2;exact .inl ⟨i,by omega,h1,h2⟩
  ·rw[if_neg a]at h1 h2;by_cases b:i=spotS g.m g.ids x
   ·rw[if_pos b]at h1 h2;exact .inr ⟨h1.symm,h2.symm⟩
   ·rw[if_neg b]at h1 h2;exact .inl ⟨i - 1,by omega,h1,h2⟩
 ·rintro(⟨i,hi,h1,h2⟩|⟨rfl,rfl⟩)
  ·by_cases a:i<spotS g.m g.ids x
   ·refine⟨i,Nat.lt_succ_of_lt hi,?_,?_⟩
    ·show idAt (insW _ _ _) i=_;rw[e1,if_pos a];exact h1
    ·show(insO _ _ _).getD i _=_;rw[e2,if_pos a];exact h2
   ·refine⟨i+1,Nat.succ_lt_succ hi,?_,?_⟩
    ·show idAt (insW _ _ _) (i+1)=_;rw[e1,if_neg (by omega),if_neg (by omega)];exact h1
    ·show(insO _ _ _).getD (i+1) _=_;rw[e2,if_neg (by omega),if_neg (by omega)];exact h2
  ·refine⟨spotS g.m g.ids y,Nat.lt_succ_of_le hp,?_,?_⟩
   ·show idAt (insW _ _ _) _=_;rw[e1,if_neg (by omega),if_pos rfl]
   ·show(insO _ _ _).getD _ _=_;rw[e2,if_neg (by omega),if_pos rfl]
theorem has_in:inS g.m g.ids x↔∃o,g.has x o:=⟨fun⟨i,hi,e⟩=>⟨_,i,hi,e,rfl⟩,fun⟨_,i,hi,e,_⟩=>⟨i,hi,e⟩⟩
theorem putP_in(hg:g.good)(hx:x.length=32)(o:OpV):inS (putP g x o).m (putP g x o).ids y↔inS g.m g.ids y∨y=x:=by
 rw[has_in,has_in];constructor
 ·rintro⟨u,h⟩;rcases(putP_has hg hx o y u).1 h with h|h
  ·exact .inl ⟨u,h⟩
  ·exact .inr h.1
 ·rintro(⟨u,h⟩|rfl)
  ·exact⟨u,(putP_has hg hx o y u).2 (.inl h)⟩
  ·exact⟨o,(putP_has hg hx o y o).2 (.inr ⟨rfl,rfl⟩)⟩
theorem putP_rising(hg:g.good)(hr:Rising g.m g.ids)(hx:x.length=32)(hn:¬inS g.m g.ids x)(o:OpV):Rising (putP g x o).m (putP g x o).ids:=by
 have hp:=spot_le g x;have e1:=fun i=>idAt_ins hg.1 hx hp i;intro i hi;have hi:i<g.m:=hi;show cmpS (idAt (insW _ _ _) i) (idAt (insW _ _ _) (i+1))<0;rw[e1,e1];have lo:∀k,k<spotS g.m g.ids x→cmpS (idAt g.ids k) x<0:=fun k hk=>spotC_lt (c:=fun i=>cmpS (idAt g.ids i) x) hk;have hi2:∀k,spotS g.m g.ids x≤k→k<g.m→cmpS x (idAt g.ids k)<0:=fun k hk hm=>by
  have h0:0≤cmpS (idAt g.ids (spotS g.m g.ids x)) x:=spotC_ge (c:=fun i=>cmpS (idAt g.ids i) x) (Nat.lt_of_le_of_lt hk hm);have h1:cmpS (idAt g.ids (spotS g.m g.ids x)) x≠0:=fun e=>hn ⟨_,Nat.lt_of_le_of_lt hk hm,(cmpS_eq _ _).1 e⟩;have h2:=cmpS_swap x (idAt g.ids (spotS g.m g.ids x));have h3:cmpS x (idAt g.ids (spotS g.m g.ids x))<0:=by omega
  rcases Nat.lt_or_eq_of_le hk with e|e
  ·exact cmpS_trans h3 (rising_lt hr _ _ e hm)
  ·rw[←e];exact h3
 rcases Nat.lt_trichotomy (i+1) (spotS g.m g.ids x)with a|a|a
 ·rw[if_pos (by omega),if_pos a];exact rising_lt hr _ _ (Nat.lt_succ_self _) (by omega)
 ·rw[if_pos (by omega),if_neg (by omega),if_pos a];exact lo i (by omega)
 ·have a1:¬(i+1<spotS g.m g.ids x):=by omega
  have a2:¬(i+1=spotS g.m g.ids x):=by omega
  rw[if_neg a1,if_neg a2];by_cases b:i<spotS g.m g.ids x
  ·omega
  ·rw[if_neg b];by_cases c:i=spotS g.m g.ids x
   ·rw[if_pos c,show i+1 - 1=i by omega];exact hi2 i (by omega) hi
   ·rw[if_neg c,show i+1 - 1=i by omega];exact rising_lt hr _ _ (by omega) hi
/-! the same -/
theorem ids_ext{a b:List Int}{m:Nat}(ha:a.length=32*m)(hb:b.length=32*m)(h:∀i,i<m→idAt a i=idAt b i):a=b:=by
 apply List.ext_getElem?;intro k;by_cases hk:k<32*m
 ·have h1:=h (k / 32) (by omega);have h2:=congrArg (fun l=>l[k % 32]?) h1;simp only[idAt_get]at h2;rw[if_pos (by omega),if_pos (by omega),show 32*(k / 32)+k % 32=k by omega]at h2;exact h2
 ·rw[List.getElem?_eq_none (by omega),List.getElem?_eq_none (by omega)]
theorem sorted_ext:∀ {l m:List (List Int)},(l.Pairwise fun a b=>cmpS a b<0)→(m.Pairwise fun a b=>cmpS a b<0)→(∀y,y∈l↔y∈m)→l=m
 |[],[],_,_,_=>rfl
 |[],y::m,_,_,h=>absurd ((h y).2 (List.mem_cons_self ..)) (by simp)
 |x::l,[],_,_,h=>absurd ((h x).1 (List.mem_cons_self ..)) (by simp)
 |x::l,y::m,hl,hm,h=>by
  have hx:=List.pairwise_cons.1 hl;have hy:=List.pairwise_cons.1 hm;have e:x=y:=by
   rcases List.mem_cons.1 ((h x).1 (List.mem_cons_self ..))with e|e
   ·exact e
   ·rcases List.mem_cons.1 ((h y).2 (List.mem_cons_self ..))with e2|e2
    ·exact e2.symm
    ·have h1:=hy.1 x e;have h2:=hx.1 y e2;have:=cmpS_swap x y;omega
  subst e;congr 1;refine sorted_ext hx.2 hy.2 fun z=>⟨fun hz=>?_,fun hz=>?_⟩
  ·rcases List.mem_cons.1 ((h z).1 (List.mem_cons_of_mem _ hz))with e|e
   ·subst e;have:=hx.1 z hz;rw[cmpS_self]at this;omega
   ·exact e
  ·rcases List.mem_cons.1 ((h z).2 (List.mem_cons_of_mem _ hz))with e|e
   ·subst e;have:=hy.1 z hz;rw[cmpS_self]at this;omega
   ·exact e
def idsP(g:PG):List (List Int):=(List.range g.m).map (idAt g.ids)
theorem idsP_sorted(hr:Rising g.m g.ids):(idsP g).Pairwise fun a b=>cmpS a b<0:=by
 unfold idsP;rw[List.pairwise_map,List.pairwise_iff_getElem];intro i j hi hj hij;rw[List.length_range]at hj;rw[List.getElem_range,List.getElem_range];exact rising_lt hr i j hij hj
theorem mem_idsP:x∈idsP g↔inS g.m g.ids x:=by
 unfold idsP inS;rw[List.mem_map];exact⟨fun⟨i,h,e⟩=>⟨i,List.mem_range.1 h,e⟩,fun⟨i,h,e⟩=>⟨i,List.mem_range.2 h,e⟩⟩
theorem PG.ext_has(hg:g.good)(hh:h.good)(rg:Rising g.m g.ids)(rh:Rising h.m h.ids)(he:∀x o,g.has x o↔h.has x o):g=h:=by
 have e1:idsP g=idsP h:=sorted_ext (idsP_sorted rg) (idsP_sorted rh) fun y=>by
  rw[mem_idsP,mem_idsP,has_in,has_in];exact⟨fun⟨o,k⟩=>⟨o,(he y o).1 k⟩,fun⟨o,k⟩=>⟨o,(he y o).2 k⟩⟩
 have em:g.m=h.m:=by simpa [idsP]using congrArg List.length e1
 have e2:∀i,i<g.m→idAt g.ids i=idAt h.ids i:=fun i hi=>by
  have:=congrArg (fun l=>l[i]?) e1;simp only[idsP,List.getElem?_map]at this;rw[List.getElem?_range hi,List.getElem?_range (by omega)]at this;simpa using this
 obtain⟨gm,gi,go⟩:=g;obtain⟨hm,hi,ho⟩:=h;dsimp only at em;subst em;have e3:gi=hi:=ids_ext hg.1 hh.1 e2;subst e3;have e4:go=ho:=ops_ext (hg.2.trans hh.2.symm) fun i hi=>by
  have hi:i<gm:=by have:=hg.2;dsimp only at this;omega
  obtain⟨j,hj,k1,k2⟩:=(he (idAt gi i) (go.getD i OpV.zero)).1 ⟨i,hi,rfl,rfl⟩;obtain rfl:=rising_inj rg hj hi k1;exact k2.symm
 rw[e4]
end
/-! orders by ids -/
def OrdP(g:PG)(xs:List (List Int)):Prop:=xs.Nodup∧(∀x∈xs,inS g.m g.ids x)∧g.m≤xs.length∧∀i,i<xs.length→∀o,g.has (xs.getD i []) o→∀j,j<o.n→idAt o.ids j∈xs.take i
section
variable{g h:PG}{x y:List Int}{o u:OpV}
theorem getD_map_id{l:List Nat}{i:Nat}(h:i<l.length)(f:Nat→List Int):(l.map f).getD i []=f (l.getD i 0):=by
 rw[List.getD_eq_getElem?_getD,List.getElem?_map,List.getElem?_eq_getElem h,List.getD_eq_getElem?_getD,List.getElem?_eq_getElem h];rfl
theorem nodup_map_on{α β:Type}{f:α→β}:∀ {l:List α},(∀a∈l,∀b∈l,f a=f b→a=b)→l.Nodup→(l.map f).Nodup
 |[],_,_=>List.nodup_nil
 |a::l,h,hn=>by
  have h1:=List.nodup_cons.1 hn;rw[List.map_cons,List.nodup_cons];refine⟨fun hm=>?_,nodup_map_on (fun b hb c hc=>h b (List.mem_cons_of_mem _ hb) c (List.mem_cons_of_mem _ hc)) h1.2⟩;obtain⟨b,hb,e⟩:=List.mem_map.1 hm;have:=h b (List.mem_cons_of_mem _ hb) a (List.mem_cons_self ..) e;subst this;exact h1.1 hb
theorem found_ord(hg:g.good)(hr:Rising g.m g.ids)(ho:opensS g.m g.ids g.ops):Found (prS g.m g.ids g.ops) g.m↔∃xs,OrdP g xs:=by
 constructor
 ·rintro⟨l,h1,h2,h3,h4⟩;refine⟨l.map (idAt g.ids),nodup_map_on (fun a ha b hb e=>rising_inj hr (h2 a ha) (h2 b hb) e) h1,fun x hx=>?_,by rw[List.length_map];exact h3,fun i hi u hu j hj=>?_⟩
  ·obtain⟨i,hi,rfl⟩:=List.mem_map.1 hx;exact⟨i,h2 i hi,rfl⟩
  ·rw[List.length_map]at hi;rw[getD_map_id hi]at hu;obtain⟨k,hk,e1,e2⟩:=hu;have hm:=getD_mem hi;obtain rfl:=rising_inj hr hk (h2 _ hm) e1;have hin:=ho (l.getD i 0) (by rw[hg.2];exact hk) j (by rw[e2];exact hj);rw[e2]at hin;have hp:ixS g.m g.ids (idAt u.ids j)∈prS g.m g.ids g.ops (l.getD i 0):=by
    unfold prS;rw[e2];exact List.mem_map.2 ⟨j,List.mem_range.2 hj,rfl⟩
   have:=h4 i hi _ hp;rw[←List.map_take];exact List.mem_map.2 ⟨_,this,(ix_in hin).2⟩
 ·rintro⟨xs,h1,h2,h3,h4⟩;have hix:∀i,i<xs.length→idAt g.ids (ixS g.m g.ids (xs.getD i []))=xs.getD i []∧ixS g.m g.ids (xs.getD i [])<g.m:=fun i hi=>by
   have hm:xs.getD i []∈xs:=by rw[List.getD_eq_getElem?_getD,List.getElem?_eq_getElem hi];exact List.getElem_mem hi
   have:=ix_in (h2 _ hm);exact⟨this.2,this.1⟩
  refine⟨xs.map (ixS g.m g.ids),nodup_map_on (fun a ha b hb e=>?_) h1,fun i hi=>?_,by rw[List.length_map];exact h3,fun i hi p hp=>?_⟩
  ·rw[←(ix_in (h2 a ha)).2,e,(ix_in (h2 b hb)).2]
  ·obtain⟨x,hx,rfl⟩:=List.mem_map.1 hi;exact(ix_in (h2 x hx)).1
  ·rw[List.length_map]at hi;have eg:(xs.map (ixS g.m g.ids)).getD i 0=ixS g.m g.ids (xs.getD i []):=by
    rw[List.getD_eq_getElem?_getD,List.getElem?_map,List.getElem?_eq_getElem hi,List.getD_eq_getElem?_getD,List.getElem?_eq_getElem hi];rfl
   rw[eg]at hp;unfold prS at hp;obtain⟨j,hj,rfl⟩:=List.mem_map.1 hp;have hj:=List.mem_range.1 hj;have:=h4 i hi _ ⟨_,(hix i hi).2,(hix i hi).1,rfl⟩ j hj;rw[←List.map_take];exact List.mem_map.2 ⟨_,this,rfl⟩
structure PG.fine(g:PG):Prop where
 good:g.good
 le:g.m≤60
 rising:Rising g.m g.ids
 own:∀x o,g.has x o→ownS o x
 opens:∀x o,g.has x o→∀j,j<o.n→inS g.m g.ids (idAt o.ids j)
 ord:∃xs,OrdP g xs
theorem chk_fine(hl:g.ids.length=32*g.m):chkG g.m g.ids g.ops=0↔g.fine:=by
 rw[chkG_zero];constructor
 ·rintro⟨h1,h2,h3,h4,h5,h6⟩;have hg:g.good:=⟨hl,h2.symm⟩
  refine⟨hg,by omega,h4,?_,?_,?_⟩
  ·rintro x o ⟨i,hi,rfl,rfl⟩;exact h3 i (by omega)
  ·rintro x o ⟨i,hi,rfl,rfl⟩ j hj;exact h5 i (by omega) j hj
  ·refine(found_ord hg h4 h5).1 ?_;rwa[←h2]at h6
 ·rintro⟨hg,h1,h2,h3,h4,h5⟩;have ho:opensS g.m g.ids g.ops:=fun i hi j hj=>h4 _ _ ⟨i,by rw[←hg.2];exact hi,rfl,rfl⟩ j hj;refine⟨by rw[hg.2];exact h1,hg.2.symm,fun i hi=>h3 _ _ ⟨i,by rw[←hg.2];exact hi,rfl,rfl⟩,h2,ho,?_⟩;rw[hg.2];exact(found_ord hg h2 ho).2 h5
theorem has_fun(hr:Rising g.m g.ids)(h1:g.has x o)(h2:g.has x u):o=u:=by
 obtain⟨i,hi,e1,e2⟩:=h1;obtain⟨j,hj,e3,e4⟩:=h2;obtain rfl:=rising_inj hr hi hj (e1.trans e3.symm);exact e2.symm.trans e4
theorem fine_put(hg:g.fine)(ho:ownS o x)(hx:x.length=32)(hn:¬inS g.m g.ids x)(hp:∀j,j<o.n→inS g.m g.ids (idAt o.ids j))(hm:g.m<60):(putP g x o).fine:=by
 have hin:=fun y=>putP_in (y:=y) hg.good hx o;refine⟨putP_good hg.good hx o,hm,putP_rising hg.good hg.rising hx hn o,?_,?_,?_⟩
 ·intro y u h;rcases(putP_has hg.good hx o y u).1 h with h|⟨rfl,rfl⟩
  ·exact hg.own y u h
  ·exact ho
 ·intro y u h j hj;rw[hin];rcases(putP_has hg.good hx o y u).1 h with h|⟨rfl,rfl⟩
  ·exact .inl (hg.opens y u h j hj)
  ·exact .inl (hp j hj)
 ·obtain⟨xs,h1,h2,h3,h4⟩:=hg.ord;have hxs:x∉xs:=fun h=>hn (h2 x h);refine⟨xs++[x],List.nodup_append.2 ⟨h1,by simp,fun a ha b hb e=>?_⟩,fun y hy=>?_,?_,fun i hi u hu j hj=>?_⟩
  ·rw[List.mem_singleton]at hb;subst hb;subst e;exact hxs ha
  ·rw[hin];rcases List.mem_append.1 hy with h|h
   ·exact .inl (h2 y h)
   ·exact .inr (List.mem_singleton.1 h)
  ·rw[List.length_append];exact Nat.succ_le_succ h3
  ·rw[List.length_append,List.length_singleton]at hi;by_cases e:i<xs.length
   ·have eg:(xs++[x]).getD i []=xs.getD i []:=by rw[List.getD_eq_getElem?_getD,List.getElem?_append_left e,List.getD_eq_getElem?_getD]
    rw[eg]at hu;have hmem:xs.getD i []∈xs:=by rw[List.getD_eq_getElem?_getD,List.getElem?_eq_getElem e];exact List.getElem_mem e
    have hu:g.has (xs.getD i []) u:=by
     rcases(putP_has hg.good hx o _ u).1 hu with h|⟨h,_⟩
     ·exact h
     ·exact absurd (h▸hmem) hxs
    rw[List.take_append_of_le_length (by omega)];exact h4 i e u hu j hj
   ·obtain rfl:i=xs.length:=by omega
    have eg:(xs++[x]).getD xs.length []=x:=by rw[List.getD_eq_getElem?_getD,List.getElem?_append_right (Nat.le_refl _),Nat.sub_self];rfl
    rw[eg]at hu;have hu:u=o:=by
     rcases(putP_has hg.good hx o _ u).1 hu with h|h
     ·exact absurd (has_in.2 ⟨u,h⟩) hn
     ·exact h.2
    subst hu;rw[List.take_left];have hy:=hp j hj
    -- all that is there stands in the order
    have:∀y,inS g.m g.ids y→y∈xs:=fun y hy=>by
     have hsub := nodup_len (l := xs.map (ixS g.m g.ids)) (m := List.range g.m) (nodup_map_on (fun a ha b hb e => by rw [← (ix_in (h2 a ha)).2, e, (ix_in (h2 b hb)).2]) h1) (fun i hi => by
      obtain ⟨a, ha, rfl⟩ := List.mem_map.1 hi
      exact List.mem_range.2 (ix_in (h2 a ha)).1)
     have hall := nodup_all (l := xs.map (ixS g.m g.ids)) (N := g.m) (nodup_map_on (fun a ha b hb e => by rw [← (ix_in (h2 a ha)).2, e, (ix_in (h2 b hb)).2]) h1) (fun i hi => by
      obtain ⟨a, ha, rfl⟩ := List.mem_map.1 hi
      exact (ix_in (h2 a ha)).1) (by rw [List.length_map]; exact h3) (ix_in hy).1
     obtain⟨a,ha,e⟩:=List.mem_map.1 hall;have:a=y:=by rw[←(ix_in (h2 a ha)).2,e,(ix_in hy).2]
     exact this▸ha
    exact this _ hy
end
@[reducible] def idOf(o:OpV):List Int:=sha (encS o)
theorem idOf_len(o:OpV):(idOf o).length=32:=(sha_arr _).1
noncomputable def chkP(g:PG):Int:=chkG g.m g.ids g.ops
def PG.nil:PG:=⟨0,[],[]⟩
theorem nil_good:PG.nil.good:=⟨rfl,rfl⟩
theorem nil_rising:Rising PG.nil.m PG.nil.ids:=fun i hi=>absurd hi (Nat.not_lt_zero _)
theorem nil_in(x:List Int):¬inS PG.nil.m PG.nil.ids x:=fun⟨i,hi,_⟩=>absurd hi (Nat.not_lt_zero _)
theorem nil_has(x:List Int)(o:OpV):¬PG.nil.has x o:=fun⟨i,hi,_⟩=>absurd hi (Nat.not_lt_zero _)
noncomputable def addE(g:PG)(o:OpV):Int:=if chkP g≠0 then chkP g else if verE o≠0 then verE o else if inS g.m g.ids (idOf o)then 14 else if ¬allI g.m g.ids o.n o.ids then 40 else if g.m=60 then 18 else 0
noncomputable def addP(g:PG)(o:OpV):PG:=if addE g o=0 then putP g (idOf o) o else .nil
noncomputable def addI(g:PG)(o:OpV):List Int:=if addE g o=0 then idOf o else List.replicate 32 0
theorem addE_1{g:PG}{o:OpV}(h:chkP g≠0):addE g o=chkP g∧addE g o≠0:=by
 have e:addE g o=chkP g:=by unfold addE;rw[if_pos h]
 exact⟨e,by rw[e];exact h⟩
theorem addE_2{g:PG}{o:OpV}(h:chkP g=0)(h2:verE o≠0):addE g o=verE o∧addE g o≠0:=by
 have e:addE g o=verE o:=by unfold addE;rw[if_neg (not_not_intro h),if_pos h2]
 exact⟨e,by rw[e];exact h2⟩
theorem addE_3{g:PG}{o:OpV}(h:chkP g=0)(h2:verE o=0)(h3:inS g.m g.ids (idOf o)):addE g o=14:=by unfold addE;rw[if_neg (not_not_intro h),if_neg (not_not_intro h2),if_pos h3]
theorem addE_4{g:PG}{o:OpV}(h:chkP g=0)(h2:verE o=0)(h3:¬inS g.m g.ids (idOf o))(h4:¬allI g.m g.ids o.n o.ids):addE g o=40:=by unfold addE;rw[if_neg (not_not_intro h),if_neg (not_not_intro h2),if_neg h3,if_pos h4]
theorem addE_5{g:PG}{o:OpV}(h:chkP g=0)(h2:verE o=0)(h3:¬inS g.m g.ids (idOf o))(h4:allI g.m g.ids o.n o.ids)(h5:g.m=60):addE g o=18:=by unfold addE;rw[if_neg (not_not_intro h),if_neg (not_not_intro h2),if_neg h3,if_neg (not_not_intro h4),if_pos h5]
theorem addE_0{g:PG}{o:OpV}(h:chkP g=0)(h2:verE o=0)(h3:¬inS g.m g.ids (idOf o))(h4:allI g.m g.ids o.n o.ids)(h5:g.m≠60):addE g o=0:=by unfold addE;rw[if_neg (not_not_intro h),if_neg (not_not_intro h2),if_neg h3,if_neg (not_not_intro h4),if_neg h5]
theorem addE_zero{g:PG}{o:OpV}:addE g o=0↔chkP g=0∧verE o=0∧¬inS g.m g.ids (idOf o)∧allI g.m g.ids o.n o.ids∧g.m≠60:=by
 constructor
 ·intro h;have h1:chkP g=0:=Classical.byContradiction fun c=>(addE_1 c).2 h;have h2:verE o=0:=Classical.byContradiction fun c=>(addE_2 h1 c).2 h;have h3:¬inS g.m g.ids (idOf o):=fun c=>by rw[addE_3 h1 h2 c]at h;exact absurd h (by decide)
  have h4:allI g.m g.ids o.n o.ids:=Classical.byContradiction fun c=>by rw[addE_4 h1 h2 h3 c]at h;exact absurd h (by decide)
  exact⟨h1,h2,h3,h4,fun c=>by rw[addE_5 h1 h2 h3 h4 c]at h;exact absurd h (by decide)⟩
 ·rintro⟨h1,h2,h3,h4,h5⟩;exact addE_0 h1 h2 h3 h4 h5
theorem addP_no{g:PG}{o:OpV}(h:addE g o≠0):addP g o= .nil∧addI g o=List.replicate 32 0:=⟨if_neg h,if_neg h⟩
theorem addP_yes{g:PG}{o:OpV}(h:addE g o=0):addP g o=putP g (idOf o) o∧addI g o=idOf o:=⟨if_pos h,if_pos h⟩
/-! lists -/
def mkN(l:List OpV):Nat→Option PG
 |0=>some .nil
 |i+1=>(mkN l i).bind fun g=>if inS g.m g.ids (idOf (l.getD i OpV.zero))then none else some (putP g (idOf (l.getD i OpV.zero)) (l.getD i OpV.zero))
def verL:List OpV→Int
 |[]=>0
 |o::l=>if verE o≠0 then verE o else verL l
theorem verL_zero:∀ {l:List OpV},verL l=0↔∀o∈l,verE o=0
 |[]=>by simp[verL]
 |o::l=>by
  have ih:= @verL_zero l;unfold verL;by_cases h:verE o=0
  ·rw[if_neg (not_not_intro h),ih];simp[h]
  ·rw[if_pos h];simp[h]
theorem verL_first:∀ {l:List OpV} {i:Nat},i<l.length→(∀k,k<i→verE (l.getD k OpV.zero)=0)→verE (l.getD i OpV.zero)≠0→verL l=verE (l.getD i OpV.zero)
 |[],_,h,_,_=>absurd h (Nat.not_lt_zero _)
 |o::l,0,_,_,h=>by unfold verL;exact if_pos h
 |o::l,i+1,hi,hk,h=>by
  unfold verL;have h0:verE o=0:=hk 0 (by omega);rw[if_neg (not_not_intro h0)];exact verL_first (by simpa using hi) (fun k hk'=>by have:=hk (k+1) (by omega);simpa using this) (by simpa using h)
theorem verL_all{l:List OpV}(h:∀k,k<l.length→verE (l.getD k OpV.zero)=0):verL l=0:=verL_zero.2 fun o ho=>by
 obtain⟨k,hk,rfl⟩:=List.getElem_of_mem ho;have:=h k hk;rwa[List.getD_eq_getElem?_getD,List.getElem?_eq_getElem hk]at this
noncomputable def lstE(l:List OpV):Int:=if 60<l.length then 4 else if verL l≠0 then verL l else match mkN l l.length with
 |none=>14
 |some g=>shapeS g.m g.ids g.ops
noncomputable def lstP(l:List OpV):PG:=if lstE l=0 then(mkN l l.length).getD .nil else .nil
theorem mkN_none{l:List OpV}{i:Nat}(h:mkN l i=none):∀k,i≤k→mkN l k=none:=by
 intro k hk
 induction k with
 |zero=>
  obtain rfl:i=0:=by omega
  exact h
 |succ k ih=>
  rcases Nat.lt_or_eq_of_le hk with e|e
  ·unfold mkN;rw[ih (by omega)];rfl
  ·rw[←e];exact h
theorem mkN_twice{l:List OpV}{i:Nat}{g:PG}(h:mkN l i=some g)(hin:inS g.m g.ids (idOf (l.getD i OpV.zero))):mkN l (i+1)=none:=by unfold mkN;rw[h];exact if_pos hin
theorem mkN_more{l:List OpV}{i:Nat}{g:PG}(h:mkN l i=some g)(hin:¬inS g.m g.ids (idOf (l.getD i OpV.zero))):mkN l (i+1)=some (putP g (idOf (l.getD i OpV.zero)) (l.getD i OpV.zero)):=by unfold mkN;rw[h];exact if_neg hin
theorem mkN_good{l:List OpV}{i:Nat}{g:PG}(h:mkN l i=some g):g.good∧Rising g.m g.ids∧g.m=i∧∀x o,g.has x o↔∃k,k<i∧x=idOf (l.getD k OpV.zero)∧o=l.getD k OpV.zero:=by
 induction i generalizing g with
 |zero=>
  obtain rfl:PG.nil=g:=Option.some.inj h;exact⟨nil_good,nil_rising,rfl,fun x o=>⟨fun h=>absurd h (nil_has x o),fun⟨k,hk,_⟩=>absurd hk (Nat.not_lt_zero _)⟩⟩
 |succ i ih=>
  cases hp:mkN l i with
  |none=>rw[mkN_none hp (i+1) (by omega)]at h;cases h
  |some g'=>
   obtain⟨h1,h2,h3,h4⟩:=ih hp;by_cases hin:inS g'.m g'.ids (idOf (l.getD i OpV.zero))
   ·rw[mkN_twice hp hin]at h;cases h
   ·rw[mkN_more hp hin]at h;obtain rfl:=Option.some.inj h;refine⟨putP_good h1 (idOf_len _) _,putP_rising h1 h2 (idOf_len _) hin _,by show g'.m+1=_;rw[h3],fun x o=>?_⟩;rw[putP_has h1 (idOf_len _),h4];constructor
    ·rintro(⟨k,hk,e⟩|e)
     ·exact⟨k,by omega,e⟩
     ·exact⟨i,Nat.lt_succ_self _,e⟩
    ·rintro⟨k,hk,e⟩;rcases Nat.lt_or_ge k i with a|a
     ·exact .inl ⟨k,a,e⟩
     ·obtain rfl:k=i:=by omega
      exact .inr e
theorem lstE_4{l:List OpV}(h:60<l.length):lstE l=4:=by unfold lstE;rw[if_pos h]
theorem lstE_v{l:List OpV}(h:¬60<l.length)(h2:verL l≠0):lstE l=verL l∧lstE l≠0:=by
 have e:lstE l=verL l:=by unfold lstE;rw[if_neg h,if_pos h2]
 exact⟨e,by rw[e];exact h2⟩
theorem lstE_14{l:List OpV}(h:¬60<l.length)(h2:verL l=0)(h3:mkN l l.length=none):lstE l=14:=by unfold lstE;rw[if_neg h,if_neg (not_not_intro h2),h3]
theorem lstE_s{l:List OpV}{g:PG}(h:¬60<l.length)(h2:verL l=0)(h3:mkN l l.length=some g):lstE l=shapeS g.m g.ids g.ops:=by unfold lstE;rw[if_neg h,if_neg (not_not_intro h2),h3]
theorem lstP_no{l:List OpV}(h:lstE l≠0):lstP l= .nil:=if_neg h
theorem lstP_yes{l:List OpV}{g:PG}(h:lstE l=0)(h3:mkN l l.length=some g):lstP l=g:=by unfold lstP;rw[if_pos h,h3];rfl
/-! unions -/
/-! comparisons -/
end S
namespace W
open Go.RowKit G
structure IdV where
 (xs:List Int)(h:xs.length=32)
@[reducible] def idC(x:IdV):List Value:=ints .u8 x.xs
theorem idC_len(x:IdV):(idC x).length=32:=by rw[ints_length,x.h]
theorem idC_cell(x:IdV):∀u∈idC x,cellB u=true:=List.all_eq_true.1 (ints_cellB _ _)
theorem idC_one(x:IdV):∀u∈idC x,u.oneCell'=true:=ints_one _ _
instance(x:IdV):LenC (idC x) 32:=⟨idC_len x,ints_cellB _ _⟩
def flatI(l:List IdV):List Int:=l.flatMap IdV.xs
theorem flatI_cells:∀l:List IdV,l.flatMap idC=ints .u8 (flatI l)
 |[]=>rfl
 |x::l=>by
  rw[List.flatMap_cons,flatI_cells l];unfold flatI;rw[List.flatMap_cons,ints_append]
theorem chunks:∀(n:Nat) (xs:List Int),xs.length=32*n→∃l:List IdV,l.length=n∧flatI l=xs
 |0,xs,h=>⟨[],rfl,by rw[List.eq_nil_of_length_eq_zero (by omega:xs.length=0)];rfl⟩
 |n+1,xs,h=>by
  obtain⟨l,h1,h2⟩:=chunks n (xs.drop 32) (by rw[List.length_drop];omega);refine⟨⟨xs.take 32,by rw[List.length_take];omega⟩::l,by rw[List.length_cons,h1],?_⟩;unfold flatI at h2⊢;rw[List.flatMap_cons,h2,List.take_append_drop]
theorem flatI_take(l:List IdV):∀i,flatI (l.take i)=(flatI l).take (32*i):=by
 induction l with
 |nil=>intro i;simp[flatI]
 |cons x l ih=>
  intro i;cases i with
  |zero=>simp[flatI]
  |succ i=>
   unfold flatI at ih⊢;rw[List.take_succ_cons,List.flatMap_cons,List.flatMap_cons,ih,List.take_append,x.h,List.take_of_length_le (l:=x.xs) (by rw[x.h];omega),show 32*(i+1) - 32=32*i by omega]
theorem flatI_drop(l:List IdV):∀i,flatI (l.drop i)=(flatI l).drop (32*i):=by
 induction l with
 |nil=>intro i;simp[flatI]
 |cons x l ih=>
  intro i;cases i with
  |zero=>simp[flatI]
  |succ i=>
   unfold flatI at ih⊢;rw[List.drop_succ_cons,List.flatMap_cons,ih,List.drop_append,x.h,List.drop_of_length_le (l:=x.xs) (by rw[x.h];omega),List.nil_append,show 32*(i+1) - 32=32*i by omega]
theorem flatI_ins(l:List IdV)(x:IdV)(i:Nat):flatI (l.take i++x::l.drop i)=S.insW (flatI l) i x.xs:=by
 unfold S.insW;rw[←flatI_take,←flatI_drop];unfold flatI;rw[List.flatMap_append,List.flatMap_cons]
section
variable{S:Nat→Prop}{w:World}{T:TypeId}{a:Option Addr}{n c:Nat}{l:List IdV}{xs:List Int}
theorem wown_gown(he:flatI l=xs)(hn:l.length=n)(h:(Ent.wown T .u8 32 a n c xs).ok S w):(Ent.gown idC 32 T a n c l).ok S w:=by
 obtain⟨h1,h2⟩:=wown_e h;exact⟨⟨by rw[flatI_cells,he];exact h1.own,idC_len,hn⟩,h2⟩
theorem gown_wown(hb:Bd .u8 (flatI l))(h:(Ent.gown idC 32 T a n c l).ok S w):(Ent.wown T .u8 32 a n c (flatI l)).ok S w:=by
 obtain⟨h1,h2⟩:=gown_e h;have:=h1.own;rw[flatI_cells]at this;exact⟨⟨this,hb⟩,h2⟩
end
section
end
end W
namespace W
open Go.RowKit G
set_option maxRecDepth 20000
set_option maxHeartbeats 8000000
attribute [local irreducible] RS RX RY Code.wp bodyPost J Ent.blk Ent.iown Ent.wrow Ent.wown Ent.gown Ent.all Ent.emp
instance:Ents prog 42:=⟨.mk func42 (by kernel_rfl) rfl⟩
instance:Ents prog 61:=⟨.mk func61 (by kernel_rfl) rfl⟩
structure GtA where
 (n:Nat)(a:Option Addr)(c:Nat)(zs:List OpA)
theorem GrR.opz{S0:Nat→Prop}{w:World}{g:GrA}(h:GrR S0 w g):∀o∈g.ops,o.ok:=fun o ho=>by
 unfold GrA.ops at ho;obtain⟨z,hz,rfl⟩:=List.mem_map.1 ho;exact h.ok z hz
theorem refGSame{S0 S1:Nat→Prop}(g h:GrA)(w:World)(G:GrR S0 w g)(H:GrR S1 w h):
  Calls prog 20 #[.agg (grC g).toArray, .agg (grC h).toArray] w (Ret w fun v _=>v= .bool (decide (g.ids=h.ids∧g.ops=h.ops))):=by
 have D0:=G.ids;have G0:=G.ops;have D1:=H.ids;have G1:=H.ops;have hl:=G.len;have hl1:=H.len;have hcp:=G.cap;have hcp1:=H.cap;refine J.enter 38 func20 rfl rfl ?_;refine run ?_;refine J.box rfl rfl rfl fun b1=>?_
 refine J.box rfl rfl rfl fun b2=>?_
 refine run ?_;refine J.callp rfl rfl (fun w' M=>sameIDs _ _ _ _ _ _ _ _ _ (D0.ext M.ext) (D1.ext M.ext) (by omega) (by omega)) ?_;refine run ?_;refine J.spt rfl rfl rfl (fun c1=>?_) (fun c1=>?_)
 ·have c1:=of_decide_eq_false c1;refine run ?_;exact J.fin (congrArg _ (decide_eq_false fun h=>c1 h.1).symm)
 have c1:=of_decide_eq_true c1;refine run ?_;refine J.ifn rfl (fun c2=>?_) (fun c2=>?_)
 ·refine run ?_;exact J.fin (congrArg _ (decide_eq_false fun h=>c2 (by rw[←hl,←hl1,h.2])).symm)
 refine run ?_;refine J.loopS (A:=Int) (fun p=>[(5, .int .i64 p)]) [4,21,22,23,24,25,26,27,28,29,30,31,32,33,34,35,36,37,38,39] (fun p=>(0≤p∧p≤g.n)∧∀i,i<p.toNat→g.ops.getD i S.OpV.zero=h.ops.getD i S.OpV.zero) (fun p=>g.n - p.toNat) 0 (by kernel_rfl) ⟨by omega,fun i hi=>by omega⟩ (fun p j hI=>?_);obtain⟨h1,hI⟩:=hI;refine run ?_;refine J.ifd rfl (fun c3=>?_) (fun c3=>?_)
 ·obtain⟨z,hzz⟩:=G0.ex (i:=p) (by omega);obtain⟨y,hyy⟩:=G1.ex (i:=p) (by omega);have R:=G.op hzz;have R1:=H.op hyy;have hzo:=GrA.opAt hzz;have hyo:=GrA.opAt hyy;have hse:=S.sameO_eq (a:=z.o) (b:=y.o) R.row.len R1.row.len;refine run ?_;refine J.regionX [(0, .q),(1, .q),(2, .q),(3, .q),(4, .q),(5, .q),(6, .q),(7, .q),(8, .q),(9, .q),(10, .e),(11, .q)] mixed (by kernel_rfl) ?_;refine run ?_;refine J.callp rfl rfl (fun w' M=>sameO z.o y.o R.ok R1.ok _ _ _ _ w' (R.row.ext M.ext) (R1.row.ext M.ext)) ?_;refine run ?_;refine J.ifnot rfl (fun c4=>?_) (fun c4=>?_)
  ·have c4:=of_decide_eq_false c4;refine run ?_;exact J.fin (congrArg _ (decide_eq_false fun h=>c4 (hse.2 (by rw[←hzo,←hyo,h.2]))).symm)
  have c4:=hse.1 (of_decide_eq_true c4);refine run ?_;refine J.nextS (p+1) ⟨rfl,trivial⟩ (by kernel_rfl) ⟨by omega,fun i hi=>?_⟩ (by omega);rcases Nat.lt_or_ge i p.toNat with e|e
  ·exact hI i e
  obtain rfl:i=p.toNat:=by omega
  rw[hzo,hyo,c4]
 refine run ?_;exact J.fin (congrArg _ (decide_eq_true ⟨c1,S.ops_ext (by omega) fun i hi=>hI i (by omega)⟩).symm)
end W
namespace G
open Go.RowKit
def WX(S0:Nat→Prop)(w0:World)(Lq:List Ent)(P:Program)(l0:List Oper)(K:List Value→World→Prop)(n:Nat)(li:Array Bool)(l:List Value)(w:World):Prop:=
 Closed l0.toArray li→wpX P l0.toArray (MR S0 w0 Lq) [] (fun a w=>∃l,a=fr l∧K l w) n li (fr l) w
def BR(S0:Nat→Prop)(w0:World)(Lq:List Ent)(P:Program)(l0:List Oper)(K:List Value→World→Prop)(n:Nat)(li:Array Bool):List Nat→List Value→World→Prop
 |[],_,_=>True
 |i::rd,l,w=>RX P l0.toArray (MR S0 w0 Lq) (WX S0 w0 Lq P l0 K n (li.setIfInBounds i true)) [(nth l0 i, .e)] l w∧BR S0 w0 Lq P l0 K n li rd l w
section
variable{S0:Nat→Prop}{w0:World}{L Lq:List Ent}{P:Program}{Q:Exit→Act→World→Prop}{l:List Value}{id n n':Nat}{l0:List Oper}{K:List Value→World→Prop}{li:Array Bool}{rd:List Nat}
theorem BR.get{k:Nat}{w:World}:∀ {rd:List Nat},BR S0 w0 Lq P l0 K n li rd l w→k∈rd→RX P l0.toArray (MR S0 w0 Lq) (WX S0 w0 Lq P l0 K n (li.setIfInBounds k true)) [(nth l0 k, .e)] l w
 |_::_,h, .head _=>h.1
 |_::_,h, .tail _ hk=>BR.get h.2 hk
theorem J.regionW(Lq:List Ent)(hm:P.follows .mixedOrders=true)(h:J S0 w0 L (WX S0 w0 Lq P l0 (KN Q) l0.length (Array.replicate l0.length false) l)):J S0 w0 L ((Code.region id l0.toArray true).wp P Q (fr l)):=fun w M=>by
 refine wp_region_any hm ?_;have:=h {w with drawn:=w.drawn+1} (M.grow ((Below.refl _ _).drew)) (by intro k ok _ h;exfalso;simp[Array.getElem?_replicate]at h;split at h<;>simp at h);have h2:=wpAny_of_X (Q':=Q) (R:=MR S0 w0 Lq) (fun a w h=>by obtain⟨l,rfl,h⟩:=h;exact h) l0.length (Array.replicate l0.length false) (fr l) _ this;simpa using h2
theorem J.wnode{pl':List (Oper×Kd)}(pl:List (Nat×Kd))(rd:List Nat)(n':Nat)(li':Array Bool)
  (hB:(Region.noSelect l0.toArray&&(noG pl&&(Nat.beq (n'+1+pl.length) n&&(!rd.isEmpty&&planB l0.toArray [] (fun s=>(Region.ready .any l0.toArray s==rd)&&s.toList==li'.toList) pl li))))=true)
  (h:J S0 w0 L (RY S0 w0 (.r Lq) P l0.toArray (BR S0 w0 Lq P l0 K n' li' rd) pl' l))(hs:Lq.Sublist L:=by repeat(first|exact List.Sublist.refl _|refine List.Sublist.cons_cons _ ?_|refine List.Sublist.cons _ ?_))(hp:pick l0 pl=pl':=by dsimp only[pick,nth]):J S0 w0 L (WX S0 w0 Lq P l0 K n li l):=fun w M hcl=>by
 simp only[Bool.and_eq_true]at hB;obtain⟨hns,hn,hz,hr0,hB⟩:=hB;have hz:=Nat.eq_of_beq_eq_true hz;subst hz;subst hp;have h1:RX P l0.toArray (MR S0 w0 Lq) (BR S0 w0 Lq P l0 K n' li' rd) (pick l0 pl) l w:=h w M (M.sub hs);refine rx_list (n:=n'+1) (bg:=[]) (fl:=[]) ?_ (fun _ h=>h) (fun h k x=>k (h x)) hns (fun j hj=>by cases hj) pl li l w hcl (noG_g hn).1 (noG_g hn).2 hB h1;intro listed l w hcl he hk;simp only[Bool.and_eq_true,beq_iff_eq]at he;obtain⟨hr,hl⟩:=he;obtain rfl:listed=li':=Array.ext' hl;refine⟨fun h0=>by rw[h0]at hr;subst hr;simp at hr0,fun k hm=>?_⟩;have hk2:=BR.get hk (hr▸hm);have hlt:k<l0.length:=by
  obtain⟨_,o,ho,_⟩:=mem_ready.1 hm;simpa using(Array.getElem?_eq_some_iff.1 ho).1
 have hi:l0.toArray[k]? =some (nth l0 k):=by simpa using nth_get l0 k hlt
 unfold xOp;simp only[hi];simp only[RX]at hk2;split
 ·rename_i hw;rw[if_pos (by exact hw)]at hk2;unfold Oper.wp at*;refine upon_mono ?_ (fun _ _ _ h=>h) hk2;rintro a w' ⟨l',rfl,hR,h⟩;exact⟨fun _=>hR,h (hcl.set hm)⟩
 ·rename_i hw;rw[if_neg (by exact hw)]at hk2;rw[put_fr];exact⟨fun _=>fun h=>h,hk2 (hcl.set hm)⟩
theorem J.wfin{pl':List (Oper×Kd)}(pl:List (Nat×Kd))
  (hB:(Region.noSelect l0.toArray&&(noG pl&&(Nat.beq pl.length n&&planB l0.toArray [] (endB l0.toArray) pl li)))=true)
  (h:J S0 w0 L (RY S0 w0 (.r Lq) P l0.toArray K pl' l))(hs:Lq.Sublist L:=by repeat(first|exact List.Sublist.refl _|refine List.Sublist.cons_cons _ ?_|refine List.Sublist.cons _ ?_))(hp:pick l0 pl=pl':=by dsimp only[pick,nth]):J S0 w0 L (WX S0 w0 Lq P l0 K n li l):=fun w M hcl=>by
 simp only[Bool.and_eq_true]at hB;obtain⟨hns,hn,hz,hB⟩:=hB;have hz:=Nat.eq_of_beq_eq_true hz;subst hz;subst hp;have h1:RX P l0.toArray (MR S0 w0 Lq) K (pick l0 pl) l w:=h w M (M.sub hs);have:=rx_list (bg:=[]) (fl:=[]) (n:=0) (en:=endB l0.toArray) (Qx:=fun a w=>∃l,a=fr l∧K l w) (fun listed l w _ he hk=>⟨by simpa [endB]using he,l,rfl,hk⟩) (fun _ h=>h) (fun h k x=>k (h x)) hns (fun j hj=>by cases hj) pl li l w hcl (noG_g hn).1 (noG_g hn).2 hB h1;rwa[Nat.zero_add]at this
theorem J.wbr{i:Nat}{oi:Oper}(h1:J S0 w0 L (RY S0 w0 (.r Lq) P l0.toArray (WX S0 w0 Lq P l0 K n (li.setIfInBounds i true)) [(oi, .e)] l))(h2:J S0 w0 L (BR S0 w0 Lq P l0 K n li rd l))
  (hs:Lq.Sublist L:=by repeat(first|exact List.Sublist.refl _|refine List.Sublist.cons_cons _ ?_|refine List.Sublist.cons _ ?_))(hi:nth l0 i=oi:=by dsimp only[nth]):J S0 w0 L (BR S0 w0 Lq P l0 K n li (i::rd) l):=fun w M=>by
 subst hi;exact⟨h1 w M (M.sub hs),h2 w M⟩
theorem J.wbr0:J S0 w0 L (BR S0 w0 Lq P l0 K n li [] l):=fun _ _=>trivial
theorem J.front{X:World→Prop}{F:Ent→List Ent}(e:Ent)[R:RE L e F](k:J S0 w0 (e::F .emp) X):J S0 w0 L X:=fun w M=>by
 exact k w (M.split (R.h .emp) fun S h=>⟨no,S,fun _ h=>h.elim,fun _ h=>h,fun _ h=>h.elim,trivial,h⟩)
theorem J.ldOA{ops:Array Oper}{rest:List (Oper×Kd)}{l':List Value}{d:Tmp}{ty xt T:TypeId}{pos:String}{af:Array Edge}{x:Operand}{b o sz:Nat}{cs vs:List Value}[U:Agg P xt sz](hB:Blk w0 b cs T)(hn:¬S0 b)(hx:ev l x= .pointer (some ⟨b,o,none⟩))(k:J S0 w0 L (RY S0 w0 .s P ops K rest l'))(hz:sz≠0:=by decide)(hv:(cs.drop o).take sz=vs:=by dsimp only[List.drop,List.take])(hl0:vs.length=sz:=by rfl)(hl:l.set d (.agg vs.toArray)=l':=by dsimp only[List.set]):
  J S0 w0 L (RY S0 w0 .s P ops K ((⟨some d, .load xt x,ty,pos,af,none⟩, .q)::rest) l):=
 let ⟨_,u1,u2,u3⟩:=U.h
 J.val (fun w M=>D.loadAgg hx u1 u2 u3 hz hl0 ((hB.pr M.pr hn).cellsN sz hv)) k hl
theorem D.buildA0{ev0:Operand→Value}{w:World}{dd:Option Tmp}{ty t e n by_:Nat}{pos:String}{af:Array Edge}{g:Option (Nat×Bool)}{z:List Value}(hu:P.underlying t=some (.array n e))(ht:TI P t n by_ z)(hs:P.cellsOf e=1):
  (execOp ev0 ⟨dd, .build t #[],ty,pos,af,g⟩).run P w= .ok (.value (.agg z.toArray)) w:=by
 obtain⟨i,v,i1,i2,i3,i4,i5⟩:=ht;have hz1:(zeroValue t).run P w= .ok v w:=by simp[zeroValue,typeInfo,i1,i4]
 have hsz:(sizeOf e).run P w= .ok 1 w:=size_run hs (by decide);simp[execOp,Instr.build,Sem.run_bind,hz1,Result.andThen,run_underlying hu,hsz,i5,Instr.fill]
theorem J.bz{ops:Array Oper}{rest:List (Oper×Kd)}{l':List Value}{m:Md}{kd:Kd}{d:Tmp}{ty xt e n by_:Nat}{pos:String}{af:Array Edge}{zs:List Value}[U:Und P xt (.array n e)][I:Inf P xt n by_ zs][Z:Siz P e 1](hk:pureK kd=true)(k:J S0 w0 L (RY S0 w0 m P ops K rest l'))(hl:l.set d (.agg zs.toArray)=l':=by dsimp only[List.set]):
  J S0 w0 L (RY S0 w0 m P ops K ((⟨some d, .build xt #[],ty,pos,af,none⟩,kd)::rest) l):=J.pur hk (fun _=>D.buildA0 U.h I.h Z.h) k hl
end
end G
namespace W
open Go.RowKit G
set_option maxRecDepth 20000
set_option maxHeartbeats 8000000
attribute [local irreducible] RS RX RY Code.wp bodyPost J Ent.blk Ent.iown Ent.wrow Ent.wown Ent.gown Ent.all Ent.emp
instance:Inf prog 65 2 48 [.slice none 0 0, .slice none 0 0]:=⟨TI.of (v:= .agg #[.slice none 0 0, .slice none 0 0]) (by kernel_rfl) rfl⟩
instance:Siz prog 65 2:=⟨by kernel_rfl⟩
instance:Ents prog 87:=⟨.mk func87 (by kernel_rfl) rfl⟩
instance:SInf prog 65 [(0,1),(1,1)]:=⟨_,underlying65,by kernel_rfl,by kernel_rfl⟩
instance:Siz prog 62 1:=⟨by kernel_rfl⟩
theorem insId0(a:Option Addr)(n c:Nat)(l:List IdV)(i:Nat)(x:IdV)(b2:Nat)(w:World)(hO:GOwn idC 32 0 w 23 a n c l)(hi:i≤n)(hn:n≤1000)(hB:Blk w b2 (idC x) 23)(hne:¬obk a=some b2):
  Calls prog 87 #[.slice a n c, .int .i64 i, .slice (some ⟨b2,0,none⟩) 1 1] w (Gw w idC 32 23 a (l.take i++x::l.drop i)):=by
 have hlen:=hO.len;have hcn:=hO.capn;have hcm:=hO.own.cap.2;refine J.enterG 92 hO func87 rfl rfl ?_;refine run ?_;refine J.ife rfl (fun h=>?_) (fun h=>?_)
 ·obtain rfl:i=n:=by omega
  refine run ?_;refine J.apG rfl rfl (RG.blkO hB hne idC_len) idC_one fun a' c'=>?_
  refine run ?_;have e:l.take i++x::l.drop i=l++[x]:=by rw[List.take_of_length_le (by omega),List.drop_of_length_le (by omega)]
  rw[e];exact J.finW rfl
 have hin:i<n:=by omega
 obtain⟨g,rfl⟩:=hO.some (by omega);have hlt:(l.take i++x::l.drop i).length=n+1:=by simp;omega
 refine run ?_;refine J.ifd rfl (fun h2=>?_) (fun h2=>?_)
 ·refine run ?_;refine J.apZ (p:=i) (k0:=n+1 - i) idC n l rfl (by(conv=>lhs;whnf)<;>exact sl3 (by omega) (by omega) rfl) (by(conv=>lhs;whnf)<;>exact congrArg _ (by omega)) fun b' c' cs' hcs=>?_
  obtain⟨k1,k2,k3,k4⟩:=hcs;refine run ?_;refine J.copyR (b:=b') (o:=i*32) (n:=n+1 - i) (k:=1) (by(conv=>lhs;whnf)<;>exact sl3 (by omega) (by omega) rfl) rfl (RG.cells (RG.blkO hB hne idC_len)) (by rw[List.flatMap_cons,List.flatMap_nil,List.append_nil,idC_len]) (fun u hu=>idC_cell x u (by simpa using List.mem_of_mem_take hu)) rfl ?_;refine run ?_;refine J.regionX [(0, .q),(1, .q),(2, .q),(3, .q),(4, .q),(5, .q),(6, .q),(7, .q),(8, .g)] mixed (by kernel_rfl) ?_;refine run ?_;refine J.copyR (b:=b') (o:=(i+1)*32) (n:=n - i) (n2:=n - i) (k:=n - i) (a:=some ⟨g,i*32,none⟩) (by(conv=>lhs;whnf)<;>exact sl3 (by omega) (by omega) rfl) (by(conv=>lhs;whnf)<;>exact sl3 (by omega) (by omega) rfl) (RG.cells (RG.tail RG.own' hin)) (by rw[flat_len idC 32 idC_len,List.length_drop,hlen,Nat.mul_comm]) (fun u hu=>by obtain⟨y,_,hy⟩:=List.mem_flatMap.1 (List.mem_of_mem_take hu);exact idC_cell y u hy) rfl ?_ (ho:=by simp only[splice_length];omega);refine run ?_;have hz:=(ins_flat (f:=idC) (sz:=32) (z:=x) idC_len hlen hin (by omega) k2).2
  refine J.ruc idC 32 23 b' (n + 1) c' (l.take i ++ x :: l.drop i) idC_len (by simp only [splice_length]; exact k1) (by
   rw [← hz]
   congr 2
   ·congr 1
    rw [List.take_of_length_le (by rw [List.flatMap_cons, List.flatMap_nil, List.append_nil, idC_len]; decide)]
    simp
   rw [List.take_of_length_le (by rw [flat_len idC 32 idC_len, List.length_drop, hlen]; omega)]) (by omega) k4 hlt ?_
  exact J.finW (a':=some ⟨b',0,none⟩) (n':=n+1) (c':=c') (by(conv=>lhs;whnf)<;>exact sl3 (by omega) (by omega) rfl)
 refine run ?_;refine J.cur idC 32 23 g n c l fun cur hcur=>?_
 obtain⟨k1,k2,k3,k4,k5⟩:=hcur;have hcl:(n+1)*32≤cur.length:=by omega
 refine J.extv (E := Extern.SlicesOverlaps.overlaps #[25, 25] #[4]) (v := .bool false) func135 (by kernel_rfl) (by kernel_rfl) (by kernel_rfl) (by kernel_rfl) rfl (fun w' M => by
  have B1 := hB.pr M.pr hne
  have B2 : Blk w' g cur 23 := M.blk .here
  exact Lib.run_overlaps_apart w' _ _ 23 Und.h 32 (fun w => size_run Siz.h (by decide)) ⟨b2, 0, none⟩ ⟨g, _, none⟩ 1 1 _ _ (fun e => hne (show some g = some b2 from congrArg some (show g = b2 from e.symm))) _ _ _ _ (blk_shape B1) (blk_shape B2) (by omega) (blk_free B1) (blk_free B1)) ?_
 refine run ?_;refine J.regionX [(0, .q),(1, .q),(2, .q),(3, .q),(4, .q),(5, .q),(6, .q),(7, .q),(8, .g)] mixed (by kernel_rfl) ?_;refine run ?_;refine J.copyR (b:=g) (o:=(i+1)*32) (n:=n - i) (k:=n - i) (n2:=n+1 - i) (ds:=(cur.drop (i*32)).take ((n+1 - i)*32)) (by(conv=>lhs;whnf)<;>exact sl3 (by omega) (by omega) rfl) (by(conv=>lhs;whnf)<;>exact sl3 (by omega) (by omega) rfl) (fun w' M=>⟨_,M.part (o:=i*32) (b:=g) (by rw[List.length_take,List.length_drop,Nat.min_eq_left (by omega)])⟩) (by rw[List.length_take,List.length_drop];omega) (fun u hu=>?_) rfl ?_
 ·rw[List.take_take,Nat.min_eq_left (by omega)]at hu;have h5:=flat_drop idC 32 idC_len l i;rw[←k2,List.drop_take,show n*32 - i*32=(n - i)*32 by omega]at h5;rw[h5]at hu;obtain⟨y,_,hy⟩:=List.mem_flatMap.1 hu;exact idC_cell y u hy
 refine run ?_;refine J.copyR (b:=g) (o:=i*32) (n:=n+1 - i) (k:=1) (by(conv=>lhs;whnf)<;>exact sl3 (by omega) (by omega) rfl) rfl (RG.cells (RG.blkO hB hne idC_len)) (by rw[List.flatMap_cons,List.flatMap_nil,List.append_nil,idC_len]) (fun u hu=>idC_cell x u (by simpa using List.mem_of_mem_take hu)) rfl ?_ (ho:=by simp only[splice_length];omega);refine run ?_;have hz:=(ins_flat (f:=idC) (sz:=32) (z:=x) (cs:=cur) idC_len hlen hin hcl (by rw[←flat_take idC 32 idC_len,←k2,List.take_take,Nat.min_eq_left (by omega)])).1
 refine J.ruc idC 32 23 g (n + 1) c (l.take i ++ x :: l.drop i) idC_len (by simp only [splice_length]; exact k1) (by
  rw [← hz]
  congr 2
  ·congr 1
   rw [List.take_take, Nat.min_eq_left (by omega), ← flat_drop idC 32 idC_len, ← k2, List.drop_take, show n * 32 - i * 32 = (n - i) * 32 by omega]
  rw [List.take_of_length_le (by rw [List.flatMap_cons, List.flatMap_nil, List.append_nil, idC_len]; decide)]
  simp) (by omega) k4 hlt ?_
 exact J.finW (by(conv=>lhs;whnf)<;>exact sl3 (by omega) (by omega) rfl)
theorem ins_bd{ids x:List Int}{p:Nat}(h:Bd .u8 ids)(hx:Bd .u8 x):Bd .u8 (S.insW ids p x):=fun y hy=>by
 unfold S.insW at hy;rcases List.mem_append.1 hy with k|k
 ·exact h y (List.mem_of_mem_take k)
 rcases List.mem_append.1 k with k|k
 ·exact hx y k
 exact h y (List.mem_of_mem_drop k)
theorem dagPutIn{S0 S1:Nat→Prop}(g:GrA)(x:List Int)(z:OpA)(w:World)(G:GrR S0 w g)(hx:Arr .u8 32 x)(hr:S.Rising g.m g.ids)(hin:S.inS g.m g.ids x):
  Calls prog 45 #[.agg (grC g).toArray, .agg (ints .u8 x).toArray, .agg (opC z).toArray] w (Ret w fun v _=>v= .tuple #[.agg (grC g).toArray, .bool false]):=by
 refine J.enter 71 func45 rfl rfl ?_;refine run ?_;refine J.box rfl rfl rfl fun b1=>?_
 refine J.box rfl rfl rfl fun b2=>?_
 refine J.box rfl rfl rfl fun b3=>?_
 refine J.alloc rfl fun b4=>?_
 refine run ?_;refine J.callp rfl rfl (fun w' M=>dagFind g _ w' (G.ids.ext M.ext) hx hr G.cap.2.2.1) ?_;refine run ?_;refine J.ifd rfl (fun c=>?_) (fun c=>absurd hin c);refine run ?_;exact J.fin rfl
theorem dagPut{S0 S1:Nat→Prop}(g:GrA)(x:List Int)(z:OpA)(w:World)(G:GrR S0 w g)(hx:Arr .u8 32 x)(hr:S.Rising g.m g.ids)(hin:¬S.inS g.m g.ids x)(RZ:OpR S1 w z)(hmn:g.n=g.m)(hm:g.m≤60):
  Calls prog 45 #[.agg (grC g).toArray, .agg (ints .u8 x).toArray, .agg (opC z).toArray] w (Gv w (fun q:GrA=> .tuple #[.agg (grC q).toArray, .bool true]) (grE 23 34) (GrP (g.m+1) (S.insW g.ids (S.spotS g.m g.ids x) x) (S.insO g.ops (S.spotS g.m g.ids x) z.o))):=by
 have D0:=G.ids;have G0:=G.ops;have hl:=G.len;have hcp:=G.cap;have hsp:S.spotS g.m g.ids x≤g.m:=S.spotC_le _ _;obtain⟨ids,hl1,hl2⟩:=chunks g.m g.ids (D0.len);have hil:(ids.take (S.spotS g.m g.ids x)++(⟨x,hx.1⟩:IdV)::ids.drop (S.spotS g.m g.ids x)).length=g.m+1:=by simp;omega
 have hcv:flatI (ids.take (S.spotS g.m g.ids x)++(⟨x,hx.1⟩:IdV)::ids.drop (S.spotS g.m g.ids x))=S.insW g.ids (S.spotS g.m g.ids x) x:=by rw[flatI_ins,hl2]
 have hbd:Bd .u8 (S.insW g.ids (S.spotS g.m g.ids x) x):=ins_bd D0.bd hx.2;have hol:(S.insO g.ops (S.spotS g.m g.ids x) z.o).length=g.m+1:=by rw[S.insO_len _ (by omega)];omega
 have hog:=fun i=>S.insO_get (ops:=g.ops) (p:=S.spotS g.m g.ids x) z.o (by omega) i;refine J.enter 71 func45 rfl rfl ?_;refine run ?_;refine J.box rfl rfl rfl fun b1=>?_
 refine J.box rfl rfl rfl fun b2=>?_
 refine J.box rfl rfl rfl fun b3=>?_
 refine J.alloc rfl fun b4=>?_
 refine run ?_;refine J.callp rfl rfl (fun w' M=>dagFind g _ w' (D0.ext M.ext) hx hr hcp.2.2.1) ?_;refine run ?_;refine J.ifd rfl (fun c=>absurd c hin) (fun c=>?_);refine run ?_;refine J.joinX (A:=(Option Addr×Nat)×Nat) (fun u=>[(10, .pointer (some ⟨u.2,0,none⟩))]) [20,21,22,23,24,25,26,27] (fun u=>[.blk u.2 [.slice u.1.1 (g.m+1) u.1.2, .slice none 0 0] 65, .wown 23 .u8 32 u.1.1 (g.m+1) u.1.2 (S.insW g.ids (S.spotS g.m g.ids x) x), .blk b4 [.slice none 0 0, .slice none 0 0] 65, .blk b3 (opC z) 34, .blk b2 (ints .u8 x) 23, .blk b1 (grC g) 65]) (fun _=>True) ?_ (fun u j2 _=>?_)
 ·refine J.regionW [.blk b2 (ints .u8 x) 23, .blk b1 (grC g) 65] mixed ?_;refine J.wnode [(0, .q),(1, .q),(3, .q),(4, .q)] [2,5,8] 5 #[true,true,false,true,true,false,false,false,false,false] (by kernel_rfl) ?_;refine run ?_;refine J.nil ?_;refine J.wbr ?_ ?_
  ·refine J.call rfl rfl (fun w' M=>cloneW _ _ _ _ _ (D0.ext M.ext) hcp.1 (by omega)) fun q hq=>?_
   refine J.nil ?_;refine J.wnode [] [5,8] 4 #[true,true,true,true,true,false,false,false,false,false] (by kernel_rfl) ?_;refine run ?_;refine J.nil ?_;refine J.wbr ?_ ?_
   ·refine J.b1G idC ⟨x,hx.1⟩ idC_len rfl rfl rfl fun bx=>?_
    refine J.nil ?_;refine J.wnode [] [6,8] 3 #[true,true,true,true,true,true,false,false,false,false] (by kernel_rfl) ?_;refine run ?_;refine J.nil ?_;refine J.wbr ?_ ?_
    ·refine J.re (.wown 23 .u8 32 q.1 g.m q.2 g.ids) (.gown idC 32 23 q.1 g.m q.2 ids) (fun _ _ h=>wown_gown hl2 hl1 h) ?_
     refine J.callG rfl (fun w' M hO' => insId0 q.1 g.m q.2 ids (S.spotS g.m g.ids x) ⟨x, hx.1⟩ bx w' hO' hsp (by omega) (let ⟨_, _, k⟩ := M.get (GO.h (a := some ⟨bx, 0, none⟩) (some ⟨bx, 0, none⟩) 1 1 [(⟨x, hx.1⟩ : IdV)]).same; gown_one (gown_e k).1) (fun he => by
      obtain ⟨S1, S2, h1, h2, h3⟩ := M.two (.gown idC 32 23 q.1 g.m q.2 ids) (.gown idC 32 23 (some ⟨bx, 0, none⟩) 1 1 [(⟨x, hx.1⟩ : IdV)])
      exact h1 bx ((gown_e h2).2 _ he) ((gown_e h3).2 _ rfl))) fun ia ic => ?_
     rw[hil];refine J.nil ?_;refine J.wfin [(7, .q),(8, .e),(9, .e)] (by kernel_rfl) ?_;refine run ?_;refine J.alloc rfl fun bg=>?_
     refine run ?_;refine run ?_;refine J.re (.gown idC 32 23 ia (g.m+1) ic (ids.take (S.spotS g.m g.ids x)++(⟨x,hx.1⟩:IdV)::ids.drop (S.spotS g.m g.ids x))) (.wown 23 .u8 32 ia (g.m+1) ic (S.insW g.ids (S.spotS g.m g.ids x) x)) (fun _ _ h=>hcv▸gown_wown (hcv.symm▸hbd) h) ?_;refine J.front (.wown 23 .u8 32 ia (g.m+1) ic (S.insW g.ids (S.spotS g.m g.ids x) x)) ?_;refine J.front (.blk bg [.slice ia (g.m+1) ic, .slice none 0 0] 65) ?_;exact J.cut ((ia,ic),bg) ⟨rfl,trivial⟩ (by kernel_rfl) trivial
    refine J.wbr ?_ ?_
    ·refine J.alloc rfl fun bg=>?_
     refine J.nil ?_;refine J.wfin [(6, .e),(7, .q),(9, .e)] (by kernel_rfl) ?_;refine run ?_;refine J.re (.wown 23 .u8 32 q.1 g.m q.2 g.ids) (.gown idC 32 23 q.1 g.m q.2 ids) (fun _ _ h=>wown_gown hl2 hl1 h) ?_
     refine J.callG rfl (fun w' M hO' => insId0 q.1 g.m q.2 ids (S.spotS g.m g.ids x) ⟨x, hx.1⟩ bx w' hO' hsp (by omega) (let ⟨_, _, k⟩ := M.get (GO.h (a := some ⟨bx, 0, none⟩) (some ⟨bx, 0, none⟩) 1 1 [(⟨x, hx.1⟩ : IdV)]).same; gown_one (gown_e k).1) (fun he => by
      obtain ⟨S1, S2, h1, h2, h3⟩ := M.two (.gown idC 32 23 q.1 g.m q.2 ids) (.gown idC 32 23 (some ⟨bx, 0, none⟩) 1 1 [(⟨x, hx.1⟩ : IdV)])
      exact h1 bx ((gown_e h2).2 _ he) ((gown_e h3).2 _ rfl))) fun ia ic => ?_
     rw[hil];refine run ?_;refine run ?_;refine J.re (.gown idC 32 23 ia (g.m+1) ic (ids.take (S.spotS g.m g.ids x)++(⟨x,hx.1⟩:IdV)::ids.drop (S.spotS g.m g.ids x))) (.wown 23 .u8 32 ia (g.m+1) ic (S.insW g.ids (S.spotS g.m g.ids x) x)) (fun _ _ h=>hcv▸gown_wown (hcv.symm▸hbd) h) ?_;refine J.front (.wown 23 .u8 32 ia (g.m+1) ic (S.insW g.ids (S.spotS g.m g.ids x) x)) ?_;refine J.front (.blk bg [.slice ia (g.m+1) ic, .slice none 0 0] 65) ?_;exact J.cut ((ia,ic),bg) ⟨rfl,trivial⟩ (by kernel_rfl) trivial
    exact J.wbr0
   refine J.wbr ?_ ?_
   ·refine J.alloc rfl fun bg=>?_
    refine J.nil ?_;refine J.wfin [(5, .e),(6, .e),(7, .q),(9, .e)] (by kernel_rfl) ?_;refine run ?_;refine J.b1G idC ⟨x,hx.1⟩ idC_len rfl rfl rfl fun bx=>?_
    refine run ?_;refine J.re (.wown 23 .u8 32 q.1 g.m q.2 g.ids) (.gown idC 32 23 q.1 g.m q.2 ids) (fun _ _ h=>wown_gown hl2 hl1 h) ?_
    refine J.callG rfl (fun w' M hO' => insId0 q.1 g.m q.2 ids (S.spotS g.m g.ids x) ⟨x, hx.1⟩ bx w' hO' hsp (by omega) (let ⟨_, _, k⟩ := M.get (GO.h (a := some ⟨bx, 0, none⟩) (some ⟨bx, 0, none⟩) 1 1 [(⟨x, hx.1⟩ : IdV)]).same; gown_one (gown_e k).1) (fun he => by
     obtain ⟨S1, S2, h1, h2, h3⟩ := M.two (.gown idC 32 23 q.1 g.m q.2 ids) (.gown idC 32 23 (some ⟨bx, 0, none⟩) 1 1 [(⟨x, hx.1⟩ : IdV)])
     exact h1 bx ((gown_e h2).2 _ he) ((gown_e h3).2 _ rfl))) fun ia ic => ?_
    rw[hil];refine run ?_;refine run ?_;refine J.re (.gown idC 32 23 ia (g.m+1) ic (ids.take (S.spotS g.m g.ids x)++(⟨x,hx.1⟩:IdV)::ids.drop (S.spotS g.m g.ids x))) (.wown 23 .u8 32 ia (g.m+1) ic (S.insW g.ids (S.spotS g.m g.ids x) x)) (fun _ _ h=>hcv▸gown_wown (hcv.symm▸hbd) h) ?_;refine J.front (.wown 23 .u8 32 ia (g.m+1) ic (S.insW g.ids (S.spotS g.m g.ids x) x)) ?_;refine J.front (.blk bg [.slice ia (g.m+1) ic, .slice none 0 0] 65) ?_;exact J.cut ((ia,ic),bg) ⟨rfl,trivial⟩ (by kernel_rfl) trivial
   exact J.wbr0
  refine J.wbr ?_ ?_
  ·refine J.b1G idC ⟨x,hx.1⟩ idC_len rfl rfl rfl fun bx=>?_
   refine J.nil ?_;refine J.wnode [] [2,8] 4 #[true,true,false,true,true,true,false,false,false,false] (by kernel_rfl) ?_;refine run ?_;refine J.nil ?_;refine J.wbr ?_ ?_
   ·refine J.call rfl rfl (fun w' M=>cloneW _ _ _ _ _ (D0.ext M.ext) hcp.1 (by omega)) fun q hq=>?_
    refine J.nil ?_;refine J.wnode [] [6,8] 3 #[true,true,true,true,true,true,false,false,false,false] (by kernel_rfl) ?_;refine run ?_;refine J.nil ?_;refine J.wbr ?_ ?_
    ·refine J.re (.wown 23 .u8 32 q.1 g.m q.2 g.ids) (.gown idC 32 23 q.1 g.m q.2 ids) (fun _ _ h=>wown_gown hl2 hl1 h) ?_
     refine J.callG rfl (fun w' M hO' => insId0 q.1 g.m q.2 ids (S.spotS g.m g.ids x) ⟨x, hx.1⟩ bx w' hO' hsp (by omega) (let ⟨_, _, k⟩ := M.get (GO.h (a := some ⟨bx, 0, none⟩) (some ⟨bx, 0, none⟩) 1 1 [(⟨x, hx.1⟩ : IdV)]).same; gown_one (gown_e k).1) (fun he => by
      obtain ⟨S1, S2, h1, h2, h3⟩ := M.two (.gown idC 32 23 q.1 g.m q.2 ids) (.gown idC 32 23 (some ⟨bx, 0, none⟩) 1 1 [(⟨x, hx.1⟩ : IdV)])
      exact h1 bx ((gown_e h2).2 _ he) ((gown_e h3).2 _ rfl))) fun ia ic => ?_
     rw[hil];refine J.nil ?_;refine J.wfin [(7, .q),(8, .e),(9, .e)] (by kernel_rfl) ?_;refine run ?_;refine J.alloc rfl fun bg=>?_
     refine run ?_;refine run ?_;refine J.re (.gown idC 32 23 ia (g.m+1) ic (ids.take (S.spotS g.m g.ids x)++(⟨x,hx.1⟩:IdV)::ids.drop (S.spotS g.m g.ids x))) (.wown 23 .u8 32 ia (g.m+1) ic (S.insW g.ids (S.spotS g.m g.ids x) x)) (fun _ _ h=>hcv▸gown_wown (hcv.symm▸hbd) h) ?_;refine J.front (.wown 23 .u8 32 ia (g.m+1) ic (S.insW g.ids (S.spotS g.m g.ids x) x)) ?_;refine J.front (.blk bg [.slice ia (g.m+1) ic, .slice none 0 0] 65) ?_;exact J.cut ((ia,ic),bg) ⟨rfl,trivial⟩ (by kernel_rfl) trivial
    refine J.wbr ?_ ?_
    ·refine J.alloc rfl fun bg=>?_
     refine J.nil ?_;refine J.wfin [(6, .e),(7, .q),(9, .e)] (by kernel_rfl) ?_;refine run ?_;refine J.re (.wown 23 .u8 32 q.1 g.m q.2 g.ids) (.gown idC 32 23 q.1 g.m q.2 ids) (fun _ _ h=>wown_gown hl2 hl1 h) ?_
     refine J.callG rfl (fun w' M hO' => insId0 q.1 g.m q.2 ids (S.spotS g.m g.ids x) ⟨x, hx.1⟩ bx w' hO' hsp (by omega) (let ⟨_, _, k⟩ := M.get (GO.h (a := some ⟨bx, 0, none⟩) (some ⟨bx, 0, none⟩) 1 1 [(⟨x, hx.1⟩ : IdV)]).same; gown_one (gown_e k).1) (fun he => by
      obtain ⟨S1, S2, h1, h2, h3⟩ := M.two (.gown idC 32 23 q.1 g.m q.2 ids) (.gown idC 32 23 (some ⟨bx, 0, none⟩) 1 1 [(⟨x, hx.1⟩ : IdV)])
      exact h1 bx ((gown_e h2).2 _ he) ((gown_e h3).2 _ rfl))) fun ia ic => ?_
     rw[hil];refine run ?_;refine run ?_;refine J.re (.gown idC 32 23 ia (g.m+1) ic (ids.take (S.spotS g.m g.ids x)++(⟨x,hx.1⟩:IdV)::ids.drop (S.spotS g.m g.ids x))) (.wown 23 .u8 32 ia (g.m+1) ic (S.insW g.ids (S.spotS g.m g.ids x) x)) (fun _ _ h=>hcv▸gown_wown (hcv.symm▸hbd) h) ?_;refine J.front (.wown 23 .u8 32 ia (g.m+1) ic (S.insW g.ids (S.spotS g.m g.ids x) x)) ?_;refine J.front (.blk bg [.slice ia (g.m+1) ic, .slice none 0 0] 65) ?_;exact J.cut ((ia,ic),bg) ⟨rfl,trivial⟩ (by kernel_rfl) trivial
    exact J.wbr0
   refine J.wbr ?_ ?_
   ·refine J.alloc rfl fun bg=>?_
    refine J.nil ?_;refine J.wfin [(2, .e),(6, .e),(7, .q),(9, .e)] (by kernel_rfl) ?_;refine run ?_;refine J.call rfl rfl (fun w' M=>cloneW _ _ _ _ _ (D0.ext M.ext) hcp.1 (by omega)) fun q hq=>?_
    refine run ?_;refine J.re (.wown 23 .u8 32 q.1 g.m q.2 g.ids) (.gown idC 32 23 q.1 g.m q.2 ids) (fun _ _ h=>wown_gown hl2 hl1 h) ?_
    refine J.callG rfl (fun w' M hO' => insId0 q.1 g.m q.2 ids (S.spotS g.m g.ids x) ⟨x, hx.1⟩ bx w' hO' hsp (by omega) (let ⟨_, _, k⟩ := M.get (GO.h (a := some ⟨bx, 0, none⟩) (some ⟨bx, 0, none⟩) 1 1 [(⟨x, hx.1⟩ : IdV)]).same; gown_one (gown_e k).1) (fun he => by
     obtain ⟨S1, S2, h1, h2, h3⟩ := M.two (.gown idC 32 23 q.1 g.m q.2 ids) (.gown idC 32 23 (some ⟨bx, 0, none⟩) 1 1 [(⟨x, hx.1⟩ : IdV)])
     exact h1 bx ((gown_e h2).2 _ he) ((gown_e h3).2 _ rfl))) fun ia ic => ?_
    rw[hil];refine run ?_;refine run ?_;refine J.re (.gown idC 32 23 ia (g.m+1) ic (ids.take (S.spotS g.m g.ids x)++(⟨x,hx.1⟩:IdV)::ids.drop (S.spotS g.m g.ids x))) (.wown 23 .u8 32 ia (g.m+1) ic (S.insW g.ids (S.spotS g.m g.ids x) x)) (fun _ _ h=>hcv▸gown_wown (hcv.symm▸hbd) h) ?_;refine J.front (.wown 23 .u8 32 ia (g.m+1) ic (S.insW g.ids (S.spotS g.m g.ids x) x)) ?_;refine J.front (.blk bg [.slice ia (g.m+1) ic, .slice none 0 0] 65) ?_;exact J.cut ((ia,ic),bg) ⟨rfl,trivial⟩ (by kernel_rfl) trivial
   exact J.wbr0
  refine J.wbr ?_ ?_
  ·refine J.alloc rfl fun bg=>?_
   refine J.nil ?_;refine J.wnode [] [2,5] 4 #[true,true,false,true,true,false,false,false,true,false] (by kernel_rfl) ?_;refine run ?_;refine J.nil ?_;refine J.wbr ?_ ?_
   ·refine J.call rfl rfl (fun w' M=>cloneW _ _ _ _ _ (D0.ext M.ext) hcp.1 (by omega)) fun q hq=>?_
    refine J.nil ?_;refine J.wfin [(5, .e),(6, .e),(7, .q),(9, .e)] (by kernel_rfl) ?_;refine run ?_;refine J.b1G idC ⟨x,hx.1⟩ idC_len rfl rfl rfl fun bx=>?_
    refine run ?_;refine J.re (.wown 23 .u8 32 q.1 g.m q.2 g.ids) (.gown idC 32 23 q.1 g.m q.2 ids) (fun _ _ h=>wown_gown hl2 hl1 h) ?_
    refine J.callG rfl (fun w' M hO' => insId0 q.1 g.m q.2 ids (S.spotS g.m g.ids x) ⟨x, hx.1⟩ bx w' hO' hsp (by omega) (let ⟨_, _, k⟩ := M.get (GO.h (a := some ⟨bx, 0, none⟩) (some ⟨bx, 0, none⟩) 1 1 [(⟨x, hx.1⟩ : IdV)]).same; gown_one (gown_e k).1) (fun he => by
     obtain ⟨S1, S2, h1, h2, h3⟩ := M.two (.gown idC 32 23 q.1 g.m q.2 ids) (.gown idC 32 23 (some ⟨bx, 0, none⟩) 1 1 [(⟨x, hx.1⟩ : IdV)])
     exact h1 bx ((gown_e h2).2 _ he) ((gown_e h3).2 _ rfl))) fun ia ic => ?_
    rw[hil];refine run ?_;refine run ?_;refine J.re (.gown idC 32 23 ia (g.m+1) ic (ids.take (S.spotS g.m g.ids x)++(⟨x,hx.1⟩:IdV)::ids.drop (S.spotS g.m g.ids x))) (.wown 23 .u8 32 ia (g.m+1) ic (S.insW g.ids (S.spotS g.m g.ids x) x)) (fun _ _ h=>hcv▸gown_wown (hcv.symm▸hbd) h) ?_;refine J.front (.wown 23 .u8 32 ia (g.m+1) ic (S.insW g.ids (S.spotS g.m g.ids x) x)) ?_;refine J.front (.blk bg [.slice ia (g.m+1) ic, .slice none 0 0] 65) ?_;exact J.cut ((ia,ic),bg) ⟨rfl,trivial⟩ (by kernel_rfl) trivial
   refine J.wbr ?_ ?_
   ·refine J.b1G idC ⟨x,hx.1⟩ idC_len rfl rfl rfl fun bx=>?_
    refine J.nil ?_;refine J.wfin [(2, .e),(6, .e),(7, .q),(9, .e)] (by kernel_rfl) ?_;refine run ?_;refine J.call rfl rfl (fun w' M=>cloneW _ _ _ _ _ (D0.ext M.ext) hcp.1 (by omega)) fun q hq=>?_
    refine run ?_;refine J.re (.wown 23 .u8 32 q.1 g.m q.2 g.ids) (.gown idC 32 23 q.1 g.m q.2 ids) (fun _ _ h=>wown_gown hl2 hl1 h) ?_
    refine J.callG rfl (fun w' M hO' => insId0 q.1 g.m q.2 ids (S.spotS g.m g.ids x) ⟨x, hx.1⟩ bx w' hO' hsp (by omega) (let ⟨_, _, k⟩ := M.get (GO.h (a := some ⟨bx, 0, none⟩) (some ⟨bx, 0, none⟩) 1 1 [(⟨x, hx.1⟩ : IdV)]).same; gown_one (gown_e k).1) (fun he => by
     obtain ⟨S1, S2, h1, h2, h3⟩ := M.two (.gown idC 32 23 q.1 g.m q.2 ids) (.gown idC 32 23 (some ⟨bx, 0, none⟩) 1 1 [(⟨x, hx.1⟩ : IdV)])
     exact h1 bx ((gown_e h2).2 _ he) ((gown_e h3).2 _ rfl))) fun ia ic => ?_
    rw[hil];refine run ?_;refine run ?_;refine J.re (.gown idC 32 23 ia (g.m+1) ic (ids.take (S.spotS g.m g.ids x)++(⟨x,hx.1⟩:IdV)::ids.drop (S.spotS g.m g.ids x))) (.wown 23 .u8 32 ia (g.m+1) ic (S.insW g.ids (S.spotS g.m g.ids x) x)) (fun _ _ h=>hcv▸gown_wown (hcv.symm▸hbd) h) ?_;refine J.front (.wown 23 .u8 32 ia (g.m+1) ic (S.insW g.ids (S.spotS g.m g.ids x) x)) ?_;refine J.front (.blk bg [.slice ia (g.m+1) ic, .slice none 0 0] 65) ?_;exact J.cut ((ia,ic),bg) ⟨rfl,trivial⟩ (by kernel_rfl) trivial
   exact J.wbr0
  exact J.wbr0
 obtain⟨⟨ia,ic⟩,bg⟩:=u;dsimp only;refine run ?_;refine J.noA (J.nilG opC 11 34 opC_len ?_);refine J.loop (A:=GtA) (fun p=>[(31, .int .i64 (p.n:Nat))]) [11,32,33,34,35,36,37,38,39,40,41,42,43,44,45,46,47,48,49,50,51,52,53,54,55,56,57,58,59,60,61,62,63,64,65,66,67,68,69,70,71,72] (fun p=>[.gown opC 11 34 p.a p.n p.c p.zs, .all (p.zs.map (opE 23)), .blk bg [.slice ia (g.m+1) ic, .slice p.a p.n p.c] 65, .wown 23 .u8 32 ia (g.m+1) ic (S.insW g.ids (S.spotS g.m g.ids x) x), .blk b4 [.slice none 0 0, .slice none 0 0] 65, .blk b3 (opC z) 34, .blk b2 (ints .u8 x) 23, .blk b1 (grC g) 65]) (fun p=>p.n≤g.m+1∧p.zs.map OpA.o=(S.insO g.ops (S.spotS g.m g.ids x) z.o).take p.n∧∀z∈p.zs,z.o.n≤z.pc) (fun p=>g.m+1 - p.n) ⟨0,none,0,[]⟩ (by kernel_rfl) ⟨Nat.zero_le _,rfl,fun z hz=>(by cases hz)⟩ (fun p j hI=>?_);obtain⟨hI1,hI2,hI3⟩:=hI;refine run ?_;refine J.ifd rfl (fun c1=>?_) (fun c1=>?_)
 ·refine run ?_;refine J.ifd rfl (fun c2=>?_) (fun c2=>?_)
  ·obtain⟨y,hy⟩:=G0.ex (i:=(p.n:Nat)) (by omega);have hy':=hy;rw[Int.toNat_natCast]at hy';have hyo:=GrA.opAt hy';have hst:(S.insO g.ops (S.spotS g.m g.ids x) z.o).getD p.n S.OpV.zero=y.o:=by rw[hog,if_pos (by omega),hyo]
   have R:=(G.op hy)
   refine run ?_;refine J.regionX [(0, .q),(1, .q),(2, .q),(3, .q),(4, .q),(5, .q),(6, .q),(7, .e),(8, .e),(9, .g),(10, .q),(11, .g)] mixed (by kernel_rfl) ?_;refine run ?_;refine J.call rfl rfl (fun w' M=>dagTwin y w' (R.ext M.ext)) fun q hq=>?_
   refine J.b1G opC ⟨(y).o,q.1,q.2⟩ opC_len rfl rfl rfl fun bb=>?_
   refine J.apG rfl rfl RG.own' opC_one fun a' c'=>?_
   refine run ?_;refine J.snocA (p.zs.map (opE 23)) (.wown 23 .u8 32 q.1 (y).o.n q.2 (y).o.ids) ?_;refine J.drop (E:=[.gown opC 11 34 a' (p.n+1) c' (p.zs++[(⟨(y).o,q.1,q.2⟩:OpA)]), .all (p.zs.map (opE 23)++[.wown 23 .u8 32 q.1 (y).o.n q.2 (y).o.ids]), .blk bg [.slice ia (g.m+1) ic, .slice a' (p.n+1) c'] 65, .wown 23 .u8 32 ia (g.m+1) ic (S.insW g.ids (S.spotS g.m g.ids x) x), .blk b4 [.slice none 0 0, .slice none 0 0] 65, .blk b3 (opC z) 34, .blk b2 (ints .u8 x) 23, .blk b1 (grC g) 65]) (.cons _ (.cons _ (List.Sublist.refl _))) ?_;refine J.re (.all (p.zs.map (opE 23)++[.wown 23 .u8 32 q.1 (y).o.n q.2 (y).o.ids])) (.all ((p.zs++[(⟨(y).o,q.1,q.2⟩:OpA)]).map (opE 23))) (fun _ _ h=>by rw[List.map_append];exact h) ?_
   exact J.next ⟨p.n + 1, a', c', p.zs ++ [⟨(y).o, q.1, q.2⟩]⟩ ⟨rfl, trivial⟩ (by kernel_rfl) ⟨by dsimp only; omega, by dsimp only; rw [List.map_append, hI2, List.take_add_one, S.op_at (by omega), hst]; rfl, fun y hy => by
    rcases List.mem_append.1 hy with h | h
    ·exact hI3 y h
    rw [List.mem_singleton] at h; subst h; exact hq⟩ (by dsimp only; omega)
  refine run ?_;refine J.ife rfl (fun c3=>?_) (fun c3=>?_)
  ·have hst:(S.insO g.ops (S.spotS g.m g.ids x) z.o).getD p.n S.OpV.zero=z.o:=by rw[hog,if_neg (by omega),if_pos (by omega)]
   have R:=RZ;refine run ?_;refine J.regionX [(0, .q),(1, .q),(2, .q),(3, .e),(4, .e),(5, .g),(6, .q),(7, .g)] mixed (by kernel_rfl) ?_;refine run ?_;refine J.call rfl rfl (fun w' M=>dagTwin z w' (R.ext M.ext)) fun q hq=>?_
   refine J.b1G opC ⟨(z).o,q.1,q.2⟩ opC_len rfl rfl rfl fun bb=>?_
   refine J.apG rfl rfl RG.own' opC_one fun a' c'=>?_
   refine run ?_;refine J.snocA (p.zs.map (opE 23)) (.wown 23 .u8 32 q.1 (z).o.n q.2 (z).o.ids) ?_;refine J.drop (E:=[.gown opC 11 34 a' (p.n+1) c' (p.zs++[(⟨(z).o,q.1,q.2⟩:OpA)]), .all (p.zs.map (opE 23)++[.wown 23 .u8 32 q.1 (z).o.n q.2 (z).o.ids]), .blk bg [.slice ia (g.m+1) ic, .slice a' (p.n+1) c'] 65, .wown 23 .u8 32 ia (g.m+1) ic (S.insW g.ids (S.spotS g.m g.ids x) x), .blk b4 [.slice none 0 0, .slice none 0 0] 65, .blk b3 (opC z) 34, .blk b2 (ints .u8 x) 23, .blk b1 (grC g) 65]) (.cons _ (.cons _ (List.Sublist.refl _))) ?_;refine J.re (.all (p.zs.map (opE 23)++[.wown 23 .u8 32 q.1 (z).o.n q.2 (z).o.ids])) (.all ((p.zs++[(⟨(z).o,q.1,q.2⟩:OpA)]).map (opE 23))) (fun _ _ h=>by rw[List.map_append];exact h) ?_
   exact J.next ⟨p.n + 1, a', c', p.zs ++ [⟨(z).o, q.1, q.2⟩]⟩ ⟨rfl, trivial⟩ (by kernel_rfl) ⟨by dsimp only; omega, by dsimp only; rw [List.map_append, hI2, List.take_add_one, S.op_at (by omega), hst]; rfl, fun y hy => by
    rcases List.mem_append.1 hy with h | h
    ·exact hI3 y h
    rw [List.mem_singleton] at h; subst h; exact hq⟩ (by dsimp only; omega)
  obtain⟨y,hy⟩:=G0.ex (i:=((p.n:Nat):Int) - 1) (by omega);have hy':=hy;rw[show(((p.n:Nat):Int) - 1).toNat=p.n - 1 by omega]at hy';have hyo:=GrA.opAt hy';have hst:(S.insO g.ops (S.spotS g.m g.ids x) z.o).getD p.n S.OpV.zero=y.o:=by rw[hog,if_neg (by omega),if_neg (by omega),hyo]
  have R:=(G.op hy)
  refine run ?_;refine J.regionX [(0, .q),(1, .q),(2, .q),(3, .q),(4, .q),(5, .q),(6, .q),(7, .q),(8, .e),(9, .e),(10, .g),(11, .q),(12, .g)] mixed (by kernel_rfl) ?_;refine run ?_;refine J.call rfl rfl (fun w' M=>dagTwin y w' (R.ext M.ext)) fun q hq=>?_
  refine J.b1G opC ⟨(y).o,q.1,q.2⟩ opC_len rfl rfl rfl fun bb=>?_
  refine J.apG rfl rfl RG.own' opC_one fun a' c'=>?_
  refine run ?_;refine J.snocA (p.zs.map (opE 23)) (.wown 23 .u8 32 q.1 (y).o.n q.2 (y).o.ids) ?_;refine J.drop (E:=[.gown opC 11 34 a' (p.n+1) c' (p.zs++[(⟨(y).o,q.1,q.2⟩:OpA)]), .all (p.zs.map (opE 23)++[.wown 23 .u8 32 q.1 (y).o.n q.2 (y).o.ids]), .blk bg [.slice ia (g.m+1) ic, .slice a' (p.n+1) c'] 65, .wown 23 .u8 32 ia (g.m+1) ic (S.insW g.ids (S.spotS g.m g.ids x) x), .blk b4 [.slice none 0 0, .slice none 0 0] 65, .blk b3 (opC z) 34, .blk b2 (ints .u8 x) 23, .blk b1 (grC g) 65]) (.cons _ (.cons _ (List.Sublist.refl _))) ?_;refine J.re (.all (p.zs.map (opE 23)++[.wown 23 .u8 32 q.1 (y).o.n q.2 (y).o.ids])) (.all ((p.zs++[(⟨(y).o,q.1,q.2⟩:OpA)]).map (opE 23))) (fun _ _ h=>by rw[List.map_append];exact h) ?_
  exact J.next ⟨p.n + 1, a', c', p.zs ++ [⟨(y).o, q.1, q.2⟩]⟩ ⟨rfl, trivial⟩ (by kernel_rfl) ⟨by dsimp only; omega, by dsimp only; rw [List.map_append, hI2, List.take_add_one, S.op_at (by omega), hst]; rfl, fun y hy => by
   rcases List.mem_append.1 hy with h | h
   ·exact hI3 y h
   rw [List.mem_singleton] at h; subst h; exact hq⟩ (by dsimp only; omega)
 have hpn:p.n=g.m+1:=by omega
 refine run ?_;exact J.finG ⟨ia,p.a,g.m+1,p.n,ic,p.c,S.insW g.ids (S.spotS g.m g.ids x) x,p.zs⟩ rfl ⟨rfl,rfl,by dsimp only;omega,by show p.zs.map OpA.o=_;rw[hI2,List.take_of_length_le (by omega)],hI3⟩ (by unfold grE;repeat(first|exact List.nil_sublist _|refine List.Sublist.cons_cons _ ?_|refine List.Sublist.cons _ ?_))
instance:Ents prog 90:=⟨.mk func90 (by kernel_rfl) rfl⟩
@[reducible] def GrA.P(g:GrA):S.PG:=⟨g.m,g.ids,g.ops⟩
def GrA.nil:GrA:=⟨none,none,0,0,0,0,[],[]⟩
theorem GrP.nil:GrP S.PG.nil.m S.PG.nil.ids S.PG.nil.ops GrA.nil:=⟨rfl,rfl,rfl,rfl,fun z hz=>by cases hz⟩
theorem J.nilGr{S0:Nat→Prop}{w0:World}{L:List Ent}{X:World→Prop}(TI TO:TypeId)(k:J S0 w0 (.gown opC 11 TO none 0 0 []:: .all []:: .wown TI .u8 32 none 0 0 []::L) X):J S0 w0 L X:=J.nilWo TI .u8 32 (J.noA (J.nilG opC 11 TO opC_len k))
theorem blkC{S0:Nat→Prop}{w0 w:World}{L:List Ent}(b:Nat){cs:List Value}{T:TypeId}{F:List Value→List Ent}[R:RB L b cs T F](M:Mem S0 w0 L w):Blk w b cs T:=M.blk (R.h cs).same
instance:Ents prog 45:=⟨.mk func45 (by kernel_rfl) rfl⟩
structure OfA where
 (i:Nat)(q:GrA)(P:S.PG)
theorem mk_ok{l:List S.OpV}(hl:∀o∈l,o.ok){i:Nat}(hi:i≤l.length){g:S.PG}(h:S.mkN l i=some g):∀o∈g.ops,o.ok:=fun o ho=>by
 obtain⟨h1,h2,h3,h4⟩:=S.mkN_good h;obtain⟨j,hj,rfl⟩:=List.getElem_of_mem ho;obtain⟨k,hk,_,e⟩:=(h4 (S.idAt g.ids j) g.ops[j]).1 ⟨j,by have:=h1.2;omega,rfl,by rw[List.getD_eq_getElem?_getD,List.getElem?_eq_getElem hj];rfl⟩;rw[e,List.getD_eq_getElem?_getD,List.getElem?_eq_getElem (by omega)];exact hl _ (List.getElem_mem _)
theorem dagOf{S0:Nat→Prop}(a:Option Addr)(n c:Nat)(zs:List OpA)(TK:TypeId)(w:World)(K0:Kst w TK)(O:GRow opC 11 S0 w a n zs)(I0:Inns opI S0 w zs)(hok:∀z∈zs,z.o.ok)(hn:n≤100000):
  Calls prog 15 #[.slice a n c] w (Gv w (fun q:GrA=> .tuple #[.agg (grC q).toArray, .int .i64 (S.lstE (zs.map OpA.o))]) (grE 23 34) (GrP (S.lstP (zs.map OpA.o)).m (S.lstP (zs.map OpA.o)).ids (S.lstP (zs.map OpA.o)).ops)):=by
 have hl:=O.len;obtain⟨ops,hops⟩:=ex (zs.map OpA.o);have hol:ops.length=n:=by rw[hops,List.length_map,hl]
 have ook:∀o∈ops,o.ok:=fun o ho=>by
  rw[hops]at ho;obtain⟨z,hz,rfl⟩:=List.mem_map.1 ho;exact hok z hz
 have opR:∀ {i:Nat} {z:OpA},zs[i]? =some z→OpR S0 w z∧ops.getD i S.OpV.zero=z.o:=fun {i z} h=>by
  have hm:=List.mem_of_getElem? h;have h1:=I0 z hm ⟨.u8,32,z.pa,z.o.n,z.pc,z.o.ids⟩ (List.mem_singleton.2 rfl);exact⟨⟨hok z hm,h1.1,h1.2⟩,by rw[hops,List.getD_eq_getElem?_getD,List.getElem?_map,h];rfl⟩
 rw[←hops];have nil:S.lstE ops≠0→GrP (S.lstP ops).m (S.lstP ops).ids (S.lstP ops).ops GrA.nil:=fun h=>by
  rw[S.lstP_no h];exact GrP.nil
 refine J.enter 61 func15 rfl rfl ?_;refine run ?_;refine J.alloc rfl fun b1=>?_
 refine run ?_;refine J.ifd rfl (fun c1=>?_) (fun c1=>?_)
 ·refine run ?_;have he:=S.lstE_4 (l:=ops) (by omega);refine J.nilGr 23 34 ?_;refine J.finG GrA.nil ?_ (nil (by rw[he];decide)) ?_
  ·rw[he];rfl
  unfold grE GrA.nil;repeat(first|exact List.nil_sublist _|refine List.Sublist.cons_cons _ ?_|refine List.Sublist.cons _ ?_)
 have h60:¬60<ops.length:=by omega
 refine run ?_;refine J.loopS (A:=Int) (fun p=>[(21, .int .i64 p)]) [3,5,6,22,23,24,25,26,27,28,29,30,31] (fun p=>(0≤p∧p≤n)∧∀k,k<p.toNat→S.verE (ops.getD k S.OpV.zero)=0) (fun p=>n - p.toNat) 0 (by kernel_rfl) ⟨by omega,fun i hi=>by omega⟩ (fun p j hI=>?_);obtain⟨h1,hI⟩:=hI;refine run ?_;refine J.ifd rfl (fun c2=>?_) (fun c2=>?_)
 ·obtain⟨z,hz⟩:=O.ex (i:=p) (by omega);obtain⟨R,hzo⟩:=opR hz;refine run ?_;refine J.alloc rfl fun b2=>?_
  refine run ?_;refine J.callp rfl rfl (fun w' M=>verifyO z.o R.ok _ _ _ _ (K0.ext M.ext) (R.row.ext M.ext) R.cap) ?_;refine run ?_;refine J.ifn rfl (fun c3=>?_) (fun c3=>?_)
  ·refine run ?_;have hf:=S.verL_first (l:=ops) (i:=p.toNat) (by omega) hI (by rw[hzo];exact c3);rw[hzo]at hf;obtain⟨he,hne⟩:=S.lstE_v h60 (by rw[hf];exact c3);refine J.nilGr 23 34 ?_;refine J.finG GrA.nil ?_ (nil hne) ?_
   ·rw[he,hf];rfl
   unfold grE GrA.nil;repeat(first|exact List.nil_sublist _|refine List.Sublist.cons_cons _ ?_|refine List.Sublist.cons _ ?_)
  refine run ?_;refine J.nextS (p+1) ⟨rfl,trivial⟩ (by kernel_rfl) ⟨by omega,fun i hi=>?_⟩ (by omega);rcases Nat.lt_or_ge i p.toNat with h|h
  ·exact hI i h
  obtain rfl:i=p.toNat:=by omega
  rw[hzo];exact c3
 have hver:S.verL ops=0:=S.verL_all fun k hk=>hI k (by omega);have hv0:∀k,k<ops.length→S.verE (ops.getD k S.OpV.zero)=0:=fun k hk=>hI k (by omega);refine run ?_;refine J.alloc rfl fun b7=>?_
 refine run ?_;refine J.nilGr 23 34 ?_;refine J.front (.blk b7 [.slice none 0 0, .slice none 0 0] 65) ?_;refine J.drop (E:=[.blk b7 [.slice none 0 0, .slice none 0 0] 65, .gown opC 11 34 none 0 0 [], .all [], .wown 23 .u8 32 none 0 0 [], .blk b1 [.slice none 0 0, .slice none 0 0] 65]) sb ?_;refine J.loop (A:=OfA) (fun p=>[(34, .int .i64 (p.i:Nat))]) [3,9,10,11,12,13,35,36,37,38,39,40,41,42,43,44,45,46,47,48,49,50,51,52,53,54] (fun p=>[.blk b7 (grC p.q) 65, .gown opC 11 34 p.q.oa p.q.n p.q.oc p.q.zs, .all (p.q.zs.map (opE 23)), .wown 23 .u8 32 p.q.ia p.q.m p.q.ic p.q.ids, .blk b1 [.slice none 0 0, .slice none 0 0] 65]) (fun p=>p.i≤n∧S.mkN ops p.i=some p.P∧GrP p.P.m p.P.ids p.P.ops p.q) (fun p=>n - p.i) ⟨0,⟨none,none,0,0,0,0,[],[]⟩, .nil⟩ (by kernel_rfl) ⟨Nat.zero_le _,rfl,GrP.nil⟩ (fun p j hI2=>?_);obtain⟨hI1,hI2,hI3⟩:=hI2;have hmk:=S.mkN_good hI2;have hqn:p.q.n=p.q.m:=by have:=hI3.n;have:=hI3.m;have:=hmk.1.2;omega
 have hqm:p.q.m=p.i:=by have:=hI3.m;have:=hmk.2.2.1;omega
 have hqok:=hI3.ok (mk_ok ook (by omega) hI2);refine run ?_;refine J.ifd rfl (fun c4=>?_) (fun c4=>?_)
 ·obtain⟨z,hz⟩:=O.ex (i:=(p.i:Nat)) (by omega);rw[Int.toNat_natCast]at hz;obtain⟨R,hzo⟩:=opR hz;have hchk:=S.verE_check (by have:=hv0 p.i (by omega);rw[hzo]at this;exact this);have hA:=S.sha_arr (S.encS z.o);refine run ?_;refine J.alloc rfl fun b9=>?_
  refine run ?_;refine J.callp rfl rfl (fun w' M=>idO z.o R.ok _ _ _ _ (K0.ext M.ext) (R.row.ext M.ext) R.cap) ?_;rw[if_pos hchk];refine run ?_;refine J.alloc rfl fun b10=>?_
  refine run ?_;by_cases hin:S.inS p.P.m p.P.ids (S.idOf z.o)
  ·refine J.callp rfl rfl (fun w' M=>dagPutIn (S1:=S0) p.q _ z w' (GrR.own hqok hI3.cap (by omega) w' M) hA (by rw[hI3.m,hI3.ids];exact hmk.2.1) (by rw[hI3.m,hI3.ids];exact hin)) ?_;refine run ?_;refine J.alloc rfl fun b12=>?_
   refine run ?_;have he:=S.lstE_14 h60 hver (S.mkN_none (S.mkN_twice hI2 (by rw[hzo];exact hin)) _ (by omega));refine J.nilGr 23 34 ?_;refine J.finG GrA.nil ?_ (nil (by rw[he];decide)) ?_
   ·rw[he];rfl
   unfold grE GrA.nil;repeat(first|exact List.nil_sublist _|refine List.Sublist.cons_cons _ ?_|refine List.Sublist.cons _ ?_)
  refine J.call rfl rfl (fun w' M=>dagPut p.q _ z w' (GrR.own hqok hI3.cap (by omega) w' M) hA (by rw[hI3.m,hI3.ids];exact hmk.2.1) (by rw[hI3.m,hI3.ids];exact hin) (R.ext M.ext) hqn (by omega)) fun q hq=>?_
  dsimp only[grE,List.cons_append,List.nil_append];refine run ?_;refine J.alloc rfl fun b12=>?_
  refine run ?_;have hmore:=S.mkN_more hI2 (by rw[hzo];exact hin);rw[hzo]at hmore;have hq2:GrP (S.putP p.P (S.idOf z.o) z.o).m (S.putP p.P (S.idOf z.o) z.o).ids (S.putP p.P (S.idOf z.o) z.o).ops q:=by
   rw[hI3.m,hI3.ids,hI3.ops]at hq;exact hq
  refine J.front (.wown 23 .u8 32 q.ia q.m q.ic q.ids) ?_;refine J.front (.all (q.zs.map (opE 23))) ?_;refine J.front (.gown opC 11 34 q.oa q.n q.oc q.zs) ?_;refine J.front (.blk b7 (grC q) 65) ?_;exact J.next ⟨p.i+1,q,S.putP p.P (S.idOf z.o) z.o⟩ ⟨rfl,trivial⟩ (by kernel_rfl) ⟨by dsimp only;omega,hmore,hq2⟩ (by dsimp only;omega)
 have hpi:p.i=ops.length:=by omega
 rw[hpi]at hI2;have hs:=S.lstE_s h60 hver hI2;refine run ?_;refine J.callp rfl rfl (fun w' M=>dagShape p.q w' (GrR.own hqok hI3.cap (by omega) w' M) (by omega) (by omega)) ?_;rw[show S.shapeS p.q.m p.q.ids p.q.ops=S.lstE ops by rw[hI3.m,hI3.ids,hI3.ops,hs]];refine run ?_;refine J.ifn rfl (fun c5=>?_) (fun c5=>?_)
 ·refine run ?_;refine J.nilGr 23 34 ?_;refine J.finG GrA.nil rfl (nil c5) ?_;unfold grE GrA.nil;repeat(first|exact List.nil_sublist _|refine List.Sublist.cons_cons _ ?_|refine List.Sublist.cons _ ?_)
 refine run ?_;have hq2:GrP (S.lstP ops).m (S.lstP ops).ids (S.lstP ops).ops p.q:=by rw[S.lstP_yes c5 hI2];exact hI3
 refine J.finG p.q ?_ hq2 ?_
 ·show Value.tuple _=Value.tuple _;rw[c5]
 unfold grE;repeat(first|exact List.nil_sublist _|refine List.Sublist.cons_cons _ ?_|refine List.Sublist.cons _ ?_)
theorem eqIDs{S0 S1:Nat→Prop}(a:Option Addr)(n c:Nat)(xs:List Int)(a2:Option Addr)(n2 c2:Nat)(ys:List Int)(w:World)(D0:WRow .u8 32 S0 w a n xs)(D1:WRow .u8 32 S1 w a2 n2 ys)(hn:n≤1000)(hn2:n2≤1000):
  Calls prog 147 #[.slice a n c, .slice a2 n2 c2] w (Ret w fun v _=>v= .bool (decide (xs=ys))):=by
 have hl0:=D0.len;have hl1:=D1.len;refine J.enter 24 func147 rfl rfl ?_;refine run ?_;refine J.ifn rfl (fun c1=>?_) (fun c1=>?_)
 ·refine run ?_;exact J.fin (congrArg _ (decide_eq_false fun h=>c1 (by have:=congrArg List.length h;omega)).symm)
 obtain rfl:n2=n:=by omega
 refine run ?_;refine J.loopS (A:=Int) (fun p=>[(13, .int .i64 p)]) [4,5,14,15,16,17,18,19,20,21,22,23,24,25] (fun p=>(0≤p∧p≤n2)∧∀i,i<p.toNat→S.idAt xs i=S.idAt ys i) (fun p=>n2 - p.toNat) 0 (by kernel_rfl) ⟨by omega,fun i hi=>by omega⟩ (fun p j hI=>?_);obtain⟨h1,hI⟩:=hI;refine run ?_;refine J.ifd rfl (fun c2=>?_) (fun c2=>?_)
 ·refine run ?_;refine J.regionX [(0, .q),(1, .q),(2, .q),(3, .q),(4, .q),(5, .q),(6, .q),(7, .q),(8, .q)] mixed (by kernel_rfl) ?_;refine run ?_;refine J.ifd rfl (fun c3=>?_) (fun c3=>?_)
  ·refine run ?_;exact J.fin (congrArg _ (decide_eq_false fun h=>c3 (by rw[h])).symm)
  refine run ?_;refine J.nextS (p+1) ⟨rfl,trivial⟩ (by kernel_rfl) ⟨by omega,fun i hi=>?_⟩ (by omega);rcases Nat.lt_or_ge i p.toNat with h|h
  ·exact hI i h
  obtain rfl:i=p.toNat:=by omega
  exact Classical.not_not.1 c3
 refine run ?_;exact J.fin (congrArg _ (decide_eq_true (S.ids_ext hl0 hl1 fun i hi=>hI i (by omega))).symm)
end W
namespace S
open G
theorem chkP_fine{g:PG}(hl:g.ids.length=32*g.m):chkP g=0↔g.fine:=chk_fine hl
theorem getD_at{α:Type}{l:List α}{d:α}{i:Nat}(h:i<l.length):l.getD i d=l[i]:=by rw[List.getD_eq_getElem?_getD,List.getElem?_eq_getElem h];rfl
theorem ord_all{g:PG}{xs:List (List Int)}(h:OrdP g xs){y:List Int}(hy:inS g.m g.ids y):y∈xs:=by
 obtain⟨h1,h2,h3,h4⟩:=h
 have hall := nodup_all (l := xs.map (ixS g.m g.ids)) (N := g.m) (nodup_map_on (fun a ha b hb e => by rw [← (ix_in (h2 a ha)).2, e, (ix_in (h2 b hb)).2]) h1) (fun i hi => by
  obtain ⟨a, ha, rfl⟩ := List.mem_map.1 hi
  exact (ix_in (h2 a ha)).1) (by rw [List.length_map]; exact h3) (ix_in hy).1
 obtain⟨a,ha,e⟩:=List.mem_map.1 hall;have:a=y:=by rw[←(ix_in (h2 a ha)).2,e,(ix_in hy).2]
 exact this▸ha
theorem fine_shape{g:PG}(hg:g.fine):shapeS g.m g.ids g.ops=0:=by
 obtain⟨_,_,_,h4,h5,h6⟩:=chkG_zero.1 ((chk_fine hg.good.1).2 hg);unfold shapeS;rw[if_neg (not_not_intro h4),if_neg (not_not_intro h5),if_pos h6]
theorem nil_fine:PG.nil.fine:=⟨nil_good,Nat.zero_le _,nil_rising,fun x o h=>absurd h (nil_has x o),fun x o h=>absurd h (nil_has x o),[],List.nodup_nil,fun x h=>(by cases h),Nat.le_refl _,fun i h=>absurd h (Nat.not_lt_zero _)⟩
/-! lists -/
theorem mkN_nodup{l:List OpV}(h:(l.map idOf).Nodup):∀i,i≤l.length→∃g,mkN l i=some g
 |0,_=>⟨.nil,rfl⟩
 |i+1,hi=>by
  obtain⟨g,hg⟩:=mkN_nodup h i (by omega);have hn:¬inS g.m g.ids (idOf (l.getD i OpV.zero)):=fun hin=>by
   obtain⟨o,ho⟩:=has_in.1 hin;obtain⟨k,hk,e,_⟩:=((mkN_good hg).2.2.2 _ _).1 ho;have h1:i<l.length:=by omega
   have h2:k<l.length:=by omega
   have hp:=List.pairwise_iff_getElem.1 h k i (by rw[List.length_map];exact h2) (by rw[List.length_map];exact h1) hk;apply hp;rw[List.getElem_map,List.getElem_map,←getD_at (d:=OpV.zero) h1,←getD_at (d:=OpV.zero) h2];exact e.symm
  exact⟨_,mkN_more hg hn⟩
theorem fine_idOf{g:PG}(hg:g.fine){i:Nat}(hi:i<g.m):idOf (g.ops.getD i OpV.zero)=idAt g.ids i:=(hg.own _ _ ⟨i,hi,rfl,rfl⟩).2
theorem fine_map{g:PG}(hg:g.fine):g.ops.map idOf=idsP g:=by
 apply List.ext_getElem
 ·rw[List.length_map,hg.good.2];simp[idsP]
 ·intro i h1 h2;rw[List.length_map]at h1;have hi:i<g.m:=by rw[←hg.good.2];exact h1
  have e:=fine_idOf hg hi;rw[getD_at h1]at e;rw[List.getElem_map];refine e.trans ?_;simp[idsP]
theorem idsP_nodup{g:PG}(hr:Rising g.m g.ids):(idsP g).Nodup:=(idsP_sorted hr).imp fun {a b} h e=>by subst e;rw[cmpS_self]at h;exact absurd h (by decide)
theorem lst_perm{g:PG}(hg:g.fine){l:List OpV}(hp:l.Perm g.ops):lstE l=0∧lstP l=g:=by
 have hlen:l.length=g.m:=hp.length_eq.trans hg.good.2;have hn:(l.map idOf).Nodup:=by
  have h1:(l.map idOf).Perm (g.ops.map idOf):=hp.map _;rw[fine_map hg]at h1;exact h1.nodup_iff.2 (idsP_nodup hg.rising)
 obtain⟨q,hq⟩:=mkN_nodup hn l.length (Nat.le_refl _);obtain⟨q1,q2,q3,q4⟩:=mkN_good hq;have e:q=g:=PG.ext_has q1 hg.good q2 hg.rising fun x o=>by
  rw[q4];constructor
  ·rintro⟨k,hk,rfl,rfl⟩;have hm:l.getD k OpV.zero∈g.ops:=hp.mem_iff.1 (by rw[getD_at hk];exact List.getElem_mem hk);obtain⟨i,hi,ei⟩:=List.getElem_of_mem hm;rw[←getD_at (d:=OpV.zero) hi]at ei;have him:i<g.m:=by rw[←hg.good.2];exact hi
   exact⟨i,him,by rw[←fine_idOf hg him,ei],ei⟩
  ·rintro⟨i,hi,rfl,rfl⟩;have h2:i<g.ops.length:=by rw[hg.good.2];exact hi
   have hm:g.ops.getD i OpV.zero∈l:=hp.mem_iff.2 (by rw[getD_at h2];exact List.getElem_mem h2);obtain⟨k,hk,ek⟩:=List.getElem_of_mem hm;rw[←getD_at (d:=OpV.zero) hk]at ek;exact⟨k,hk,by rw[ek,fine_idOf hg hi],ek.symm⟩
 have hv:verL l=0:=verL_zero.2 fun o ho=>by
  obtain⟨i,hi,ei⟩:=List.getElem_of_mem (hp.mem_iff.1 ho);rw[←getD_at (d:=OpV.zero) hi]at ei;have:=(hg.own _ _ ⟨i,by rw[←hg.good.2];exact hi,rfl,rfl⟩).1;rwa[ei]at this
 have h60:¬60<l.length:=by have:=hg.le;omega
 have hs:=lstE_s h60 hv hq;rw[e,fine_shape hg]at hs;exact⟨hs,by rw[lstP_yes hs hq,e]⟩
/-! one by one -/
structure PartG(g:PG)(l:List Nat)(i:Nat)(q:PG):Prop where
 fine:q.fine
 m:q.m=i
 has:∀x o,q.has x o↔∃k,k<i∧x=idAt g.ids (l.getD k 0)∧o=g.ops.getD (l.getD k 0) OpV.zero
theorem part_zero(g:PG)(l:List Nat):PartG g l 0 .nil:=⟨nil_fine,rfl,fun x o=>⟨fun h=>absurd h (nil_has x o),fun⟨k,hk,_⟩=>absurd hk (Nat.not_lt_zero _)⟩⟩
theorem mem_take_getD{l:List Nat}{k i:Nat}(h:k<i)(hi:i≤l.length):l.getD k 0∈l.take i:=by
 have hk:k<l.length:=by omega
 rw[getD_at hk];exact List.mem_take_iff_getElem.2 ⟨k,by omega,rfl⟩
theorem take_getD_ex{l:List Nat}{i p:Nat}(h:p∈l.take i)(hi:i≤l.length):∃k,k<i∧l.getD k 0=p:=by
 obtain⟨k,hk,e⟩:=List.mem_take_iff_getElem.1 h;have hk':k<l.length:=by omega
 exact⟨k,by omega,by rw[getD_at hk',e]⟩
theorem part_add{g q:PG}(hg:g.fine){l:List Nat}(hn:l.Nodup)(hb:∀x∈l,x<g.m)(hs:Seqd (prS g.m g.ids g.ops) l){i:Nat}(h:PartG g l i q)(hi:i<l.length):
  addE q (g.ops.getD (l.getD i 0) OpV.zero)=0∧addI q (g.ops.getD (l.getD i 0) OpV.zero)=idAt g.ids (l.getD i 0)∧PartG g l (i+1) (addP q (g.ops.getD (l.getD i 0) OpV.zero)):=by
 have ha:l.getD i 0<g.m:=hb _ (getD_mem hi);have hid:=fine_idOf hg ha;have hown:ownS (g.ops.getD (l.getD i 0) OpV.zero) (idAt g.ids (l.getD i 0)):=hg.own _ _ ⟨_,ha,rfl,rfl⟩;have hm:q.m<60:=by
  have h1:=nodup_len hn (m:=List.range g.m) fun x hx=>List.mem_range.2 (hb x hx);rw[List.length_range]at h1;have:=hg.le;have:=h.m;omega
 have hnot:¬inS q.m q.ids (idOf (g.ops.getD (l.getD i 0) OpV.zero)):=fun hin=>by
  rw[hid]at hin;obtain⟨o,ho⟩:=has_in.1 hin;obtain⟨k,hk,e,_⟩:=(h.has _ _).1 ho;have e2:=rising_inj hg.rising ha (hb _ (getD_mem (by omega))) e;have:=mem_take_getD (l:=l) hk (by omega);rw[←e2]at this;exact getD_notin hn hi this
 have hall:allI q.m q.ids (g.ops.getD (l.getD i 0) OpV.zero).n (g.ops.getD (l.getD i 0) OpV.zero).ids:=fun j hj=>by
  have h1:=hg.opens _ _ ⟨_,ha,rfl,rfl⟩ j hj;have h2:=hs i hi (ixS g.m g.ids (idAt (g.ops.getD (l.getD i 0) OpV.zero).ids j)) (by unfold prS;exact List.mem_map.2 ⟨j,List.mem_range.2 hj,rfl⟩);obtain⟨k,hk,e⟩:=take_getD_ex h2 (by omega);exact has_in.2 ⟨_,(h.has _ _).2 ⟨k,hk,by rw[e,(ix_in h1).2],rfl⟩⟩
 have he:=addE_0 (g:=q) ((chk_fine h.fine.good.1).2 h.fine) hown.1 hnot hall (by omega);obtain⟨e1,e2⟩:=addP_yes he;refine⟨he,by rw[e2,hid],?_⟩;rw[e1];refine⟨fine_put h.fine ⟨hown.1,rfl⟩ (idOf_len _) hnot hall hm,by show q.m+1=_;rw[h.m],fun x o=>?_⟩;rw[putP_has h.fine.good (idOf_len _),h.has,hid];constructor
 ·rintro(⟨k,hk,e⟩|e)
  ·exact⟨k,by omega,e⟩
  ·exact⟨i,Nat.lt_succ_self _,e⟩
 ·rintro⟨k,hk,e⟩;rcases Nat.lt_or_ge k i with a|a
  ·exact .inl ⟨k,a,e⟩
  ·obtain rfl:k=i:=by omega
   exact .inr e
theorem part_all{g q:PG}(hg:g.fine){l:List Nat}(hn:l.Nodup)(hb:∀x∈l,x<g.m)(hl:g.m≤l.length)(h:PartG g l l.length q):q=g:=PG.ext_has h.fine.good hg.good h.fine.rising hg.rising fun x o=>by
 rw[h.has];constructor
 ·rintro⟨k,hk,rfl,rfl⟩;exact⟨_,hb _ (getD_mem hk),rfl,rfl⟩
 ·rintro⟨i,hi,rfl,rfl⟩;have h1:=nodup_all hn hb hl hi;obtain⟨k,hk,e⟩:=List.getElem_of_mem h1;rw[←getD_at (d:=0) hk]at e;exact⟨k,hk,by rw[e],by rw[e]⟩
/-! what is added -/
theorem add_fine{g:PG}{o:OpV}(hl:g.ids.length=32*g.m)(h:addE g o=0):g.fine∧¬inS g.m g.ids (idOf o)∧(addP g o).fine∧(addP g o).m=g.m+1∧addI g o=idOf o∧∀y u,(addP g o).has y u↔g.has y u∨(y=idOf o∧u=o):=by
 obtain⟨h1,h2,h3,h4,h5⟩:=addE_zero.1 h;have hg:=(chk_fine hl).1 h1;obtain⟨e1,e2⟩:=addP_yes h;have:=hg.le;refine⟨hg,h3,?_,?_,e2,?_⟩
 ·rw[e1];exact fine_put hg ⟨h2,rfl⟩ (idOf_len _) h3 h4 (by omega)
 ·rw[e1];rfl
 ·rw[e1];exact putP_has hg.good (idOf_len _) o
theorem order_full{g:PG}(hg:g.fine){l:List Nat}(hn:l.Nodup)(hb:∀x∈l,x<g.m)(hs:Seqd (prS g.m g.ids g.ops) l)(hc:Clsd (prS g.m g.ids g.ops) g.m l):l.length=g.m:=by
 obtain⟨_,_,_,h4,h5,h6⟩:=chkG_zero.1 ((chk_fine hg.good.1).2 hg);rw[hg.good.2]at h6;have h1:=(found_iff hn hb hs hc).1 h6;have h2:=nodup_len hn (m:=List.range g.m) fun x hx=>List.mem_range.2 (hb x hx);rw[List.length_range]at h2;omega
/-! unions -/
/-! comparisons -/
end S
namespace W
open Go.RowKit G
set_option maxRecDepth 20000
set_option maxHeartbeats 8000000
attribute [local irreducible] RS RX RY Code.wp bodyPost J Ent.blk Ent.iown Ent.wrow Ent.wown Ent.gown Ent.all Ent.emp
instance:Ents prog 39:=⟨.mk func39 (by kernel_rfl) rfl⟩
theorem wrow_grow{S0:Nat→Prop}{w:World}{a:Option Addr}{n:Nat}{xs:List Int}{l:List IdV}(he:flatI l=xs)(hn:l.length=n)(h:WRow .u8 32 S0 w a n xs):GRow idC 32 S0 w a n l:=⟨by rw[flatI_cells,he];exact h.row,hn,idC_len⟩
theorem insO_map(zs:List OpA)(p:Nat)(z:OpA):(zs.take p++z::zs.drop p).map OpA.o=S.insO (zs.map OpA.o) p z.o:=by
 unfold S.insO;rw[List.map_append,List.map_cons,List.map_take,List.map_drop]
theorem refLarge{S0:Nat→Prop}(a:Option Addr)(n c:Nat)(zs:List OpA)(w:World)(G:GrI S0 w ⟨none,a,0,n,0,c,[],zs⟩):
  Calls prog 13 #[.slice a n c] w (Gv w (fun q:Bool=> .bool q) (fun _=>[]) fun q=>q=false→GrSm ⟨none,a,0,n,0,c,[],zs⟩):=by
 refine J.enter 5 func13 rfl rfl ?_;refine run ?_;refine J.call rfl rfl (fun w' M=>refGreat ⟨none,a,0,n,0,c,[],zs⟩ w' (G.ext M.ext)) fun q hq=>?_
 refine run ?_;exact J.finG q rfl hq (List.nil_sublist _)
theorem GrP.sz{P:S.PG}{q:GrA}(h:GrP P.m P.ids P.ops q)(hs:P.good∧P.m≤60):q.m≤70∧q.n≤70:=by
 have:=h.m;have:=h.n;have:=hs.1.2;omega
theorem GrP.P{P:S.PG}{q:GrA}(h:GrP P.m P.ids P.ops q):q.P=P:=by
 unfold GrA.P;rw[h.m,h.ids,h.ops]
theorem nil_size:S.PG.nil.good∧S.PG.nil.m≤60:=⟨S.nil_good,Nat.zero_le _⟩
theorem lst_made{l:List S.OpV}(h:S.lstE l=0):l.length≤60∧∃g,S.mkN l l.length=some g∧S.lstP l=g:=by
 have h60:¬60<l.length:=fun c=>by rw[S.lstE_4 c]at h;exact absurd h (by decide)
 have hv:S.verL l=0:=Classical.byContradiction fun c=>(S.lstE_v h60 c).2 h;cases hm:S.mkN l l.length with
 |none=>rw[S.lstE_14 h60 hv hm]at h;exact absurd h (by decide)
 |some g=>exact⟨by omega,g,rfl,S.lstP_yes h hm⟩
theorem lst_ok{l:List S.OpV}(hl:∀o∈l,o.ok):∀u∈(S.lstP l).ops,u.ok:=by
 by_cases h:S.lstE l=0
 ·obtain⟨_,g,h2,h3⟩:=lst_made h;rw[h3];exact mk_ok hl (Nat.le_refl _) h2
 rw[S.lstP_no h];exact fun u hu=>(by cases hu)
theorem lst_size(l:List S.OpV):(S.lstP l).good∧(S.lstP l).m≤60:=by
 by_cases h:S.lstE l=0
 ·obtain⟨h1,g,h2,h3⟩:=lst_made h;rw[h3];have:=S.mkN_good h2;exact⟨this.1,by rw[this.2.2.1];exact h1⟩
 rw[S.lstP_no h];exact nil_size
end W
namespace S
open G
theorem idAt_app{a b:List Int}{n:Nat}(ha:a.length=32*n)(i:Nat):idAt (a++b) i=if i<n then idAt a i else idAt b (i - n):=by
 unfold idAt;split
 ·rw[List.drop_append_of_le_length (by omega),List.take_append_of_le_length (by rw[List.length_drop];omega)]
 ·rw[List.drop_append,List.drop_of_length_le (by omega),List.nil_append,ha,show 32*i - 32*n=32*(i - n)by omega]
theorem inS_app{a b x:List Int}{n m:Nat}(ha:a.length=32*n):inS (n+m) (a++b) x↔inS n a x∨inS m b x:=by
 constructor
 ·rintro⟨i,hi,e⟩;rw[idAt_app ha]at e;split at e
  ·exact .inl ⟨i,by assumption,e⟩
  ·exact .inr ⟨i - n,by omega,e⟩
 ·rintro(⟨i,hi,e⟩|⟨i,hi,e⟩)
  ·exact⟨i,by omega,by rw[idAt_app ha,if_pos hi];exact e⟩
  ·exact⟨n+i,by omega,by rw[idAt_app ha,if_neg (by omega),show n+i - n=i by omega];exact e⟩
theorem inS_zero{a x:List Int}:¬inS 0 a x:=fun⟨i,hi,_⟩=>by omega
def namI(P:Nat→List Nat)(k:Nat):List Nat:=(List.range k).flatMap P
theorem namI_snoc(P:Nat→List Nat)(k:Nat):namI P (k+1)=namI P k++P k:=by unfold namI;rw[List.range_succ,List.flatMap_append];simp
theorem mem_pr{m:Nat}{ids:List Int}{ops:List OpV}(hr:Rising m ids){k i:Nat}(ho:allI m ids (ops.getD k OpV.zero).n (ops.getD k OpV.zero).ids)(hi:i<m):i∈prS m ids ops k↔inS (ops.getD k OpV.zero).n (ops.getD k OpV.zero).ids (idAt ids i):=by
 unfold prS;rw[List.mem_map];constructor
 ·rintro⟨j,hj,e⟩;refine⟨j,List.mem_range.1 hj,?_⟩;rw[←e];exact(ix_in (ho j (List.mem_range.1 hj))).2.symm
 ·rintro⟨j,hj,e⟩;exact⟨j,List.mem_range.2 hj,by rw[e];exact ix_eq hr hi⟩
def selF(f:Nat→Bool)(ids:List Int):Nat→List Int
 |0=>[]
 |n+1=>selF f ids n++(if f n then idAt ids n else [])
def numF(f:Nat→Bool):Nat→Nat
 |0=>0
 |n+1=>numF f n+(if f n then 1 else 0)
theorem numF_le(f:Nat→Bool):∀n,numF f n≤n
 |0=>Nat.le_refl _
 |n+1=>by
  have:=numF_le f n;unfold numF;split<;>omega
theorem selF_congr{f g:Nat→Bool}{ids:List Int}:∀ {n:Nat},(∀i,i<n→f i=g i)→selF f ids n=selF g ids n
 |0,_=>rfl
 |n+1,h=>by unfold selF;rw[selF_congr fun i hi=>h i (by omega),h n (by omega)]
theorem numF_congr{f g:Nat→Bool}:∀ {n:Nat},(∀i,i<n→f i=g i)→numF f n=numF g n
 |0,_=>rfl
 |n+1,h=>by unfold numF;rw[numF_congr fun i hi=>h i (by omega),h n (by omega)]
def hdS(n:Nat)(rd:List Nat):List Bool:=(List.range n).map fun i=>decide (i∉rd)
theorem hdS_first(n:Nat):hdS n []=List.replicate n true:=by
 unfold hdS;apply List.ext_getElem
 ·simp
 ·intro i h1 h2;simp
theorem hdS_len(n:Nat)(rd:List Nat):(hdS n rd).length=n:=by simp[hdS]
theorem hdS_get{n i:Nat}(rd:List Nat)(h:i<n):(hdS n rd)[i]? =some (decide (i∉rd)):=by
 unfold hdS;rw[List.getElem?_map,List.getElem?_range h];rfl
theorem hdS_set{n i:Nat}(rd:List Nat)(h:i<n):(hdS n rd).set i false=hdS n (rd++[i]):=by
 apply List.ext_getElem?;intro j;rw[List.getElem?_set];by_cases hj:j<n
 ·rw[hdS_get (rd++[i]) hj,hdS_get rd hj];by_cases e:i=j
  ·subst e;rw[if_pos rfl,hdS_len,if_pos h];congr 1;exact(decide_eq_false (by simp)).symm
  ·rw[if_neg e];congr 1;rw[decide_eq_decide];simp[Ne.symm e]
 ·rw[if_neg (by omega),List.getElem?_eq_none (by rw[hdS_len];omega),List.getElem?_eq_none (by rw[hdS_len];omega)]
def hdF(m:Nat)(ids:List Int)(ops:List OpV)(i:Nat):Bool:=decide (i∉namI (prS m ids ops) ops.length)
def hdI(g:PG):List Int:=selF (hdF g.m g.ids g.ops) g.ids g.m
def hdN(g:PG):Nat:=numF (hdF g.m g.ids g.ops) g.m
def srtS(ids:List Int):Nat→Nat×List Int
 |0=>(0,[])
 |k+1=>if spotS (srtS ids k).1 (srtS ids k).2 (idAt ids k)<(srtS ids k).1∧idAt (srtS ids k).2 (spotS (srtS ids k).1 (srtS ids k).2 (idAt ids k))=idAt ids k then srtS ids k
  else((srtS ids k).1+1,insW (srtS ids k).2 (spotS (srtS ids k).1 (srtS ids k).2 (idAt ids k)) (idAt ids k))
theorem srtS_same{ids:List Int}{k:Nat}(h:spotS (srtS ids k).1 (srtS ids k).2 (idAt ids k)<(srtS ids k).1∧idAt (srtS ids k).2 (spotS (srtS ids k).1 (srtS ids k).2 (idAt ids k))=idAt ids k):srtS ids (k+1)=srtS ids k:=by
 rw[srtS,if_pos h]
theorem srtS_more{ids:List Int}{k:Nat}(h:¬(spotS (srtS ids k).1 (srtS ids k).2 (idAt ids k)<(srtS ids k).1∧idAt (srtS ids k).2 (spotS (srtS ids k).1 (srtS ids k).2 (idAt ids k))=idAt ids k)):srtS ids (k+1)=((srtS ids k).1+1,insW (srtS ids k).2 (spotS (srtS ids k).1 (srtS ids k).2 (idAt ids k)) (idAt ids k)):=by
 rw[srtS,if_neg h]
def selO(f:Nat→Bool)(ops:List OpV):Nat→List OpV
 |0=>[]
 |n+1=>selO f ops n++(if f n then [ops.getD n OpV.zero]else [])
theorem selO_len(f:Nat→Bool)(ops:List OpV):∀n,(selO f ops n).length=numF f n
 |0=>rfl
 |n+1=>by
  rw[selO,numF,List.length_append,selO_len f ops n];split<;>rfl
def parF(g:PG)(n:Nat)(l:List Int)(i:Nat):Bool:=decide (inS n l (idAt g.ids i))
def parS(g:PG)(n:Nat)(l:List Int):PG:=⟨numF (parF g n l) g.m,selF (parF g n l) g.ids g.m,selO (parF g n l) g.ops g.m⟩
end S
namespace W
open Go.RowKit G
theorem sep2{e1 e2:Ent}{S1 S2:Nat→Prop}{w:World}(hd:∀b,S1 b→S2 b→False)(h1:e1.ok S1 w)(h2:e2.ok S2 w):Sep [e1,e2] (fun b=>S1 b∨S2 b) w:=Sep.app (sep1 h1) (sep1 h2) (fun _ h=> .inl h) (fun _ h=> .inr h) hd
section
variable{S0:Nat→Prop}{w0:World}{L:List Ent}{X:World→Prop}
theorem J.pair{F1 F2:Ent→List Ent}(e1 e2:Ent)[R:RE L e1 F1][R2:RE (F1 .emp) e2 F2](k:J S0 w0 (F2 (.all [e1,e2])) X):J S0 w0 L X:=
 J.merge e1 e2 (.all [e1,e2]) (fun _ _ _ hd h1 h2=>all_i (sep2 hd h1 h2)) k
end
section
end
def mpK:List IdV→Nat→List (Value×Value)
 |[],_=>[]
 |x::l,i=>(.agg (idC x).toArray, .int .i64 (i:Nat))::mpK l (i+1)
theorem mpK_snoc(x:IdV):∀(l:List IdV) (i:Nat),mpK (l++[x]) i=mpK l i++[(.agg (idC x).toArray, .int .i64 ((i+l.length:Nat):Int))]
 |[],i=>by simp[mpK]
 |y::l,i=>by
  rw[List.cons_append,mpK,mpK_snoc x l,mpK,List.cons_append,List.length_cons,show i+1+l.length=i+(l.length+1)by omega]
def Mpi(w:World)(b:Nat)(l:List IdV):Prop:=∃es clock,w.heap[b]? =some (.map es clock)∧es.toList.map (fun e=>(e.key,e.val))=mpK l 0
def mpiE(b:Nat)(l:List IdV):Ent:=
 ⟨fun S w => S b ∧ Mpi w b l, fun ⟨h1, es, c, h2, h3⟩ k => ⟨h1, es, c, by
  have hl : b < _ := (Array.getElem?_eq_some_iff.1 h2).1
  rw [k b h1 hl]; exact h2, h3⟩, fun ⟨h1, es, c, h2, h3⟩ k => ⟨k b (Array.getElem?_eq_some_iff.1 h2).1 h1, es, c, h2, h3⟩⟩
section
variable{P:Program}{w:World}{k e el t n b:Nat}
theorem plain_u8(he:P.underlying e=some (.int .u8)):P.plainKey e=true:=by unfold Program.plainKey;rw[he]
theorem run_ckArr{xs:List Int}(hu:P.underlying k=some (.array n e))(he:P.underlying e=some (.int .u8))(hs:P.cellsOf e=1)(hl:xs.length=n)(em:Bool)(d:Nat):(Instr.checkKey em (d+2) k (.agg (ints .u8 xs).toArray)).run P w= .ok () w:=by
 have hsz:=size_run (P:=P) (w:=w) hs (by decide);rw[show d+2=(d+1)+1 from rfl,Instr.checkKey];simp only[Sem.run_bind,run_underlying hu,Result.andThen_ok];simp only[Std.Legacy.Range.forIn_eq_forIn_range',Std.Legacy.Range.size,Nat.sub_zero,Nat.add_one_sub_one,Nat.div_one];have each:∀j∈List.range' 0 n,j<n:=fun j hj=>by
  have:=List.mem_range'.1 hj;omega
 generalize List.range' 0 n=is at each
 induction is with
 |nil=>simp
 |cons j is ih=>
  have hj:j<n:=each j (by simp);have hc:(ints .u8 xs).toArray[j*1]? =some (.int .u8 (xs[j]'(by omega))):=by simp[ints,hj,hl]
  have p1:=run_part_plain (P:=P) w (plain_u8 he) hc;have p2:(Instr.checkKey em (d+1) e (.int .u8 (xs[j]'(by omega)))).run P w= .ok () w:=by simp[Instr.checkKey,run_underlying he]
  simp only[List.forIn_cons,Sem.run_bind,hsz,Result.andThen_ok,p1,p2,Sem.run_pure];exact ih (fun y hy=>each y (by simp[hy]))
theorem run_eqId{x y:IdV}(hu:P.underlying k=some (.array 32 e))(he:P.underlying e=some (.int .u8))(hs:P.cellsOf e=1):(Op.equal k (.agg (idC x).toArray) (.agg (idC y).toArray)).run P w= .ok (decide (x.xs=y.xs)) w:=by
 have h:=(eq_run (P:=P) 9991 9 k (ints .u8 x.xs) (ints .u8 y.xs) (.array 32 e) w (fits_arr 7 hu he hs x.h (by decide)) (fits_arr 7 hu he hs y.h (by decide)) hu).2;rw[eqC_ints]at h;exact h
theorem run_find{x:IdV}(hu:P.underlying k=some (.array 32 e))(he:P.underlying e=some (.int .u8))(hs:P.cellsOf e=1):
  ∀(l:List IdV) (s i:Nat) (L:List MapEntry),L.map (fun e=>(e.key,e.val))=mpK l s→(Instr.findAsking k (.agg (idC x).toArray) L i).run P w= .ok ((l.findIdx? fun y=>decide (x.xs=y.xs)).map fun j=>(i+j, .int .i64 ((s+j:Nat):Int))) w
 |[],s,i,L,h=>by
  obtain rfl:L=[]:=by cases L with
   |nil=>rfl
   |cons a L=>simp[mpK]at h
  simp[Instr.findAsking]
 |y::l,s,i,L,h=>by
  cases L with
  |nil=>simp[mpK]at h
  |cons a L=>
   rw[List.map_cons,mpK,List.cons.injEq]at h;obtain⟨h1,h2⟩:=h;rw[Prod.mk.injEq]at h1;obtain⟨hk,hv⟩:=h1;have ih:=run_find (x:=x) hu he hs l (s+1) (i+1) L h2;have hq:=run_eqId (P:=P) (w:=w) (x:=x) (y:=y) hu he hs;rw[List.findIdx?_cons];unfold Instr.findAsking;simp only[Sem.run_bind,hk,hq,Result.andThen_ok];by_cases hxy:x.xs=y.xs
   ·simp[hxy,hv]
   ·rw[decide_eq_false hxy];simp only[Bool.false_eq_true,if_false,ih,Option.map_map];congr 2;funext j;simp only[Function.comp];rw[show i+1+j=i+(j+1)by omega,show s+1+j=s+(j+1)by omega]
theorem run_findKey'{x:IdV}{l:List IdV}{L:List MapEntry}(hu:P.underlying k=some (.array 32 e))(he:P.underlying e=some (.int .u8))(hs:P.cellsOf e=1)(h:L.map (fun e=>(e.key,e.val))=mpK l 0):
  (Instr.findKey k (.agg (idC x).toArray) L).run P w= .ok ((l.findIdx? fun y=>decide (x.xs=y.xs)).map fun j=>(j, .int .i64 (j:Nat))) w:=by
 rw[run_findKey_eq w (by rw[hu]),run_find hu he hs l 0 0 L h];simp
theorem run_lookI{x:IdV}{l:List IdV}{i:Nat}(ht:P.underlying t=some (.map k el))(hu:P.underlying k=some (.array 32 e))(he:P.underlying e=some (.int .u8))(hs:P.cellsOf e=1)(hm:Mpi w b l)(hx:l.findIdx? (fun y=>decide (x.xs=y.xs))=some i):
  (Instr.lookup t (.map (some b)) (.agg (idC x).toArray) false).run P w= .ok (.int .i64 (i:Nat)) w:=by
 obtain⟨es,c,h1,h2⟩:=hm;have hf:=run_findKey' (P:=P) (w:=w) (x:=x) hu he hs h2;rw[hx]at hf;have hck:=run_ckArr (P:=P) (w:=w) hu he hs x.h es.isEmpty 9998;simp[Instr.lookup,run_underlying ht,MapKept.run_getObj_map h1,hck,hf,Result.andThen]
theorem run_putI{x:IdV}{l:List IdV}(ht:P.underlying t=some (.map k el))(hu:P.underlying k=some (.array 32 e))(he:P.underlying e=some (.int .u8))(hs:P.cellsOf e=1)(hm:Mpi w b l)(hx:∀y∈l,x.xs≠y.xs):
  ∃w',(Instr.mapUpdate t (.map (some b)) (.agg (idC x).toArray) (.int .i64 (l.length:Nat))).run P w= .ok () w'∧St b w w'∧Mpi w' b (l++[x]):=by
 obtain⟨es,c,h1,h2⟩:=hm;have hf:=run_findKey' (P:=P) (w:=w) (x:=x) hu he hs h2;rw[List.findIdx?_eq_none_iff.2 (fun y hy=>decide_eq_false (hx y hy))]at hf;have hck:=run_ckArr (P:=P) (w:=w) hu he hs x.h false 9998;have hb:=(Array.getElem?_eq_some_iff.1 h1).1;refine⟨{w with heap:=w.heap.setIfInBounds b (.map (es.push {key:= .agg (idC x).toArray,val:= .int .i64 (l.length:Nat),born:=c}) (c+1))},?_,⟨rfl,rfl,rfl,by simp,fun q hq=>?_⟩,es.push {key:= .agg (idC x).toArray,val:= .int .i64 (l.length:Nat),born:=c},c+1,?_,?_⟩
 ·simp[Instr.mapUpdate,run_underlying ht,MapKept.run_getObj_map h1,hck,hf,MapKept.run_setObj_map _ h1,Result.andThen]
 ·simp[Ne.symm hq]
 ·simp[hb]
 ·rw[Array.toList_push,List.map_append,h2,mpK_snoc];simp
end
section
variable{S0:Nat→Prop}{w0:World}{L:List Ent}{P:Program}{ops:Array Oper}{K:List Value→World→Prop}{rest:List (Oper×Kd)}{l:List Value}{m:Md}{d:Tmp}{ty:TypeId}{pos:String}{af:Array Edge}{kd:Kd}{t k e el:TypeId}{x y z:Operand}
theorem J.mkM{l':Nat→List Value}{i:Int}[U:Und P t (.map k el)](hk:okE m kd=true)(hx:ev l x= .int .i64 i)(kk:∀b,J S0 w0 (mpiE b []::L) (RY S0 w0 m P ops K rest (l' b)))(hl:∀b,l.set d (.map (some b))=l' b:=by intro b;dsimp only[List.set]):
  J S0 w0 L (RY S0 w0 m P ops K ((⟨some d, .makeMap t (some x),ty,pos,af,none⟩,kd)::rest) l):=
 J.eff hk fun w M K' hK=>by
  have hr:(execOp (ev l) ⟨some d, .makeMap t (some x),ty,pos,af,none⟩).run P w= .ok (.value (.map (some w.heap.size))) (w.alloc (.map #[] 0)):=by
   simp[execOp,hx,Instr.makeMap,run_underlying U.h,asInt,asIntOf,Result.andThen]
  have hx1:Ext w (w.alloc (.map #[] 0)):=(Below.refl _ _).alloc (Nat.le_refl _) (.map #[] 0);refine RS.o hr (RS.nil (hK _ _ hx1 ?_)) rfl;rw[hl];exact kk _ _ (M.new hx1 ⟨Nat.le_refl _, #[],0,(MapKept.heap_alloc w _).1,rfl⟩)
theorem J.putM{F:Ent→List Ent}{b:Nat}{lst:List IdV}{q:IdV}[U:Und P t (.map k el)][U2:Und P k (.array 32 e)][U3:Und P e (.int .u8)][Z:Siz P e 1](hx:ev l x= .map (some b))(hy:ev l y= .agg (idC q).toArray)(hz:ev l z= .int .i64 (lst.length:Nat))[R:RE L (mpiE b lst) F](hn:∀u∈lst,q.xs≠u.xs)
  (kk:J S0 w0 (F (mpiE b (lst++[q]))) (RY S0 w0 m P ops K rest l))(hk:okG m kd (F (mpiE b (lst++[q]))):=by first|exact trivial|(repeat(first|exact List.Sublist.refl _|refine List.Sublist.cons_cons _ ?_|refine List.Sublist.cons _ ?_))):
  J S0 w0 L (RY S0 w0 m P ops K ((⟨none, .mapUpdate t x y z,ty,pos,af,none⟩,kd)::rest) l):=
 J.big hk fun w M K' hK=>by
  obtain⟨S,h1,h2,h3⟩:=M.foc (R.h (mpiE b (lst++[q])));obtain⟨w1,hr,x1,hm⟩:=run_putI (P:=P) (w:=w) (x:=q) U.h U2.h U3.h Z.h h2.2 hn;have M':Mem S0 w0 (F (mpiE b (lst++[q]))) w1:=h3 w1 S ⟨x1.os,x1.tape,x1.output,by rw[x1.size];exact Nat.le_refl _,fun p _ hp=>x1.block p fun e=>hp (e▸h2.1)⟩ ⟨h2.1,hm⟩ fun _ hb=> .inl hb;exact RS.u rfl rfl (by simp only[execOp];rw[hx,hy,hz];simp[hr]) (RS.nil (hK _ w1 M' (kk w1 M')))
theorem J.lookM{F:Ent→List Ent}{l':List Value}{b i:Nat}{lst:List IdV}{q:IdV}[U:Und P t (.map k el)][U2:Und P k (.array 32 e)][U3:Und P e (.int .u8)][Z:Siz P e 1](hx:ev l x= .map (some b))(hy:ev l y= .agg (idC q).toArray)[R:RE (Lv m L) (mpiE b lst) F](hi:lst.findIdx? (fun u=>decide (q.xs=u.xs))=some i)
  (kk:J S0 w0 L (RY S0 w0 m P ops K rest l'))(hl:l.set d (.int .i64 (i:Nat))=l':=by dsimp only[List.set]):
  J S0 w0 L (RY S0 w0 m P ops K ((⟨some d, .lookup t x y false,ty,pos,af,none⟩, .q)::rest) l):=
 J.val (fun w M => by
  obtain ⟨S, _, h2⟩ := M.get (R.h (mpiE b lst)).same
  have hr := run_lookI (P := P) (w := w) (x := q) U.h U2.h U3.h Z.h h2.2 hi
  simp [execOp, hx, hy, hr, Result.andThen]) kk hl
end
end W
namespace W
open Go.RowKit G
set_option maxRecDepth 20000
set_option maxHeartbeats 8000000
attribute [local irreducible] RS RX RY Code.wp bodyPost J Ent.blk Ent.iown Ent.wrow Ent.wown Ent.gown Ent.all Ent.emp
instance:Und prog 110 (.map 23 3):=⟨underlying110⟩
instance:Und prog 112 (.slice 4):=⟨underlying112⟩
instance:Siz prog 4 1:=⟨by kernel_rfl⟩
instance:Sca prog 4:=⟨_,underlying4,rfl⟩
theorem ids_ne{m:Nat}{ids:List Int}(hr:S.Rising m ids){l:List IdV}(hl:l.length=m)(he:flatI l=ids){p:Nat}{x:IdV}(hx:l[p]? =some x):∀u∈l.take p,x.xs≠u.xs:=by
 intro u hu h;obtain⟨i,hi,rfl⟩:=List.mem_iff_getElem.1 hu;rw[List.length_take]at hi;have hp:=(List.getElem?_eq_some_iff.1 hx).1;have e1:∀(k:Nat) (y:IdV),l[k]? =some y→S.idAt ids k=y.xs:=fun k y hy=>by
  have hk:=(List.getElem?_eq_some_iff.1 hy).1;unfold S.idAt;rw[←he,←flatI_drop,←Nat.mul_one 32,←flatI_take,List.drop_eq_getElem_cons hk];have:=(List.getElem?_eq_some_iff.1 hy).2;rw[this];simp[flatI]
 have h1:=e1 p x hx;have h2:=e1 i (l.take p)[i] (by rw[List.getElem?_eq_getElem (by omega)];simp);have:=S.rising_inj hr (i:=p) (j:=i) (by omega) (by omega) (by rw[h1,h2,h]);omega
theorem idv_at{ids:List Int}{l:List IdV}(he:flatI l=ids){k:Nat}{y:IdV}(hy:l[k]? =some y):S.idAt ids k=y.xs:=by
 have hk:=(List.getElem?_eq_some_iff.1 hy).1;unfold S.idAt;rw[←he,←flatI_drop,←Nat.mul_one 32,←flatI_take,List.drop_eq_getElem_cons hk];have:=(List.getElem?_eq_some_iff.1 hy).2;rw[this];simp[flatI]
theorem idC_all(x:IdV):((idC x).drop 0).take 32=idC x:=List.take_of_length_le (by rw[List.drop_zero,idC_len x];exact Nat.le_refl _)
theorem ancPlaces{S0:Nat→Prop}(g:GrA)(l:List IdV)(w:World)(GI:GRow idC 32 S0 w g.ia g.m l)(hr:S.Rising g.m g.ids)(he:flatI l=g.ids)(hm:g.m≤70):
  Calls prog 48 #[.agg (grC g).toArray] w (Gv w (fun b:Nat=> .map (some b)) (fun b=>[mpiE b l]) fun _=>True):=by
 have hl:=GI.len;refine J.enter 22 func48 rfl rfl ?_;refine run ?_;refine J.box rfl rfl rfl fun b1=>?_
 refine run ?_;refine J.mkM rfl rfl fun bm=>?_
 refine run ?_;refine J.loop (A:=Nat) (fun p=>[(13, .int .i64 (p:Nat))]) [4,5,14,15,16,17,18,19,20,21] (fun p=>[mpiE bm (l.take p), .blk b1 (grC g) 65]) (fun p=>p≤g.m) (fun p=>g.m - p) 0 (by kernel_rfl) (Nat.zero_le _) (fun p j hp=>?_);refine run ?_;refine J.ifd rfl (fun c1=>?_) (fun c1=>?_)
 ·obtain⟨x,hx⟩:=GI.ex (i:=(p:Nat)) (by omega);have hx':=hx;rw[Int.toNat_natCast]at hx';refine run ?_;refine J.ldGa (i:=((p:Nat):Int)) (sz:=32) (off:=0) rfl (RG.arg GI) ?_ (q:=x) (hf:=idC_all x) (hn:=idC_len x);refine J.alloc rfl fun b2=>?_
  refine run ?_;refine J.putM (q:=x) rfl rfl (show Value.int .i64 ((p:Nat):Int)= .int .i64 ((l.take p).length:Nat)from by rw[List.length_take,Nat.min_eq_left (by omega)]) (ids_ne hr hl he hx') ?_;refine run ?_;refine J.re (mpiE bm (l.take p++[x])) (mpiE bm (l.take (p+1))) (fun _ _ h=>by rw[List.take_add_one,hx'];exact h) ?_;exact J.next (p+1) ⟨rfl,trivial⟩ (by kernel_rfl) (by omega) (by omega)
 refine run ?_;refine J.re (mpiE bm (l.take p)) (mpiE bm l) (fun _ _ h=>by rw[List.take_of_length_le (by omega)]at h;exact h) ?_;exact J.finG bm rfl trivial sb
structure SeA where
 (i n:Nat)(a:Option Addr)(c:Nat)
theorem ancMarked{S0 S1:Nat→Prop}(g:GrA)(sa:Option Addr)(sc:Nat)(f:List Bool)(w:World)(D0:WRow .u8 32 S0 w g.ia g.m g.ids)(B0:GRow boC 1 S1 w sa g.m f)(hm:g.m≤70):
  Calls prog 81 #[.agg (grC g).toArray, .slice sa g.m sc] w (Gv w (fun q:Option Addr×Nat×Nat=> .slice q.1 q.2.1 q.2.2) (fun q=>[.wown 23 .u8 32 q.1 q.2.1 q.2.2 (S.selF (fun i=>f.getD i false) g.ids g.m)]) fun q=>q.2.1=S.numF (fun i=>f.getD i false) g.m):=by
 have hl:=B0.len;obtain⟨F,hF⟩:=ex (fun i=>f.getD i false);rw[←hF];refine J.enter 24 func81 rfl rfl ?_;refine run ?_;refine J.box rfl rfl rfl fun b1=>?_
 refine run ?_;refine J.nilWo 23 .u8 32 ?_;refine J.loop (A:=SeA) (fun p=>[(5, .slice p.a p.n p.c),(9, .int .i64 (p.i:Nat))]) [6,10,11,12,13,14,15,16,17,18,19,20,21,22,23,24] (fun p=>[.wown 23 .u8 32 p.a p.n p.c (S.selF F g.ids p.i), .blk b1 (grC g) 65]) (fun p=>p.i≤g.m∧p.n=S.numF F p.i) (fun p=>g.m - p.i) ⟨0,0,none,0⟩ (by kernel_rfl) ⟨Nat.zero_le _,rfl⟩ (fun p j hI=>?_);obtain⟨hp,hn⟩:=hI;have hnle:=S.numF_le F p.i;refine run ?_;refine J.ifd rfl (fun c1=>?_) (fun c1=>?_)
 ·obtain⟨y,hy⟩:=B0.ex (i:=(p.i:Nat)) (by omega);have ey:F p.i=y:=by rw[hF];rw[Int.toNat_natCast]at hy;show f.getD p.i false=y;rw[List.getD_eq_getElem?_getD,hy];rfl
  refine run ?_;cases y with
  |true=>
   have e3:S.selF F g.ids p.i++S.idAt g.ids p.i=S.selF F g.ids (p.i+1):=by rw[S.selF,ey];rfl
   have e4:S.numF F (p.i+1)=p.n+1:=by rw[S.numF,ey,←hn];rfl
   have hA:Arr .u8 32 (elt 32 g.ids p.i):=D0.elt_arr (by omega);refine run ?_;refine J.b1W rfl rfl hA fun bb=>?_
   refine J.apW rfl rfl RW.own' fun a' c'=>?_
   rw[Int.toNat_natCast];refine run ?_;refine J.re (.wown 23 .u8 32 a' (p.n+1) c' (S.selF F g.ids p.i++elt 32 g.ids p.i)) (.wown 23 .u8 32 a' (p.n+1) c' (S.selF F g.ids (p.i+1))) (fun _ _ h=>by rw[←e3];exact h) ?_;exact J.next ⟨p.i+1,p.n+1,a',c'⟩ ⟨rfl,rfl,trivial⟩ (by kernel_rfl) ⟨by dsimp only;omega,e4.symm⟩ (by dsimp only;omega)
  |false=>
   have e3:S.selF F g.ids p.i=S.selF F g.ids (p.i+1):=by rw[S.selF,ey];exact(List.append_nil _).symm
   have e4:S.numF F (p.i+1)=p.n:=by rw[S.numF,ey,←hn];rfl
   refine run ?_;refine J.re (.wown 23 .u8 32 p.a p.n p.c (S.selF F g.ids p.i)) (.wown 23 .u8 32 p.a p.n p.c (S.selF F g.ids (p.i+1))) (fun _ _ h=>by rw[←e3];exact h) ?_;exact J.next ⟨p.i+1,p.n,p.a,p.c⟩ ⟨rfl,rfl,trivial⟩ (by kernel_rfl) ⟨by dsimp only;omega,e4.symm⟩ (by dsimp only;omega)
 obtain⟨pi,pn,pa,pc⟩:=p;dsimp only at hp hn c1⊢;obtain rfl:pi=g.m:=by omega
 refine run ?_;exact J.finG (pa,pn,pc) rfl hn sb
end W
end Go.Proofs.YtjjbdaiioociaaaGreatDoor
