/-
  Part 14 of the lemmas of these laws: ShardNames.
-/
import Derived.Test.YtkibkhgcbepolaaGreatDoorPSn13
set_option linter.unusedVariables false
set_option linter.unusedSimpArgs false
open Go.Proofs.Tryz
namespace Go.Proofs.YtkibkhgcbepolaaGreatDoor
namespace G
open Go.RowKit
theorem rs_mono{P:Program}{ops:Array Oper}{K K':List Value→World→Prop}(hk:∀l w,K l w→K' l w):∀(os:List Oper) (l:List Value) (w:World),RS P ops K os l w→RS P ops K' os l w
 |[],l,w,h=>by
  unfold RS at h⊢;exact hk l w h
 |o::rest,l,w,h=>by
  unfold RS at h⊢;split at h
  ·rename_i c;rw[if_pos c];unfold Oper.wp at h⊢;exact upon_mono (fun a w ⟨l',e,h⟩=>⟨l',e,rs_mono hk rest l' w h⟩) (fun _ _ _ h=>h) h
  ·rename_i c;rw[if_neg c];exact rs_mono hk rest _ w h
/-! ### parts in another order -/
theorem Sep.perm{E E':List Ent}(h:E.Perm E'):∀ {U:Nat→Prop} {w:World},Sep E U w→Sep E' U w:=by
 induction h with
 |nil=>exact fun h=>h
 |cons x _ ih=>exact fun⟨S,T,h1,h2,h3,h4,h5⟩=>⟨S,T,h1,h2,h3,h4,ih h5⟩
 |swap x y l=>
  rintro U w ⟨S1,T1,a1,a2,a3,a4,S2,T2,b1,b2,b3,b4,b5⟩;exact⟨S2,fun b=>S1 b∨T2 b,fun b hb=>a2 b (b1 b hb),fun b hb=>hb.elim (a1 b) (fun k=>a2 b (b2 b k)),fun b hb hc=>hc.elim (fun k=>a3 b k (b1 b hb)) (b3 b hb),b4,S1,T2,fun b hb=> .inl hb,fun b hb=> .inr hb,fun b hb hc=>a3 b hb (b2 b hc),a4,b5⟩
 |trans _ _ ih1 ih2=>exact fun h=>ih2 (ih1 h)
theorem Sep.parts:∀ {E L:List Ent} {U:Nat→Prop} {w:World},Sep (E++L) U w→∃S T:Nat→Prop,(∀b,S b→U b)∧(∀b,T b→U b)∧(∀b,S b→T b→False)∧Sep E S w∧Sep L T w
 |[],L,U,w,h=>⟨no,U,fun _ h=>h.elim,fun _ h=>h,fun _ h=>h.elim,trivial,h⟩
 |e::E,L,U,w,⟨A,B,h1,h2,h3,h4,h5⟩=>by
  obtain⟨S,T,g1,g2,g3,g4,g5⟩:=Sep.parts h5;exact⟨fun b=>A b∨S b,T,fun b hb=>hb.elim (h1 b) (fun k=>h2 b (g1 b k)),fun b hb=>h2 b (g2 b hb),fun b hb hc=>hb.elim (fun k=>h3 b k (g2 b hc)) (fun k=>g3 b k hc),⟨A,S,fun b hb=> .inl hb,fun b hb=> .inr hb,fun b hb hc=>h3 b hb (g1 b hc),h4,g4⟩,g5⟩
theorem Sep.pack{E V L:List Ent}{U:Nat→Prop}{w:World}(h:Sep (E++(V++L)) U w):Sep (E++ .all V::L) U w:=by
 obtain⟨S,T,h1,h2,h3,h4,h5⟩:=h.parts;obtain⟨S2,T2,g1,g2,g3,g4,g5⟩:=h5.parts;exact Sep.app (T:=T) h4 ⟨S2,T2,g1,g2,g3,(show(Ent.all V).ok S2 w by unfold Ent.all;exact g4),g5⟩ h1 h2 h3
theorem Sep.unpack{E V L:List Ent}{U:Nat→Prop}{w:World}(h:Sep (E++ .all V::L) U w):Sep (E++(V++L)) U w:=by
 obtain⟨S,T,h1,h2,h3,h4,h5⟩:=h.parts;obtain⟨S2,T2,g1,g2,g3,g4,g5⟩:=h5;exact Sep.app (T:=T) h4 (Sep.app (show Sep V S2 w by unfold Ent.all at g4;exact g4) g5 g1 g2 g3) h1 h2 h3
theorem Mem.perm{S0:Nat→Prop}{w0 w:World}{L L':List Ent}(M:Mem S0 w0 L w)(h:L.Perm L'):Mem S0 w0 L' w:=⟨M.pr,M.sep.perm h⟩
/-! ### what is said of each operation -/
structure Cl(δ:Type) where
 dst:Option Nat
 val:(Nat→δ)→Value
 own:(Nat→δ)→List Ent
 p:(Nat→δ)→Prop
 dep:List Nat
 use:List Nat
 eat:List Nat
def hasN(l:List Nat)(j:Nat):Bool:=l.any (Nat.beq j)
theorem hasN_iff{l:List Nat}{j:Nat}:hasN l j=true↔j∈l:=by
 unfold hasN;rw[List.any_eq_true];exact⟨fun⟨x,h1,h2⟩=>Nat.eq_of_beq_eq_true h2▸h1,fun h=>⟨j,h,Nat.beq_refl j⟩⟩
section
variable{δ:Type}
def msk(i:Nat)(dep:List Nat)(c:Nat→δ):Nat→δ:=fun j=>cond (Nat.beq j i||hasN dep j) (c j) (c i)
theorem msk_eq{i:Nat}{dep:List Nat}{c c':Nat→δ}(h0:c i=c' i)(h:∀j∈dep,c j=c' j):msk i dep c=msk i dep c':=by
 funext j;unfold msk;cases e:(Nat.beq j i||hasN dep j)
 ·exact h0
 ·rw[Bool.or_eq_true]at e;rcases e with e|e
  ·obtain rfl:=Nat.eq_of_beq_eq_true e;exact h0
  ·exact h j (hasN_iff.1 e)
def put(c:Nat→δ)(i:Nat)(x:δ):Nat→δ:=fun j=>cond (Nat.beq j i) x (c j)
theorem put_ne{c:Nat→δ}{i j:Nat}{x:δ}(h:j≠i):put c i x j=c j:=by
 unfold put;cases e:Nat.beq j i
 ·rfl
 ·exact absurd (Nat.eq_of_beq_eq_true e) h
variable(T:List (Cl δ))
def clAt(i:Nat):Cl δ:=T.getD i ⟨none,fun _=>undef,fun _=>[],fun _=>True,[],[],[]⟩
def clV(i:Nat)(c:Nat→δ):Value:=(clAt T i).val (msk i (clAt T i).dep c)
def clO(i:Nat)(c:Nat→δ):List Ent:=(clAt T i).own (msk i (clAt T i).dep c)
def clP(i:Nat)(c:Nat→δ):Prop:=(clAt T i).p (msk i (clAt T i).dep c)
def dstD:List Nat:=T.filterMap Cl.dst
def depD(i:Nat):List Nat:=(clAt T i).dep.filterMap fun j=>(clAt T j).dst
def useF(i:Nat)(c:Nat→δ):List Ent:=((List.range T.length).filter fun j=>hasN (clAt T i).use j).flatMap fun j=>clO T j c
def keepF(i:Nat)(c:Nat→δ):List Ent:=((List.range T.length).filter fun j=>hasN (clAt T i).use j&& !hasN (clAt T i).eat j).flatMap fun j=>clO T j c
def MF(i:Nat)(c:Nat→δ):List (Nat×Value):=(clAt T i).dep.filterMap fun j=>(clAt T j).dst.map fun d=>(d,clV T j c)
def JF(i:Nat):List Nat:=(dstD T).filter fun d=> !hasN (depD T i) d
def frF(lb:List Value)(i:Nat)(c:Nat→δ)(v:Nat→Value):List Value:=upd (upd lb (MF T i c)) (junk (JF T i) v)
def OutF(S0:Nat→Prop)(w0:World)(L:List Ent)(i:Nat)(F:Ent)(c:Nat→δ)(l l':List Value)(w':World):Prop:=∃x,clP T i (put c i x)∧l'=putL (clAt T i).dst (clV T i (put c i x)) l∧Mem S0 w0 (clO T i (put c i x)++(keepF T i c++F::L)) w'
def stepF(S0:Nat→Prop)(w0:World)(L:List Ent)(P:Program)(l0:List Oper)(lb:List Value)(i:Nat):Prop:=∀(F:Ent) (c:Nat→δ) (v:Nat→Value),(∀j∈(clAt T i).dep,clP T j c)→J S0 w0 (useF T i c++F::L) (RY S0 w0 .s P l0.toArray (OutF T S0 w0 L i F c (frF T lb i c v)) [(nth l0 i, .e)] (frF T lb i c v))
def stepsF(S0:Nat→Prop)(w0:World)(L:List Ent)(P:Program)(l0:List Oper)(lb:List Value):List Nat→Prop
 |[]=>True
 |i::r=>stepF T S0 w0 L P l0 lb i∧stepsF S0 w0 L P l0 lb r
def dn(n:Nat)(li:Array Bool)(j:Nat):Bool:=li.getD j false||Nat.ble n j
def slF(c:Nat→δ):List (Nat×Value):=(List.range T.length).filterMap fun j=>(clAt T j).dst.map fun d=>(d,clV T j c)
def endF(c:Nat→δ):List Ent:=((List.range T.length).filter fun j=> !(List.range T.length).any fun k=>hasN (clAt T k).eat j).flatMap fun j=>clO T j c
def allF(c:Nat→δ):List Nat→Prop
 |[]=>True
 |i::r=>clP T i c∧allF c r
def checkF(l0:List Oper)(n:Nat):Bool:=
 Nat.ble l0.length T.length && (((List.range T.length).all fun i => Nat.blt i l0.length || ((clAt T i).dst.isNone && ((clAt T i).dep.isEmpty && (clAt T i).eat.isEmpty))) && ((List.range l0.length).all fun i => (nth l0 i).dst == (clAt T i).dst && ((nth l0 i).guard.isNone && (((nth l0 i).after.all fun e => !Region.binds .any e || Nat.blt e.on i) &&
  (((clAt T i).dep.all fun j => Nat.blt j T.length && (hasN (ancL l0.toArray 5000 (depsL l0.toArray i) []) j || Nat.ble l0.length j)) && (((clAt T i).use.all fun j => hasN (clAt T i).dep j) && (((clAt T i).eat.all fun j => hasN (clAt T i).use j) &&
  ((List.range l0.length).all fun k => Nat.beq k i || (!((clAt T k).eat.any fun j => hasN (clAt T i).use j) || hasN (ancL l0.toArray 5000 (depsL l0.toArray k) []) i))))))))) && (decide (dstD T).Nodup && (dstD T).all fun d => Nat.blt d n)
variable{T}
theorem stepsF_mem{S0:Nat→Prop}{w0:World}{L:List Ent}{P:Program}{l0:List Oper}{lb:List Value}:∀ {is:List Nat},stepsF T S0 w0 L P l0 lb is→∀i∈is,stepF T S0 w0 L P l0 lb i
 |[],_,i,hi=>by cases hi
 |j::r,h,i,hi=>by
  rcases List.mem_cons.1 hi with rfl|hi
  ·exact h.1
  ·exact stepsF_mem h.2 i hi
theorem allF_of{c:Nat→δ}:∀ {is:List Nat},(∀i∈is,clP T i c)→allF T c is
 |[],_=>trivial
 |i::r,h=>⟨h i (List.mem_cons_self ..),allF_of fun j hj=>h j (List.mem_cons_of_mem _ hj)⟩
theorem FF_same{l lb:List Value}(ds:List Nat)(hl:l.length=lb.length)(h:∀s,s∉ds→l[s]? =lb[s]?):FF lb ds (fun s=>l.getD s undef)=l:=by
 apply List.ext_getElem?;intro s;rw[FF_get];by_cases c:s∈ds∧s<lb.length
 ·rw[if_pos c,List.getD_eq_getElem?_getD,List.getElem?_eq_getElem (by omega)];rfl
 ·rw[if_neg c];by_cases k:s∈ds
  ·have:¬s<lb.length:=fun h=>c ⟨k,h⟩;rw[List.getElem?_eq_none (by omega),List.getElem?_eq_none (by omega)]
  ·exact(h s k).symm
theorem fmap_slots{l:List Value}{c:Nat→δ}:∀(js:List Nat),(∀j∈js,∀d,(clAt T j).dst=some d→l.getD d undef=clV T j c)→(js.filterMap fun j=>(clAt T j).dst.map fun d=>(d,clV T j c))=(js.filterMap fun j=>(clAt T j).dst).map fun d=>(d,l.getD d undef)
 |[],_=>rfl
 |j::r,h=>by
  have ih:=fmap_slots r fun k hk=>h k (List.mem_cons_of_mem _ hk);cases e:(clAt T j).dst with
  |none=>rw[List.filterMap_cons_none (f:=fun j=>(clAt T j).dst.map fun d=>(d,clV T j c)) (by rw[e];rfl),List.filterMap_cons_none (f:=fun j=>(clAt T j).dst) e,ih]
  |some d=>rw[List.filterMap_cons_some (f:=fun j=>(clAt T j).dst.map fun d=>(d,clV T j c)) (by rw[e];rfl),List.filterMap_cons_some (f:=fun j=>(clAt T j).dst) e,ih,List.map_cons,h j (List.mem_cons_self ..) d e]
structure OkF(T:List (Cl δ))(S0:Nat→Prop)(w0:World)(L:List Ent)(l0:List Oper)(lb:List Value)(li:Array Bool)(c:Nat→δ)(l:List Value)(w:World):Prop where
 sz:li.size=l0.length
 cl:Closed l0.toArray li
 len:l.length=lb.length
 out:∀s,s∉dstD T→l[s]? =lb[s]?
 val:∀i,i<T.length→dn l0.length li i=true→∀d,(clAt T i).dst=some d→l.getD d undef=clV T i c
 p:∀i,i<T.length→dn l0.length li i=true→clP T i c
 mem:Mem S0 w0 (((List.range T.length).filter fun j=>dn l0.length li j&& !(List.range T.length).any fun k=>dn l0.length li k&&hasN (clAt T k).eat j).flatMap (fun j=>clO T j c)++L) w
theorem nodupF{n:Nat}(f:Nat→Bool):((List.range n).filter f).Nodup:=List.Pairwise.filter _ List.nodup_range
theorem flat_congr{α β:Type}{f g:α→List β}:∀ {l:List α},(∀x∈l,f x=g x)→l.flatMap f=l.flatMap g
 |[],_=>rfl
 |x::l,h=>by rw[List.flatMap_cons,List.flatMap_cons,h x (List.mem_cons_self ..),flat_congr fun y hy=>h y (List.mem_cons_of_mem _ hy)]
theorem anyF{S0:Nat→Prop}{w0:World}{L:List Ent}{P:Program}{l0:List Oper}{lb:List Value}{Q:Act→World→Prop}(hB:checkF T l0 lb.length=true)(hst:∀i,i<l0.length→stepF T S0 w0 L P l0 lb i)
  (hend:∀c w,(∀i,i<T.length→clP T i c)→Mem S0 w0 (endF T c++L) w→Q (fr (upd lb (slF T c))) w):
  ∀(n:Nat) (li:Array Bool) (c:Nat→δ) (l:List Value) (w:World),cntU l0.length li=n→OkF T S0 w0 L l0 lb li c l w→wpX P l0.toArray (fun _ _=>True) [] Q n li (fr l) w:=by
 simp only[checkF,Bool.and_eq_true,decide_eq_true_eq]at hB;obtain⟨⟨hN,hvt,hall⟩,hnd,hdl⟩:=hB;have hN:l0.length≤T.length:=Nat.le_of_ble_eq_true hN;have virt:∀i,l0.length≤i→i<T.length→(clAt T i).dst=none∧(clAt T i).dep=[]∧(clAt T i).eat=[]:=fun i h1 h2=>by
  have:=List.all_eq_true.1 hvt i (List.mem_range.2 h2);simp only[Bool.or_eq_true,Bool.and_eq_true,Option.isNone_iff_eq_none,List.isEmpty_iff]at this;rcases this with h|h
  ·rw[Nat.blt_eq]at h;omega
  ·exact h
 have dn_lt:∀ {li:Array Bool} {j:Nat},j<l0.length→dn l0.length li j=li.getD j false:=fun {li j} h=>by
  unfold dn;have:Nat.ble l0.length j=false:=by rw[Bool.eq_false_iff];intro e;have:=Nat.le_of_ble_eq_true e;omega
  rw[this,Bool.or_false]
 have dn_ge:∀ {li:Array Bool} {j:Nat},l0.length≤j→dn l0.length li j=true:=fun {li j} h=>by
  unfold dn;rw[Nat.ble_eq_true_of_le h,Bool.or_true]
 have one:∀i,i<l0.length→(nth l0 i).dst=(clAt T i).dst∧(nth l0 i).guard=none∧(∀e∈(nth l0 i).after,Region.binds .any e=true→e.on<i)∧(∀j∈(clAt T i).dep,j<T.length∧(j∈ancL l0.toArray 5000 (depsL l0.toArray i) []∨l0.length≤j))∧(∀j∈(clAt T i).use,j∈(clAt T i).dep)∧(∀j∈(clAt T i).eat,j∈(clAt T i).use)∧(∀k,k<l0.length→k≠i→∀j∈(clAt T k).eat,j∈(clAt T i).use→i∈ancL l0.toArray 5000 (depsL l0.toArray k) []):=by
  intro i hi;have:=List.all_eq_true.1 hall i (List.mem_range.2 hi);simp only[Bool.and_eq_true,beq_iff_eq,Option.isNone_iff_eq_none,List.all_eq_true,Array.all_eq_true_iff_forall_mem,Bool.or_eq_true,Bool.not_eq_true',hasN_iff,List.mem_range]at this;obtain⟨h1,h2,h3,h4,h5,h6,h7⟩:=this;refine⟨h1,h2,fun e he hb=>?_,fun j hj=>?_,h5,h6,fun k hk hne j hj hu=>?_⟩
  ·rcases h3 e he with h|h
   ·rw[hb]at h;cases h
   ·rwa[Nat.blt_eq]at h
  ·have:=h4 j hj;rw[Nat.blt_eq]at this;exact⟨this.1,this.2.imp_right Nat.le_of_ble_eq_true⟩
  ·rcases h7 k hk with h|h|h
   ·exact absurd (Nat.eq_of_beq_eq_true h) hne
   ·have:=List.any_eq_false.1 h j hj;exact absurd (hasN_iff.2 hu) this
   ·exact h
 have ancD:∀ {li:Array Bool},Closed l0.toArray li→∀k,k<l0.length→li.getD k false=true→∀j∈ancL l0.toArray 5000 (depsL l0.toArray k) [],li.getD j false=true:=fun hc k hk hl j hj=>by
  refine ancL_spec hc 5000 (depsL l0.toArray k) [] (fun q hq=>?_) (fun q hq=>by cases hq) j hj;unfold depsL at hq;rw[nth_mem_range hk]at hq;obtain⟨e,he,rfl⟩:=List.mem_map.1 hq;rw[List.mem_filter]at he;exact hc k _ (nth_mem_range hk) hl e (by simpa using he.1) he.2
 have dmem:∀i d,i<T.length→(clAt T i).dst=some d→d∈dstD T:=fun i d hi hd=>by
  unfold dstD;refine List.mem_filterMap.2 ⟨clAt T i,?_,hd⟩;unfold clAt;rw[List.getD_eq_getElem?_getD,List.getElem?_eq_getElem (by omega)];exact List.getElem_mem _
 have dinj:∀i j d,i<T.length→j<T.length→(clAt T i).dst=some d→(clAt T j).dst=some d→i=j:=fun i j d hi hj h1 h2=>by
  have e1:clAt T i=T[i]'(by omega):=by unfold clAt;rw[List.getD_eq_getElem?_getD,List.getElem?_eq_getElem (by omega)];rfl
  have e2:clAt T j=T[j]'(by omega):=by unfold clAt;rw[List.getD_eq_getElem?_getD,List.getElem?_eq_getElem (by omega)];rfl
  rw[e1]at h1;rw[e2]at h2;have hp:=hnd;unfold dstD at hp;rw[List.Nodup,List.pairwise_filterMap]at hp;rcases Nat.lt_trichotomy i j with c|c|c
  ·exact absurd rfl (List.pairwise_iff_getElem.1 hp i j (by omega) (by omega) c d h1 d h2)
  ·exact c
  ·exact absurd rfl (List.pairwise_iff_getElem.1 hp j i (by omega) (by omega) c d h2 d h1)
 intro n
 induction n with
 |zero=>
  intro li c l w hc H;have hall:∀i,i<l0.length→li.getD i false=true:=by
   intro i hi;have:=List.countP_eq_zero.1 hc i (by simpa using hi);simpa using this
  have hdn:∀i,dn l0.length li i=true:=fun i=>by
   rcases Nat.lt_or_ge i l0.length with h|h
   ·rw[dn_lt h];exact hall i h
   ·exact dn_ge h
  refine⟨?_,?_⟩
  ·cases hr:Region.ready .any l0.toArray li with
   |nil=>rfl
   |cons j r=>
    obtain⟨hj0,oj,hoj,_⟩:=mem_ready.1 (show j∈Region.ready .any l0.toArray li by rw[hr];exact List.mem_cons_self ..);have hjn:j<l0.length:=by simpa using(Array.getElem?_eq_some_iff.1 hoj).1
    have h1:=hall j hjn;have hlt:j<li.size:=by rw[H.sz];exact hjn
    simp[hlt]at hj0 h1;rw[h1]at hj0;cases hj0
  ·have e:l=upd lb (slF T c):=by
    have h1:=FF_same (dstD T) H.len H.out;unfold FF at h1;rw[←h1];congr 1;unfold slF;rw[fmap_slots (l:=l) _ fun j hj d hd=>H.val j (List.mem_range.1 hj) (hdn j) d hd];congr 1;unfold dstD clAt;have:∀(T:List (Cl δ)),T.filterMap Cl.dst=(List.range T.length).filterMap fun j=>(T.getD j ⟨none,fun _=>undef,fun _=>[],fun _=>True,[],[],[]⟩).dst:=fun T=>by
     have h2:T=(List.range T.length).map fun j=>T.getD j ⟨none,fun _=>undef,fun _=>[],fun _=>True,[],[],[]⟩:=by
      apply List.ext_getElem
      ·simp
      ·intro i h1 h2;simp[h1]
     conv=>lhs;rw[h2]
     rw[List.filterMap_map];rfl
    exact this T
   rw[e];refine hend c w (fun i hi=>H.p i hi (hdn i)) ?_;have hm:=H.mem;refine cast (congrArg (fun x=>Mem S0 w0 (x++L) w) ?_) hm;unfold endF;refine congrArg (fun q=>List.flatMap _ q) (List.filter_congr fun j hj=>?_);rw[hdn j,Bool.true_and];congr 1;rw[Bool.eq_iff_iff,List.any_eq_true,List.any_eq_true];constructor
   ·rintro⟨k,hk,h⟩;rw[Bool.and_eq_true]at h;exact⟨k,hk,h.2⟩
   ·rintro⟨k,hk,h⟩;exact⟨k,hk,by rw[hdn k,h];rfl⟩
 |succ n ih=>
  intro li c l w hc H;refine⟨fun h0=>?_,fun i hi=>?_⟩
  ·exfalso;have hex:∃s,s<l0.length∧li.getD s false=false:=by
    have hp:0<(List.range l0.length).countP fun i=> !li.getD i false:=by unfold cntU at hc;omega
    obtain⟨s,hs,h⟩:=List.countP_pos_iff.1 hp;exact⟨s,by simpa using hs,by simpa using h⟩
   obtain⟨s,hs,hmin⟩:∃s,(s<l0.length∧li.getD s false=false)∧∀t,t<s→li.getD t false=true:=by
    obtain⟨s,hs⟩:=hex
    induction s using Nat.strongRecOn with
    |_ s ihs=>
     by_cases h:∃t,t<s∧li.getD t false=false
     ·obtain⟨t,ht,hf⟩:=h;exact ihs t ht ⟨by omega,hf⟩
     ·refine⟨s,hs,fun t ht=>?_⟩;cases hb:li.getD t false
      ·exact absurd ⟨t,ht,hb⟩ h
      ·rfl
   have:s∈Region.ready .any l0.toArray li:=by
    refine mem_ready.2 ⟨?_,nth l0 s,nth_mem_range hs.1,fun e he hb=>hmin _ ((one s hs.1).2.2.1 e he hb)⟩;have:=hs.2;have hlt:s<li.size:=by rw[H.sz];exact hs.1
    simp[hlt]at this⊢;exact this
   rw[h0]at this;cases this
  ·obtain⟨hi0,oi,hoi,hia⟩:=mem_ready.1 hi;have him:i<l0.length:=by simpa using(Array.getElem?_eq_some_iff.1 hoi).1
   rw[nth_mem_range him]at hoi;obtain rfl:=Option.some.inj hoi;obtain⟨o1,o2,o3,o4,o5,o6,o7⟩:=one i him;have hif:li.getD i false=false:=by
    have hlt:i<li.size:=by rw[H.sz];exact him
    simp[hlt]at hi0⊢;exact hi0
   have hni:dn l0.length li i=false:=by rw[dn_lt him];exact hif
   have hdone:∀j∈(clAt T i).dep,dn l0.length li j=true:=fun j hj=>by
    rcases(o4 j hj).2 with h|h
    ·have := ancL_spec H.cl 5000 (depsL l0.toArray i) [] (fun q hq => by
      unfold depsL at hq
      rw [nth_mem_range him] at hq
      obtain ⟨e, he, rfl⟩ := List.mem_map.1 hq
      rw [List.mem_filter] at he
      exact hia e (by simpa using he.1) he.2) (fun q hq => by cases hq) j h
     unfold dn;rw[this];rfl
    ·exact dn_ge h
   have huse:∀j∈(clAt T i).use,(dn l0.length li j&& !(List.range T.length).any fun k=>dn l0.length li k&&hasN (clAt T k).eat j)=true:=fun j hj=>by
    rw[hdone j (o5 j hj),Bool.true_and,Bool.not_eq_true',List.any_eq_false];intro k hk h;rw[Bool.and_eq_true,hasN_iff]at h;have hkn:k<l0.length:=by
     rcases Nat.lt_or_ge k l0.length with c|c
     ·exact c
     ·rw[(virt k c (List.mem_range.1 hk)).2.2]at h;exact absurd h.2 (List.not_mem_nil)
    have hne:k≠i:=fun e=>by rw[e,hni]at h;cases h.1
    rw[dn_lt hkn]at h;have:=ancD H.cl k hkn h.1 i (o7 k hkn hne j h.2 hj);rw[hif]at this;cases this
   -- the others
   obtain⟨V,hV⟩:∃V:List Nat,V=(List.range T.length).filter fun j=>(dn l0.length li j&& !(List.range T.length).any fun k=>dn l0.length li k&&hasN (clAt T k).eat j)&& !hasN (clAt T i).use j:=⟨_,rfl⟩
   have hVn:V.Nodup:=hV▸nodupF _;have hVm:∀j,j∈V↔j<T.length∧(dn l0.length li j&& !(List.range T.length).any fun k=>dn l0.length li k&&hasN (clAt T k).eat j)=true∧j∉(clAt T i).use:=fun j=>by
    rw[hV,List.mem_filter,List.mem_range,Bool.and_eq_true,Bool.not_eq_true',←Bool.not_eq_true,hasN_iff]
   have hperm:((List.range T.length).filter fun j=>dn l0.length li j&& !(List.range T.length).any fun k=>dn l0.length li k&&hasN (clAt T k).eat j).Perm (((List.range T.length).filter fun j=>hasN (clAt T i).use j)++V):=by
    refine(List.perm_ext_iff_of_nodup (nodupF _) (List.nodup_append.2 ⟨nodupF _,hVn,fun a ha b hb e=>?_⟩)).2 fun a=>?_
    ·subst e;rw[List.mem_filter,hasN_iff]at ha;exact((hVm a).1 hb).2.2 ha.2
    ·rw[List.mem_append,hVm,List.mem_filter,List.mem_filter,List.mem_range,hasN_iff];constructor
     ·rintro⟨h1,h2⟩;by_cases hu:a∈(clAt T i).use
      ·exact .inl ⟨h1,hu⟩
      ·exact .inr ⟨h1,h2,hu⟩
     ·rintro(⟨h1,h2⟩|⟨h1,h2,_⟩)
      ·exact⟨h1,huse a h2⟩
      ·exact⟨h1,h2⟩
   have M1:Mem S0 w0 (useF T i c++ .all (V.flatMap fun j=>clO T j c)::L) w:=by
    have h1:=H.mem.perm ((hperm.flatMap_right fun j=>clO T j c).append_right L);rw[List.flatMap_append,List.append_assoc]at h1;exact⟨h1.pr,h1.sep.pack⟩
   have hfr:frF T lb i c (fun s=>l.getD s undef)=l:=by
    have e1:MF T i c=(depD T i).map fun d=>(d,l.getD d undef):=fmap_slots (l:=l) _ fun j hj d hd=>H.val j (o4 j hj).1 (hdone j hj) d hd;unfold frF junk;rw[e1];have e2:upd (upd lb ((depD T i).map fun d=>(d,l.getD d undef))) ((JF T i).map fun d=>(d,l.getD d undef))=FF (FF lb (depD T i) fun d=>l.getD d undef) (JF T i) fun d=>l.getD d undef:=rfl;rw[e2];refine FF_same (lb:=FF lb (depD T i) fun d=>l.getD d undef) (JF T i) (by rw[FF_len];exact H.len) fun s hs=>?_
    rw[FF_get];by_cases hsd:s∈depD T i∧s<lb.length
    ·rw[if_pos hsd,List.getD_eq_getElem?_getD,List.getElem?_eq_getElem (by rw[H.len];exact hsd.2)];rfl
    ·rw[if_neg hsd];by_cases hsl:s<lb.length
     ·refine H.out s fun hd=>hs ?_;unfold JF;rw[List.mem_filter,Bool.not_eq_true',←Bool.not_eq_true,hasN_iff];exact⟨hd,fun h=>hsd ⟨h,hsl⟩⟩
     ·rw[List.getElem?_eq_none (by have:=H.len;omega),List.getElem?_eq_none (by omega)]
   have hk:=hst i him (.all (V.flatMap fun j=>clO T j c)) c (fun s=>l.getD s undef) (fun j hj=>H.p j (o4 j hj).1 (hdone j hj)) w M1;rw[hfr]at hk;have hk:RS P l0.toArray (OutF T S0 w0 L i (.all (V.flatMap fun j=>clO T j c)) c l) [nth l0 i] l w:=hk;unfold RS at hk;unfold xOp;rw[nth_mem_range him];have hwn:Region.wanted (nth l0 i) (yielded l0.toArray (fr l).tmps)=true:=by simp[Region.wanted,o2]
   simp only[hwn,if_true];rw[if_pos (by simp[Region.wanted,o2])]at hk;unfold Oper.wp at hk⊢;refine upon_mono ?_ (fun _ _ _ h=>h) hk;rintro a' w' ⟨l',rfl,hO⟩;refine⟨fun _=>trivial,?_⟩;have hO:OutF T S0 w0 L i (.all (V.flatMap fun j=>clO T j c)) c l l' w':=hO;obtain⟨x,hp,rfl,hM⟩:=hO;have same:∀j,j<T.length→dn l0.length li j=true→msk j (clAt T j).dep (put c i x)=msk j (clAt T j).dep c:=fun j hjt hj=>by
    have hne:j≠i:=fun e=>by rw[e,hni]at hj;cases hj
    refine msk_eq (put_ne hne) fun q hq=>put_ne fun e=>?_
    rcases Nat.lt_or_ge j l0.length with c|c
    ·rw[dn_lt c]at hj;rcases((one j c).2.2.2.1 q hq).2 with h|h
     ·have:=ancD H.cl j c hj q h;rw[e,hif]at this;cases this
     ·omega
    ·rw[(virt j c hjt).2.1]at hq;cases hq
   have hg:∀j,dn l0.length (li.setIfInBounds i true) j=true↔j=i∨dn l0.length li j=true:=fun j=>by
    by_cases e:j=i
    ·subst e;have hlt:j<li.size:=by rw[H.sz];exact him
     rw[dn_lt him];simp[hlt]
    ·unfold dn;rw[getD_set_ne false (Ne.symm e)];simp[e]
   refine ih _ (put c i x) _ w' ?_ ⟨by simp[H.sz],H.cl.set hi,?_,?_,?_,?_,?_⟩
   ·have:=countP_set l0.length li i him (by rw[H.sz];exact him) hif;omega
   ·unfold putL;split
    ·rw[List.length_set];exact H.len
    ·exact H.len
   ·intro s hs;unfold putL;split
    ·rename_i d hd;rw[List.getElem?_set_ne (fun e=>hs (by rw[←e];exact dmem i d (by omega) hd))];exact H.out s hs
    ·exact H.out s hs
   ·intro j hj hl d hd;rcases(hg j).1 hl with rfl|hl
    ·rw[hd];have hdn:d<lb.length:=by
      have:=List.all_eq_true.1 hdl d (dmem j d hj hd);rwa[Nat.blt_eq]at this
     show(l.set d _).getD d undef=_;rw[List.getD_eq_getElem?_getD,List.getElem?_set,if_pos rfl,if_pos (by rw[H.len];exact hdn)];rfl
    ·have hne:j≠i:=fun e=>by rw[e,hni]at hl;cases hl
     have h1:=H.val j hj hl d hd;have h2:clV T j (put c i x)=clV T j c:=by unfold clV;rw[same j hj hl]
     rw[h2,←h1];unfold putL;split
     ·rename_i d' hd';rw[List.getD_eq_getElem?_getD,List.getElem?_set_ne (fun e=>hne (dinj j i d hj (by omega) hd (by rw[hd',e]))),←List.getD_eq_getElem?_getD]
     ·rfl
   ·intro j hj hl;rcases(hg j).1 hl with rfl|hl
    ·exact hp
    ·have h1:=H.p j hj hl;unfold clP at h1⊢;rwa[same j hj hl]
   ·have hM2:Mem S0 w0 (clO T i (put c i x)++(keepF T i c++(V.flatMap (fun j=>clO T j c)++L))) w':=by
     have h1:=hM.sep;rw[←List.append_assoc]at h1;have h2:=h1.unpack;rw[List.append_assoc]at h2;exact⟨hM.pr,h2⟩
    have e1:keepF T i c=keepF T i (put c i x):=by
     unfold keepF;refine flat_congr fun j hj=>?_
     rw[List.mem_filter,Bool.and_eq_true,hasN_iff]at hj;unfold clO;rw[same j (List.mem_range.1 hj.1) (hdone j (o5 j hj.2.1))]
    have e2:V.flatMap (fun j=>clO T j c)=V.flatMap fun j=>clO T j (put c i x):=flat_congr fun j hj=>by
     have:=((hVm j).1 hj).2.1;rw[Bool.and_eq_true]at this;unfold clO;rw[same j ((hVm j).1 hj).1 this.1]
    rw[e1,e2]at hM2;unfold keepF at hM2;rw[←List.append_assoc,←List.append_assoc]at hM2;refine hM2.perm (List.Perm.append_right L ?_);have e3:clO T i (put c i x)=[i].flatMap fun j=>clO T j (put c i x):=by simp
    rw[e3,←List.flatMap_append,←List.flatMap_append];refine List.Perm.flatMap_right _ ?_;have live:∀a,a≠i→((dn l0.length (li.setIfInBounds i true) a&& !(List.range T.length).any fun k=>dn l0.length (li.setIfInBounds i true) k&&hasN (clAt T k).eat a)=true↔(dn l0.length li a&& !(List.range T.length).any fun k=>dn l0.length li k&&hasN (clAt T k).eat a)=true∧a∉(clAt T i).eat):=fun a ha=>by
     rw[Bool.and_eq_true,Bool.and_eq_true,hg,Bool.not_eq_true',Bool.not_eq_true',List.any_eq_false,List.any_eq_false];constructor
     ·rintro⟨h1,h2⟩;refine⟨⟨h1.resolve_left ha,fun k hk h=>h2 k hk ?_⟩,fun h=>h2 i (List.mem_range.2 (by omega)) ?_⟩
      ·rw[Bool.and_eq_true]at h⊢;exact⟨(hg k).2 (.inr h.1),h.2⟩
      ·rw[Bool.and_eq_true];exact⟨(hg i).2 (.inl rfl),hasN_iff.2 h⟩
     ·rintro⟨⟨h1,h2⟩,h3⟩;refine⟨.inr h1,fun k hk h=>?_⟩;rw[Bool.and_eq_true]at h;rcases(hg k).1 h.1 with rfl|h4
      ·exact h3 (hasN_iff.1 h.2)
      ·exact h2 k hk (by rw[Bool.and_eq_true];exact⟨h4,h.2⟩)
    have livei:(dn l0.length (li.setIfInBounds i true) i&& !(List.range T.length).any fun k=>dn l0.length (li.setIfInBounds i true) k&&hasN (clAt T k).eat i)=true:=by
     rw[Bool.and_eq_true];refine⟨(hg i).2 (.inl rfl),?_⟩;rw[Bool.not_eq_true',List.any_eq_false];intro k hk h;rw[Bool.and_eq_true,hasN_iff]at h;have hkn:k<l0.length:=by
      rcases Nat.lt_or_ge k l0.length with c|c
      ·exact c
      ·rw[(virt k c (List.mem_range.1 hk)).2.2]at h;exact absurd h.2 (List.not_mem_nil)
     obtain⟨_,_,_,k4,k5,k6,_⟩:=one k hkn;have hia2:=(k4 i (k5 i (k6 i h.2))).2.resolve_right (by omega);rcases(hg k).1 h.1 with rfl|hkd
     ·have:=hdone k (k5 k (k6 k h.2));rw[hni]at this;cases this
     ·rw[dn_lt hkn]at hkd;have:=ancD H.cl k hkn hkd i hia2;rw[hif]at this;cases this
    refine(List.perm_ext_iff_of_nodup ?_ (nodupF _)).2 fun a=>?_
    ·rw[List.append_assoc,List.nodup_append];refine⟨List.nodup_cons.2 ⟨(by simp),List.nodup_nil⟩,List.nodup_append.2 ⟨nodupF _,hVn,fun a ha b hb e=>?_⟩,fun a ha b hb e=>?_⟩
     ·subst e;rw[List.mem_filter,Bool.and_eq_true,hasN_iff]at ha;exact((hVm a).1 hb).2.2 ha.2.1
     ·subst e;rw[List.mem_singleton]at ha;subst ha;rcases List.mem_append.1 hb with h|h
      ·rw[List.mem_filter,Bool.and_eq_true,hasN_iff]at h;have:=hdone a (o5 a h.2.1);rw[hni]at this;cases this
      ·have:=((hVm a).1 h).2.1;rw[hni]at this;cases this
    ·rw[List.append_assoc,List.mem_append,List.mem_append,List.mem_singleton,hVm,List.mem_filter,List.mem_filter,List.mem_range,Bool.and_eq_true,hasN_iff,Bool.not_eq_true',←Bool.not_eq_true,hasN_iff];by_cases ha:a=i
     ·subst ha;exact⟨fun _=>⟨by omega,livei⟩,fun _=> .inl rfl⟩
     ·rw[live a ha];constructor
      ·rintro(h|⟨h1,h2,h3⟩|⟨h1,h2,h3⟩)
       ·exact absurd h ha
       ·exact⟨h1,huse a h2,h3⟩
       ·exact⟨h1,h2,fun h=>h3 (o6 a h)⟩
      ·rintro⟨h1,h2,h3⟩;by_cases hu:a∈(clAt T i).use
       ·exact .inr (.inl ⟨h1,hu,h3⟩)
       ·exact .inr (.inr ⟨h1,h2,hu⟩)
end
section
variable{δ:Type}{T:List (Cl δ)}{S0:Nat→Prop}{w0:World}{L:List Ent}{P:Program}{Q:Exit→Act→World→Prop}{l0:List Oper}{lb:List Value}{id:Nat}
theorem J.regionF(d0:δ)(T:List (Cl δ))(V:List Ent)(M:(Nat→δ)→List (Nat×Value))(E:(Nat→δ)→List Ent){l1:(Nat→δ)→List Value}{La:List Ent}(hm:P.follows .mixedOrders=true)(hB:checkF T l0 lb.length=true)(hV:((List.range (T.length - l0.length)).flatMap fun j=>clO T (l0.length+j) fun _=>d0)=V)(hp0:allF T (fun _=>d0) ((List.range (T.length - l0.length)).map fun j=>l0.length+j))(hs:stepsF T S0 w0 L P l0 lb (List.range l0.length))(hM:∀c,slF T c=M c)(hE:∀c,endF T c=E c)
  {L1:(Nat→δ)→List Ent}(k:∀c,allF T c (List.range l0.length)→J S0 w0 (L1 c) (RY S0 w0 .s P l0.toArray (KN Q) [] (l1 c)))(hl:∀c,upd lb (M c)=l1 c:=by intro c;simp only[upd,List.set_cons_succ,List.set_cons_zero];exact rfl)(hL:∀c,E c++L=L1 c:=by intro c;dsimp only[List.cons_append,List.nil_append])
  (hA:V++L=La:=by first|rfl|dsimp only[List.cons_append,List.nil_append]):J S0 w0 La ((Code.region id l0.toArray true).wp P Q (fr lb)):=fun w Mm=>by
 subst hA hV;refine wp_region_any hm ?_;have hN:l0.length≤T.length:=by
  simp only[checkF,Bool.and_eq_true]at hB;exact Nat.le_of_ble_eq_true hB.1.1
 have hf:∀i,(Array.replicate l0.length false).getD i false=false:=fun i=>by
  rw[Array.getD_eq_getD_getElem?,Array.getElem?_replicate];split<;>rfl
 have hdn:∀i,dn l0.length (Array.replicate l0.length false) i=Nat.ble l0.length i:=fun i=>by
  unfold dn;rw[hf i,Bool.false_or]
 have allV:∀(is:List Nat) (c:Nat→δ),allF T c is→∀i∈is,clP T i c:=fun is=>by
  induction is with
  |nil=>intro c _ i hi;cases hi
  |cons j r ih=>
   intro c h i hi;rcases List.mem_cons.1 hi with rfl|hi
   ·exact h.1
   ·exact ih c h.2 i hi
 have hvt:∀i,l0.length≤i→i<T.length→(clAt T i).dst=none∧(clAt T i).eat=[]:=fun i h1 h2=>by
  simp only[checkF,Bool.and_eq_true]at hB;have:=List.all_eq_true.1 hB.1.2.1 i (List.mem_range.2 h2);simp only[Bool.or_eq_true,Bool.and_eq_true,Option.isNone_iff_eq_none,List.isEmpty_iff]at this;rcases this with h|h
  ·rw[Nat.blt_eq]at h;omega
  ·exact⟨h.1,h.2.2⟩
 have key := anyF (P := P) (Q := fun a w => ∃ l, a = fr l ∧ Q .normal (fr l) w) hB (fun i hi => stepsF_mem hs i (List.mem_range.2 hi)) (fun c w' hp hM' => by
  refine ⟨_, rfl, ?_⟩
  rw [hE, hL] at hM'
  rw [hM, hl]
  have := k c (allF_of fun i hi => hp i (by have := List.mem_range.1 hi; omega)) w' hM'
  unfold RY RS at this
  exact this) l0.length (Array.replicate l0.length false) (fun _ => d0) lb { w with drawn := w.drawn + 1 }
  (by
   unfold cntU
   rw [List.countP_eq_length.2 (fun i _ => by rw [hf i]; rfl), List.length_range])
  ⟨by simp, (by intro k ok _ h; rw [hf] at h; cases h), rfl, fun _ _ => rfl, (fun i hi h d hd => by
   rw [hdn] at h
   rw [(hvt i (Nat.le_of_ble_eq_true h) hi).1] at hd
   cases hd), (fun i hi h => by
   rw [hdn] at h
   have h := Nat.le_of_ble_eq_true h
   exact allV _ _ hp0 i (List.mem_map.2 ⟨i - l0.length, List.mem_range.2 (by omega), by omega⟩)), by
   have e : ((List.range T.length).filter fun j => dn l0.length (Array.replicate l0.length false) j && !(List.range T.length).any fun k => dn l0.length (Array.replicate l0.length false) k && hasN (clAt T k).eat j) = (List.range (T.length - l0.length)).map fun j => l0.length + j := by
    have e1 : ((List.range T.length).filter fun j => dn l0.length (Array.replicate l0.length false) j && !(List.range T.length).any fun k => dn l0.length (Array.replicate l0.length false) k && hasN (clAt T k).eat j) = (List.range T.length).filter fun j => Nat.ble l0.length j := List.filter_congr fun j _ => by
     rw [hdn]
     have : ((List.range T.length).any fun k => dn l0.length (Array.replicate l0.length false) k && hasN (clAt T k).eat j) = false := by
      rw [List.any_eq_false]
      intro k hk h
      rw [Bool.and_eq_true, hdn, hasN_iff] at h
      rw [(hvt k (Nat.le_of_ble_eq_true h.1) (List.mem_range.1 hk)).2] at h
      exact absurd h.2 (List.not_mem_nil)
     rw [this]
     simp
    rw [e1]
    obtain ⟨q, hq⟩ := Nat.le.dest hN
    rw [← hq, List.range_add, List.filter_append, show l0.length + q - l0.length = q by omega]
    rw [List.filter_eq_nil_iff.2 fun j hj => (by
     have := List.mem_range.1 hj
     intro h
     have := Nat.le_of_ble_eq_true h
     omega), List.nil_append]
    refine List.filter_eq_self.2 fun j hj => ?_
    obtain ⟨m, _, rfl⟩ := List.mem_map.1 hj
    exact Nat.ble_eq_true_of_le (by omega)
   rw [e, List.flatMap_map]
   exact Mm.grow ((Below.refl _ _).drew)⟩
 have h2:=wpAny_of_X (Q':=Q) (fun a w (h:∃l,a=fr l∧Q .normal (fr l) w)=>by obtain⟨l,rfl,h⟩:=h;exact h) l0.length (Array.replicate l0.length false) (fr lb) _ key;simpa using h2
theorem stepF.i{i:Nat}{o:Oper}(kd:Kd)(U K:(Nat→δ)→List Ent)(O:(Nat→δ)→δ→List Ent)(V:(Nat→δ)→δ→Value)(p:(Nat→δ)→Prop)(q:(Nat→δ)→δ→Prop)(M:(Nat→δ)→List (Nat×Value))(Jk:List Nat)(dd:Option Nat){l1:(Nat→δ)→(Nat→Value)→List Value}
  {L1:Ent→(Nat→δ)→List Ent}(h:∀F c v,p c→J S0 w0 (L1 F c) (RY S0 w0 .s P l0.toArray (fun l' w'=>∃x,q c x∧l'=putL dd (V c x) (l1 c v)∧Mem S0 w0 (O c x++(K c++F::L)) w') [(o,kd)] (l1 c v)))
  (hU:∀c,useF T i c=U c)(hK:∀c,keepF T i c=K c)(hO:∀c x,clO T i (put c i x)=O c x)(hV:∀c x,clV T i (put c i x)=V c x)(hp:∀c,(∀j∈(clAt T i).dep,clP T j c)→p c)(hq:∀c x,q c x→clP T i (put c i x))(hM:∀c,MF T i c=M c)(hJ:JF T i=Jk)(hd:(clAt T i).dst=dd)(ho:nth l0 i=o:=by dsimp only[nth])
  (hl:∀c v,upd (upd lb (M c)) (junk Jk v)=l1 c v:=by intro c v;simp only[upd,junk,List.map_cons,List.map_nil,List.set_cons_succ,List.set_cons_zero];exact rfl)
  (hL:∀F c,U c++F::L=L1 F c:=by intro F c;dsimp only[List.cons_append,List.nil_append]):stepF T S0 w0 L P l0 lb i:=fun F c v hpp=>by
 subst ho;unfold frF;rw[hM,hJ,hl,hU,hL];have:=h F c v (hp c hpp);unfold OutF;rw[hd,hK];intro w Mm;have h2:=this w Mm;unfold RY at h2⊢;have h2:RS P l0.toArray _ [nth l0 i] (l1 c v) w:=h2;show RS P l0.toArray _ [nth l0 i] (l1 c v) w;refine rs_mono (fun l' w' ⟨x,h1,h2,h3⟩=>⟨x,hq c x h1,?_,?_⟩) _ _ _ h2
 ·rw[hV];exact h2
 ·rw[hO];exact h3
theorem J.outF{δ:Type}{L' F:List Ent}{q:δ→Prop}{V:δ→Value}{O:δ→List Ent}{l l':List Value}{dd:Option Nat}(x:δ)(hq:q x)(hl:l'=putL dd (V x) l)(hs:(O x++F).Sublist L'):J S0 w0 L' (fun w'=>∃x,q x∧l'=putL dd (V x) l∧Mem S0 w0 (O x++F) w'):=fun w Mm=>⟨x,hq,hl,Mm.sub hs⟩
end
end G
namespace W
open Go.RowKit G
set_option maxRecDepth 20000
set_option maxHeartbeats 8000000
attribute [local irreducible] RS RX RY Code.wp bodyPost J Ent.blk Ent.iown Ent.wrow Ent.wown Ent.gown Ent.all Ent.emp
instance:Ents prog 66:=⟨.mk func66 (by kernel_rfl) rfl⟩
instance:Ents prog 71:=⟨.mk func71 (by kernel_rfl) rfl⟩
instance:Ents prog 73:=⟨.mk func73 (by kernel_rfl) rfl⟩
structure SnA where
 (b:Nat)(s:ShA)(a:Option Addr)(n:Nat)
instance:Inhabited SnA:=⟨⟨0,ShA.zero,none,0⟩⟩
theorem snOne{P:Program}{f:FuncId}{av:Array Value}{w w1:World}{v:ShA→Value}{p:ShA→Prop}(h:Calls P f av w1 (Gv w v (fun q=>shE q) p)):Calls P f av w1 (Gv w v (fun q=>[shW q]) p):=h.mono fun _ _ ⟨r,h1,h2,h3,h4⟩=>⟨r,h1,h2,h3,sep1 (all_i h4)⟩
theorem snForm{s:ShA}(h:ShK S.snV s):∃pa pn pc g ha hc,s=⟨pa,pn,pc,[g],ha,1,hc,S.hxX,1⟩∧g.P=S.snP:=by
 obtain⟨pa,pn,pc,gs,ha,hn,hc,hs,ver⟩:=s;have e:=h.V;have e1:gs.map GrA.P=[S.snP]:=congrArg S.ShV.ps e;obtain rfl:hn=1:=congrArg S.ShV.hn e;obtain rfl:hs=S.hxX:=congrArg S.ShV.hs e;obtain rfl:ver=1:=congrArg S.ShV.ver e;cases gs with
 |nil=>cases e1
 |cons g r=>cases r with
  |nil=>exact⟨pa,pn,pc,g,ha,hc,rfl,(List.cons.inj e1).1⟩
  |cons a b=>exact absurd (congrArg List.length e1) (by simp)
theorem snTwo:1≤6∧1≤100:=by decide
theorem snSz{g:GrA}(hg:g.P=S.snP):∀q∈[g],q.m≤70∧q.ops.length≤70:=fun q hq=>by
 obtain rfl:=List.mem_singleton.1 hq;have e1:q.m=1:=congrArg S.PG.m hg;have e2:q.ops=[S.hxO]:=congrArg S.PG.ops hg;rw[e1,e2];exact⟨by decide,by show 1≤70;decide⟩
theorem snV{g:GrA}{pa ha:Option Addr}{pn pc hn hc:Nat}{hs:List Int}{ver:Int}(hg:g.P=S.snP):(⟨pa,pn,pc,[g],ha,hn,hc,hs,ver⟩:ShA).V=⟨[S.snP],hn,hs,ver⟩:=by
 show(⟨[g.P],hn,hs,ver⟩:S.ShV)=_;rw[hg]
theorem snMix{S0:Nat→Prop}{w0:World}{L:List Ent}{gs0:List GrA}{F3:Ent→List Ent}[R3:RE L (.all (gs0.map grAll)) F3](hk:∀g∈gs0,GrK g)(hm:∀g∈gs0,g.m≤70∧g.ops.length≤70){pa:Option Addr}{pn pc:Nat}{gs:List GrA}{ha:Option Addr}{hn hc:Nat}{hs:List Int}{ver:Int}(hp:RG S0 w0 L (fun g:GrA=>grC g) 2 pa pn gs)(hr:RW S0 w0 L .u8 32 ha hn hs)(hg:∀g∈gs,g∈gs0∨g=GrA.nil∨∃g0∈gs0,g=⟨g0.ia,none,g0.m,0,g0.ic,0,g0.ids,[]⟩)(hc2:pn≤pc∧hn≤hc∧pn≤6∧hn≤100)(w:World)(M:Mem S0 w0 L w):ShR (fun _=>True) w ⟨pa,pn,pc,gs,ha,hn,hc,hs,ver⟩:=by
 obtain⟨A,a⟩:=hp w M;obtain⟨B,b⟩:=hr w M;obtain⟨C,_,c⟩:=M.get (R3.h (.all (gs0.map grAll))).same;have hi:∀g∈gs0,GrR (fun _=>True) w g:=fun g hg=>by
  obtain⟨S',_,k⟩:=sep_mem (List.mem_map.2 ⟨g,hg,rfl⟩) (all_e c);exact grAll_r k (hk g hg) (hm g hg)
 refine⟨a.weaken fun _ _ _=>trivial,fun g h=>?_,b.weaken fun _ _ _=>trivial,hc2⟩;rcases hg g h with h|rfl|⟨g0,h0,rfl⟩
 ·exact hi g h
 ·exact⟨WRow.nil,GRow.nil' opC_len,Inns.nil,(fun z hz=>by cases hz),by decide⟩
 have k:=hi g0 h0;exact⟨k.ids,GRow.nil' opC_len,Inns.nil,(fun z hz=>by cases hz),k.cap.1,Nat.le_refl _,k.cap.2.2.1,Nat.zero_le _⟩
theorem snNils{S0:Nat→Prop}{w0:World}{L:List Ent}{pa:Option Addr}{pn pc:Nat}{gs:List GrA}(hp:RG S0 w0 L (fun g:GrA=>grC g) 2 pa pn gs)(hg:∀g∈gs,g=GrA.nil)(hc:pn≤pc∧pn≤6)(w:World)(M:Mem S0 w0 L w):ShR (fun _=>True) w ⟨pa,pn,pc,gs,none,0,0,[],0⟩:=by
 obtain⟨A,a⟩:=hp w M;refine⟨a.weaken fun _ _ _=>trivial,fun g h=>?_,WRow.nil,hc.1,Nat.le_refl _,hc.2,Nat.zero_le _⟩;obtain rfl:=hg g h;exact⟨WRow.nil,GRow.nil' opC_len,Inns.nil,(fun z hz=>by cases hz),by decide⟩
theorem snShort{g:GrA}(hg:g.P=S.snP){pa ha:Option Addr}{pn pc hn hc:Nat}{hs:List Int}{ver:Int}:(⟨pa,pn,pc,[⟨g.ia,none,g.m,0,g.ic,0,g.ids,[]⟩],ha,hn,hc,hs,ver⟩:ShA).V=⟨[⟨1,S.hxX,[]⟩],hn,hs,ver⟩:=by
 have e1:g.m=1:=congrArg S.PG.m hg;have e2:g.ids=S.hxX:=congrArg S.PG.ids hg;show(⟨[⟨g.m,g.ids,[]⟩],hn,hs,ver⟩:S.ShV)=_;rw[e1,e2]
theorem snRW0{S0:Nat→Prop}{w0:World}{L:List Ent}:RW S0 w0 L .u8 32 none 0 []:=fun w M=>⟨no,WRow.nil⟩
theorem snZ(w:World):ShR no w ShA.zero:=⟨GRow.nil' grC_len,(fun g hg=>by cases hg),WRow.nil,by decide⟩
theorem snCheckE{S0:Nat→Prop}(s:ShA)(TK:TypeId)(w:World)(K0:Kst w TK)(H:ShR S0 w s){v:S.ShV}{e:Int}(hv:s.V=v)(hn:S.allN v.ps≤64)(he:S.chkH v=e):
  Calls prog 68 #[.agg (shC s).toArray] w (Ret w fun u _=>u= .int .i64 e):=by
 subst hv he;exact shCheck s TK w K0 H fun _=>hn
theorem snGetE{S0:Nat→Prop}(s:ShA)(x:List Int)(TK:TypeId)(w:World)(K0:Kst w TK)(H:ShR S0 w s)(hx:Arr .u8 32 x){v:S.ShV}{e:Int}{o:S.OpV}(hv:s.V=v)(hn:S.allN v.ps≤64)(he:S.gtE v x=e)(ho:S.gtO v x=o):
  Calls prog 66 #[.agg (shC s).toArray, .agg (ints .u8 x).toArray] w (Gv w (fun q:Option Addr×Nat=> .tuple #[.agg (opC ⟨o,q.1,q.2⟩).toArray, .int .i64 e]) (fun q=>[.wrow .u8 32 q.1 o.n o.ids]) fun q=>o.n≤q.2):=by
 subst hv he ho;exact(shGet s x TK w K0 H (fun _=>hn) hx).mono fun _ _ ⟨⟨o,pa,pc⟩,h1,⟨h2,h2'⟩,h3,h4⟩=>by
  dsimp only at h1 h2 h2' h4;subst h2';exact⟨(pa,pc),h1,h2,h3,h4⟩
theorem snPut{o:S.OpV}{e:Int}(h:S.puE S.snV o=e)(he:e≠0):S.puI S.snV o=List.replicate 32 0∧S.puS S.snV o=S.ShV.zero:=by
 have h1:S.puE S.snV o=S.addE (S.whole S.snV.ps) o:=if_pos S.sn_okR;obtain⟨_,b,c⟩:=S.pu_no (v:=S.snV) S.sn_okR (h1.symm.trans h) he;exact⟨c,b⟩
theorem snPutE{S0 S1:Nat→Prop}(q:ShA)(o:S.OpV)(pa:Option Addr)(pc:Nat)(TK:TypeId)(w:World)(K0:Kst w TK)(hv:q.V=S.snV)(H:ShR S0 w q)(ho:o.ok)(D:WRow .u8 32 S1 w pa o.n o.ids)(hc:o.n≤pc){e:Int}(h1:S.puE S.snV o=e)(he:e≠0):
  Calls prog 64 #[.agg (shC q).toArray, .agg (opC ⟨o,pa,pc⟩).toArray] w (Gv w (fun r:ShA=> .tuple #[.agg (shC r).toArray, .agg (ints .u8 (List.replicate 32 0)).toArray, .int .i64 e]) (fun r=>[shW r]) (ShK S.ShV.zero)):=
 snOne (putX q _ o pa pc TK w K0 hv H (fun _=>by rw[hv];decide) ho D hc h1 (snPut h1 he).1 (snPut h1 he).2)
theorem snU{S0:Nat→Prop}(a:Option Addr)(TK:TypeId)(w:World)(K0:Kst w TK)(D0:WRow .u8 32 S0 w a 1 S.snX):Calls prog 65 #[.int .u32 2, .slice a 1 1] w (Gv w (fun q:Option Addr×Nat=> .agg (opC ⟨S.snU,q.1,q.2⟩).toArray) (fun q=>[.wrow .u8 32 q.1 1 S.snX]) fun q=>1≤q.2):=
 (shSigned 2 (by decide) a 1 1 S.snX TK w K0 S.sn_okB D0 (Nat.le_refl _)).mono fun _ w' ⟨⟨o,pa,pc⟩,h1,⟨hc,e⟩,h3,h4⟩=>by
  obtain rfl:o=S.snU:=e.trans S.sn_sign;exact⟨(pa,pc),h1,hc,h3,h4⟩
def snXi:List Int:=S.hxX.set 3 ((S.hxX.getD 3 0+1) % 256)
theorem snXi_bd:Bd .u8 snXi:=by
 have h:=up_bd (l:=[⟨S.hxX,rfl⟩]) (i:=0) (x:=⟨S.hxX,rfl⟩) (by rw[show flatI [⟨S.hxX,rfl⟩]=S.hxX by decide];exact S.hx_arrX.2) 3 rfl;rwa[show flatI (List.set [⟨S.hxX,rfl⟩] 0 (idUp 3 ⟨S.hxX,rfl⟩))=snXi by decide]at h
theorem snTwinE{S0:Nat→Prop}(s:ShA)(w:World)(H:ShR S0 w s)(hv:s.V=S.snV):Calls prog 67 #[.agg (shC s).toArray] w (Gv w (fun q:ShA=> .agg (shC q).toArray) (fun q=>shE q) (ShK S.snV)):=by
 have h:=refShTwin s w H;rwa[hv]at h
theorem shardNames(TK:TypeId)(w:World)(K0:Kst w TK):Calls prog 10 #[] w (Ret w fun v _=>v= .bool true):=by
 have hX:=S.hx_arrX;refine J.enter 288 func10 rfl rfl ?_;refine run ?_;refine J.call rfl rfl (fun w' M=>snOne (shNew 0 w')) fun u1 hu1=>?_
 rw[S.sn_nw.1];refine run ?_;refine J.alloc rfl fun b1=>?_
 refine run ?_;refine J.call rfl rfl (fun w' M=>snOne (shNew 5 w')) fun u2 hu2=>?_
 rw[S.sn_nw.2.1];refine run ?_;refine J.alloc rfl fun b3=>?_
 refine run ?_;refine J.call rfl rfl (fun w' M=>snOne (shNew 1 w')) fun s1 hs1=>?_
 rw[S.sn_nw.2.2.1];have hs1:ShK (S.madeS .nil 1) s1:=by
  have h:ShK (S.nwS 1) s1:=hs1;rwa[S.sn_nw.2.2.2]at h
 have z1:=hs1.sz (Nat.zero_le _) (by decide);refine run ?_;refine J.alloc rfl fun b5=>?_
 refine run ?_;refine J.drop (E:=[.blk b5 (shC s1) 53,shW s1]) sb ?_
 refine J.regionF (δ:=SnA) (default) [⟨some 55,fun c=> .agg (shC s1).toArray,fun c=>[],fun c=>True,[],[],[]⟩,⟨some 56,fun c=> .agg (opC ⟨S.hxO,(c 1).a,(c 1).n⟩).toArray,fun c=>[.wrow .u8 32 (c 1).a 0 []],fun c=>True,[],[],[]⟩,⟨some 57,fun c=> .tuple #[.agg (shC (c 2).s).toArray, .agg (ints .u8 S.hxX).toArray, .int .i64 0],fun c=>[.gown (fun g:GrA=>grC g) 2 43 (c 2).s.pa (c 2).s.pn (c 2).s.pc (c 2).s.gs, .all ((c 2).s.gs.map grAll), .wown 24 .u8 32 (c 2).s.ha (c 2).s.hn (c 2).s.hc (c 2).s.hs],fun c=>ShK S.snV (c 2).s,[0,1],[1],[]⟩,⟨some 54,fun c=> .tuple #[.agg (shC (c 2).s).toArray, .agg (ints .u8 S.hxX).toArray, .int .i64 0],fun c=>[],fun c=>True,[2],[],[]⟩,⟨some 58,fun c=> .agg (shC (c 2).s).toArray,fun c=>[],fun c=>True,[2,3],[],[]⟩,⟨some 59,fun c=> .agg (ints .u8 S.hxX).toArray,fun c=>[],fun c=>True,[3],[],[]⟩,⟨some 60,fun c=> .int .i64 0,fun c=>[],fun c=>True,[3],[],[]⟩,⟨some 7,fun c=> .pointer (some ⟨(c 7).b,0,none⟩),fun c=>[.blk (c 7).b [.slice none 0 0, .slice none 0 0, .int .i64 0] 53],fun c=>True,[],[],[]⟩,⟨some 8,fun c=> .pointer (some ⟨(c 8).b,0,none⟩),fun c=>[.blk (c 8).b (ints .u8 (List.replicate 32 0)) 24],fun c=>True,[],[],[]⟩,⟨none,fun c=>undef,fun c=>[.blk (c 7).b (shC (c 2).s) 53],fun c=>True,[2,4,7],[7],[7]⟩,⟨none,fun c=>undef,fun c=>[.blk (c 8).b (ints .u8 S.hxX) 24],fun c=>True,[5,8],[8],[8]⟩,⟨some 9,fun c=> .int .i64 0,fun c=>[],fun c=>True,[6],[],[]⟩] [] (fun c=>[(55, .agg (shC s1).toArray),(56, .agg (opC ⟨S.hxO,(c 1).a,(c 1).n⟩).toArray),(57, .tuple #[.agg (shC (c 2).s).toArray, .agg (ints .u8 S.hxX).toArray, .int .i64 0]),(54, .tuple #[.agg (shC (c 2).s).toArray, .agg (ints .u8 S.hxX).toArray, .int .i64 0]),(58, .agg (shC (c 2).s).toArray),(59, .agg (ints .u8 S.hxX).toArray),(60, .int .i64 0),(7, .pointer (some ⟨(c 7).b,0,none⟩)),(8, .pointer (some ⟨(c 8).b,0,none⟩)),(9, .int .i64 0)]) (fun c=>[.wrow .u8 32 (c 1).a 0 [], .gown (fun g:GrA=>grC g) 2 43 (c 2).s.pa (c 2).s.pn (c 2).s.pc (c 2).s.gs, .all ((c 2).s.gs.map grAll), .wown 24 .u8 32 (c 2).s.ha (c 2).s.hn (c 2).s.hc (c 2).s.hs, .blk (c 7).b (shC (c 2).s) 53, .blk (c 8).b (ints .u8 S.hxX) 24]) mixed (by kernel_rfl) rfl trivial ⟨?_,?_,?_,?_,?_,?_,?_,?_,?_,?_,?_,?_,trivial⟩ (fun _=>rfl) (fun _=>rfl) (fun c hp=>?_)
 ·refine stepF.i .q (fun c=>[]) (fun c=>[]) (fun c x=>[]) (fun c x=> .agg (shC s1).toArray) (fun c=>True) (fun c x=>True) (fun c=>[]) [55,56,57,54,58,59,60,7,8,9] (some 55) (fun F c v hp=>?_) (fun _=>rfl) (fun _=>rfl) (fun _ _=>rfl) (fun _ _=>rfl) (fun c h=>trivial) (fun c x h=>h) (fun _=>rfl) rfl rfl;refine run ?_
  (refine J.nil ?_;exact J.outF (default) (trivial) rfl (by(try dsimp only[List.cons_append,List.nil_append]);repeat(first|exact List.nil_sublist _|exact List.Sublist.refl _|refine List.Sublist.cons_cons _ ?_|refine List.Sublist.cons _ ?_)))
 ·refine stepF.i .e (fun c=>[]) (fun c=>[]) (fun c x=>[.wrow .u8 32 (x).a 0 []]) (fun c x=> .agg (opC ⟨S.hxO,(x).a,(x).n⟩).toArray) (fun c=>True) (fun c x=>True) (fun c=>[]) [55,56,57,54,58,59,60,7,8,9] (some 56) (fun F c v hp=>?_) (fun _=>rfl) (fun _=>rfl) (fun _ _=>rfl) (fun _ _=>rfl) (fun c h=>trivial) (fun c x h=>h) (fun _=>rfl) rfl rfl;refine run ?_;refine J.call rfl rfl (fun w' M=>shA TK w' (K0.ext M.ext)) fun z _=>?_
  (refine J.nil ?_;exact J.outF (⟨0,ShA.zero,z.1,z.2⟩) (trivial) rfl (by(try dsimp only[List.cons_append,List.nil_append]);repeat(first|exact List.nil_sublist _|exact List.Sublist.refl _|refine List.Sublist.cons_cons _ ?_|refine List.Sublist.cons _ ?_)))
 ·refine stepF.i .e (fun c=>[.wrow .u8 32 (c 1).a 0 []]) (fun c=>[.wrow .u8 32 (c 1).a 0 []]) (fun c x=>[.gown (fun g:GrA=>grC g) 2 43 (x).s.pa (x).s.pn (x).s.pc (x).s.gs, .all ((x).s.gs.map grAll), .wown 24 .u8 32 (x).s.ha (x).s.hn (x).s.hc (x).s.hs]) (fun c x=> .tuple #[.agg (shC (x).s).toArray, .agg (ints .u8 S.hxX).toArray, .int .i64 0]) (fun c=>True) (fun c x=>ShK S.snV (x).s) (fun c=>[(55, .agg (shC s1).toArray),(56, .agg (opC ⟨S.hxO,(c 1).a,(c 1).n⟩).toArray)]) [57,54,58,59,60,7,8,9] (some 57) (fun F c v hp=>?_) (fun _=>rfl) (fun _=>rfl) (fun _ _=>rfl) (fun _ _=>rfl) (fun c h=>trivial) (fun c x h=>h) (fun _=>rfl) rfl rfl;refine run ?_;refine J.call rfl rfl (fun w' M=>(RW.row' (a:=(c 1).a) w' M).elim fun _ k=>putX s1 _ S.hxO (c 1).a (c 1).n TK w' (K0.ext M.ext) hs1.V (ShR.ownB hs1.k z1.1 z1.2 w' M) (hs1.L S.nil_fine) S.hx_okO k (Nat.zero_le _) S.sn_put.1 S.sn_put.2.1 S.sn_put.2.2) fun q hq=>?_
  (refine J.nil ?_;exact J.outF (⟨0,q,none,0⟩) (hq) rfl (by(try dsimp only[List.cons_append,List.nil_append]);repeat(first|exact List.nil_sublist _|exact List.Sublist.refl _|refine List.Sublist.cons_cons _ ?_|refine List.Sublist.cons _ ?_)))
 ·refine stepF.i .q (fun c=>[]) (fun c=>[]) (fun c x=>[]) (fun c x=> .tuple #[.agg (shC (c 2).s).toArray, .agg (ints .u8 S.hxX).toArray, .int .i64 0]) (fun c=>(ShK S.snV (c 2).s)∧True) (fun c x=>True) (fun c=>[(57, .tuple #[.agg (shC (c 2).s).toArray, .agg (ints .u8 S.hxX).toArray, .int .i64 0])]) [55,56,54,58,59,60,7,8,9] (some 54) (fun F c v hp=>?_) (fun _=>rfl) (fun _=>rfl) (fun _ _=>rfl) (fun _ _=>rfl) (fun c h=>⟨h 2 (hasN_iff.1 rfl),trivial⟩) (fun c x h=>h) (fun _=>rfl) rfl rfl;obtain⟨hs,_⟩:=hp;refine run ?_
  (refine J.nil ?_;exact J.outF (default) (trivial) rfl (by(try dsimp only[List.cons_append,List.nil_append]);repeat(first|exact List.nil_sublist _|exact List.Sublist.refl _|refine List.Sublist.cons_cons _ ?_|refine List.Sublist.cons _ ?_)))
 ·refine stepF.i .q (fun c=>[]) (fun c=>[]) (fun c x=>[]) (fun c x=> .agg (shC (c 2).s).toArray) (fun c=>(ShK S.snV (c 2).s)∧True) (fun c x=>True) (fun c=>[(57, .tuple #[.agg (shC (c 2).s).toArray, .agg (ints .u8 S.hxX).toArray, .int .i64 0]),(54, .tuple #[.agg (shC (c 2).s).toArray, .agg (ints .u8 S.hxX).toArray, .int .i64 0])]) [55,56,58,59,60,7,8,9] (some 58) (fun F c v hp=>?_) (fun _=>rfl) (fun _=>rfl) (fun _ _=>rfl) (fun _ _=>rfl) (fun c h=>⟨h 2 (hasN_iff.1 rfl),trivial⟩) (fun c x h=>h) (fun _=>rfl) rfl rfl;obtain⟨hs,_⟩:=hp;refine run ?_
  (refine J.nil ?_;exact J.outF (default) (trivial) rfl (by(try dsimp only[List.cons_append,List.nil_append]);repeat(first|exact List.nil_sublist _|exact List.Sublist.refl _|refine List.Sublist.cons_cons _ ?_|refine List.Sublist.cons _ ?_)))
 ·refine stepF.i .q (fun c=>[]) (fun c=>[]) (fun c x=>[]) (fun c x=> .agg (ints .u8 S.hxX).toArray) (fun c=>True) (fun c x=>True) (fun c=>[(54, .tuple #[.agg (shC (c 2).s).toArray, .agg (ints .u8 S.hxX).toArray, .int .i64 0])]) [55,56,57,58,59,60,7,8,9] (some 59) (fun F c v hp=>?_) (fun _=>rfl) (fun _=>rfl) (fun _ _=>rfl) (fun _ _=>rfl) (fun c h=>trivial) (fun c x h=>h) (fun _=>rfl) rfl rfl;refine run ?_
  (refine J.nil ?_;exact J.outF (default) (trivial) rfl (by(try dsimp only[List.cons_append,List.nil_append]);repeat(first|exact List.nil_sublist _|exact List.Sublist.refl _|refine List.Sublist.cons_cons _ ?_|refine List.Sublist.cons _ ?_)))
 ·refine stepF.i .q (fun c=>[]) (fun c=>[]) (fun c x=>[]) (fun c x=> .int .i64 0) (fun c=>True) (fun c x=>True) (fun c=>[(54, .tuple #[.agg (shC (c 2).s).toArray, .agg (ints .u8 S.hxX).toArray, .int .i64 0])]) [55,56,57,58,59,60,7,8,9] (some 60) (fun F c v hp=>?_) (fun _=>rfl) (fun _=>rfl) (fun _ _=>rfl) (fun _ _=>rfl) (fun c h=>trivial) (fun c x h=>h) (fun _=>rfl) rfl rfl;refine run ?_
  (refine J.nil ?_;exact J.outF (default) (trivial) rfl (by(try dsimp only[List.cons_append,List.nil_append]);repeat(first|exact List.nil_sublist _|exact List.Sublist.refl _|refine List.Sublist.cons_cons _ ?_|refine List.Sublist.cons _ ?_)))
 ·refine stepF.i .e (fun c=>[]) (fun c=>[]) (fun c x=>[.blk (x).b [.slice none 0 0, .slice none 0 0, .int .i64 0] 53]) (fun c x=> .pointer (some ⟨(x).b,0,none⟩)) (fun c=>True) (fun c x=>True) (fun c=>[]) [55,56,57,54,58,59,60,7,8,9] (some 7) (fun F c v hp=>?_) (fun _=>rfl) (fun _=>rfl) (fun _ _=>rfl) (fun _ _=>rfl) (fun c h=>trivial) (fun c x h=>h) (fun _=>rfl) rfl rfl;refine run ?_;refine J.alloc rfl fun b=>?_
  (refine J.nil ?_;exact J.outF (⟨b,ShA.zero,none,0⟩) (trivial) rfl (by(try dsimp only[List.cons_append,List.nil_append]);repeat(first|exact List.nil_sublist _|exact List.Sublist.refl _|refine List.Sublist.cons_cons _ ?_|refine List.Sublist.cons _ ?_)))
 ·refine stepF.i .e (fun c=>[]) (fun c=>[]) (fun c x=>[.blk (x).b (ints .u8 (List.replicate 32 0)) 24]) (fun c x=> .pointer (some ⟨(x).b,0,none⟩)) (fun c=>True) (fun c x=>True) (fun c=>[]) [55,56,57,54,58,59,60,7,8,9] (some 8) (fun F c v hp=>?_) (fun _=>rfl) (fun _=>rfl) (fun _ _=>rfl) (fun _ _=>rfl) (fun c h=>trivial) (fun c x h=>h) (fun _=>rfl) rfl rfl;refine run ?_;refine J.alloc rfl fun b=>?_
  (refine J.nil ?_;exact J.outF (⟨b,ShA.zero,none,0⟩) (trivial) rfl (by(try dsimp only[List.cons_append,List.nil_append]);repeat(first|exact List.nil_sublist _|exact List.Sublist.refl _|refine List.Sublist.cons_cons _ ?_|refine List.Sublist.cons _ ?_)))
 ·refine stepF.i .e (fun c=>[.blk (c 7).b [.slice none 0 0, .slice none 0 0, .int .i64 0] 53]) (fun c=>[]) (fun c x=>[.blk (c 7).b (shC (c 2).s) 53]) (fun c x=>undef) (fun c=>(ShK S.snV (c 2).s)∧True) (fun c x=>True) (fun c=>[(57, .tuple #[.agg (shC (c 2).s).toArray, .agg (ints .u8 S.hxX).toArray, .int .i64 0]),(58, .agg (shC (c 2).s).toArray),(7, .pointer (some ⟨(c 7).b,0,none⟩))]) [55,56,54,59,60,8,9] (none) (fun F c v hp=>?_) (fun _=>rfl) (fun _=>rfl) (fun _ _=>rfl) (fun _ _=>rfl) (fun c h=>⟨h 2 (hasN_iff.1 rfl),trivial⟩) (fun c x h=>h) (fun _=>rfl) rfl rfl;obtain⟨hs,_⟩:=hp;refine run ?_
  (refine J.nil ?_;exact J.outF (default) (trivial) rfl (by(try dsimp only[List.cons_append,List.nil_append]);repeat(first|exact List.nil_sublist _|exact List.Sublist.refl _|refine List.Sublist.cons_cons _ ?_|refine List.Sublist.cons _ ?_)))
 ·refine stepF.i .e (fun c=>[.blk (c 8).b (ints .u8 (List.replicate 32 0)) 24]) (fun c=>[]) (fun c x=>[.blk (c 8).b (ints .u8 S.hxX) 24]) (fun c x=>undef) (fun c=>True) (fun c x=>True) (fun c=>[(59, .agg (ints .u8 S.hxX).toArray),(8, .pointer (some ⟨(c 8).b,0,none⟩))]) [55,56,57,54,58,60,7,9] (none) (fun F c v hp=>?_) (fun _=>rfl) (fun _=>rfl) (fun _ _=>rfl) (fun _ _=>rfl) (fun c h=>trivial) (fun c x h=>h) (fun _=>rfl) rfl rfl;refine run ?_
  (refine J.nil ?_;exact J.outF (default) (trivial) rfl (by(try dsimp only[List.cons_append,List.nil_append]);repeat(first|exact List.nil_sublist _|exact List.Sublist.refl _|refine List.Sublist.cons_cons _ ?_|refine List.Sublist.cons _ ?_)))
 ·refine stepF.i .q (fun c=>[]) (fun c=>[]) (fun c x=>[]) (fun c x=> .int .i64 0) (fun c=>True) (fun c x=>True) (fun c=>[(60, .int .i64 0)]) [55,56,57,54,58,59,7,8,9] (some 9) (fun F c v hp=>?_) (fun _=>rfl) (fun _=>rfl) (fun _ _=>rfl) (fun _ _=>rfl) (fun c h=>trivial) (fun c x h=>h) (fun _=>rfl) rfl rfl;refine run ?_
  (refine J.nil ?_;exact J.outF (default) (trivial) rfl (by(try dsimp only[List.cons_append,List.nil_append]);repeat(first|exact List.nil_sublist _|exact List.Sublist.refl _|refine List.Sublist.cons_cons _ ?_|refine List.Sublist.cons _ ?_)))
 obtain⟨-, -,(hs:ShK S.snV (c 2).s), -, -, -, -, -, -, -, -, -, -⟩:=hp;generalize c 2=u2 at*;generalize c 7=u7 at*;generalize c 8=u8 at*;obtain⟨_,s,_,_⟩:=u2;obtain⟨b7,_,_,_⟩:=u7;obtain⟨b8,_,_,_⟩:=u8;dsimp only at hs⊢;obtain⟨pa,pn,pc,g,ha,hc,rfl,hg⟩:=snForm hs;dsimp only;refine J.fact (.gown (fun g:GrA=>grC g) 2 43 pa pn pc [g]) (fun _ _ h=>(gown_e h).1.len) fun hpn=>?_
 obtain rfl:pn=1:=hpn.symm;have hk:=hs.k;have hm:=snSz hg;have hV:(⟨pa,1,pc,[g],ha,1,hc,S.hxX,1⟩:ShA).V=S.snV:=snV hg;refine run ?_;refine J.drop (E:=[.gown (fun g:GrA=>grC g) 2 43 pa 1 pc [g], .all ([g].map grAll), .wown 24 .u8 32 ha 1 hc S.hxX, .blk b7 (shC ⟨pa,1,pc,[g],ha,1,hc,S.hxX,1⟩) 53, .blk b8 (ints .u8 S.hxX) 24]) sb ?_
 refine J.regionF (δ:=SnA) (default) [⟨some 62,fun c=> .agg (shC ⟨pa,1,pc,[g],ha,1,hc,S.hxX,1⟩).toArray,fun c=>[],fun c=>True,[],[],[]⟩,⟨some 63,fun c=> .agg (opC ⟨S.hxO,(c 1).a,(c 1).n⟩).toArray,fun c=>[.wrow .u8 32 (c 1).a 0 []],fun c=>True,[],[],[]⟩,⟨some 64,fun c=> .tuple #[.agg (shC (c 2).s).toArray, .agg (ints .u8 (List.replicate 32 0)).toArray, .int .i64 14],fun c=>[],fun c=>True,[0,1],[1],[]⟩,⟨some 61,fun c=> .tuple #[.agg (shC (c 2).s).toArray, .agg (ints .u8 (List.replicate 32 0)).toArray, .int .i64 14],fun c=>[],fun c=>True,[2],[],[]⟩,⟨some 65,fun c=> .agg (shC (c 2).s).toArray,fun c=>[],fun c=>True,[2,3],[],[]⟩,⟨some 66,fun c=> .agg (ints .u8 (List.replicate 32 0)).toArray,fun c=>[],fun c=>True,[3],[],[]⟩,⟨some 67,fun c=> .int .i64 14,fun c=>[],fun c=>True,[3],[],[]⟩,⟨some 10,fun c=> .pointer (some ⟨(c 7).b,0,none⟩),fun c=>[.blk (c 7).b [.slice none 0 0, .slice none 0 0, .int .i64 0] 53],fun c=>True,[],[],[]⟩,⟨some 11,fun c=> .pointer (some ⟨(c 8).b,0,none⟩),fun c=>[.blk (c 8).b (ints .u8 (List.replicate 32 0)) 24],fun c=>True,[],[],[]⟩,⟨none,fun c=>undef,fun c=>[],fun c=>True,[2,4,7],[7],[7]⟩,⟨none,fun c=>undef,fun c=>[],fun c=>True,[5,8],[8],[8]⟩,⟨some 12,fun c=> .int .i64 14,fun c=>[],fun c=>True,[6],[],[]⟩] [] (fun c=>[(62, .agg (shC ⟨pa,1,pc,[g],ha,1,hc,S.hxX,1⟩).toArray),(63, .agg (opC ⟨S.hxO,(c 1).a,(c 1).n⟩).toArray),(64, .tuple #[.agg (shC (c 2).s).toArray, .agg (ints .u8 (List.replicate 32 0)).toArray, .int .i64 14]),(61, .tuple #[.agg (shC (c 2).s).toArray, .agg (ints .u8 (List.replicate 32 0)).toArray, .int .i64 14]),(65, .agg (shC (c 2).s).toArray),(66, .agg (ints .u8 (List.replicate 32 0)).toArray),(67, .int .i64 14),(10, .pointer (some ⟨(c 7).b,0,none⟩)),(11, .pointer (some ⟨(c 8).b,0,none⟩)),(12, .int .i64 14)]) (fun c=>[.wrow .u8 32 (c 1).a 0 []]) mixed (by kernel_rfl) rfl trivial ⟨?_,?_,?_,?_,?_,?_,?_,?_,?_,?_,?_,?_,trivial⟩ (fun _=>rfl) (fun _=>rfl) (fun c hp=>?_)
 ·refine stepF.i .q (fun c=>[]) (fun c=>[]) (fun c x=>[]) (fun c x=> .agg (shC ⟨pa,1,pc,[g],ha,1,hc,S.hxX,1⟩).toArray) (fun c=>True) (fun c x=>True) (fun c=>[]) [62,63,64,61,65,66,67,10,11,12] (some 62) (fun F c v hp=>?_) (fun _=>rfl) (fun _=>rfl) (fun _ _=>rfl) (fun _ _=>rfl) (fun c h=>trivial) (fun c x h=>h) (fun _=>rfl) rfl rfl;refine run ?_
  (refine J.nil ?_;exact J.outF (default) (trivial) rfl (by(try dsimp only[List.cons_append,List.nil_append]);repeat(first|exact List.nil_sublist _|exact List.Sublist.refl _|refine List.Sublist.cons_cons _ ?_|refine List.Sublist.cons _ ?_)))
 ·refine stepF.i .e (fun c=>[]) (fun c=>[]) (fun c x=>[.wrow .u8 32 (x).a 0 []]) (fun c x=> .agg (opC ⟨S.hxO,(x).a,(x).n⟩).toArray) (fun c=>True) (fun c x=>True) (fun c=>[]) [62,63,64,61,65,66,67,10,11,12] (some 63) (fun F c v hp=>?_) (fun _=>rfl) (fun _=>rfl) (fun _ _=>rfl) (fun _ _=>rfl) (fun c h=>trivial) (fun c x h=>h) (fun _=>rfl) rfl rfl;refine run ?_;refine J.call rfl rfl (fun w' M=>shA TK w' (K0.ext M.ext)) fun z _=>?_
  (refine J.nil ?_;exact J.outF (⟨0,ShA.zero,z.1,z.2⟩) (trivial) rfl (by(try dsimp only[List.cons_append,List.nil_append]);repeat(first|exact List.nil_sublist _|exact List.Sublist.refl _|refine List.Sublist.cons_cons _ ?_|refine List.Sublist.cons _ ?_)))
 ·refine stepF.i .e (fun c=>[.wrow .u8 32 (c 1).a 0 []]) (fun c=>[.wrow .u8 32 (c 1).a 0 []]) (fun c x=>[]) (fun c x=> .tuple #[.agg (shC (x).s).toArray, .agg (ints .u8 (List.replicate 32 0)).toArray, .int .i64 14]) (fun c=>True) (fun c x=>True) (fun c=>[(62, .agg (shC ⟨pa,1,pc,[g],ha,1,hc,S.hxX,1⟩).toArray),(63, .agg (opC ⟨S.hxO,(c 1).a,(c 1).n⟩).toArray)]) [64,61,65,66,67,10,11,12] (some 64) (fun F c v hp=>?_) (fun _=>rfl) (fun _=>rfl) (fun _ _=>rfl) (fun _ _=>rfl) (fun c h=>trivial) (fun c x h=>h) (fun _=>rfl) rfl rfl;refine run ?_;refine J.call rfl rfl (fun w' M=>(RW.row' (a:=(c 1).a) w' M).elim fun _ k=>snPutE ⟨pa,1,pc,[g],ha,1,hc,S.hxX,1⟩ S.hxO (c 1).a (c 1).n TK w' (K0.ext M.ext) hV (ShR.own (s:=⟨pa,1,pc,[g],ha,1,hc,S.hxX,1⟩) hk hm snTwo w' M) S.hx_okO k (Nat.zero_le _) S.sn_twice (by decide)) fun q hq=>?_
  (refine J.nil ?_;exact J.outF (⟨0,q,none,0⟩) (trivial) rfl (by(try dsimp only[List.cons_append,List.nil_append]);repeat(first|exact List.nil_sublist _|exact List.Sublist.refl _|refine List.Sublist.cons_cons _ ?_|refine List.Sublist.cons _ ?_)))
 ·refine stepF.i .q (fun c=>[]) (fun c=>[]) (fun c x=>[]) (fun c x=> .tuple #[.agg (shC (c 2).s).toArray, .agg (ints .u8 (List.replicate 32 0)).toArray, .int .i64 14]) (fun c=>True) (fun c x=>True) (fun c=>[(64, .tuple #[.agg (shC (c 2).s).toArray, .agg (ints .u8 (List.replicate 32 0)).toArray, .int .i64 14])]) [62,63,61,65,66,67,10,11,12] (some 61) (fun F c v hp=>?_) (fun _=>rfl) (fun _=>rfl) (fun _ _=>rfl) (fun _ _=>rfl) (fun c h=>trivial) (fun c x h=>h) (fun _=>rfl) rfl rfl;refine run ?_
  (refine J.nil ?_;exact J.outF (default) (trivial) rfl (by(try dsimp only[List.cons_append,List.nil_append]);repeat(first|exact List.nil_sublist _|exact List.Sublist.refl _|refine List.Sublist.cons_cons _ ?_|refine List.Sublist.cons _ ?_)))
 ·refine stepF.i .q (fun c=>[]) (fun c=>[]) (fun c x=>[]) (fun c x=> .agg (shC (c 2).s).toArray) (fun c=>True) (fun c x=>True) (fun c=>[(64, .tuple #[.agg (shC (c 2).s).toArray, .agg (ints .u8 (List.replicate 32 0)).toArray, .int .i64 14]),(61, .tuple #[.agg (shC (c 2).s).toArray, .agg (ints .u8 (List.replicate 32 0)).toArray, .int .i64 14])]) [62,63,65,66,67,10,11,12] (some 65) (fun F c v hp=>?_) (fun _=>rfl) (fun _=>rfl) (fun _ _=>rfl) (fun _ _=>rfl) (fun c h=>trivial) (fun c x h=>h) (fun _=>rfl) rfl rfl;refine run ?_
  (refine J.nil ?_;exact J.outF (default) (trivial) rfl (by(try dsimp only[List.cons_append,List.nil_append]);repeat(first|exact List.nil_sublist _|exact List.Sublist.refl _|refine List.Sublist.cons_cons _ ?_|refine List.Sublist.cons _ ?_)))
 ·refine stepF.i .q (fun c=>[]) (fun c=>[]) (fun c x=>[]) (fun c x=> .agg (ints .u8 (List.replicate 32 0)).toArray) (fun c=>True) (fun c x=>True) (fun c=>[(61, .tuple #[.agg (shC (c 2).s).toArray, .agg (ints .u8 (List.replicate 32 0)).toArray, .int .i64 14])]) [62,63,64,65,66,67,10,11,12] (some 66) (fun F c v hp=>?_) (fun _=>rfl) (fun _=>rfl) (fun _ _=>rfl) (fun _ _=>rfl) (fun c h=>trivial) (fun c x h=>h) (fun _=>rfl) rfl rfl;refine run ?_
  (refine J.nil ?_;exact J.outF (default) (trivial) rfl (by(try dsimp only[List.cons_append,List.nil_append]);repeat(first|exact List.nil_sublist _|exact List.Sublist.refl _|refine List.Sublist.cons_cons _ ?_|refine List.Sublist.cons _ ?_)))
 ·refine stepF.i .q (fun c=>[]) (fun c=>[]) (fun c x=>[]) (fun c x=> .int .i64 14) (fun c=>True) (fun c x=>True) (fun c=>[(61, .tuple #[.agg (shC (c 2).s).toArray, .agg (ints .u8 (List.replicate 32 0)).toArray, .int .i64 14])]) [62,63,64,65,66,67,10,11,12] (some 67) (fun F c v hp=>?_) (fun _=>rfl) (fun _=>rfl) (fun _ _=>rfl) (fun _ _=>rfl) (fun c h=>trivial) (fun c x h=>h) (fun _=>rfl) rfl rfl;refine run ?_
  (refine J.nil ?_;exact J.outF (default) (trivial) rfl (by(try dsimp only[List.cons_append,List.nil_append]);repeat(first|exact List.nil_sublist _|exact List.Sublist.refl _|refine List.Sublist.cons_cons _ ?_|refine List.Sublist.cons _ ?_)))
 ·refine stepF.i .e (fun c=>[]) (fun c=>[]) (fun c x=>[.blk (x).b [.slice none 0 0, .slice none 0 0, .int .i64 0] 53]) (fun c x=> .pointer (some ⟨(x).b,0,none⟩)) (fun c=>True) (fun c x=>True) (fun c=>[]) [62,63,64,61,65,66,67,10,11,12] (some 10) (fun F c v hp=>?_) (fun _=>rfl) (fun _=>rfl) (fun _ _=>rfl) (fun _ _=>rfl) (fun c h=>trivial) (fun c x h=>h) (fun _=>rfl) rfl rfl;refine run ?_;refine J.alloc rfl fun b=>?_
  (refine J.nil ?_;exact J.outF (⟨b,ShA.zero,none,0⟩) (trivial) rfl (by(try dsimp only[List.cons_append,List.nil_append]);repeat(first|exact List.nil_sublist _|exact List.Sublist.refl _|refine List.Sublist.cons_cons _ ?_|refine List.Sublist.cons _ ?_)))
 ·refine stepF.i .e (fun c=>[]) (fun c=>[]) (fun c x=>[.blk (x).b (ints .u8 (List.replicate 32 0)) 24]) (fun c x=> .pointer (some ⟨(x).b,0,none⟩)) (fun c=>True) (fun c x=>True) (fun c=>[]) [62,63,64,61,65,66,67,10,11,12] (some 11) (fun F c v hp=>?_) (fun _=>rfl) (fun _=>rfl) (fun _ _=>rfl) (fun _ _=>rfl) (fun c h=>trivial) (fun c x h=>h) (fun _=>rfl) rfl rfl;refine run ?_;refine J.alloc rfl fun b=>?_
  (refine J.nil ?_;exact J.outF (⟨b,ShA.zero,none,0⟩) (trivial) rfl (by(try dsimp only[List.cons_append,List.nil_append]);repeat(first|exact List.nil_sublist _|exact List.Sublist.refl _|refine List.Sublist.cons_cons _ ?_|refine List.Sublist.cons _ ?_)))
 ·refine stepF.i .e (fun c=>[.blk (c 7).b [.slice none 0 0, .slice none 0 0, .int .i64 0] 53]) (fun c=>[]) (fun c x=>[]) (fun c x=>undef) (fun c=>True) (fun c x=>True) (fun c=>[(64, .tuple #[.agg (shC (c 2).s).toArray, .agg (ints .u8 (List.replicate 32 0)).toArray, .int .i64 14]),(65, .agg (shC (c 2).s).toArray),(10, .pointer (some ⟨(c 7).b,0,none⟩))]) [62,63,61,66,67,11,12] (none) (fun F c v hp=>?_) (fun _=>rfl) (fun _=>rfl) (fun _ _=>rfl) (fun _ _=>rfl) (fun c h=>trivial) (fun c x h=>h) (fun _=>rfl) rfl rfl;refine run ?_
  (refine J.nil ?_;exact J.outF (default) (trivial) rfl (by(try dsimp only[List.cons_append,List.nil_append]);repeat(first|exact List.nil_sublist _|exact List.Sublist.refl _|refine List.Sublist.cons_cons _ ?_|refine List.Sublist.cons _ ?_)))
 ·refine stepF.i .e (fun c=>[.blk (c 8).b (ints .u8 (List.replicate 32 0)) 24]) (fun c=>[]) (fun c x=>[]) (fun c x=>undef) (fun c=>True) (fun c x=>True) (fun c=>[(66, .agg (ints .u8 (List.replicate 32 0)).toArray),(11, .pointer (some ⟨(c 8).b,0,none⟩))]) [62,63,64,61,65,67,10,12] (none) (fun F c v hp=>?_) (fun _=>rfl) (fun _=>rfl) (fun _ _=>rfl) (fun _ _=>rfl) (fun c h=>trivial) (fun c x h=>h) (fun _=>rfl) rfl rfl;refine run ?_
  (refine J.nil ?_;exact J.outF (default) (trivial) rfl (by(try dsimp only[List.cons_append,List.nil_append]);repeat(first|exact List.nil_sublist _|exact List.Sublist.refl _|refine List.Sublist.cons_cons _ ?_|refine List.Sublist.cons _ ?_)))
 ·refine stepF.i .q (fun c=>[]) (fun c=>[]) (fun c x=>[]) (fun c x=> .int .i64 14) (fun c=>True) (fun c x=>True) (fun c=>[(67, .int .i64 14)]) [62,63,64,61,65,66,10,11,12] (some 12) (fun F c v hp=>?_) (fun _=>rfl) (fun _=>rfl) (fun _ _=>rfl) (fun _ _=>rfl) (fun c h=>trivial) (fun c x h=>h) (fun _=>rfl) rfl rfl;refine run ?_
  (refine J.nil ?_;exact J.outF (default) (trivial) rfl (by(try dsimp only[List.cons_append,List.nil_append]);repeat(first|exact List.nil_sublist _|exact List.Sublist.refl _|refine List.Sublist.cons_cons _ ?_|refine List.Sublist.cons _ ?_)))
 obtain⟨-, -, -, -, -, -, -, -, -, -, -, -, -⟩:=hp;refine run ?_
 refine J.regionF (δ:=SnA) (default) [⟨some 69,fun c=> .agg (shC ⟨pa,1,pc,[g],ha,1,hc,S.hxX,1⟩).toArray,fun c=>[],fun c=>True,[],[],[]⟩,⟨some 70,fun c=> .agg (ints .u8 S.snX).toArray,fun c=>[],fun c=>True,[],[],[]⟩,⟨some 71,fun c=> .slice (some ⟨(c 2).b,0,none⟩) 1 1,fun c=>[.wown 24 .u8 32 (some ⟨(c 2).b,0,none⟩) 1 1 S.snX],fun c=>True,[1],[],[]⟩,⟨some 72,fun c=> .agg (opC ⟨S.snU,(c 3).a,(c 3).n⟩).toArray,fun c=>[.wrow .u8 32 (c 3).a 1 S.snX],fun c=>1≤(c 3).n,[2],[2],[]⟩,⟨some 73,fun c=> .tuple #[.agg (shC (c 4).s).toArray, .agg (ints .u8 (List.replicate 32 0)).toArray, .int .i64 40],fun c=>[],fun c=>True,[0,3],[3],[]⟩,⟨some 68,fun c=> .tuple #[.agg (shC (c 4).s).toArray, .agg (ints .u8 (List.replicate 32 0)).toArray, .int .i64 40],fun c=>[],fun c=>True,[4],[],[]⟩,⟨some 74,fun c=> .agg (shC (c 4).s).toArray,fun c=>[],fun c=>True,[4,5],[],[]⟩,⟨some 75,fun c=> .agg (ints .u8 (List.replicate 32 0)).toArray,fun c=>[],fun c=>True,[5],[],[]⟩,⟨some 76,fun c=> .int .i64 40,fun c=>[],fun c=>True,[5],[],[]⟩,⟨some 13,fun c=> .pointer (some ⟨(c 9).b,0,none⟩),fun c=>[.blk (c 9).b [.slice none 0 0, .slice none 0 0, .int .i64 0] 53],fun c=>True,[],[],[]⟩,⟨some 14,fun c=> .pointer (some ⟨(c 10).b,0,none⟩),fun c=>[.blk (c 10).b (ints .u8 (List.replicate 32 0)) 24],fun c=>True,[],[],[]⟩,⟨none,fun c=>undef,fun c=>[],fun c=>True,[4,6,9],[9],[9]⟩,⟨none,fun c=>undef,fun c=>[],fun c=>True,[7,10],[10],[10]⟩,⟨some 15,fun c=> .int .i64 40,fun c=>[],fun c=>True,[8],[],[]⟩] [] (fun c=>[(69, .agg (shC ⟨pa,1,pc,[g],ha,1,hc,S.hxX,1⟩).toArray),(70, .agg (ints .u8 S.snX).toArray),(71, .slice (some ⟨(c 2).b,0,none⟩) 1 1),(72, .agg (opC ⟨S.snU,(c 3).a,(c 3).n⟩).toArray),(73, .tuple #[.agg (shC (c 4).s).toArray, .agg (ints .u8 (List.replicate 32 0)).toArray, .int .i64 40]),(68, .tuple #[.agg (shC (c 4).s).toArray, .agg (ints .u8 (List.replicate 32 0)).toArray, .int .i64 40]),(74, .agg (shC (c 4).s).toArray),(75, .agg (ints .u8 (List.replicate 32 0)).toArray),(76, .int .i64 40),(13, .pointer (some ⟨(c 9).b,0,none⟩)),(14, .pointer (some ⟨(c 10).b,0,none⟩)),(15, .int .i64 40)]) (fun c=>[.wown 24 .u8 32 (some ⟨(c 2).b,0,none⟩) 1 1 S.snX, .wrow .u8 32 (c 3).a 1 S.snX]) mixed (by kernel_rfl) rfl trivial ⟨?_,?_,?_,?_,?_,?_,?_,?_,?_,?_,?_,?_,?_,?_,trivial⟩ (fun _=>rfl) (fun _=>rfl) (fun c hp=>?_)
 ·refine stepF.i .q (fun c=>[]) (fun c=>[]) (fun c x=>[]) (fun c x=> .agg (shC ⟨pa,1,pc,[g],ha,1,hc,S.hxX,1⟩).toArray) (fun c=>True) (fun c x=>True) (fun c=>[]) [69,70,71,72,73,68,74,75,76,13,14,15] (some 69) (fun F c v hp=>?_) (fun _=>rfl) (fun _=>rfl) (fun _ _=>rfl) (fun _ _=>rfl) (fun c h=>trivial) (fun c x h=>h) (fun _=>rfl) rfl rfl;refine run ?_
  (refine J.nil ?_;exact J.outF (default) (trivial) rfl (by(try dsimp only[List.cons_append,List.nil_append]);repeat(first|exact List.nil_sublist _|exact List.Sublist.refl _|refine List.Sublist.cons_cons _ ?_|refine List.Sublist.cons _ ?_)))
 ·refine stepF.i .q (fun c=>[]) (fun c=>[]) (fun c x=>[]) (fun c x=> .agg (ints .u8 S.snX).toArray) (fun c=>True) (fun c x=>True) (fun c=>[]) [69,70,71,72,73,68,74,75,76,13,14,15] (some 70) (fun F c v hp=>?_) (fun _=>rfl) (fun _=>rfl) (fun _ _=>rfl) (fun _ _=>rfl) (fun c h=>trivial) (fun c x h=>h) (fun _=>rfl) rfl rfl;refine run ?_;refine J.bI .u8 (List.replicate 32 0) [(0,5)] S.snX rfl rfl rfl rfl ?_
  (refine J.nil ?_;exact J.outF (default) (trivial) rfl (by(try dsimp only[List.cons_append,List.nil_append]);repeat(first|exact List.nil_sublist _|exact List.Sublist.refl _|refine List.Sublist.cons_cons _ ?_|refine List.Sublist.cons _ ?_)))
 ·refine stepF.i .e (fun c=>[]) (fun c=>[]) (fun c x=>[.wown 24 .u8 32 (some ⟨(x).b,0,none⟩) 1 1 S.snX]) (fun c x=> .slice (some ⟨(x).b,0,none⟩) 1 1) (fun c=>True) (fun c x=>True) (fun c=>[(70, .agg (ints .u8 S.snX).toArray)]) [69,71,72,73,68,74,75,76,13,14,15] (some 71) (fun F c v hp=>?_) (fun _=>rfl) (fun _=>rfl) (fun _ _=>rfl) (fun _ _=>rfl) (fun c h=>trivial) (fun c x h=>h) (fun _=>rfl) rfl rfl;refine run ?_;refine J.b1W rfl rfl S.sn_arr fun b=>?_
  (refine J.nil ?_;exact J.outF (⟨b,ShA.zero,none,0⟩) (trivial) rfl (by(try dsimp only[List.cons_append,List.nil_append]);repeat(first|exact List.nil_sublist _|exact List.Sublist.refl _|refine List.Sublist.cons_cons _ ?_|refine List.Sublist.cons _ ?_)))
 ·refine stepF.i .e (fun c=>[.wown 24 .u8 32 (some ⟨(c 2).b,0,none⟩) 1 1 S.snX]) (fun c=>[.wown 24 .u8 32 (some ⟨(c 2).b,0,none⟩) 1 1 S.snX]) (fun c x=>[.wrow .u8 32 (x).a 1 S.snX]) (fun c x=> .agg (opC ⟨S.snU,(x).a,(x).n⟩).toArray) (fun c=>True) (fun c x=>1≤(x).n) (fun c=>[(71, .slice (some ⟨(c 2).b,0,none⟩) 1 1)]) [69,70,72,73,68,74,75,76,13,14,15] (some 72) (fun F c v hp=>?_) (fun _=>rfl) (fun _=>rfl) (fun _ _=>rfl) (fun _ _=>rfl) (fun c h=>trivial) (fun c x h=>h) (fun _=>rfl) rfl rfl;refine run ?_;refine J.call rfl rfl (fun w' M=>(RW.own' (a:=some ⟨(c 2).b,0,none⟩) w' M).elim fun _ k=>snU _ TK w' (K0.ext M.ext) k) fun z hz=>?_
  (refine J.nil ?_;exact J.outF (⟨0,ShA.zero,z.1,z.2⟩) (hz) rfl (by(try dsimp only[List.cons_append,List.nil_append]);repeat(first|exact List.nil_sublist _|exact List.Sublist.refl _|refine List.Sublist.cons_cons _ ?_|refine List.Sublist.cons _ ?_)))
 ·refine stepF.i .e (fun c=>[.wrow .u8 32 (c 3).a 1 S.snX]) (fun c=>[.wrow .u8 32 (c 3).a 1 S.snX]) (fun c x=>[]) (fun c x=> .tuple #[.agg (shC (x).s).toArray, .agg (ints .u8 (List.replicate 32 0)).toArray, .int .i64 40]) (fun c=>(1≤(c 3).n)∧True) (fun c x=>True) (fun c=>[(69, .agg (shC ⟨pa,1,pc,[g],ha,1,hc,S.hxX,1⟩).toArray),(72, .agg (opC ⟨S.snU,(c 3).a,(c 3).n⟩).toArray)]) [70,71,73,68,74,75,76,13,14,15] (some 73) (fun F c v hp=>?_) (fun _=>rfl) (fun _=>rfl) (fun _ _=>rfl) (fun _ _=>rfl) (fun c h=>⟨h 3 (hasN_iff.1 rfl),trivial⟩) (fun c x h=>h) (fun _=>rfl) rfl rfl;obtain⟨hz,_⟩:=hp;refine run ?_;refine J.call rfl rfl (fun w' M=>(RW.row' (a:=(c 3).a) w' M).elim fun _ k=>snPutE ⟨pa,1,pc,[g],ha,1,hc,S.hxX,1⟩ S.snU (c 3).a (c 3).n TK w' (K0.ext M.ext) hV (ShR.own (s:=⟨pa,1,pc,[g],ha,1,hc,S.hxX,1⟩) hk hm snTwo w' M) S.sn_okU k hz S.sn_open (by decide)) fun q hq=>?_
  (refine J.nil ?_;exact J.outF (⟨0,q,none,0⟩) (trivial) rfl (by(try dsimp only[List.cons_append,List.nil_append]);repeat(first|exact List.nil_sublist _|exact List.Sublist.refl _|refine List.Sublist.cons_cons _ ?_|refine List.Sublist.cons _ ?_)))
 ·refine stepF.i .q (fun c=>[]) (fun c=>[]) (fun c x=>[]) (fun c x=> .tuple #[.agg (shC (c 4).s).toArray, .agg (ints .u8 (List.replicate 32 0)).toArray, .int .i64 40]) (fun c=>True) (fun c x=>True) (fun c=>[(73, .tuple #[.agg (shC (c 4).s).toArray, .agg (ints .u8 (List.replicate 32 0)).toArray, .int .i64 40])]) [69,70,71,72,68,74,75,76,13,14,15] (some 68) (fun F c v hp=>?_) (fun _=>rfl) (fun _=>rfl) (fun _ _=>rfl) (fun _ _=>rfl) (fun c h=>trivial) (fun c x h=>h) (fun _=>rfl) rfl rfl;refine run ?_
  (refine J.nil ?_;exact J.outF (default) (trivial) rfl (by(try dsimp only[List.cons_append,List.nil_append]);repeat(first|exact List.nil_sublist _|exact List.Sublist.refl _|refine List.Sublist.cons_cons _ ?_|refine List.Sublist.cons _ ?_)))
 ·refine stepF.i .q (fun c=>[]) (fun c=>[]) (fun c x=>[]) (fun c x=> .agg (shC (c 4).s).toArray) (fun c=>True) (fun c x=>True) (fun c=>[(73, .tuple #[.agg (shC (c 4).s).toArray, .agg (ints .u8 (List.replicate 32 0)).toArray, .int .i64 40]),(68, .tuple #[.agg (shC (c 4).s).toArray, .agg (ints .u8 (List.replicate 32 0)).toArray, .int .i64 40])]) [69,70,71,72,74,75,76,13,14,15] (some 74) (fun F c v hp=>?_) (fun _=>rfl) (fun _=>rfl) (fun _ _=>rfl) (fun _ _=>rfl) (fun c h=>trivial) (fun c x h=>h) (fun _=>rfl) rfl rfl;refine run ?_
  (refine J.nil ?_;exact J.outF (default) (trivial) rfl (by(try dsimp only[List.cons_append,List.nil_append]);repeat(first|exact List.nil_sublist _|exact List.Sublist.refl _|refine List.Sublist.cons_cons _ ?_|refine List.Sublist.cons _ ?_)))
 ·refine stepF.i .q (fun c=>[]) (fun c=>[]) (fun c x=>[]) (fun c x=> .agg (ints .u8 (List.replicate 32 0)).toArray) (fun c=>True) (fun c x=>True) (fun c=>[(68, .tuple #[.agg (shC (c 4).s).toArray, .agg (ints .u8 (List.replicate 32 0)).toArray, .int .i64 40])]) [69,70,71,72,73,74,75,76,13,14,15] (some 75) (fun F c v hp=>?_) (fun _=>rfl) (fun _=>rfl) (fun _ _=>rfl) (fun _ _=>rfl) (fun c h=>trivial) (fun c x h=>h) (fun _=>rfl) rfl rfl;refine run ?_
  (refine J.nil ?_;exact J.outF (default) (trivial) rfl (by(try dsimp only[List.cons_append,List.nil_append]);repeat(first|exact List.nil_sublist _|exact List.Sublist.refl _|refine List.Sublist.cons_cons _ ?_|refine List.Sublist.cons _ ?_)))
 ·refine stepF.i .q (fun c=>[]) (fun c=>[]) (fun c x=>[]) (fun c x=> .int .i64 40) (fun c=>True) (fun c x=>True) (fun c=>[(68, .tuple #[.agg (shC (c 4).s).toArray, .agg (ints .u8 (List.replicate 32 0)).toArray, .int .i64 40])]) [69,70,71,72,73,74,75,76,13,14,15] (some 76) (fun F c v hp=>?_) (fun _=>rfl) (fun _=>rfl) (fun _ _=>rfl) (fun _ _=>rfl) (fun c h=>trivial) (fun c x h=>h) (fun _=>rfl) rfl rfl;refine run ?_
  (refine J.nil ?_;exact J.outF (default) (trivial) rfl (by(try dsimp only[List.cons_append,List.nil_append]);repeat(first|exact List.nil_sublist _|exact List.Sublist.refl _|refine List.Sublist.cons_cons _ ?_|refine List.Sublist.cons _ ?_)))
 ·refine stepF.i .e (fun c=>[]) (fun c=>[]) (fun c x=>[.blk (x).b [.slice none 0 0, .slice none 0 0, .int .i64 0] 53]) (fun c x=> .pointer (some ⟨(x).b,0,none⟩)) (fun c=>True) (fun c x=>True) (fun c=>[]) [69,70,71,72,73,68,74,75,76,13,14,15] (some 13) (fun F c v hp=>?_) (fun _=>rfl) (fun _=>rfl) (fun _ _=>rfl) (fun _ _=>rfl) (fun c h=>trivial) (fun c x h=>h) (fun _=>rfl) rfl rfl;refine run ?_;refine J.alloc rfl fun b=>?_
  (refine J.nil ?_;exact J.outF (⟨b,ShA.zero,none,0⟩) (trivial) rfl (by(try dsimp only[List.cons_append,List.nil_append]);repeat(first|exact List.nil_sublist _|exact List.Sublist.refl _|refine List.Sublist.cons_cons _ ?_|refine List.Sublist.cons _ ?_)))
 ·refine stepF.i .e (fun c=>[]) (fun c=>[]) (fun c x=>[.blk (x).b (ints .u8 (List.replicate 32 0)) 24]) (fun c x=> .pointer (some ⟨(x).b,0,none⟩)) (fun c=>True) (fun c x=>True) (fun c=>[]) [69,70,71,72,73,68,74,75,76,13,14,15] (some 14) (fun F c v hp=>?_) (fun _=>rfl) (fun _=>rfl) (fun _ _=>rfl) (fun _ _=>rfl) (fun c h=>trivial) (fun c x h=>h) (fun _=>rfl) rfl rfl;refine run ?_;refine J.alloc rfl fun b=>?_
  (refine J.nil ?_;exact J.outF (⟨b,ShA.zero,none,0⟩) (trivial) rfl (by(try dsimp only[List.cons_append,List.nil_append]);repeat(first|exact List.nil_sublist _|exact List.Sublist.refl _|refine List.Sublist.cons_cons _ ?_|refine List.Sublist.cons _ ?_)))
 ·refine stepF.i .e (fun c=>[.blk (c 9).b [.slice none 0 0, .slice none 0 0, .int .i64 0] 53]) (fun c=>[]) (fun c x=>[]) (fun c x=>undef) (fun c=>True) (fun c x=>True) (fun c=>[(73, .tuple #[.agg (shC (c 4).s).toArray, .agg (ints .u8 (List.replicate 32 0)).toArray, .int .i64 40]),(74, .agg (shC (c 4).s).toArray),(13, .pointer (some ⟨(c 9).b,0,none⟩))]) [69,70,71,72,68,75,76,14,15] (none) (fun F c v hp=>?_) (fun _=>rfl) (fun _=>rfl) (fun _ _=>rfl) (fun _ _=>rfl) (fun c h=>trivial) (fun c x h=>h) (fun _=>rfl) rfl rfl;refine run ?_
  (refine J.nil ?_;exact J.outF (default) (trivial) rfl (by(try dsimp only[List.cons_append,List.nil_append]);repeat(first|exact List.nil_sublist _|exact List.Sublist.refl _|refine List.Sublist.cons_cons _ ?_|refine List.Sublist.cons _ ?_)))
 ·refine stepF.i .e (fun c=>[.blk (c 10).b (ints .u8 (List.replicate 32 0)) 24]) (fun c=>[]) (fun c x=>[]) (fun c x=>undef) (fun c=>True) (fun c x=>True) (fun c=>[(75, .agg (ints .u8 (List.replicate 32 0)).toArray),(14, .pointer (some ⟨(c 10).b,0,none⟩))]) [69,70,71,72,73,68,74,76,13,15] (none) (fun F c v hp=>?_) (fun _=>rfl) (fun _=>rfl) (fun _ _=>rfl) (fun _ _=>rfl) (fun c h=>trivial) (fun c x h=>h) (fun _=>rfl) rfl rfl;refine run ?_
  (refine J.nil ?_;exact J.outF (default) (trivial) rfl (by(try dsimp only[List.cons_append,List.nil_append]);repeat(first|exact List.nil_sublist _|exact List.Sublist.refl _|refine List.Sublist.cons_cons _ ?_|refine List.Sublist.cons _ ?_)))
 ·refine stepF.i .q (fun c=>[]) (fun c=>[]) (fun c x=>[]) (fun c x=> .int .i64 40) (fun c=>True) (fun c x=>True) (fun c=>[(76, .int .i64 40)]) [69,70,71,72,73,68,74,75,13,14,15] (some 15) (fun F c v hp=>?_) (fun _=>rfl) (fun _=>rfl) (fun _ _=>rfl) (fun _ _=>rfl) (fun c h=>trivial) (fun c x h=>h) (fun _=>rfl) rfl rfl;refine run ?_
  (refine J.nil ?_;exact J.outF (default) (trivial) rfl (by(try dsimp only[List.cons_append,List.nil_append]);repeat(first|exact List.nil_sublist _|exact List.Sublist.refl _|refine List.Sublist.cons_cons _ ?_|refine List.Sublist.cons _ ?_)))
 obtain⟨-, -, -,(hz:1≤(c 3).n), -, -, -, -, -, -, -, -, -, -, -⟩:=hp;refine run ?_;refine J.call rfl rfl (fun w' M=>snPutE ⟨pa,1,pc,[g],ha,1,hc,S.hxX,1⟩ S.OpV.zero none 0 TK w' (K0.ext M.ext) hV (ShR.own (s:=⟨pa,1,pc,[g],ha,1,hc,S.hxX,1⟩) hk hm snTwo w' M) S.OpV.zero_ok (WRow.nil (S:=no)) (Nat.le_refl _) S.sn_bad (by decide)) fun q7 hq7=>?_
 refine run ?_;refine J.alloc rfl fun b16=>?_
 refine J.alloc rfl fun b17=>?_
 refine run ?_;refine J.call rfl rfl (fun w' M=>snOne (putX ShA.zero S.ShV.zero S.OpV.zero none 0 TK w' (K0.ext M.ext) rfl (snZ w') (fun _=>by decide) S.OpV.zero_ok (WRow.nil (S:=no)) (Nat.le_refl _) (S.sn_none _) (S.pu_8 fun h=>absurd h.1.1 (by decide)).2.2 (S.pu_8 fun h=>absurd h.1.1 (by decide)).2.1)) fun q8 hq8=>?_
 refine run ?_;refine J.alloc rfl fun b19=>?_
 refine J.alloc rfl fun b20=>?_
 refine run ?_;refine J.bI .u8 (List.replicate 32 0) [(0,5)] S.snX rfl rfl rfl rfl ?_;refine run ?_;refine J.call rfl rfl (fun w' M=>snGetE ⟨pa,1,pc,[g],ha,1,hc,S.hxX,1⟩ S.snX TK w' (K0.ext M.ext) (ShR.own (s:=⟨pa,1,pc,[g],ha,1,hc,S.hxX,1⟩) hk hm snTwo w' M) S.sn_arr hV (by decide) S.sn_get5 (S.gt_6 (v:=S.snV) S.sn_okR (by rw[S.sn_wh];exact S.sn_not)).1) fun q9 hq9=>?_
 refine run ?_;refine J.alloc rfl fun b22=>?_
 refine run ?_;refine J.call rfl rfl (fun w' M=>snGetE ⟨pa,1,pc,[g],ha,1,hc,S.hxX,1⟩ S.hxX TK w' (K0.ext M.ext) (ShR.own (s:=⟨pa,1,pc,[g],ha,1,hc,S.hxX,1⟩) hk hm snTwo w' M) hX hV (by decide) S.sn_getX.1 S.sn_getX.2) fun q hq=>?_
 obtain⟨oa,oc⟩:=q;dsimp only at hq⊢;refine run ?_;refine J.alloc rfl fun b24=>?_
 refine run ?_;refine J.drop (E:=[.blk b24 (opC ⟨S.hxO,oa,oc⟩) 37, .wrow .u8 32 oa 0 [], .gown (fun g:GrA=>grC g) 2 43 pa 1 pc [g], .all ([g].map grAll), .wown 24 .u8 32 ha 1 hc S.hxX, .blk b7 (shC ⟨pa,1,pc,[g],ha,1,hc,S.hxX,1⟩) 53, .blk b8 (ints .u8 S.hxX) 24]) sb ?_
 refine J.regionF (δ:=SnA) (default) [⟨some 121,fun c=> .agg (shC ⟨pa,1,pc,[g],ha,1,hc,S.hxX,1⟩).toArray,fun c=>[],fun c=>True,[],[],[]⟩,⟨some 122,fun c=> .agg (shC (c 1).s).toArray,fun c=>[.gown (fun g:GrA=>grC g) 2 43 (c 1).s.pa (c 1).s.pn (c 1).s.pc (c 1).s.gs, .all ((c 1).s.gs.map grAll), .wown 24 .u8 32 (c 1).s.ha (c 1).s.hn (c 1).s.hc (c 1).s.hs],fun c=>ShK S.snV (c 1).s,[0],[],[]⟩,⟨some 123,fun c=> .agg (shC ⟨pa,1,pc,[g],ha,1,hc,S.hxX,1⟩).toArray,fun c=>[],fun c=>True,[],[],[]⟩,⟨some 124,fun c=> .agg (shC (c 3).s).toArray,fun c=>[.gown (fun g:GrA=>grC g) 2 43 (c 3).s.pa (c 3).s.pn (c 3).s.pc (c 3).s.gs, .all ((c 3).s.gs.map grAll), .wown 24 .u8 32 (c 3).s.ha (c 3).s.hn (c 3).s.hc (c 3).s.hs],fun c=>ShK S.snV (c 3).s,[2],[],[]⟩,⟨some 125,fun c=> .agg (shC ⟨pa,1,pc,[g],ha,1,hc,S.hxX,1⟩).toArray,fun c=>[],fun c=>True,[],[],[]⟩,⟨some 126,fun c=> .agg (shC (c 5).s).toArray,fun c=>[.gown (fun g:GrA=>grC g) 2 43 (c 5).s.pa (c 5).s.pn (c 5).s.pc (c 5).s.gs, .all ((c 5).s.gs.map grAll), .wown 24 .u8 32 (c 5).s.ha (c 5).s.hn (c 5).s.hc (c 5).s.hs],fun c=>ShK S.snV (c 5).s,[4],[],[]⟩,⟨some 26,fun c=> .pointer (some ⟨(c 6).b,0,none⟩),fun c=>[.blk (c 6).b [.slice none 0 0, .slice none 0 0, .int .i64 0] 53],fun c=>True,[],[],[]⟩,⟨some 27,fun c=> .pointer (some ⟨(c 7).b,0,none⟩),fun c=>[.blk (c 7).b [.slice none 0 0, .slice none 0 0, .int .i64 0] 53],fun c=>True,[],[],[]⟩,⟨some 28,fun c=> .pointer (some ⟨(c 8).b,0,none⟩),fun c=>[.blk (c 8).b [.slice none 0 0, .slice none 0 0, .int .i64 0] 53],fun c=>True,[],[],[]⟩,⟨none,fun c=>undef,fun c=>[.blk (c 6).b (shC (c 1).s) 53],fun c=>True,[1,6],[6],[6]⟩,⟨none,fun c=>undef,fun c=>[.blk (c 7).b (shC (c 3).s) 53],fun c=>True,[3,7],[7],[7]⟩,⟨none,fun c=>undef,fun c=>[.blk (c 8).b (shC (c 5).s) 53],fun c=>True,[5,8],[8],[8]⟩] [] (fun c=>[(121, .agg (shC ⟨pa,1,pc,[g],ha,1,hc,S.hxX,1⟩).toArray),(122, .agg (shC (c 1).s).toArray),(123, .agg (shC ⟨pa,1,pc,[g],ha,1,hc,S.hxX,1⟩).toArray),(124, .agg (shC (c 3).s).toArray),(125, .agg (shC ⟨pa,1,pc,[g],ha,1,hc,S.hxX,1⟩).toArray),(126, .agg (shC (c 5).s).toArray),(26, .pointer (some ⟨(c 6).b,0,none⟩)),(27, .pointer (some ⟨(c 7).b,0,none⟩)),(28, .pointer (some ⟨(c 8).b,0,none⟩))]) (fun c=>[.gown (fun g:GrA=>grC g) 2 43 (c 1).s.pa (c 1).s.pn (c 1).s.pc (c 1).s.gs, .all ((c 1).s.gs.map grAll), .wown 24 .u8 32 (c 1).s.ha (c 1).s.hn (c 1).s.hc (c 1).s.hs, .gown (fun g:GrA=>grC g) 2 43 (c 3).s.pa (c 3).s.pn (c 3).s.pc (c 3).s.gs, .all ((c 3).s.gs.map grAll), .wown 24 .u8 32 (c 3).s.ha (c 3).s.hn (c 3).s.hc (c 3).s.hs, .gown (fun g:GrA=>grC g) 2 43 (c 5).s.pa (c 5).s.pn (c 5).s.pc (c 5).s.gs, .all ((c 5).s.gs.map grAll), .wown 24 .u8 32 (c 5).s.ha (c 5).s.hn (c 5).s.hc (c 5).s.hs, .blk (c 6).b (shC (c 1).s) 53, .blk (c 7).b (shC (c 3).s) 53, .blk (c 8).b (shC (c 5).s) 53]) mixed (by kernel_rfl) rfl trivial ⟨?_,?_,?_,?_,?_,?_,?_,?_,?_,?_,?_,?_,trivial⟩ (fun _=>rfl) (fun _=>rfl) (fun c hp=>?_)
 ·refine stepF.i .q (fun c=>[]) (fun c=>[]) (fun c x=>[]) (fun c x=> .agg (shC ⟨pa,1,pc,[g],ha,1,hc,S.hxX,1⟩).toArray) (fun c=>True) (fun c x=>True) (fun c=>[]) [121,122,123,124,125,126,26,27,28] (some 121) (fun F c v hp=>?_) (fun _=>rfl) (fun _=>rfl) (fun _ _=>rfl) (fun _ _=>rfl) (fun c h=>trivial) (fun c x h=>h) (fun _=>rfl) rfl rfl;refine run ?_
  (refine J.nil ?_;exact J.outF (default) (trivial) rfl (by(try dsimp only[List.cons_append,List.nil_append]);repeat(first|exact List.nil_sublist _|exact List.Sublist.refl _|refine List.Sublist.cons_cons _ ?_|refine List.Sublist.cons _ ?_)))
 ·refine stepF.i .e (fun c=>[]) (fun c=>[]) (fun c x=>[.gown (fun g:GrA=>grC g) 2 43 (x).s.pa (x).s.pn (x).s.pc (x).s.gs, .all ((x).s.gs.map grAll), .wown 24 .u8 32 (x).s.ha (x).s.hn (x).s.hc (x).s.hs]) (fun c x=> .agg (shC (x).s).toArray) (fun c=>True) (fun c x=>ShK S.snV (x).s) (fun c=>[(121, .agg (shC ⟨pa,1,pc,[g],ha,1,hc,S.hxX,1⟩).toArray)]) [122,123,124,125,126,26,27,28] (some 122) (fun F c v hp=>?_) (fun _=>rfl) (fun _=>rfl) (fun _ _=>rfl) (fun _ _=>rfl) (fun c h=>trivial) (fun c x h=>h) (fun _=>rfl) rfl rfl;refine run ?_;refine J.call rfl rfl (fun w' M=>snTwinE ⟨pa,1,pc,[g],ha,1,hc,S.hxX,1⟩ w' (ShR.own (s:=⟨pa,1,pc,[g],ha,1,hc,S.hxX,1⟩) hk hm snTwo w' M) hV) fun q hq=>?_
  (refine J.nil ?_;exact J.outF (⟨0,q,none,0⟩) (hq) rfl (by(try dsimp only[List.cons_append,List.nil_append]);repeat(first|exact List.nil_sublist _|exact List.Sublist.refl _|refine List.Sublist.cons_cons _ ?_|refine List.Sublist.cons _ ?_)))
 ·refine stepF.i .q (fun c=>[]) (fun c=>[]) (fun c x=>[]) (fun c x=> .agg (shC ⟨pa,1,pc,[g],ha,1,hc,S.hxX,1⟩).toArray) (fun c=>True) (fun c x=>True) (fun c=>[]) [121,122,123,124,125,126,26,27,28] (some 123) (fun F c v hp=>?_) (fun _=>rfl) (fun _=>rfl) (fun _ _=>rfl) (fun _ _=>rfl) (fun c h=>trivial) (fun c x h=>h) (fun _=>rfl) rfl rfl;refine run ?_
  (refine J.nil ?_;exact J.outF (default) (trivial) rfl (by(try dsimp only[List.cons_append,List.nil_append]);repeat(first|exact List.nil_sublist _|exact List.Sublist.refl _|refine List.Sublist.cons_cons _ ?_|refine List.Sublist.cons _ ?_)))
 ·refine stepF.i .e (fun c=>[]) (fun c=>[]) (fun c x=>[.gown (fun g:GrA=>grC g) 2 43 (x).s.pa (x).s.pn (x).s.pc (x).s.gs, .all ((x).s.gs.map grAll), .wown 24 .u8 32 (x).s.ha (x).s.hn (x).s.hc (x).s.hs]) (fun c x=> .agg (shC (x).s).toArray) (fun c=>True) (fun c x=>ShK S.snV (x).s) (fun c=>[(123, .agg (shC ⟨pa,1,pc,[g],ha,1,hc,S.hxX,1⟩).toArray)]) [121,122,124,125,126,26,27,28] (some 124) (fun F c v hp=>?_) (fun _=>rfl) (fun _=>rfl) (fun _ _=>rfl) (fun _ _=>rfl) (fun c h=>trivial) (fun c x h=>h) (fun _=>rfl) rfl rfl;refine run ?_;refine J.call rfl rfl (fun w' M=>snTwinE ⟨pa,1,pc,[g],ha,1,hc,S.hxX,1⟩ w' (ShR.own (s:=⟨pa,1,pc,[g],ha,1,hc,S.hxX,1⟩) hk hm snTwo w' M) hV) fun q hq=>?_
  (refine J.nil ?_;exact J.outF (⟨0,q,none,0⟩) (hq) rfl (by(try dsimp only[List.cons_append,List.nil_append]);repeat(first|exact List.nil_sublist _|exact List.Sublist.refl _|refine List.Sublist.cons_cons _ ?_|refine List.Sublist.cons _ ?_)))
 ·refine stepF.i .q (fun c=>[]) (fun c=>[]) (fun c x=>[]) (fun c x=> .agg (shC ⟨pa,1,pc,[g],ha,1,hc,S.hxX,1⟩).toArray) (fun c=>True) (fun c x=>True) (fun c=>[]) [121,122,123,124,125,126,26,27,28] (some 125) (fun F c v hp=>?_) (fun _=>rfl) (fun _=>rfl) (fun _ _=>rfl) (fun _ _=>rfl) (fun c h=>trivial) (fun c x h=>h) (fun _=>rfl) rfl rfl;refine run ?_
  (refine J.nil ?_;exact J.outF (default) (trivial) rfl (by(try dsimp only[List.cons_append,List.nil_append]);repeat(first|exact List.nil_sublist _|exact List.Sublist.refl _|refine List.Sublist.cons_cons _ ?_|refine List.Sublist.cons _ ?_)))
 ·refine stepF.i .e (fun c=>[]) (fun c=>[]) (fun c x=>[.gown (fun g:GrA=>grC g) 2 43 (x).s.pa (x).s.pn (x).s.pc (x).s.gs, .all ((x).s.gs.map grAll), .wown 24 .u8 32 (x).s.ha (x).s.hn (x).s.hc (x).s.hs]) (fun c x=> .agg (shC (x).s).toArray) (fun c=>True) (fun c x=>ShK S.snV (x).s) (fun c=>[(125, .agg (shC ⟨pa,1,pc,[g],ha,1,hc,S.hxX,1⟩).toArray)]) [121,122,123,124,126,26,27,28] (some 126) (fun F c v hp=>?_) (fun _=>rfl) (fun _=>rfl) (fun _ _=>rfl) (fun _ _=>rfl) (fun c h=>trivial) (fun c x h=>h) (fun _=>rfl) rfl rfl;refine run ?_;refine J.call rfl rfl (fun w' M=>snTwinE ⟨pa,1,pc,[g],ha,1,hc,S.hxX,1⟩ w' (ShR.own (s:=⟨pa,1,pc,[g],ha,1,hc,S.hxX,1⟩) hk hm snTwo w' M) hV) fun q hq=>?_
  (refine J.nil ?_;exact J.outF (⟨0,q,none,0⟩) (hq) rfl (by(try dsimp only[List.cons_append,List.nil_append]);repeat(first|exact List.nil_sublist _|exact List.Sublist.refl _|refine List.Sublist.cons_cons _ ?_|refine List.Sublist.cons _ ?_)))
 ·refine stepF.i .e (fun c=>[]) (fun c=>[]) (fun c x=>[.blk (x).b [.slice none 0 0, .slice none 0 0, .int .i64 0] 53]) (fun c x=> .pointer (some ⟨(x).b,0,none⟩)) (fun c=>True) (fun c x=>True) (fun c=>[]) [121,122,123,124,125,126,26,27,28] (some 26) (fun F c v hp=>?_) (fun _=>rfl) (fun _=>rfl) (fun _ _=>rfl) (fun _ _=>rfl) (fun c h=>trivial) (fun c x h=>h) (fun _=>rfl) rfl rfl;refine run ?_;refine J.alloc rfl fun b=>?_
  (refine J.nil ?_;exact J.outF (⟨b,ShA.zero,none,0⟩) (trivial) rfl (by(try dsimp only[List.cons_append,List.nil_append]);repeat(first|exact List.nil_sublist _|exact List.Sublist.refl _|refine List.Sublist.cons_cons _ ?_|refine List.Sublist.cons _ ?_)))
 ·refine stepF.i .e (fun c=>[]) (fun c=>[]) (fun c x=>[.blk (x).b [.slice none 0 0, .slice none 0 0, .int .i64 0] 53]) (fun c x=> .pointer (some ⟨(x).b,0,none⟩)) (fun c=>True) (fun c x=>True) (fun c=>[]) [121,122,123,124,125,126,26,27,28] (some 27) (fun F c v hp=>?_) (fun _=>rfl) (fun _=>rfl) (fun _ _=>rfl) (fun _ _=>rfl) (fun c h=>trivial) (fun c x h=>h) (fun _=>rfl) rfl rfl;refine run ?_;refine J.alloc rfl fun b=>?_
  (refine J.nil ?_;exact J.outF (⟨b,ShA.zero,none,0⟩) (trivial) rfl (by(try dsimp only[List.cons_append,List.nil_append]);repeat(first|exact List.nil_sublist _|exact List.Sublist.refl _|refine List.Sublist.cons_cons _ ?_|refine List.Sublist.cons _ ?_)))
 ·refine stepF.i .e (fun c=>[]) (fun c=>[]) (fun c x=>[.blk (x).b [.slice none 0 0, .slice none 0 0, .int .i64 0] 53]) (fun c x=> .pointer (some ⟨(x).b,0,none⟩)) (fun c=>True) (fun c x=>True) (fun c=>[]) [121,122,123,124,125,126,26,27,28] (some 28) (fun F c v hp=>?_) (fun _=>rfl) (fun _=>rfl) (fun _ _=>rfl) (fun _ _=>rfl) (fun c h=>trivial) (fun c x h=>h) (fun _=>rfl) rfl rfl;refine run ?_;refine J.alloc rfl fun b=>?_
  (refine J.nil ?_;exact J.outF (⟨b,ShA.zero,none,0⟩) (trivial) rfl (by(try dsimp only[List.cons_append,List.nil_append]);repeat(first|exact List.nil_sublist _|exact List.Sublist.refl _|refine List.Sublist.cons_cons _ ?_|refine List.Sublist.cons _ ?_)))
 ·refine stepF.i .e (fun c=>[.blk (c 6).b [.slice none 0 0, .slice none 0 0, .int .i64 0] 53]) (fun c=>[]) (fun c x=>[.blk (c 6).b (shC (c 1).s) 53]) (fun c x=>undef) (fun c=>(ShK S.snV (c 1).s)∧True) (fun c x=>True) (fun c=>[(122, .agg (shC (c 1).s).toArray),(26, .pointer (some ⟨(c 6).b,0,none⟩))]) [121,123,124,125,126,27,28] (none) (fun F c v hp=>?_) (fun _=>rfl) (fun _=>rfl) (fun _ _=>rfl) (fun _ _=>rfl) (fun c h=>⟨h 1 (hasN_iff.1 rfl),trivial⟩) (fun c x h=>h) (fun _=>rfl) rfl rfl;obtain⟨ht1,_⟩:=hp;refine run ?_
  (refine J.nil ?_;exact J.outF (default) (trivial) rfl (by(try dsimp only[List.cons_append,List.nil_append]);repeat(first|exact List.nil_sublist _|exact List.Sublist.refl _|refine List.Sublist.cons_cons _ ?_|refine List.Sublist.cons _ ?_)))
 ·refine stepF.i .e (fun c=>[.blk (c 7).b [.slice none 0 0, .slice none 0 0, .int .i64 0] 53]) (fun c=>[]) (fun c x=>[.blk (c 7).b (shC (c 3).s) 53]) (fun c x=>undef) (fun c=>(ShK S.snV (c 3).s)∧True) (fun c x=>True) (fun c=>[(124, .agg (shC (c 3).s).toArray),(27, .pointer (some ⟨(c 7).b,0,none⟩))]) [121,122,123,125,126,26,28] (none) (fun F c v hp=>?_) (fun _=>rfl) (fun _=>rfl) (fun _ _=>rfl) (fun _ _=>rfl) (fun c h=>⟨h 3 (hasN_iff.1 rfl),trivial⟩) (fun c x h=>h) (fun _=>rfl) rfl rfl;obtain⟨ht3,_⟩:=hp;refine run ?_
  (refine J.nil ?_;exact J.outF (default) (trivial) rfl (by(try dsimp only[List.cons_append,List.nil_append]);repeat(first|exact List.nil_sublist _|exact List.Sublist.refl _|refine List.Sublist.cons_cons _ ?_|refine List.Sublist.cons _ ?_)))
 ·refine stepF.i .e (fun c=>[.blk (c 8).b [.slice none 0 0, .slice none 0 0, .int .i64 0] 53]) (fun c=>[]) (fun c x=>[.blk (c 8).b (shC (c 5).s) 53]) (fun c x=>undef) (fun c=>(ShK S.snV (c 5).s)∧True) (fun c x=>True) (fun c=>[(126, .agg (shC (c 5).s).toArray),(28, .pointer (some ⟨(c 8).b,0,none⟩))]) [121,122,123,124,125,26,27] (none) (fun F c v hp=>?_) (fun _=>rfl) (fun _=>rfl) (fun _ _=>rfl) (fun _ _=>rfl) (fun c h=>⟨h 5 (hasN_iff.1 rfl),trivial⟩) (fun c x h=>h) (fun _=>rfl) rfl rfl;obtain⟨ht5,_⟩:=hp;refine run ?_
  (refine J.nil ?_;exact J.outF (default) (trivial) rfl (by(try dsimp only[List.cons_append,List.nil_append]);repeat(first|exact List.nil_sublist _|exact List.Sublist.refl _|refine List.Sublist.cons_cons _ ?_|refine List.Sublist.cons _ ?_)))
 obtain⟨-,(ht1:ShK S.snV (c 1).s), -,(ht3:ShK S.snV (c 3).s), -,(ht5:ShK S.snV (c 5).s), -, -, -, -, -, -, -⟩:=hp;generalize c 1=u1 at*;generalize c 3=u3 at*;generalize c 5=u5 at*;generalize c 6=u6 at*;generalize c 7=u7 at*;generalize c 8=u8 at*;obtain⟨_,s1,_,_⟩:=u1;obtain⟨_,s3,_,_⟩:=u3;obtain⟨_,s5,_,_⟩:=u5;obtain⟨b26,_,_,_⟩:=u6;obtain⟨b27,_,_,_⟩:=u7;obtain⟨b28,_,_,_⟩:=u8;dsimp only at ht1 ht3 ht5⊢;obtain⟨xpa,xpn,xpc,xg,xha,xhc,rfl,hxg⟩:=snForm ht1;obtain⟨ypa,ypn,ypc,yg,yha,yhc,rfl,hyg⟩:=snForm ht3;obtain⟨zpa,zpn,zpc,zg,zha,zhc,rfl,hzg⟩:=snForm ht5;dsimp only;have e0:S.hxX=elt 32 S.hxX (0:Int).toNat:=by decide
 refine run ?_;refine J.re (.wown 24 .u8 32 yha 1 yhc S.hxX) (.gown idC 32 24 yha 1 yhc [⟨S.hxX,rfl⟩]) (fun _ _ h=>wown_gown (by decide) rfl h) ?_;refine J.fact (.gown idC 32 24 yha 1 yhc [⟨S.hxX,rfl⟩]) (fun _ _ h=>(gown_e h).1.some (by omega)) fun hpa=>?_
 have hpb:∃b o,yha=some ⟨b,o,none⟩:=hpa.elim fun b h=>⟨b,0,h⟩
 have hx:([⟨S.hxX,rfl⟩]:List IdV)[(0:Int).toNat]? =some ⟨S.hxX,rfl⟩:=rfl;refine J.regionX [(0, .q),(1, .q),(2, .q),(3, .q),(4, .q),(5, .q),(6, .q),(7, .q),(8, .g)] mixed (by kernel_rfl) ?_;refine run ?_;refine J.ixN 3 rfl hpb rfl rfl ?_;refine J.ldGf (f:=idC) (off:=3) rfl RG.own' ?_ (hq:=hx) (hf:=idC_at ⟨S.hxX,rfl⟩ (by decide));refine J.add rfl rfl rfl ?_ (hw:=W.u8m _);refine run ?_;refine J.ixN 3 rfl hpb rfl rfl ?_;refine J.stGf (f:=idC) (o:=3) (q0:=⟨S.hxX,rfl⟩) (q:=idUp 3 ⟨S.hxX,rfl⟩) rfl rfl hx (idUp_eq 3 ⟨S.hxX,rfl⟩) ?_;refine run ?_;refine J.re (.gown idC 32 24 yha 1 yhc (List.set [⟨S.hxX,rfl⟩] (0:Int).toNat (idUp 3 ⟨S.hxX,rfl⟩))) (.wown 24 .u8 32 yha 1 yhc snXi) (fun _ _ h=>idsBack _ _ (by decide) snXi_bd h) ?_;clear e0 hx;refine run ?_;refine J.call rfl rfl (fun w' M=>snTwinE ⟨pa,1,pc,[g],ha,1,hc,S.hxX,1⟩ w' (ShR.own (s:=⟨pa,1,pc,[g],ha,1,hc,S.hxX,1⟩) hk hm snTwo w' M) hV) fun q hq=>?_
 obtain⟨tpa,tpn,tpc,tg,tha,thc,rfl,htg⟩:=snForm hq;have htk:=hq.k;dsimp only;refine run ?_;refine J.alloc rfl fun b29=>?_
 refine run ?_;refine J.b1G (fun g:GrA=>grC g) GrA.nil grC_len rfl rfl rfl fun bn=>?_
 refine run ?_;refine J.fact (.gown (fun g:GrA=>grC g) 2 43 tpa tpn tpc [tg]) (fun _ _ h=>(gown_e h).1.len) fun htn=>?_
 obtain rfl:tpn=1:=htn.symm;refine J.apG rfl rfl RG.own' grC_one fun wpa wpc=>?_
 refine run ?_;refine J.alloc rfl fun b30=>?_
 refine run ?_;refine J.ixA (a:=some ⟨b8,0,none⟩) (k0:=0) rfl ⟨b8,0,rfl⟩ rfl rfl ?_;refine J.ld (b:=b8) (o:=0) rfl ?_;refine run ?_;refine J.call rfl rfl (fun w' M=>snTwinE ⟨pa,1,pc,[g],ha,1,hc,S.hxX,1⟩ w' (ShR.own (s:=⟨pa,1,pc,[g],ha,1,hc,S.hxX,1⟩) hk hm snTwo w' M) hV) fun q hq=>?_
 obtain⟨spa,spn,spc,sg,sha,shc,rfl,hsg⟩:=snForm hq;have hsk:=hq.k;dsimp only;refine run ?_;refine J.alloc rfl fun b31=>?_
 refine J.fact (.gown (fun g:GrA=>grC g) 2 43 spa spn spc [sg]) (fun _ _ h=>(gown_e h).1.len) fun hsn=>?_
 obtain rfl:spn=1:=hsn.symm;have f0:([sg]:List GrA)[(0:Int).toNat]? =some sg:=rfl;refine run ?_;refine J.stGf (f:=fun g:GrA=>grC g) (o:=1) (q0:=sg) (q:=⟨sg.ia,none,sg.m,0,sg.ic,0,sg.ids,[]⟩) rfl rfl f0 rfl ?_;clear f0;refine J.re (.gown (fun g:GrA=>grC g) 2 43 spa 1 spc (List.set [sg] (0:Int).toNat ⟨sg.ia,none,sg.m,0,sg.ic,0,sg.ids,[]⟩)) (.gown (fun g:GrA=>grC g) 2 43 spa 1 spc [⟨sg.ia,none,sg.m,0,sg.ic,0,sg.ids,[]⟩]) (fun _ _ h=>h) ?_;refine J.fact (.gown (fun g:GrA=>grC g) 2 43 zpa zpn zpc [zg]) (fun _ _ h=>(⟨(gown_e h).1.len,(gown_e h).1.capn⟩:_∧_)) fun hzn=>?_
 obtain⟨hzn,hzc⟩:=hzn;obtain rfl:zpn=1:=hzn.symm;refine J.fact (.gown (fun g:GrA=>grC g) 2 43 spa 1 spc [⟨sg.ia,none,sg.m,0,sg.ic,0,sg.ids,[]⟩]) (fun _ _ h=>(gown_e h).1.capn) fun hsc=>?_
 refine J.fact (.gown (fun g:GrA=>grC g) 2 43 wpa (1+1) wpc [tg,GrA.nil]) (fun _ _ h=>(gown_e h).1.capn) fun hwc=>?_
 refine J.fact (.wown 24 .u8 32 tha 1 thc S.hxX) (fun _ _ h=>(wown_len h).2) fun htc=>?_
 refine J.fact (.wown 24 .u8 32 sha 1 shc S.hxX) (fun _ _ h=>(wown_len h).2) fun hsc2=>?_
 have hVx:(⟨xpa,xpn,xpc,[xg],xha,1,xhc,S.hxX,2⟩:ShA).V=⟨[S.snP],1,S.hxX,2⟩:=snV hxg;have hVw:(⟨wpa,1+1,wpc,[tg,GrA.nil],tha,1,thc,S.hxX,1⟩:ShA).V=⟨[S.snP,S.PG.nil],1,S.hxX,1⟩:=by
  show(⟨[tg.P,GrA.nil.P],1,S.hxX,1⟩:S.ShV)=_;rw[htg];rfl
 refine run ?_;refine J.callp rfl rfl (fun w' M=>snCheckE ⟨xpa,xpn,xpc,[xg],xha,1,xhc,S.hxX,2⟩ TK w' (K0.ext M.ext) (ShR.own (s:=⟨xpa,xpn,xpc,[xg],xha,1,xhc,S.hxX,2⟩) ht1.k (snSz hxg) snTwo w' M) hVx (by decide) S.sn_version) ?_;refine run ?_;refine J.callp rfl rfl (fun w' M=>snCheckE ⟨ypa,ypn,ypc,[yg],yha,1,yhc,snXi,1⟩ TK w' (K0.ext M.ext) (ShR.own (s:=⟨ypa,ypn,ypc,[yg],yha,1,yhc,snXi,1⟩) ht3.k (snSz hyg) snTwo w' M) (snV hyg) (by decide) (S.sn_head (n:=1) (x:=snXi) (by decide))) ?_;refine run ?_;refine J.callp rfl rfl (fun w' M=>snCheckE ⟨zpa,1,zpc,[zg],none,0,0,[],1⟩ TK w' (K0.ext M.ext) (snMix (gs0:=[zg]) ht5.k (snSz hzg) RG.own' snRW0 (fun g h=> .inl h) ⟨hzc,Nat.le_refl _,by decide,by decide⟩ w' M) (snV hzg) (by decide) (S.sn_head (n:=0) (x:=[]) (by decide))) ?_;refine run ?_;refine J.callp rfl rfl (fun w' M=>snCheckE ⟨wpa,1+1,wpc,[tg,GrA.nil],tha,1,thc,S.hxX,1⟩ TK w' (K0.ext M.ext) (snMix (gs0:=[tg]) htk (snSz htg) RG.own' RW.own' (fun g h=>(List.mem_cons.1 h).imp (fun h=>List.mem_singleton.2 h) fun h=> .inl (List.mem_singleton.1 h)) ⟨hwc,htc,by decide,by decide⟩ w' M) hVw (by decide) S.sn_wrong) ?_;refine run ?_;refine J.callp rfl rfl (fun w' M=>snCheckE ⟨spa,1,spc,[⟨sg.ia,none,sg.m,0,sg.ic,0,sg.ids,[]⟩],sha,1,shc,S.hxX,1⟩ TK w' (K0.ext M.ext) (snMix (gs0:=[sg]) hsk (snSz hsg) RG.own' RW.own' (fun g h=> .inr (.inr ⟨sg,List.mem_singleton.2 rfl,List.mem_singleton.1 h⟩)) ⟨hsc,hsc2,by decide,by decide⟩ w' M) (snShort hsg) (by decide) S.sn_short) ?_;refine run ?_;refine J.mkG (n:=5) (fun g:GrA=>grC g) GrA.nil grC_len rfl rfl rfl rfl fun bm=>?_
 refine run ?_;refine J.callp rfl rfl (fun w' M=>snCheckE ⟨some ⟨bm,0,none⟩,5,5,List.replicate 5 GrA.nil,none,0,0,[],0⟩ TK w' (K0.ext M.ext) (snNils RG.own' (fun g h=>List.eq_of_mem_replicate h) ⟨Nat.le_refl _,by decide⟩ w' M) (v:=⟨List.replicate 5 S.PG.nil,0,[],0⟩) rfl (by decide) S.sn_five) ?_;refine run ?_;refine J.callp rfl rfl (fun w' M=>snCheckE ShA.zero TK w' (K0.ext M.ext) (snZ w') (v:=S.ShV.zero) rfl (by decide) S.sn_zero) ?_;refine run ?_;refine J.callp rfl rfl (fun w' M=>snCheckE ⟨pa,1,pc,[g],ha,1,hc,S.hxX,1⟩ TK w' (K0.ext M.ext) (ShR.own (s:=⟨pa,1,pc,[g],ha,1,hc,S.hxX,1⟩) hk hm snTwo w' M) hV (by decide) S.sn_chkV) ?_;refine run ?_;have hno:¬S.okR ⟨[S.snP],1,S.hxX,2⟩:=S.sn_no S.sn_version;have hLx:ShL ⟨xpa,xpn,xpc,[xg],xha,1,xhc,S.hxX,2⟩:=fun _=>by
  rw[hVx];decide
 refine J.call rfl rfl (fun w' M => by
  have h := shAll ⟨xpa, xpn, xpc, [xg], xha, 1, xhc, S.hxX, 2⟩ TK w' (K0.ext M.ext) (ShR.own (s := ⟨xpa, xpn, xpc, [xg], xha, 1, xhc, S.hxX, 2⟩) ht1.k (snSz hxg) snTwo w' M) hLx
  rw [hVx, show S.chkH ⟨[S.snP], 1, S.hxX, 2⟩ = 8 from S.sn_version] at h
  exact h) fun qa _ => ?_
 dsimp only[grE,List.cons_append,List.nil_append];refine run ?_;refine J.alloc rfl fun b33=>?_
 refine run ?_
 refine J.call rfl rfl (fun w' M => by
  have h := shHeads ⟨xpa, xpn, xpc, [xg], xha, 1, xhc, S.hxX, 2⟩ TK w' (K0.ext M.ext) (ShR.own (s := ⟨xpa, xpn, xpc, [xg], xha, 1, xhc, S.hxX, 2⟩) ht1.k (snSz hxg) snTwo w' M) hLx
  rw [hVx, show S.chkH ⟨[S.snP], 1, S.hxX, 2⟩ = 8 from S.sn_version, (S.hd_8 hno).1, (S.hd_8 hno).2] at h
  exact h) fun qh _ => ?_
 refine run ?_
 refine J.callp rfl rfl (fun w' M => by
  have h := shHas ⟨xpa, xpn, xpc, [xg], xha, 1, xhc, S.hxX, 2⟩ S.hxX TK w' (K0.ext M.ext) (ShR.own (s := ⟨xpa, xpn, xpc, [xg], xha, 1, xhc, S.hxX, 2⟩) ht1.k (snSz hxg) snTwo w' M) hLx hX
  rw [hVx, show S.chkH ⟨[S.snP], 1, S.hxX, 2⟩ = 8 from S.sn_version, S.hs_8 hno] at h
  exact h) ?_
 refine run ?_
 refine J.callp rfl rfl (fun w' M => by
  have h := shNum ⟨xpa, xpn, xpc, [xg], xha, 1, xhc, S.hxX, 2⟩ S.hxX TK w' (K0.ext M.ext) (ShR.own (s := ⟨xpa, xpn, xpc, [xg], xha, 1, xhc, S.hxX, 2⟩) ht1.k (snSz hxg) snTwo w' M) hLx hX
  rw [hVx, show S.chkH ⟨[S.snP], 1, S.hxX, 2⟩ = 8 from S.sn_version, S.nb_8 hno] at h
  exact h) ?_
 refine run ?_;refine J.regionX [(0, .q),(1, .q),(2, .q),(3, .q),(4, .q),(5, .q),(6, .q),(7, .q),(8, .q),(9, .q),(10, .q),(11, .q),(12, .q),(13, .q),(14, .q),(15, .q),(16, .q),(17, .q),(18, .q),(19, .q),(20, .q),(21, .q),(22, .q),(23, .q),(24, .q),(25, .q),(26, .q),(27, .q),(28, .q),(29, .q),(30, .q),(31, .q),(32, .q),(33, .q),(34, .q),(35, .q),(36, .q),(37, .e),(38, .e),(39, .q),(40, .q),(41, .q),(42, .q),(43, .q),(44, .q),(45, .q),(46, .q),(47, .q),(48, .q),(49, .q),(50, .q),(51, .q),(52, .q),(53, .q),(54, .q),(55, .q),(56, .q),(57, .e),(58, .q),(59, .q)] mixed (by kernel_rfl) ?_;refine run ?_;refine J.call rfl rfl (fun w' M=>shA TK w' (K0.ext M.ext)) fun zq _=>?_
 refine run ?_;refine J.callp rfl rfl (fun w' M=>(RW.row' (a:=oa) w' M).elim fun _ m1=>(RW.row' (a:=zq.1) w' M).elim fun _ m2=>sameO S.hxO S.hxO S.hx_okO S.hx_okO _ _ _ _ w' m1 m2) ?_;rw[show decide (S.SameO S.hxO S.hxO)=true from decide_eq_true (S.sameO_refl _)];refine run ?_;refine J.callp rfl rfl (fun w' M=>shAlive TK w' (K0.ext M.ext)) ?_;refine run ?_;exact J.fin rfl
end W
end Go.Proofs.YtkibkhgcbepolaaGreatDoor
