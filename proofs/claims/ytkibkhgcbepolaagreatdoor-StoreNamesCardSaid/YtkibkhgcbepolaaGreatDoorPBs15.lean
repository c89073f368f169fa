/-
  Part 15 of the lemmas of these laws: StoreNames.
-/
import Derived.Test.YtkibkhgcbepolaaGreatDoorPBs14
set_option linter.unusedVariables false
set_option linter.unusedSimpArgs false
open Go.Proofs.Tryz
namespace Go.Proofs.YtkibkhgcbepolaaGreatDoor
namespace G
open Go.RowKit
theorem rs_mono{P:Program}{ops:Array Oper}{K K':List Value→World→Prop}(hk:∀l w,K l w→K' l w):∀(os:List Oper) (l:List Value) (w:World),RS P ops K os l w→RS P ops K' os l w
 |[],l,w,h=>by
  unfold RS at h⊢;exact hk l w h
 |o::rest,l,w,h=>by
  unfold RS at h⊢;split at h
  ·rename_i c;rw[if_pos c];unfold Oper.wp at h⊢;exact upon_mono (fun a w ⟨l',e,h⟩=>⟨l',e,rs_mono hk rest l' w h⟩) (fun _ _ _ h=>h) h
  ·rename_i c;rw[if_neg c];exact rs_mono hk rest _ w h
/-! ### parts in another order -/
theorem Sep.perm{E E':List Ent}(h:E.Perm E'):∀ {U:Nat→Prop} {w:World},Sep E U w→Sep E' U w:=by
 induction h with
 |nil=>exact fun h=>h
 |cons x _ ih=>exact fun⟨S,T,h1,h2,h3,h4,h5⟩=>⟨S,T,h1,h2,h3,h4,ih h5⟩
 |swap x y l=>
  rintro U w ⟨S1,T1,a1,a2,a3,a4,S2,T2,b1,b2,b3,b4,b5⟩;exact⟨S2,fun b=>S1 b∨T2 b,fun b hb=>a2 b (b1 b hb),fun b hb=>hb.elim (a1 b) (fun k=>a2 b (b2 b k)),fun b hb hc=>hc.elim (fun k=>a3 b k (b1 b hb)) (b3 b hb),b4,S1,T2,fun b hb=> .inl hb,fun b hb=> .inr hb,fun b hb hc=>a3 b hb (b2 b hc),a4,b5⟩
 |trans _ _ ih1 ih2=>exact fun h=>ih2 (ih1 h)
theorem Sep.parts:∀ {E L:List Ent} {U:Nat→Prop} {w:World},Sep (E++L) U w→∃S T:Nat→Prop,(∀b,S b→U b)∧(∀b,T b→U b)∧(∀b,S b→T b→False)∧Sep E S w∧Sep L T w
 |[],L,U,w,h=>⟨no,U,fun _ h=>h.elim,fun _ h=>h,fun _ h=>h.elim,trivial,h⟩
 |e::E,L,U,w,⟨A,B,h1,h2,h3,h4,h5⟩=>by
  obtain⟨S,T,g1,g2,g3,g4,g5⟩:=Sep.parts h5;exact⟨fun b=>A b∨S b,T,fun b hb=>hb.elim (h1 b) (fun k=>h2 b (g1 b k)),fun b hb=>h2 b (g2 b hb),fun b hb hc=>hb.elim (fun k=>h3 b k (g2 b hc)) (fun k=>g3 b k hc),⟨A,S,fun b hb=> .inl hb,fun b hb=> .inr hb,fun b hb hc=>h3 b hb (g1 b hc),h4,g4⟩,g5⟩
theorem Sep.pack{E V L:List Ent}{U:Nat→Prop}{w:World}(h:Sep (E++(V++L)) U w):Sep (E++ .all V::L) U w:=by
 obtain⟨S,T,h1,h2,h3,h4,h5⟩:=h.parts;obtain⟨S2,T2,g1,g2,g3,g4,g5⟩:=h5.parts;exact Sep.app (T:=T) h4 ⟨S2,T2,g1,g2,g3,(show(Ent.all V).ok S2 w by unfold Ent.all;exact g4),g5⟩ h1 h2 h3
theorem Sep.unpack{E V L:List Ent}{U:Nat→Prop}{w:World}(h:Sep (E++ .all V::L) U w):Sep (E++(V++L)) U w:=by
 obtain⟨S,T,h1,h2,h3,h4,h5⟩:=h.parts;obtain⟨S2,T2,g1,g2,g3,g4,g5⟩:=h5;exact Sep.app (T:=T) h4 (Sep.app (show Sep V S2 w by unfold Ent.all at g4;exact g4) g5 g1 g2 g3) h1 h2 h3
theorem Mem.perm{S0:Nat→Prop}{w0 w:World}{L L':List Ent}(M:Mem S0 w0 L w)(h:L.Perm L'):Mem S0 w0 L' w:=⟨M.pr,M.sep.perm h⟩
/-! ### what is said of each operation -/
structure Cl(δ:Type) where
 dst:Option Nat
 val:(Nat→δ)→Value
 own:(Nat→δ)→List Ent
 p:(Nat→δ)→Prop
 dep:List Nat
 use:List Nat
 eat:List Nat
def hasN(l:List Nat)(j:Nat):Bool:=l.any (Nat.beq j)
theorem hasN_iff{l:List Nat}{j:Nat}:hasN l j=true↔j∈l:=by
 unfold hasN;rw[List.any_eq_true];exact⟨fun⟨x,h1,h2⟩=>Nat.eq_of_beq_eq_true h2▸h1,fun h=>⟨j,h,Nat.beq_refl j⟩⟩
section
variable{δ:Type}
def msk(i:Nat)(dep:List Nat)(c:Nat→δ):Nat→δ:=fun j=>cond (Nat.beq j i||hasN dep j) (c j) (c i)
theorem msk_eq{i:Nat}{dep:List Nat}{c c':Nat→δ}(h0:c i=c' i)(h:∀j∈dep,c j=c' j):msk i dep c=msk i dep c':=by
 funext j;unfold msk;cases e:(Nat.beq j i||hasN dep j)
 ·exact h0
 ·rw[Bool.or_eq_true]at e;rcases e with e|e
  ·obtain rfl:=Nat.eq_of_beq_eq_true e;exact h0
  ·exact h j (hasN_iff.1 e)
def put(c:Nat→δ)(i:Nat)(x:δ):Nat→δ:=fun j=>cond (Nat.beq j i) x (c j)
theorem put_ne{c:Nat→δ}{i j:Nat}{x:δ}(h:j≠i):put c i x j=c j:=by
 unfold put;cases e:Nat.beq j i
 ·rfl
 ·exact absurd (Nat.eq_of_beq_eq_true e) h
variable(T:List (Cl δ))
def clAt(i:Nat):Cl δ:=T.getD i ⟨none,fun _=>undef,fun _=>[],fun _=>True,[],[],[]⟩
def clV(i:Nat)(c:Nat→δ):Value:=(clAt T i).val (msk i (clAt T i).dep c)
def clO(i:Nat)(c:Nat→δ):List Ent:=(clAt T i).own (msk i (clAt T i).dep c)
def clP(i:Nat)(c:Nat→δ):Prop:=(clAt T i).p (msk i (clAt T i).dep c)
def dstD:List Nat:=T.filterMap Cl.dst
def depD(i:Nat):List Nat:=(clAt T i).dep.filterMap fun j=>(clAt T j).dst
def useF(i:Nat)(c:Nat→δ):List Ent:=((List.range T.length).filter fun j=>hasN (clAt T i).use j).flatMap fun j=>clO T j c
def keepF(i:Nat)(c:Nat→δ):List Ent:=((List.range T.length).filter fun j=>hasN (clAt T i).use j&& !hasN (clAt T i).eat j).flatMap fun j=>clO T j c
def MF(i:Nat)(c:Nat→δ):List (Nat×Value):=(clAt T i).dep.filterMap fun j=>(clAt T j).dst.map fun d=>(d,clV T j c)
def JF(i:Nat):List Nat:=(dstD T).filter fun d=> !hasN (depD T i) d
def frF(lb:List Value)(i:Nat)(c:Nat→δ)(v:Nat→Value):List Value:=upd (upd lb (MF T i c)) (junk (JF T i) v)
def OutF(S0:Nat→Prop)(w0:World)(L:List Ent)(i:Nat)(F:Ent)(c:Nat→δ)(l l':List Value)(w':World):Prop:=∃x,clP T i (put c i x)∧l'=putL (clAt T i).dst (clV T i (put c i x)) l∧Mem S0 w0 (clO T i (put c i x)++(keepF T i c++F::L)) w'
def stepF(S0:Nat→Prop)(w0:World)(L:List Ent)(P:Program)(l0:List Oper)(lb:List Value)(i:Nat):Prop:=∀(F:Ent) (c:Nat→δ) (v:Nat→Value),(∀j∈(clAt T i).dep,clP T j c)→J S0 w0 (useF T i c++F::L) (RY S0 w0 .s P l0.toArray (OutF T S0 w0 L i F c (frF T lb i c v)) [(nth l0 i, .e)] (frF T lb i c v))
def stepsF(S0:Nat→Prop)(w0:World)(L:List Ent)(P:Program)(l0:List Oper)(lb:List Value):List Nat→Prop
 |[]=>True
 |i::r=>stepF T S0 w0 L P l0 lb i∧stepsF S0 w0 L P l0 lb r
def dn(n:Nat)(li:Array Bool)(j:Nat):Bool:=li.getD j false||Nat.ble n j
def slF(c:Nat→δ):List (Nat×Value):=(List.range T.length).filterMap fun j=>(clAt T j).dst.map fun d=>(d,clV T j c)
def endF(c:Nat→δ):List Ent:=((List.range T.length).filter fun j=> !(List.range T.length).any fun k=>hasN (clAt T k).eat j).flatMap fun j=>clO T j c
def allF(c:Nat→δ):List Nat→Prop
 |[]=>True
 |i::r=>clP T i c∧allF c r
def checkF(l0:List Oper)(n:Nat):Bool:=
 Nat.ble l0.length T.length && (((List.range T.length).all fun i => Nat.blt i l0.length || ((clAt T i).dst.isNone && ((clAt T i).dep.isEmpty && (clAt T i).eat.isEmpty))) && ((List.range l0.length).all fun i => (nth l0 i).dst == (clAt T i).dst && ((nth l0 i).guard.isNone && (((nth l0 i).after.all fun e => !Region.binds .any e || Nat.blt e.on i) &&
  (((clAt T i).dep.all fun j => Nat.blt j T.length && (hasN (ancL l0.toArray 5000 (depsL l0.toArray i) []) j || Nat.ble l0.length j)) && (((clAt T i).use.all fun j => hasN (clAt T i).dep j) && (((clAt T i).eat.all fun j => hasN (clAt T i).use j) &&
  ((List.range l0.length).all fun k => Nat.beq k i || (!((clAt T k).eat.any fun j => hasN (clAt T i).use j) || hasN (ancL l0.toArray 5000 (depsL l0.toArray k) []) i))))))))) && (decide (dstD T).Nodup && (dstD T).all fun d => Nat.blt d n)
variable{T}
theorem stepsF_mem{S0:Nat→Prop}{w0:World}{L:List Ent}{P:Program}{l0:List Oper}{lb:List Value}:∀ {is:List Nat},stepsF T S0 w0 L P l0 lb is→∀i∈is,stepF T S0 w0 L P l0 lb i
 |[],_,i,hi=>by cases hi
 |j::r,h,i,hi=>by
  rcases List.mem_cons.1 hi with rfl|hi
  ·exact h.1
  ·exact stepsF_mem h.2 i hi
theorem allF_of{c:Nat→δ}:∀ {is:List Nat},(∀i∈is,clP T i c)→allF T c is
 |[],_=>trivial
 |i::r,h=>⟨h i (List.mem_cons_self ..),allF_of fun j hj=>h j (List.mem_cons_of_mem _ hj)⟩
theorem FF_same{l lb:List Value}(ds:List Nat)(hl:l.length=lb.length)(h:∀s,s∉ds→l[s]? =lb[s]?):FF lb ds (fun s=>l.getD s undef)=l:=by
 apply List.ext_getElem?;intro s;rw[FF_get];by_cases c:s∈ds∧s<lb.length
 ·rw[if_pos c,List.getD_eq_getElem?_getD,List.getElem?_eq_getElem (by omega)];rfl
 ·rw[if_neg c];by_cases k:s∈ds
  ·have:¬s<lb.length:=fun h=>c ⟨k,h⟩;rw[List.getElem?_eq_none (by omega),List.getElem?_eq_none (by omega)]
  ·exact(h s k).symm
theorem fmap_slots{l:List Value}{c:Nat→δ}:∀(js:List Nat),(∀j∈js,∀d,(clAt T j).dst=some d→l.getD d undef=clV T j c)→(js.filterMap fun j=>(clAt T j).dst.map fun d=>(d,clV T j c))=(js.filterMap fun j=>(clAt T j).dst).map fun d=>(d,l.getD d undef)
 |[],_=>rfl
 |j::r,h=>by
  have ih:=fmap_slots r fun k hk=>h k (List.mem_cons_of_mem _ hk);cases e:(clAt T j).dst with
  |none=>rw[List.filterMap_cons_none (f:=fun j=>(clAt T j).dst.map fun d=>(d,clV T j c)) (by rw[e];rfl),List.filterMap_cons_none (f:=fun j=>(clAt T j).dst) e,ih]
  |some d=>rw[List.filterMap_cons_some (f:=fun j=>(clAt T j).dst.map fun d=>(d,clV T j c)) (by rw[e];rfl),List.filterMap_cons_some (f:=fun j=>(clAt T j).dst) e,ih,List.map_cons,h j (List.mem_cons_self ..) d e]
structure OkF(T:List (Cl δ))(S0:Nat→Prop)(w0:World)(L:List Ent)(l0:List Oper)(lb:List Value)(li:Array Bool)(c:Nat→δ)(l:List Value)(w:World):Prop where
 sz:li.size=l0.length
 cl:Closed l0.toArray li
 len:l.length=lb.length
 out:∀s,s∉dstD T→l[s]? =lb[s]?
 val:∀i,i<T.length→dn l0.length li i=true→∀d,(clAt T i).dst=some d→l.getD d undef=clV T i c
 p:∀i,i<T.length→dn l0.length li i=true→clP T i c
 mem:Mem S0 w0 (((List.range T.length).filter fun j=>dn l0.length li j&& !(List.range T.length).any fun k=>dn l0.length li k&&hasN (clAt T k).eat j).flatMap (fun j=>clO T j c)++L) w
theorem nodupF{n:Nat}(f:Nat→Bool):((List.range n).filter f).Nodup:=List.Pairwise.filter _ List.nodup_range
theorem flat_congr{α β:Type}{f g:α→List β}:∀ {l:List α},(∀x∈l,f x=g x)→l.flatMap f=l.flatMap g
 |[],_=>rfl
 |x::l,h=>by rw[List.flatMap_cons,List.flatMap_cons,h x (List.mem_cons_self ..),flat_congr fun y hy=>h y (List.mem_cons_of_mem _ hy)]
theorem anyF{S0:Nat→Prop}{w0:World}{L:List Ent}{P:Program}{l0:List Oper}{lb:List Value}{Q:Act→World→Prop}(hB:checkF T l0 lb.length=true)(hst:∀i,i<l0.length→stepF T S0 w0 L P l0 lb i)
  (hend:∀c w,(∀i,i<T.length→clP T i c)→Mem S0 w0 (endF T c++L) w→Q (fr (upd lb (slF T c))) w):
  ∀(n:Nat) (li:Array Bool) (c:Nat→δ) (l:List Value) (w:World),cntU l0.length li=n→OkF T S0 w0 L l0 lb li c l w→wpX P l0.toArray (fun _ _=>True) [] Q n li (fr l) w:=by
 simp only[checkF,Bool.and_eq_true,decide_eq_true_eq]at hB;obtain⟨⟨hN,hvt,hall⟩,hnd,hdl⟩:=hB;have hN:l0.length≤T.length:=Nat.le_of_ble_eq_true hN;have virt:∀i,l0.length≤i→i<T.length→(clAt T i).dst=none∧(clAt T i).dep=[]∧(clAt T i).eat=[]:=fun i h1 h2=>by
  have:=List.all_eq_true.1 hvt i (List.mem_range.2 h2);simp only[Bool.or_eq_true,Bool.and_eq_true,Option.isNone_iff_eq_none,List.isEmpty_iff]at this;rcases this with h|h
  ·rw[Nat.blt_eq]at h;omega
  ·exact h
 have dn_lt:∀ {li:Array Bool} {j:Nat},j<l0.length→dn l0.length li j=li.getD j false:=fun {li j} h=>by
  unfold dn;have:Nat.ble l0.length j=false:=by rw[Bool.eq_false_iff];intro e;have:=Nat.le_of_ble_eq_true e;omega
  rw[this,Bool.or_false]
 have dn_ge:∀ {li:Array Bool} {j:Nat},l0.length≤j→dn l0.length li j=true:=fun {li j} h=>by
  unfold dn;rw[Nat.ble_eq_true_of_le h,Bool.or_true]
 have one:∀i,i<l0.length→(nth l0 i).dst=(clAt T i).dst∧(nth l0 i).guard=none∧(∀e∈(nth l0 i).after,Region.binds .any e=true→e.on<i)∧(∀j∈(clAt T i).dep,j<T.length∧(j∈ancL l0.toArray 5000 (depsL l0.toArray i) []∨l0.length≤j))∧(∀j∈(clAt T i).use,j∈(clAt T i).dep)∧(∀j∈(clAt T i).eat,j∈(clAt T i).use)∧(∀k,k<l0.length→k≠i→∀j∈(clAt T k).eat,j∈(clAt T i).use→i∈ancL l0.toArray 5000 (depsL l0.toArray k) []):=by
  intro i hi;have:=List.all_eq_true.1 hall i (List.mem_range.2 hi);simp only[Bool.and_eq_true,beq_iff_eq,Option.isNone_iff_eq_none,List.all_eq_true,Array.all_eq_true_iff_forall_mem,Bool.or_eq_true,Bool.not_eq_true',hasN_iff,List.mem_range]at this;obtain⟨h1,h2,h3,h4,h5,h6,h7⟩:=this;refine⟨h1,h2,fun e he hb=>?_,fun j hj=>?_,h5,h6,fun k hk hne j hj hu=>?_⟩
  ·rcases h3 e he with h|h
   ·rw[hb]at h;cases h
   ·rwa[Nat.blt_eq]at h
  ·have:=h4 j hj;rw[Nat.blt_eq]at this;exact⟨this.1,this.2.imp_right Nat.le_of_ble_eq_true⟩
  ·rcases h7 k hk with h|h|h
   ·exact absurd (Nat.eq_of_beq_eq_true h) hne
   ·have:=List.any_eq_false.1 h j hj;exact absurd (hasN_iff.2 hu) this
   ·exact h
 have ancD:∀ {li:Array Bool},Closed l0.toArray li→∀k,k<l0.length→li.getD k false=true→∀j∈ancL l0.toArray 5000 (depsL l0.toArray k) [],li.getD j false=true:=fun hc k hk hl j hj=>by
  refine ancL_spec hc 5000 (depsL l0.toArray k) [] (fun q hq=>?_) (fun q hq=>by cases hq) j hj;unfold depsL at hq;rw[nth_mem_range hk]at hq;obtain⟨e,he,rfl⟩:=List.mem_map.1 hq;rw[List.mem_filter]at he;exact hc k _ (nth_mem_range hk) hl e (by simpa using he.1) he.2
 have dmem:∀i d,i<T.length→(clAt T i).dst=some d→d∈dstD T:=fun i d hi hd=>by
  unfold dstD;refine List.mem_filterMap.2 ⟨clAt T i,?_,hd⟩;unfold clAt;rw[List.getD_eq_getElem?_getD,List.getElem?_eq_getElem (by omega)];exact List.getElem_mem _
 have dinj:∀i j d,i<T.length→j<T.length→(clAt T i).dst=some d→(clAt T j).dst=some d→i=j:=fun i j d hi hj h1 h2=>by
  have e1:clAt T i=T[i]'(by omega):=by unfold clAt;rw[List.getD_eq_getElem?_getD,List.getElem?_eq_getElem (by omega)];rfl
  have e2:clAt T j=T[j]'(by omega):=by unfold clAt;rw[List.getD_eq_getElem?_getD,List.getElem?_eq_getElem (by omega)];rfl
  rw[e1]at h1;rw[e2]at h2;have hp:=hnd;unfold dstD at hp;rw[List.Nodup,List.pairwise_filterMap]at hp;rcases Nat.lt_trichotomy i j with c|c|c
  ·exact absurd rfl (List.pairwise_iff_getElem.1 hp i j (by omega) (by omega) c d h1 d h2)
  ·exact c
  ·exact absurd rfl (List.pairwise_iff_getElem.1 hp j i (by omega) (by omega) c d h2 d h1)
 intro n
 induction n with
 |zero=>
  intro li c l w hc H;have hall:∀i,i<l0.length→li.getD i false=true:=by
   intro i hi;have:=List.countP_eq_zero.1 hc i (by simpa using hi);simpa using this
  have hdn:∀i,dn l0.length li i=true:=fun i=>by
   rcases Nat.lt_or_ge i l0.length with h|h
   ·rw[dn_lt h];exact hall i h
   ·exact dn_ge h
  refine⟨?_,?_⟩
  ·cases hr:Region.ready .any l0.toArray li with
   |nil=>rfl
   |cons j r=>
    obtain⟨hj0,oj,hoj,_⟩:=mem_ready.1 (show j∈Region.ready .any l0.toArray li by rw[hr];exact List.mem_cons_self ..);have hjn:j<l0.length:=by simpa using(Array.getElem?_eq_some_iff.1 hoj).1
    have h1:=hall j hjn;have hlt:j<li.size:=by rw[H.sz];exact hjn
    simp[hlt]at hj0 h1;rw[h1]at hj0;cases hj0
  ·have e:l=upd lb (slF T c):=by
    have h1:=FF_same (dstD T) H.len H.out;unfold FF at h1;rw[←h1];congr 1;unfold slF;rw[fmap_slots (l:=l) _ fun j hj d hd=>H.val j (List.mem_range.1 hj) (hdn j) d hd];congr 1;unfold dstD clAt;have:∀(T:List (Cl δ)),T.filterMap Cl.dst=(List.range T.length).filterMap fun j=>(T.getD j ⟨none,fun _=>undef,fun _=>[],fun _=>True,[],[],[]⟩).dst:=fun T=>by
     have h2:T=(List.range T.length).map fun j=>T.getD j ⟨none,fun _=>undef,fun _=>[],fun _=>True,[],[],[]⟩:=by
      apply List.ext_getElem
      ·simp
      ·intro i h1 h2;simp[h1]
     conv=>lhs;rw[h2]
     rw[List.filterMap_map];rfl
    exact this T
   rw[e];refine hend c w (fun i hi=>H.p i hi (hdn i)) ?_;have hm:=H.mem;refine cast (congrArg (fun x=>Mem S0 w0 (x++L) w) ?_) hm;unfold endF;refine congrArg (fun q=>List.flatMap _ q) (List.filter_congr fun j hj=>?_);rw[hdn j,Bool.true_and];congr 1;rw[Bool.eq_iff_iff,List.any_eq_true,List.any_eq_true];constructor
   ·rintro⟨k,hk,h⟩;rw[Bool.and_eq_true]at h;exact⟨k,hk,h.2⟩
   ·rintro⟨k,hk,h⟩;exact⟨k,hk,by rw[hdn k,h];rfl⟩
 |succ n ih=>
  intro li c l w hc H;refine⟨fun h0=>?_,fun i hi=>?_⟩
  ·exfalso;have hex:∃s,s<l0.length∧li.getD s false=false:=by
    have hp:0<(List.range l0.length).countP fun i=> !li.getD i false:=by unfold cntU at hc;omega
    obtain⟨s,hs,h⟩:=List.countP_pos_iff.1 hp;exact⟨s,by simpa using hs,by simpa using h⟩
   obtain⟨s,hs,hmin⟩:∃s,(s<l0.length∧li.getD s false=false)∧∀t,t<s→li.getD t false=true:=by
    obtain⟨s,hs⟩:=hex
    induction s using Nat.strongRecOn with
    |_ s ihs=>
     by_cases h:∃t,t<s∧li.getD t false=false
     ·obtain⟨t,ht,hf⟩:=h;exact ihs t ht ⟨by omega,hf⟩
     ·refine⟨s,hs,fun t ht=>?_⟩;cases hb:li.getD t false
      ·exact absurd ⟨t,ht,hb⟩ h
      ·rfl
   have:s∈Region.ready .any l0.toArray li:=by
    refine mem_ready.2 ⟨?_,nth l0 s,nth_mem_range hs.1,fun e he hb=>hmin _ ((one s hs.1).2.2.1 e he hb)⟩;have:=hs.2;have hlt:s<li.size:=by rw[H.sz];exact hs.1
    simp[hlt]at this⊢;exact this
   rw[h0]at this;cases this
  ·obtain⟨hi0,oi,hoi,hia⟩:=mem_ready.1 hi;have him:i<l0.length:=by simpa using(Array.getElem?_eq_some_iff.1 hoi).1
   rw[nth_mem_range him]at hoi;obtain rfl:=Option.some.inj hoi;obtain⟨o1,o2,o3,o4,o5,o6,o7⟩:=one i him;have hif:li.getD i false=false:=by
    have hlt:i<li.size:=by rw[H.sz];exact him
    simp[hlt]at hi0⊢;exact hi0
   have hni:dn l0.length li i=false:=by rw[dn_lt him];exact hif
   have hdone:∀j∈(clAt T i).dep,dn l0.length li j=true:=fun j hj=>by
    rcases(o4 j hj).2 with h|h
    ·have := ancL_spec H.cl 5000 (depsL l0.toArray i) [] (fun q hq => by
      unfold depsL at hq
      rw [nth_mem_range him] at hq
      obtain ⟨e, he, rfl⟩ := List.mem_map.1 hq
      rw [List.mem_filter] at he
      exact hia e (by simpa using he.1) he.2) (fun q hq => by cases hq) j h
     unfold dn;rw[this];rfl
    ·exact dn_ge h
   have huse:∀j∈(clAt T i).use,(dn l0.length li j&& !(List.range T.length).any fun k=>dn l0.length li k&&hasN (clAt T k).eat j)=true:=fun j hj=>by
    rw[hdone j (o5 j hj),Bool.true_and,Bool.not_eq_true',List.any_eq_false];intro k hk h;rw[Bool.and_eq_true,hasN_iff]at h;have hkn:k<l0.length:=by
     rcases Nat.lt_or_ge k l0.length with c|c
     ·exact c
     ·rw[(virt k c (List.mem_range.1 hk)).2.2]at h;exact absurd h.2 (List.not_mem_nil)
    have hne:k≠i:=fun e=>by rw[e,hni]at h;cases h.1
    rw[dn_lt hkn]at h;have:=ancD H.cl k hkn h.1 i (o7 k hkn hne j h.2 hj);rw[hif]at this;cases this
   -- the others
   obtain⟨V,hV⟩:∃V:List Nat,V=(List.range T.length).filter fun j=>(dn l0.length li j&& !(List.range T.length).any fun k=>dn l0.length li k&&hasN (clAt T k).eat j)&& !hasN (clAt T i).use j:=⟨_,rfl⟩
   have hVn:V.Nodup:=hV▸nodupF _;have hVm:∀j,j∈V↔j<T.length∧(dn l0.length li j&& !(List.range T.length).any fun k=>dn l0.length li k&&hasN (clAt T k).eat j)=true∧j∉(clAt T i).use:=fun j=>by
    rw[hV,List.mem_filter,List.mem_range,Bool.and_eq_true,Bool.not_eq_true',←Bool.not_eq_true,hasN_iff]
   have hperm:((List.range T.length).filter fun j=>dn l0.length li j&& !(List.range T.length).any fun k=>dn l0.length li k&&hasN (clAt T k).eat j).Perm (((List.range T.length).filter fun j=>hasN (clAt T i).use j)++V):=by
    refine(List.perm_ext_iff_of_nodup (nodupF _) (List.nodup_append.2 ⟨nodupF _,hVn,fun a ha b hb e=>?_⟩)).2 fun a=>?_
    ·subst e;rw[List.mem_filter,hasN_iff]at ha;exact((hVm a).1 hb).2.2 ha.2
    ·rw[List.mem_append,hVm,List.mem_filter,List.mem_filter,List.mem_range,hasN_iff];constructor
     ·rintro⟨h1,h2⟩;by_cases hu:a∈(clAt T i).use
      ·exact .inl ⟨h1,hu⟩
      ·exact .inr ⟨h1,h2,hu⟩
     ·rintro(⟨h1,h2⟩|⟨h1,h2,_⟩)
      ·exact⟨h1,huse a h2⟩
      ·exact⟨h1,h2⟩
   have M1:Mem S0 w0 (useF T i c++ .all (V.flatMap fun j=>clO T j c)::L) w:=by
    have h1:=H.mem.perm ((hperm.flatMap_right fun j=>clO T j c).append_right L);rw[List.flatMap_append,List.append_assoc]at h1;exact⟨h1.pr,h1.sep.pack⟩
   have hfr:frF T lb i c (fun s=>l.getD s undef)=l:=by
    have e1:MF T i c=(depD T i).map fun d=>(d,l.getD d undef):=fmap_slots (l:=l) _ fun j hj d hd=>H.val j (o4 j hj).1 (hdone j hj) d hd;unfold frF junk;rw[e1];have e2:upd (upd lb ((depD T i).map fun d=>(d,l.getD d undef))) ((JF T i).map fun d=>(d,l.getD d undef))=FF (FF lb (depD T i) fun d=>l.getD d undef) (JF T i) fun d=>l.getD d undef:=rfl;rw[e2];refine FF_same (lb:=FF lb (depD T i) fun d=>l.getD d undef) (JF T i) (by rw[FF_len];exact H.len) fun s hs=>?_
    rw[FF_get];by_cases hsd:s∈depD T i∧s<lb.length
    ·rw[if_pos hsd,List.getD_eq_getElem?_getD,List.getElem?_eq_getElem (by rw[H.len];exact hsd.2)];rfl
    ·rw[if_neg hsd];by_cases hsl:s<lb.length
     ·refine H.out s fun hd=>hs ?_;unfold JF;rw[List.mem_filter,Bool.not_eq_true',←Bool.not_eq_true,hasN_iff];exact⟨hd,fun h=>hsd ⟨h,hsl⟩⟩
     ·rw[List.getElem?_eq_none (by have:=H.len;omega),List.getElem?_eq_none (by omega)]
   have hk:=hst i him (.all (V.flatMap fun j=>clO T j c)) c (fun s=>l.getD s undef) (fun j hj=>H.p j (o4 j hj).1 (hdone j hj)) w M1;rw[hfr]at hk;have hk:RS P l0.toArray (OutF T S0 w0 L i (.all (V.flatMap fun j=>clO T j c)) c l) [nth l0 i] l w:=hk;unfold RS at hk;unfold xOp;rw[nth_mem_range him];have hwn:Region.wanted (nth l0 i) (yielded l0.toArray (fr l).tmps)=true:=by simp[Region.wanted,o2]
   simp only[hwn,if_true];rw[if_pos (by simp[Region.wanted,o2])]at hk;unfold Oper.wp at hk⊢;refine upon_mono ?_ (fun _ _ _ h=>h) hk;rintro a' w' ⟨l',rfl,hO⟩;refine⟨fun _=>trivial,?_⟩;have hO:OutF T S0 w0 L i (.all (V.flatMap fun j=>clO T j c)) c l l' w':=hO;obtain⟨x,hp,rfl,hM⟩:=hO;have same:∀j,j<T.length→dn l0.length li j=true→msk j (clAt T j).dep (put c i x)=msk j (clAt T j).dep c:=fun j hjt hj=>by
    have hne:j≠i:=fun e=>by rw[e,hni]at hj;cases hj
    refine msk_eq (put_ne hne) fun q hq=>put_ne fun e=>?_
    rcases Nat.lt_or_ge j l0.length with c|c
    ·rw[dn_lt c]at hj;rcases((one j c).2.2.2.1 q hq).2 with h|h
     ·have:=ancD H.cl j c hj q h;rw[e,hif]at this;cases this
     ·omega
    ·rw[(virt j c hjt).2.1]at hq;cases hq
   have hg:∀j,dn l0.length (li.setIfInBounds i true) j=true↔j=i∨dn l0.length li j=true:=fun j=>by
    by_cases e:j=i
    ·subst e;have hlt:j<li.size:=by rw[H.sz];exact him
     rw[dn_lt him];simp[hlt]
    ·unfold dn;rw[getD_set_ne false (Ne.symm e)];simp[e]
   refine ih _ (put c i x) _ w' ?_ ⟨by simp[H.sz],H.cl.set hi,?_,?_,?_,?_,?_⟩
   ·have:=countP_set l0.length li i him (by rw[H.sz];exact him) hif;omega
   ·unfold putL;split
    ·rw[List.length_set];exact H.len
    ·exact H.len
   ·intro s hs;unfold putL;split
    ·rename_i d hd;rw[List.getElem?_set_ne (fun e=>hs (by rw[←e];exact dmem i d (by omega) hd))];exact H.out s hs
    ·exact H.out s hs
   ·intro j hj hl d hd;rcases(hg j).1 hl with rfl|hl
    ·rw[hd];have hdn:d<lb.length:=by
      have:=List.all_eq_true.1 hdl d (dmem j d hj hd);rwa[Nat.blt_eq]at this
     show(l.set d _).getD d undef=_;rw[List.getD_eq_getElem?_getD,List.getElem?_set,if_pos rfl,if_pos (by rw[H.len];exact hdn)];rfl
    ·have hne:j≠i:=fun e=>by rw[e,hni]at hl;cases hl
     have h1:=H.val j hj hl d hd;have h2:clV T j (put c i x)=clV T j c:=by unfold clV;rw[same j hj hl]
     rw[h2,←h1];unfold putL;split
     ·rename_i d' hd';rw[List.getD_eq_getElem?_getD,List.getElem?_set_ne (fun e=>hne (dinj j i d hj (by omega) hd (by rw[hd',e]))),←List.getD_eq_getElem?_getD]
     ·rfl
   ·intro j hj hl;rcases(hg j).1 hl with rfl|hl
    ·exact hp
    ·have h1:=H.p j hj hl;unfold clP at h1⊢;rwa[same j hj hl]
   ·have hM2:Mem S0 w0 (clO T i (put c i x)++(keepF T i c++(V.flatMap (fun j=>clO T j c)++L))) w':=by
     have h1:=hM.sep;rw[←List.append_assoc]at h1;have h2:=h1.unpack;rw[List.append_assoc]at h2;exact⟨hM.pr,h2⟩
    have e1:keepF T i c=keepF T i (put c i x):=by
     unfold keepF;refine flat_congr fun j hj=>?_
     rw[List.mem_filter,Bool.and_eq_true,hasN_iff]at hj;unfold clO;rw[same j (List.mem_range.1 hj.1) (hdone j (o5 j hj.2.1))]
    have e2:V.flatMap (fun j=>clO T j c)=V.flatMap fun j=>clO T j (put c i x):=flat_congr fun j hj=>by
     have:=((hVm j).1 hj).2.1;rw[Bool.and_eq_true]at this;unfold clO;rw[same j ((hVm j).1 hj).1 this.1]
    rw[e1,e2]at hM2;unfold keepF at hM2;rw[←List.append_assoc,←List.append_assoc]at hM2;refine hM2.perm (List.Perm.append_right L ?_);have e3:clO T i (put c i x)=[i].flatMap fun j=>clO T j (put c i x):=by simp
    rw[e3,←List.flatMap_append,←List.flatMap_append];refine List.Perm.flatMap_right _ ?_;have live:∀a,a≠i→((dn l0.length (li.setIfInBounds i true) a&& !(List.range T.length).any fun k=>dn l0.length (li.setIfInBounds i true) k&&hasN (clAt T k).eat a)=true↔(dn l0.length li a&& !(List.range T.length).any fun k=>dn l0.length li k&&hasN (clAt T k).eat a)=true∧a∉(clAt T i).eat):=fun a ha=>by
     rw[Bool.and_eq_true,Bool.and_eq_true,hg,Bool.not_eq_true',Bool.not_eq_true',List.any_eq_false,List.any_eq_false];constructor
     ·rintro⟨h1,h2⟩;refine⟨⟨h1.resolve_left ha,fun k hk h=>h2 k hk ?_⟩,fun h=>h2 i (List.mem_range.2 (by omega)) ?_⟩
      ·rw[Bool.and_eq_true]at h⊢;exact⟨(hg k).2 (.inr h.1),h.2⟩
      ·rw[Bool.and_eq_true];exact⟨(hg i).2 (.inl rfl),hasN_iff.2 h⟩
     ·rintro⟨⟨h1,h2⟩,h3⟩;refine⟨.inr h1,fun k hk h=>?_⟩;rw[Bool.and_eq_true]at h;rcases(hg k).1 h.1 with rfl|h4
      ·exact h3 (hasN_iff.1 h.2)
      ·exact h2 k hk (by rw[Bool.and_eq_true];exact⟨h4,h.2⟩)
    have livei:(dn l0.length (li.setIfInBounds i true) i&& !(List.range T.length).any fun k=>dn l0.length (li.setIfInBounds i true) k&&hasN (clAt T k).eat i)=true:=by
     rw[Bool.and_eq_true];refine⟨(hg i).2 (.inl rfl),?_⟩;rw[Bool.not_eq_true',List.any_eq_false];intro k hk h;rw[Bool.and_eq_true,hasN_iff]at h;have hkn:k<l0.length:=by
      rcases Nat.lt_or_ge k l0.length with c|c
      ·exact c
      ·rw[(virt k c (List.mem_range.1 hk)).2.2]at h;exact absurd h.2 (List.not_mem_nil)
     obtain⟨_,_,_,k4,k5,k6,_⟩:=one k hkn;have hia2:=(k4 i (k5 i (k6 i h.2))).2.resolve_right (by omega);rcases(hg k).1 h.1 with rfl|hkd
     ·have:=hdone k (k5 k (k6 k h.2));rw[hni]at this;cases this
     ·rw[dn_lt hkn]at hkd;have:=ancD H.cl k hkn hkd i hia2;rw[hif]at this;cases this
    refine(List.perm_ext_iff_of_nodup ?_ (nodupF _)).2 fun a=>?_
    ·rw[List.append_assoc,List.nodup_append];refine⟨List.nodup_cons.2 ⟨(by simp),List.nodup_nil⟩,List.nodup_append.2 ⟨nodupF _,hVn,fun a ha b hb e=>?_⟩,fun a ha b hb e=>?_⟩
     ·subst e;rw[List.mem_filter,Bool.and_eq_true,hasN_iff]at ha;exact((hVm a).1 hb).2.2 ha.2.1
     ·subst e;rw[List.mem_singleton]at ha;subst ha;rcases List.mem_append.1 hb with h|h
      ·rw[List.mem_filter,Bool.and_eq_true,hasN_iff]at h;have:=hdone a (o5 a h.2.1);rw[hni]at this;cases this
      ·have:=((hVm a).1 h).2.1;rw[hni]at this;cases this
    ·rw[List.append_assoc,List.mem_append,List.mem_append,List.mem_singleton,hVm,List.mem_filter,List.mem_filter,List.mem_range,Bool.and_eq_true,hasN_iff,Bool.not_eq_true',←Bool.not_eq_true,hasN_iff];by_cases ha:a=i
     ·subst ha;exact⟨fun _=>⟨by omega,livei⟩,fun _=> .inl rfl⟩
     ·rw[live a ha];constructor
      ·rintro(h|⟨h1,h2,h3⟩|⟨h1,h2,h3⟩)
       ·exact absurd h ha
       ·exact⟨h1,huse a h2,h3⟩
       ·exact⟨h1,h2,fun h=>h3 (o6 a h)⟩
      ·rintro⟨h1,h2,h3⟩;by_cases hu:a∈(clAt T i).use
       ·exact .inr (.inl ⟨h1,hu,h3⟩)
       ·exact .inr (.inr ⟨h1,h2,hu⟩)
end
section
variable{δ:Type}{T:List (Cl δ)}{S0:Nat→Prop}{w0:World}{L:List Ent}{P:Program}{Q:Exit→Act→World→Prop}{l0:List Oper}{lb:List Value}{id:Nat}
theorem J.regionF(d0:δ)(T:List (Cl δ))(V:List Ent)(M:(Nat→δ)→List (Nat×Value))(E:(Nat→δ)→List Ent){l1:(Nat→δ)→List Value}{La:List Ent}(hm:P.follows .mixedOrders=true)(hB:checkF T l0 lb.length=true)(hV:((List.range (T.length - l0.length)).flatMap fun j=>clO T (l0.length+j) fun _=>d0)=V)(hp0:allF T (fun _=>d0) ((List.range (T.length - l0.length)).map fun j=>l0.length+j))(hs:stepsF T S0 w0 L P l0 lb (List.range l0.length))(hM:∀c,slF T c=M c)(hE:∀c,endF T c=E c)
  {L1:(Nat→δ)→List Ent}(k:∀c,allF T c (List.range l0.length)→J S0 w0 (L1 c) (RY S0 w0 .s P l0.toArray (KN Q) [] (l1 c)))(hl:∀c,upd lb (M c)=l1 c:=by intro c;simp only[upd,List.set_cons_succ,List.set_cons_zero];exact rfl)(hL:∀c,E c++L=L1 c:=by intro c;dsimp only[List.cons_append,List.nil_append])
  (hA:V++L=La:=by first|rfl|dsimp only[List.cons_append,List.nil_append]):J S0 w0 La ((Code.region id l0.toArray true).wp P Q (fr lb)):=fun w Mm=>by
 subst hA hV;refine wp_region_any hm ?_;have hN:l0.length≤T.length:=by
  simp only[checkF,Bool.and_eq_true]at hB;exact Nat.le_of_ble_eq_true hB.1.1
 have hf:∀i,(Array.replicate l0.length false).getD i false=false:=fun i=>by
  rw[Array.getD_eq_getD_getElem?,Array.getElem?_replicate];split<;>rfl
 have hdn:∀i,dn l0.length (Array.replicate l0.length false) i=Nat.ble l0.length i:=fun i=>by
  unfold dn;rw[hf i,Bool.false_or]
 have allV:∀(is:List Nat) (c:Nat→δ),allF T c is→∀i∈is,clP T i c:=fun is=>by
  induction is with
  |nil=>intro c _ i hi;cases hi
  |cons j r ih=>
   intro c h i hi;rcases List.mem_cons.1 hi with rfl|hi
   ·exact h.1
   ·exact ih c h.2 i hi
 have hvt:∀i,l0.length≤i→i<T.length→(clAt T i).dst=none∧(clAt T i).eat=[]:=fun i h1 h2=>by
  simp only[checkF,Bool.and_eq_true]at hB;have:=List.all_eq_true.1 hB.1.2.1 i (List.mem_range.2 h2);simp only[Bool.or_eq_true,Bool.and_eq_true,Option.isNone_iff_eq_none,List.isEmpty_iff]at this;rcases this with h|h
  ·rw[Nat.blt_eq]at h;omega
  ·exact⟨h.1,h.2.2⟩
 have key := anyF (P := P) (Q := fun a w => ∃ l, a = fr l ∧ Q .normal (fr l) w) hB (fun i hi => stepsF_mem hs i (List.mem_range.2 hi)) (fun c w' hp hM' => by
  refine ⟨_, rfl, ?_⟩
  rw [hE, hL] at hM'
  rw [hM, hl]
  have := k c (allF_of fun i hi => hp i (by have := List.mem_range.1 hi; omega)) w' hM'
  unfold RY RS at this
  exact this) l0.length (Array.replicate l0.length false) (fun _ => d0) lb { w with drawn := w.drawn + 1 }
  (by
   unfold cntU
   rw [List.countP_eq_length.2 (fun i _ => by rw [hf i]; rfl), List.length_range])
  ⟨by simp, (by intro k ok _ h; rw [hf] at h; cases h), rfl, fun _ _ => rfl, (fun i hi h d hd => by
   rw [hdn] at h
   rw [(hvt i (Nat.le_of_ble_eq_true h) hi).1] at hd
   cases hd), (fun i hi h => by
   rw [hdn] at h
   have h := Nat.le_of_ble_eq_true h
   exact allV _ _ hp0 i (List.mem_map.2 ⟨i - l0.length, List.mem_range.2 (by omega), by omega⟩)), by
   have e : ((List.range T.length).filter fun j => dn l0.length (Array.replicate l0.length false) j && !(List.range T.length).any fun k => dn l0.length (Array.replicate l0.length false) k && hasN (clAt T k).eat j) = (List.range (T.length - l0.length)).map fun j => l0.length + j := by
    have e1 : ((List.range T.length).filter fun j => dn l0.length (Array.replicate l0.length false) j && !(List.range T.length).any fun k => dn l0.length (Array.replicate l0.length false) k && hasN (clAt T k).eat j) = (List.range T.length).filter fun j => Nat.ble l0.length j := List.filter_congr fun j _ => by
     rw [hdn]
     have : ((List.range T.length).any fun k => dn l0.length (Array.replicate l0.length false) k && hasN (clAt T k).eat j) = false := by
      rw [List.any_eq_false]
      intro k hk h
      rw [Bool.and_eq_true, hdn, hasN_iff] at h
      rw [(hvt k (Nat.le_of_ble_eq_true h.1) (List.mem_range.1 hk)).2] at h
      exact absurd h.2 (List.not_mem_nil)
     rw [this]
     simp
    rw [e1]
    obtain ⟨q, hq⟩ := Nat.le.dest hN
    rw [← hq, List.range_add, List.filter_append, show l0.length + q - l0.length = q by omega]
    rw [List.filter_eq_nil_iff.2 fun j hj => (by
     have := List.mem_range.1 hj
     intro h
     have := Nat.le_of_ble_eq_true h
     omega), List.nil_append]
    refine List.filter_eq_self.2 fun j hj => ?_
    obtain ⟨m, _, rfl⟩ := List.mem_map.1 hj
    exact Nat.ble_eq_true_of_le (by omega)
   rw [e, List.flatMap_map]
   exact Mm.grow ((Below.refl _ _).drew)⟩
 have h2:=wpAny_of_X (Q':=Q) (fun a w (h:∃l,a=fr l∧Q .normal (fr l) w)=>by obtain⟨l,rfl,h⟩:=h;exact h) l0.length (Array.replicate l0.length false) (fr lb) _ key;simpa using h2
theorem stepF.i{i:Nat}{o:Oper}(kd:Kd)(U K:(Nat→δ)→List Ent)(O:(Nat→δ)→δ→List Ent)(V:(Nat→δ)→δ→Value)(p:(Nat→δ)→Prop)(q:(Nat→δ)→δ→Prop)(M:(Nat→δ)→List (Nat×Value))(Jk:List Nat)(dd:Option Nat){l1:(Nat→δ)→(Nat→Value)→List Value}
  {L1:Ent→(Nat→δ)→List Ent}(h:∀F c v,p c→J S0 w0 (L1 F c) (RY S0 w0 .s P l0.toArray (fun l' w'=>∃x,q c x∧l'=putL dd (V c x) (l1 c v)∧Mem S0 w0 (O c x++(K c++F::L)) w') [(o,kd)] (l1 c v)))
  (hU:∀c,useF T i c=U c)(hK:∀c,keepF T i c=K c)(hO:∀c x,clO T i (put c i x)=O c x)(hV:∀c x,clV T i (put c i x)=V c x)(hp:∀c,(∀j∈(clAt T i).dep,clP T j c)→p c)(hq:∀c x,q c x→clP T i (put c i x))(hM:∀c,MF T i c=M c)(hJ:JF T i=Jk)(hd:(clAt T i).dst=dd)(ho:nth l0 i=o:=by dsimp only[nth])
  (hl:∀c v,upd (upd lb (M c)) (junk Jk v)=l1 c v:=by intro c v;simp only[upd,junk,List.map_cons,List.map_nil,List.set_cons_succ,List.set_cons_zero];exact rfl)
  (hL:∀F c,U c++F::L=L1 F c:=by intro F c;dsimp only[List.cons_append,List.nil_append]):stepF T S0 w0 L P l0 lb i:=fun F c v hpp=>by
 subst ho;unfold frF;rw[hM,hJ,hl,hU,hL];have:=h F c v (hp c hpp);unfold OutF;rw[hd,hK];intro w Mm;have h2:=this w Mm;unfold RY at h2⊢;have h2:RS P l0.toArray _ [nth l0 i] (l1 c v) w:=h2;show RS P l0.toArray _ [nth l0 i] (l1 c v) w;refine rs_mono (fun l' w' ⟨x,h1,h2,h3⟩=>⟨x,hq c x h1,?_,?_⟩) _ _ _ h2
 ·rw[hV];exact h2
 ·rw[hO];exact h3
theorem J.outF{δ:Type}{L' F:List Ent}{q:δ→Prop}{V:δ→Value}{O:δ→List Ent}{l l':List Value}{dd:Option Nat}(x:δ)(hq:q x)(hl:l'=putL dd (V x) l)(hs:(O x++F).Sublist L'):J S0 w0 L' (fun w'=>∃x,q x∧l'=putL dd (V x) l∧Mem S0 w0 (O x++F) w'):=fun w Mm=>⟨x,hq,hl,Mm.sub hs⟩
end
end G
namespace W
open Go.RowKit G
set_option maxRecDepth 20000
set_option maxHeartbeats 8000000
attribute [local irreducible] RS RX RY Code.wp bodyPost J Ent.blk Ent.iown Ent.wrow Ent.wown Ent.gown Ent.all Ent.emp
instance:Ents prog 38:=⟨.mk func38 (by kernel_rfl) rfl⟩
instance:Ents prog 43:=⟨.mk func43 (by kernel_rfl) rfl⟩
instance:Ents prog 44:=⟨.mk func44 (by kernel_rfl) rfl⟩
structure NstA where
 (b:Nat)(s:StA)(a:Option Addr)(n:Nat)
instance:Inhabited NstA:=⟨⟨0,StA.zero,none,0⟩⟩
theorem nmW:S.chkT ⟨41,S.nm1.sh,1,S.hxX⟩=8:=by
 have h:S.chkT ⟨41,S.nm1.sh,S.nm1.n,S.nm1.os⟩=8:=S.nm_wide;rwa[S.nm1_is.1,S.nm1_is.2.1]at h
theorem nmT:S.chkT ⟨40,S.nm1.sh,2,S.hxX++S.hxX⟩=8:=by
 have h:S.chkT ⟨S.nm1.cap,S.nm1.sh,2,S.hxX++S.hxX⟩=8:=S.nm_twice;rwa[S.nm1_is.2.2]at h
theorem nmO{x:List Int}(hx:S.idAt x 0≠S.hxX):S.chkT ⟨40,S.nm1.sh,1,x⟩=8:=by
 have h:S.chkT ⟨S.nm1.cap,S.nm1.sh,S.nm1.n,x⟩=8:=S.nm_other hx;rwa[S.nm1_is.1,S.nm1_is.2.2]at h
theorem nmS:S.chkT ⟨1,S.nm2.sh,2,S.hxX++S.hxY⟩=8:=by
 have h:S.chkT ⟨1,S.nm2.sh,S.nm2.n,S.nm2.os⟩=8:=S.nm_small;rwa[S.nm2_is.1,S.nm2_is.2.1]at h
theorem nmU:S.chkT ⟨40,S.nm2.sh,2,S.hxY++S.hxX⟩=8:=by
 have h:S.chkT ⟨S.nm2.cap,S.nm2.sh,S.nm2.n,S.hxY++S.hxX⟩=8:=S.nm_turned;rwa[S.nm2_is.1,S.nm2_is.2.2]at h
theorem nmZ:S.chkT S.StV.zero=8:=S.chkT_8 fun h=>absurd h.1.1.1 (by decide)
theorem nmI3{S0 S1:Nat→Prop}{pa pc:Option Addr}{ca cc:Nat}{w:World}(ha:WRow .u8 32 S0 w pa 0 [])(hc:WRow .u8 32 S1 w pc 0 []):Inns opI (fun _=>True) w [⟨S.hxP,pc,cc⟩,⟨S.OpV.zero,none,0⟩,⟨S.hxO,pa,ca⟩]:=fun z hz i hi=>by
 obtain rfl:=List.mem_singleton.1 hi;simp only[List.mem_cons,List.not_mem_nil,or_false]at hz;rcases hz with rfl|rfl|rfl
 ·exact⟨hc.weaken fun _ _ _=>trivial,Nat.zero_le _⟩
 ·exact⟨WRow.nil,Nat.le_refl _⟩
 exact⟨ha.weaken fun _ _ _=>trivial,Nat.zero_le _⟩
theorem nmI2{S0 S1:Nat→Prop}{pa pb:Option Addr}{ca cb:Nat}{w:World}(ha:WRow .u8 32 S0 w pa 0 [])(hb:WRow .u8 32 S1 w pb 1 S.hxX)(hc:1≤cb):Inns opI (fun _=>True) w [⟨S.hxO,pa,ca⟩,⟨S.hxU,pb,cb⟩]:=fun z hz i hi=>by
 obtain rfl:=List.mem_singleton.1 hi;simp only[List.mem_cons,List.not_mem_nil,or_false]at hz;rcases hz with rfl|rfl
 ·exact⟨ha.weaken fun _ _ _=>trivial,Nat.zero_le _⟩
 exact⟨hb.weaken fun _ _ _=>trivial,hc⟩
theorem nmI61(w:World):Inns opI (fun _=>True) w (List.replicate 61 ⟨S.OpV.zero,none,0⟩):=fun z hz i hi=>by
 obtain rfl:=List.eq_of_mem_replicate hz;obtain rfl:=List.mem_singleton.1 hi;exact⟨WRow.nil,Nat.le_refl _⟩
theorem nm61:S.runE S.nm0 (List.replicate 61 S.OpV.zero)=4∧S.runS S.nm0 (List.replicate 61 S.OpV.zero)=S.StV.zero∧S.runL S.nm0 (List.replicate 61 S.OpV.zero)=[]:=by
 have e:=S.nm_many (l:=List.replicate 61 S.OpV.zero) (by rw[List.length_replicate];decide);exact⟨e,S.run_no (by rw[e];decide)⟩
theorem nmR3:S.runS S.nm0 [S.hxP,S.OpV.zero,S.hxO]=S.StV.zero∧S.runL S.nm0 [S.hxP,S.OpV.zero,S.hxO]=[]:=S.run_no (by rw[S.nm_run3];decide)
theorem nmSin{k:Int}(h:S.sinE S.nm1 k=2):S.sinN S.nm1 k=0∧S.sinL S.nm1 k=[]:=S.sin_no (by rw[h];decide)
def nmXi:List Int:=S.hxX.set 5 ((S.hxX.getD 5 0+1) % 256)
theorem nmXi_bd:Bd .u8 nmXi:=by
 have h:=up_bd (l:=[⟨S.hxX,rfl⟩]) (i:=0) (x:=⟨S.hxX,rfl⟩) (by rw[show flatI [⟨S.hxX,rfl⟩]=S.hxX by decide];exact S.hx_arrX.2) 5 rfl;rwa[show flatI (List.set [⟨S.hxX,rfl⟩] 0 (idUp 5 ⟨S.hxX,rfl⟩))=nmXi by decide]at h
theorem nmXY_bd:Bd .u8 (S.hxY++S.hxX):=S.hx_arrY.2.append S.hx_arrX.2
theorem storeNames(TK:TypeId)(w:World)(K0:Kst w TK):Calls prog 7 #[] w (Ret w fun v _=>v= .bool true):=by
 refine J.enter 363 func7 rfl rfl ?_;refine run ?_;refine J.call rfl rfl (fun w' M=>stNew 0 1 w') fun u1 hu1=>?_
 rw[S.nm_new.1];refine run ?_;refine J.alloc rfl fun b1=>?_
 refine run ?_;refine J.call rfl rfl (fun w' M=>stNew 41 1 w') fun u2 hu2=>?_
 rw[S.nm_new.2.1];refine run ?_;refine J.alloc rfl fun b2=>?_
 refine run ?_;refine J.call rfl rfl (fun w' M=>stNew 1 0 w') fun u3 hu3=>?_
 rw[S.nm_new.2.2.1];refine run ?_;refine J.alloc rfl fun b3=>?_
 refine run ?_;refine J.call rfl rfl (fun w' M=>stNew 1 5 w') fun u4 hu4=>?_
 rw[S.nm_new.2.2.2.1];refine run ?_;refine J.alloc rfl fun b4=>?_
 refine run ?_;refine J.call rfl rfl (fun w' M=>stNew 40 4 w') fun s hs=>?_
 rw[S.nm_new.2.2.2.2];have hs:StK S.nm0 s:=hs;have z0:StZ S.nm0:=StZ.nw 40 4;refine run ?_;refine J.alloc rfl fun b5=>?_
 refine run ?_;refine J.call rfl rfl (fun w' M=>stGiven TK w' (K0.ext M.ext)) fun z hz=>?_
 obtain⟨⟨pa,ca⟩,⟨pb,cb⟩,⟨pc,cc⟩⟩:=z;dsimp only at hz⊢;refine run ?_;refine J.alloc rfl fun b6=>?_
 refine J.alloc rfl fun b7=>?_
 refine J.alloc rfl fun b8=>?_
 refine run ?_;refine J.drop (E:=[.blk b8 (opC ⟨S.hxP,pc,cc⟩) 37, .blk b7 (opC ⟨S.hxU,pb,cb⟩) 37, .blk b6 (opC ⟨S.hxO,pa,ca⟩) 37, .wrow .u8 32 pc 0 [], .wrow .u8 32 pb 1 S.hxX, .wrow .u8 32 pa 0 [], .blk b5 (srC s) 55,shW s.sh, .wown 24 .u8 32 s.oa s.on s.oc s.os]) sb ?_;refine J.call rfl rfl (fun w' M=>(RW.row' (a:=pa) w' M).elim fun _ k=>stOffer s ⟨S.hxO,pa,ca⟩ TK w' (K0.ext M.ext) (hs.own z0 w' M) ⟨S.hx_okO,k,Nat.zero_le _⟩) fun one hone=>?_
 rw[hs.V]at hone⊢;rw[S.nm1_of.1]at hone;rw[S.nm1_of.2.1,S.nm1_of.2.2];have z1:StZ S.nm1:=by
  have h:=z0.ofS S.hxO S.nm0_ok.2.1;rwa[S.nm1_of.1]at h
 refine run ?_;refine J.alloc rfl fun b9=>?_
 refine run ?_;refine J.call rfl rfl (fun w' M=>stOffer s ⟨S.OpV.zero,none,0⟩ TK w' (K0.ext M.ext) (hs.own z0 w' M) (zeroOpR w')) fun v1 hv1=>?_
 rw[hs.V,S.nm_ask0];refine run ?_;refine J.alloc rfl fun b10=>?_
 refine run ?_;refine J.call rfl rfl (fun w' M=>(RW.row' (a:=pa) w' M).elim fun _ k=>stOffer StA.zero ⟨S.hxO,pa,ca⟩ TK w' (K0.ext M.ext) (zeroStR w') ⟨S.hx_okO,k,Nat.zero_le _⟩) fun v2 hv2=>?_
 rw[show StA.zero.V=S.StV.zero from rfl,S.nm_zero];refine run ?_;refine J.alloc rfl fun b11=>?_
 refine run ?_;refine J.call rfl rfl (fun w' M=>(RW.row' (a:=pb) w' M).elim fun _ k=>stMissing s ⟨S.hxU,pb,cb⟩ TK w' (K0.ext M.ext) (hs.own z0 w' M) ⟨S.hx_okU,k,hz⟩) fun l1 hl1=>?_
 rw[hs.V,S.nm_ms.1,S.nm_ms.2.1,S.nm_ms.2.2];refine run ?_;refine J.call rfl rfl (fun w' M=>stMissing s ⟨S.OpV.zero,none,0⟩ TK w' (K0.ext M.ext) (hs.own z0 w' M) (zeroOpR w')) fun l2 hl2=>?_
 rw[hs.V,S.nm_ask0];refine run ?_;refine J.drop (E:=[.wown 24 .u8 32 l1.1 1 l1.2 S.hxX, .blk b9 (srC one) 55,shW one.sh, .wown 24 .u8 32 one.oa one.on one.oc one.os, .blk b8 (opC ⟨S.hxP,pc,cc⟩) 37, .blk b7 (opC ⟨S.hxU,pb,cb⟩) 37, .blk b6 (opC ⟨S.hxO,pa,ca⟩) 37, .wrow .u8 32 pc 0 [], .wrow .u8 32 pb 1 S.hxX, .wrow .u8 32 pa 0 [], .blk b5 (srC s) 55,shW s.sh, .wown 24 .u8 32 s.oa s.on s.oc s.os]) sb ?_;obtain⟨osh,ooa,ooc,rfl⟩:=hone.form S.nm1_is.2.2 S.nm1_is.1 S.nm1_is.2.1;dsimp only
 refine J.regionF (δ:=NstA) (default) [⟨some 113,fun c=> .agg (srC s).toArray,fun c=>[],fun c=>True,[],[],[]⟩,⟨some 114,fun c=> .slice (some ⟨(c 1).b,0,none⟩) 61 61,fun c=>[.gown opC 11 37 (some ⟨(c 1).b,0,none⟩) 61 61 (List.replicate 61 ⟨S.OpV.zero,none,0⟩)],fun c=>True,[],[],[]⟩,⟨some 115,fun c=> .tuple #[.agg (srC (c 2).s).toArray, .slice (c 2).a 0 (c 2).n, .int .i64 4],fun c=>[],fun c=>True,[0,1],[1],[]⟩,⟨some 112,fun c=> .tuple #[.agg (srC (c 2).s).toArray, .slice (c 2).a 0 (c 2).n, .int .i64 4],fun c=>[],fun c=>True,[2],[],[]⟩,⟨some 116,fun c=> .agg (srC (c 2).s).toArray,fun c=>[],fun c=>True,[2,3],[],[]⟩,⟨some 117,fun c=> .slice (c 2).a 0 (c 2).n,fun c=>[],fun c=>True,[2,3],[],[]⟩,⟨some 118,fun c=> .int .i64 4,fun c=>[],fun c=>True,[3],[],[]⟩,⟨some 27,fun c=> .pointer (some ⟨(c 7).b,0,none⟩),fun c=>[.blk (c 7).b [.int .i64 0, .slice none 0 0, .slice none 0 0, .int .i64 0, .slice none 0 0] 55],fun c=>True,[],[],[]⟩,⟨none,fun c=>undef,fun c=>[],fun c=>True,[2,4,7],[7],[7]⟩,⟨some 28,fun c=> .slice (c 2).a 0 (c 2).n,fun c=>[],fun c=>True,[2,5],[],[]⟩,⟨some 29,fun c=> .int .i64 4,fun c=>[],fun c=>True,[6],[],[]⟩] [] (fun c=>[(113, .agg (srC s).toArray),(114, .slice (some ⟨(c 1).b,0,none⟩) 61 61),(115, .tuple #[.agg (srC (c 2).s).toArray, .slice (c 2).a 0 (c 2).n, .int .i64 4]),(112, .tuple #[.agg (srC (c 2).s).toArray, .slice (c 2).a 0 (c 2).n, .int .i64 4]),(116, .agg (srC (c 2).s).toArray),(117, .slice (c 2).a 0 (c 2).n),(118, .int .i64 4),(27, .pointer (some ⟨(c 7).b,0,none⟩)),(28, .slice (c 2).a 0 (c 2).n),(29, .int .i64 4)]) (fun c=>[.gown opC 11 37 (some ⟨(c 1).b,0,none⟩) 61 61 (List.replicate 61 ⟨S.OpV.zero,none,0⟩)]) mixed (by kernel_rfl) rfl trivial ⟨?_,?_,?_,?_,?_,?_,?_,?_,?_,?_,?_,trivial⟩ (fun _=>rfl) (fun _=>rfl) (fun c hp=>?_)
 ·refine stepF.i .q (fun c=>[]) (fun c=>[]) (fun c x=>[]) (fun c x=> .agg (srC s).toArray) (fun c=>True) (fun c x=>True) (fun c=>[]) [113,114,115,112,116,117,118,27,28,29] (some 113) (fun F c v hp=>?_) (fun _=>rfl) (fun _=>rfl) (fun _ _=>rfl) (fun _ _=>rfl) (fun c h=>trivial) (fun c x h=>h) (fun _=>rfl) rfl rfl;refine run ?_
  (refine J.nil ?_;exact J.outF (default) (trivial) rfl (by(try dsimp only[List.cons_append,List.nil_append]);repeat(first|exact List.nil_sublist _|exact List.Sublist.refl _|refine List.Sublist.cons_cons _ ?_|refine List.Sublist.cons _ ?_)))
 ·refine stepF.i .e (fun c=>[]) (fun c=>[]) (fun c x=>[.gown opC 11 37 (some ⟨(x).b,0,none⟩) 61 61 (List.replicate 61 ⟨S.OpV.zero,none,0⟩)]) (fun c x=> .slice (some ⟨(x).b,0,none⟩) 61 61) (fun c=>True) (fun c x=>True) (fun c=>[]) [113,114,115,112,116,117,118,27,28,29] (some 114) (fun F c v hp=>?_) (fun _=>rfl) (fun _=>rfl) (fun _ _=>rfl) (fun _ _=>rfl) (fun c h=>trivial) (fun c x h=>h) (fun _=>rfl) rfl rfl;refine run ?_;refine J.mkG (n:=61) opC ⟨S.OpV.zero,none,0⟩ opC_len rfl rfl rfl rfl fun b=>?_
  (refine J.nil ?_;exact J.outF (⟨b,StA.zero,none,0⟩) (trivial) rfl (by(try dsimp only[List.cons_append,List.nil_append]);repeat(first|exact List.nil_sublist _|exact List.Sublist.refl _|refine List.Sublist.cons_cons _ ?_|refine List.Sublist.cons _ ?_)))
 ·refine stepF.i .e (fun c=>[.gown opC 11 37 (some ⟨(c 1).b,0,none⟩) 61 61 (List.replicate 61 ⟨S.OpV.zero,none,0⟩)]) (fun c=>[.gown opC 11 37 (some ⟨(c 1).b,0,none⟩) 61 61 (List.replicate 61 ⟨S.OpV.zero,none,0⟩)]) (fun c x=>[]) (fun c x=> .tuple #[.agg (srC (x).s).toArray, .slice (x).a 0 (x).n, .int .i64 4]) (fun c=>True) (fun c x=>True) (fun c=>[(113, .agg (srC s).toArray),(114, .slice (some ⟨(c 1).b,0,none⟩) 61 61)]) [115,112,116,117,118,27,28,29] (some 115) (fun F c v hp=>?_) (fun _=>rfl) (fun _=>rfl) (fun _ _=>rfl) (fun _ _=>rfl) (fun c h=>trivial) (fun c x h=>h) (fun _=>rfl) rfl rfl;refine run ?_
  refine J.call rfl rfl (fun w' M => (RG.own' (a := some ⟨(c 1).b, 0, none⟩) w' M).elim fun _ k => stRunE s _ 61 61 (List.replicate 61 ⟨S.OpV.zero, none, 0⟩) TK w' (K0.ext M.ext) (hs.own z0 w' M) (k.weaken fun _ _ _ => trivial) (nmI61 w') (fun z hz => by
   obtain rfl := List.eq_of_mem_replicate hz
   exact S.OpV.zero_ok) (by decide) hs.V (List.map_replicate) nm61.1 nm61.2.1 nm61.2.2 rfl) fun q _ => ?_
  (refine J.nil ?_;exact J.outF (⟨0,q.1,q.2.1,q.2.2⟩) (trivial) rfl (by(try dsimp only[List.cons_append,List.nil_append]);repeat(first|exact List.nil_sublist _|exact List.Sublist.refl _|refine List.Sublist.cons_cons _ ?_|refine List.Sublist.cons _ ?_)))
 ·refine stepF.i .q (fun c=>[]) (fun c=>[]) (fun c x=>[]) (fun c x=> .tuple #[.agg (srC (c 2).s).toArray, .slice (c 2).a 0 (c 2).n, .int .i64 4]) (fun c=>True) (fun c x=>True) (fun c=>[(115, .tuple #[.agg (srC (c 2).s).toArray, .slice (c 2).a 0 (c 2).n, .int .i64 4])]) [113,114,112,116,117,118,27,28,29] (some 112) (fun F c v hp=>?_) (fun _=>rfl) (fun _=>rfl) (fun _ _=>rfl) (fun _ _=>rfl) (fun c h=>trivial) (fun c x h=>h) (fun _=>rfl) rfl rfl;refine run ?_
  (refine J.nil ?_;exact J.outF (default) (trivial) rfl (by(try dsimp only[List.cons_append,List.nil_append]);repeat(first|exact List.nil_sublist _|exact List.Sublist.refl _|refine List.Sublist.cons_cons _ ?_|refine List.Sublist.cons _ ?_)))
 ·refine stepF.i .q (fun c=>[]) (fun c=>[]) (fun c x=>[]) (fun c x=> .agg (srC (c 2).s).toArray) (fun c=>True) (fun c x=>True) (fun c=>[(115, .tuple #[.agg (srC (c 2).s).toArray, .slice (c 2).a 0 (c 2).n, .int .i64 4]),(112, .tuple #[.agg (srC (c 2).s).toArray, .slice (c 2).a 0 (c 2).n, .int .i64 4])]) [113,114,116,117,118,27,28,29] (some 116) (fun F c v hp=>?_) (fun _=>rfl) (fun _=>rfl) (fun _ _=>rfl) (fun _ _=>rfl) (fun c h=>trivial) (fun c x h=>h) (fun _=>rfl) rfl rfl;refine run ?_
  (refine J.nil ?_;exact J.outF (default) (trivial) rfl (by(try dsimp only[List.cons_append,List.nil_append]);repeat(first|exact List.nil_sublist _|exact List.Sublist.refl _|refine List.Sublist.cons_cons _ ?_|refine List.Sublist.cons _ ?_)))
 ·refine stepF.i .q (fun c=>[]) (fun c=>[]) (fun c x=>[]) (fun c x=> .slice (c 2).a 0 (c 2).n) (fun c=>True) (fun c x=>True) (fun c=>[(115, .tuple #[.agg (srC (c 2).s).toArray, .slice (c 2).a 0 (c 2).n, .int .i64 4]),(112, .tuple #[.agg (srC (c 2).s).toArray, .slice (c 2).a 0 (c 2).n, .int .i64 4])]) [113,114,116,117,118,27,28,29] (some 117) (fun F c v hp=>?_) (fun _=>rfl) (fun _=>rfl) (fun _ _=>rfl) (fun _ _=>rfl) (fun c h=>trivial) (fun c x h=>h) (fun _=>rfl) rfl rfl;refine run ?_
  (refine J.nil ?_;exact J.outF (default) (trivial) rfl (by(try dsimp only[List.cons_append,List.nil_append]);repeat(first|exact List.nil_sublist _|exact List.Sublist.refl _|refine List.Sublist.cons_cons _ ?_|refine List.Sublist.cons _ ?_)))
 ·refine stepF.i .q (fun c=>[]) (fun c=>[]) (fun c x=>[]) (fun c x=> .int .i64 4) (fun c=>True) (fun c x=>True) (fun c=>[(112, .tuple #[.agg (srC (c 2).s).toArray, .slice (c 2).a 0 (c 2).n, .int .i64 4])]) [113,114,115,116,117,118,27,28,29] (some 118) (fun F c v hp=>?_) (fun _=>rfl) (fun _=>rfl) (fun _ _=>rfl) (fun _ _=>rfl) (fun c h=>trivial) (fun c x h=>h) (fun _=>rfl) rfl rfl;refine run ?_
  (refine J.nil ?_;exact J.outF (default) (trivial) rfl (by(try dsimp only[List.cons_append,List.nil_append]);repeat(first|exact List.nil_sublist _|exact List.Sublist.refl _|refine List.Sublist.cons_cons _ ?_|refine List.Sublist.cons _ ?_)))
 ·refine stepF.i .e (fun c=>[]) (fun c=>[]) (fun c x=>[.blk (x).b [.int .i64 0, .slice none 0 0, .slice none 0 0, .int .i64 0, .slice none 0 0] 55]) (fun c x=> .pointer (some ⟨(x).b,0,none⟩)) (fun c=>True) (fun c x=>True) (fun c=>[]) [113,114,115,112,116,117,118,27,28,29] (some 27) (fun F c v hp=>?_) (fun _=>rfl) (fun _=>rfl) (fun _ _=>rfl) (fun _ _=>rfl) (fun c h=>trivial) (fun c x h=>h) (fun _=>rfl) rfl rfl;refine run ?_;refine J.alloc rfl fun b=>?_
  (refine J.nil ?_;exact J.outF (⟨b,StA.zero,none,0⟩) (trivial) rfl (by(try dsimp only[List.cons_append,List.nil_append]);repeat(first|exact List.nil_sublist _|exact List.Sublist.refl _|refine List.Sublist.cons_cons _ ?_|refine List.Sublist.cons _ ?_)))
 ·refine stepF.i .e (fun c=>[.blk (c 7).b [.int .i64 0, .slice none 0 0, .slice none 0 0, .int .i64 0, .slice none 0 0] 55]) (fun c=>[]) (fun c x=>[]) (fun c x=>undef) (fun c=>True) (fun c x=>True) (fun c=>[(115, .tuple #[.agg (srC (c 2).s).toArray, .slice (c 2).a 0 (c 2).n, .int .i64 4]),(116, .agg (srC (c 2).s).toArray),(27, .pointer (some ⟨(c 7).b,0,none⟩))]) [113,114,112,117,118,28,29] (none) (fun F c v hp=>?_) (fun _=>rfl) (fun _=>rfl) (fun _ _=>rfl) (fun _ _=>rfl) (fun c h=>trivial) (fun c x h=>h) (fun _=>rfl) rfl rfl;refine run ?_
  (refine J.nil ?_;exact J.outF (default) (trivial) rfl (by(try dsimp only[List.cons_append,List.nil_append]);repeat(first|exact List.nil_sublist _|exact List.Sublist.refl _|refine List.Sublist.cons_cons _ ?_|refine List.Sublist.cons _ ?_)))
 ·refine stepF.i .q (fun c=>[]) (fun c=>[]) (fun c x=>[]) (fun c x=> .slice (c 2).a 0 (c 2).n) (fun c=>True) (fun c x=>True) (fun c=>[(115, .tuple #[.agg (srC (c 2).s).toArray, .slice (c 2).a 0 (c 2).n, .int .i64 4]),(117, .slice (c 2).a 0 (c 2).n)]) [113,114,112,116,118,27,28,29] (some 28) (fun F c v hp=>?_) (fun _=>rfl) (fun _=>rfl) (fun _ _=>rfl) (fun _ _=>rfl) (fun c h=>trivial) (fun c x h=>h) (fun _=>rfl) rfl rfl;refine run ?_
  (refine J.nil ?_;exact J.outF (default) (trivial) rfl (by(try dsimp only[List.cons_append,List.nil_append]);repeat(first|exact List.nil_sublist _|exact List.Sublist.refl _|refine List.Sublist.cons_cons _ ?_|refine List.Sublist.cons _ ?_)))
 ·refine stepF.i .q (fun c=>[]) (fun c=>[]) (fun c x=>[]) (fun c x=> .int .i64 4) (fun c=>True) (fun c x=>True) (fun c=>[(118, .int .i64 4)]) [113,114,115,112,116,117,27,28,29] (some 29) (fun F c v hp=>?_) (fun _=>rfl) (fun _=>rfl) (fun _ _=>rfl) (fun _ _=>rfl) (fun c h=>trivial) (fun c x h=>h) (fun _=>rfl) rfl rfl;refine run ?_
  (refine J.nil ?_;exact J.outF (default) (trivial) rfl (by(try dsimp only[List.cons_append,List.nil_append]);repeat(first|exact List.nil_sublist _|exact List.Sublist.refl _|refine List.Sublist.cons_cons _ ?_|refine List.Sublist.cons _ ?_)))
 obtain⟨-, -, -, -, -, -, -, -, -, -, -, -⟩:=hp;refine run ?_
 refine J.bnG (vs := [.agg (opC ⟨S.hxP, pc, cc⟩).toArray, .agg (opC ⟨S.OpV.zero, none, 0⟩).toArray, .agg (opC ⟨S.hxO, pa, ca⟩).toArray]) opC [⟨S.hxP, pc, cc⟩, ⟨S.OpV.zero, none, 0⟩, ⟨S.hxO, pa, ca⟩] opC_len rfl rfl rfl (fun v hv => by
  simp only [List.mem_cons, List.not_mem_nil, or_false] at hv
  rcases hv with rfl | rfl | rfl <;> rfl) fun b12 => ?_
 refine run ?_
 refine J.call rfl rfl (fun w' M => (RG.own' (a := some ⟨b12, 0, none⟩) w' M).elim fun _ k => (RW.row' (a := pa) w' M).elim fun _ ka => (RW.row' (a := pc) w' M).elim fun _ kc => stRunE s _ 3 3 [⟨S.hxP, pc, cc⟩, ⟨S.OpV.zero, none, 0⟩, ⟨S.hxO, pa, ca⟩] TK w' (K0.ext M.ext) (hs.own z0 w' M) (k.weaken fun _ _ _ => trivial) (nmI3 ka kc) (fun z hz => by
  simp only [List.mem_cons, List.not_mem_nil, or_false] at hz
  rcases hz with rfl | rfl | rfl
  ·exact S.hx_okP
  ·exact S.OpV.zero_ok
  exact S.hx_okO) (by decide) hs.V rfl S.nm_run3 nmR3.1 nmR3.2 rfl) fun v3 _ => ?_
 refine run ?_;refine J.alloc rfl fun b13=>?_
 refine run ?_;refine J.call rfl rfl (fun w' M=>stRunE (S1:=fun _=>True) s none 0 0 [] TK w' (K0.ext M.ext) (hs.own z0 w' M) (GRow.nil' opC_len) Inns.nil (fun z hz=>by cases hz) (by decide) hs.V rfl S.nm_run0.1 S.nm_run0.2.1 S.nm_run0.2.2 rfl) fun nn hnn=>?_
 obtain⟨nn,na,nc⟩:=nn;dsimp only at hnn⊢;refine run ?_;refine J.alloc rfl fun b33=>?_
 refine run ?_;refine J.call rfl rfl (fun w' M=>stSinceE ⟨40,osh,ooa,1,ooc,S.hxX⟩ (-1) TK w' (K0.ext M.ext) (hone.own z1 w' M) hone.V S.nm_sin.1 (nmSin S.nm_sin.1).1 (nmSin S.nm_sin.1).2) fun i1 _=>?_
 refine run ?_;refine J.call rfl rfl (fun w' M=>stSinceE ⟨40,osh,ooa,1,ooc,S.hxX⟩ 2 TK w' (K0.ext M.ext) (hone.own z1 w' M) hone.V S.nm_sin.2.1 (nmSin S.nm_sin.2.1).1 (nmSin S.nm_sin.2.1).2) fun i2 _=>?_
 refine run ?_;refine J.call rfl rfl (fun w' M=>stSinceE ⟨40,osh,ooa,1,ooc,S.hxX⟩ 0 TK w' (K0.ext M.ext) (hone.own z1 w' M) hone.V S.nm_sin.2.2.1.1 S.nm_sin.2.2.1.2.1 S.nm_sin.2.2.1.2.2) fun i3 _=>?_
 refine run ?_;refine J.call rfl rfl (fun w' M=>stSinceE ⟨40,osh,ooa,1,ooc,S.hxX⟩ 1 TK w' (K0.ext M.ext) (hone.own z1 w' M) hone.V S.nm_sin.2.2.2.1 S.nm_sin.2.2.2.2.1 S.nm_sin.2.2.2.2.2) fun i4 _=>?_
 refine J.drop (E:=[.wown 24 .u8 32 i3.1 1 i3.2 S.hxX, .blk b33 (srC nn) 55,shW nn.sh, .wown 24 .u8 32 nn.oa nn.on nn.oc nn.os, .wown 24 .u8 32 l1.1 1 l1.2 S.hxX, .blk b9 (srC ⟨40,osh,ooa,1,ooc,S.hxX⟩) 55,shW osh, .wown 24 .u8 32 ooa 1 ooc S.hxX, .blk b8 (opC ⟨S.hxP,pc,cc⟩) 37, .blk b7 (opC ⟨S.hxU,pb,cb⟩) 37, .blk b6 (opC ⟨S.hxO,pa,ca⟩) 37, .wrow .u8 32 pc 0 [], .wrow .u8 32 pb 1 S.hxX, .wrow .u8 32 pa 0 [], .blk b5 (srC s) 55,shW s.sh, .wown 24 .u8 32 s.oa s.on s.oc s.os]) sb ?_;refine run ?_
 refine J.regionF (δ:=NstA) (default) [⟨some 171,fun c=> .agg (srC ⟨40,osh,ooa,1,ooc,S.hxX⟩).toArray,fun c=>[],fun c=>True,[],[],[]⟩,⟨some 172,fun c=> .agg (srC (c 1).s).toArray,fun c=>[shW (c 1).s.sh, .wown 24 .u8 32 (c 1).s.oa (c 1).s.on (c 1).s.oc (c 1).s.os],fun c=>StK S.nm1 (c 1).s,[0],[],[]⟩,⟨some 173,fun c=> .agg (srC ⟨40,osh,ooa,1,ooc,S.hxX⟩).toArray,fun c=>[],fun c=>True,[],[],[]⟩,⟨some 174,fun c=> .agg (srC (c 3).s).toArray,fun c=>[shW (c 3).s.sh, .wown 24 .u8 32 (c 3).s.oa (c 3).s.on (c 3).s.oc (c 3).s.os],fun c=>StK S.nm1 (c 3).s,[2],[],[]⟩,⟨some 175,fun c=> .agg (srC ⟨40,osh,ooa,1,ooc,S.hxX⟩).toArray,fun c=>[],fun c=>True,[],[],[]⟩,⟨some 176,fun c=> .agg (srC (c 5).s).toArray,fun c=>[shW (c 5).s.sh, .wown 24 .u8 32 (c 5).s.oa (c 5).s.on (c 5).s.oc (c 5).s.os],fun c=>StK S.nm1 (c 5).s,[4],[],[]⟩,⟨some 44,fun c=> .pointer (some ⟨(c 6).b,0,none⟩),fun c=>[.blk (c 6).b [.int .i64 0, .slice none 0 0, .slice none 0 0, .int .i64 0, .slice none 0 0] 55],fun c=>True,[],[],[]⟩,⟨some 45,fun c=> .pointer (some ⟨(c 7).b,0,none⟩),fun c=>[.blk (c 7).b [.int .i64 0, .slice none 0 0, .slice none 0 0, .int .i64 0, .slice none 0 0] 55],fun c=>True,[],[],[]⟩,⟨some 46,fun c=> .pointer (some ⟨(c 8).b,0,none⟩),fun c=>[.blk (c 8).b [.int .i64 0, .slice none 0 0, .slice none 0 0, .int .i64 0, .slice none 0 0] 55],fun c=>True,[],[],[]⟩,⟨none,fun c=>undef,fun c=>[.blk (c 6).b (srC (c 1).s) 55],fun c=>True,[1,6],[6],[6]⟩,⟨none,fun c=>undef,fun c=>[.blk (c 7).b (srC (c 3).s) 55],fun c=>True,[3,7],[7],[7]⟩,⟨none,fun c=>undef,fun c=>[.blk (c 8).b (srC (c 5).s) 55],fun c=>True,[5,8],[8],[8]⟩] [] (fun c=>[(171, .agg (srC ⟨40,osh,ooa,1,ooc,S.hxX⟩).toArray),(172, .agg (srC (c 1).s).toArray),(173, .agg (srC ⟨40,osh,ooa,1,ooc,S.hxX⟩).toArray),(174, .agg (srC (c 3).s).toArray),(175, .agg (srC ⟨40,osh,ooa,1,ooc,S.hxX⟩).toArray),(176, .agg (srC (c 5).s).toArray),(44, .pointer (some ⟨(c 6).b,0,none⟩)),(45, .pointer (some ⟨(c 7).b,0,none⟩)),(46, .pointer (some ⟨(c 8).b,0,none⟩))]) (fun c=>[shW (c 1).s.sh, .wown 24 .u8 32 (c 1).s.oa (c 1).s.on (c 1).s.oc (c 1).s.os,shW (c 3).s.sh, .wown 24 .u8 32 (c 3).s.oa (c 3).s.on (c 3).s.oc (c 3).s.os,shW (c 5).s.sh, .wown 24 .u8 32 (c 5).s.oa (c 5).s.on (c 5).s.oc (c 5).s.os, .blk (c 6).b (srC (c 1).s) 55, .blk (c 7).b (srC (c 3).s) 55, .blk (c 8).b (srC (c 5).s) 55]) mixed (by kernel_rfl) rfl trivial ⟨?_,?_,?_,?_,?_,?_,?_,?_,?_,?_,?_,?_,trivial⟩ (fun _=>rfl) (fun _=>rfl) (fun c hp=>?_)
 ·refine stepF.i .q (fun c=>[]) (fun c=>[]) (fun c x=>[]) (fun c x=> .agg (srC ⟨40,osh,ooa,1,ooc,S.hxX⟩).toArray) (fun c=>True) (fun c x=>True) (fun c=>[]) [171,172,173,174,175,176,44,45,46] (some 171) (fun F c v hp=>?_) (fun _=>rfl) (fun _=>rfl) (fun _ _=>rfl) (fun _ _=>rfl) (fun c h=>trivial) (fun c x h=>h) (fun _=>rfl) rfl rfl;refine run ?_
  (refine J.nil ?_;exact J.outF (default) (trivial) rfl (by(try dsimp only[List.cons_append,List.nil_append]);repeat(first|exact List.nil_sublist _|exact List.Sublist.refl _|refine List.Sublist.cons_cons _ ?_|refine List.Sublist.cons _ ?_)))
 ·refine stepF.i .e (fun c=>[]) (fun c=>[]) (fun c x=>[shW (x).s.sh, .wown 24 .u8 32 (x).s.oa (x).s.on (x).s.oc (x).s.os]) (fun c x=> .agg (srC (x).s).toArray) (fun c=>True) (fun c x=>StK S.nm1 (x).s) (fun c=>[(171, .agg (srC ⟨40,osh,ooa,1,ooc,S.hxX⟩).toArray)]) [172,173,174,175,176,44,45,46] (some 172) (fun F c v hp=>?_) (fun _=>rfl) (fun _=>rfl) (fun _ _=>rfl) (fun _ _=>rfl) (fun c h=>trivial) (fun c x h=>h) (fun _=>rfl) rfl rfl;refine run ?_;refine J.call rfl rfl (fun w' M=>stTwinE ⟨40,osh,ooa,1,ooc,S.hxX⟩ w' (hone.own z1 w' M) hone.V) fun q hq=>?_
  (refine J.nil ?_;exact J.outF (⟨0,q,none,0⟩) (hq) rfl (by(try dsimp only[List.cons_append,List.nil_append]);repeat(first|exact List.nil_sublist _|exact List.Sublist.refl _|refine List.Sublist.cons_cons _ ?_|refine List.Sublist.cons _ ?_)))
 ·refine stepF.i .q (fun c=>[]) (fun c=>[]) (fun c x=>[]) (fun c x=> .agg (srC ⟨40,osh,ooa,1,ooc,S.hxX⟩).toArray) (fun c=>True) (fun c x=>True) (fun c=>[]) [171,172,173,174,175,176,44,45,46] (some 173) (fun F c v hp=>?_) (fun _=>rfl) (fun _=>rfl) (fun _ _=>rfl) (fun _ _=>rfl) (fun c h=>trivial) (fun c x h=>h) (fun _=>rfl) rfl rfl;refine run ?_
  (refine J.nil ?_;exact J.outF (default) (trivial) rfl (by(try dsimp only[List.cons_append,List.nil_append]);repeat(first|exact List.nil_sublist _|exact List.Sublist.refl _|refine List.Sublist.cons_cons _ ?_|refine List.Sublist.cons _ ?_)))
 ·refine stepF.i .e (fun c=>[]) (fun c=>[]) (fun c x=>[shW (x).s.sh, .wown 24 .u8 32 (x).s.oa (x).s.on (x).s.oc (x).s.os]) (fun c x=> .agg (srC (x).s).toArray) (fun c=>True) (fun c x=>StK S.nm1 (x).s) (fun c=>[(173, .agg (srC ⟨40,osh,ooa,1,ooc,S.hxX⟩).toArray)]) [171,172,174,175,176,44,45,46] (some 174) (fun F c v hp=>?_) (fun _=>rfl) (fun _=>rfl) (fun _ _=>rfl) (fun _ _=>rfl) (fun c h=>trivial) (fun c x h=>h) (fun _=>rfl) rfl rfl;refine run ?_;refine J.call rfl rfl (fun w' M=>stTwinE ⟨40,osh,ooa,1,ooc,S.hxX⟩ w' (hone.own z1 w' M) hone.V) fun q hq=>?_
  (refine J.nil ?_;exact J.outF (⟨0,q,none,0⟩) (hq) rfl (by(try dsimp only[List.cons_append,List.nil_append]);repeat(first|exact List.nil_sublist _|exact List.Sublist.refl _|refine List.Sublist.cons_cons _ ?_|refine List.Sublist.cons _ ?_)))
 ·refine stepF.i .q (fun c=>[]) (fun c=>[]) (fun c x=>[]) (fun c x=> .agg (srC ⟨40,osh,ooa,1,ooc,S.hxX⟩).toArray) (fun c=>True) (fun c x=>True) (fun c=>[]) [171,172,173,174,175,176,44,45,46] (some 175) (fun F c v hp=>?_) (fun _=>rfl) (fun _=>rfl) (fun _ _=>rfl) (fun _ _=>rfl) (fun c h=>trivial) (fun c x h=>h) (fun _=>rfl) rfl rfl;refine run ?_
  (refine J.nil ?_;exact J.outF (default) (trivial) rfl (by(try dsimp only[List.cons_append,List.nil_append]);repeat(first|exact List.nil_sublist _|exact List.Sublist.refl _|refine List.Sublist.cons_cons _ ?_|refine List.Sublist.cons _ ?_)))
 ·refine stepF.i .e (fun c=>[]) (fun c=>[]) (fun c x=>[shW (x).s.sh, .wown 24 .u8 32 (x).s.oa (x).s.on (x).s.oc (x).s.os]) (fun c x=> .agg (srC (x).s).toArray) (fun c=>True) (fun c x=>StK S.nm1 (x).s) (fun c=>[(175, .agg (srC ⟨40,osh,ooa,1,ooc,S.hxX⟩).toArray)]) [171,172,173,174,176,44,45,46] (some 176) (fun F c v hp=>?_) (fun _=>rfl) (fun _=>rfl) (fun _ _=>rfl) (fun _ _=>rfl) (fun c h=>trivial) (fun c x h=>h) (fun _=>rfl) rfl rfl;refine run ?_;refine J.call rfl rfl (fun w' M=>stTwinE ⟨40,osh,ooa,1,ooc,S.hxX⟩ w' (hone.own z1 w' M) hone.V) fun q hq=>?_
  (refine J.nil ?_;exact J.outF (⟨0,q,none,0⟩) (hq) rfl (by(try dsimp only[List.cons_append,List.nil_append]);repeat(first|exact List.nil_sublist _|exact List.Sublist.refl _|refine List.Sublist.cons_cons _ ?_|refine List.Sublist.cons _ ?_)))
 ·refine stepF.i .e (fun c=>[]) (fun c=>[]) (fun c x=>[.blk (x).b [.int .i64 0, .slice none 0 0, .slice none 0 0, .int .i64 0, .slice none 0 0] 55]) (fun c x=> .pointer (some ⟨(x).b,0,none⟩)) (fun c=>True) (fun c x=>True) (fun c=>[]) [171,172,173,174,175,176,44,45,46] (some 44) (fun F c v hp=>?_) (fun _=>rfl) (fun _=>rfl) (fun _ _=>rfl) (fun _ _=>rfl) (fun c h=>trivial) (fun c x h=>h) (fun _=>rfl) rfl rfl;refine run ?_;refine J.alloc rfl fun b=>?_
  (refine J.nil ?_;exact J.outF (⟨b,StA.zero,none,0⟩) (trivial) rfl (by(try dsimp only[List.cons_append,List.nil_append]);repeat(first|exact List.nil_sublist _|exact List.Sublist.refl _|refine List.Sublist.cons_cons _ ?_|refine List.Sublist.cons _ ?_)))
 ·refine stepF.i .e (fun c=>[]) (fun c=>[]) (fun c x=>[.blk (x).b [.int .i64 0, .slice none 0 0, .slice none 0 0, .int .i64 0, .slice none 0 0] 55]) (fun c x=> .pointer (some ⟨(x).b,0,none⟩)) (fun c=>True) (fun c x=>True) (fun c=>[]) [171,172,173,174,175,176,44,45,46] (some 45) (fun F c v hp=>?_) (fun _=>rfl) (fun _=>rfl) (fun _ _=>rfl) (fun _ _=>rfl) (fun c h=>trivial) (fun c x h=>h) (fun _=>rfl) rfl rfl;refine run ?_;refine J.alloc rfl fun b=>?_
  (refine J.nil ?_;exact J.outF (⟨b,StA.zero,none,0⟩) (trivial) rfl (by(try dsimp only[List.cons_append,List.nil_append]);repeat(first|exact List.nil_sublist _|exact List.Sublist.refl _|refine List.Sublist.cons_cons _ ?_|refine List.Sublist.cons _ ?_)))
 ·refine stepF.i .e (fun c=>[]) (fun c=>[]) (fun c x=>[.blk (x).b [.int .i64 0, .slice none 0 0, .slice none 0 0, .int .i64 0, .slice none 0 0] 55]) (fun c x=> .pointer (some ⟨(x).b,0,none⟩)) (fun c=>True) (fun c x=>True) (fun c=>[]) [171,172,173,174,175,176,44,45,46] (some 46) (fun F c v hp=>?_) (fun _=>rfl) (fun _=>rfl) (fun _ _=>rfl) (fun _ _=>rfl) (fun c h=>trivial) (fun c x h=>h) (fun _=>rfl) rfl rfl;refine run ?_;refine J.alloc rfl fun b=>?_
  (refine J.nil ?_;exact J.outF (⟨b,StA.zero,none,0⟩) (trivial) rfl (by(try dsimp only[List.cons_append,List.nil_append]);repeat(first|exact List.nil_sublist _|exact List.Sublist.refl _|refine List.Sublist.cons_cons _ ?_|refine List.Sublist.cons _ ?_)))
 ·refine stepF.i .e (fun c=>[.blk (c 6).b [.int .i64 0, .slice none 0 0, .slice none 0 0, .int .i64 0, .slice none 0 0] 55]) (fun c=>[]) (fun c x=>[.blk (c 6).b (srC (c 1).s) 55]) (fun c x=>undef) (fun c=>(StK S.nm1 (c 1).s)∧True) (fun c x=>True) (fun c=>[(172, .agg (srC (c 1).s).toArray),(44, .pointer (some ⟨(c 6).b,0,none⟩))]) [171,173,174,175,176,45,46] (none) (fun F c v hp=>?_) (fun _=>rfl) (fun _=>rfl) (fun _ _=>rfl) (fun _ _=>rfl) (fun c h=>⟨h 1 (hasN_iff.1 rfl),trivial⟩) (fun c x h=>h) (fun _=>rfl) rfl rfl;obtain⟨ht1,_⟩:=hp;refine run ?_
  (refine J.nil ?_;exact J.outF (default) (trivial) rfl (by(try dsimp only[List.cons_append,List.nil_append]);repeat(first|exact List.nil_sublist _|exact List.Sublist.refl _|refine List.Sublist.cons_cons _ ?_|refine List.Sublist.cons _ ?_)))
 ·refine stepF.i .e (fun c=>[.blk (c 7).b [.int .i64 0, .slice none 0 0, .slice none 0 0, .int .i64 0, .slice none 0 0] 55]) (fun c=>[]) (fun c x=>[.blk (c 7).b (srC (c 3).s) 55]) (fun c x=>undef) (fun c=>(StK S.nm1 (c 3).s)∧True) (fun c x=>True) (fun c=>[(174, .agg (srC (c 3).s).toArray),(45, .pointer (some ⟨(c 7).b,0,none⟩))]) [171,172,173,175,176,44,46] (none) (fun F c v hp=>?_) (fun _=>rfl) (fun _=>rfl) (fun _ _=>rfl) (fun _ _=>rfl) (fun c h=>⟨h 3 (hasN_iff.1 rfl),trivial⟩) (fun c x h=>h) (fun _=>rfl) rfl rfl;obtain⟨ht3,_⟩:=hp;refine run ?_
  (refine J.nil ?_;exact J.outF (default) (trivial) rfl (by(try dsimp only[List.cons_append,List.nil_append]);repeat(first|exact List.nil_sublist _|exact List.Sublist.refl _|refine List.Sublist.cons_cons _ ?_|refine List.Sublist.cons _ ?_)))
 ·refine stepF.i .e (fun c=>[.blk (c 8).b [.int .i64 0, .slice none 0 0, .slice none 0 0, .int .i64 0, .slice none 0 0] 55]) (fun c=>[]) (fun c x=>[.blk (c 8).b (srC (c 5).s) 55]) (fun c x=>undef) (fun c=>(StK S.nm1 (c 5).s)∧True) (fun c x=>True) (fun c=>[(176, .agg (srC (c 5).s).toArray),(46, .pointer (some ⟨(c 8).b,0,none⟩))]) [171,172,173,174,175,44,45] (none) (fun F c v hp=>?_) (fun _=>rfl) (fun _=>rfl) (fun _ _=>rfl) (fun _ _=>rfl) (fun c h=>⟨h 5 (hasN_iff.1 rfl),trivial⟩) (fun c x h=>h) (fun _=>rfl) rfl rfl;obtain⟨ht5,_⟩:=hp;refine run ?_
  (refine J.nil ?_;exact J.outF (default) (trivial) rfl (by(try dsimp only[List.cons_append,List.nil_append]);repeat(first|exact List.nil_sublist _|exact List.Sublist.refl _|refine List.Sublist.cons_cons _ ?_|refine List.Sublist.cons _ ?_)))
 obtain⟨-,(ht1:StK S.nm1 (c 1).s), -,(ht3:StK S.nm1 (c 3).s), -,(ht5:StK S.nm1 (c 5).s), -, -, -, -, -, -, -⟩:=hp;generalize c 1=u1 at*;generalize c 3=u3 at*;generalize c 5=u5 at*;generalize c 6=u6 at*;generalize c 7=u7 at*;generalize c 8=u8 at*;obtain⟨_,s1,_,_⟩:=u1;obtain⟨_,s3,_,_⟩:=u3;obtain⟨_,s5,_,_⟩:=u5;obtain⟨b44,_,_,_⟩:=u6;obtain⟨b45,_,_,_⟩:=u7;obtain⟨b46,_,_,_⟩:=u8;dsimp only at ht1 ht3 ht5⊢;obtain⟨xsh,xoa,xoc,rfl⟩:=ht1.form S.nm1_is.2.2 S.nm1_is.1 S.nm1_is.2.1;obtain⟨ysh,yoa,yoc,rfl⟩:=ht3.form S.nm1_is.2.2 S.nm1_is.1 S.nm1_is.2.1;obtain⟨zsh,zoa,zoc,rfl⟩:=ht5.form S.nm1_is.2.2 S.nm1_is.1 S.nm1_is.2.1;dsimp only;have e0:S.hxX=elt 32 S.hxX (0:Int).toNat:=by decide
 refine run ?_;refine J.regionX [(0, .q),(1, .q),(2, .q),(3, .q),(4, .q),(5, .q),(6, .e),(7, .g),(8, .q),(9, .g)] mixed (by kernel_rfl) ?_;refine run ?_;refine J.b1W rfl rfl S.hx_arrX fun bb=>?_
 refine run ?_;refine J.apW rfl rfl RW.own' fun ya yc=>?_
 refine run ?_;have hpb:True:=trivial;refine J.re (.wown 24 .u8 32 zoa 1 zoc S.hxX) (.gown idC 32 24 zoa 1 zoc [⟨S.hxX,rfl⟩]) (fun _ _ h=>wown_gown (by decide) rfl h) ?_;refine J.fact (.gown idC 32 24 zoa 1 zoc [⟨S.hxX,rfl⟩]) (fun _ _ h=>(gown_e h).1.some (by omega)) fun hpa=>?_
 have hpb:∃b o,zoa=some ⟨b,o,none⟩:=hpa.elim fun b h=>⟨b,0,h⟩
 have hx:([⟨S.hxX,rfl⟩]:List IdV)[(0:Int).toNat]? =some ⟨S.hxX,rfl⟩:=rfl;refine J.regionX [(0, .q),(1, .q),(2, .q),(3, .q),(4, .q),(5, .q),(6, .q),(7, .q),(8, .g)] mixed (by kernel_rfl) ?_;refine run ?_;refine J.ixN 5 rfl hpb rfl rfl ?_;refine J.ldGf (f:=idC) (off:=5) rfl RG.own' ?_ (hq:=hx) (hf:=idC_at ⟨S.hxX,rfl⟩ (by decide));refine J.add rfl rfl rfl ?_ (hw:=W.u8m _);refine run ?_;refine J.ixN 5 rfl hpb rfl rfl ?_;refine J.stGf (f:=idC) (o:=5) (q0:=⟨S.hxX,rfl⟩) (q:=idUp 5 ⟨S.hxX,rfl⟩) rfl rfl hx (idUp_eq 5 ⟨S.hxX,rfl⟩) ?_;refine run ?_;refine J.re (.gown idC 32 24 zoa 1 zoc (List.set [⟨S.hxX,rfl⟩] (0:Int).toNat (idUp 5 ⟨S.hxX,rfl⟩))) (.wown 24 .u8 32 zoa 1 zoc nmXi) (fun _ _ h=>idsBack _ _ (by decide) nmXi_bd h) ?_;have z2:StZ S.nm2:=by
  have h:=z0.runS [S.hxO,S.hxU] S.nm0_ok.2.1;rwa[S.nm_run2.2.1]at h
 clear e0 hx
 refine J.bnG (vs := [.agg (opC ⟨S.hxO, pa, ca⟩).toArray, .agg (opC ⟨S.hxU, pb, cb⟩).toArray]) opC [⟨S.hxO, pa, ca⟩, ⟨S.hxU, pb, cb⟩] opC_len rfl rfl rfl (fun v hv => by
  simp only [List.mem_cons, List.not_mem_nil, or_false] at hv
  rcases hv with rfl | rfl <;> rfl) fun b14 => ?_
 refine run ?_
 refine J.call rfl rfl (fun w' M => (RG.own' (a := some ⟨b14, 0, none⟩) w' M).elim fun _ k => (RW.row' (a := pa) w' M).elim fun _ ka => (RW.row' (a := pb) w' M).elim fun _ kb => stRunE s _ 2 2 [⟨S.hxO, pa, ca⟩, ⟨S.hxU, pb, cb⟩] TK w' (K0.ext M.ext) (hs.own z0 w' M) (k.weaken fun _ _ _ => trivial) (nmI2 ka kb hz) (fun z hz => by
  simp only [List.mem_cons, List.not_mem_nil, or_false] at hz
  rcases hz with rfl | rfl
  ·exact S.hx_okO
  exact S.hx_okU) (by decide) hs.V rfl S.nm_run2.1 S.nm_run2.2.1 S.nm_run2.2.2 rfl) fun pr hpr => ?_
 obtain⟨pr,pra,prc⟩:=pr;dsimp only at hpr⊢;obtain⟨psh,poa,poc,rfl⟩:=hpr.form S.nm2_is.2.2 S.nm2_is.1 S.nm2_is.2.1;dsimp only;refine run ?_;refine J.alloc rfl fun b47=>?_
 refine run ?_;refine J.regionF (δ:=NstA) (default) [⟨some 217,fun c=> .agg (srC ⟨40,psh,poa,2,poc,S.hxX++S.hxY⟩).toArray,fun c=>[],fun c=>True,[],[],[]⟩,⟨some 218,fun c=> .agg (srC (c 1).s).toArray,fun c=>[shW (c 1).s.sh, .wown 24 .u8 32 (c 1).s.oa (c 1).s.on (c 1).s.oc (c 1).s.os],fun c=>StK S.nm2 (c 1).s,[0],[],[]⟩,⟨some 219,fun c=> .agg (srC ⟨40,psh,poa,2,poc,S.hxX++S.hxY⟩).toArray,fun c=>[],fun c=>True,[],[],[]⟩,⟨some 220,fun c=> .agg (srC (c 3).s).toArray,fun c=>[shW (c 3).s.sh, .wown 24 .u8 32 (c 3).s.oa (c 3).s.on (c 3).s.oc (c 3).s.os],fun c=>StK S.nm2 (c 3).s,[2],[],[]⟩,⟨some 50,fun c=> .pointer (some ⟨(c 4).b,0,none⟩),fun c=>[.blk (c 4).b [.int .i64 0, .slice none 0 0, .slice none 0 0, .int .i64 0, .slice none 0 0] 55],fun c=>True,[],[],[]⟩,⟨some 51,fun c=> .pointer (some ⟨(c 5).b,0,none⟩),fun c=>[.blk (c 5).b [.int .i64 0, .slice none 0 0, .slice none 0 0, .int .i64 0, .slice none 0 0] 55],fun c=>True,[],[],[]⟩,⟨none,fun c=>undef,fun c=>[.blk (c 4).b (srC (c 1).s) 55],fun c=>True,[1,4],[4],[4]⟩,⟨none,fun c=>undef,fun c=>[.blk (c 5).b (srC (c 3).s) 55],fun c=>True,[3,5],[5],[5]⟩] [] (fun c=>[(217, .agg (srC ⟨40,psh,poa,2,poc,S.hxX++S.hxY⟩).toArray),(218, .agg (srC (c 1).s).toArray),(219, .agg (srC ⟨40,psh,poa,2,poc,S.hxX++S.hxY⟩).toArray),(220, .agg (srC (c 3).s).toArray),(50, .pointer (some ⟨(c 4).b,0,none⟩)),(51, .pointer (some ⟨(c 5).b,0,none⟩))]) (fun c=>[shW (c 1).s.sh, .wown 24 .u8 32 (c 1).s.oa (c 1).s.on (c 1).s.oc (c 1).s.os,shW (c 3).s.sh, .wown 24 .u8 32 (c 3).s.oa (c 3).s.on (c 3).s.oc (c 3).s.os, .blk (c 4).b (srC (c 1).s) 55, .blk (c 5).b (srC (c 3).s) 55]) mixed (by kernel_rfl) rfl trivial ⟨?_,?_,?_,?_,?_,?_,?_,?_,trivial⟩ (fun _=>rfl) (fun _=>rfl) (fun c hp=>?_)
 ·refine stepF.i .q (fun c=>[]) (fun c=>[]) (fun c x=>[]) (fun c x=> .agg (srC ⟨40,psh,poa,2,poc,S.hxX++S.hxY⟩).toArray) (fun c=>True) (fun c x=>True) (fun c=>[]) [217,218,219,220,50,51] (some 217) (fun F c v hp=>?_) (fun _=>rfl) (fun _=>rfl) (fun _ _=>rfl) (fun _ _=>rfl) (fun c h=>trivial) (fun c x h=>h) (fun _=>rfl) rfl rfl;refine run ?_
  (refine J.nil ?_;exact J.outF (default) (trivial) rfl (by(try dsimp only[List.cons_append,List.nil_append]);repeat(first|exact List.nil_sublist _|exact List.Sublist.refl _|refine List.Sublist.cons_cons _ ?_|refine List.Sublist.cons _ ?_)))
 ·refine stepF.i .e (fun c=>[]) (fun c=>[]) (fun c x=>[shW (x).s.sh, .wown 24 .u8 32 (x).s.oa (x).s.on (x).s.oc (x).s.os]) (fun c x=> .agg (srC (x).s).toArray) (fun c=>True) (fun c x=>StK S.nm2 (x).s) (fun c=>[(217, .agg (srC ⟨40,psh,poa,2,poc,S.hxX++S.hxY⟩).toArray)]) [218,219,220,50,51] (some 218) (fun F c v hp=>?_) (fun _=>rfl) (fun _=>rfl) (fun _ _=>rfl) (fun _ _=>rfl) (fun c h=>trivial) (fun c x h=>h) (fun _=>rfl) rfl rfl;refine run ?_;refine J.call rfl rfl (fun w' M=>stTwinE ⟨40,psh,poa,2,poc,S.hxX++S.hxY⟩ w' (hpr.own z2 w' M) hpr.V) fun q hq=>?_
  (refine J.nil ?_;exact J.outF (⟨0,q,none,0⟩) (hq) rfl (by(try dsimp only[List.cons_append,List.nil_append]);repeat(first|exact List.nil_sublist _|exact List.Sublist.refl _|refine List.Sublist.cons_cons _ ?_|refine List.Sublist.cons _ ?_)))
 ·refine stepF.i .q (fun c=>[]) (fun c=>[]) (fun c x=>[]) (fun c x=> .agg (srC ⟨40,psh,poa,2,poc,S.hxX++S.hxY⟩).toArray) (fun c=>True) (fun c x=>True) (fun c=>[]) [217,218,219,220,50,51] (some 219) (fun F c v hp=>?_) (fun _=>rfl) (fun _=>rfl) (fun _ _=>rfl) (fun _ _=>rfl) (fun c h=>trivial) (fun c x h=>h) (fun _=>rfl) rfl rfl;refine run ?_
  (refine J.nil ?_;exact J.outF (default) (trivial) rfl (by(try dsimp only[List.cons_append,List.nil_append]);repeat(first|exact List.nil_sublist _|exact List.Sublist.refl _|refine List.Sublist.cons_cons _ ?_|refine List.Sublist.cons _ ?_)))
 ·refine stepF.i .e (fun c=>[]) (fun c=>[]) (fun c x=>[shW (x).s.sh, .wown 24 .u8 32 (x).s.oa (x).s.on (x).s.oc (x).s.os]) (fun c x=> .agg (srC (x).s).toArray) (fun c=>True) (fun c x=>StK S.nm2 (x).s) (fun c=>[(219, .agg (srC ⟨40,psh,poa,2,poc,S.hxX++S.hxY⟩).toArray)]) [217,218,220,50,51] (some 220) (fun F c v hp=>?_) (fun _=>rfl) (fun _=>rfl) (fun _ _=>rfl) (fun _ _=>rfl) (fun c h=>trivial) (fun c x h=>h) (fun _=>rfl) rfl rfl;refine run ?_;refine J.call rfl rfl (fun w' M=>stTwinE ⟨40,psh,poa,2,poc,S.hxX++S.hxY⟩ w' (hpr.own z2 w' M) hpr.V) fun q hq=>?_
  (refine J.nil ?_;exact J.outF (⟨0,q,none,0⟩) (hq) rfl (by(try dsimp only[List.cons_append,List.nil_append]);repeat(first|exact List.nil_sublist _|exact List.Sublist.refl _|refine List.Sublist.cons_cons _ ?_|refine List.Sublist.cons _ ?_)))
 ·refine stepF.i .e (fun c=>[]) (fun c=>[]) (fun c x=>[.blk (x).b [.int .i64 0, .slice none 0 0, .slice none 0 0, .int .i64 0, .slice none 0 0] 55]) (fun c x=> .pointer (some ⟨(x).b,0,none⟩)) (fun c=>True) (fun c x=>True) (fun c=>[]) [217,218,219,220,50,51] (some 50) (fun F c v hp=>?_) (fun _=>rfl) (fun _=>rfl) (fun _ _=>rfl) (fun _ _=>rfl) (fun c h=>trivial) (fun c x h=>h) (fun _=>rfl) rfl rfl;refine run ?_;refine J.alloc rfl fun b=>?_
  (refine J.nil ?_;exact J.outF (⟨b,StA.zero,none,0⟩) (trivial) rfl (by(try dsimp only[List.cons_append,List.nil_append]);repeat(first|exact List.nil_sublist _|exact List.Sublist.refl _|refine List.Sublist.cons_cons _ ?_|refine List.Sublist.cons _ ?_)))
 ·refine stepF.i .e (fun c=>[]) (fun c=>[]) (fun c x=>[.blk (x).b [.int .i64 0, .slice none 0 0, .slice none 0 0, .int .i64 0, .slice none 0 0] 55]) (fun c x=> .pointer (some ⟨(x).b,0,none⟩)) (fun c=>True) (fun c x=>True) (fun c=>[]) [217,218,219,220,50,51] (some 51) (fun F c v hp=>?_) (fun _=>rfl) (fun _=>rfl) (fun _ _=>rfl) (fun _ _=>rfl) (fun c h=>trivial) (fun c x h=>h) (fun _=>rfl) rfl rfl;refine run ?_;refine J.alloc rfl fun b=>?_
  (refine J.nil ?_;exact J.outF (⟨b,StA.zero,none,0⟩) (trivial) rfl (by(try dsimp only[List.cons_append,List.nil_append]);repeat(first|exact List.nil_sublist _|exact List.Sublist.refl _|refine List.Sublist.cons_cons _ ?_|refine List.Sublist.cons _ ?_)))
 ·refine stepF.i .e (fun c=>[.blk (c 4).b [.int .i64 0, .slice none 0 0, .slice none 0 0, .int .i64 0, .slice none 0 0] 55]) (fun c=>[]) (fun c x=>[.blk (c 4).b (srC (c 1).s) 55]) (fun c x=>undef) (fun c=>(StK S.nm2 (c 1).s)∧True) (fun c x=>True) (fun c=>[(218, .agg (srC (c 1).s).toArray),(50, .pointer (some ⟨(c 4).b,0,none⟩))]) [217,219,220,51] (none) (fun F c v hp=>?_) (fun _=>rfl) (fun _=>rfl) (fun _ _=>rfl) (fun _ _=>rfl) (fun c h=>⟨h 1 (hasN_iff.1 rfl),trivial⟩) (fun c x h=>h) (fun _=>rfl) rfl rfl;obtain⟨hq1,_⟩:=hp;refine run ?_
  (refine J.nil ?_;exact J.outF (default) (trivial) rfl (by(try dsimp only[List.cons_append,List.nil_append]);repeat(first|exact List.nil_sublist _|exact List.Sublist.refl _|refine List.Sublist.cons_cons _ ?_|refine List.Sublist.cons _ ?_)))
 ·refine stepF.i .e (fun c=>[.blk (c 5).b [.int .i64 0, .slice none 0 0, .slice none 0 0, .int .i64 0, .slice none 0 0] 55]) (fun c=>[]) (fun c x=>[.blk (c 5).b (srC (c 3).s) 55]) (fun c x=>undef) (fun c=>(StK S.nm2 (c 3).s)∧True) (fun c x=>True) (fun c=>[(220, .agg (srC (c 3).s).toArray),(51, .pointer (some ⟨(c 5).b,0,none⟩))]) [217,218,219,50] (none) (fun F c v hp=>?_) (fun _=>rfl) (fun _=>rfl) (fun _ _=>rfl) (fun _ _=>rfl) (fun c h=>⟨h 3 (hasN_iff.1 rfl),trivial⟩) (fun c x h=>h) (fun _=>rfl) rfl rfl;obtain⟨hq3,_⟩:=hp;refine run ?_
  (refine J.nil ?_;exact J.outF (default) (trivial) rfl (by(try dsimp only[List.cons_append,List.nil_append]);repeat(first|exact List.nil_sublist _|exact List.Sublist.refl _|refine List.Sublist.cons_cons _ ?_|refine List.Sublist.cons _ ?_)))
 obtain⟨-,(hq1:StK S.nm2 (c 1).s), -,(hq3:StK S.nm2 (c 3).s), -, -, -, -, -⟩:=hp;generalize c 1=u1 at*;generalize c 3=u3 at*;generalize c 4=u4 at*;generalize c 5=u5 at*;obtain⟨_,s6,_,_⟩:=u1;obtain⟨_,s7,_,_⟩:=u3;obtain⟨b50,_,_,_⟩:=u4;obtain⟨b51,_,_,_⟩:=u5;dsimp only at hq1 hq3⊢;obtain⟨tsh,toa,toc,rfl⟩:=hq1.form S.nm2_is.2.2 S.nm2_is.1 S.nm2_is.2.1;obtain⟨msh,moa,moc,rfl⟩:=hq3.form S.nm2_is.2.2 S.nm2_is.1 S.nm2_is.2.1;dsimp only;refine J.re (.wown 24 .u8 32 toa 2 toc (S.hxX++S.hxY)) (.gown idC 32 24 toa 2 toc [⟨S.hxX,rfl⟩,⟨S.hxY,rfl⟩]) (fun _ _ h=>wown_gown (by decide) rfl h) ?_;have f0:([⟨S.hxX,rfl⟩,⟨S.hxY,rfl⟩]:List IdV)[(0:Int).toNat]? =some ⟨S.hxX,rfl⟩:=rfl;have f1:([⟨S.hxX,rfl⟩,⟨S.hxY,rfl⟩]:List IdV)[(1:Int).toNat]? =some ⟨S.hxY,rfl⟩:=rfl;refine run ?_;refine J.front (.gown idC 32 24 toa 2 toc [⟨S.hxX,rfl⟩,⟨S.hxY,rfl⟩]) ?_
 refine J.regionF (δ:=Nat) (0) [⟨some 221,fun c=> .pointer (some ⟨b50,4,none⟩),fun c=>[],fun c=>True,[],[],[]⟩,⟨some 222,fun c=> .slice toa 2 toc,fun c=>[],fun c=>True,[0],[],[]⟩,⟨some 223,fun c=> .pointer (some ⟨b50,4,none⟩),fun c=>[],fun c=>True,[],[],[]⟩,⟨some 224,fun c=> .slice toa 2 toc,fun c=>[],fun c=>True,[2],[],[]⟩,⟨some 225,fun c=> .pointer (some ⟨b50,4,none⟩),fun c=>[],fun c=>True,[],[],[]⟩,⟨some 226,fun c=> .slice toa 2 toc,fun c=>[],fun c=>True,[4],[],[]⟩,⟨some 227,fun c=>pt toa ((1:Int).toNat*32),fun c=>[],fun c=>True,[5,16],[16],[]⟩,⟨some 228,fun c=> .agg (ints .u8 S.hxY).toArray,fun c=>[],fun c=>True,[6,16],[16],[]⟩,⟨some 229,fun c=> .pointer (some ⟨b50,4,none⟩),fun c=>[],fun c=>True,[],[],[]⟩,⟨some 230,fun c=> .slice toa 2 toc,fun c=>[],fun c=>True,[8],[],[]⟩,⟨some 231,fun c=>pt toa ((0:Int).toNat*32),fun c=>[],fun c=>True,[9,16],[16],[]⟩,⟨some 232,fun c=> .agg (ints .u8 S.hxX).toArray,fun c=>[],fun c=>True,[10,16],[16],[]⟩,⟨some 233,fun c=>pt toa ((0:Int).toNat*32),fun c=>[],fun c=>True,[1,16],[16],[]⟩,⟨none,fun c=>undef,fun c=>[.gown idC 32 24 toa 2 toc [⟨S.hxY,rfl⟩,⟨S.hxY,rfl⟩]],fun c=>True,[7,12,16],[16],[16]⟩,⟨some 234,fun c=>pt toa ((1:Int).toNat*32),fun c=>[],fun c=>True,[3,13],[13],[]⟩,⟨none,fun c=>undef,fun c=>[.gown idC 32 24 toa 2 toc [⟨S.hxY,rfl⟩,⟨S.hxX,rfl⟩]],fun c=>True,[11,13,14],[13],[13]⟩,⟨none,fun c=>undef,fun c=>[.gown idC 32 24 toa 2 toc [⟨S.hxX,rfl⟩,⟨S.hxY,rfl⟩]],fun c=>True,[],[],[]⟩] [.gown idC 32 24 toa 2 toc [⟨S.hxX,rfl⟩,⟨S.hxY,rfl⟩]] (fun c=>[(221, .pointer (some ⟨b50,4,none⟩)),(222, .slice toa 2 toc),(223, .pointer (some ⟨b50,4,none⟩)),(224, .slice toa 2 toc),(225, .pointer (some ⟨b50,4,none⟩)),(226, .slice toa 2 toc),(227,pt toa ((1:Int).toNat*32)),(228, .agg (ints .u8 S.hxY).toArray),(229, .pointer (some ⟨b50,4,none⟩)),(230, .slice toa 2 toc),(231,pt toa ((0:Int).toNat*32)),(232, .agg (ints .u8 S.hxX).toArray),(233,pt toa ((0:Int).toNat*32)),(234,pt toa ((1:Int).toNat*32))]) (fun c=>[.gown idC 32 24 toa 2 toc [⟨S.hxY,rfl⟩,⟨S.hxX,rfl⟩]]) mixed (by kernel_rfl) rfl ⟨trivial,trivial⟩ ⟨?_,?_,?_,?_,?_,?_,?_,?_,?_,?_,?_,?_,?_,?_,?_,?_,trivial⟩ (fun _=>rfl) (fun _=>rfl) (fun c hp=>?_)
 ·refine stepF.i .q (fun c=>[]) (fun c=>[]) (fun c x=>[]) (fun c x=> .pointer (some ⟨b50,4,none⟩)) (fun c=>True) (fun c x=>True) (fun c=>[]) [221,222,223,224,225,226,227,228,229,230,231,232,233,234] (some 221) (fun F c v hp=>?_) (fun _=>rfl) (fun _=>rfl) (fun _ _=>rfl) (fun _ _=>rfl) (fun c h=>trivial) (fun c x h=>h) (fun _=>rfl) rfl rfl;refine run ?_
  (refine J.nil ?_;exact J.outF (0) (trivial) rfl (by(try dsimp only[List.cons_append,List.nil_append]);repeat(first|exact List.nil_sublist _|exact List.Sublist.refl _|refine List.Sublist.cons_cons _ ?_|refine List.Sublist.cons _ ?_)))
 ·refine stepF.i .q (fun c=>[]) (fun c=>[]) (fun c x=>[]) (fun c x=> .slice toa 2 toc) (fun c=>True) (fun c x=>True) (fun c=>[(221, .pointer (some ⟨b50,4,none⟩))]) [222,223,224,225,226,227,228,229,230,231,232,233,234] (some 222) (fun F c v hp=>?_) (fun _=>rfl) (fun _=>rfl) (fun _ _=>rfl) (fun _ _=>rfl) (fun c h=>trivial) (fun c x h=>h) (fun _=>rfl) rfl rfl;refine run ?_
  (refine J.nil ?_;exact J.outF (0) (trivial) rfl (by(try dsimp only[List.cons_append,List.nil_append]);repeat(first|exact List.nil_sublist _|exact List.Sublist.refl _|refine List.Sublist.cons_cons _ ?_|refine List.Sublist.cons _ ?_)))
 ·refine stepF.i .q (fun c=>[]) (fun c=>[]) (fun c x=>[]) (fun c x=> .pointer (some ⟨b50,4,none⟩)) (fun c=>True) (fun c x=>True) (fun c=>[]) [221,222,223,224,225,226,227,228,229,230,231,232,233,234] (some 223) (fun F c v hp=>?_) (fun _=>rfl) (fun _=>rfl) (fun _ _=>rfl) (fun _ _=>rfl) (fun c h=>trivial) (fun c x h=>h) (fun _=>rfl) rfl rfl;refine run ?_
  (refine J.nil ?_;exact J.outF (0) (trivial) rfl (by(try dsimp only[List.cons_append,List.nil_append]);repeat(first|exact List.nil_sublist _|exact List.Sublist.refl _|refine List.Sublist.cons_cons _ ?_|refine List.Sublist.cons _ ?_)))
 ·refine stepF.i .q (fun c=>[]) (fun c=>[]) (fun c x=>[]) (fun c x=> .slice toa 2 toc) (fun c=>True) (fun c x=>True) (fun c=>[(223, .pointer (some ⟨b50,4,none⟩))]) [221,222,224,225,226,227,228,229,230,231,232,233,234] (some 224) (fun F c v hp=>?_) (fun _=>rfl) (fun _=>rfl) (fun _ _=>rfl) (fun _ _=>rfl) (fun c h=>trivial) (fun c x h=>h) (fun _=>rfl) rfl rfl;refine run ?_
  (refine J.nil ?_;exact J.outF (0) (trivial) rfl (by(try dsimp only[List.cons_append,List.nil_append]);repeat(first|exact List.nil_sublist _|exact List.Sublist.refl _|refine List.Sublist.cons_cons _ ?_|refine List.Sublist.cons _ ?_)))
 ·refine stepF.i .q (fun c=>[]) (fun c=>[]) (fun c x=>[]) (fun c x=> .pointer (some ⟨b50,4,none⟩)) (fun c=>True) (fun c x=>True) (fun c=>[]) [221,222,223,224,225,226,227,228,229,230,231,232,233,234] (some 225) (fun F c v hp=>?_) (fun _=>rfl) (fun _=>rfl) (fun _ _=>rfl) (fun _ _=>rfl) (fun c h=>trivial) (fun c x h=>h) (fun _=>rfl) rfl rfl;refine run ?_
  (refine J.nil ?_;exact J.outF (0) (trivial) rfl (by(try dsimp only[List.cons_append,List.nil_append]);repeat(first|exact List.nil_sublist _|exact List.Sublist.refl _|refine List.Sublist.cons_cons _ ?_|refine List.Sublist.cons _ ?_)))
 ·refine stepF.i .q (fun c=>[]) (fun c=>[]) (fun c x=>[]) (fun c x=> .slice toa 2 toc) (fun c=>True) (fun c x=>True) (fun c=>[(225, .pointer (some ⟨b50,4,none⟩))]) [221,222,223,224,226,227,228,229,230,231,232,233,234] (some 226) (fun F c v hp=>?_) (fun _=>rfl) (fun _=>rfl) (fun _ _=>rfl) (fun _ _=>rfl) (fun c h=>trivial) (fun c x h=>h) (fun _=>rfl) rfl rfl;refine run ?_
  (refine J.nil ?_;exact J.outF (0) (trivial) rfl (by(try dsimp only[List.cons_append,List.nil_append]);repeat(first|exact List.nil_sublist _|exact List.Sublist.refl _|refine List.Sublist.cons_cons _ ?_|refine List.Sublist.cons _ ?_)))
 ·refine stepF.i .q (fun c=>[.gown idC 32 24 toa 2 toc [⟨S.hxX,rfl⟩,⟨S.hxY,rfl⟩]]) (fun c=>[.gown idC 32 24 toa 2 toc [⟨S.hxX,rfl⟩,⟨S.hxY,rfl⟩]]) (fun c x=>[]) (fun c x=>pt toa ((1:Int).toNat*32)) (fun c=>True) (fun c x=>True) (fun c=>[(226, .slice toa 2 toc)]) [221,222,223,224,225,227,228,229,230,231,232,233,234] (some 227) (fun F c v hp=>?_) (fun _=>rfl) (fun _=>rfl) (fun _ _=>rfl) (fun _ _=>rfl) (fun c h=>trivial) (fun c x h=>h) (fun _=>rfl) rfl rfl;refine run ?_
  (refine J.nil ?_;exact J.outF (0) (trivial) rfl (by(try dsimp only[List.cons_append,List.nil_append]);repeat(first|exact List.nil_sublist _|exact List.Sublist.refl _|refine List.Sublist.cons_cons _ ?_|refine List.Sublist.cons _ ?_)))
 ·refine stepF.i .q (fun c=>[.gown idC 32 24 toa 2 toc [⟨S.hxX,rfl⟩,⟨S.hxY,rfl⟩]]) (fun c=>[.gown idC 32 24 toa 2 toc [⟨S.hxX,rfl⟩,⟨S.hxY,rfl⟩]]) (fun c x=>[]) (fun c x=> .agg (ints .u8 S.hxY).toArray) (fun c=>True) (fun c x=>True) (fun c=>[(227,pt toa ((1:Int).toNat*32))]) [221,222,223,224,225,226,228,229,230,231,232,233,234] (some 228) (fun F c v hp=>?_) (fun _=>rfl) (fun _=>rfl) (fun _ _=>rfl) (fun _ _=>rfl) (fun c h=>trivial) (fun c x h=>h) (fun _=>rfl) rfl rfl;refine run ?_
  (refine J.nil ?_;exact J.outF (0) (trivial) rfl (by(try dsimp only[List.cons_append,List.nil_append]);repeat(first|exact List.nil_sublist _|exact List.Sublist.refl _|refine List.Sublist.cons_cons _ ?_|refine List.Sublist.cons _ ?_)))
 ·refine stepF.i .q (fun c=>[]) (fun c=>[]) (fun c x=>[]) (fun c x=> .pointer (some ⟨b50,4,none⟩)) (fun c=>True) (fun c x=>True) (fun c=>[]) [221,222,223,224,225,226,227,228,229,230,231,232,233,234] (some 229) (fun F c v hp=>?_) (fun _=>rfl) (fun _=>rfl) (fun _ _=>rfl) (fun _ _=>rfl) (fun c h=>trivial) (fun c x h=>h) (fun _=>rfl) rfl rfl;refine run ?_
  (refine J.nil ?_;exact J.outF (0) (trivial) rfl (by(try dsimp only[List.cons_append,List.nil_append]);repeat(first|exact List.nil_sublist _|exact List.Sublist.refl _|refine List.Sublist.cons_cons _ ?_|refine List.Sublist.cons _ ?_)))
 ·refine stepF.i .q (fun c=>[]) (fun c=>[]) (fun c x=>[]) (fun c x=> .slice toa 2 toc) (fun c=>True) (fun c x=>True) (fun c=>[(229, .pointer (some ⟨b50,4,none⟩))]) [221,222,223,224,225,226,227,228,230,231,232,233,234] (some 230) (fun F c v hp=>?_) (fun _=>rfl) (fun _=>rfl) (fun _ _=>rfl) (fun _ _=>rfl) (fun c h=>trivial) (fun c x h=>h) (fun _=>rfl) rfl rfl;refine run ?_
  (refine J.nil ?_;exact J.outF (0) (trivial) rfl (by(try dsimp only[List.cons_append,List.nil_append]);repeat(first|exact List.nil_sublist _|exact List.Sublist.refl _|refine List.Sublist.cons_cons _ ?_|refine List.Sublist.cons _ ?_)))
 ·refine stepF.i .q (fun c=>[.gown idC 32 24 toa 2 toc [⟨S.hxX,rfl⟩,⟨S.hxY,rfl⟩]]) (fun c=>[.gown idC 32 24 toa 2 toc [⟨S.hxX,rfl⟩,⟨S.hxY,rfl⟩]]) (fun c x=>[]) (fun c x=>pt toa ((0:Int).toNat*32)) (fun c=>True) (fun c x=>True) (fun c=>[(230, .slice toa 2 toc)]) [221,222,223,224,225,226,227,228,229,231,232,233,234] (some 231) (fun F c v hp=>?_) (fun _=>rfl) (fun _=>rfl) (fun _ _=>rfl) (fun _ _=>rfl) (fun c h=>trivial) (fun c x h=>h) (fun _=>rfl) rfl rfl;refine run ?_
  (refine J.nil ?_;exact J.outF (0) (trivial) rfl (by(try dsimp only[List.cons_append,List.nil_append]);repeat(first|exact List.nil_sublist _|exact List.Sublist.refl _|refine List.Sublist.cons_cons _ ?_|refine List.Sublist.cons _ ?_)))
 ·refine stepF.i .q (fun c=>[.gown idC 32 24 toa 2 toc [⟨S.hxX,rfl⟩,⟨S.hxY,rfl⟩]]) (fun c=>[.gown idC 32 24 toa 2 toc [⟨S.hxX,rfl⟩,⟨S.hxY,rfl⟩]]) (fun c x=>[]) (fun c x=> .agg (ints .u8 S.hxX).toArray) (fun c=>True) (fun c x=>True) (fun c=>[(231,pt toa ((0:Int).toNat*32))]) [221,222,223,224,225,226,227,228,229,230,232,233,234] (some 232) (fun F c v hp=>?_) (fun _=>rfl) (fun _=>rfl) (fun _ _=>rfl) (fun _ _=>rfl) (fun c h=>trivial) (fun c x h=>h) (fun _=>rfl) rfl rfl;refine run ?_
  (refine J.nil ?_;exact J.outF (0) (trivial) rfl (by(try dsimp only[List.cons_append,List.nil_append]);repeat(first|exact List.nil_sublist _|exact List.Sublist.refl _|refine List.Sublist.cons_cons _ ?_|refine List.Sublist.cons _ ?_)))
 ·refine stepF.i .q (fun c=>[.gown idC 32 24 toa 2 toc [⟨S.hxX,rfl⟩,⟨S.hxY,rfl⟩]]) (fun c=>[.gown idC 32 24 toa 2 toc [⟨S.hxX,rfl⟩,⟨S.hxY,rfl⟩]]) (fun c x=>[]) (fun c x=>pt toa ((0:Int).toNat*32)) (fun c=>True) (fun c x=>True) (fun c=>[(222, .slice toa 2 toc)]) [221,223,224,225,226,227,228,229,230,231,232,233,234] (some 233) (fun F c v hp=>?_) (fun _=>rfl) (fun _=>rfl) (fun _ _=>rfl) (fun _ _=>rfl) (fun c h=>trivial) (fun c x h=>h) (fun _=>rfl) rfl rfl;refine run ?_
  (refine J.nil ?_;exact J.outF (0) (trivial) rfl (by(try dsimp only[List.cons_append,List.nil_append]);repeat(first|exact List.nil_sublist _|exact List.Sublist.refl _|refine List.Sublist.cons_cons _ ?_|refine List.Sublist.cons _ ?_)))
 ·refine stepF.i .e (fun c=>[.gown idC 32 24 toa 2 toc [⟨S.hxX,rfl⟩,⟨S.hxY,rfl⟩]]) (fun c=>[]) (fun c x=>[.gown idC 32 24 toa 2 toc [⟨S.hxY,rfl⟩,⟨S.hxY,rfl⟩]]) (fun c x=>undef) (fun c=>True) (fun c x=>True) (fun c=>[(228, .agg (ints .u8 S.hxY).toArray),(233,pt toa ((0:Int).toNat*32))]) [221,222,223,224,225,226,227,229,230,231,232,234] (none) (fun F c v hp=>?_) (fun _=>rfl) (fun _=>rfl) (fun _ _=>rfl) (fun _ _=>rfl) (fun c h=>trivial) (fun c x h=>h) (fun _=>rfl) rfl rfl;refine J.stG (f:=idC) (q:=⟨S.hxY,rfl⟩) rfl rfl rfl ?_
  (refine J.nil ?_;exact J.outF (0) (trivial) rfl (by(try dsimp only[List.cons_append,List.nil_append]);repeat(first|exact List.nil_sublist _|exact List.Sublist.refl _|refine List.Sublist.cons_cons _ ?_|refine List.Sublist.cons _ ?_)))
 ·refine stepF.i .q (fun c=>[.gown idC 32 24 toa 2 toc [⟨S.hxY,rfl⟩,⟨S.hxY,rfl⟩]]) (fun c=>[.gown idC 32 24 toa 2 toc [⟨S.hxY,rfl⟩,⟨S.hxY,rfl⟩]]) (fun c x=>[]) (fun c x=>pt toa ((1:Int).toNat*32)) (fun c=>True) (fun c x=>True) (fun c=>[(224, .slice toa 2 toc)]) [221,222,223,225,226,227,228,229,230,231,232,233,234] (some 234) (fun F c v hp=>?_) (fun _=>rfl) (fun _=>rfl) (fun _ _=>rfl) (fun _ _=>rfl) (fun c h=>trivial) (fun c x h=>h) (fun _=>rfl) rfl rfl;refine run ?_
  (refine J.nil ?_;exact J.outF (0) (trivial) rfl (by(try dsimp only[List.cons_append,List.nil_append]);repeat(first|exact List.nil_sublist _|exact List.Sublist.refl _|refine List.Sublist.cons_cons _ ?_|refine List.Sublist.cons _ ?_)))
 ·refine stepF.i .e (fun c=>[.gown idC 32 24 toa 2 toc [⟨S.hxY,rfl⟩,⟨S.hxY,rfl⟩]]) (fun c=>[]) (fun c x=>[.gown idC 32 24 toa 2 toc [⟨S.hxY,rfl⟩,⟨S.hxX,rfl⟩]]) (fun c x=>undef) (fun c=>True) (fun c x=>True) (fun c=>[(232, .agg (ints .u8 S.hxX).toArray),(234,pt toa ((1:Int).toNat*32))]) [221,222,223,224,225,226,227,228,229,230,231,233] (none) (fun F c v hp=>?_) (fun _=>rfl) (fun _=>rfl) (fun _ _=>rfl) (fun _ _=>rfl) (fun c h=>trivial) (fun c x h=>h) (fun _=>rfl) rfl rfl;refine J.stG (f:=idC) (q:=⟨S.hxX,rfl⟩) rfl rfl rfl ?_
  (refine J.nil ?_;exact J.outF (0) (trivial) rfl (by(try dsimp only[List.cons_append,List.nil_append]);repeat(first|exact List.nil_sublist _|exact List.Sublist.refl _|refine List.Sublist.cons_cons _ ?_|refine List.Sublist.cons _ ?_)))
 obtain⟨-, -, -, -, -, -, -, -, -, -, -, -, -, -, -, -, -⟩:=hp;refine J.re (.gown idC 32 24 toa 2 toc [⟨S.hxY,rfl⟩,⟨S.hxX,rfl⟩]) (.wown 24 .u8 32 toa 2 toc (S.hxY++S.hxX)) (fun _ _ h=>idsBack _ _ (by decide) nmXY_bd h) ?_;clear f0 f1;refine run ?_;refine J.callp rfl rfl (fun w' M=>stCheckE ⟨41,xsh,xoa,1,xoc,S.hxX⟩ TK w' (K0.ext M.ext) ((ht1.mod 41 xoa 1 xoc S.hxX).own (z1.mod 41 (by decide) S.hxX) w' M) (ht1.mod 41 xoa 1 xoc S.hxX).V nmW) ?_;refine run ?_;refine J.callp rfl rfl (fun w' M=>stCheckE ⟨40,ysh,ya,2,yc,S.hxX++S.hxX⟩ TK w' (K0.ext M.ext) ((ht3.mod 40 ya 2 yc (S.hxX++S.hxX)).own (z1.mod 40 (by decide) (S.hxX++S.hxX)) w' M) (ht3.mod 40 ya 2 yc (S.hxX++S.hxX)).V nmT) ?_;refine run ?_;refine J.callp rfl rfl (fun w' M=>stCheckE ⟨40,zsh,zoa,1,zoc,nmXi⟩ TK w' (K0.ext M.ext) ((ht5.mod 40 zoa 1 zoc nmXi).own (z1.mod 40 (by decide) nmXi) w' M) (ht5.mod 40 zoa 1 zoc nmXi).V (nmO (by decide))) ?_;refine run ?_;refine J.callp rfl rfl (fun w' M=>stCheckE ⟨40,tsh,toa,2,toc,S.hxY++S.hxX⟩ TK w' (K0.ext M.ext) ((hq1.mod 40 toa 2 toc (S.hxY++S.hxX)).own (z2.mod 40 (by decide) (S.hxY++S.hxX)) w' M) (hq1.mod 40 toa 2 toc (S.hxY++S.hxX)).V nmU) ?_;refine run ?_;refine J.callp rfl rfl (fun w' M=>stCheckE ⟨1,msh,moa,2,moc,S.hxX++S.hxY⟩ TK w' (K0.ext M.ext) ((hq3.mod 1 moa 2 moc (S.hxX++S.hxY)).own (z2.mod 1 (by decide) (S.hxX++S.hxY)) w' M) (hq3.mod 1 moa 2 moc (S.hxX++S.hxY)).V nmS) ?_;refine run ?_;refine J.callp rfl rfl (fun w' M=>stCheckE ⟨40,psh,poa,2,poc,S.hxX++S.hxY⟩ TK w' (K0.ext M.ext) (hpr.own z2 w' M) hpr.V (S.chkT_0 S.nm2_ok.1)) ?_;refine run ?_;refine J.callp rfl rfl (fun w' M=>stCheckE StA.zero TK w' (K0.ext M.ext) (zeroStR w') rfl nmZ) ?_;refine run ?_;refine J.callp rfl rfl (fun w' M=>(RW.own' (a:=l1.1) w' M).elim fun _ k1=>(RW.own' (a:=ooa) w' M).elim fun _ k2=>sameIDs _ _ _ _ _ _ _ _ w' k1 k2 (by omega) (by omega)) ?_
 rw[show decide (S.hxX=S.hxX)=true from decide_eq_true rfl];refine run ?_;refine J.callp rfl rfl (fun w' M=>refStSame nn s w' (hnn.own z0 w' M) (hs.own z0 w' M)) ?_;rw[show decide (S.eqT nn.V s.V)=true from decide_eq_true (S.eqT_same (hnn.V.trans hs.V.symm))];refine run ?_;refine J.callp rfl rfl (fun w' M=>(RW.own' (a:=i3.1) w' M).elim fun _ k1=>(RW.own' (a:=ooa) w' M).elim fun _ k2=>sameIDs _ _ _ _ _ _ _ _ w' k1 k2 (by omega) (by omega)) ?_;rw[show decide (S.hxX=S.hxX)=true from decide_eq_true rfl];refine run ?_;refine J.callp rfl rfl (fun w' M=>stAlive TK w' (K0.ext M.ext)) ?_;refine run ?_;exact J.fin rfl
end W
end Go.Proofs.YtkibkhgcbepolaaGreatDoor
