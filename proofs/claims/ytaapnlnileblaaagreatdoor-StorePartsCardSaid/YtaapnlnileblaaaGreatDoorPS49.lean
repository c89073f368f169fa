/-
  Part 9 of the lemmas of these laws: StoreMissing, StoreFirst, StoreParts, StoreShards.
-/
import Derived.Test.YtaapnlnileblaaaGreatDoorPS48
set_option linter.unusedVariables false
set_option linter.unusedSimpArgs false
open Go.Proofs.Tryz
namespace Go.Proofs.YtaapnlnileblaaaGreatDoor
namespace S
open G
theorem cmpS_trans:∀ {a b c:List Int},cmpS a b<0→cmpS b c<0→cmpS a c<0
 |[],[],_,h,_=>by simp[cmpS]at h
 |[],_::_,[],_,h=>by simp[cmpS]at h
 |[],_::_,_::_,_,_=>by simp[cmpS]
 |_::_,[],_,h,_=>by simp[cmpS]at h
 |_::_,_::_,[],_,h=>by simp[cmpS]at h
 |x::xs,y::ys,z::zs,h1,h2=>by
  have ih:= @cmpS_trans xs ys zs;simp only[cmpS]at h1 h2⊢;by_cases a1:x<y<;>by_cases a2:y<x<;>by_cases b1:y<z<;>by_cases b2:z<y<;>simp only[a1,a2,b1,b2,if_true,if_false]at h1 h2
  all_goals first|omega|(rw[if_pos (by omega)];decide)|(rw[if_neg (by omega),if_neg (by omega)];exact ih h1 h2)
theorem rising_lt{m:Nat}{ids:List Int}(h:Rising m ids)(i:Nat):∀j,i<j→j<m→cmpS (idAt ids i) (idAt ids j)<0
 |0,hi,_=>by omega
 |j+1,hi,hj=>by
  have h1:=h j (by omega);by_cases e:i=j
  ·subst e;exact h1
  ·exact cmpS_trans (rising_lt h i j (by omega) (by omega)) h1
theorem cmpS_self(a:List Int):cmpS a a=0:=(cmpS_eq a a).2 rfl
theorem rising_inj{m:Nat}{ids:List Int}(h:Rising m ids){i j:Nat}(hi:i<m)(hj:j<m)(e:idAt ids i=idAt ids j):i=j:=by
 rcases Nat.lt_trichotomy i j with h1|h1|h1
 ·have:=rising_lt h i j h1 hj;rw[e,cmpS_self]at this;omega
 ·exact h1
 ·have:=rising_lt h j i h1 hi;rw[e,cmpS_self]at this;omega
def inS(m:Nat)(ids x:List Int):Prop:=∃i,i<m∧idAt ids i=x
def ixS(m:Nat)(ids x:List Int):Nat:=((List.range m).find? fun i=>decide (idAt ids i=x)).getD 0
theorem ix_in{m:Nat}{ids x:List Int}(h:inS m ids x):ixS m ids x<m∧idAt ids (ixS m ids x)=x:=by
 obtain⟨i,hi,e⟩:=h;unfold ixS;cases hf:(List.range m).find? fun i=>decide (idAt ids i=x)with
 |none=>rw[List.find?_eq_none]at hf;exact absurd (decide_eq_true e) (hf i (List.mem_range.2 hi))
 |some j=>
  have h1:=List.find?_some hf;exact⟨List.mem_range.1 (List.mem_of_find?_eq_some hf),of_decide_eq_true h1⟩
theorem ix_eq{m:Nat}{ids:List Int}(h:Rising m ids){i:Nat}(hi:i<m):ixS m ids (idAt ids i)=i:=by
 have:=ix_in (m:=m) (ids:=ids) (x:=idAt ids i) ⟨i,hi,rfl⟩;exact rising_inj h this.1 hi this.2
theorem ix_first{m:Nat}{ids x:List Int}{i:Nat}(hi:i<m)(e:idAt ids i=x)(hf:∀j,j<i→idAt ids j≠x):ixS m ids x=i:=by
 have h1:=ix_in ⟨i,hi,e⟩;unfold ixS at*;cases hq:(List.range m).find? fun i=>decide (idAt ids i=x)with
 |none=>rw[List.find?_eq_none]at hq;exact absurd (decide_eq_true e) (hq i (List.mem_range.2 hi))
 |some j=>
  rw[hq]at h1;simp only[Option.getD_some]at h1⊢;rcases Nat.lt_trichotomy i j with h|h|h
  ·rw[List.find?_range_eq_some]at hq;have:=hq.2.2 i h;simp[e]at this
  ·exact h.symm
  ·exact absurd h1.2 (hf j h)
instance(m:Nat)(ids x:List Int):Decidable (inS m ids x):=decidable_of_iff (∃i∈List.range m,idAt ids i=x) ⟨fun⟨i,h,e⟩=>⟨i,List.mem_range.1 h,e⟩,fun⟨i,h,e⟩=>⟨i,List.mem_range.2 h,e⟩⟩
def allI(m:Nat)(ids:List Int)(n:Nat)(ps:List Int):Prop:=∀j,j<n→inS m ids (idAt ps j)
instance(m:Nat)(ids:List Int)(n:Nat)(ps:List Int):Decidable (allI m ids n ps):=by unfold allI;infer_instance
def Spot(m:Nat)(ids x:List Int)(at_:Nat):Prop:=at_≤m∧(∀i,i<at_→cmpS (idAt ids i) x<0)∧(∀i,at_≤i→i<m→0≤cmpS (idAt ids i) x)
theorem Spot.has{m:Nat}{ids x:List Int}{p:Nat}(h:Spot m ids x p)(hr:Rising m ids):inS m ids x↔p<m∧cmpS (idAt ids p) x=0:=by
 constructor
 ·rintro⟨i,hi,e⟩;have hz:cmpS (idAt ids i) x=0:=(cmpS_eq _ _).2 e;have hp:p≤i:=by
   apply Classical.byContradiction;intro hn;have:=h.2.1 i (by omega);omega
  rcases Nat.lt_or_eq_of_le hp with h1|h1
  ·have h2:=rising_lt hr p i h1 hi;have h3:=h.2.2 p (Nat.le_refl _) (by omega);rw[e]at h2;omega
  ·subst h1;exact⟨hi,hz⟩
 ·rintro⟨h1,h2⟩;exact⟨p,h1,(cmpS_eq _ _).1 h2⟩
def prS(m:Nat)(ids:List Int)(ops:List OpV)(i:Nat):List Nat:=(List.range (ops.getD i OpV.zero).n).map fun j=>ixS m ids (idAt (ops.getD i OpV.zero).ids j)
def opensS(m:Nat)(ids:List Int)(ops:List OpV):Prop:=∀i,i<ops.length→allI m ids (ops.getD i OpV.zero).n (ops.getD i OpV.zero).ids
instance(m:Nat)(ids:List Int)(ops:List OpV):Decidable (opensS m ids ops):=by unfold opensS;infer_instance
noncomputable instance(P:Nat→List Nat)(N:Nat):Decidable (Found P N):=Classical.propDecidable _
noncomputable def shapeS(m:Nat)(ids:List Int)(ops:List OpV):Int:=if ¬Rising m ids then 32 else if ¬opensS m ids ops then 40 else if Found (prS m ids ops) ops.length then 0 else 36
def ownS(o:OpV)(x:List Int):Prop:=verE o=0∧sha (encS o)=x
instance(o:OpV)(x:List Int):Decidable (ownS o x):=by unfold ownS;infer_instance
def ownsS(ids:List Int)(ops:List OpV):Prop:=∀i,i<ops.length→ownS (ops.getD i OpV.zero) (idAt ids i)
instance(ids:List Int)(ops:List OpV):Decidable (ownsS ids ops):=by unfold ownsS;infer_instance
noncomputable def chkG(m:Nat)(ids:List Int)(ops:List OpV):Int:=if 60<ops.length then 4 else if m≠ops.length then 8 else if ¬ownsS ids ops then 8 else shapeS m ids ops
theorem verE_check{o:OpV}(h:verE o=0):checkE o=0:=by
 unfold verE at h;split at h
 ·assumption
 ·exact h
theorem chkG_zero{m:Nat}{ids:List Int}{ops:List OpV}:chkG m ids ops=0↔ops.length≤60∧m=ops.length∧ownsS ids ops∧Rising m ids∧opensS m ids ops∧Found (prS m ids ops) ops.length:=by
 unfold chkG shapeS;constructor
 ·intro h
  repeat' (first|(split at h))
  all_goals first|(exact absurd h (by decide))|skip
  rename_i a1 a2 a3 a4 a5 a6;exact⟨by omega,Decidable.not_not.1 a2,Decidable.not_not.1 a3,Decidable.not_not.1 a4,Decidable.not_not.1 a5,a6⟩
 ·rintro⟨a1,a2,a3,a4,a5,a6⟩;rw[if_neg (by omega),if_neg (by omega),if_neg (not_not_intro a3),if_neg (not_not_intro a4),if_neg (not_not_intro a5),if_pos a6]
def spotC(m:Nat)(c:Nat→Int):Nat:=((List.range m).find? fun i=>decide (0≤c i)).getD m
theorem spotC_eq{m:Nat}{c:Nat→Int}{p:Nat}(h1:p≤m)(h2:∀i,i<p→c i<0)(h3:p<m→0≤c p):spotC m c=p:=by
 unfold spotC;cases hf:(List.range m).find? fun i=>decide (0≤c i)with
 |none=>
  rw[List.find?_eq_none]at hf;simp only[Option.getD_none];apply Classical.byContradiction;intro hn;have:=hf p (List.mem_range.2 (by omega));simp only[decide_eq_true_eq]at this;exact this (h3 (by omega))
 |some j=>
  simp only[Option.getD_some];have hj:=List.find?_some hf;simp only[decide_eq_true_eq]at hj;have hm:=List.mem_range.1 (List.mem_of_find?_eq_some hf);rcases Nat.lt_trichotomy j p with h|h|h
  ·have:=h2 j h;omega
  ·exact h
  ·rw[List.find?_range_eq_some]at hf;have:=hf.2.2 p h;have h4:=h3 (by omega);simp[h4]at this
theorem spotC_le(m:Nat)(c:Nat→Int):spotC m c≤m:=by
 unfold spotC;cases hf:(List.range m).find? fun i=>decide (0≤c i)with
 |none=>exact Nat.le_refl _
 |some j=>exact Nat.le_of_lt (List.mem_range.1 (List.mem_of_find?_eq_some hf))
theorem spotC_lt{m:Nat}{c:Nat→Int}{i:Nat}(h:i<spotC m c):c i<0:=by
 have hl:=spotC_le m c;unfold spotC at h hl;cases hf:(List.range m).find? fun i=>decide (0≤c i)with
 |none=>
  rw[hf]at h hl;rw[List.find?_eq_none]at hf;have:=hf i (List.mem_range.2 (by simp at h;omega));simp only[decide_eq_true_eq]at this;omega
 |some j=>
  rw[hf]at h;rw[List.find?_range_eq_some]at hf;have:=hf.2.2 i (by simpa using h);simpa using this
theorem spotC_ge{m:Nat}{c:Nat→Int}(h:spotC m c<m):0≤c (spotC m c):=by
 unfold spotC at h⊢;cases hf:(List.range m).find? fun i=>decide (0≤c i)with
 |none=>rw[hf]at h;simp at h
 |some j=>simpa using List.find?_some hf
def MonoC(m:Nat)(c:Nat→Int):Prop:=∀i j,i<j→j<m→c j<0→c i<0
structure HalfC(m:Nat)(c:Nat→Int)(i j:Int):Prop where
 r:0≤i∧i≤j∧j≤m
 lo:∀k,k<i.toNat→c k<0
 hi:∀k,j.toNat≤k→k<m→0≤c k
theorem HalfC.first(m:Nat)(c:Nat→Int):HalfC m c 0 m:=⟨by omega,fun k h=>by omega,fun k h h2=>by omega⟩
theorem HalfC.up{m:Nat}{c:Nat→Int}{i j h:Int}(H:HalfC m c i j)(hm:MonoC m c)(h1:i≤h)(h2:h<j)(hc:c h.toNat<0):HalfC m c (h+1) j:=by
 have:=H.r;refine⟨by omega,fun k hk=>?_,H.hi⟩;by_cases e:k=h.toNat
 ·subst e;exact hc
 ·exact hm k h.toNat (by omega) (by omega) hc
theorem HalfC.down{m:Nat}{c:Nat→Int}{i j h:Int}(H:HalfC m c i j)(hm:MonoC m c)(h1:i≤h)(h2:h<j)(hc:¬c h.toNat<0):HalfC m c i h:=by
 have:=H.r;refine⟨by omega,H.lo,fun k hk hm2=>?_⟩;by_cases e:k=h.toNat
 ·subst e;omega
 ·apply Classical.byContradiction;intro hn;exact hc (hm h.toNat k (by omega) hm2 (by omega))
theorem HalfC.spot{m:Nat}{c:Nat→Int}{i j:Int}(H:HalfC m c i j)(h:¬i<j):i=(spotC m c:Nat):=by
 have:=H.r;have e:spotC m c=i.toNat:=spotC_eq (by omega) H.lo fun hl=>H.hi _ (by omega) hl;omega
def spotS(m:Nat)(ids x:List Int):Nat:=spotC m fun i=>cmpS (idAt ids i) x
theorem mono_ids{m:Nat}{ids x:List Int}(hr:Rising m ids):MonoC m fun i=>cmpS (idAt ids i) x:=fun i j hij hj hc=>cmpS_trans (rising_lt hr i j hij hj) hc
theorem spotS_has{m:Nat}{ids x:List Int}(hr:Rising m ids):inS m ids x↔spotS m ids x<m∧cmpS (idAt ids (spotS m ids x)) x=0:=by
 refine Spot.has ⟨spotC_le _ _,fun i hi=>spotC_lt hi,fun i h1 h2=>?_⟩ hr;have h3:0≤cmpS (idAt ids (spotS m ids x)) x:=spotC_ge (c:=fun i=>cmpS (idAt ids i) x) (Nat.lt_of_le_of_lt h1 h2);apply Classical.byContradiction;intro hn;have hn:cmpS (idAt ids i) x<0:=by omega
 rcases Nat.lt_or_eq_of_le h1 with h|h
 ·have h4:cmpS (idAt ids (spotS m ids x)) x<0:=mono_ids (x:=x) hr _ _ h h2 hn;omega
 ·have e:i=spotS m ids x:=h.symm;rw[e]at hn;omega
theorem spotS_ix{m:Nat}{ids x:List Int}(hr:Rising m ids)(h:inS m ids x):spotS m ids x=ixS m ids x:=by
 obtain⟨h1,h2⟩:=(spotS_has hr).1 h;have h3:=ix_in h;exact rising_inj hr h1 h3.1 (by rw[h3.2];exact(cmpS_eq _ _).1 h2)
def castL(l:List Nat):List Int:=l.map fun n:Nat=>(n:Int)
theorem castL_len(l:List Nat):(castL l).length=l.length:=List.length_map _
theorem castL_get(l:List Nat)(i:Nat):(castL l).getD i 0=(l.getD i 0:Nat):=by
 unfold castL;rw[List.getD_eq_getElem?_getD,List.getD_eq_getElem?_getD,List.getElem?_map];cases l[i]? <;>simp
theorem castL_snoc(l:List Nat)(x:Nat):castL (l++[x])=castL l++[(x:Int)]:=by simp[castL]
def behJ(P:Nat→List Nat)(i j a:Nat):List Nat:=behS P i a++List.replicate (((P i).take j).count a) i
theorem behJ_zero(P:Nat→List Nat)(i a:Nat):behJ P i 0 a=behS P i a:=by simp[behJ]
theorem behJ_full(P:Nat→List Nat)(i j a:Nat)(h:(P i).length≤j):behJ P i j a=behS P (i+1) a:=by
 rw[behJ,behS_succ,List.take_of_length_le h]
theorem behJ_succ(P:Nat→List Nat)(i j a:Nat)(h:j<(P i).length):behJ P i (j+1) a=if a=(P i).getD j 0 then behJ P i j a++[i]else behJ P i j a:=by
 unfold behJ;rw[take_snoc_get _ _ h,List.count_append,List.count_singleton];by_cases e:a=(P i).getD j 0
 ·rw[if_pos e,←e];simp[List.replicate_succ']
 ·rw[if_neg e,if_neg (by simpa using fun h=>e h.symm),Nat.add_zero]
theorem flatMap_le{α:Type}(f:Nat→List α)(k:Nat):∀n,(∀i,i<n→(f i).length≤k)→((List.range n).flatMap f).length≤k*n
 |0,_=>by simp
 |n+1,h=>by
  rw[List.range_succ,List.flatMap_append,List.length_append,Nat.mul_add];have:=flatMap_le f k n fun i hi=>h i (by omega);have:=h n (by omega);rw[List.flatMap_cons,List.flatMap_nil,List.append_nil,Nat.mul_one];omega
theorem behJ_len(P:Nat→List Nat)(i j a k:Nat)(h:∀i,(P i).length≤k):(behJ P i j a).length≤k*(i+1):=by
 unfold behJ behS;rw[List.length_append,List.length_replicate,Nat.mul_add,Nat.mul_one];have h1:=flatMap_le (fun i'=>List.replicate ((P i').count a) i') k i fun i' _=>by rw[List.length_replicate];exact Nat.le_trans List.count_le_length (h i')
 have h2:=Nat.le_trans (List.count_le_length (l:=(P i).take j) (a:=a)) (List.length_take_le _ _);have h3:((P i).take j).count a≤(P i).length:=Nat.le_trans List.count_le_length (by rw[List.length_take];omega);have:=h i;omega
structure ShQ(P:Nat→List Nat)(N i j:Nat)(qs:List Pc):Prop where
 len:qs.length=N
 xs:∀(a:Nat) (q:Pc),qs[a]? =some q→q.xs=castL (behJ P i j a)∧q.n=q.xs.length
theorem ShQ.first (P : Nat → List Nat) (N : Nat) : ShQ P N 0 0 (List.replicate N default) := ⟨by simp, fun a q h => by
 obtain rfl := (List.mem_replicate.1 (List.mem_of_getElem? h)).2
 exact ⟨by simp only [behJ, behS, castL, List.range_zero, List.flatMap_nil, List.take_zero, List.count_nil, List.replicate_zero, List.append_nil, List.map_nil]; rfl, rfl⟩⟩
theorem ShQ.step{P:Nat→List Nat}{N i j:Nat}{qs:List Pc}(h:ShQ P N i j qs)(hj:j<(P i).length){at_:Nat}{q:Pc}(hq:qs[at_]? =some q)(ha:at_=(P i).getD j 0)(a':Option Addr)(c':Nat):ShQ P N i (j+1) (qs.set at_ ⟨a',q.n+1,c',q.xs++[(i:Int)]⟩):=by
 have h0:=h.xs _ _ hq;refine⟨by rw[List.length_set];exact h.len,fun a q' h'=>?_⟩;rw[List.getElem?_set]at h';rw[behJ_succ P i j a hj,←ha];split at h'
 ·rename_i e;subst e;split at h'
  ·obtain rfl:=Option.some.inj h';rw[if_pos rfl,castL_snoc,←h0.1];exact⟨rfl,by simp[h0.2]⟩
  ·cases h'
 ·rename_i e;rw[if_neg (fun e2=>e e2.symm)];exact h.xs a q' h'
theorem ShQ.next{P:Nat→List Nat}{N i j:Nat}{qs:List Pc}(h:ShQ P N i j qs)(hj:(P i).length≤j):ShQ P N (i+1) 0 qs:=⟨h.len,fun a q hq=>by rw[behJ_zero,←behJ_full P i j a hj];exact h.xs a q hq⟩
theorem ShQ.get{P:Nat→List Nat}{N i j a:Nat}{qs:List Pc}(h:ShQ P N i j qs)(ha:a<N):∃q,qs[a]? =some q:=⟨_,List.getElem?_eq_getElem (by rw[h.len];exact ha)⟩
theorem set_get(ws:List Int)(i k:Nat)(v:Int)(h:i<ws.length):(ws.set i v).getD k 0=if k=i then v else ws.getD k 0:=by
 rw[List.getD_eq_getElem?_getD,List.getD_eq_getElem?_getD,List.getElem?_set];by_cases e:i=k
 ·subst e;simp[h]
 ·rw[if_neg e,if_neg (fun e2=>e e2.symm)]
structure ShW(P:Nat→List Nat)(N i:Nat)(ws:List Int):Prop where
 len:ws.length=N
 w:∀k,k<N→ws.getD k 0=if k<i then((P k).length:Int)else 0
theorem ShW.first(P:Nat→List Nat)(N:Nat):ShW P N 0 (List.replicate N 0):=⟨by simp,fun k hk=>by rw[List.getD_eq_getElem?_getD,List.getElem?_replicate,if_pos hk];rfl⟩
theorem ShW.step {P : Nat → List Nat} {N i : Nat} {ws : List Int} (h : ShW P N i ws) (hi : i < N) : ShW P N (i + 1) (ws.set i ((P i).length : Int)) := ⟨by rw [List.length_set]; exact h.len, fun k hk => by
 rw [set_get _ _ _ _ (by rw [h.len]; exact hi), h.w k hk]
 by_cases e : k = i
 ·subst e; simp
 ·rw [if_neg e]
  by_cases h2 : k < i
  ·rw [if_pos h2, if_pos (by omega)]
  ·rw [if_neg h2, if_neg (by omega)]⟩
def zeroP(P:Nat→List Nat)(i:Nat):List Nat:=(List.range i).filter fun k=>(P k).length=0
theorem zeroP_succ(P:Nat→List Nat)(i:Nat):zeroP P (i+1)=if(P i).length=0 then zeroP P i++[i]else zeroP P i:=by
 unfold zeroP;rw[List.range_succ,List.filter_append];by_cases h:(P i).length=0
 ·rw[if_pos h,List.filter_cons,if_pos (by simpa using h)];rfl
 ·rw[if_neg h,List.filter_cons,if_neg (by simpa using h)];simp
def wtS(ws:List Int)(k:Nat):Nat:=(ws.getD k 0).toNat
theorem ShW.kahn{P:Nat→List Nat}{N:Nat}{ws:List Int}(h:ShW P N N ws):Kahn P N (wtS ws) (zeroP P N) 0:=Kahn.first P N (fun k hk=>by unfold wtS;rw[h.w k hk,if_pos hk];rfl) rfl
theorem Kahn.le{P:Nat→List Nat}{N d:Nat}{wt:Nat→Nat}{rd:List Nat}(h:Kahn P N wt rd d):rd.length≤N:=by
 have:=nodup_len (l:=rd) (m:=List.range N) h.nd fun x hx=>List.mem_range.2 (h.lt x hx);simpa using this
theorem KahnI.le{P:Nat→List Nat}{N d q:Nat}{wt:Nat→Nat}{rd:List Nat}(h:KahnI P N wt rd d q):rd.length≤N:=by
 have:=nodup_len (l:=rd) (m:=List.range N) h.nd fun x hx=>List.mem_range.2 (h.lt x hx);simpa using this
theorem KahnI.down{P:Nat→List Nat}{N d q:Nat}{ws:List Int}{rd:List Nat}(h:KahnI P N (wtS ws) rd d q)(hl:ws.length=N)(hq:q<(behS P N (rd.getD d 0)).length){k:Nat}(hk:k=(behS P N (rd.getD d 0)).getD q 0):
  KahnI P N (wtS (ws.set k (ws.getD k 0 - 1))) (if ws.getD k 0 - 1=0 then rd++[k]else rd) d (q+1):=by
 obtain⟨h1,h2⟩:=h.told hq hk;have hw:wtS ws k=(ws.getD k 0).toNat:=rfl;have e1:wtS (ws.set k (ws.getD k 0 - 1)) k=wtS ws k - 1:=by
  unfold wtS;rw[set_get _ _ _ _ (by rw[hl];exact h1),if_pos rfl];omega
 have:=h.step hq hk (wt':=wtS (ws.set k (ws.getD k 0 - 1))) e1 fun i hi=>by unfold wtS;rw[set_get _ _ _ _ (by rw[hl];exact h1),if_neg hi]
 rw[e1]at this;by_cases hz:ws.getD k 0 - 1=0
 ·rw[if_pos hz];rw[if_pos (by omega)]at this;exact this
 ·rw[if_neg hz];rw[if_neg (by omega)]at this;exact this
def RisS(ids:List Int)(i:Nat):Prop:=∀k,k+1<i→cmpS (idAt ids k) (idAt ids (k+1))<0
theorem shape_32{m:Nat}{ids:List Int}{ops:List OpV}{i:Nat}(hi:i+1<m)(h:0≤cmpS (idAt ids i) (idAt ids (i+1))):shapeS m ids ops=32:=by
 unfold shapeS;rw[if_pos fun hr=>?_];have:=hr i (by omega);omega
theorem shape_40{m:Nat}{ids:List Int}{ops:List OpV}{i j:Nat}(hr:Rising m ids)(hi:i<ops.length)(hj:j<(ops.getD i OpV.zero).n)(h:¬inS m ids (idAt (ops.getD i OpV.zero).ids j)):shapeS m ids ops=40:=by
 unfold shapeS;rw[if_neg (not_not_intro hr),if_pos fun ho=>h (ho i hi j hj)]
theorem shape_end{m d:Nat}{ids:List Int}{ops:List OpV}(hr:Rising m ids)(ho:opensS m ids ops)(hf:Found (prS m ids ops) ops.length↔¬d<ops.length):shapeS m ids ops=if d<ops.length then 36 else 0:=by
 unfold shapeS;rw[if_neg (not_not_intro hr),if_neg (not_not_intro ho)];by_cases h:d<ops.length
 ·rw[if_neg (fun e=>hf.1 e h),if_pos h]
 ·rw[if_pos (hf.2 h),if_neg h]
theorem prS_len(m:Nat)(ids:List Int)(ops:List OpV)(i:Nat):(prS m ids ops i).length=(ops.getD i OpV.zero).n:=by simp[prS]
theorem prS_get(m:Nat)(ids:List Int)(ops:List OpV)(i j:Nat)(h:j<(ops.getD i OpV.zero).n):(prS m ids ops i).getD j 0=ixS m ids (idAt (ops.getD i OpV.zero).ids j):=by
 unfold prS;rw[List.getD_eq_getElem?_getD,List.getElem?_map,List.getElem?_range h];rfl
end S
namespace S
open G
def kc(a b:ByteArray):Int:=cmpS (bys a) (bys b)
structure RgV where
 (key:ByteArray)(vk num bits:Int)(t:ByteArray)(st:Int)(id:List Int)(h32:id.length=32)
def RgV.zero:RgV:=⟨.empty,0,0,0, .empty,0,List.replicate 32 0,rfl⟩
@[reducible] def rg(l:List RgV)(i:Nat):RgV:=l.getD i RgV.zero
theorem rg_some{l:List RgV}{i:Nat}{x:RgV}(h:l[i]? =some x):rg l i=x:=by unfold rg;rw[List.getD_eq_getElem?_getD,h];rfl
def SortK(l:List RgV):Prop:=l.Pairwise fun a b=>kc a.key b.key<0
theorem SortK.lt{l:List RgV}(h:SortK l){i j:Nat}(hij:i<j)(hj:j<l.length):kc (rg l i).key (rg l j).key<0:=by
 have:=List.pairwise_iff_getElem.1 h i j (by omega) hj hij;rw[rg_some (List.getElem?_eq_getElem (by omega:i<l.length)),rg_some (List.getElem?_eq_getElem hj)];exact this
/-! places -/
def regO(o:OpV)(id:List Int)(h:id.length=32):RgV:=⟨o.key,o.vk,o.num,o.bits,o.t,o.st,id,h⟩
end S
namespace G
open Go.RowKit
section
end
/-! parts of rows -/
theorem flat_take{α:Type}(f:α→List Value)(sz:Nat)(hf:∀x,(f x).length=sz):∀(l:List α) (n:Nat),(l.flatMap f).take (n*sz)=(l.take n).flatMap f
 |[],n=>by simp
 |x::l,0=>by simp
 |x::l,n+1=>by
  rw[List.flatMap_cons,List.take_succ_cons,List.flatMap_cons,List.take_append,hf,List.take_of_length_le (by rw[hf,Nat.add_mul];omega),show(n+1)*sz - sz=n*sz by rw[Nat.add_mul];omega,flat_take f sz hf l n]
theorem flat_drop{α:Type}(f:α→List Value)(sz:Nat)(hf:∀x,(f x).length=sz):∀(l:List α) (n:Nat),(l.flatMap f).drop (n*sz)=(l.drop n).flatMap f
 |[],n=>by simp
 |x::l,0=>by simp
 |x::l,n+1=>by
  rw[List.flatMap_cons,List.drop_succ_cons,List.drop_append,hf,List.drop_of_length_le (by rw[hf,Nat.add_mul];omega),List.nil_append,show(n+1)*sz - sz=n*sz by rw[Nat.add_mul];omega,flat_drop f sz hf l n]
theorem GRow.sub{α:Type}{f:α→List Value}{sz n:Nat}{S:Nat→Prop}{w:World}{a:Option Addr}{lst:List α}(h:GRow f sz S w a n lst)(lo hi m:Nat)(hh:hi≤n)(hl:lo≤hi)(hm:hi≤m):GRow f sz S w (subA a lo sz m) (hi - lo) ((lst.drop lo).take (hi - lo)):=by
 have hln:=h.len;refine⟨?_,by rw[List.length_take,List.length_drop];omega,h.szf⟩;have:=h.row.sub lo hi sz m (by rw[flat_len f sz h.szf,hln,Nat.mul_comm];exact Nat.mul_le_mul_left _ hh) hl hm;rwa[flat_drop f sz h.szf,flat_take f sz h.szf]at this
section
variable{P:Program}{ops:Array Oper}{K:List Value→World→Prop}{rest:List Oper}{l:List Value}{w:World}{d:Tmp}{ty:TypeId}{pos:String}{af:Array Edge}
theorem RS.copyC{x y:Operand}{t t2 e T:TypeId}{b o n cp m c2 sz k:Nat}{a:Option Addr}{S:Nat→Prop}{cs ds:List Value}(hB:Blk w b cs T)(hR:Row S w a ds)(hd:ds.length=m*sz)(hk:min m n=k)(hm:0<k)(hsz:0<sz)(hv:∀u∈ds.take (k*sz),cellB u=true)
  (hx:ev l x= .slice (some ⟨b,o,none⟩) n cp)(hy:ev l y= .slice a m c2)(hu:P.underlying t=some (.slice e))(hs:P.cellsOf e=sz)(ho:o+k*sz≤cs.length)
  (h:∀w',St b w w'→Blk w' b (splice cs o (ds.take (k*sz))) T→RS P ops K rest (l.set d (.int .i64 k)) w'):
  RS P ops K (⟨some d, .call {callee:= .builtin .copy,args:= #[x,y],argTypes:= #[t,t2]},ty,pos,af,none⟩::rest) l w:=by
 have hrs:=size_run (P:=P) (w:=w) hs (by omega);have hp:0<k*sz:=Nat.mul_pos hm hsz;have hkm:k*sz≤m*sz:=Nat.mul_le_mul_right _ (by omega);rcases hR with he|⟨b2,o2,rfl,_,hc⟩
 ·rw[he]at hd;simp at hd;omega
 ·have hc2:Cells w b2 o2 (ds.take (k*sz)):=by
   intro j hj;rw[List.length_take]at hj;rw[hc j (by omega)];simp only[List.getD_eq_getElem?_getD,List.getElem?_take];rw[if_pos (by omega)]
  have h1:(loadCells ⟨b2,o2,none⟩ (k*sz)).run P w= .ok (ds.take (k*sz)).toArray w:=by
   have:=loadFrom_run (P:=P) _ hc2 (k*sz) 0 #[] (by rw[List.length_take];omega);simpa [loadCells]using this
  obtain⟨w1,h2,h3,h4⟩:=storeCells_blk (P:=P) (o:=o) (ds.take (k*sz)) 0 _ w hB (by rw[List.length_take];omega) hv;have hrun:(execOp (ev l) ⟨some d, .call {callee:= .builtin .copy,args:= #[x,y],argTypes:= #[t,t2]},ty,pos,af,none⟩).run P w= .ok (.value (.int .i64 k)) w1:=by
   have hmin:Nat.min m n=k:=hk;have hmin3:min n m=k:=by rw[Nat.min_comm];exact hk
   simp[execOp,resolve,hx,hy,invoke,builtin,Builtin.copy_,run_underlying hu,Builtin.lenOf,hrs,Builtin.firstCells,hk,hmin,hmin3,h1,h2,goInt]
  exact RS.o hrun (h w1 h3 (by rw[Nat.add_zero]at h4;exact h4)) rfl
end
section
variable{S0:Nat→Prop}{w0 w:World}{L L' E:List Ent}{P:Program}{l0:List Oper}{ops:Array Oper}{K:List Value→World→Prop}{rest:List (Oper×Kd)}{l l':List Value}{m:Md}{d:Tmp}{op:Op}{ty:TypeId}{pos:String}{af:Array Edge}{kd:Kd}{v:Value}{x y z:Operand}{t t2 ti xt yt e T T2:TypeId}{b b2 o n c n2 c2 sz by_:Nat}{cs cs' vs ws zs:List Value}{X:World→Prop}
 {k ki kn:IntKind}{a a2:Option Addr}{xs ys:List Int}{i:Int}{α:Type}{f:α→List Value}{lst lst2:List α}{q:α}{s u:ByteArray}
theorem J.rex{ι:Type}{p:ι→Prop}{F:Ent→List Ent}(e1:Ent)(e2:ι→Ent)[R:RE L e1 F](h:∀S w,e1.ok S w→∃i,p i∧∀S',e1.ok S' w→(e2 i).ok S' w)(kk:∀i,p i→J S0 w0 (F (e2 i)) X):J S0 w0 L X:=fun w M=>by
 obtain⟨S,_,h2⟩:=M.get (R.h e1).same;obtain⟨i,hp,hi⟩:=h S w h2;obtain⟨S',h1,h2,h3⟩:=M.foc (R.h (e2 i));exact kk i hp w (h3 w S' (Pr.refl _ _) (hi S' h2) fun _ hb=> .inl hb)
theorem J.cur{F:Ent→List Ent}(f:α→List Value)(sz:Nat)(e:TypeId)(b n c:Nat)(lst:List α)[R:RE L (.gown f sz e (some ⟨b,0,none⟩) n c lst) F](kk:∀cur:List Value,(cur.length=c*sz∧cur.take (n*sz)=lst.flatMap f∧n≤c∧c≤maxLen∧lst.length=n)→J S0 w0 (F (.blk b cur e)) X):J S0 w0 L X:=
 J.rex (.gown f sz e (some ⟨b, 0, none⟩) n c lst) (fun cur => .blk b cur e) (fun S w h => by
  obtain ⟨cur, B, h1, h2, h3, h4, h5⟩ := h.1.blk
  exact ⟨cur, ⟨h3, h4, h1, h2, h.1.len⟩, fun S' h' => ⟨h'.2 b rfl, B⟩⟩) kk
class RBE(L:List Ent)(b:Nat)(cs:outParam (List Value))(T:outParam TypeId)(F:outParam (Ent→List Ent)):Prop where h:∀e',Rpl L (.blk b cs T) e' (F e')
instance RBE.here{b:Nat}{cs:List Value}{T:TypeId}{L:List Ent}:RBE (.blk b cs T::L) b cs T (fun e'=>e'::L):=⟨fun _=> .here⟩
theorem J.ruc{cur:List Value}{F:Ent→List Ent}(f:α→List Value)(sz:Nat)(e:TypeId)(b n c:Nat)(lst:List α)[R:RBE L b cur e F](hf:∀x,(f x).length=sz)(h1:cur.length=c*sz)(h2:cur.take (n*sz)=lst.flatMap f)(h3:n≤c)(h4:c≤maxLen)(h5:lst.length=n)(kk:J S0 w0 (F (.gown f sz e (some ⟨b,0,none⟩) n c lst)) X):J S0 w0 L X:=fun w M=>by
 obtain⟨S,h1',h2',h3'⟩:=M.foc (R.h (.gown f sz e (some ⟨b,0,none⟩) n c lst));exact kk w (h3' w S (Pr.refl _ _) ⟨GOwn.of_cur h2'.2 hf h3 h4 h1 h2 h5 (Nat.zero_le _),fun q hq=>by simp[obk]at hq;subst hq;exact h2'.1⟩ fun _ hb=> .inl hb)
theorem RG.sub(h:RG S0 w0 L f sz a n lst)(lo hi m:Nat)(hh:hi≤n)(hl:lo≤hi)(hm:hi≤m):RG S0 w0 L f sz (subA a lo sz m) (hi - lo) ((lst.drop lo).take (hi - lo)):=fun w M=>let ⟨S,k⟩:=h w M;⟨S,k.sub lo hi m hh hl hm⟩
theorem Mem.part{F:List Value→List Ent}[R:RB L b cs T F]{ds:List Value}(M:Mem S0 w0 L w)(h:(cs.drop o).take ds.length=ds):Row (fun _=>True) w (some ⟨b,o,none⟩) ds:=
 .inr ⟨b,o,rfl,trivial,(M.blk (R.h cs).same).cells h⟩
theorem J.copyR{cp k:Nat}{ds:List Value}{F:List Value→List Ent}[U:Und P t (.slice e)][Z:Siz P e sz](hx:ev l x= .slice (some ⟨b,o,none⟩) n cp)(hy:ev l y= .slice a n2 c2)[R:RB L b cs T F](hR:∀w,Mem S0 w0 L w→∃S,Row S w a ds)(hd:ds.length=n2*sz)(h1:∀u∈ds.take (k*sz),cellB u=true)(hc:splice cs o (ds.take (k*sz))=cs')
  (kk:J S0 w0 (F cs') (RY S0 w0 m P ops K rest l'))(hk0:min n2 n=k:=by omega)(hm:0<k:=by omega)(ho:o+k*sz≤cs.length:=by omega)(hsz:0<sz:=by decide)(hl:l.set d (.int .i64 k)=l':=by dsimp only[List.set])(hk:okG m kd (F cs'):=by first|exact trivial|(repeat(first|exact List.Sublist.refl _|refine List.Sublist.cons_cons _ ?_|refine List.Sublist.cons _ ?_))):
  J S0 w0 L (RY S0 w0 m P ops K ((⟨some d, .call {callee:= .builtin .copy,args:= #[x,y],argTypes:= #[t,t2]},ty,pos,af,none⟩,kd)::rest) l):=
 J.big hk fun w M K' hK=>by
  obtain⟨S,h⟩:=hR w M;refine RS.copyC (M.blk (R.h cs).same) h hd hk0 hm hsz h1 hx hy U.h Z.h ho fun w' x1 B=>RS.nil ?_;rw[hc]at B;rw[hl];exact hK _ w' (M.store (R.h _) x1 B) (kk w' (M.store (R.h _) x1 B))
theorem RG.cells(h:RG S0 w0 L f sz a n lst)(w:World)(M:Mem S0 w0 L w):∃S,Row S w a (lst.flatMap f):=let ⟨S,k⟩:=h w M;⟨S,k.row⟩
theorem RG.tail{p:Nat}(h:RG S0 w0 L f sz (some ⟨b,0,none⟩) n lst)(hp:p<n):RG S0 w0 L f sz (some ⟨b,p*sz,none⟩) (n - p) (lst.drop p):=fun w M=>by
 obtain⟨S,k⟩:=h w M;have:=k.sub p n n (Nat.le_refl _) (by omega) (Nat.le_refl _);rw[List.take_of_length_le (by rw[List.length_drop,k.len];exact Nat.le_refl _)]at this;unfold subA at this;rw[if_neg (by omega)]at this;simp only[Option.map_some,add_mk,Nat.zero_add]at this;exact⟨S,this⟩
/-! slices of slices that lie in a block -/
theorem J.slT{o' n' c':Nat}{lo:Operand}[U:Und P xt (.slice e)][Z:Siz P e sz](hk:pureK kd=true)(hx:ev l x= .slice (some ⟨b,o,none⟩) n c)(h1:ev l lo= .int .i64 i)(kk:J S0 w0 L (RY S0 w0 m P ops K rest l'))(hz:sz≠0:=by decide)(hb:0≤i∧i≤n:=by omega)(hn:n≤c:=by omega)(hc:i<c:=by omega)
  (ho:o+i.toNat*sz=o':=by rfl)(hn':n - i.toNat=n':=by rfl)(hc':c - i.toNat=c':=by rfl)(hl:l.set d (.slice (some ⟨b,o',none⟩) n' c')=l':=by dsimp only[List.set]):
  J S0 w0 L (RY S0 w0 m P ops K ((⟨some d, .slice xt x (some lo) none none,ty,pos,af,none⟩,kd)::rest) l):=J.sl hk hx h1 rfl kk hz (by omega) hn (by unfold subA;rw[if_neg (by omega)];simp only[Option.map_some,add_mk];rw[ho]) (by rw[←hn'];rfl) hc' hl
theorem J.slP{n':Nat}{hi:Operand}[U:Und P xt (.slice e)][Z:Siz P e sz](hk:pureK kd=true)(hx:ev l x= .slice (some ⟨b,o,none⟩) n c)(h1:ev l hi= .int .i64 i)(kk:J S0 w0 L (RY S0 w0 m P ops K rest l'))(hz:sz≠0:=by decide)(hb:0≤i∧i≤c:=by omega)(hn:n≤c:=by omega)
  (hn':i.toNat=n':=by rfl)(hl:l.set d (.slice (some ⟨b,o,none⟩) n' c)=l':=by dsimp only[List.set]):
  J S0 w0 L (RY S0 w0 m P ops K ((⟨some d, .slice xt x none (some hi) none,ty,pos,af,none⟩,kd)::rest) l):=J.sl hk hx rfl h1 kk hz (by omega) hn (by unfold subA;split<;>simp[add_mk]) (by rw[←hn'];rfl) rfl hl
theorem sl3{o o' n n' c c':Nat}(h1:o=o')(h2:n=n')(h3:c=c'):Value.slice (some ⟨b,o,none⟩) n c= .slice (some ⟨b,o',none⟩) n' c':=by subst h1 h2 h3;rfl
theorem ins_cells{A C R B X:List Value}{p s:Nat}(hA:A.length=p)(hC:C.length=s)(hX:X.length=s)(hB:B.length≤R.length):
  splice (splice (A++C++R) (p+s) B) p X=A++X++B++R.drop B.length∧splice (splice (A++C++R) p X) (p+s) B=A++X++B++R.drop B.length:=by
 have h1:∀(A C R V:List Value),C.length=V.length→splice (A++C++R) A.length V=A++V++R:=fun A C R V h=>by
  rw[splice_eq _ _ _ (by simp[h]),List.append_assoc A C R,List.take_left,←List.append_assoc,←h,←List.length_append,List.drop_left]
 have h2:∀(A R V:List Value),V.length≤R.length→splice (A++R) A.length V=A++V++R.drop V.length:=fun A R V h=>by
  have:=h1 A (R.take V.length) (R.drop V.length) V (by rw[List.length_take];omega);rwa[List.append_assoc,List.take_append_drop]at this
 constructor
 ·have e1:=h2 (A++C) R B hB;rw[List.length_append,hA,hC]at e1;rw[e1,List.append_assoc,List.append_assoc A,←hA];have e2:=h1 A C (B++R.drop B.length) X (by omega);rw[List.append_assoc]at e2;rw[e2];simp
 ·have e1:=h1 A C R X (by omega);rw[hA]at e1;rw[e1];have e2:=h2 (A++X) R B hB;rw[List.length_append,hA,hX]at e2;exact e2
theorem ins_flat{cs:List Value}{p n:Nat}{z:α}(hf:∀x,(f x).length=sz)(hl:lst.length=n)(hp:p<n)(hn:(n+1)*sz≤cs.length)(hc:cs.take (p*sz)=(lst.take p).flatMap f):
  (splice (splice cs ((p+1)*sz) ((lst.drop p).flatMap f)) (p*sz) (f z)).take ((n+1)*sz)=(lst.take p++z::lst.drop p).flatMap f∧
  (splice (splice cs (p*sz) (f z)) ((p+1)*sz) ((lst.drop p).flatMap f)).take ((n+1)*sz)=(lst.take p++z::lst.drop p).flatMap f:=by
 have e1:(p+1)*sz=p*sz+sz:=by rw[Nat.add_mul];omega
 have e2:(n+1)*sz=p*sz+sz+(n - p)*sz:=by rw[←e1,←Nat.add_mul];congr 1;omega
 have hB:((lst.drop p).flatMap f).length=(n - p)*sz:=by rw[flat_len f sz hf,List.length_drop,hl,Nat.mul_comm]
 have hA:(cs.take (p*sz)).length=p*sz:=by rw[List.length_take];omega
 have hsp:cs=cs.take (p*sz)++(cs.drop (p*sz)).take sz++cs.drop (p*sz+sz):=by
  rw[List.append_assoc,←List.drop_drop,List.take_append_drop,List.take_append_drop]
 have h:=ins_cells (A:=cs.take (p*sz)) (C:=(cs.drop (p*sz)).take sz) (R:=cs.drop (p*sz+sz)) (B:=(lst.drop p).flatMap f) (X:=f z) hA (by rw[List.length_take,List.length_drop];omega) (hf z) (by rw[hB,List.length_drop];omega);rw[←hsp]at h;have ht:∀R:List Value,(cs.take (p*sz)++f z++(lst.drop p).flatMap f++R).take ((n+1)*sz)=(lst.take p++z::lst.drop p).flatMap f:=fun R=>by
  rw[List.take_append_of_le_length (by simp only[List.length_append,hA,hf,hB];omega),List.take_of_length_le (by simp only[List.length_append,hA,hf,hB];omega),hc,List.flatMap_append,List.flatMap_cons,List.append_assoc]
 rw[e1,h.1,h.2];exact⟨ht _,ht _⟩
theorem J.apZ{F:Ent→List Ent}{p k0:Nat}{l':Nat→Nat→List Value}(f:α→List Value)(n:Nat)(lst:List α)[U:Und P t (.slice e)][U2:Und P ti (.int kn)][I:Inf P e sz by_ zs](hk:okE m kd=true)(hx:ev l x= .slice (some ⟨b,0,none⟩) p c)(hy:ev l y= .int ki (k0:Nat))[R:RE L (.gown f sz e (some ⟨b,0,none⟩) n c lst) F]
  (kk:∀b' c' cs',(cs'.length=c'*sz∧cs'.take (p*sz)=(lst.take p).flatMap f∧p+k0≤c'∧c'≤maxLen)→J S0 w0 (.blk b' cs' e::L) (RY S0 w0 m P ops K rest (l' b' c')))(hz:zs.length=sz:=by rfl)(hk0:0<k0:=by omega)(hp:p≤n:=by omega)(hpc:p≤c:=by omega)(hg:c<p+k0:=by omega)(hby:by_≤1000:=by decide)(hb:p+k0≤100000000:=by omega)(hsz:0<sz:=by decide)
  (hl:∀b' c',l.set d (.slice (some ⟨b',0,none⟩) (p+k0) c')=l' b' c':=by intro b' c';dsimp only[List.set]):
  J S0 w0 L (RY S0 w0 m P ops K ((⟨some d, .call {callee:= .builtin .append,args:= #[x,y],argTypes:= #[t,ti]},ty,pos,af,none⟩,kd)::rest) l):=
 J.eff hk fun w M K' hK=>by
  obtain⟨i,zv,i1,i2,i3,i4,i5⟩:=I.h;obtain⟨S,_,q1⟩:=M.get (R.h (.gown f sz e (some ⟨b,0,none⟩) n c lst)).same;obtain⟨cur,B,g1,g2,g3,g4,g5⟩:=q1.1.blk;have hf:=q1.1.szf;have h8:(p+k0)*by_≤(p+k0)*1000:=Nat.mul_le_mul_left _ hby;have h9:k0*by_≤k0*1000:=Nat.mul_le_mul_left _ hby;have hpl:p*sz≤n*sz:=Nat.mul_le_mul_right _ hp;have hnl:n*sz≤c*sz:=Nat.mul_le_mul_right _ g1;have hcp:cur.take (p*sz)=(lst.take p).flatMap f:=by
   rw[←flat_take f sz hf,←g4,List.take_take,Nat.min_eq_left hpl]
  have hold:(Builtin.firstCells i.size p (.slice (some ⟨b,0,none⟩) p c)).run P w.drew= .ok (cur.take (p*sz)).toArray w.drew:=by
   rw[i2];refine run_firstCells_some w.drew sz p ⟨b,0,none⟩ p c _ (by rw[List.length_take];omega) fun j v hj=>?_
   rw[List.getElem?_take]at hj;split at hj
   ·rw[add_mk,Nat.zero_add];exact B.cell hj
   ·cases hj
  have hrun:=Lib.run_append_grow_zeros (P:=P) w t ti ty e i zv ki kn U.h U2.h i1 i4 (some ⟨b,0,none⟩) p c _ hold k0 hk0 (by omega) hg (by omega) (by rw[i3];omega) (by rw[i3];exact growslice_fits hg (by omega));have hge:=grownCap_ge w (p+k0) c e;have hcm:=grownCap_le_maxLen w (p+k0) c e (by simp only[maxLen];omega);have hgen:∀v w',(Builtin.append_ #[t,ti] ty #[.slice (some ⟨b,0,none⟩) p c, .int ki k0]).run P w= .ok v w'→(execOp (ev l) ⟨some d, .call {callee:= .builtin .append,args:= #[x,y],argTypes:= #[t,ti]},ty,pos,af,none⟩).run P w= .ok (.value v) w':=by
   intro v w' h;simp[execOp,resolve,hx,hy,invoke,builtin,h]
  have hrun2:=hgen _ _ hrun;have nf:=new_facts w.drew (cur.take (p*sz)++(Builtin.zeroCells zv.cells k0++Builtin.zeroCells zv.cells (grownCap w (p+k0) c e - (p+k0))).toList) e;have hx1:Ext w (w.drew.alloc (.cells (cur.take (p*sz)++(Builtin.zeroCells zv.cells k0++Builtin.zeroCells zv.cells (grownCap w (p+k0) c e - (p+k0))).toList).toArray e)):=((Below.refl _ _).drew).alloc (Nat.le_refl _) (.cells (cur.take (p*sz)++(Builtin.zeroCells zv.cells k0++Builtin.zeroCells zv.cells (grownCap w (p+k0) c e - (p+k0))).toList).toArray e);have he:((cur.take (p*sz)).toArray++Builtin.zeroCells zv.cells k0++Builtin.zeroCells zv.cells (grownCap w (p+k0) c e - (p+k0)))=(cur.take (p*sz)++(Builtin.zeroCells zv.cells k0++Builtin.zeroCells zv.cells (grownCap w (p+k0) c e - (p+k0))).toList).toArray:=by
   apply Array.ext';simp
  rw[he]at hrun2;have hzc:∀q,(Builtin.zeroCells zv.cells q).toList.length=q*sz:=fun q=>by
   unfold Builtin.zeroCells;rw[i5];simp[hz]
  refine RS.o hrun2 (RS.nil (hK _ _ hx1 ?_)) rfl;rw[hl];refine kk _ _ _ ⟨?_,?_,hge,hcm⟩ _ (M.new hx1 ⟨Nat.le_refl _,nf.2.1⟩)
  ·rw[List.length_append,List.length_take,g3,Nat.min_eq_left (by omega),Array.toList_append,List.length_append,hzc,hzc,←Nat.add_mul,←Nat.add_mul];congr 1;omega
  ·rw[List.take_append_of_le_length (by rw[List.length_take,g3];omega),List.take_take,Nat.min_self,hcp]
theorem J.nilS[U:Und P xt (.slice e)](hk:pureK kd=true)(hx:ev l x= .slice a n c)(hy:ev l y= .slice none 0 0)(kk:J S0 w0 L (RY S0 w0 m P ops K rest l'))(hl:l.set d (.bool a.isNone)=l':=by dsimp only[List.set]):J S0 w0 L (RY S0 w0 m P ops K ((⟨some d, .binOp .eql xt x y yt,ty,pos,af,none⟩,kd)::rest) l):=J.pur hk (fun _=>D.nilS hx hy U.h) kk hl
theorem J.fn{fn:Fn}{first captured:Array Operand}{fs us:List Value}(hk:pureK kd=true)(hf:first.toList.map (ev l)=fs)(hc:captured.toList.map (ev l)=us)(kk:J S0 w0 L (RY S0 w0 m P ops K rest l'))(hl:l.set d (.func fn fs.toArray us.toArray)=l':=by dsimp only[List.set]):J S0 w0 L (RY S0 w0 m P ops K ((⟨some d, .makeFunc fn first captured,ty,pos,af,none⟩,kd)::rest) l):=J.pur hk (fun _=>D.func hf hc) kk hl
theorem J.b0G(f:α→List Value)(hf:∀x,(f x).length=sz)[U:Und P t (.slice e)][I:Inf P e sz by_ zs]{l':Nat→List Value}(hk:okE m kd=true)(kk:∀b,J S0 w0 (.gown f sz e (some ⟨b,0,none⟩) 0 0 []::L) (RY S0 w0 m P ops K rest (l' b)))(hl:∀b,l.set d (.slice (some ⟨b,0,none⟩) 0 0)=l' b:=by intro b;dsimp only[List.set]):
  J S0 w0 L (RY S0 w0 m P ops K ((⟨some d, .buildSlice t 0 #[],ty,pos,af,none⟩,kd)::rest) l):=
 J.eff hk fun w M K' hK => RS.buildNone U.h I.h fun b w' e1 s1 x1 B => RS.nil (hK _ w' x1 (by
  rw [hl]
  exact kk b w' (M.new x1 (gown_blk (lst := []) ⟨by subst e1; exact Nat.le_refl _, B⟩ hf rfl rfl (by decide)))))
theorem GRow.none{S:Nat→Prop}{w:World}(h:GRow f sz S w a n lst)(hz:0<sz)(ha:a.isNone=true):n=0∧lst=[]:=by
 have hn:n=0:=by
  apply Classical.byContradiction;intro hn;obtain⟨q,hq⟩:=h.ex (i:=0) (by omega);obtain⟨b,o,h1,_⟩:=h.get (i:=0) hz hq (by omega);rw[h1]at ha;cases ha
 exact⟨hn,List.eq_nil_of_length_eq_zero (by rw[h.len,hn])⟩
theorem J.ldGa{off s1:Nat}[U:Agg P xt s1](hx:ev l x=pt a (i.toNat*sz+off))(hR:RG S0 w0 (Lv m L) f sz a n lst)(kk:J S0 w0 L (RY S0 w0 m P ops K rest l')){q:α}(hq:lst[i.toNat]? =some q:=by assumption)(hf:((f q).drop off).take s1=vs:=by dsimp only[List.drop,List.take])(hn:vs.length=s1:=by rfl)(ho:Nat.ble (off+s1) sz=true:=by rfl)(hs1:s1≠0:=by decide)(hi:0≤i∧i<n:=by omega)(hl:l.set d (.agg vs.toArray)=l':=by dsimp only[List.set]):
  J S0 w0 L (RY S0 w0 m P ops K ((⟨some d, .load xt x,ty,pos,af,none⟩, .q)::rest) l):=
 J.val (fun w M => by
  obtain ⟨S, h⟩ := hR w M
  have ho := Nat.le_of_ble_eq_true ho
  obtain ⟨b, o', ha, _, hc⟩ := h.get (by omega) hq hi
  obtain ⟨_, u1, u2, u3⟩ := U.h
  refine D.loadAgg (by rw [hx, pt_some ha]) u1 u2 u3 hs1 hn ?_
  intro j hj
  have h1 := hc (off + j) (by rw [h.szf]; omega)
  rw [show o' + i.toNat * sz + (off + j) = o' + (i.toNat * sz + off) + j by omega] at h1
  rw [h1, ← hf]
  simp only [List.getD_eq_getElem?_getD, List.getElem?_take, List.getElem?_drop]
  rw [if_pos (by omega)]) kk hl
theorem J.extv{fi:FuncId}{fn:Func}{args:Array Operand}{av:List Value}{ts:Array TypeId}{E:Array Value→Sem Value}(hf:P.funcs[fi]? =some fn)(hn:(fn.name== "runtime.NumGoroutine")=false)(hb:fn.body.isNone=true)(hnx:Extern.findNext fn=none)(he:Extern.find fn=some E)
  (ha:args.toList.map (ev l)=av)(hr:∀w,Mem S0 w0 (Lv m L) w→(E av.toArray).run P w= .ok v w)(kk:J S0 w0 L (RY S0 w0 m P ops K rest l'))(hl:l.set d v=l':=by dsimp only[List.set]):
  J S0 w0 L (RY S0 w0 m P ops K ((⟨some d, .call {callee:= .value (.func fi),args:=args,argTypes:=ts},ty,pos,af,none⟩, .q)::rest) l):=
 J.val (fun w M=>D.ext hf hn hb hnx he ha (hr w M)) kk hl
theorem RG.blkO(hB:Blk w0 b (f q) T)(hn:¬S0 b)(hf:∀x,(f x).length=sz):RG S0 w0 L f sz (some ⟨b,0,none⟩) 1 [q]:=fun w M=>
 ⟨fun _=>True,GRow.of_blk (hB.pr M.pr hn) trivial (by simp) rfl hf⟩
theorem Mem.two{F1 F2:Ent→List Ent}(M:Mem S0 w0 L w)(e1 e2:Ent)[R:RE L e1 F1][R2:RE (F1 .emp) e2 F2]:∃S1 S2:Nat→Prop,(∀b,S1 b→S2 b→False)∧e1.ok S1 w∧e2.ok S2 w:=by
 obtain⟨S,T,h1,h2,h3,h4,h5⟩:=(R.h .emp).foc M.sep;have hs:Sep (F1 .emp) T w:=h5 (U':=T) (S':=no) (fun b hb=>hb.elim) (fun b hb=>hb) (fun b hb=>hb.elim) (fun _ _ _=>rfl) trivial;obtain⟨S2,T2,g1,g2,g3,g4,g5⟩:=(R2.h e2).foc hs;exact⟨S,S2,fun b hb hc=>h3 b hb (g1 b hc),h4,g4⟩
end
/-! records that are built, part by part -/
inductive EvP(l:List Value):List (Nat×Operand)→List (Nat×Value)→List (Nat×List Value)→Prop
 |nil:EvP l [] [] []
 |cons {i:Nat} {x:Operand} {v:Value} {vs:List Value} {r:List (Nat×Operand)} {ps:List (Nat×Value)} {qs:List (Nat×List Value)} (h:ev l x=v) (hc:v.cells=vs.toArray) (t:EvP l r ps qs):EvP l ((i,x)::r) ((i,v)::ps) ((i,vs)::qs)
def ofS:List (Nat×Nat)→Nat→Nat
 |[],_=>0
 |x::_,0=>x.1
 |_::r,n+1=>ofS r n
theorem ofS_eq:∀(pl:List (Nat×Nat)) (i:Nat),ofS pl i=(pl.getD i (0,0)).1
 |[],_=>by simp[ofS]
 |_::_,0=>rfl
 |_::r,n+1=>by rw[ofS,ofS_eq r n];simp[List.getD_eq_getElem?_getD]
def fillS(pl:List (Nat×Nat))(cs:List Value):List (Nat×List Value)→List Value
 |[]=>cs
 |(i,vs)::r=>fillS pl (splice cs (ofS pl i) vs) r
def fillO(pl:List (Nat×Nat))(n:Nat):List (Nat×List Value)→Bool
 |[]=>true
 |(i,vs)::r=>(Nat.blt i pl.length&&(Nat.beq vs.length (pl.getD i (0,0)).2&&Nat.ble ((pl.getD i (0,0)).1+vs.length) n))&&fillO pl n r
theorem EvP.fill{l:List Value}{pl:List (Nat×Nat)}{r:List (Nat×Operand)}{ps:List (Nat×Value)}{qs:List (Nat×List Value)}(h:EvP l r ps qs):r.map (fun p=>(p.1,ev l p.2))=ps∧∀cs:List Value,fillO pl cs.length qs=true→fillL pl cs ps=some (fillS pl cs qs):=by
 induction h with
 |nil=>exact⟨rfl,fun cs _=>rfl⟩
 | @cons i x v vs r ps qs h hc _ ih=>
  refine⟨by rw[List.map_cons,ih.1,h],fun cs ho=>?_⟩;unfold fillO at ho;rw[Bool.and_eq_true,Bool.and_eq_true,Bool.and_eq_true]at ho;obtain⟨⟨h1,h2,h3⟩,h4⟩:=ho;have hi:i<pl.length:=by rw[Nat.blt_eq]at h1;exact h1
  have hg:pl[i]? =some (pl.getD i (0,0)):=by rw[List.getD_eq_getElem?_getD,List.getElem?_eq_getElem hi];rfl
  unfold fillL fillS;rw[hg,ofS_eq];have hsz:v.cells.size=vs.length:=by rw[hc];simp
  simp only[hsz];rw[if_pos (by rw[h2,h3];rfl),show v.cells.toList=vs by rw[hc]];exact ih.2 _ (by rw[splice_length];exact h4)
theorem J.bd{S0:Nat→Prop}{w0:World}{L:List Ent}{P:Program}{ops:Array Oper}{K:List Value→World→Prop}{rest:List (Oper×Kd)}{l l':List Value}{m:Md}{d:Tmp}{ty xt:TypeId}{pos:String}{af:Array Edge}{kd:Kd}
  {parts:Array (Nat×Operand)}{pl:List (Nat×Nat)}{sz by_:Nat}{zs cs:List Value}{ps:List (Nat×Value)}{qs:List (Nat×List Value)}[I:Inf P xt sz by_ zs][I2:SInf P xt pl](hk:pureK kd=true)(kk:J S0 w0 L (RY S0 w0 m P ops K rest l'))
  (hv:EvP l parts.toList ps qs:=by repeat(first|exact EvP.nil|(apply EvP.cons;(· ((conv=>lhs;whnf)<;>rfl));(· rfl))))(ho:fillO pl zs.length qs=true:=by rfl)(hf:fillS pl zs qs=cs:=by dsimp only[fillS,ofS,splice,List.set,Nat.reduceAdd])(hl:l.set d (.agg cs.toArray)=l':=by dsimp only[List.set]):
  J S0 w0 L (RY S0 w0 m P ops K ((⟨some d, .build xt parts,ty,pos,af,none⟩,kd)::rest) l):=
 J.bs hk (hv.fill (pl:=pl)).1 kk (by rw[←hf];exact(hv.fill (pl:=pl)).2 zs ho) hl
def Gw{β:Type}(w:World)(f:β→List Value)(sz:Nat)(e:TypeId)(a:Option Addr)(lst:List β)(nd:Ending)(w':World):Prop:=
 ∃a' c',nd= .returned (.slice a' lst.length c')∧Pr (fun b=>obk a=some b) w w'∧GOwn f sz 0 w' e a' lst.length c' lst∧∀b,obk a'=some b→obk a=some b∨w.heap.size≤b
section
variable{S0:Nat→Prop}{w0 w:World}{L:List Ent}{P:Program}{ops:Array Oper}{K:List Value→World→Prop}{rest:List (Oper×Kd)}{l:List Value}{m:Md}{d:Tmp}{ty:TypeId}{pos:String}{af:Array Edge}{kd:Kd}{β:Type}{f:β→List Value}{sz n c:Nat}{e:TypeId}{a:Option Addr}{lst lst':List β}{F:Option Addr→Nat→Nat→List β→List Ent}{fi:FuncId}{args:Array Operand}{av:List Value}{ts:Array TypeId}
theorem J.callG{l':Option Addr→Nat→List Value}[E:Ents P fi](ha:args.toList.map (ev l)=av)[R:GO L a f sz e n c lst F](h:∀w,Mem S0 w0 L w→GOwn f sz 0 w e a n c lst→Calls P fi av.toArray w (Gw w f sz e a lst'))
  (k:∀a' c',J S0 w0 (F a' lst'.length c' lst') (RY S0 w0 m P ops K rest (l' a' c')))(hl:∀a' c',l.set d (.slice a' lst'.length c')=l' a' c':=by intro a' c';dsimp only[List.set])(hk:∀a' c',okG m kd (F a' lst'.length c' lst'):=by first|exact fun _ _=>trivial|(intro _ _;repeat(first|exact List.Sublist.refl _|refine List.Sublist.cons_cons _ ?_|refine List.Sublist.cons _ ?_))):
  J S0 w0 L (RY S0 w0 m P ops K ((⟨some d, .call {callee:= .value (.func fi),args:=args,argTypes:=ts},ty,pos,af,none⟩,kd)::rest) l):=
 J.bigs (ι:=Option Addr×Nat) (Ls:=fun i=>F i.1 lst'.length i.2 lst') (none,0) (fun i=>hk i.1 i.2) fun w M K' hK=>by
  obtain⟨S,_,q1⟩:=M.get (R.h a n c lst).same;refine RS.callx E.h (h w M q1.1) ha fun nd w' hR=>?_
  obtain⟨a',c',h1,h2,h3,h4⟩:=hR;refine⟨_,h1,RS.nil ?_⟩;obtain⟨S2,g1,g2,g3⟩:=M.foc (R.h a' lst'.length c' lst');have M':=g3 w' (fun b=>obk a'=some b) (h2.mono fun b hb=>g2.2 b hb) ⟨h3,fun b hb=>hb⟩ fun b hb=>(h4 b hb).imp_left (g2.2 b);refine hK _ w' (a',c') M' ?_;rw[hl];exact k a' c' w' M'
theorem J.enterG{fn:Func}{c0:Code}{R:Ending→World→Prop}(u:Nat)(hO:GOwn f sz 0 w0 e a n c lst)(hf:P.funcs[fi]? =some fn)(hb:fn.body=some c0)(hu:fn.ntmps - av.length=u)(h:J (fun b=>obk a=some b) w0 [.gown f sz e a n c lst] (c0.wp P (bodyPost P fn R) (fr l)))(hl:av++List.replicate u undef=l:=by dsimp only[List.reduceReplicate,List.cons_append,List.nil_append]):Calls P fi av.toArray w0 R:=
 enterU u hf hb hu (h w0 ⟨Pr.refl _ _,_,no,fun b hb=> .inl hb,fun b hb=>hb.elim,fun b _ hb=>hb,⟨hO,fun b hb=>hb⟩,trivial⟩) hl
theorem J.finW{a':Option Addr}{n' c':Nat}{v:Value}[R:GO L a' f sz e n' c' lst' F](hv:v= .slice a' n' c'):J (fun b=>obk a=some b) w0 L (Gw w0 f sz e a lst' (.returned v)):=fun w M=>by
 obtain⟨S,h1,h2⟩:=M.get (R.h a' n' c' lst').same;obtain rfl:=h2.1.len;exact⟨a',c',by rw[hv],M.pr,h2.1,fun b hb=>(h1 b (h2.2 b hb)).1⟩
end
end G
namespace G
open Go.RowKit
section
variable{S0:Nat→Prop}{w0:World}{L:List Ent}{X:World→Prop}
variable{m:Md}{P:Program}{ops:Array Oper}{K:List Value→World→Prop}{rest:List (Oper×Kd)}{l:List Value}{dd:Option Tmp}{ty:TypeId}{pos:String}{af:Array Edge}{kd:Kd}{g:Option (Nat×Bool)}
theorem J.tm{x:Operand}(h:J S0 w0 L (RY S0 w0 m P ops K ((⟨dd, .move x,ty,pos,af,none⟩,kd)::rest) l)):J S0 w0 L (RY S0 w0 m P ops K ((⟨dd, .move x,ty,pos,af,none⟩,kd)::rest) l):=h
theorem J.ta{x:Operand}(h:J S0 w0 L (RY S0 w0 m P ops K ((⟨dd, .assign x,ty,pos,af,none⟩,kd)::rest) l)):J S0 w0 L (RY S0 w0 m P ops K ((⟨dd, .assign x,ty,pos,af,none⟩,kd)::rest) l):=h
theorem J.tb(b:BinOp){xt yt:TypeId}{x y:Operand}(h:J S0 w0 L (RY S0 w0 m P ops K ((⟨dd, .binOp b xt x y yt,ty,pos,af,none⟩,kd)::rest) l)):J S0 w0 L (RY S0 w0 m P ops K ((⟨dd, .binOp b xt x y yt,ty,pos,af,none⟩,kd)::rest) l):=h
theorem J.tl{xt:TypeId}{x:Operand}(h:J S0 w0 L (RY S0 w0 m P ops K ((⟨dd, .load xt x,ty,pos,af,none⟩,kd)::rest) l)):J S0 w0 L (RY S0 w0 m P ops K ((⟨dd, .load xt x,ty,pos,af,none⟩,kd)::rest) l):=h
theorem J.ts{xt:TypeId}{x y:Operand}(h:J S0 w0 L (RY S0 w0 m P ops K ((⟨dd, .store xt x y,ty,pos,af,none⟩,kd)::rest) l)):J S0 w0 L (RY S0 w0 m P ops K ((⟨dd, .store xt x y,ty,pos,af,none⟩,kd)::rest) l):=h
theorem J.tf{xt:TypeId}{x:Operand}{i:Nat}(h:J S0 w0 L (RY S0 w0 m P ops K ((⟨dd, .fieldAddr xt x i,ty,pos,af,none⟩,kd)::rest) l)):J S0 w0 L (RY S0 w0 m P ops K ((⟨dd, .fieldAddr xt x i,ty,pos,af,none⟩,kd)::rest) l):=h
theorem J.tx{x:Operand}{i:Nat}(h:J S0 w0 L (RY S0 w0 m P ops K ((⟨dd, .extract x i,ty,pos,af,none⟩,kd)::rest) l)):J S0 w0 L (RY S0 w0 m P ops K ((⟨dd, .extract x i,ty,pos,af,none⟩,kd)::rest) l):=h
theorem J.tc(bi:Builtin){args:Array Operand}{ts:Array TypeId}(h:J S0 w0 L (RY S0 w0 m P ops K ((⟨dd, .call {callee:= .builtin bi,args:=args,argTypes:=ts},ty,pos,af,none⟩,kd)::rest) l)):J S0 w0 L (RY S0 w0 m P ops K ((⟨dd, .call {callee:= .builtin bi,args:=args,argTypes:=ts},ty,pos,af,none⟩,kd)::rest) l):=h
theorem J.ti{xt:TypeId}{x y:Operand}(h:J S0 w0 L (RY S0 w0 m P ops K ((⟨dd, .indexAddr xt x y,ty,pos,af,none⟩,kd)::rest) l)):J S0 w0 L (RY S0 w0 m P ops K ((⟨dd, .indexAddr xt x y,ty,pos,af,none⟩,kd)::rest) l):=h
theorem J.tu{b:UnOp}{xt:TypeId}{x:Operand}(h:J S0 w0 L (RY S0 w0 m P ops K ((⟨dd, .unOp b xt x,ty,pos,af,none⟩,kd)::rest) l)):J S0 w0 L (RY S0 w0 m P ops K ((⟨dd, .unOp b xt x,ty,pos,af,none⟩,kd)::rest) l):=h
theorem J.tp{x y z:Operand}(h:J S0 w0 L (RY S0 w0 m P ops K ((⟨dd, .pick x y z,ty,pos,af,none⟩,kd)::rest) l)):J S0 w0 L (RY S0 w0 m P ops K ((⟨dd, .pick x y z,ty,pos,af,none⟩,kd)::rest) l):=h
theorem J.tv{xt yt:TypeId}{x:Operand}(h:J S0 w0 L (RY S0 w0 m P ops K ((⟨dd, .convert xt yt x,ty,pos,af,none⟩,kd)::rest) l)):J S0 w0 L (RY S0 w0 m P ops K ((⟨dd, .convert xt yt x,ty,pos,af,none⟩,kd)::rest) l):=h
theorem J.tq{xt:TypeId}{x:Operand}{lo hi:Option Operand}(h:J S0 w0 L (RY S0 w0 m P ops K ((⟨dd, .slice xt x lo hi none,ty,pos,af,none⟩,kd)::rest) l)):J S0 w0 L (RY S0 w0 m P ops K ((⟨dd, .slice xt x lo hi none,ty,pos,af,none⟩,kd)::rest) l):=h
theorem J.td{xt:TypeId}{ps:Array (Nat×Operand)}(h:J S0 w0 L (RY S0 w0 m P ops K ((⟨dd, .build xt ps,ty,pos,af,none⟩,kd)::rest) l)):J S0 w0 L (RY S0 w0 m P ops K ((⟨dd, .build xt ps,ty,pos,af,none⟩,kd)::rest) l):=h
theorem J.tg{op:Op}{j:Nat}{t:Bool}(h:J S0 w0 L (RY S0 w0 m P ops K ((⟨dd,op,ty,pos,af,some (j,t)⟩,kd)::rest) l)):J S0 w0 L (RY S0 w0 m P ops K ((⟨dd,op,ty,pos,af,some (j,t)⟩,kd)::rest) l):=h
theorem J.tr{op:Oper}(h:J S0 w0 L (RY S0 w0 m P ops K ((op,kd)::rest) l)):J S0 w0 L (RY S0 w0 m P ops K ((op,kd)::rest) l):=h
theorem ex{α:Type}(a:α):∃z,z=a:=⟨a,rfl⟩
structure Hold(q:Prop):Prop where out:q
theorem run {q : Prop} (k : q) (h : Hold q → J S0 w0 L X := by
 intro k
 repeat (first
  | (refine J.tr ?_; first
   | (refine J.tm ?_; refine J.mv rfl ?_)
   | (refine J.ta ?_; refine J.as rfl ?_)
   | (refine J.tf ?_; first | refine J.fl rfl rfl ?_ | refine J.flG rfl (by first | exact RG.own' | exact RG.arg (by assumption) | exact RG.row') ?_ | refine J.flGG rfl (by first | exact RG.own' | exact RG.arg (by assumption) | exact RG.row') ?_)
   | (refine J.tl ?_; first | refine J.ld rfl ?_ | refine J.lda rfl ?_ | refine J.ldI rfl (by first | exact RI.own' | exact RI.arg (by assumption) | exact RI.row') ?_ | refine J.ldW rfl (by first | exact RW.own' | exact RW.arg (by assumption) | exact RW.row') ?_ | refine J.ldG rfl (by first | exact RG.own' | exact RG.arg (by assumption) | exact RG.row') ?_ | refine J.ldGf rfl (by first | exact RG.own' | exact RG.arg (by assumption) | exact RG.row') ?_ | refine J.ldG1 rfl (by first | exact RG.own' | exact RG.arg (by assumption) | exact RG.row') ?_ | refine J.ldGa rfl (by first | exact RG.own' | exact RG.arg (by assumption) | exact RG.row') ?_ | refine J.ldp rfl ?_)
   | (refine J.tb .lss ?_; first | refine J.lt rfl rfl rfl ?_ | refine J.slt rfl rfl rfl ?_)
   | (refine J.tb .eql ?_; first | refine J.eq rfl rfl rfl ?_ | refine J.seq rfl rfl rfl ?_ | refine J.eqb rfl rfl rfl ?_ | refine J.eqI rfl rfl rfl ?_ | refine J.nilS rfl rfl rfl ?_)
   | (refine J.tb .neq ?_; first | refine J.ne rfl rfl rfl ?_ | refine J.sne rfl rfl rfl ?_ | refine J.neb rfl rfl rfl ?_ | refine J.neI rfl rfl rfl ?_)
   | (refine J.tb .add ?_; refine J.add rfl rfl rfl ?_)
   | (refine J.tb .geq ?_; first | refine J.ge rfl rfl rfl ?_ | refine J.sge rfl rfl rfl ?_)
   | (refine J.tb .gtr ?_; first | refine J.gt rfl rfl rfl ?_ | refine J.sgt rfl rfl rfl ?_)
   | (refine J.tb .leq ?_; first | refine J.le rfl rfl rfl ?_ | refine J.sle rfl rfl rfl ?_)
   | (refine J.tb .sub ?_; refine J.sub rfl rfl rfl ?_)
   | (refine J.tx ?_; refine J.ex rfl rfl ?_)
   | (refine J.tc .len ?_; first | refine J.ln rfl rfl ?_ | refine J.lns rfl rfl ?_)
   | (refine J.ti ?_; first | refine J.idxI rfl rfl (by first | exact RI.own' | exact RI.arg (by assumption) | exact RI.row') ?_ | refine J.idxW rfl rfl (by first | exact RW.own' | exact RW.arg (by assumption) | exact RW.row') ?_ | refine J.idxG rfl rfl (by first | exact RG.own' | exact RG.arg (by assumption) | exact RG.row') ?_ | refine J.idxS rfl rfl rfl ?_)
   | (refine J.ts ?_; first | refine J.st rfl ?_ | refine J.staw rfl rfl ?_ | refine J.sta rfl rfl ?_ | refine J.stI rfl rfl ?_)
   | (refine J.tg ?_; first | refine J.want rfl rfl rfl ?_ | refine J.skipg rfl rfl rfl rfl ?_ | refine J.skipu rfl rfl rfl ?_)
   | (refine J.tk ?_; refine J.nc rfl rfl ?_)
   | (refine J.tu ?_; refine J.not rfl rfl ?_)
   | (refine J.tp ?_; refine J.pk rfl rfl ?_)
   | (refine J.tv ?_; refine J.cv rfl rfl ?_)
   | (refine J.td ?_; first | refine J.bd rfl ?_ | refine J.bs rfl rfl ?_)
   | (refine J.tq ?_; first | refine J.slT rfl rfl rfl ?_ | refine J.slP rfl rfl rfl ?_ | refine J.sl rfl rfl rfl rfl ?_ | refine J.slA rfl rfl ?_)
   | (refine J.tc .cap ?_; refine J.cp rfl rfl ?_)
   | (refine J.tz ?_; refine J.fz rfl rfl ?_)
   | (refine J.tc .max ?_; refine J.mx rfl rfl rfl ?_)
   | (refine J.tb .shr ?_; refine J.shr rfl rfl rfl ?_)
   | (refine J.tb .mul ?_; refine J.mul rfl rfl rfl ?_)
   | (refine J.tb .quo ?_; refine J.quo rfl rfl rfl ?_)
   | (refine J.tb .rem ?_; refine J.rem rfl rfl rfl ?_))
  | refine J.nilN ?_
  | refine J.thn ?_
  | refine J.sq ?_
  | refine J.region ?_
  | refine J.ift rfl ?_
  | refine J.iff rfl ?_
  | refine J.block ?_
  | refine J.skip ?_
  | refine J.exit ?_
  | refine J.the ?_
  | refine J.ibe ?_
  | refine J.ibn ?_
  | refine J.ibx rfl ?_
  | refine J.retc ?_
  | refine J.thr ?_
  | refine J.ibr ?_
  | refine J.retN ?_
  | (refine J.tret ?_; first | refine J.ret1 rfl ?_ | refine J.ret2 rfl ?_ | refine J.ret3 rfl ?_ | refine J.ret4 rfl ?_ | refine J.ret0 rfl ?_)
  | refine J.tfin ?_
  | refine J.tbr ?_
  | (refine J.nil ?_; refine J.kr ?_))
 exact k.out) : J S0 w0 L X := h ⟨k⟩
end
end G
namespace W
open Go.RowKit G
theorem tup2{a a' b b':Value}(h:a=a')(k:b=b'):Value.tuple #[a,b]= .tuple #[a',b']:=by rw[h,k]
theorem beq_dec{a b:Int}{p:Prop}[Decidable p](h:a=b↔p):(a==b)=decide p:=by rw[Bool.eq_iff_iff];simpa using h
structure OpA where
 (o:S.OpV)(pa:Option Addr)(pc:Nat)
@[reducible] def opC(z:OpA):List Value:=[.int .u32 z.o.au, .slice z.pa z.o.n z.pc, .int .u64 z.o.st, .int .u8 z.o.k, .string z.o.key, .int .u8 z.o.vk, .int .i64 z.o.num, .int .u64 z.o.bits, .string z.o.t, .int .u32 z.o.e, .int .u32 z.o.s]
@[reducible] def opI(z:OpA):List Inn:=[⟨.u8,32,z.pa,z.o.n,z.pc,z.o.ids⟩]
structure OpR(S0:Nat→Prop)(w:World)(z:OpA):Prop where
 ok:z.o.ok
 row:WRow .u8 32 S0 w z.pa z.o.n z.o.ids
 cap:z.o.n≤z.pc
structure GrA where
 (ia oa:Option Addr)(m n ic oc:Nat)(ids:List Int)(zs:List OpA)
@[reducible] def grC(g:GrA):List Value:=[.slice g.ia g.m g.ic, .slice g.oa g.n g.oc]
def GrA.ops(g:GrA):List S.OpV:=g.zs.map OpA.o
structure GrR(S0:Nat→Prop)(w:World)(g:GrA):Prop where
 ids:WRow .u8 32 S0 w g.ia g.m g.ids
 ops:GRow opC 11 S0 w g.oa g.n g.zs
 inn:Inns opI S0 w g.zs
 ok:∀z∈g.zs,z.o.ok
 cap:g.m≤g.ic∧g.n≤g.oc∧g.m≤70∧g.n≤70
section
variable{S0:Nat→Prop}{w w':World}{z:OpA}{g:GrA}
theorem OpR.ext(h:OpR S0 w z)(x:Ext w w'):OpR S0 w' z:=⟨h.ok,h.row.ext x,h.cap⟩
theorem GrR.ext(h:GrR S0 w g)(x:Ext w w'):GrR S0 w' g:=⟨h.ids.ext x,h.ops.ext x,h.inn.ext x,h.ok,h.cap⟩
theorem GrR.op(h:GrR S0 w g){i:Nat}(hz:g.zs[i]? =some z):OpR S0 w z:=
 have hm:=List.mem_of_getElem? hz;have h1:=h.inn z hm ⟨.u8,32,z.pa,z.o.n,z.pc,z.o.ids⟩ (List.mem_singleton.2 rfl)
 ⟨h.ok z hm,h1.1,h1.2⟩
theorem GrR.len(h:GrR S0 w g):g.ops.length=g.n:=(List.length_map _).trans h.ops.len
theorem GrA.opAt{i:Nat}(hz:g.zs[i]? =some z):g.ops.getD i S.OpV.zero=z.o:=by
 unfold GrA.ops;rw[List.getD_eq_getElem?_getD,List.getElem?_map,hz];rfl
end
end W
namespace W
open Go.RowKit G
set_option maxRecDepth 20000
set_option maxHeartbeats 8000000
attribute [local irreducible] RS RX RY Code.wp bodyPost J Ent.blk Ent.iown Ent.wrow Ent.wown Ent.gown Ent.all Ent.emp
instance:Und prog 23 (.slice 29):=⟨underlying23⟩
instance:Und prog 3 (.int .i64):=⟨underlying3⟩
instance:Und prog 225 (.int .u64):=⟨underlying225⟩
instance:Siz prog 29 32:=⟨by kernel_rfl⟩
instance:Agg prog 29 32:=⟨_,underlying29,rfl,by kernel_rfl⟩
instance:Und prog 29 (.array 32 5):=⟨underlying29⟩
instance:Ents prog 115:=⟨.mk func115 (by kernel_rfl) rfl⟩
instance:Fld prog 57 0 0:=⟨_,_,1,underlying57,rfl,by kernel_rfl,by decide,rfl⟩
instance:Sca prog 23:=⟨_,underlying23,rfl⟩
instance:Ents prog 114:=⟨.mk func114 (by kernel_rfl) rfl⟩
theorem bsID{S0:Nat→Prop}(a:Option Addr)(n c:Nat)(ids x:List Int)(w:World)(D0:WRow .u8 32 S0 w a n ids)(hx:Arr .u8 32 x)(hr:S.Rising n ids)(hn:n≤70):
  Calls prog 114 #[.slice a n c, .agg (ints .u8 x).toArray, .func (.func 115) #[] #[]] w (Ret w fun v _=>v= .tuple #[.int .i64 (S.spotS n ids x:Nat), .bool (decide (S.inS n ids x))]):=by
 refine J.enter 46 func114 rfl rfl ?_;refine run ?_;refine J.box rfl rfl rfl fun b1=>?_
 refine run ?_;refine J.loopS (A:=Int×Int) (fun p=>[(9, .int .i64 p.1),(10, .int .i64 p.2)]) [11,15,16,17,18,19,20,21,22,23,24,25,26,27,28,29,30,31,32,33,34] (fun p=>S.HalfC n (fun i=>S.cmpS (S.idAt ids i) x) p.1 p.2) (fun p=>(p.2 - p.1).toNat) (0,n) (by kernel_rfl) (S.HalfC.first _ _) (fun p j hI=>?_);have hh:=hI.r;refine run ?_;refine J.ifd rfl (fun c1=>?_) (fun c1=>?_)
 ·refine run ?_;refine J.regionX [(0, .q),(1, .q),(2, .q),(3, .q),(4, .q),(5, .q),(6, .e),(7, .q)] mixed (by kernel_rfl) ?_;refine run ?_;refine J.callvp rfl rfl rfl (fun w' M=>dcmp _ _ (D0.elt_arr (by omega)) hx w') ?_;refine run ?_;refine J.ifd rfl (fun c2=>?_) (fun c2=>?_)
  ·refine run ?_;exact J.nextS ((p.1+p.2) / 2+1,p.2) ⟨rfl,rfl,trivial⟩ (by kernel_rfl) (hI.up (S.mono_ids hr) (by omega) (by omega) c2) (by dsimp only;omega)
  refine run ?_;exact J.nextS (p.1,(p.1+p.2) / 2) ⟨rfl,rfl,trivial⟩ (by kernel_rfl) (hI.down (S.mono_ids hr) (by omega) (by omega) c2) (by dsimp only;omega)
 have he:p.1=(S.spotS n ids x:Nat):=hI.spot c1;have hs:=S.spotS_has (x:=x) hr;refine run ?_;refine J.regionX [(0, .q),(1, .q),(2, .q),(3, .q),(4, .q),(5, .q),(6, .q),(7, .q),(8, .q),(9, .q),(10, .q),(11, .e),(12, .q),(13, .q),(14, .q),(15, .q)] mixed (by kernel_rfl) ?_;refine run ?_;refine J.spd rfl rfl rfl (fun c2=>?_) (fun c2=>?_)
 ·refine run ?_;refine J.callvp rfl rfl rfl (fun w' M=>dcmp _ _ (D0.elt_arr (by omega)) hx w') ?_;refine run ?_;refine J.fin ?_;rw[he];exact tup2 rfl (congrArg _ (beq_dec ⟨fun h=>hs.2 ⟨by omega,h⟩,fun h=>(hs.1 h).2⟩))
 refine run ?_;refine J.fin ?_;rw[he];exact tup2 rfl (congrArg _ (decide_eq_false fun h=>by have:=(hs.1 h).1;omega).symm)
theorem dagFind{S0:Nat→Prop}(g:GrA)(x:List Int)(w:World)(D0:WRow .u8 32 S0 w g.ia g.m g.ids)(hx:Arr .u8 32 x)(hr:S.Rising g.m g.ids)(hn:g.m≤70):
  Calls prog 200 #[.agg (grC g).toArray, .agg (ints .u8 x).toArray] w (Ret w fun v _=>v= .tuple #[.int .i64 (S.spotS g.m g.ids x:Nat), .bool (decide (S.inS g.m g.ids x))]):=by
 refine J.enter 10 func200 rfl rfl ?_;refine run ?_;refine J.box rfl rfl rfl fun b1=>?_
 refine run ?_;refine J.box rfl rfl rfl fun b2=>?_
 refine run ?_;refine J.callp rfl rfl (fun w' M=>bsID _ _ _ _ _ _ (D0.ext M.ext) hx hr hn) ?_;refine run ?_;exact J.fin rfl
instance:Fld prog 57 1 1:=⟨_,_,1,underlying57,rfl,by kernel_rfl,by decide,rfl⟩
instance:Sca prog 55:=⟨_,underlying55,rfl⟩
instance:Und prog 55 (.slice 39):=⟨underlying55⟩
instance:Und prog 200 (.slice 3):=⟨underlying200⟩
instance:Inf prog 3 1 8 [.int .i64 0]:=⟨TI.of (v:= .int .i64 0) (by kernel_rfl) rfl⟩
instance:Siz prog 3 1:=⟨by kernel_rfl⟩
instance:Und prog 256 (.slice 200):=⟨underlying256⟩
instance:Inf prog 200 1 24 [.slice none 0 0]:=⟨TI.of (v:= .slice none 0 0) (by kernel_rfl) rfl⟩
instance:Siz prog 200 1:=⟨by kernel_rfl⟩
instance:Siz prog 39 11:=⟨by kernel_rfl⟩
instance:Agg prog 39 11:=⟨_,underlying39,rfl,by kernel_rfl⟩
instance:Inf prog 39 11 112 [.int .u32 0, .slice none 0 0, .int .u64 0, .int .u8 0, .string .empty, .int .u8 0, .int .i64 0, .int .u64 0, .string .empty, .int .u32 0, .int .u32 0]:=⟨TI.of (v:= .agg #[.int .u32 0, .slice none 0 0, .int .u64 0, .int .u8 0, .string .empty, .int .u8 0, .int .i64 0, .int .u64 0, .string .empty, .int .u32 0, .int .u32 0]) (by kernel_rfl) rfl⟩
instance:Fld prog 39 1 1:=⟨_,_,1,underlying39,rfl,by kernel_rfl,by decide,rfl⟩
instance:Inf prog 29 32 32 (ints .u8 (List.replicate 32 0)):=⟨TI.of (v:= .agg ((ints .u8 (List.replicate 32 0))).toArray) (by kernel_rfl) rfl⟩
instance:Agg prog 57 2:=⟨_,underlying57,rfl,by kernel_rfl⟩
instance:Ents prog 200:=⟨.mk func200 (by kernel_rfl) rfl⟩
instance:Sca prog 200:=⟨_,underlying200,rfl⟩
instance:Sca prog 3:=⟨_,underlying3,rfl⟩
structure ShP where
 (i:Int)(ws rs:List Int)(qs:List Pc)(a:Option Addr)(n c:Nat)
theorem dagShape{S0:Nat→Prop}(g:GrA)(w:World)(G:GrR S0 w g)(he:g.m=g.n)(hn:g.n≤60):
  Calls prog 152 #[.agg (grC g).toArray] w (Ret w fun v _=>v= .int .i64 (S.shapeS g.m g.ids g.ops)):=by
 have D0:=G.ids;have G0:=G.ops;have hl:=G.len;obtain⟨P,hP⟩:=ex (S.prS g.m g.ids g.ops);have hPl:∀i,(P i).length=(g.ops.getD i S.OpV.zero).n:=fun i=>by rw[hP,S.prS_len]
 have hPg:∀i j,j<(g.ops.getD i S.OpV.zero).n→(P i).getD j 0=S.ixS g.m g.ids (S.idAt (g.ops.getD i S.OpV.zero).ids j):=fun i j h=>by rw[hP,S.prS_get _ _ _ _ _ h]
 have hn20:∀i,(g.ops.getD i S.OpV.zero).n≤40:=fun i=>by
  rw[List.getD_eq_getElem?_getD];cases h:g.ops[i]? with
  |none=>exact Nat.zero_le _
  |some o=>
   unfold GrA.ops at h;rw[List.getElem?_map]at h;obtain⟨z,hz,rfl⟩:=Option.map_eq_some_iff.1 h;exact(G.ok z (List.mem_of_getElem? hz)).n
 refine J.enter 132 func152 rfl rfl ?_;refine run ?_;refine J.box rfl rfl rfl fun b1=>?_
 refine run ?_;refine J.loopS (A:=Int) (fun p=>[(3, .int .i64 p)]) [2,16,17,18,19,20,21,22,23,24,25,26,27,28,29,30,31,32,33,34,35] (fun p=>1≤p∧(p≤g.m∨p=1)∧S.RisS g.ids p.toNat) (fun p=>(g.m+1 - p).toNat) 1 (by kernel_rfl) ⟨by decide, .inr rfl,fun k hk=>by omega⟩ (fun p j hI=>?_);obtain⟨h1,h2,h3⟩:=hI;refine run ?_;refine J.ifd rfl (fun c1=>?_) (fun c1=>?_)
 ·refine run ?_;refine J.regionX [(0, .q),(1, .q),(2, .q),(3, .q),(4, .q),(5, .q),(6, .q),(7, .q),(8, .q),(9, .q),(10, .q),(11, .e),(12, .q)] mixed (by kernel_rfl) ?_;refine run ?_;refine J.callp rfl rfl (fun w' M=>dcmp _ _ (D0.elt_arr (by omega)) (D0.elt_arr (by omega)) w') ?_;refine run ?_;have e:p.toNat=(p - 1).toNat+1:=by omega
  refine J.ifd rfl (fun c2=>?_) (fun c2=>?_)
  ·refine run ?_;refine J.fin ?_;rw[S.shape_32 (i:=(p - 1).toNat) (by omega) (by rw[e]at c2;exact c2)]
  refine run ?_;refine J.nextS (p+1) ⟨rfl,trivial⟩ (by kernel_rfl) ⟨by omega, .inl (by omega),fun k hk=>?_⟩ (by omega);by_cases hk2:k+1<p.toNat
  ·exact h3 k hk2
  obtain rfl:k=(p - 1).toNat:=by omega
  rw[e]at c2;exact Int.not_le.1 c2
 have hr:S.Rising g.m g.ids:=fun i hi=>h3 i (by omega);refine run ?_;refine J.mkI rfl rfl rfl fun bw=>?_
 refine run ?_;refine J.mkG pcC default (fun _=>rfl) rfl rfl rfl rfl fun bb=>?_
 refine run ?_;refine J.nilI 3 .i64 ?_;refine J.newA ((List.replicate g.n default).map (pcE 3 .i64)) ?_ fun w=>sep_nils _ _ _ _;refine J.loop (A:=ShP) (fun p=>[(6, .slice p.a p.n p.c),(47, .int .i64 p.i)]) [2,7,8,10,11,12,48,49,50,51,52,53,54,55,56,57,58,59,60,61,62,63,64,65,66,67,68,69,70,71,72,73,74,75,76,77,78,79,80,81,82,83,84,85,86,87,88,89,90,91,92,93] (fun p=>[.all (p.qs.map (pcE 3 .i64)), .iown 3 .i64 p.a p.n p.c p.rs, .gown pcC 1 200 (some ⟨bb,0,none⟩) g.n g.n p.qs, .iown 3 .i64 (some ⟨bw,0,none⟩) g.n g.n p.ws, .blk b1 (grC g) 57])
  (fun p=>(0≤p.i∧p.i≤g.n)∧S.ShQ P g.n p.i.toNat 0 p.qs∧S.ShW P g.n p.i.toNat p.ws∧p.rs=S.castL (S.zeroP P p.i.toNat)∧p.n=p.rs.length∧∀k,k<p.i.toNat→S.allI g.m g.ids (g.ops.getD k S.OpV.zero).n (g.ops.getD k S.OpV.zero).ids)
  (fun p=>g.n - p.i.toNat) ⟨0,List.replicate g.n 0,[],List.replicate g.n default,none,0,0⟩ (by kernel_rfl) ⟨by dsimp only;omega,S.ShQ.first _ _,S.ShW.first _ _,rfl,rfl,fun k hk=>by simp at hk⟩ (fun p j hI=>?_)
 obtain⟨i1,iq,iw,ir,il,io⟩:=hI;refine run ?_;refine J.ifd rfl (fun c2=>?_) (fun c2=>?_)
 ·obtain⟨z,hz⟩:=G0.ex (i:=p.i) (by omega);have R:=G.op hz;have hzo:=GrA.opAt hz;have h20:=R.ok.n;have hPz:=hPl p.i.toNat;rw[hzo]at hPz;refine run ?_;refine J.alloc rfl fun b2=>?_
  refine run ?_;refine J.loop (A:=Int×List Pc) (fun p2=>[(55, .int .i64 p2.1)]) [2,10,11,12,56,57,58,59,60,61,62,63,64,65,66,67,68,69,70,71,72,73,74,75,76,77] (fun p2=>[.blk b2 (opC z) 39, .all (p2.2.map (pcE 3 .i64)), .iown 3 .i64 p.a p.n p.c p.rs, .gown pcC 1 200 (some ⟨bb,0,none⟩) g.n g.n p2.2, .iown 3 .i64 (some ⟨bw,0,none⟩) g.n g.n p.ws, .blk b1 (grC g) 57])
   (fun p2=>(0≤p2.1∧p2.1≤z.o.n)∧S.ShQ P g.n p.i.toNat p2.1.toNat p2.2∧∀k,k<p2.1.toNat→S.inS g.m g.ids (S.idAt z.o.ids k)) (fun p2=>z.o.n - p2.1.toNat) (0,p.qs) (by kernel_rfl) ⟨by dsimp only;omega,iq,fun k hk=>by simp at hk⟩ (fun p2 j2 hI2=>?_)
  obtain⟨k1,kq,ki⟩:=hI2;have D1:=R.row;refine run ?_;refine J.ifd rfl (fun c3=>?_) (fun c3=>?_)
  ·refine run ?_;refine J.alloc rfl fun b3=>?_
   have hx:=D1.elt_arr (i:=p2.1.toNat) (by omega);refine run ?_;refine J.callp rfl rfl (fun w' M=>dagFind g _ w' (D0.ext M.ext) hx hr (by omega)) ?_;refine run ?_;refine J.ifnot rfl (fun c4=>?_) (fun c4=>?_)
   ·refine run ?_;refine J.fin ?_;rw[S.shape_40 (i:=p.i.toNat) (j:=p2.1.toNat) hr (by omega) (by rw[hzo];omega) (by rw[hzo];exact of_decide_eq_false c4)]
   have hin:=of_decide_eq_true c4;have hlt:=((S.spotS_has hr).1 hin).1;have hat:=S.spotS_ix hr hin;obtain⟨q,hq⟩:=kq.get (a:=S.spotS g.m g.ids (elt 32 z.o.ids p2.1.toNat)) (by omega);refine run ?_;refine J.b1 rfl rfl fun b4=>?_
   refine J.openP 3 .i64 p2.2 hq ?_;have hbl:=S.behJ_len P p.i.toNat p2.1.toNat (S.spotS g.m g.ids (elt 32 z.o.ids p2.1.toNat)) 40 (fun i=>by rw[hPl];exact hn20 i);have hqx:=kq.xs _ _ hq;have hqn:q.n≤40*61:=by
    rw[hqx.2,hqx.1,S.castL_len];have:p.i.toNat+1≤61:=by omega
    omega
   refine J.apI rfl rfl RI.own' fun a' c'=>?_
   refine run ?_;refine J.stG1 rfl rfl (q:=⟨a',q.n+1,c',q.xs++[p.i]⟩) rfl ?_;refine J.shutP 3 .i64 p2.2 (S.spotS g.m g.ids (elt 32 z.o.ids p2.1.toNat)) ⟨a',q.n+1,c',q.xs++[p.i]⟩ (by rw[kq.len];omega) ?_;refine run ?_;refine J.next (p2.1+1,p2.2.set (S.spotS g.m g.ids (elt 32 z.o.ids p2.1.toNat)) ⟨a',q.n+1,c',q.xs++[p.i]⟩) ⟨rfl,trivial⟩ (by kernel_rfl) ?_ (by dsimp only;omega);have e1:(p2.1+1).toNat=p2.1.toNat+1:=by omega
   have e2:p.i=(p.i.toNat:Nat):=by omega
   refine⟨by dsimp only;omega,?_,fun k hk=>?_⟩
   ·dsimp only;rw[e1,e2];exact kq.step (by omega) hq (by rw[hPg _ _ (by rw[hzo];omega),hzo];exact hat) a' c'
   dsimp only at hk;rcases Nat.lt_or_ge k p2.1.toNat with h|h
   ·exact ki k h
   obtain rfl:k=p2.1.toNat:=by omega
   exact hin
  have hj:(P p.i.toNat).length≤p2.1.toNat:=by omega
  have e1:(p.i+1).toNat=p.i.toNat+1:=by omega
  have e2:((P p.i.toNat).length:Int)=z.o.n:=by omega
  have hws:=iw.step (by omega);rw[e2]at hws;have hzs:=S.zeroP_succ P p.i.toNat;have hop:∀k,k<p.i.toNat+1→S.allI g.m g.ids (g.ops.getD k S.OpV.zero).n (g.ops.getD k S.OpV.zero).ids:=fun k hk=>by
   rcases Nat.lt_or_ge k p.i.toNat with h|h
   ·exact io k h
   obtain rfl:k=p.i.toNat:=by omega
   rw[hzo];exact fun j hj=>ki j (by omega)
  refine run ?_;have hg:=S.set_get p.ws p.i.toNat p.i.toNat (z.o.n:Int) (by rw[iw.len];omega);rw[if_pos rfl]at hg;have hzl:(S.zeroP P p.i.toNat).length≤p.i.toNat:=by
   have:=List.length_filter_le (fun k=>decide ((P k).length=0)) (List.range p.i.toNat);rw[List.length_range]at this;exact this
  have hpl:p.n≤60:=by rw[il,ir,S.castL_len];omega
  refine J.ife rfl (fun c4=>?_) (fun c4=>?_)
  ·rw[hg]at c4;refine run ?_;refine J.b1 rfl rfl fun b4=>?_
   refine J.apI rfl rfl RI.own' fun a' c'=>?_
   refine run ?_;refine J.next ⟨p.i+1,p.ws.set p.i.toNat z.o.n,p.rs++[p.i],p2.2,a',p.n+1,c'⟩ ⟨rfl,rfl,trivial⟩ (by kernel_rfl) ?_ (by dsimp only;omega);dsimp only;rw[e1];refine⟨by omega,kq.next hj,hws,?_,by rw[il];simp,hop⟩;rw[hzs,if_pos (by omega),S.castL_snoc,ir];congr 2;omega
  rw[hg]at c4;refine run ?_;refine J.next ⟨p.i+1,p.ws.set p.i.toNat z.o.n,p.rs,p2.2,p.a,p.n,p.c⟩ ⟨rfl,rfl,trivial⟩ (by kernel_rfl) ?_ (by dsimp only;omega);dsimp only;rw[e1];exact⟨by omega,kq.next hj,hws,by rw[hzs,if_neg (by omega),ir],il,hop⟩
 have ei:p.i.toNat=g.n:=by omega
 rw[ei]at iq iw ir io;have K0:=iw.kahn;have hop:S.opensS g.m g.ids g.ops:=fun k hk=>io k (by omega);refine run ?_;refine J.loop (A:=ShP) (fun p=>[(6, .slice p.a p.n p.c),(13, .int .i64 p.i)]) [15,94,95,96,97,98,99,100,101,102,103,104,105,106,107,108,109,110,111,112,113,114,115,116,117,118,119,120,121,122,123,124,125,126,127] (fun p'=>[.all (p.qs.map (pcE 3 .i64)), .iown 3 .i64 p'.a p'.n p'.c p'.rs, .gown pcC 1 200 (some ⟨bb,0,none⟩) g.n g.n p.qs, .iown 3 .i64 (some ⟨bw,0,none⟩) g.n g.n p'.ws, .blk b1 (grC g) 57])
  (fun p'=>0≤p'.i∧p'.ws.length=g.n∧∃rd,p'.rs=S.castL rd∧p'.n=rd.length∧S.Kahn P g.n (S.wtS p'.ws) rd p'.i.toNat) (fun p'=>g.n - p'.i.toNat) ⟨0,p.ws,p.rs,[],p.a,p.n,p.c⟩ (by kernel_rfl) ⟨Int.le_refl _,iw.len,_,ir,by rw[il,ir,S.castL_len],K0⟩ (fun p3 j3 hI3=>?_)
 obtain⟨m1,m2,rd,m3,m4,m5⟩:=hI3;have m6:=m5.le;have m7:=m5.dl;refine run ?_;refine J.ifd rfl (fun c3=>?_) (fun c3=>?_)
 ·have hd:p3.i.toNat<rd.length:=by omega
  obtain⟨r0,hr0⟩:=ex (p3.rs.getD p3.i.toNat 0);obtain⟨kk,hkk⟩:=ex (rd.getD p3.i.toNat 0);have hv:r0=kk:=by rw[hr0,m3,S.castL_get,hkk]
  have hkn:kk<g.n:=by rw[hkk];exact m5.lt _ (S.getD_mem hd)
  have hrk:r0.toNat=kk:=by omega
  obtain⟨q,hq⟩:=iq.get hkn;have hqx:=iq.xs _ _ hq;rw[S.behJ_zero]at hqx;have hql:q.n=(S.behS P g.n kk).length:=by rw[hqx.2,hqx.1,S.castL_len]
  have hqb:=S.behJ_len P g.n 0 kk 40 (fun i=>by rw[hPl];exact hn20 i);rw[S.behJ_zero]at hqb;have hq':p.qs[r0.toNat]? =some q:=by rw[hrk];exact hq
  have hr1:0≤r0∧r0<g.n:=by omega
  refine run ?_;refine J.loop (A:=ShP) (fun p=>[(6, .slice p.a p.n p.c),(108, .int .i64 p.i)]) [15,109,110,111,112,113,114,115,116,117,118,119,120,121,122,123,124,125,126,127] (fun p'=>[.all (p.qs.map (pcE 3 .i64)), .iown 3 .i64 p'.a p'.n p'.c p'.rs, .gown pcC 1 200 (some ⟨bb,0,none⟩) g.n g.n p.qs, .iown 3 .i64 (some ⟨bw,0,none⟩) g.n g.n p'.ws, .blk b1 (grC g) 57])
   (fun p'=>(0≤p'.i∧p'.i≤q.n)∧p'.ws.length=g.n∧∃rd,p'.rs=S.castL rd∧p'.n=rd.length∧S.KahnI P g.n (S.wtS p'.ws) rd p3.i.toNat p'.i.toNat∧kk=rd.getD p3.i.toNat 0) (fun p'=>q.n - p'.i.toNat) ⟨0,p3.ws,p3.rs,[],p3.a,p3.n,p3.c⟩ (by kernel_rfl) ⟨by dsimp only;omega,m2,rd,m3,m4,m5.enter hd,hkk⟩ (fun p4 j4 hI4=>?_)
  obtain⟨n1,n2,rd4,n3,n4,n5,n6⟩:=hI4;have n7:=n5.le;refine run ?_;refine J.ifd rfl (fun c4=>?_) (fun c4=>?_)
  ·obtain⟨x,hx⟩:=ex (q.xs.getD p4.i.toNat 0);have hxk:x=((S.behS P g.n kk).getD p4.i.toNat 0:Nat):=by rw[hx,hqx.1,S.castL_get]
   have ht:p4.i.toNat<(S.behS P g.n (rd4.getD p3.i.toNat 0)).length:=by rw[←n6];omega
   have hk0:x.toNat=(S.behS P g.n (rd4.getD p3.i.toNat 0)).getD p4.i.toNat 0:=by rw[←n6];omega
   obtain⟨o1,o2⟩:=n5.told ht hk0;have o3:=n5.down n2 ht hk0;obtain⟨wv,hwv⟩:=ex (p4.ws.getD x.toNat 0);have hwt:S.wtS p4.ws x.toNat=wv.toNat:=by rw[hwv];rfl
   have hx0:0≤x∧x<g.n:=by omega
   refine run ?_;refine J.idxI rfl rfl (RI.all (e:=3) (k:= .i64) hq) ?_;refine J.ldI rfl (RI.all (e:=3) (k:= .i64) hq) ?_;refine J.fact (.iown 3 .i64 (some ⟨bw,0,none⟩) g.n g.n p4.ws) (fun S w=>iown_bd) fun hbd=>?_
   have hwb:=hbd.get x.toNat;simp only[lim]at hwb;have hg:=S.set_get p4.ws x.toNat x.toNat (wv - 1) (by omega);rw[if_pos rfl]at hg;rw[←hwv]at hwb o3;have hdl:=n5.dl;refine run ?_;refine J.ife rfl (fun c5=>?_) (fun c5=>?_)
   ·rw[hg]at c5;rw[if_pos c5]at o3;refine run ?_;refine J.b1 rfl rfl fun b4=>?_
    refine J.apI rfl rfl RI.own' fun a' c'=>?_
    refine run ?_;refine J.next ⟨p4.i+1,p4.ws.set x.toNat (wv - 1),p4.rs++[x],[],a',p4.n+1,c'⟩ ⟨rfl,rfl,trivial⟩ (by kernel_rfl) ?_ (by dsimp only;omega);dsimp only;rw[show(p4.i+1).toNat=p4.i.toNat+1 by omega];refine⟨by omega,by rw[List.length_set];exact n2,rd4++[x.toNat],?_,by simp;exact n4,o3,?_⟩
    ·rw[S.castL_snoc,n3,show((x.toNat:Nat):Int)=x by omega]
    rw[S.getD_snoc,if_pos hdl];exact n6
   rw[hg]at c5;rw[if_neg c5]at o3;refine run ?_;refine J.next ⟨p4.i+1,p4.ws.set x.toNat (wv - 1),p4.rs,[],p4.a,p4.n,p4.c⟩ ⟨rfl,rfl,trivial⟩ (by kernel_rfl) ?_ (by dsimp only;omega);dsimp only;rw[show(p4.i+1).toNat=p4.i.toNat+1 by omega];exact⟨by omega,by rw[List.length_set];exact n2,rd4,n3,n4,o3,n6⟩
  have hlv:=n5.leave (by rw[←n6];omega);refine run ?_;refine J.next ⟨p3.i+1,p4.ws,p4.rs,[],p4.a,p4.n,p4.c⟩ ⟨rfl,rfl,trivial⟩ (by kernel_rfl) ?_ (by dsimp only;omega);dsimp only;rw[show(p3.i+1).toNat=p3.i.toNat+1 by omega];exact⟨by omega,n2,rd4,n3,n4,hlv⟩
 have hf:=m5.last (by omega);rw[hP,←hl]at hf;have hse:=S.shape_end hr hop hf;refine run ?_;refine J.ifd rfl (fun c4=>?_) (fun c4=>?_)
 ·refine run ?_;refine J.fin ?_;rw[hse,if_pos (by omega)]
 refine run ?_;refine J.fin ?_;rw[hse,if_neg (by omega)]
instance:Ents prog 41:=⟨.mk func41 (by kernel_rfl) rfl⟩
instance:Und prog 5 (.int .u8):=⟨underlying5⟩
instance:Siz prog 5 1:=⟨by kernel_rfl⟩
instance:Ents prog 82:=⟨.mk func82 (by kernel_rfl) rfl⟩
instance:Ents prog 152:=⟨.mk func152 (by kernel_rfl) rfl⟩
theorem dagCheck{S0:Nat→Prop}(g:GrA)(TK:TypeId)(w:World)(K0:Kst w TK)(G:GrR S0 w g):
  Calls prog 101 #[.agg (grC g).toArray] w (Ret w fun v _=>v= .int .i64 (S.chkG g.m g.ids g.ops)):=by
 have D0:=G.ids;have G0:=G.ops;have hl:=G.len;have hcp:=G.cap;refine J.enter 49 func101 rfl rfl ?_;refine run ?_;refine J.box rfl rfl rfl fun b1=>?_
 refine run ?_;refine J.ifd rfl (fun c=>?_) (fun c=>?_)
 ·refine run ?_;refine J.fin ?_;unfold S.chkG;rw[if_pos (by omega)]
 refine run ?_;refine J.ifn rfl (fun c2=>?_) (fun c2=>?_)
 ·refine run ?_;refine J.fin ?_;unfold S.chkG;rw[if_neg (by omega),if_pos (by omega)]
 refine run ?_;have h8:∀i,i<g.n→¬S.ownS (g.ops.getD i S.OpV.zero) (S.idAt g.ids i)→(8:Int)=S.chkG g.m g.ids g.ops:=fun i hi h=>by
  unfold S.chkG;rw[if_neg (by omega),if_neg (by omega),if_pos fun ho=>h (ho i (by omega))]
 refine J.loopS (A:=Int) (fun p=>[(21, .int .i64 p)]) [2,3,4,5,6,22,23,24,25,26,27,28,29,30,31,32,33,34,35,36,37,38,39,40,41,42,43,44,45,46,47] (fun p=>(0≤p∧p≤g.n)∧∀i,i<p.toNat→S.ownS (g.ops.getD i S.OpV.zero) (S.idAt g.ids i)) (fun p=>g.n - p.toNat) 0 (by kernel_rfl) ⟨by omega,fun i hi=>by omega⟩ (fun p j hI=>?_);obtain⟨h1,hI⟩:=hI;refine run ?_;refine J.ifd rfl (fun c3=>?_) (fun c3=>?_)
 ·obtain⟨z,hz⟩:=G0.ex (i:=p) (by omega);have R:=G.op hz;have hzo:=GrA.opAt hz;have hsa:=S.idX_arr z.o;refine run ?_;refine J.alloc rfl fun b2=>?_
  refine run ?_;refine J.callp rfl rfl (fun w' M=>idO z.o R.ok _ _ _ _ (K0.ext M.ext) (R.row.ext M.ext) R.cap) ?_;refine run ?_;refine J.alloc rfl fun b3=>?_
  refine run ?_;refine J.regionX [(0, .q),(1, .q),(2, .q),(3, .q),(4, .q),(5, .q),(6, .q),(7, .q),(8, .q),(9, .q),(10, .q),(11, .q),(12, .q),(13, .e),(14, .q),(15, .q)] mixed (by kernel_rfl) ?_;refine run ?_;have h9:¬S.ownS z.o (S.idAt g.ids p.toNat)→(8:Int)=S.chkG g.m g.ids g.ops:=fun h=>h8 p.toNat (by omega) (by rw[hzo];exact h);refine J.spn rfl rfl rfl (fun c4=>?_) (fun c4=>?_)
  ·refine run ?_;refine J.fin (congrArg _ (h9 fun h=>c4 (S.verE_check h.1)))
  refine run ?_;refine J.spd rfl rfl rfl (fun c5=>?_) (fun c5=>?_)
  ·refine run ?_;refine J.fin (congrArg _ (h9 fun h=>c5 ?_));rw[if_pos c4];exact h.2
  rw[if_pos c4]at c5;refine run ?_;refine J.callp rfl rfl (fun w' M=>verifyO z.o R.ok _ _ _ _ (K0.ext M.ext) (R.row.ext M.ext) R.cap) ?_;refine run ?_;refine J.ifn rfl (fun c6=>?_) (fun c6=>?_)
  ·refine run ?_;exact J.fin (congrArg _ (h9 fun h=>c6 h.1))
  refine run ?_;refine J.nextS (p+1) ⟨rfl,trivial⟩ (by kernel_rfl) ⟨by omega,fun i hi=>?_⟩ (by omega);rcases Nat.lt_or_ge i p.toNat with h|h
  ·exact hI i h
  obtain rfl:i=p.toNat:=by omega
  rw[hzo];exact⟨c6,Decidable.not_not.1 c5⟩
 refine run ?_;refine J.callp rfl rfl (fun w' M=>dagShape g w' (G.ext M.ext) (by omega) (by omega)) ?_;refine run ?_;refine J.fin ?_;unfold S.chkG;rw[if_neg (by omega),if_neg (by omega),if_neg (not_not_intro (show S.ownsS g.ids g.ops from fun i hi=>hI i (by omega)))]
theorem cloneW{S0:Nat→Prop}(a:Option Addr)(n c:Nat)(ids:List Int)(w:World)(D0:WRow .u8 32 S0 w a n ids)(hc:n≤c)(hn:n≤1000):
  Calls prog 73 #[.slice a n c] w (Gv w (fun q:Option Addr×Nat=> .slice q.1 n q.2) (fun q=>[.wown 29 .u8 32 q.1 n q.2 ids]) fun q=>n≤q.2):=
 Gv.of (cloneID a n c ids w D0 hc hn) fun v w' x ⟨a',n',c',hv,hn',O⟩=>⟨(a',c'),by rw[hv,hn'],by subst hn';exact O.own.cap.1,sep1 (by subst hn';exact wown_ok O)⟩
end W
namespace S
open G
def atS(m:Nat)(ids x:List Int):Int:=if inS m ids x then(ixS m ids x:Nat)else -1
theorem at_hit{m:Nat}{ids x:List Int}{i:Nat}(hi:i<m)(e:idAt ids i=x)(hf:∀j,j<i→idAt ids j≠x):(i:Int)=atS m ids x:=by
 unfold atS;rw[if_pos ⟨i,hi,e⟩,ix_first hi e hf]
theorem at_miss{m:Nat}{ids x:List Int}(hf:∀j,j<m→idAt ids j≠x):(-1:Int)=atS m ids x:=by
 unfold atS;rw[if_neg];rintro⟨i,hi,e⟩;exact hf i hi e
theorem at_neg{m:Nat}{ids x:List Int}:atS m ids x<0↔¬inS m ids x:=by
 unfold atS;by_cases h:inS m ids x
 ·rw[if_pos h];exact⟨fun h1=>by omega,fun h1=>absurd h h1⟩
 ·rw[if_neg h];exact⟨fun _=>h,fun _=>by decide⟩
structure HvS(ids:List Int)(rd:List Nat)(hv:List Int):Prop where
 len:hv.length=32*rd.length
 at_:∀k,k<rd.length→idAt hv k=idAt ids (rd.getD k 0)
theorem HvS.first(ids:List Int):HvS ids [] []:=⟨rfl,fun k hk=>by cases hk⟩
theorem HvS.snoc{ids hv:List Int}{rd:List Nat}{i m:Nat}(h:HvS ids rd hv)(hl:ids.length=32*m)(hi:i<m):HvS ids (rd++[i]) (hv++idAt ids i):=by
 have h32:=idAt_len ids i m hl hi;refine⟨by rw[List.length_append,List.length_append,h.len,h32,List.length_singleton];omega,fun k hk=>?_⟩;rw[List.length_append,List.length_singleton]at hk;rw[getD_snoc];by_cases e:k<rd.length
 ·rw[if_pos e,←h.at_ k e];unfold idAt;rw[List.drop_append_of_le_length (by rw[h.len];omega),List.take_append_of_le_length (by rw[List.length_drop,h.len];omega)]
 ·obtain rfl:k=rd.length:=by omega
  rw[if_neg e,if_pos rfl];have:(hv++idAt ids i).drop (32*rd.length)=idAt ids i:=by rw[←h.len];exact List.drop_left
  show((hv++idAt ids i).drop (32*rd.length)).take 32=_;rw[this,List.take_of_length_le (by omega)]
theorem HvS.all{m:Nat}{ids hv:List Int}{ops:List OpV}{rd:List Nat}(h:HvS ids rd hv)(hr:Rising m ids)(hb:∀x∈rd,x<m){i:Nat}(ho:allI m ids (ops.getD i OpV.zero).n (ops.getD i OpV.zero).ids):
  allI rd.length hv (ops.getD i OpV.zero).n (ops.getD i OpV.zero).ids↔∀p∈prS m ids ops i,p∈rd:=by
 constructor
 ·intro ha p hp;unfold prS at hp;obtain⟨j,hj,rfl⟩:=List.mem_map.1 hp;obtain⟨k,hk,e⟩:=ha j (List.mem_range.1 hj);rw[h.at_ k hk]at e;have hm:=getD_mem hk;rw[←e,ix_eq hr (hb _ hm)];exact hm
 ·intro ha j hj;have hp:ixS m ids (idAt (ops.getD i OpV.zero).ids j)∈rd:=ha _ (by unfold prS;exact List.mem_map.2 ⟨j,List.mem_range.2 hj,rfl⟩);obtain⟨k,hk,e⟩:=List.getElem_of_mem hp;refine⟨k,hk,?_⟩;rw[h.at_ k hk,List.getD_eq_getElem?_getD,List.getElem?_eq_getElem hk,Option.getD_some,e];exact(ix_in (ho j hj)).2
def dnS(n:Nat)(rd:List Nat):List Bool:=(List.range n).map fun i=>decide (i∈rd)
theorem dnS_first(n:Nat):dnS n []=List.replicate n false:=by
 unfold dnS;apply List.ext_getElem
 ·simp
 ·intro i h1 h2;simp
theorem dnS_get{n i:Nat}(rd:List Nat)(h:i<n):(dnS n rd)[i]? =some (decide (i∈rd)):=by
 unfold dnS;rw[List.getElem?_map,List.getElem?_range h];rfl
theorem dnS_snoc{n i:Nat}(rd:List Nat)(h:i<n):(dnS n rd).set i true=dnS n (rd++[i]):=by
 apply List.ext_getElem?;intro j;rw[List.getElem?_set];by_cases hj:j<n
 ·rw[dnS_get _ hj,dnS_get _ hj];by_cases e:i=j
  ·subst e;rw[if_pos rfl,if_pos (by simpa [dnS]using hj)];simp
  ·rw[if_neg e];congr 1;rw[decide_eq_decide,List.mem_append,List.mem_singleton];exact⟨.inl,fun h=>h.resolve_right fun e2=>e e2.symm⟩
 ·rw[List.getElem?_eq_none (by simpa [dnS]using hj),List.getElem?_eq_none (by simpa [dnS]using hj)];split
  ·split<;>simp_all
  ·rfl
structure OrdS(P:Nat→List Nat)(n:Nat)(rd:List Nat):Prop where
 nd:rd.Nodup
 lt:∀x∈rd,x<n
 sq:Seqd P rd
theorem OrdS.first(P:Nat→List Nat)(n:Nat):OrdS P n []:=⟨List.nodup_nil,fun x h=>(by cases h),fun i h=>(by cases h)⟩
theorem OrdS.le{P:Nat→List Nat}{n:Nat}{rd:List Nat}(h:OrdS P n rd):rd.length≤n:=by
 have:=nodup_len (l:=rd) (m:=List.range n) h.nd fun x hx=>List.mem_range.2 (h.lt x hx);simpa using this
theorem OrdS.snoc{P:Nat→List Nat}{n i:Nat}{rd:List Nat}(h:OrdS P n rd)(hi:i<n)(hn:i∉rd)(hp:∀p∈P i,p∈rd):OrdS P n (rd++[i]):=by
 refine⟨List.nodup_append.2 ⟨h.nd,by simp,fun a ha b hb=>?_⟩,fun x hx=>?_,h.sq.snoc (d:=rd.length) fun p hp'=>by rw[List.take_length];exact hp p hp'⟩
 ·rw[List.mem_singleton]at hb;subst hb;intro e;subst e;exact hn ha
 ·rcases List.mem_append.1 hx with e|e
  ·exact h.lt x e
  ·rw[List.mem_singleton]at e;subst e;exact hi
theorem OrdS.found{P:Nat→List Nat}{n:Nat}{rd:List Nat}(h:OrdS P n rd)(hc:Clsd P n rd):Found P n↔¬rd.length<n:=found_iff h.nd h.lt h.sq hc
theorem OrdS.room{P:Nat→List Nat}{n i:Nat}{rd:List Nat}(h:OrdS P n rd)(hi:i<n)(hn:i∉rd):rd.length<n:=by
 have:=nodup_len (l:=i::rd) (m:=List.range n) (List.nodup_cons.2 ⟨hn,h.nd⟩) fun x hx=>by
  rcases List.mem_cons.1 hx with e|e
  ·subst e;exact List.mem_range.2 hi
  ·exact List.mem_range.2 (h.lt x e)
 simp only[List.length_cons,List.length_range]at this;omega
end S
namespace W
open Go.RowKit G
set_option maxRecDepth 20000
set_option maxHeartbeats 8000000
attribute [local irreducible] RS RX RY Code.wp bodyPost J Ent.blk Ent.iown Ent.wrow Ent.wown Ent.gown Ent.all Ent.emp
instance:Ents prog 42:=⟨.mk func42 (by kernel_rfl) rfl⟩
instance:Und prog 255 (.slice 4):=⟨underlying255⟩
instance:Inf prog 4 1 1 [.bool false]:=⟨TI.of (v:= .bool false) (by kernel_rfl) rfl⟩
instance:Siz prog 4 1:=⟨by kernel_rfl⟩
instance:Sca prog 4:=⟨_,underlying4,rfl⟩
instance:Und prog 4 .bool:=⟨underlying4⟩
instance:Ents prog 43:=⟨.mk func43 (by kernel_rfl) rfl⟩
instance:Ents prog 46:=⟨.mk func46 (by kernel_rfl) rfl⟩
instance:Ents prog 151:=⟨.mk func151 (by kernel_rfl) rfl⟩
instance:Ents prog 58:=⟨.mk func58 (by kernel_rfl) rfl⟩
instance:Ents prog 59:=⟨.mk func59 (by kernel_rfl) rfl⟩
instance:Ents prog 100:=⟨.mk func100 (by kernel_rfl) rfl⟩
structure OrP where
 (rd:List Nat)(n:Nat)(od hv:List Int)(dn:List Bool)(ao:Option Addr)(co:Nat)(ah:Option Addr)(ch:Nat)(more:Bool)
theorem refAt{S0:Nat→Prop}(a:Option Addr)(n c:Nat)(ids x:List Int)(w:World)(D0:WRow .u8 32 S0 w a n ids)(hx:Arr .u8 32 x)(hn:n≤1000):
  Calls prog 42 #[.slice a n c, .agg (ints .u8 x).toArray] w (Ret w fun v _=>v= .int .i64 (S.atS n ids x)):=by
 refine J.enter 17 func42 rfl rfl ?_;refine run ?_;refine J.box rfl rfl rfl fun b1=>?_
 refine run ?_;refine J.loopS (A:=Int) (fun p=>[(5, .int .i64 p)]) [6,7,8,9,10,11,12,13,14,15,16,17,18] (fun p=>(0≤p∧p≤n)∧∀k,k<p.toNat→S.idAt ids k≠x) (fun p=>n - p.toNat) 0 (by kernel_rfl) ⟨by omega,fun k hk=>by omega⟩ (fun p j hI=>?_);obtain⟨h1,hI⟩:=hI;refine run ?_;refine J.ifd rfl (fun c1=>?_) (fun c1=>?_)
 ·obtain⟨q,hq⟩:=ex (elt 32 ids p.toNat);have hqa:Arr .u8 32 q:=hq▸D0.elt_arr (by omega);refine run ?_;refine J.regionX [(0, .q),(1, .q),(2, .q),(3, .q),(4, .q),(5, .q)] mixed (by kernel_rfl) ?_;refine run ?_;refine J.ifd rfl (fun c2=>?_) (fun c2=>?_)
  ·refine run ?_;refine J.fin ?_;rw[←S.at_hit (i:=p.toNat) (by omega) (by rw[←c2];exact hq.symm) hI];congr 1;omega
  refine run ?_;refine J.nextS (p+1) ⟨rfl,trivial⟩ (by kernel_rfl) ⟨by omega,fun k hk=>?_⟩ (by omega);rcases Nat.lt_or_ge k p.toNat with h|h
  ·exact hI k h
  obtain rfl:k=p.toNat:=by omega
  exact fun e=>c2 (hq.trans e)
 refine run ?_;refine J.fin ?_;rw[←S.at_miss fun k hk=>hI k (by omega)]
theorem refAll{S0 S1:Nat→Prop}(a a2:Option Addr)(n c n2 c2:Nat)(ids ps:List Int)(w:World)(D0:WRow .u8 32 S0 w a n ids)(D1:WRow .u8 32 S1 w a2 n2 ps)(hn:n≤1000)(hn2:n2≤1000):
  Calls prog 43 #[.slice a n c, .slice a2 n2 c2] w (Ret w fun v _=>v= .bool (decide (S.allI n ids n2 ps))):=by
 refine J.enter 17 func43 rfl rfl ?_;refine run ?_;refine J.loopS (A:=Int) (fun p=>[(5, .int .i64 p)]) [6,7,8,9,10,11,12,13,14,15,16,17,18] (fun p=>(0≤p∧p≤n2)∧∀k,k<p.toNat→S.inS n ids (S.idAt ps k)) (fun p=>n2 - p.toNat) 0 (by kernel_rfl) ⟨by omega,fun k hk=>by omega⟩ (fun p j hI=>?_);obtain⟨h1,hI⟩:=hI;refine run ?_;refine J.ifd rfl (fun c1=>?_) (fun c1=>?_)
 ·refine run ?_;refine J.callp rfl rfl (fun w' M=>refAt _ _ _ _ _ _ (D0.ext M.ext) (D1.elt_arr (by omega)) hn) ?_;refine run ?_;refine J.ifd rfl (fun c2=>?_) (fun c2=>?_)
  ·refine run ?_;exact J.fin (congrArg _ (decide_eq_false fun h=>S.at_neg.1 c2 (h _ (by omega))).symm)
  refine run ?_;refine J.nextS (p+1) ⟨rfl,trivial⟩ (by kernel_rfl) ⟨by omega,fun k hk=>?_⟩ (by omega);rcases Nat.lt_or_ge k p.toNat with h|h
  ·exact hI k h
  obtain rfl:k=p.toNat:=by omega
  exact Decidable.not_not.1 fun h=>c2 (S.at_neg.2 h)
 refine run ?_;exact J.fin (congrArg _ (decide_eq_true fun k hk=>hI k (by omega)).symm)
theorem refOrderL{S0:Nat→Prop}(g:GrA)(w:World)(G:GrR S0 w g)(he:g.m=g.n)(hr:S.Rising g.m g.ids)(ho:S.opensS g.m g.ids g.ops):
  Calls prog 151 #[.agg (grC g).toArray] w (Gv w (fun q:(Option Addr×Nat×Nat)×List Nat=> .slice q.1.1 q.1.2.1 q.1.2.2) (fun q=>[.iown 3 .i64 q.1.1 q.1.2.1 q.1.2.2 (S.castL q.2)]) fun q=>q.1.2.1=q.2.length∧S.OrdS (S.prS g.m g.ids g.ops) g.n q.2∧S.Clsd (S.prS g.m g.ids g.ops) g.n q.2):=by
 have D0:=G.ids;have G0:=G.ops;have hl:=G.len;have hcp:=G.cap;have hcp4:=hcp.2.2.2;obtain⟨P,hP⟩:=ex (S.prS g.m g.ids g.ops);refine J.enter 50 func151 rfl rfl ?_;refine run ?_;refine J.box rfl rfl rfl fun b1=>?_
 refine run ?_;refine J.mkG boC false (fun _=>rfl) rfl rfl rfl rfl fun bd=>?_
 rw[←S.dnS_first];refine run ?_;refine J.nilI 3 .i64 ?_;refine J.nilWo 29 .u8 32 ?_;refine J.loop (A:=OrP) (fun p=>[(3, .slice p.ao p.n p.co),(4, .slice p.ah p.n p.ch),(6, .bool p.more)]) [7,12,13,14,15,16,17,18,19,20,21,22,23,24,25,26,27,28,29,30,31,32,33,34,35,36,37,38,39,40,41,42,43,44,45,46,47,48,49] (fun p=>[.wown 29 .u8 32 p.ah p.n p.ch p.hv, .iown 3 .i64 p.ao p.n p.co p.od, .gown boC 1 4 (some ⟨bd,0,none⟩) g.n g.n p.dn, .blk b1 (grC g) 57])
  (fun p=>S.OrdS P g.n p.rd∧S.HvS g.ids p.rd p.hv∧(p.more=false→S.Clsd P g.n p.rd)∧p.n=p.rd.length∧p.od=S.castL p.rd∧p.dn=S.dnS g.n p.rd) (fun p=>2*(g.n - p.rd.length)+p.more.toNat) ⟨[],0,[],[],S.dnS g.n [],none,0,none,0,true⟩ (by kernel_rfl) ⟨S.OrdS.first _ _,S.HvS.first _,fun h=>(by cases h),rfl,rfl,rfl⟩ (fun p j hI=>?_)
 obtain⟨hO,hH,hC,hn,hod,hd⟩:=hI;have hle:=hO.le;refine run ?_;refine J.ifb rfl (fun c1=>?_) (fun c1=>?_)
 ·refine run ?_;refine J.loopS (A:=Int) (fun p=>[(7, .int .i64 p)]) [13,14,15,16,17,18,19,20,21,22,23,24,25,26,27,28,29,30,31,32,33,34,35,36,37,38,39,40,41,42,43,44,45,46,47,48,49] (fun i=>(0≤i∧i≤g.n)∧∀k,k<i.toNat→k∉p.rd→¬∀q∈P k,q∈p.rd) (fun i=>g.n - i.toNat) 0 (by kernel_rfl) ⟨by omega,fun k hk=>by omega⟩ (fun i j2 hI2=>?_);obtain⟨h1,h2⟩:=hI2;refine run ?_;refine J.ifd rfl (fun c2=>?_) (fun c2=>?_)
  ·obtain⟨z,hz⟩:=G0.ex (i:=i) (by omega);have R:=G.op hz;have hzo:=GrA.opAt hz;have h20:=R.ok.n;have hdn:=S.dnS_get p.rd (show i.toNat<g.n by omega);rw[←hd]at hdn;have hall:=hH.all (ops:=g.ops) (i:=i.toNat) hr (fun x hx=>by have:=hO.lt x hx;omega) (ho i.toNat (by omega));rw[hzo,←hP,←hn]at hall
   have hnext : (i.toNat ∉ p.rd → ¬ ∀ q ∈ P i.toNat, q ∈ p.rd) → ((0 ≤ i + 1 ∧ i + 1 ≤ (g.n : Int)) ∧ ∀ k, k < (i + 1).toNat → k ∉ p.rd → ¬ ∀ q ∈ P k, q ∈ p.rd) := fun hk => ⟨by omega, fun k hk2 => by
    rcases Nat.lt_or_ge k i.toNat with h | h
    ·exact h2 k h
    obtain rfl : k = i.toNat := by omega
    exact hk⟩
   refine run ?_;refine J.spt rfl rfl rfl (fun c3=>?_) (fun c3=>?_)
   ·have hni:=of_decide_eq_false c3;refine run ?_;refine J.callp rfl rfl (fun w' M=>(RW.own' w' M).elim fun _ h=>refAll _ _ _ _ _ _ _ _ _ h (R.row.ext M.ext) (by omega) (by omega)) ?_;refine run ?_;refine J.ifd rfl (fun c4=>?_) (fun c4=>?_)
    ·have hp:=hall.1 c4;have hO':=hO.snoc (show i.toNat<g.n by omega) hni hp;have hH':=hH.snoc (i:=i.toNat) D0.len (by omega);have hroom:=hO.room (show i.toNat<g.n by omega) hni;have hx:Arr .u8 32 (elt 32 g.ids i.toNat):=D0.elt_arr (by omega);have ei:i=(i.toNat:Nat):=by omega
     have hI':∀b:Bool,b=true→S.OrdS P g.n (p.rd++[i.toNat])∧S.HvS g.ids (p.rd++[i.toNat]) (p.hv++elt 32 g.ids i.toNat)∧(b=false→S.Clsd P g.n (p.rd++[i.toNat]))∧p.n+1=(p.rd++[i.toNat]).length∧p.od++[i]=S.castL (p.rd++[i.toNat])∧p.dn.set i.toNat true=S.dnS g.n (p.rd++[i.toNat]):=
      fun b hb=>⟨hO',hH',fun h=>(by rw[hb]at h;cases h),by simp[hn],by rw[S.castL_snoc,←ei,hod],by rw[hd];exact S.dnS_snoc _ (by omega)⟩
     refine run ?_;refine J.regionT [.blk b1 (grC g) 57] (.br [(0, .q),(1, .q),(2, .q),(3, .q),(6, .q),(7, .q),(8, .q),(9, .q),(10, .q),(11, .q)] 4 (.br [] 5 (.fin [(12, .e),(13, .e),(14, .q),(15, .q),(16, .q),(17, .e),(18, .q)]) 12 (.fin [(5, .e),(13, .e),(14, .q),(15, .q),(16, .q),(17, .e),(18, .q)])) 12 (.fin [(4, .e),(5, .e),(13, .e),(14, .q),(15, .q),(16, .q),(17, .e),(18, .q)])) mixed (by kernel_rfl) (by repeat(first|exact List.Sublist.refl _|refine List.Sublist.cons_cons _ ?_|refine List.Sublist.cons _ ?_)) ?_;refine run ?_;refine J.nil (J.kt ?_ ?_)
     ·refine J.b1 rfl rfl fun ba=>?_
      refine J.nil (J.kr (J.tbr (J.nil (J.kt ?_ ?_))))
      ·refine J.apI rfl rfl RI.own' fun ao co=>?_
       refine run ?_;refine J.b1W rfl rfl hx fun bb=>?_
       refine J.apW rfl rfl RW.own' fun ah ch=>?_
       refine run ?_;refine J.stG1 rfl rfl (q:=true) rfl ?_;refine run ?_;exact J.next ⟨p.rd++[i.toNat],p.n+1,p.od++[i],p.hv++elt 32 g.ids i.toNat,p.dn.set i.toNat true,ao,co,ah,ch,true⟩ ⟨rfl,rfl,rfl,trivial⟩ (by kernel_rfl) (hI' true rfl) (by dsimp only;rw[List.length_append,List.length_singleton];cases p.more<;>simp<;>omega)
      refine J.b1W rfl rfl hx fun bb=>?_
      refine run ?_;refine J.apI rfl rfl RI.own' fun ao co=>?_
      refine J.apW rfl rfl RW.own' fun ah ch=>?_
      refine run ?_;refine J.stG1 rfl rfl (q:=true) rfl ?_;refine run ?_;exact J.next ⟨p.rd++[i.toNat],p.n+1,p.od++[i],p.hv++elt 32 g.ids i.toNat,p.dn.set i.toNat true,ao,co,ah,ch,true⟩ ⟨rfl,rfl,rfl,trivial⟩ (by kernel_rfl) (hI' true rfl) (by dsimp only;rw[List.length_append,List.length_singleton];cases p.more<;>simp<;>omega)
     refine J.b1W rfl rfl hx fun bb=>?_
     refine run ?_;refine J.b1 rfl rfl fun ba=>?_
     refine J.apI rfl rfl RI.own' fun ao co=>?_
     refine J.apW rfl rfl RW.own' fun ah ch=>?_
     refine run ?_;refine J.stG1 rfl rfl (q:=true) rfl ?_;refine run ?_;exact J.next ⟨p.rd++[i.toNat],p.n+1,p.od++[i],p.hv++elt 32 g.ids i.toNat,p.dn.set i.toNat true,ao,co,ah,ch,true⟩ ⟨rfl,rfl,rfl,trivial⟩ (by kernel_rfl) (hI' true rfl) (by dsimp only;rw[List.length_append,List.length_singleton];cases p.more<;>simp<;>omega)
    refine run ?_;exact J.nextS (i+1) ⟨rfl,trivial⟩ (by kernel_rfl) (hnext fun _ h=>c4 (hall.2 h)) (by omega)
   refine run ?_;exact J.nextS (i+1) ⟨rfl,trivial⟩ (by kernel_rfl) (hnext fun h=>absurd (of_decide_eq_true c3) h) (by omega)
  refine run ?_;exact J.next ⟨p.rd,p.n,p.od,p.hv,p.dn,p.ao,p.co,p.ah,p.ch,false⟩ ⟨rfl,rfl,rfl,trivial⟩ (by kernel_rfl) ⟨hO,hH,fun _ k hk hq=>Decidable.not_not.1 (fun hn=>h2 k (by omega) hn hq),hn,hod,hd⟩ (by dsimp only;rw[c1];exact Nat.lt_succ_self _)
 refine run ?_;refine J.re (.iown 3 .i64 p.ao p.n p.co p.od) (.iown 3 .i64 p.ao p.n p.co (S.castL p.rd)) (fun _ _ h=>by rw[←hod];exact h) ?_;exact J.finG ((p.ao,p.n,p.co),p.rd) rfl ⟨hn,by rw[←hP];exact hO,by rw[←hP];exact hC c1⟩ sb
theorem refOrder{S0:Nat→Prop}(g:GrA)(w:World)(G:GrR S0 w g)(he:g.m=g.n)(hr:S.Rising g.m g.ids)(ho:S.opensS g.m g.ids g.ops):
  Calls prog 151 #[.agg (grC g).toArray] w (Gv w (fun q:Option Addr×Nat×Nat=> .slice q.1 q.2.1 q.2.2) (fun _=>[]) fun q=>q.2.1≤70∧(S.Found (S.prS g.m g.ids g.ops) g.n↔¬q.2.1<g.n)):=
 (refOrderL g w G he hr ho).mono fun _ _ ⟨q,h1,⟨k1,k2,k3⟩,h3,_⟩=>⟨q.1,h1,⟨by have:=k2.le;have:=G.cap.2.2.2;omega,by rw[k1];exact k2.found k3⟩,h3,trivial⟩
theorem refShape{S0:Nat→Prop}(g:GrA)(w:World)(G:GrR S0 w g)(he:g.m=g.n):
  Calls prog 100 #[.agg (grC g).toArray] w (Ret w fun v _=>v= .int .i64 (S.shapeS g.m g.ids g.ops)):=by
 have D0:=G.ids;have G0:=G.ops;have hl:=G.len;have hcp:=G.cap;refine J.enter 31 func100 rfl rfl ?_;refine run ?_;refine J.box rfl rfl rfl fun b1=>?_
 refine run ?_;refine J.callp rfl rfl (fun w' M=>risingR _ _ _ _ _ (D0.ext M.ext) hcp.1 (by omega)) ?_;refine run ?_;refine J.ifnot rfl (fun c1=>?_) (fun c1=>?_)
 ·refine run ?_;refine J.fin ?_;unfold S.shapeS;rw[if_pos (of_decide_eq_false c1)]
 have hr:=of_decide_eq_true c1;refine run ?_;refine J.loopS (A:=Int) (fun p=>[(3, .int .i64 p)]) [8,9,10,11,12,13,14,15,16,17,18,19,20,21,22,23,24] (fun p=>(0≤p∧p≤g.n)∧∀k,k<p.toNat→S.allI g.m g.ids (g.ops.getD k S.OpV.zero).n (g.ops.getD k S.OpV.zero).ids) (fun p=>g.n - p.toNat) 0 (by kernel_rfl) ⟨by omega,fun k hk=>by omega⟩ (fun p j hI=>?_);obtain⟨h1,hI⟩:=hI;refine run ?_;refine J.ifd rfl (fun c2=>?_) (fun c2=>?_)
 ·obtain⟨z,hz⟩:=G0.ex (i:=p) (by omega);have R:=G.op hz;have hzo:=GrA.opAt hz;have h20:=R.ok.n;refine run ?_;refine J.regionX [(0, .q),(1, .q),(2, .q),(3, .q),(4, .q),(5, .q),(6, .q),(7, .q),(8, .e),(9, .q)] mixed (by kernel_rfl) ?_;refine run ?_;refine J.callp rfl rfl (fun w' M=>refAll _ _ _ _ _ _ _ _ _ (D0.ext M.ext) (R.row.ext M.ext) (by omega) (by omega)) ?_;refine run ?_;refine J.ifnot rfl (fun c3=>?_) (fun c3=>?_)
  ·refine run ?_;refine J.fin ?_;unfold S.shapeS;rw[if_neg (not_not_intro hr),if_pos fun ho=>of_decide_eq_false c3 ?_];rw[←hzo];exact ho p.toNat (by omega)
  refine run ?_;refine J.nextS (p+1) ⟨rfl,trivial⟩ (by kernel_rfl) ⟨by omega,fun k hk=>?_⟩ (by omega);rcases Nat.lt_or_ge k p.toNat with h|h
  ·exact hI k h
  obtain rfl:k=p.toNat:=by omega
  rw[hzo];exact of_decide_eq_true c3
 have ho:S.opensS g.m g.ids g.ops:=fun k hk=>hI k (by omega);refine run ?_;refine J.regionX [(0, .q),(3, .q),(4, .q),(5, .q),(1, .e),(2, .q),(6, .q)] mixed (by kernel_rfl) ?_;refine run ?_;refine J.call rfl rfl (fun w' M=>refOrder g w' (G.ext M.ext) he hr ho) fun q hq=>?_
 obtain⟨hq1,hq2⟩:=hq;rw[←hl]at hq2;have hs:=S.shape_end hr ho hq2;refine run ?_;refine J.ifd rfl (fun c3=>?_) (fun c3=>?_)
 ·refine run ?_;refine J.fin ?_;rw[hs,if_pos (by omega)]
 refine run ?_;refine J.fin ?_;rw[hs,if_neg (by omega)]
theorem refCheck{S0:Nat→Prop}(g:GrA)(w:World)(G:GrR S0 w g):
  Calls prog 119 #[.agg (grC g).toArray] w (Ret w fun v _=>v= .int .i64 (S.chkG g.m g.ids g.ops)):=by
 have D0:=G.ids;have G0:=G.ops;have hl:=G.len;have hcp:=G.cap;refine J.enter 44 func119 rfl rfl ?_;refine run ?_;refine J.box rfl rfl rfl fun b1=>?_
 refine run ?_;refine J.ifd rfl (fun c=>?_) (fun c=>?_)
 ·refine run ?_;refine J.fin ?_;unfold S.chkG;rw[if_pos (by omega)]
 refine run ?_;refine J.ifn rfl (fun c2=>?_) (fun c2=>?_)
 ·refine run ?_;refine J.fin ?_;unfold S.chkG;rw[if_neg (by omega),if_pos (by omega)]
 refine run ?_;have h8:∀i,i<g.n→¬S.ownS (g.ops.getD i S.OpV.zero) (S.idAt g.ids i)→(8:Int)=S.chkG g.m g.ids g.ops:=fun i hi h=>by
  unfold S.chkG;rw[if_neg (by omega),if_neg (by omega),if_pos fun ho=>h (ho i (by omega))]
 refine J.loopS (A:=Int) (fun p=>[(3, .int .i64 p)]) [15,16,17,18,19,20,21,22,23,24,25,26,27,28,29,30,31,32,33,34,35,36,37,38,39,40,41,42] (fun p=>(0≤p∧p≤g.n)∧∀i,i<p.toNat→S.ownS (g.ops.getD i S.OpV.zero) (S.idAt g.ids i)) (fun p=>g.n - p.toNat) 0 (by kernel_rfl) ⟨by omega,fun i hi=>by omega⟩ (fun p j hI=>?_);obtain⟨h1,hI⟩:=hI;refine run ?_;refine J.ifd rfl (fun c3=>?_) (fun c3=>?_)
 ·obtain⟨z,hz⟩:=G0.ex (i:=p) (by omega);have R:=G.op hz;have hzo:=GrA.opAt hz;have hsa:Arr .u8 32 (S.sha (S.encS z.o)):=S.sha_arr _;have hid:Arr .u8 32 (elt 32 g.ids p.toNat):=D0.elt_arr (by omega);have h9:¬S.ownS z.o (S.idAt g.ids p.toNat)→(8:Int)=S.chkG g.m g.ids g.ops:=fun h=>h8 p.toNat (by omega) (by rw[hzo];exact h);refine run ?_;refine J.regionX [(0, .q),(1, .q),(2, .q),(3, .q),(4, .q),(5, .e),(6, .q),(7, .q),(8, .q),(9, .q),(10, .q),(11, .q),(12, .q),(14, .q),(15, .q),(16, .q),(17, .q),(18, .q),(13, .e),(19, .q),(20, .q)] mixed (by kernel_rfl) ?_;refine run ?_;refine J.callp rfl rfl (fun w' M=>verifyOR z.o R.ok _ _ _ (R.row.ext M.ext) R.cap) ?_;refine run ?_;refine J.spn rfl rfl rfl (fun c4=>?_) (fun c4=>?_)
  ·refine run ?_;refine J.fin (congrArg _ (h9 fun h=>c4 h.1))
  have hz0:=S.check_zero.1 (S.verE_check c4);refine run ?_;refine J.callp rfl rfl (fun w' M=>ofO z.o R.ok _ _ _ (R.row.ext M.ext) R.cap hz0.1 (fun hk=>?_)) ?_
  ·exact S.fine4 hz0.2.2.2.2.2.2 hk
  refine run ?_;refine J.ifd rfl (fun c5=>?_) (fun c5=>?_)
  ·refine run ?_;exact J.fin (congrArg _ (h9 fun h=>c5 h.2))
  refine run ?_;refine J.nextS (p+1) ⟨rfl,trivial⟩ (by kernel_rfl) ⟨by omega,fun i hi=>?_⟩ (by omega);rcases Nat.lt_or_ge i p.toNat with h|h
  ·exact hI i h
  obtain rfl:i=p.toNat:=by omega
  rw[hzo];exact⟨c4,Decidable.not_not.1 c5⟩
 refine run ?_;refine J.callp rfl rfl (fun w' M=>refShape g w' (G.ext M.ext) (by omega)) ?_;refine run ?_;refine J.fin ?_;unfold S.chkG;rw[if_neg (by omega),if_neg (by omega),if_neg (not_not_intro (show S.ownsS g.ids g.ops from fun i hi=>hI i (by omega)))]
theorem twinG{S0:Nat→Prop}(z:OpA)(w:World)(R:OpR S0 w z):
  Calls prog 93 #[.agg (opC z).toArray] w (Gv w (fun q:Option Addr×Nat=> .agg (opC ⟨z.o,q.1,q.2⟩).toArray) (fun q=>[.wown 29 .u8 32 q.1 z.o.n q.2 z.o.ids]) fun q=>z.o.n≤q.2):=
 Gv.of (twin z.o R.ok _ _ w R.row R.cap) fun v w' x ⟨a',c',hv,hc,O⟩=>⟨(a',c'),hv,hc,sep1 (wown_ok O)⟩
instance:Ents prog 16:=⟨.mk func16 (by kernel_rfl) rfl⟩
def bigO(o:S.OpV):Prop:=20<o.n∨100<o.key.size∨100<o.t.size
structure GrI(S0:Nat→Prop)(w:World)(g:GrA):Prop where
 ids:WRow .u8 32 S0 w g.ia g.m g.ids
 ops:GRow opC 11 S0 w g.oa g.n g.zs
 inn:Inns opI S0 w g.zs
 rng:∀z∈g.zs,z.o.rng
 cap:g.m≤g.ic∧g.n≤g.oc
def GrSm(g:GrA):Prop:=g.m≤70∧g.n≤70∧¬(16<g.n∧g.n≤60)∧∀i,i<g.n→¬bigO (g.ops.getD i S.OpV.zero)
theorem GrI.ext{S0:Nat→Prop}{w w':World}{g:GrA}(h:GrI S0 w g)(x:Ext w w'):GrI S0 w' g:=⟨h.ids.ext x,h.ops.ext x,h.inn.ext x,h.rng,h.cap⟩
theorem GrI.gr {S0 : Nat → Prop} {w : World} {g : GrA} (h : GrI S0 w g) (hs : GrSm g) : GrR S0 w g := ⟨h.ids, h.ops, h.inn, fun z hz => by
 obtain ⟨i, hi, rfl⟩ := List.getElem_of_mem hz
 have h1 := hs.2.2.2 i (by rw [← h.ops.len]; exact hi)
 rw [GrA.opAt (List.getElem?_eq_getElem hi)] at h1
 exact (h.rng _ hz).ok h1, h.cap.1, h.cap.2, hs.1, hs.2.1⟩
theorem refGreat{S0:Nat→Prop}(g:GrA)(w:World)(G:GrI S0 w g):
  Calls prog 76 #[.agg (grC g).toArray] w (Gv w (fun q:Bool=> .bool q) (fun _=>[]) fun q=>q=false→GrSm g):=by
 have G0:=G.ops;refine J.enter 42 func76 rfl rfl ?_;refine run ?_;refine J.box rfl rfl rfl fun b1=>?_
 refine run ?_;refine J.loopS (A:=Int) (fun p=>[(3, .int .i64 p)]) [4,5,6,7,8,9,10,11,12,13,14,15,16,17,18,19,20] (fun p=>(0≤p∧p≤g.n∧p≤71)∧∀k,k<p.toNat→¬bigO (g.ops.getD k S.OpV.zero)) (fun p=>g.n - p.toNat) 0 (by kernel_rfl) ⟨by omega,fun k hk=>by omega⟩ (fun p j hI=>?_);obtain⟨h1,hI⟩:=hI;refine run ?_;have hend:∀ {L:List Ent} {X:World→Prop},(¬(p<g.n)∨¬p≤70)→((g.n≤70→∀k,k<g.n→¬bigO (g.ops.getD k S.OpV.zero))→J no w L X)→J no w L X:=fun h k=>k fun hn i hi=>hI i (by omega);refine J.spd rfl rfl rfl (fun c1=>?_) (fun c1=>?_)
 ·refine run ?_;refine J.ifd rfl (fun c2=>?_) (fun c2=>?_)
  ·obtain⟨z,hz⟩:=G0.ex (i:=p) (by omega);have hzo:=GrA.opAt hz;refine run ?_;refine J.callp rfl rfl (fun w' M=>great z.o z.pa z.pc w') ?_;refine run ?_;refine J.ifd rfl (fun c3=>?_) (fun c3=>?_)
   ·refine run ?_;exact J.finG true rfl (fun h=>by cases h) (List.nil_sublist _)
   refine run ?_;refine J.nextS (p+1) ⟨rfl,trivial⟩ (by kernel_rfl) ⟨by omega,fun k hk=>?_⟩ (by omega);rcases Nat.lt_or_ge k p.toNat with h|h
   ·exact hI k h
   obtain rfl:k=p.toNat:=by omega
   rw[hzo];exact c3
  refine hend (.inr c2) fun hA=>?_
  refine run ?_;refine J.spd rfl rfl rfl (fun c3=>?_) (fun c3=>?_)
  ·refine run ?_;refine J.spd rfl rfl rfl (fun c4=>?_) (fun c4=>?_)
   ·refine run ?_;exact J.finG true rfl (fun h=>by cases h) (List.nil_sublist _)
   refine run ?_;refine J.spd rfl rfl rfl (fun c5=>?_) (fun c5=>?_)
   ·refine run ?_;exact J.finG true rfl (fun h=>by cases h) (List.nil_sublist _)
   refine run ?_;exact J.finG (decide ((70:Int)<g.m)) rfl (fun h=>by have:=of_decide_eq_false h;exact⟨by omega,by omega,by omega,hA (by omega)⟩) (List.nil_sublist _)
  refine run ?_;refine J.spd rfl rfl rfl (fun c5=>?_) (fun c5=>?_)
  ·refine run ?_;exact J.finG true rfl (fun h=>by cases h) (List.nil_sublist _)
  refine run ?_;exact J.finG (decide ((70:Int)<g.m)) rfl (fun h=>by have:=of_decide_eq_false h;exact⟨by omega,by omega,by omega,hA (by omega)⟩) (List.nil_sublist _)
 refine hend (.inl c1) fun hA=>?_
 refine run ?_;refine J.spd rfl rfl rfl (fun c3=>?_) (fun c3=>?_)
 ·refine run ?_;refine J.spd rfl rfl rfl (fun c4=>?_) (fun c4=>?_)
  ·refine run ?_;exact J.finG true rfl (fun h=>by cases h) (List.nil_sublist _)
  refine run ?_;refine J.spd rfl rfl rfl (fun c5=>?_) (fun c5=>?_)
  ·refine run ?_;exact J.finG true rfl (fun h=>by cases h) (List.nil_sublist _)
  refine run ?_;exact J.finG (decide ((70:Int)<g.m)) rfl (fun h=>by have:=of_decide_eq_false h;exact⟨by omega,by omega,by omega,hA (by omega)⟩) (List.nil_sublist _)
 refine run ?_;refine J.spd rfl rfl rfl (fun c5=>?_) (fun c5=>?_)
 ·refine run ?_;exact J.finG true rfl (fun h=>by cases h) (List.nil_sublist _)
 refine run ?_;exact J.finG (decide ((70:Int)<g.m)) rfl (fun h=>by have:=of_decide_eq_false h;exact⟨by omega,by omega,by omega,hA (by omega)⟩) (List.nil_sublist _)
end W
namespace L
open Go Go.Proofs.YtaapnlnileblaaaGreatDoor G W
open Go.ChangeShapes Go.WideShapes Go.ChangeAt Go.RowKit
set_option maxRecDepth 100000
section
variable{H:Type}{enc:TypeId×Value→H}{P:Program}{w:World}{base:Nat}{sp:Nat→Bool}{held:Bool}{fuel:Nat}{cs:List Value}{x:DataW H×List MemPlace}{t:TypeId}
theorem grow_in{α:Type}{e sz:Nat}(f:α→List Value)(Q:α→Prop)(d:α)(hf:∀x,(f x).length=sz)(ht:P.underlying t=some (.slice e))(hes:P.cellsOf e=sz)(hz:0<sz)
    (h1:∀m ds y,DataW.trod enc P w base sp held m e ds=some y→∃z,ds=f z∧Q z)(h:DataW.trod enc P w base sp held fuel t cs=some x):
    ∃a n c zs,cs=[.slice a n c]∧n≤c∧GRow f sz (fun _=>True) w a n zs∧∀z∈zs,Q z:=by
  rcases DataW.trod_slice ht h with⟨h2,_⟩|⟨a,len,cap,elems,rest,m,_,h2,_,_,hlc,_,hel,he,_⟩
  · exact⟨none,0,0,[],h2,Nat.le_refl _, .nil hf,fun z hz=>by cases hz⟩
  · refine⟨some a,len,cap,?_⟩
    by_cases h0:len=0
    · subst h0
      exact⟨[],h2,hlc, .nil hf,fun z hz=>by cases hz⟩
    · have one:∀i,i<len→∃z,Q z∧∀j,j<sz→w.cell? ((a.add (i*sz)).add j)=(f z)[j]? :=by
        intro i hi;have h3:=he i hi;rw[List.getElem?_eq_getElem (by omega),hes]at h3;cases hc:w.cells? base (a.add (i*sz)) sz with
        |none=>rw[hc]at h3;cases h3
        |some ds=>
          rw[hc,Option.bind_some]at h3;obtain⟨z,h4,h5⟩:=h1 _ _ _ h3;obtain⟨h6,h7⟩:=cells_in hc;exact⟨z,h5,fun j hj=>by rw[h7 j hj,h4]⟩
      obtain⟨b0,o,spot⟩:=a;obtain rfl:spot=none:=by
        obtain⟨z,_,h3⟩:=one 0 (by omega);have h4:=h3 0 hz;rw[List.getElem?_eq_getElem (by rw[hf];exact hz)]at h4;have:=World.cell?_spot h4;simpa [Addr.add]using this
      obtain ⟨zs, h3, h4⟩ := list_of d (fun i z => Q z ∧ ∀ j, j < sz → w.cell? ⟨b0, o + (i * sz + j), none⟩ = (f z)[j]?) len (fun i hi => by
        obtain ⟨z, h5, h6⟩ := one i hi
        exact ⟨z, h5, fun j hj => by have := h6 j hj; rw [add_mk, add_mk, Nat.add_assoc] at this; exact this⟩)
      refine⟨zs,h2,hlc,⟨.inr ⟨b0,o,rfl,trivial,fun j hj=>?_⟩,h3,hf⟩,fun z hz=>?_⟩
      · rw[flat_len f sz hf,h3]at hj
        have hi:j / sz<len:=Nat.div_lt_of_lt_mul hj;have hm:=Nat.mod_lt j hz;have h5:=(h4 _ hi).2 _ hm;rw[Nat.mul_comm (j / sz),Nat.div_add_mod]at h5;have hg:=flat_get f sz hf d zs (j / sz) (by omega);have e2:=congrArg (fun t=>t[j % sz]?) hg;simp only[List.getElem?_take,if_pos hm,List.getElem?_drop,Nat.div_add_mod]at e2;rw[h5,←e2,List.getD_eq_getElem?_getD,List.getElem?_eq_getElem (by rw[flat_len f sz hf,h3];exact hj)];rfl
      · obtain⟨j,hj,rfl⟩:=List.getElem_of_mem hz
        have:=(h4 j (by omega)).1;rw[List.getD_eq_getElem?_getD,List.getElem?_eq_getElem hj]at this;exact this
end
theorem z_ops:prog.cellsOf 55=1:=by kernel_rfl
theorem z_gr:prog.cellsOf 57=2:=by kernel_rfl
section
variable{H:Type}{enc:TypeId×Value→H}{w:World}{base:Nat}{sp:Nat→Bool}{held:Bool}{fuel:Nat}{cs:List Value}{x:DataW H×List MemPlace}
theorem ops_in(h:DataW.trod enc prog w base sp held fuel 55 cs=some x):∃a n c zs,cs=[.slice a n c]∧n≤c∧GRow opC 11 (fun _=>True) w a n zs∧∀z∈zs,z.o.rng∧z.o.n≤z.pc∧WRow .u8 32 (fun _=>True) w z.pa z.o.n z.o.ids:=
  grow_in opC (fun z => z.o.rng ∧ z.o.n ≤ z.pc ∧ WRow .u8 32 (fun _ => True) w z.pa z.o.n z.o.ids) ⟨S.OpV.zero, none, 0⟩ (fun _ => rfl) underlying55 z_op (by decide) (fun m ds y hd => by
    obtain ⟨o, pa, pc, h1, h2, h3, h4⟩ := op_in hd
    exact ⟨⟨o, pa, pc⟩, h1, h2, h3, h4⟩) h
theorem graph_in(h:DataW.trod enc prog w base sp held fuel 57 cs=some x):∃g,cs=grC g∧GrI (fun _=>True) w g:=by
  have hl:=(fields_in underlying57 h).1;rw[z_gr]at hl
  match cs,hl,h with
  |[c0,c1],_,h=>
    obtain⟨_,_,f0⟩:=field_in 0 underlying57 rfl z_ids h;obtain⟨_,_,f1⟩:=field_in 1 underlying57 rfl z_ops h;obtain⟨ia,m,ic,ids,e0,hc0,hR0⟩:=ids_in underlying23 underlying29 underlying5 z_u8 z_id (by decide) f0;obtain⟨oa,n,oc,zs,e1,hc1,hR1,hQ⟩:=ops_in f1;have q0:[c0]=[Value.slice ia m ic]:=e0;have q1:[c1]=[Value.slice oa n oc]:=e1;simp only[List.cons.injEq,and_true]at q0 q1;subst q0 q1;refine⟨⟨ia,oa,m,n,ic,oc,ids,zs⟩,rfl,hR0,hR1,fun z hz i hi=>?_,fun z hz=>(hQ z hz).1,hc0,hc1⟩;obtain rfl:=List.mem_singleton.1 hi;exact⟨(hQ z hz).2.2,(hQ z hz).2.1⟩
end
end L
namespace W
open Go.RowKit G
theorem gown_e{α:Type}{f:α→List Value}{sz:Nat}{e:TypeId}{a:Option Addr}{n c:Nat}{lst:List α}{S:Nat→Prop}{w:World}(h:(Ent.gown f sz e a n c lst).ok S w):GOwn f sz 0 w e a n c lst∧∀b,obk a=some b→S b:=h
section
end
section
end
end W
namespace S
open G
@[reducible] def idX(o:OpV):List Int:=if checkE o=0 then sha (encS o)else List.replicate 32 0
def opR(o:OpV):RgV:=regO o (idX o) (idX_arr o).1
end S
namespace W
open Go.RowKit G
section
variable{S0:Nat→Prop}{w0:World}{L:List Ent}{P:Program}{Q:Exit→Act→World→Prop}{c y:Code}{l:List Value}{X:World→Prop}{e1 e2:Ent}
theorem J.joinX{A:Type}(M:A→List (Nat×Value))(Jk:List Nat)(Lp:A→List Ent)(I:A→Prop){l':A→(Nat→Value)→List Value}(h:J S0 w0 L (c.wp P (Exit.then (Cut l M Jk (fun p w=>Mem S0 w0 (Lp p) w∧I p)) Q) (fr l)))
  (k:∀p j,I p→J S0 w0 (Lp p) (y.wp P Q (fr (l' p j))))(hl:∀p j,upd (upd l (M p)) (junk Jk j)=l' p j:=by intro p j;simp only[upd,junk,List.map_cons,List.map_nil,List.set_cons_succ,List.set_cons_zero];exact rfl):J S0 w0 L (c.wp P (Exit.then (y.wp P Q) Q) (fr l)):=fun w Mm=>by
 refine wp_mono (h w Mm) fun e a w hq=>?_
 cases e with
 |normal=>
  have hq:Cut l M Jk (fun p w=>Mem S0 w0 (Lp p) w∧I p) a w:=hq;unfold Cut at hq;obtain⟨p',j',rfl,h1,h2⟩:=hq;show y.wp P Q _ w;rw[hl];exact k p' j' h2 w h1
 |_=>exact hq
end
end W
namespace S
open G
theorem OpV.ext'{a b:OpV}(h1:a.au=b.au)(h2:a.st=b.st)(h3:a.k=b.k)(h4:a.vk=b.vk)(h5:a.num=b.num)(h6:a.bits=b.bits)(h7:a.e=b.e)(h8:a.s=b.s)(h9:a.n=b.n)(h10:a.ids=b.ids)(h11:a.key=b.key)(h12:a.t=b.t):a=b:=by
 cases a;cases b;simp only at h1 h2 h3 h4 h5 h6 h7 h8 h9 h10 h11 h12;subst h1 h2 h3 h4 h5 h6 h7 h8 h9 h10 h11 h12;rfl
instance:DecidableEq OpV:=fun a b=>decidable_of_iff (a.au=b.au∧a.st=b.st∧a.k=b.k∧a.vk=b.vk∧a.num=b.num∧a.bits=b.bits∧a.e=b.e∧a.s=b.s∧a.n=b.n∧a.ids=b.ids∧a.key=b.key∧a.t=b.t)
 ⟨fun⟨h1,h2,h3,h4,h5,h6,h7,h8,h9,h10,h11,h12⟩=>OpV.ext' h1 h2 h3 h4 h5 h6 h7 h8 h9 h10 h11 h12,fun h=>by subst h;exact⟨rfl,rfl,rfl,rfl,rfl,rfl,rfl,rfl,rfl,rfl,rfl,rfl⟩⟩
def OpV.wide(o:OpV):Prop:=o.ids.length=32*o.n
theorem sameO_eq{a b:OpV}(ha:a.wide)(hb:b.wide):SameO a b↔a=b:=by
 constructor
 ·rintro⟨h1,h2,h3,⟨h4,h5,h6,h7,h8,h9⟩,h10,h11⟩;unfold OpV.wide at ha hb;have hn:a.n=b.n:=by rw[h2]at ha;omega
  exact OpV.ext' h1 h3 h4 h6 h7 h8 h10 h11 hn h2 h5 h9
 ·rintro rfl;exact sameO_refl a
theorem op_at{l:List OpV}{i:Nat}(h:i<l.length):l[i]? =some (l.getD i OpV.zero):=by rw[List.getD_eq_getElem?_getD,List.getElem?_eq_getElem h];rfl
theorem ops_ext{l m:List OpV}(hl:l.length=m.length)(h:∀i,i<l.length→l.getD i OpV.zero=m.getD i OpV.zero):l=m:=by
 refine List.ext_getElem? fun i=>?_
 by_cases hi:i<l.length
 ·rw[op_at hi,op_at (by omega),h i hi]
 ·rw[List.getElem?_eq_none (by omega),List.getElem?_eq_none (by omega)]
end S
end Go.Proofs.YtaapnlnileblaaaGreatDoor
