/-
  Part 13 of the lemmas of these laws: StoreFinds, StoreOffers.
-/
import Derived.Test.YtaapnlnileblaaaGreatDoorPSf12
set_option linter.unusedVariables false
set_option linter.unusedSimpArgs false
open Go.Proofs.Tryz
namespace Go.Proofs.YtaapnlnileblaaaGreatDoor
namespace S
open G
structure StV where
 (cap:Int)(sh:ShV)(n:Nat)(os:List Int)
def StV.zero:StV:=⟨0,ShV.zero,0,[]⟩
def PG.opOf(g:PG)(x:List Int):OpV:=g.ops.getD (ixS g.m g.ids x) OpV.zero
def plcS(g:PG)(os:List Int)(i:Nat):Prop:=inS g.m g.ids (idAt os i)∧¬inS i os (idAt os i)∧allI i os (g.opOf (idAt os i)).n (g.opOf (idAt os i)).ids
instance(g:PG)(os:List Int)(i:Nat):Decidable (plcS g os i):=by unfold plcS;infer_instance
def okT(v:StV):Prop:=((1≤v.cap∧v.cap≤40)∧okR v.sh∧v.sh.ver≤v.cap∧(v.n:Int)=v.sh.ver)∧∀i,i<v.n→plcS (whole v.sh.ps) v.os i
open Classical in
noncomputable def chkT(v:StV):Int:=if okT v then 0 else 8
theorem chkT_0{v:StV}(h:okT v):chkT v=0:=if_pos h
theorem chkT_8{v:StV}(h:¬okT v):chkT v=8:=if_neg h
theorem chkT_iff{v:StV}:chkT v=0↔okT v:=⟨fun h=>Classical.byContradiction fun k=>by rw[chkT_8 k]at h;exact absurd h (by decide),chkT_0⟩
theorem chkT_ne{v:StV}(h:chkT v≠0):¬okT v∧chkT v=8:=⟨fun k=>h (chkT_0 k),chkT_8 fun k=>h (chkT_0 k)⟩
open Classical in
noncomputable def grT(v:StV):PG:=if okT v then whole v.sh.ps else PG.nil
theorem grT_0{v:StV}(h:okT v):grT v=whole v.sh.ps:=if_pos h
theorem grT_8{v:StV}(h:¬okT v):grT v=PG.nil:=if_neg h
open Classical in
noncomputable def hasT(v:StV)(x:List Int):Bool:=if okT v then decide (inS v.n v.os x)else false
theorem hasT_0{v:StV}{x:List Int}(h:okT v):hasT v x=decide (inS v.n v.os x):=(if_pos h).trans (by congr)
theorem hasT_8{v:StV}{x:List Int}(h:¬okT v):hasT v x=false:=if_neg h
def nwT(c n:Int):StV:=if(1≤c∧c≤40)∧1≤n∧n≤4 then⟨c,madeS PG.nil n.toNat,0,[]⟩else StV.zero
def nwTE(c n:Int):Int:=if(1≤c∧c≤40)∧1≤n∧n≤4 then 0 else 2
theorem nwT_0{c n:Int}(h:(1≤c∧c≤40)∧1≤n∧n≤4):nwT c n=⟨c,madeS PG.nil n.toNat,0,[]⟩∧nwTE c n=0:=⟨if_pos h,if_pos h⟩
theorem nwT_2{c n:Int}(h:¬((1≤c∧c≤40)∧1≤n∧n≤4)):nwT c n=StV.zero∧nwTE c n=2:=⟨if_neg h,if_neg h⟩
def eqT(a b:StV):Prop:=a.cap=b.cap∧eqSh a.sh b.sh∧a.os=b.os
instance(a b:StV):Decidable (eqT a b):=by unfold eqT;infer_instance
theorem eqT_same{a b:StV}(h:a=b):eqT a b:=by subst h;exact⟨rfl,⟨rfl,rfl,rfl,fun i hi=>⟨rfl,rfl⟩⟩,rfl⟩
open Classical in
noncomputable def sinE(v:StV)(k:Int):Int:=if ¬okT v then 8 else if 0≤k∧k≤v.n then 0 else 2
theorem sinE_8{v:StV}{k:Int}(h:¬okT v):sinE v k=8:=if_pos h
theorem sinE_2{v:StV}{k:Int}(h:okT v)(h2:¬(0≤k∧k≤v.n)):sinE v k=2:=by unfold sinE;rw[if_neg (not_not_intro h),if_neg h2]
theorem sinE_0{v:StV}{k:Int}(h:okT v)(h2:0≤k∧k≤v.n):sinE v k=0:=by unfold sinE;rw[if_neg (not_not_intro h),if_pos h2]
noncomputable def sinN(v:StV)(k:Int):Nat:=if sinE v k=0 then v.n - k.toNat else 0
noncomputable def sinL(v:StV)(k:Int):List Int:=if sinE v k=0 then v.os.drop (32*k.toNat)else []
theorem sin_yes{v:StV}{k:Int}(h:sinE v k=0):sinN v k=v.n - k.toNat∧sinL v k=v.os.drop (32*k.toNat):=⟨if_pos h,if_pos h⟩
theorem sin_no{v:StV}{k:Int}(h:sinE v k≠0):sinN v k=0∧sinL v k=[]:=⟨if_neg h,if_neg h⟩
noncomputable def askE(v:StV)(o:OpV):Int:=if chkT v=0 then verE o else 8
theorem askE_8{v:StV}{o:OpV}(h:¬okT v):askE v o=8:=if_neg fun k=>h (chkT_iff.1 k)
theorem askE_v{v:StV}{o:OpV}(h:okT v):askE v o=verE o:=if_pos (chkT_0 h)
theorem askE_0{v:StV}{o:OpV}(h:askE v o=0):okT v∧verE o=0:=by
 by_cases k:okT v
 ·exact⟨k,by rw[←askE_v (o:=o) k];exact h⟩
 ·rw[askE_8 k]at h;exact absurd h (by decide)
def absF(m:Nat)(ids ps:List Int)(j:Nat):Bool:=decide (¬inS m ids (idAt ps j))
noncomputable def msN(v:StV)(o:OpV):Nat:=if askE v o=0 then numF (absF v.n v.os o.ids) o.n else 0
noncomputable def msL(v:StV)(o:OpV):List Int:=if askE v o=0 then selF (absF v.n v.os o.ids) o.ids o.n else []
theorem ms_yes{v:StV}{o:OpV}(h:askE v o=0):msN v o=numF (absF v.n v.os o.ids) o.n∧msL v o=selF (absF v.n v.os o.ids) o.ids o.n:=⟨if_pos h,if_pos h⟩
theorem ms_no{v:StV}{o:OpV}(h:askE v o≠0):msN v o=0∧msL v o=[]:=⟨if_neg h,if_neg h⟩
theorem numF_zero{f:Nat→Bool}:∀ {n:Nat},numF f n=0↔∀i,i<n→f i=false
 |0=>⟨fun _ i hi=>absurd hi (Nat.not_lt_zero _),fun _=>rfl⟩
 |n+1=>by
  rw[numF];cases h:f n with
  |true=>exact⟨fun k=>absurd k (by simp),fun k=>by rw[k n (by omega)]at h;cases h⟩
  |false=>
   refine⟨fun k i hi=>?_,fun k=>by simpa using numF_zero.2 fun i hi=>k i (by omega)⟩;rcases Nat.lt_or_ge i n with c|c
   ·exact numF_zero.1 (by simpa using k) i c
   ·obtain rfl:i=n:=by omega
    exact h
theorem abs_none{m:Nat}{ids ps:List Int}{n:Nat}:numF (absF m ids ps) n=0↔allI m ids n ps:=by
 rw[numF_zero];exact⟨fun h j hj=>Classical.not_not.1 fun k=>by have:=h j hj;unfold absF at this;exact of_decide_eq_false this k,fun h j hj=>by unfold absF;exact decide_eq_false (not_not_intro (h j hj))⟩
def judT(v:StV)(o:OpV):Int:=if inS v.n v.os (idOf o)then 5 else if ¬allI v.n v.os o.n o.ids then 6 else if(v.n:Int)=v.cap then 8 else 1
theorem jud_5{v:StV}{o:OpV}(h:inS v.n v.os (idOf o)):judT v o=5:=if_pos h
theorem jud_6{v:StV}{o:OpV}(h:¬inS v.n v.os (idOf o))(h2:¬allI v.n v.os o.n o.ids):judT v o=6:=by unfold judT;rw[if_neg h,if_pos h2]
theorem jud_8{v:StV}{o:OpV}(h:¬inS v.n v.os (idOf o))(h2:allI v.n v.os o.n o.ids)(h3:(v.n:Int)=v.cap):judT v o=8:=by unfold judT;rw[if_neg h,if_neg (not_not_intro h2),if_pos h3]
theorem jud_1{v:StV}{o:OpV}(h:¬inS v.n v.os (idOf o))(h2:allI v.n v.os o.n o.ids)(h3:(v.n:Int)≠v.cap):judT v o=1:=by unfold judT;rw[if_neg h,if_neg (not_not_intro h2),if_neg h3]
theorem jud_is{v:StV}{o:OpV}(h:judT v o=1):¬inS v.n v.os (idOf o)∧allI v.n v.os o.n o.ids∧(v.n:Int)≠v.cap:=by
 unfold judT at h;split at h
 ·exact absurd h (by decide)
 ·split at h
  ·exact absurd h (by decide)
  ·split at h
   ·exact absurd h (by decide)
   ·exact⟨by assumption,Classical.not_not.1 (by assumption),by assumption⟩
theorem jud_or(v:StV)(o:OpV):judT v o=5∨judT v o=6∨judT v o=8∨judT v o=1:=by
 unfold judT;split
 ·exact .inl rfl
 ·split
  ·exact .inr (.inl rfl)
  ·split
   ·exact .inr (.inr (.inl rfl))
   ·exact .inr (.inr (.inr rfl))
def comT(v:StV)(o:OpV):StV:=⟨v.cap,madeS (putP (whole v.sh.ps) (idOf o) o) v.sh.ps.length,v.n+1,v.os++idOf o⟩
def offT(v:StV)(o:OpV):StV:=if judT v o=1 then comT v o else v
theorem off_1{v:StV}{o:OpV}(h:judT v o=1):offT v o=comT v o:=if_pos h
theorem off_no{v:StV}{o:OpV}(h:judT v o≠1):offT v o=v:=if_neg h
def runT(v:StV)(l:List OpV):Nat→StV
 |0=>v
 |i+1=>offT (runT v l i) (l.getD i OpV.zero)
def runJ(v:StV)(l:List OpV):Nat→List Int
 |0=>[]
 |i+1=>runJ v l i++[judT (runT v l i) (l.getD i OpV.zero)]
theorem runJ_len(v:StV)(l:List OpV):∀i,(runJ v l i).length=i
 |0=>rfl
 |i+1=>by rw[runJ,List.length_append,runJ_len v l i];rfl
open Classical in
noncomputable def runE(v:StV)(l:List OpV):Int:=if ¬okT v then 8 else if 60<l.length then 4 else verL l
theorem runE_8{v:StV}{l:List OpV}(h:¬okT v):runE v l=8:=if_pos h
theorem runE_4{v:StV}{l:List OpV}(h:okT v)(h2:60<l.length):runE v l=4:=by unfold runE;rw[if_neg (not_not_intro h),if_pos h2]
theorem runE_v{v:StV}{l:List OpV}(h:okT v)(h2:¬60<l.length):runE v l=verL l:=by unfold runE;rw[if_neg (not_not_intro h),if_neg h2]
noncomputable def runS(v:StV)(l:List OpV):StV:=if runE v l=0 then runT v l l.length else StV.zero
noncomputable def runL(v:StV)(l:List OpV):List Int:=if runE v l=0 then runJ v l l.length else []
theorem run_yes{v:StV}{l:List OpV}(h:runE v l=0):runS v l=runT v l l.length∧runL v l=runJ v l l.length:=⟨if_pos h,if_pos h⟩
theorem run_no{v:StV}{l:List OpV}(h:runE v l≠0):runS v l=StV.zero∧runL v l=[]:=⟨if_neg h,if_neg h⟩
noncomputable def ofS(v:StV)(o:OpV):StV:=if askE v o=0 then offT v o else StV.zero
noncomputable def ofJ(v:StV)(o:OpV):Int:=if askE v o=0 then judT v o else 0
theorem of_yes{v:StV}{o:OpV}(h:askE v o=0):ofS v o=offT v o∧ofJ v o=judT v o:=⟨if_pos h,if_pos h⟩
theorem of_no{v:StV}{o:OpV}(h:askE v o≠0):ofS v o=StV.zero∧ofJ v o=0:=⟨if_neg h,if_neg h⟩
/-! ### what is valid stays valid -/
theorem plc_at{n:Nat}{os:List Int}{i:Nat}(hi:i<n):atS n os (idAt os i)<(i:Int)↔inS i os (idAt os i):=by
 have hin:inS n os (idAt os i):=⟨i,hi,rfl⟩
 have e:atS n os (idAt os i)=(ixS n os (idAt os i):Nat):=if_pos hin;obtain⟨h1,h2⟩:=ix_in hin;rw[e];constructor
 ·exact fun h=>⟨ixS n os (idAt os i),by omega,h2⟩
 ·rintro⟨j,hj,ej⟩;rcases Nat.lt_or_ge (ixS n os (idAt os i)) i with c|c
  ·omega
  ·have:∃k,k≤j∧idAt os k=idAt os i∧∀l,l<k→idAt os l≠idAt os i:=by
    clear h1 h2 e c
    induction j using Nat.strongRecOn with
    |_ j ih=>
     by_cases hex:∃l,l<j∧idAt os l=idAt os i
     ·obtain⟨l,hl,el⟩:=hex;obtain⟨k,hk,r⟩:=ih l hl (by omega) el;exact⟨k,by omega,r⟩
     ·exact⟨j,Nat.le_refl _,ej,fun l hl el=>hex ⟨l,hl,el⟩⟩
   obtain⟨k,hk,ek,hf⟩:=this;have:=ix_first (m:=n) (by omega) ek hf;omega
theorem allI_pre{os ps:List Int}{p n k:Nat}(hk:p≤k):allI p os n ps↔allI p (os.take (32*k)) n ps:=by
 have e:∀i,i<p→idAt (os.take (32*k)) i=idAt os i:=fun i hi=>by
  unfold idAt;rw[List.drop_take,List.take_take,Nat.min_eq_left (by omega)]
 exact⟨fun h j hj=>let ⟨i,hi,e1⟩:=h j hj;⟨i,hi,by rw[e i hi,e1]⟩,fun h j hj=>let ⟨i,hi,e1⟩:=h j hj;⟨i,hi,by rw[←e i hi,e1]⟩⟩
theorem inS_take{os x:List Int}{p k:Nat}(hk:p≤k):inS p os x↔inS p (os.take (32*k)) x:=by
 have e:∀i,i<p→idAt (os.take (32*k)) i=idAt os i:=fun i hi=>by
  unfold idAt;rw[List.drop_take,List.take_take,Nat.min_eq_left (by omega)]
 exact⟨fun⟨i,hi,e1⟩=>⟨i,hi,by rw[e i hi,e1]⟩,fun⟨i,hi,e1⟩=>⟨i,hi,by rw[←e i hi,e1]⟩⟩
theorem inS_app1{n:Nat}{os x y:List Int}(ho:os.length=32*n)(hx:x.length=32):inS (n+1) (os++x) y↔inS n os y∨y=x:=by
 rw[inS_app ho];have e:idAt x 0=x:=by unfold idAt;rw[Nat.mul_zero,List.drop_zero,List.take_of_length_le (by omega)]
 refine or_congr Iff.rfl ⟨fun⟨i,hi,h⟩=>?_,fun h=>⟨0,by omega,by rw[e,h]⟩⟩;obtain rfl:i=0:=by omega
 rw[←h,e]
theorem idAt_pre{n:Nat}{os x:List Int}(ho:os.length=32*n){i:Nat}(hi:i<n):idAt (os++x) i=idAt os i:=by rw[idAt_app ho,if_pos hi]
theorem idAt_new{n:Nat}{os x:List Int}(ho:os.length=32*n)(hx:x.length=32):idAt (os++x) n=x:=by
 rw[idAt_app ho,if_neg (Nat.lt_irrefl _),Nat.sub_self];unfold idAt;rw[Nat.mul_zero,List.drop_zero,List.take_of_length_le (by omega)]
theorem inS_pre{n:Nat}{os x y:List Int}(ho:os.length=32*n){i:Nat}(hi:i≤n):inS i (os++x) y↔inS i os y:=
 ⟨fun⟨j,hj,e⟩=>⟨j,hj,by rw[←e,idAt_pre ho (by omega)]⟩,fun⟨j,hj,e⟩=>⟨j,hj,by rw[←e,idAt_pre ho (by omega)]⟩⟩
theorem op_has{g:PG}{x:List Int}(h:inS g.m g.ids x):g.has x (g.opOf x):=⟨_,(ix_in h).1,(ix_in h).2,rfl⟩
structure StG(v:StV):Prop where
 ml:∀p∈v.sh.ps,p.ids.length=32*p.m
 os:v.os.length=32*v.n
structure StF(v:StV):Prop where
 fine:(whole v.sh.ps).fine
 m:(whole v.sh.ps).m=v.n
 cap:(1≤v.cap∧v.cap≤40)∧(v.n:Int)≤v.cap
 same:∀y,inS v.n v.os y↔inS (whole v.sh.ps).m (whole v.sh.ps).ids y
 ps:1≤v.sh.ps.length∧v.sh.ps.length≤4
 hs:v.sh.hs=hdI (whole v.sh.ps)
theorem ok_fineT{v:StV}(hg:StG v)(h:okT v):StF v:=by
 obtain⟨⟨h1,h2,h3,h4⟩,h5⟩:=h;obtain⟨p1,p2,p3,p4,p5⟩:=(ok_iff hg.ml).1 h2;have hw:=whole_good hg.ml;have hf:=(chkP_fine hw.1).1 p3;have hm:(whole v.sh.ps).m=v.n:=by omega
 refine⟨hf,hm,⟨h1,by omega⟩,fun y=>⟨fun⟨i,hi,e⟩=>e▸(h5 i hi).1,fun hy=>?_⟩,p1,p5⟩;have ho:OrdP (whole v.sh.ps) ((List.range v.n).map (idAt v.os)):=by
  refine⟨?_,fun x hx=>?_,by simp[hm],fun i hi o hh j hj=>?_⟩
  ·rw[List.nodup_iff_pairwise_ne,List.pairwise_map];refine List.Pairwise.imp_of_mem (R:=fun a b=>a<b) (fun {a b} ha hb hab e=>?_) List.pairwise_lt_range;exact(h5 b (List.mem_range.1 hb)).2.1 ⟨a,hab,e⟩
  ·obtain⟨i,hi,rfl⟩:=List.mem_map.1 hx;exact(h5 i (List.mem_range.1 hi)).1
  ·have hi':i<v.n:=by simpa using hi
   have e:((List.range v.n).map (idAt v.os)).getD i []=idAt v.os i:=by
    rw[getD_map_id (by simpa using hi'),List.getD_eq_getElem?_getD,List.getElem?_range hi'];rfl
   rw[e]at hh;have e2:o=(whole v.sh.ps).opOf (idAt v.os i):=has_fun hf.rising hh (op_has (h5 i hi').1);subst e2;obtain⟨k,hk,ek⟩:=(h5 i hi').2.2 j hj;rw[←ek,←List.map_take,List.take_range];exact List.mem_map.2 ⟨k,List.mem_range.2 (by omega),rfl⟩
 obtain⟨i,hi,e⟩:=List.mem_map.1 (ord_all ho hy);exact⟨i,List.mem_range.1 hi,e⟩
theorem com_add{v:StV}{o:OpV}(hg:StG v)(h:okT v)(hv:verE o=0)(hj:judT v o=1):addE (whole v.sh.ps) o=0∧addP (whole v.sh.ps) o=putP (whole v.sh.ps) (idOf o) o:=by
 have F:=ok_fineT hg h;obtain⟨j1,j2,j3⟩:=jud_is hj;have c:=F.cap;have a:addE (whole v.sh.ps) o=0:=addE_0 ((chkP_fine F.fine.good.1).2 F.fine) hv (fun k=>j1 ((F.same _).2 k)) (fun j hj=>(F.same _).1 (j2 j hj)) (by have:=F.m;omega);exact⟨a,(addP_yes a).1⟩
theorem com_ok{v:StV}{o:OpV}(hg:StG v)(h:okT v)(hv:verE o=0)(hj:judT v o=1):okT (comT v o)∧StG (comT v o)∧whole (comT v o).sh.ps=putP (whole v.sh.ps) (idOf o) o:=by
 have F:=ok_fineT hg h;obtain⟨a1,a2⟩:=com_add hg h hv hj;obtain⟨b1,b2,b3,b4,b5,b6⟩:=add_fine F.fine.good.1 a1;obtain⟨j1,j2,j3⟩:=jud_is hj;rw[a2]at b3 b4 b6;obtain⟨m1,m2⟩:=ok_made b3 F.ps;have hm:=F.m;have hcp:=F.cap;have hx:=idOf_len o;refine⟨⟨⟨F.cap.1,m1,?_,?_⟩,fun i hi=>?_⟩,⟨fun p hp=>((made_good b3.good b3.rising).mem hp).1.1,?_⟩,m2⟩
 ·show((putP (whole v.sh.ps) (idOf o) o).m:Int)≤v.cap;omega
 ·show((v.n+1:Nat):Int)=((putP (whole v.sh.ps) (idOf o) o).m:Nat);omega
 ·have e0:whole (comT v o).sh.ps=putP (whole v.sh.ps) (idOf o) o:=m2;rw[e0];show plcS _ (v.os++idOf o) i;have hi':i<v.n+1:=hi;rcases Nat.lt_or_ge i v.n with c|c
  ·obtain⟨q1,q2,q3⟩:=h.2 i c;have q1':inS (putP (whole v.sh.ps) (idOf o) o).m (putP (whole v.sh.ps) (idOf o) o).ids (idAt v.os i):=has_in.2 ⟨_,(b6 _ _).2 (.inl (op_has q1))⟩;have e:(putP (whole v.sh.ps) (idOf o) o).opOf (idAt v.os i)=(whole v.sh.ps).opOf (idAt v.os i):=has_fun b3.rising (op_has q1') ((b6 _ _).2 (.inl (op_has q1)));unfold plcS;rw[idAt_pre hg.os c,inS_pre hg.os (by omega),e];exact⟨q1',q2,fun j hj=>(inS_pre hg.os (by omega)).2 (q3 j hj)⟩
  ·obtain rfl:i=v.n:=by omega
   have q1':inS (putP (whole v.sh.ps) (idOf o) o).m (putP (whole v.sh.ps) (idOf o) o).ids (idOf o):=has_in.2 ⟨_,(b6 _ _).2 (.inr ⟨rfl,rfl⟩)⟩;have e:(putP (whole v.sh.ps) (idOf o) o).opOf (idOf o)=o:=has_fun b3.rising (op_has q1') ((b6 _ _).2 (.inr ⟨rfl,rfl⟩));unfold plcS;rw[idAt_new hg.os hx,inS_pre hg.os (Nat.le_refl _),e];exact⟨q1',j1,fun j hj=>(inS_pre hg.os (Nat.le_refl _)).2 (j2 j hj)⟩
 ·show(v.os++idOf o).length=32*(v.n+1);rw[List.length_append,hx,hg.os];omega
theorem off_ok{v:StV}{o:OpV}(hg:StG v)(h:okT v)(hv:verE o=0):okT (offT v o)∧StG (offT v o):=by
 by_cases c:judT v o=1
 ·rw[off_1 c];exact⟨(com_ok hg h hv c).1,(com_ok hg h hv c).2.1⟩
 ·rw[off_no c];exact⟨h,hg⟩
theorem run_ok{v:StV}{l:List OpV}(hg:StG v)(h:okT v)(hl:∀o∈l,verE o=0):∀i,i≤l.length→okT (runT v l i)∧StG (runT v l i)
 |0,_=>⟨h,hg⟩
 |i+1,hi=>by
  obtain⟨k1,k2⟩:=run_ok hg h hl i (by omega);rw[runT];exact off_ok k2 k1 (hl _ (by rw[getD_at (by omega)];exact List.getElem_mem _))
end S
namespace W
open Go.RowKit G
set_option maxRecDepth 20000
set_option maxHeartbeats 8000000
attribute [local irreducible] RS RX RY Code.wp bodyPost J Ent.blk Ent.iown Ent.wrow Ent.wown Ent.gown Ent.all Ent.emp
instance:Fld prog 27 1 1:=⟨_,_,3,underlying27,rfl,by kernel_rfl,by decide,rfl⟩
instance:Ents prog 62:=⟨.mk func62 (by kernel_rfl) rfl⟩
instance:Fld prog 27 2 4:=⟨_,_,1,underlying27,rfl,by kernel_rfl,by decide,rfl⟩
instance:Inf prog 27 5 88 [.int .i64 0, .slice none 0 0, .slice none 0 0, .int .i64 0, .slice none 0 0]:=⟨TI.of (v:= .agg #[.int .i64 0, .slice none 0 0, .slice none 0 0, .int .i64 0, .slice none 0 0]) (by kernel_rfl) rfl⟩
instance:Fld prog 27 0 0:=⟨_,_,1,underlying27,rfl,by kernel_rfl,by decide,rfl⟩
instance:Ents prog 77:=⟨.mk func77 (by kernel_rfl) rfl⟩
instance:SInf prog 27 [(0,1),(1,3),(4,1)]:=⟨_,underlying27,by kernel_rfl,by kernel_rfl⟩
instance:Siz prog 27 5:=⟨by kernel_rfl⟩
instance:Agg prog 27 5:=⟨_,underlying27,rfl,by kernel_rfl⟩
instance:Ents prog 75:=⟨.mk func75 (by kernel_rfl) rfl⟩
instance:Ents prog 29:=⟨.mk func29 (by kernel_rfl) rfl⟩
structure StA where
 (cap:Int)(sh:ShA)(oa:Option Addr)(on oc:Nat)(os:List Int)
@[reducible] def srC(s:StA):List Value:=[.int .i64 s.cap, .slice s.sh.pa s.sh.pn s.sh.pc, .slice s.sh.ha s.sh.hn s.sh.hc, .int .i64 s.sh.ver, .slice s.oa s.on s.oc]
@[reducible] def StA.V(s:StA):S.StV:=⟨s.cap,s.sh.V,s.on,s.os⟩
def StA.zero:StA:=⟨0,ShA.zero,none,0,0,[]⟩
structure StR(S0:Nat→Prop)(w:World)(s:StA):Prop where
 sh:ShR S0 w s.sh
 os:WRow .u8 32 S0 w s.oa s.on s.os
 cap:s.on≤s.oc∧s.on≤70
 L:ShL s.sh
theorem StR.ext{S0:Nat→Prop}{w w':World}{s:StA}(h:StR S0 w s)(x:Ext w w'):StR S0 w' s:=⟨h.sh.ext x,h.os.ext x,h.cap,h.L⟩
theorem StR.g{S0:Nat→Prop}{w:World}{s:StA}(h:StR S0 w s):S.StG s.V:=⟨h.sh.ml,h.os.len⟩
structure StI(S0:Nat→Prop)(w:World)(s:StA):Prop where
 sh:ShI S0 w s.sh
 os:WRow .u8 32 S0 w s.oa s.on s.os
 cap:s.on≤s.oc
theorem StI.ext{S0:Nat→Prop}{w w':World}{s:StA}(h:StI S0 w s)(x:Ext w w'):StI S0 w' s:=⟨h.sh.ext x,h.os.ext x,h.cap⟩
def StSm(s:StA):Prop:=ShSm s.sh∧s.on≤70
theorem StI.st{S0:Nat→Prop}{w:World}{s:StA}(h:StI S0 w s)(k:StSm s):StR S0 w s:=let ⟨a,b⟩:=h.sh.sh k.1;⟨a,h.os,⟨h.cap,k.2⟩,b⟩
@[reducible] def stE(s:StA):List Ent:=[shW s.sh, .wown 29 .u8 32 s.oa s.on s.oc s.os]
structure StK(v:S.StV)(s:StA):Prop where
 V:s.V=v
 k:∀g∈s.sh.gs,GrK g
structure StZ(v:S.StV):Prop where
 m:∀p∈v.sh.ps,p.m≤70∧p.ops.length≤70
 z:v.sh.ps.length≤6∧v.sh.hn≤100
 l:v.sh.ps.length≤4→S.allN v.sh.ps≤64
 n:v.n≤70
theorem StR.z{S0:Nat→Prop}{w:World}{s:StA}(h:StR S0 w s):StZ s.V:=by
 have hl:=h.sh.pr.len;have hll:s.sh.V.ps.length=s.sh.pn:=by rw[List.length_map,hl]
 have hcp:=h.sh.cap;refine⟨fun p hp=>?_,⟨?_,hcp.2.2.2⟩,fun k=>h.L (by have k':s.sh.V.ps.length≤4:=k;omega),h.cap.2⟩
 ·obtain⟨g,hg,rfl⟩:=List.mem_map.1 hp;have G:=h.sh.gi g hg;have h1:=G.cap;have h2:=G.len;exact⟨h1.2.2.1,by show g.ops.length≤70;omega⟩
 show s.sh.V.ps.length≤6;omega
theorem StK.own{S0:Nat→Prop}{w0:World}{L:List Ent}{s:StA}{v:S.StV}{F1:Ent→List Ent}{F2:Option Addr→Nat→Nat→List Int→List Ent}(h:StK v s)(z:StZ v)[R1:RE L (shW s.sh) F1][R2:RWO L s.oa 29 .u8 32 s.on s.oc s.os F2](w:World)(M:Mem S0 w0 L w):StR (fun _=>True) w s:=by
 obtain rfl:=h.V;obtain⟨B,_,b⟩:=M.get (R2.h s.oa s.on s.oc s.os).same;have b':=wown_row b;have hb:=(wown_len b).2;have hll:s.sh.V.ps.length=s.sh.gs.length:=List.length_map _;have hm:∀g∈s.sh.gs,g.m≤70∧g.ops.length≤70:=fun g hg=>z.m g.P (List.mem_map.2 ⟨g,hg,rfl⟩);have k:=ShR.ownB (R:=R1) h.k hm ⟨by have:=z.z.1;have k':s.sh.V.ps.length≤6:=this;omega,z.z.2⟩ w M;exact⟨k,b'.weaken fun _ _ _=>trivial,⟨hb,z.n⟩,fun hn=>z.l (by have:=k.pr.len;show s.sh.V.ps.length≤4;omega)⟩
theorem shOne{P:Program}{f:FuncId}{av:Array Value}{w w1:World}{v:ShA→Value}{p:ShA→Prop}(h:Calls P f av w1 (Gv w v (fun q=>shE q) p)):Calls P f av w1 (Gv w v (fun q=>[shW q]) p):=h.mono fun _ _ ⟨r,h1,h2,h3,h4⟩=>⟨r,h1,h2,h3,sep1 (all_i h4)⟩
theorem J.nilSh{S0:Nat→Prop}{w0:World}{L:List Ent}{X:World→Prop}(k:J S0 w0 (shW ShA.zero::L) X):J S0 w0 L X:=by
 refine J.nilWo 29 .u8 32 ?_;refine J.noA ?_;refine J.nilG (fun g:GrA=>grC g) 2 57 grC_len ?_;refine J.pair (.gown (fun g:GrA=>grC g) 2 57 none 0 0 []) (.all []) ?_;refine J.snocA [.gown (fun g:GrA=>grC g) 2 57 none 0 0 [], .all []] (.wown 29 .u8 32 none 0 0 []) ?_;refine J.re (.all ([.gown (fun g:GrA=>grC g) 2 57 none 0 0 [], .all []]++[.wown 29 .u8 32 none 0 0 []])) (shW ShA.zero) (fun _ _ h=>by unfold shW;exact h) ?_;exact J.drop (E:=shW ShA.zero::L) (by repeat(first|exact List.Sublist.refl _|refine List.Sublist.cons_cons _ ?_|refine List.Sublist.cons _ ?_)) k
theorem stZero{v:S.StV}(h:v=S.StV.zero):StK v StA.zero:=⟨h.symm,fun g hg=>by cases hg⟩
theorem refStGreat{S0:Nat→Prop}(s:StA)(w:World)(H:StI S0 w s):
  Calls prog 15 #[.agg (srC s).toArray] w (Gv w (fun q:Bool=> .bool q) (fun _=>[]) fun q=>q=false→StSm s):=by
 refine J.enter 11 func15 rfl rfl ?_;refine run ?_;refine J.box rfl rfl rfl fun b1=>?_
 refine run ?_;refine J.call rfl rfl (fun w' M=>refShGreat s.sh w' (H.sh.ext M.ext)) fun q hq=>?_
 refine run ?_;refine J.sp rfl rfl rfl (fun c1=>?_) (fun c1=>?_)
 ·refine run ?_;exact J.finG true rfl (fun h=>by cases h) (List.nil_sublist _)
 refine run ?_;refine J.finG _ rfl (fun h=>⟨hq c1,?_⟩) (List.nil_sublist _);have h2:=of_decide_eq_false h;omega
theorem refStTwin{S0:Nat→Prop}(s:StA)(w:World)(H:StR S0 w s):
  Calls prog 33 #[.agg (srC s).toArray] w (Gv w (fun q:StA=> .agg (srC q).toArray) (fun q=>stE q) (StK s.V)):=by
 have hO:=H.os;have hcp:=H.cap;refine J.enter 12 func33 rfl rfl ?_;refine run ?_;refine J.box rfl rfl rfl fun b1=>?_
 refine J.alloc rfl fun b2=>?_
 refine run ?_;refine J.regionW [.blk b1 (srC s) 27] mixed ?_;refine J.wnode [(0, .q),(1, .q),(2, .q),(3, .q),(6, .q),(7, .q)] [4,5] 4 #[true,true,true,true,false,false,true,true,false,false,false] (by kernel_rfl) ?_;refine run ?_;refine J.nil ?_;refine J.wbr ?_ ?_
 ·refine J.call rfl rfl (fun w' M=>shOne (refShTwin s.sh w' (H.sh.ext M.ext))) fun q hq=>?_
  refine J.nil ?_;refine J.wfin [(5, .e),(8, .e),(9, .q),(10, .e)] (by kernel_rfl) ?_;refine run ?_;refine J.b0W .u8 rfl fun b3=>?_
  refine run ?_;refine J.apW rfl rfl (RW.arg hO) fun a' c'=>?_
  rw[Nat.zero_add s.on,List.nil_append s.os];refine run ?_;refine run ?_;refine run ?_;refine J.front (.wown 29 .u8 32 a' s.on c' s.os) ?_;refine J.front (shW q) ?_;exact J.finG ⟨s.cap,q,a',s.on,c',s.os⟩ rfl ⟨by unfold StA.V;dsimp only;rw[hq.V],hq.k⟩ sb
 refine J.wbr ?_ ?_
 ·refine J.b0W .u8 rfl fun b3=>?_
  refine J.nil ?_;refine J.wfin [(4, .e),(8, .e),(9, .q),(10, .e)] (by kernel_rfl) ?_;refine run ?_;refine J.call rfl rfl (fun w' M=>shOne (refShTwin s.sh w' (H.sh.ext M.ext))) fun q hq=>?_
  refine run ?_;refine J.apW rfl rfl (RW.arg hO) fun a' c'=>?_
  rw[Nat.zero_add s.on,List.nil_append s.os];refine run ?_;refine run ?_;refine run ?_;refine J.front (.wown 29 .u8 32 a' s.on c' s.os) ?_;refine J.front (shW q) ?_;exact J.finG ⟨s.cap,q,a',s.on,c',s.os⟩ rfl ⟨by unfold StA.V;dsimp only;rw[hq.V],hq.k⟩ sb
 exact J.wbr0
theorem refStSame{S0 S1:Nat→Prop}(a b:StA)(w:World)(H:StR S0 w a)(K:StR S1 w b):
  Calls prog 27 #[.agg (srC a).toArray, .agg (srC b).toArray] w (Ret w fun v _=>v= .bool (decide (S.eqT a.V b.V))):=by
 have h1:=H.cap;have h2:=K.cap;refine J.enter 22 func27 rfl rfl ?_;refine run ?_;refine J.box rfl rfl rfl fun b1=>?_
 refine run ?_;refine J.box rfl rfl rfl fun b2=>?_
 refine run ?_;refine J.spe rfl rfl rfl (fun c1=>?_) (fun c1=>?_)
 ·refine run ?_;refine J.callp rfl rfl (fun w' M=>refShSame a.sh b.sh w' (H.sh.ext M.ext) (K.sh.ext M.ext)) ?_;refine run ?_;refine J.spd rfl rfl rfl (fun c2=>?_) (fun c2=>?_)
  ·refine run ?_;refine J.callp rfl rfl (fun w' M=>sameIDs _ _ _ _ _ _ _ _ _ (H.os.ext M.ext) (K.os.ext M.ext) (by omega) (by omega)) ?_;refine run ?_;exact J.fin (congrArg _ (decide_eq_decide.2 ⟨fun h=>⟨c1,c2,h⟩,fun h=>h.2.2⟩))
  refine run ?_;exact J.fin (congrArg _ (decide_eq_false fun h=>c2 h.2.1).symm)
 refine run ?_;exact J.fin (congrArg _ (decide_eq_false fun h=>c1 h.1).symm)
theorem refStCheck{S0:Nat→Prop}(s:StA)(w:World)(H:StR S0 w s):
  Calls prog 29 #[.agg (srC s).toArray] w (Ret w fun v _=>v= .int .i64 (S.chkT s.V)):=by
 have hcp:=H.cap;have hO:=H.os;have hwg:=S.whole_good (ps:=s.sh.V.ps) H.sh.ml;refine J.enter 82 func29 rfl rfl ?_;refine run ?_;refine J.box rfl rfl rfl fun b1=>?_
 refine run ?_;refine J.spd rfl rfl rfl (fun c1=>?_) (fun c1=>?_)
 ·refine run ?_;exact J.fin (congrArg _ (S.chkT_8 fun h=>by have h1:1≤s.cap:=h.1.1.1;omega).symm)
 refine run ?_;refine J.spd rfl rfl rfl (fun c2=>?_) (fun c2=>?_)
 ·refine run ?_;exact J.fin (congrArg _ (S.chkT_8 fun h=>by have h1:s.cap≤40:=h.1.1.2;omega).symm)
 refine run ?_;refine J.callp rfl rfl (fun w' M=>refShCheck s.sh w' (H.sh.ext M.ext) H.L) ?_;refine run ?_;refine J.spn rfl rfl rfl (fun c3=>?_) (fun c3=>?_)
 ·refine run ?_;exact J.fin (congrArg _ (S.chkT_8 fun h=>c3 (S.chkH_0 h.1.2.1)).symm)
 have hok:=S.chkH_iff.1 c3;obtain⟨n1,n4⟩:=ok_len H.sh hok;refine run ?_;refine J.spd rfl rfl rfl (fun c4=>?_) (fun c4=>?_)
 ·refine run ?_;exact J.fin (congrArg _ (S.chkT_8 fun h=>by have h1:s.sh.ver≤s.cap:=h.1.2.2.1;omega).symm)
 refine run ?_;refine J.ifn rfl (fun c5=>?_) (fun c5=>?_)
 ·refine run ?_;exact J.fin (congrArg _ (S.chkT_8 fun h=>c5 h.1.2.2.2).symm)
 have hle:=H.sh.le H.L n4;have hfst:(1≤s.V.cap∧s.V.cap≤40)∧S.okR s.V.sh∧s.V.sh.ver≤s.V.cap∧(s.V.n:Int)=s.V.sh.ver:=⟨⟨by show 1≤s.cap;omega,by show s.cap≤40;omega⟩,hok,by show s.sh.ver≤s.cap;omega,c5⟩
 refine run ?_;refine J.call rfl rfl (fun w' M=>refWhole s.sh w' (H.sh.ext M.ext) H.L n4) fun q hq=>?_
 dsimp only[grE,List.cons_append,List.nil_append];have hqs:q.m≤70∧q.n≤70:=⟨by rw[hq.m];omega,by rw[hq.n,hwg.2];omega⟩
 have hqok:=hq.ok (refWholeOk H.sh);have hqn:q.n=q.m:=by rw[hq.n,hwg.2,hq.m]
 have hqi:=hq.ids;have hqm:=hq.m;have hqo:=hq.ops;refine run ?_;refine J.alloc rfl fun b3=>?_
 refine run ?_;refine J.loopS (A:=Nat) (fun p=>[(4, .int .i64 (p:Nat))]) [5,40,41,42,43,44,45,46,47,48,49,50,51,52,53,54,55,56,57,58,59,60,61,62,63,64,65,66,67,68,69,70,71,72,73,74,75,76,77,78,79,80,81,82] (fun p=>p≤s.on∧∀i,i<p→S.plcS (S.whole s.sh.V.ps) s.os i) (fun p=>s.on - p) 0 (by kernel_rfl) ⟨Nat.zero_le _,fun i hi=>by omega⟩ (fun p j hI=>?_);obtain⟨hp,hI⟩:=hI;refine run ?_;refine J.ifd rfl (fun d1=>?_) (fun d1=>?_)
 ·have hpl:p<s.on:=by omega
  obtain⟨y,hy⟩:=ex (elt 32 s.os ((p:Nat):Int).toNat);have hy':S.idAt s.os p=y:=by rw[hy,Int.toNat_natCast];rfl
  have hyA:Arr .u8 32 y:=hy▸hO.elt_arr (by omega);have no:∀ {e:Prop},(S.plcS (S.whole s.sh.V.ps) s.os p→e)→¬e→¬S.okT s.V:=fun h1 h2 h=>h2 (h1 (h.2 p hpl));have hplc:S.plcS (S.whole s.sh.V.ps) s.os p↔S.inS q.m q.ids y∧¬S.inS p s.os y∧S.allI p s.os ((S.whole s.sh.V.ps).opOf y).n ((S.whole s.sh.V.ps).opOf y).ids:=by
   unfold S.plcS;rw[hy',hqi,hqm]
  refine run ?_;refine J.regionX [(0, .q),(1, .q),(2, .q),(3, .q),(4, .q),(5, .q),(6, .q),(7, .e),(8, .q)] mixed (by kernel_rfl) ?_;refine run ?_;refine J.callp rfl rfl (fun w' M=>(RW.own' (a:=q.ia) w' M).elim fun _ k0=>refAt _ _ _ _ _ w' k0 hyA (by omega)) ?_;refine run ?_;refine J.regionX [(0, .q),(1, .q),(2, .q),(3, .q),(4, .q),(5, .q),(6, .q),(7, .q),(8, .q),(9, .q),(11, .q),(10, .e),(12, .q),(13, .q),(14, .q),(15, .q),(16, .q),(17, .q),(18, .q),(19, .q),(20, .q),(21, .q),(22, .q),(23, .q),(24, .q),(25, .e),(26, .q),(27, .q)] mixed (by kernel_rfl) ?_;refine run ?_;refine J.spd rfl rfl rfl (fun d2=>?_) (fun d2=>?_)
  ·refine run ?_;exact J.fin (congrArg _ (S.chkT_8 (no (fun h=>(hplc.1 h).1) (S.at_neg.1 d2))).symm)
  have hat:=S.at_val (show 0≤S.atS q.m q.ids y by omega);have hin:S.inS q.m q.ids y:=Classical.not_not.1 fun h=>d2 (S.at_neg.2 h);have hix:=(S.ix_in hin).1;refine run ?_;refine J.callp rfl rfl (fun w' M=>refAt _ _ _ _ _ w' (hO.ext M.ext) hyA (by omega)) ?_;refine run ?_;have hpa:=S.plc_at (os:=s.os) hpl;rw[hy']at hpa;refine J.spd rfl rfl rfl (fun d3=>?_) (fun d3=>?_)
  ·refine run ?_;exact J.fin (congrArg _ (S.chkT_8 (no (fun h=>(hplc.1 h).2.1) (not_not_intro (hpa.1 d3)))).symm)
  rw[hat];obtain⟨z,hz⟩:∃z,q.zs[((S.ixS q.m q.ids y:Nat):Int).toNat]? =some z:=⟨q.zs[S.ixS q.m q.ids y]'(by have h:=congrArg List.length hqo;unfold GrA.ops at h;rw[List.length_map,hwg.2,←hqm]at h;omega),by rw[Int.toNat_natCast];exact List.getElem?_eq_getElem _⟩
  have hz':=hz;rw[Int.toNat_natCast]at hz';have hzo:z.o=(S.whole s.sh.V.ps).opOf y:=by
   have e:=GrA.opAt hz';rw[←e,hqo,hqi,hqm];rfl
  have hzn:z.o.n≤40:=(hqok z (List.mem_of_getElem? hz')).n;refine run ?_;refine J.callp rfl rfl (fun w' M=>refAll _ _ _ _ _ _ _ _ w' (wTk (hO.ext M.ext) p s.oc (by omega) (by omega)) ((GrR.own hqok hq.cap hqs w' M).op hz').row (by omega) (by omega)) ?_;refine run ?_;refine J.ifnot rfl (fun d4=>?_) (fun d4=>?_)
  ·refine run ?_
   exact J.fin (congrArg _ (S.chkT_8 (no (fun h => (hplc.1 h).2.2) (by
    have h4 := of_decide_eq_false d4
    rw [hzo] at h4
    exact fun k => h4 ((S.allI_pre (Nat.le_refl _)).1 k)))).symm)
  refine run ?_;refine J.nextS (p+1) ⟨rfl,trivial⟩ (by kernel_rfl) ⟨by omega,fun i hi=>?_⟩ (by omega);rcases Nat.lt_or_ge i p with c|c
  ·exact hI i c
  obtain rfl:i=p:=by omega
  have h4:=of_decide_eq_true d4;rw[hzo]at h4;exact hplc.2 ⟨hin,fun h=>d3 (hpa.2 h),(S.allI_pre (Nat.le_refl _)).2 h4⟩
 refine run ?_;exact J.fin (congrArg _ (S.chkT_0 ⟨hfst,fun i hi=>hI i (by have hi':i<s.on:=hi;omega)⟩).symm)
theorem refStHas{S0:Nat→Prop}(s:StA)(x:List Int)(w:World)(H:StR S0 w s)(hx:Arr .u8 32 x):
  Calls prog 20 #[.agg (srC s).toArray, .agg (ints .u8 x).toArray] w (Ret w fun v _=>v= .tuple #[.bool (S.hasT s.V x), .int .i64 (S.chkT s.V)]):=by
 have hcp:=H.cap;refine J.enter 12 func20 rfl rfl ?_;refine run ?_;refine J.box rfl rfl rfl fun b1=>?_
 refine run ?_;refine J.box rfl rfl rfl fun b2=>?_
 refine run ?_;refine J.callp rfl rfl (fun w' M=>refStCheck s w' (H.ext M.ext)) ?_;refine run ?_;refine J.ifn rfl (fun c1=>?_) (fun c1=>?_)
 ·obtain⟨k1,k2⟩:=S.chkT_ne c1;refine run ?_;exact J.fin (tup2 (congrArg _ (S.hasT_8 k1).symm) (congrArg _ k2.symm))
 refine run ?_;refine J.callp rfl rfl (fun w' M=>refAt _ _ _ _ _ w' (H.os.ext M.ext) hx (by omega)) ?_;refine run ?_;exact J.fin (tup2 (congrArg _ (by rw[S.hasT_0 (S.chkT_iff.1 c1)];exact decide_eq_decide.2 (by rw[←Int.not_lt,S.at_neg,Classical.not_not]))) (congrArg _ c1.symm))
theorem refStGraph{S0:Nat→Prop}(s:StA)(w:World)(H:StR S0 w s):
  Calls prog 24 #[.agg (srC s).toArray] w (Gv w (fun q:GrA=> .tuple #[.agg (grC q).toArray, .int .i64 (S.chkT s.V)]) (grE 29 39) (GrP (S.grT s.V).m (S.grT s.V).ids (S.grT s.V).ops)):=by
 refine J.enter 10 func24 rfl rfl ?_;refine run ?_;refine J.box rfl rfl rfl fun b1=>?_
 refine J.alloc rfl fun b2=>?_
 refine run ?_;refine J.callp rfl rfl (fun w' M=>refStCheck s w' (H.ext M.ext)) ?_;refine run ?_;refine J.ifn rfl (fun c1=>?_) (fun c1=>?_)
 ·obtain⟨k1,k2⟩:=S.chkT_ne c1;rw[k2,S.grT_8 k1];refine run ?_;refine J.nilGr 29 39 ?_;exact J.finG GrA.nil rfl GrP.nil sb
 have hok:=S.chkT_iff.1 c1;obtain⟨n1,n4⟩:=ok_len H.sh hok.1.2.1;rw[c1,S.grT_0 hok];refine run ?_;refine J.call rfl rfl (fun w' M=>refWhole s.sh w' (H.sh.ext M.ext) H.L n4) fun q hq=>?_
 dsimp only[grE,List.cons_append,List.nil_append];refine run ?_;exact J.finG q rfl hq sb
end W
namespace L
open Go Go.Proofs.YtaapnlnileblaaaGreatDoor G W
open Go.ChangeShapes Go.WideShapes Go.ChangeAt Go.RowKit
set_option maxRecDepth 100000
theorem z_store:prog.cellsOf 27=5:=by kernel_rfl
section
variable{H:Type}{enc:TypeId×Value→H}{w:World}{base:Nat}{sp:Nat→Bool}{held:Bool}{fuel:Nat}{cs:List Value}{x:DataW H×List MemPlace}
theorem store_in(h:DataW.trod enc prog w base sp held fuel 27 cs=some x):∃s:StA,cs=srC s∧StI (fun _=>True) w s:=by
  have hl:=(fields_in underlying27 h).1;rw[z_store]at hl
  match cs,hl,h with
  |[c0,c1,c2,c3,c4],_,h=>
    obtain⟨_,_,f0⟩:=field_in 0 underlying27 rfl z_shint h;obtain⟨_,_,f1⟩:=field_in 1 underlying27 rfl z_shards h;obtain⟨_,_,f2⟩:=field_in 2 underlying27 rfl z_ids h;obtain⟨cap,e0,_⟩:=int_in underlying3 f0;obtain⟨s,e1,hS⟩:=shards_in f1;obtain⟨oa,on,oc,os,e2,c2',R2⟩:=ids_in underlying23 underlying29 underlying5 z_u8 z_id (by decide) f2;have q0:[c0]=[Value.int .i64 cap]:=e0;have q1:[c1,c2,c3]=[Value.slice s.pa s.pn s.pc,Value.slice s.ha s.hn s.hc,Value.int .i64 s.ver]:=e1;have q2:[c4]=[Value.slice oa on oc]:=e2;simp only[List.cons.injEq,and_true]at q0 q1 q2;obtain⟨q1,q3,q4⟩:=q1;subst q0 q1 q2 q3 q4;exact⟨⟨cap,s,oa,on,oc,os⟩,rfl,hS,R2,c2'⟩
end
end L
namespace G
open Go.RowKit
section
variable{P:Program}{w:World}
theorem D.sliceM{l:List Value}{x hi mx:Operand}{t e sz:Nat}{a:Option Addr}{n c:Nat}{j k:Int}{dd:Option Tmp}{ty:TypeId}{pos:String}{af:Array Edge}{g:Option (Nat×Bool)}(hx:ev l x= .slice a n c)(h2:ev l hi= .int .i64 j)(h3:ev l mx= .int .i64 k)
  (hu:P.underlying t=some (.slice e))(hs:P.cellsOf e=sz)(hz:sz≠0)(hb:0≤j∧j≤k∧k≤c):
  (execOp (ev l) ⟨dd, .slice t x none (some hi) (some mx),ty,pos,af,g⟩).run P w= .ok (.value (.slice (subA a 0 sz k.toNat) j.toNat k.toNat)) w:=by
 have h0:0≤j:=by omega
 have hk:0≤k:=by omega
 have e1:max k 0=k:=Int.max_eq_left hk;have e2:max j 0=j:=Int.max_eq_left h0;have hsz:=size_run (P:=P) (w:=w) hs hz;simp only[execOp];rw[hx];simp[Instr.sliceAt,Instr.slice,run_underlying hu,Instr.sliceBounds,Instr.sliceBound,h2,h3,asIntOf,hb,h0,hk,e1,e2,hsz,subA]
end
section
variable{S0:Nat→Prop}{w0:World}{L:List Ent}{P:Program}{ops:Array Oper}{K:List Value→World→Prop}{rest:List (Oper×Kd)}{l l':List Value}{m:Md}{d:Tmp}{ty xt t e:TypeId}{pos:String}{af:Array Edge}{kd:Kd}{x y hi mx:Operand}{sz by_:Nat}{zs:List Value}
theorem J.slM{a:Option Addr}{n c:Nat}(j k:Nat)[U:Und P xt (.slice e)][Z:Siz P e sz](hk:pureK kd=true)(hx:ev l x= .slice a n c)(h2:ev l hi= .int .i64 (j:Nat))(h3:ev l mx= .int .i64 (k:Nat))(kk:J S0 w0 L (RY S0 w0 m P ops K rest l'))(hz:sz≠0:=by decide)(hb:j≤k∧k≤c:=by omega)
  (hl:l.set d (.slice (subA a 0 sz k) j k)=l':=by dsimp only[List.set]):
  J S0 w0 L (RY S0 w0 m P ops K ((⟨some d, .slice xt x none (some hi) (some mx),ty,pos,af,none⟩,kd)::rest) l):=
 J.pur hk (fun _=>D.sliceM (j:=((j:Nat):Int)) (k:=((k:Nat):Int)) hx h2 h3 U.h Z.h hz (by omega)) kk hl
end
end G
namespace W
open Go.RowKit G
set_option maxRecDepth 20000
set_option maxHeartbeats 8000000
attribute [local irreducible] RS RX RY Code.wp bodyPost J Ent.blk Ent.iown Ent.wrow Ent.wown Ent.gown Ent.all Ent.emp
instance:Ents prog 117:=⟨.mk func117 (by kernel_rfl) rfl⟩
instance:Ents prog 113:=⟨.mk func113 (by kernel_rfl) rfl⟩
instance:Inf prog 23 1 24 [.slice none 0 0]:=⟨TI.of (v:= .slice none 0 0) (by kernel_rfl) rfl⟩
instance:Ents prog 71:=⟨.mk func71 (by kernel_rfl) rfl⟩
instance:Ents prog 28:=⟨.mk func28 (by kernel_rfl) rfl⟩
theorem stGr1{S0:Nat→Prop}(a:Option Addr)(p c:Nat)(os x:List Int)(b:Nat)(T:TypeId)(w:World)(hB:Blk w b [.slice a p c] T)(D0:WRow .u8 32 S0 w a p os)(hx:Arr .u8 32 x)(hp:p≤1000):
  Calls prog 117 #[.agg (ints .u8 x).toArray, .pointer (some ⟨b,0,none⟩)] w (Ret w fun v _=>v= .bool (decide (¬S.inS p os x))):=by
 refine J.enter 6 func117 rfl rfl ?_;refine run ?_;refine J.box rfl rfl rfl fun b1=>?_
 refine run ?_;refine J.ldOq hB rfl ?_;refine run ?_;refine J.callp rfl rfl (fun w' M=>hasID _ _ _ _ _ w' (D0.ext M.ext) hx (by omega)) ?_;refine run ?_;exact J.fin (congrArg _ (by simp))
theorem idxGr1{S0 S1:Nat→Prop}(ba:Option Addr)(p bc:Nat)(os:List Int)(a:Option Addr)(n c:Nat)(ps:List Int)(b:Nat)(T:TypeId)(w:World)(hB:Blk w b [.slice ba p bc] T)(D0:WRow .u8 32 S0 w ba p os)(D1:WRow .u8 32 S1 w a n ps)(hp:p≤1000)(hn:n≤1000):
  Calls prog 169 #[.slice a n c, .func (.func 117) #[] #[.pointer (some ⟨b,0,none⟩)]] w (Gv w (fun r:Int=> .int .i64 r) (fun _=>[]) fun r=>0≤r↔¬S.allI p os n ps):=by
 have hl:=D1.len;refine J.enter 17 func169 rfl rfl ?_;refine run ?_;refine J.loopS (A:=Int) (fun p=>[(8, .int .i64 p)]) [4,5,9,10,11,12,13,14,15,16,17,18] (fun q=>(0≤q∧q≤n)∧∀i,i<q.toNat→S.inS p os (S.idAt ps i)) (fun q=>n - q.toNat) 0 (by kernel_rfl) ⟨by omega,fun i hi=>by omega⟩ (fun q j hI=>?_);obtain⟨h1,hI⟩:=hI;refine run ?_;refine J.ifd rfl (fun c1=>?_) (fun c1=>?_)
 ·refine run ?_;refine J.callvp rfl rfl rfl (fun w' M=>stGr1 ba p bc os _ b T w' (hB.ext M.ext) (D0.ext M.ext) (D1.elt_arr (by omega)) hp) ?_;refine run ?_;refine J.ifd rfl (fun c2=>?_) (fun c2=>?_)
  ·refine run ?_;exact J.finG q rfl ⟨fun _ h=>c2 (h q.toNat (by omega)),fun _=>by omega⟩ (List.nil_sublist _)
  refine run ?_;refine J.nextS (q+1) ⟨rfl,trivial⟩ (by kernel_rfl) ⟨by omega,fun i hi=>?_⟩ (by omega);rcases Nat.lt_or_ge i q.toNat with e|e
  ·exact hI i e
  obtain rfl:i=q.toNat:=by omega
  exact Classical.not_not.1 c2
 refine run ?_;exact J.finG (-1) rfl ⟨fun h=>by omega,fun h=>absurd (fun i hi=>hI i (by omega)) h⟩ (List.nil_sublist _)
theorem hasGr1{S0 S1:Nat→Prop}(ba:Option Addr)(p bc:Nat)(os:List Int)(a:Option Addr)(n c:Nat)(ps:List Int)(b:Nat)(T:TypeId)(w:World)(hB:Blk w b [.slice ba p bc] T)(D0:WRow .u8 32 S0 w ba p os)(D1:WRow .u8 32 S1 w a n ps)(hp:p≤1000)(hn:n≤1000):
  Calls prog 116 #[.slice a n c, .func (.func 117) #[] #[.pointer (some ⟨b,0,none⟩)]] w (Ret w fun v _=>v= .bool (decide (¬S.allI p os n ps))):=by
 refine J.enter 7 func116 rfl rfl ?_;refine run ?_;refine J.call rfl rfl (fun w' M=>idxGr1 ba p bc os a n c ps b T w' (hB.ext M.ext) (D0.ext M.ext) (D1.ext M.ext) hp hn) fun r hr2=>?_
 refine run ?_;exact J.fin (congrArg _ (decide_eq_decide.2 hr2))
theorem stGraph0{S0:Nat→Prop}(s:StA)(TK:TypeId)(w:World)(K0:Kst w TK)(H:StR S0 w s):
  Calls prog 71 #[.agg (srC s).toArray] w (Gv w (fun q:GrA=> .tuple #[.agg (grC q).toArray, .int .i64 (S.chkT s.V)]) (grE 29 39) (GrP (S.grT s.V).m (S.grT s.V).ids (S.grT s.V).ops)):=by
 have hcp:=H.cap;have hO:=H.os;have hwg:=S.whole_good (ps:=s.sh.V.ps) H.sh.ml;have bad:¬S.okT s.V→S.chkT s.V=8∧S.grT s.V=S.PG.nil:=fun h=>⟨S.chkT_8 h,S.grT_8 h⟩
 refine J.enter 86 func71 rfl rfl ?_;refine run ?_;refine J.box rfl rfl rfl fun b1=>?_
 refine J.alloc rfl fun b2=>?_
 refine run ?_;refine J.call rfl rfl (fun w' M=>shAll s.sh TK w' (K0.ext M.ext) (H.sh.ext M.ext) H.L) fun q hq=>?_
 dsimp only[grE,List.cons_append,List.nil_append];refine run ?_;refine J.alloc rfl fun b4=>?_
 refine run ?_;refine J.spn rfl rfl rfl (fun c1=>?_) (fun c1=>?_)
 ·obtain⟨e1,e2⟩:=bad fun h=>c1 (S.chkH_0 h.1.2.1);rw[e1,e2];refine run ?_;refine J.nilGr 29 39 ?_;exact J.finG GrA.nil rfl GrP.nil sb
 have hok:=S.chkH_iff.1 c1;obtain⟨n1,n4⟩:=ok_len H.sh hok;have hle:=H.sh.le H.L n4;rw[S.al_0 hok]at hq;have hver:s.sh.ver=((S.whole s.sh.V.ps).m:Nat):=((S.ok_iff (v:=s.sh.V) H.sh.ml).1 hok).2.2.2.1;have hqs:q.m≤70∧q.n≤70:=⟨by rw[hq.m];omega,by rw[hq.n,hwg.2];omega⟩
 have hqok:=hq.ok (refWholeOk H.sh);have hqi:=hq.ids;have hqm:=hq.m;have hqo:=hq.ops;refine run ?_;refine J.spd rfl rfl rfl (fun c2=>?_) (fun c2=>?_)
 ·obtain⟨e1,e2⟩:=bad fun h=>by have h1:1≤s.cap:=h.1.1.1;omega
  rw[e1,e2];refine run ?_;refine J.nilGr 29 39 ?_;exact J.finG GrA.nil rfl GrP.nil sb
 refine run ?_;refine J.spd rfl rfl rfl (fun c3=>?_) (fun c3=>?_)
 ·obtain⟨e1,e2⟩:=bad fun h=>by have h1:s.cap≤40:=h.1.1.2;omega
  rw[e1,e2];refine run ?_;refine J.nilGr 29 39 ?_;exact J.finG GrA.nil rfl GrP.nil sb
 refine run ?_;refine J.spd rfl rfl rfl (fun c4=>?_) (fun c4=>?_)
 ·obtain⟨e1,e2⟩:=bad fun h=>by have h1:s.sh.ver≤s.cap:=h.1.2.2.1;omega
  rw[e1,e2];refine run ?_;refine J.nilGr 29 39 ?_;exact J.finG GrA.nil rfl GrP.nil sb
 refine run ?_;refine J.ifn rfl (fun c5=>?_) (fun c5=>?_)
 ·obtain⟨e1,e2⟩:=bad fun h=>c5 (by have h1:(s.on:Int)=s.sh.ver:=h.1.2.2.2;rw[h1,hver,hqm]);rw[e1,e2];refine run ?_;refine J.nilGr 29 39 ?_;exact J.finG GrA.nil rfl GrP.nil sb
 have hfst:(1≤s.V.cap∧s.V.cap≤40)∧S.okR s.V.sh∧s.V.sh.ver≤s.V.cap∧(s.V.n:Int)=s.V.sh.ver:=⟨⟨by show 1≤s.cap;omega,by show s.cap≤40;omega⟩,hok,by show s.sh.ver≤s.cap;omega,by show(s.on:Int)=s.sh.ver;rw[hver,←hqm];exact c5⟩
 have hris:S.Rising q.m q.ids:=by
  rw[hqm,hqi];exact((S.chkP_fine hwg.1).1 hok.2.1).rising
 refine run ?_;refine J.loopS (A:=Nat) (fun p=>[(50, .int .i64 (p:Nat))]) [6,7,8,9,10,51,52,53,54,55,56,57,58,59,60,61,62,63,64,65,66,67,68,69,70,71,72,73,74,75,76,77,78,79,80,81,82,83,84,85] (fun p=>p≤s.on∧∀i,i<p→S.plcS (S.whole s.sh.V.ps) s.os i) (fun p=>s.on - p) 0 (by kernel_rfl) ⟨Nat.zero_le _,fun i hi=>by omega⟩ (fun p j hI=>?_);obtain⟨hp,hI⟩:=hI;refine run ?_;refine J.ifd rfl (fun d1=>?_) (fun d1=>?_)
 ·have hpl:p<s.on:=by omega
  obtain⟨y,hy⟩:=ex (elt 32 s.os ((p:Nat):Int).toNat);have hy':S.idAt s.os p=y:=by rw[hy,Int.toNat_natCast];rfl
  have hyA:Arr .u8 32 y:=hy▸hO.elt_arr (by omega);have no:∀ {e:Prop},(S.plcS (S.whole s.sh.V.ps) s.os p→e)→¬e→¬S.okT s.V:=fun h1 h2 h=>h2 (h1 (h.2 p hpl));have hplc:S.plcS (S.whole s.sh.V.ps) s.os p↔S.inS q.m q.ids y∧¬S.inS p s.os y∧S.allI p s.os ((S.whole s.sh.V.ps).opOf y).n ((S.whole s.sh.V.ps).opOf y).ids:=by
   unfold S.plcS;rw[hy',hqi,hqm]
  refine run ?_;refine J.alloc rfl fun b5=>?_
  refine run ?_;refine J.slM p p rfl rfl rfl rfl ?_;refine run ?_;refine J.alloc rfl fun b6=>?_
  refine run ?_;refine J.callp rfl rfl (fun w' M=>(RW.own' (a:=q.ia) w' M).elim fun _ k0=>bsID _ _ _ _ _ w' k0 hyA hris (by omega)) ?_;refine run ?_;refine J.spt rfl rfl rfl (fun d2=>?_) (fun d2=>?_)
  ·obtain⟨e1,e2⟩:=bad (no (fun h=>(hplc.1 h).1) (of_decide_eq_false d2));rw[e1,e2];refine run ?_;refine J.nilGr 29 39 ?_;exact J.finG GrA.nil rfl GrP.nil sb
  have hin:S.inS q.m q.ids y:=of_decide_eq_true d2;have hix:=(S.ix_in hin).1;rw[S.spotS_ix hris hin];refine run ?_;refine J.callp rfl rfl (fun w' M=>hasID _ _ _ _ _ w' (wTk (hO.ext M.ext) p p (by omega) (by omega)) hyA (by omega)) ?_;refine run ?_;refine J.spd rfl rfl rfl (fun d3=>?_) (fun d3=>?_)
  ·obtain⟨e1,e2⟩:=bad (no (fun h=>(hplc.1 h).2.1) (not_not_intro ((S.inS_take (Nat.le_refl _)).2 d3)));rw[e1,e2];refine run ?_;refine J.nilGr 29 39 ?_;exact J.finG GrA.nil rfl GrP.nil sb
  obtain⟨z,hz⟩:∃z,q.zs[((S.ixS q.m q.ids y:Nat):Int).toNat]? =some z:=⟨q.zs[S.ixS q.m q.ids y]'(by have h:=congrArg List.length hqo;unfold GrA.ops at h;rw[List.length_map,hwg.2,←hqm]at h;omega),by rw[Int.toNat_natCast];exact List.getElem?_eq_getElem _⟩
  have hz':=hz;rw[Int.toNat_natCast]at hz';have hzl:q.n=q.m:=by rw[hq.n,hwg.2,hqm]
  have hzo:z.o=(S.whole s.sh.V.ps).opOf y:=by
   have e:=GrA.opAt hz';rw[←e,hqo,hqi,hqm];rfl
  have hzn:z.o.n≤40:=(hqok z (List.mem_of_getElem? hz')).n;refine run ?_;refine J.fn rfl rfl rfl ?_;refine run ?_;refine J.callp rfl rfl (fun w' M=>hasGr1 (subA s.oa 0 32 p) p p (s.os.take (32*p)) _ _ _ _ b6 _ w' (blkC b6 M) (wTk (hO.ext M.ext) p p (by omega) (by omega)) ((GrR.own hqok hq.cap hqs w' M).op hz').row (by omega) (by omega)) ?_;refine run ?_;refine J.ifd rfl (fun d4=>?_) (fun d4=>?_)
  ·obtain⟨e1,e2⟩:=bad (no (fun h=>(hplc.1 h).2.2) (fun k=>d4 (by rw[hzo];exact(S.allI_pre (Nat.le_refl _)).1 k)));rw[e1,e2];refine run ?_;refine J.nilGr 29 39 ?_;exact J.finG GrA.nil rfl GrP.nil sb
  refine run ?_;refine J.nextS (p+1) ⟨rfl,trivial⟩ (by kernel_rfl) ⟨by omega,fun i hi=>?_⟩ (by omega);rcases Nat.lt_or_ge i p with c|c
  ·exact hI i c
  obtain rfl:i=p:=by omega
  have h4:=Classical.not_not.1 d4;rw[hzo]at h4;exact hplc.2 ⟨hin,fun h=>d3 ((S.inS_take (Nat.le_refl _)).1 h),(S.allI_pre (Nat.le_refl _)).2 h4⟩
 have hokT:S.okT s.V:=⟨hfst,fun i hi=>hI i (by have hi':i<s.on:=hi;omega)⟩
 rw[S.chkT_0 hokT,S.grT_0 hokT];refine run ?_;exact J.finG q rfl hq sb
theorem stCheck{S0:Nat→Prop}(s:StA)(TK:TypeId)(w:World)(K0:Kst w TK)(H:StR S0 w s):
  Calls prog 28 #[.agg (srC s).toArray] w (Ret w fun v _=>v= .int .i64 (S.chkT s.V)):=by
 refine J.enter 10 func28 rfl rfl ?_;refine run ?_;refine J.box rfl rfl rfl fun b1=>?_
 refine run ?_;refine J.call rfl rfl (fun w' M=>stGraph0 s _ w' (K0.ext M.ext) (H.ext M.ext)) fun q hq=>?_
 dsimp only[grE,List.cons_append,List.nil_append];refine run ?_;refine J.alloc rfl fun b3=>?_
 refine run ?_;exact J.fin rfl
theorem stHas{S0:Nat→Prop}(s:StA)(x:List Int)(TK:TypeId)(w:World)(K0:Kst w TK)(H:StR S0 w s)(hx:Arr .u8 32 x):
  Calls prog 19 #[.agg (srC s).toArray, .agg (ints .u8 x).toArray] w (Ret w fun v _=>v= .tuple #[.bool (S.hasT s.V x), .int .i64 (S.chkT s.V)]):=by
 have hcp:=H.cap;refine J.enter 14 func19 rfl rfl ?_;refine run ?_;refine J.box rfl rfl rfl fun b1=>?_
 refine run ?_;refine J.box rfl rfl rfl fun b2=>?_
 refine run ?_;refine J.callp rfl rfl (fun w' M=>stCheck s _ w' (K0.ext M.ext) (H.ext M.ext)) ?_;refine run ?_;refine J.ifn rfl (fun c1=>?_) (fun c1=>?_)
 ·obtain⟨k1,k2⟩:=S.chkT_ne c1;refine run ?_;exact J.fin (tup2 (congrArg _ (S.hasT_8 k1).symm) rfl)
 refine run ?_;refine J.callp rfl rfl (fun w' M=>hasID _ _ _ _ _ w' (H.os.ext M.ext) hx (by omega)) ?_;refine run ?_;exact J.fin (tup2 (congrArg _ (S.hasT_0 (S.chkT_iff.1 c1)).symm) (congrArg _ c1.symm))
theorem stGraph{S0:Nat→Prop}(s:StA)(TK:TypeId)(w:World)(K0:Kst w TK)(H:StR S0 w s):
  Calls prog 23 #[.agg (srC s).toArray] w (Gv w (fun q:GrA=> .tuple #[.agg (grC q).toArray, .int .i64 (S.chkT s.V)]) (grE 29 39) (GrP (S.grT s.V).m (S.grT s.V).ids (S.grT s.V).ops)):=by
 refine J.enter 7 func23 rfl rfl ?_;refine run ?_;refine J.box rfl rfl rfl fun b1=>?_
 refine run ?_;refine J.alloc rfl fun b2=>?_
 refine run ?_;refine J.call rfl rfl (fun w' M=>stGraph0 s _ w' (K0.ext M.ext) (H.ext M.ext)) fun q hq=>?_
 dsimp only[grE,List.cons_append,List.nil_append];refine run ?_;exact J.finG q rfl hq sb
instance:Ents prog 23:=⟨.mk func23 (by kernel_rfl) rfl⟩
instance:Ents prog 24:=⟨.mk func24 (by kernel_rfl) rfl⟩
end W
namespace G
open Go.RowKit
section
variable{S0:Nat→Prop}{w0:World}{L:List Ent}{P:Program}{ops:Array Oper}{K:List Value→World→Prop}{rest:List (Oper×Kd)}{l:List Value}{m:Md}{d:Tmp}{ty t e:TypeId}{pos:String}{af:Array Edge}{kd:Kd}{α:Type}
theorem run0 {X : World → Prop} {q : Prop} (k : q) (h : Hold q → J S0 w0 L X := by
 intro k
 repeat (first
  | refine J.thn ?_
  | refine J.sq ?_
  | refine J.block ?_
  | refine J.skip ?_
  | refine J.exit ?_
  | refine J.the ?_
  | refine J.ibe ?_
  | refine J.ibn ?_
  | refine J.ibx rfl ?_
  | refine J.ift rfl ?_
  | refine J.iff rfl ?_)
 exact k.out) : J S0 w0 L X := h ⟨k⟩
end
abbrev FW(ro:Option Nat):Fence:= {Fence.wide with round:=ro}
def noDef(o:Oper):Bool:=match o.op with
 | .defer _=>false
 |_=>true
theorem noDef_ne{o:Oper}(h:noDef o=true)(c:Call):o.op≠ .defer c:=fun e=>by
 unfold noDef at h;rw[e]at h;cases h
section
variable{P:Program}{ops:Array Oper}{K:List Value→World→Prop}{Q:Exit→Act→World→Prop}{n:Nat}{ro:Option Nat}{ds:List Deferred}
theorem callsW{f:FuncId}{args:Array Value}{w:World}{R:Ending→World→Prop}(h:Calls P f args w R):CallsIn (FW ro) n P f args w R:=(callsIn_wide (n:=n)).2 h
theorem rowsW{row:String}{args:Array Value}{w:World}{R:Value→World→Prop}(h:Rows P row args w R):RowsIn (FW ro) n P row args w R:=fun c cs _=>let ⟨v,w',r,s⟩:=h c cs;⟨v,w',r,(stepsIn_wide (P:=P)).2 s⟩
theorem fr_inj{l l':List Value}(h:fr l=fr l'):l=l':=List.toArray_inj (congrArg Act.tmps h)
theorem put_ds(l:List Value)(d:Option Tmp)(v:Value):(⟨l.toArray,ds⟩:Act).put d v=⟨(putL d v l).toArray,ds⟩:=by cases d<;>simp[Act.put,putL]
theorem uponW{o:Oper}{l:List Value}{nx nx':Act→World→Prop}(hn:∀l' w',nx (fr l') w'→nx' ⟨l'.toArray,ds⟩ w'){r:Result Next}(h:o.upon P (fr l) (fun a' w'=>∃l',a'=fr l'∧nx (fr l') w') (fun _ _ _=>False) r):o.uponIn (FW ro) n P ⟨l.toArray,ds⟩ nx' Q r:=by
 have put1:∀v w',(∃l',(fr l).put o.dst v=fr l'∧nx (fr l') w')→nx' ((⟨l.toArray,ds⟩:Act).put o.dst v) w':=fun v w' ⟨l',e,k⟩=>by
  rw[put_fr]at e;rw[put_ds,fr_inj e];exact hn l' w' k
 cases r with
 |ok x w=>
  cases x with
  |value v=>exact put1 v w h
  |skip=>exact put1 undef w h
  |defer d=>
   obtain⟨l',e,_⟩:=h;have:({fr l with defers:=d::(fr l).defers}:Act).put o.dst undef=fr l':=e;have e2:=congrArg Act.defers this;cases hd:o.dst<;>simp[hd,Act.put,fr]at e2
  |enter f args=>
   refine⟨fun h=>absurd (show(none:Option Nat).isSome=true from h) (by decide),?_⟩;have h:Calls P f args w _:=h;refine callsW (h.mono fun e w' he=>?_);cases e with
   |returned v=>exact put1 v w' he
   |panicked chain=>exact he.elim
   |outgrown=>
    obtain⟨a,w,k⟩:=he;exact k.elim
  |row row args=>
   refine⟨fun h=>absurd (show(none:Option Nat).isSome=true from h) (by decide),?_⟩;have h:Rows P row args w _:=h;exact rowsW (fun c cs=>let ⟨v,w',r,s⟩:=h c cs;⟨v,w',put1 v w' r,s⟩)
  |_=>exact h.elim
 |halt x w=>cases x<;>exact h.elim
theorem eval_ds(l:List Value):(⟨l.toArray,ds⟩:Act).eval=ev l:=by
 rw[←eval_fr];funext x;cases x<;>rfl
theorem rs_in{tail:List Oper}:∀(pre:List Oper) (l:List Value) (w:World),pre.all noDef=true→RS P ops K pre l w→(∀l' w',K l' w'→wpListIn (FW ro) n P ops Q tail ⟨l'.toArray,ds⟩ w')→wpListIn (FW ro) n P ops Q (pre++tail) ⟨l.toArray,ds⟩ w
 |[],l,w,_,h,k=>k l w h
 |o::rest,l,w,hn,h,k=>by
  rw[List.all_cons,Bool.and_eq_true]at hn;unfold RS at h;rw[List.cons_append];unfold wpListIn;split
  ·rename_i hw;rw[if_pos (by exact hw)]at h;refine⟨fun _ _=>trivial,?_⟩;rw[Oper.semAt_eq _ _ _ (noDef_ne hn.1),eval_ds];unfold Oper.wp at h;rw[eval_fr]at h;refine uponW (nx:=fun a' w'=>∃l',a'=fr l'∧RS P ops K rest l' w') (fun l' w' ⟨l2,e,r⟩=>?_) (upon_mono (fun a w' ⟨l',e,r⟩=>⟨l',e,l',rfl,r⟩) (fun _ _ _ h=>h) h);obtain rfl:=fr_inj e;exact rs_in rest l' w' hn.2 r k
  ·rename_i hw;rw[if_neg (by exact hw)]at h;refine⟨fun _ _=>trivial,?_⟩;rw[put_ds];exact rs_in rest _ w hn.2 h k
theorem region_ds{id:Nat}{l0:List Oper}{l:List Value}{w:World}(hn:l0.all noDef=true)(h:RS P l0.toArray (fun l w=>Q .normal ⟨l.toArray,ds⟩ w) l0 l w):(Code.region id l0.toArray false).wpIn (FW ro) n P Q ⟨l.toArray,ds⟩ w:=by
 refine wpIn_region_lit ?_;have:=rs_in (P:=P) (ro:=ro) (n:=n) (ds:=ds) (Q:=Q) (tail:=[]) l0 l w hn h (fun l' w' k=>k);rwa[List.append_nil]at this
end
/-! ### over a memory that is a list of parts -/
def Ent.defd(D:Nat):Ent:=⟨fun S w=>S D∧w.heap[D]? =some (.deferred (some [])),fun {S w w'} h k=>⟨h.1,(k D h.1 (Array.getElem?_eq_some_iff.1 h.2).1).trans h.2⟩,fun {S T w} h k=>⟨k D (Array.getElem?_eq_some_iff.1 h.2).1 h.1,h.2⟩⟩
@[reducible] def markD(D:Nat):List Deferred:=[{target:= .collected D,args:= #[]}]
def KD(ds:List Deferred)(Q:Exit→Act→World→Prop)(l:List Value)(w:World):Prop:=Q .normal ⟨l.toArray,ds⟩ w
section
variable{S0:Nat→Prop}{w0:World}{L L':List Ent}{P:Program}{Q:Exit→Act→World→Prop}{l:List Value}{x y c:Code}{o:Operand}{id:Nat}{n:Nat}{ro:Option Nat}{ds:List Deferred}{N:Act→World→Prop}
theorem J.dreg{l0:List Oper}{pl:List (Oper×Kd)}(h:J S0 w0 L (RY S0 w0 .s P l0.toArray (KD ds Q) pl l))(hn:l0.all noDef=true:=by rfl)(hp:l0.map (fun o=>(o,Kd.q))=pl:=by dsimp only[List.map]):J S0 w0 L ((Code.region id l0.toArray false).wpIn (FW ro) n P Q ⟨l.toArray,ds⟩):=fun w M=>by
 refine region_ds hn ?_;have:=h w M;subst hp;unfold RY at this;rw[List.map_map]at this;have e:(Prod.fst ∘ fun o:Oper=>(o,Kd.q))=_root_.id:=rfl;rwa[e,List.map_id]at this
theorem J.dnil{ops:Array Oper}(h:J S0 w0 L (Q .normal ⟨l.toArray,ds⟩)):J S0 w0 L (RY S0 w0 .s P ops (KD ds Q) [] l):=J.nil h
theorem J.dsq{a:Act}(h:J S0 w0 L (x.wpIn (FW ro) n P (Exit.then (y.wpIn (FW ro) n P Q) Q) a)):J S0 w0 L ((Code.seq x y).wpIn (FW ro) n P Q a):=fun w M=>wpIn_seq (h w M)
theorem J.dblk{a:Act}(h:J S0 w0 L (c.wpIn (FW ro) n P (Exit.inBlock id Q) a)):J S0 w0 L ((Code.block id c).wpIn (FW ro) n P Q a):=fun w M=>wpIn_block (h w M)
theorem J.dret{a:Act}(h:J S0 w0 L (Q .ret a)):J S0 w0 L (Code.ret.wpIn (FW ro) n P Q a):=fun w M=>wpIn_ret (h w M)
theorem J.dskip{a:Act}(h:J S0 w0 L (Q .normal a)):J S0 w0 L (Code.skip.wpIn (FW ro) n P Q a):=fun w M=>wpIn_skip (h w M)
theorem J.dife{a b:Int}(hc:ev l o= .bool (a==b))(ht:a=b→J S0 w0 L (x.wpIn (FW ro) n P Q ⟨l.toArray,ds⟩))(hf:a≠b→J S0 w0 L (y.wpIn (FW ro) n P Q ⟨l.toArray,ds⟩)):J S0 w0 L ((Code.cond o x y).wpIn (FW ro) n P Q ⟨l.toArray,ds⟩):=fun w M=>
 wpIn_cond_split (t:=a==b) ((congrFun (eval_ds l) o).trans hc) (fun h=>ht (by simpa using h) w M) (fun h=>hf (by simpa using h) w M)
theorem J.retM{D:Nat}{F:Ent→List Ent}[R:RE L (.defd D) F]{fn:Func}{Rr:Ending→World→Prop}(k:J S0 w0 (F .emp) (bodyPost P fn Rr .ret (fr l))):J S0 w0 L (bodyPostM Fence.wide n P fn Rr .ret ⟨l.toArray,markD D⟩):=fun w M=>by
 obtain⟨S,hS,⟨hD,hK⟩,hput⟩:=M.foc (R.h .emp);have hg:=grownBy_putObj' w D (.deferred none);obtain⟨_,v,h2,h3⟩:=k _ (hput (w.putObj D (.deferred none)) S ⟨hg.os,hg.tape,hg.output,hg.size,fun k hk hs=>hg.block k hk fun e=>by cases e;exact hs hD⟩ trivial fun b hb=> .inl hb);exact⟨by simp, .inl ⟨D,_,rfl,run_takeDeferred hK,⟨v,h2,h3⟩⟩⟩
theorem J.toM{fn:Func}{Rr:Ending→World→Prop}(k:J S0 w0 L (bodyPost P fn Rr .ret (fr l))):J S0 w0 L (bodyPostM Fence.wide n P fn Rr .ret (fr l)):=fun w M=>let ⟨_,v,h2,h3⟩:=k w M;⟨v,h2,h3⟩
theorem J.enterR{f:FuncId}{av:List Value}{fn:Func}{Rr:Ending→World→Prop}(u:Nat)(hf:P.funcs[f]? =some fn)(hb:fn.body=some c)(hu:fn.ntmps - av.length=u)(h:J no w0 [] (c.wp P (bodyPostM Fence.wide 9 P fn Rr) (fr l)))(hl:av++List.replicate u undef=l:=by dsimp only[List.reduceReplicate,List.cons_append,List.nil_append]):Calls P f av.toArray w0 Rr:=
 (callsIn_wide (n := 9)).1 (callsIn_of_wp_marks hf hb trivial ((wpIn_wide (n := 9)).2 (by
  subst hl
  have h2 := h w0 (Mem.first w0)
  have e : (av ++ List.replicate u undef).toArray = av.toArray ++ Array.replicate (fn.ntmps - av.toArray.size) undef := by simp [hu]
  have e2 : fr (av ++ List.replicate u undef) = { tmps := av.toArray ++ Array.replicate (fn.ntmps - av.toArray.size) undef, defers := [] } := congrArg (fun t => (⟨t, []⟩ : Act)) e
  rw [e2] at h2
  exact h2)))
end
section
variable{w w' W W':World}{B b n c:Nat}{cs:List Value}{T e:TypeId}{row:Option Nat}{a:Option Addr}{k:IntKind}{sz:Nat}{xs:List Int}{S:Nat→Prop}
theorem blk_own(h:Blk W b cs T)(hg:W.grownBy W' row)(hr:∀r,row=some r→B≤r∧∃o:Obj,W.heap[r]? =some o∧o.isCells=false):Blk W' b cs T:=by
 have hlt:=h.lt;unfold Blk at h⊢;refine(hg.block b hlt fun e=>?_).trans h;obtain⟨_,o,ho,hc⟩:=hr b e.symm;rw[h]at ho;cases ho;cases hc
theorem wown_own(h:WOwn 0 W e k sz a n c xs)(hg:W.grownBy W' row)(hr:∀r,row=some r→B≤r∧∃o:Obj,W.heap[r]? =some o∧o.isCells=false):WOwn 0 W' e k sz a n c xs:=by
 refine⟨h.own.step fun b hb hlt=>hg.block b hlt fun e2=>?_,h.bd⟩;rcases h.own.2 with⟨hv,_⟩|⟨g,cap,cur,hv,_,hgc,_⟩
 ·simp only[Value.slice.injEq]at hv;rw[hv.1]at hb;cases hb
 ·simp only[Value.slice.injEq]at hv;rw[hv.1]at hb;obtain rfl:g=b:=Option.some.inj hb;obtain⟨_,o,ho,hc⟩:=hr g e2.symm;rw[hgc]at ho;cases ho;cases hc
theorem ext_own(h:Ext w W)(hB:w.heap.size≤B)(hg:W.grownBy W' row)(hr:∀r,row=some r→B≤r∧∃o:Obj,W.heap[r]? =some o∧o.isCells=false):Ext w W':=h.grown hg h.size (fun j e=>Nat.le_trans hB (hr j e).1)
theorem keeps_pr (h : Pr S W W') (hS : ∀ b, S b → ∃ cs T, Blk W b cs T) : KeepsFrom B W W' := ⟨h.size, fun k o _ hk ho => (h.block k (Array.getElem?_eq_some_iff.1 hk).1 fun hs => by
 obtain ⟨cs, T, hb⟩ := hS k hs
 unfold Blk at hb
 rw [hb] at hk
 cases hk
 cases ho).trans hk⟩
theorem wown_cells(h:WOwn 0 W e k sz a n c xs){b:Nat}(hb:obk a=some b):∃cs T,Blk W b cs T:=by
 rcases h.own.2 with⟨hv,_⟩|⟨g,cap,cur,hv,_,hgc,_⟩
 ·simp only[Value.slice.injEq]at hv;rw[hv.1]at hb;cases hb
 ·simp only[Value.slice.injEq]at hv;rw[hv.1]at hb;obtain rfl:g=b:=Option.some.inj hb;exact⟨cur.toList,e,by unfold Blk;rw[hgc]⟩
theorem pr_ext(h:Ext w W)(k:Pr S W W')(hS:∀b,S b→w.heap.size≤b):Ext w W':=Below.trans h (k.below hS h.size)
theorem pr_no(h:Ext w W):Pr no w W:=⟨h.os,h.tape,h.output,h.size,fun k hk _=>h.block k hk⟩
end
/-! ### an iterator -/
section
variable{S0:Nat→Prop}{w0:World}{L:List Ent}{P:Program}{Q:Exit→Act→World→Prop}{l:List Value}{ops:Array Oper}{id n:Nat}{post:List Oper}
theorem J.from{X:World→Prop}{w:World}(h:J no w [] X):X w:=h w (Mem.first w)
theorem J.at{X:World→Prop}{w:World}(M:Mem S0 w0 L w)(h:J S0 w0 L X):X w:=h w M
def KY(n:Nat)(P:Program)(ops:Array Oper)(Q:Exit→Act→World→Prop)(post:List Oper)(l:List Value)(w:World):Prop:=wpListIn Fence.wide n P ops Q post (fr l) w
theorem J.regY{l0:List Oper}{pl:List (Oper×Kd)}(k n:Nat)(h:J S0 w0 L (RY S0 w0 .s P l0.toArray (KY n P l0.toArray Q post) pl l))(hn:(l0.take k).all noDef=true:=by rfl)(hp:(l0.take k).map (fun o=>(o,Kd.q))=pl:=by dsimp only[List.take,List.map])(hq:l0.drop k=post:=by dsimp only[List.drop]):J S0 w0 L ((Code.region id l0.toArray false).wp P Q (fr l)):=fun w M=>by
 refine(wpIn_wide (n:=n)).1 (wpIn_region_lit ?_);have h2:=h w M;subst hp hq;unfold RY at h2;rw[List.map_map]at h2;have e:(Prod.fst ∘ fun o:Oper=>(o,Kd.q))=_root_.id:=rfl;rw[e,List.map_id]at h2;have:=rs_in (P:=P) (ro:=none) (n:=n) (ds:=[]) (Q:=Q) (tail:=l0.drop k) (l0.take k) l w hn h2 (fun l' w' k=>k);rwa[List.take_append_drop]at this
theorem yield_step{d:Tmp}{x:Operand}{args:Array Operand}{ts:Array TypeId}{ty:TypeId}{pos:String}{af:Array Edge}{j lp:Nat}{vs:List Value}{w:World}{R:Ending→World→Prop}(hv:yielded ops l.toArray j=some true)(hx:ev l x= .func (.yield lp) #[] #[])(ha:args.toList.map (ev l)=vs)(hy:YieldAt Fence.wide (n - 1) P lp vs.toArray w R)
  (k:∀e w',R e w'→∃v,e= .returned v∧wpListIn Fence.wide n P ops Q post (fr (l.set d v)) w'):wpListIn Fence.wide n P ops Q (⟨some d, .call {callee:= .value x,args:=args,argTypes:=ts},ty,pos,af,some (j,true)⟩::post) (fr l) w:=by
 obtain⟨fn,tmps,assign,body,hy1,hy2⟩:=hy;unfold wpListIn;rw[if_pos (by simp[Region.wanted,hv])];refine⟨fun _ _=>trivial,?_⟩;have hr:(execOp (ev l) ⟨some d, .call {callee:= .value x,args:=args,argTypes:=ts},ty,pos,af,some (j,true)⟩).run P w= .ok (.round lp fn tmps assign body) w:=by
  simp only[execOp,resolve,args_map ha];rw[hx];simp[Deferred.ofValue,invoke,go_sem,hy1]
 rw[Oper.semAt_eq _ _ _ (by intro c e;cases e),eval_fr,hr];refine⟨fun h=>absurd (show(none:Option Nat).isSome=true from h) (by decide),hy2.mono fun e w' he=>?_⟩;obtain⟨v,rfl,hk⟩:=k e w' he;show wpListIn _ _ _ _ _ _ ((fr l).put (some d) v) w';rw[put_fr];exact hk
theorem yield_skip{d:Tmp}{op:Op}{ty:TypeId}{pos:String}{af:Array Edge}{j:Nat}{w:World}(hv:(yielded ops l.toArray j==some true)=false)(k:wpListIn Fence.wide n P ops Q post (fr (l.set d undef)) w):wpListIn Fence.wide n P ops Q (⟨some d,op,ty,pos,af,some (j,true)⟩::post) (fr l) w:=by
 unfold wpListIn;rw[if_neg (by simp only[Region.wanted];rw[hv];decide)];refine⟨fun _ _=>trivial,?_⟩;rw[put_fr];exact k
theorem rest_in{w:World}(hn:post.all noDef=true)(h:RS P ops (fun l w=>Q .normal (fr l) w) post l w):wpListIn Fence.wide n P ops Q post (fr l) w:=by
 have:=rs_in (P:=P) (ro:=none) (n:=n) (ds:=[]) (Q:=Q) (tail:=[]) post l w hn h (fun l' w' k=>k);rwa[List.append_nil]at this
theorem J.restY{pl:List (Oper×Kd)}{w:World}(h:J S0 w0 L (RY S0 w0 .s P ops (KN Q) pl l))(M:Mem S0 w0 L w)(hn:post.all noDef=true:=by rfl)(hp:post.map (fun o=>(o,Kd.q))=pl:=by dsimp only[List.map]):wpListIn Fence.wide n P ops Q post (fr l) w:=by
 refine rest_in hn ?_;have h2:=h w M;subst hp;unfold RY at h2;rw[List.map_map]at h2;have e:(Prod.fst ∘ fun o:Oper=>(o,Kd.q))=_root_.id:=rfl;rwa[e,List.map_id]at h2
end
abbrev IdB:= {xs:List Int // Arr .u8 32 xs}
def flatB(l:List IdB):List Int:=l.flatMap fun x=>x.1
theorem flatB_snoc(l:List IdB)(x:IdB):flatB (l++[x])=flatB l++x.1:=by unfold flatB;simp
def IterC(P:Program)(g:FuncId)(lb:List Value)(n:Nat)(xs:List Int)(w:World):Prop:=SeqStopsK Fence.wide 8 P g lb.toArray (fun x:IdB=> #[.agg (ints .u8 x.1).toArray]) (Below w.heap.size) (fun l=>l.length=n∧flatB l=xs) (fun l=>0<l.length∧0<n) 1000 w
theorem grown_ext{w w':World}(h:Ext w w'):w.grownBy w' none:=⟨h.os,h.tape,h.output,h.size,fun k hk _=>h.block k hk⟩
theorem enters_run{P:Program}{f:FuncId}(he:Enters P f)(args:Array Value)(w:World):(callFunc f args).run P w= .ok (.enter f args) w:=by
 obtain⟨fn,h1,h2,h3⟩:=he;have h4:¬fn.name= "runtime.NumGoroutine" :=by simpa using h2
 have h5:¬fn.body=none:=by intro e;simp[e]at h3
 simp[callFunc,h1,h4,h5,program,Sem.run]
theorem keeps_ext{B:Nat}{w w':World}(h:Ext w w'):KeepsFrom B w w':=⟨h.size,fun k o _ hk _=>(h.block k (Array.getElem?_eq_some_iff.1 hk).1).trans hk⟩
theorem zip1{f:Array Value→Tmp×Value→Array Value}(hf:∀t p v,f t (p,v)=t.setIfInBounds p v)(l:List Value)(p:Tmp)(v:Value):Array.foldl f (fr l).tmps (#[p].zip #[v])=(l.set p v).toArray:=by
 simp[hf]
section
variable{S0:Nat→Prop}{w W w':World}{b5 b2 n c D:Nat}{cs cs2:List Value}{T T2 e:TypeId}{a:Option Addr}{k:IntKind}{sz:Nat}{xs:List Int}{L:List Ent}
theorem mem3(h5:Blk W b5 cs T)(h2:Blk W b2 cs2 T2)(hO:WOwn 0 W e k sz a n c xs)(d1:¬b5=b2)(d2:¬obk a=some b5)(d3:¬obk a=some b2):Mem (fun b=>b=b5∨b=b2∨obk a=some b) W [.blk b5 cs T, .blk b2 cs2 T2, .wown e k sz a n c xs] W:=
 ⟨Pr.refl _ _, fun b => b = b5, fun b => b = b2 ∨ obk a = some b, fun b h => .inl (.inl h), fun b h => .inl (.inr h), fun b h g => by
  subst h
  exact g.elim d1 d2, ⟨rfl, h5⟩, fun b => b = b2, fun b => obk a = some b, fun b h => .inl h, fun b h => .inr h, fun b h g => by
  subst h
  exact d3 g, ⟨rfl, h2⟩, fun b => obk a = some b, no, fun b h => h, fun b h => h.elim, fun b _ g => g, ⟨hO, fun b h => h⟩, trivial⟩
theorem mem_two(M:Mem S0 W (.blk b2 cs2 T2:: .wown e k sz a n c xs::L) w'):Blk w' b2 cs2 T2∧WOwn 0 w' e k sz a n c xs∧(¬obk a=some b2)∧∀b,obk a=some b→S0 b∨W.heap.size≤b:=by
 obtain⟨S,U,h1,h2,h3,⟨k1,k2⟩,S',U',g1,g2,g3,⟨q1,q2⟩,_⟩:=M.sep;exact⟨k2,q1,fun e=>h3 b2 k1 (g1 b2 (q2 b2 e)),fun b e=>h2 b (g1 b (q2 b e))⟩
theorem not_defd{b:Nat}(h:Blk W b cs T)(hD:W.heap[D]? =some (.deferred (some []))):¬b=D:=fun e=>by
 subst e;unfold Blk at h;rw[h]at hD;cases hD
theorem mem4(hx:Ext w W)(hD:W.heap[D]? =some (.deferred (some [])))(h2:Blk W b2 cs2 T2)(hO:WOwn 0 W e k sz a n c xs)(d3:¬obk a=some b2)(l1:w.heap.size≤D)(l2:w.heap.size≤b2)(l3:∀b,obk a=some b→w.heap.size≤b):Mem no w [.defd D, .blk b2 cs2 T2, .wown e k sz a n c xs] W:=
 ⟨pr_no hx, fun b => b = D, fun b => b = b2 ∨ obk a = some b, fun b h => .inr (h ▸ l1), fun b h => .inr (h.elim (fun h => h ▸ l2) (l3 b)), fun b h g => by
  subst h
  rcases g with g | g
  ·exact not_defd h2 hD g.symm
  ·obtain ⟨_, _, q⟩ := wown_cells hO g
   exact not_defd q hD rfl, ⟨rfl, hD⟩, fun b => b = b2, fun b => obk a = some b, fun b h => .inl h, fun b h => .inr h, fun b h g => by
  subst h
  exact d3 g, ⟨rfl, h2⟩, fun b => obk a = some b, no, fun b h => h, fun b h => h.elim, fun b _ g => g, ⟨hO, fun b h => h⟩, trivial⟩
theorem J.dthn{P:Program}{N:Act→World→Prop}{Q:Exit→Act→World→Prop}{w0:World}{a:Act}(h:J S0 w0 L (N a)):J S0 w0 L (Exit.then N Q .normal a):=h
theorem blk_same{b:Nat}{v u:Value}(h:Blk W b [v] T)(g:Blk W b [u] T2):v=u:=by
 unfold Blk at h g;rw[h]at g;simp at g;exact g.1
end
section
variable{S:Nat→Prop}{w W w':World}{b3 b6 D:Nat}{cs cs6:List Value}{T T6:TypeId}
theorem others_pr (h : Pr S w w') (hS : ∀ b, S b → ∃ cs T, Blk w b cs T) : KeepsOthers w w' := ⟨h.size, fun k o hk ho => (h.block k (Array.getElem?_eq_some_iff.1 hk).1 fun hs => by
 obtain ⟨cs, T, hb⟩ := hS k hs
 unfold Blk at hb
 rw [hb] at hk
 cases hk
 cases ho).trans hk⟩
theorem memB1(h6:Blk W b6 cs6 T6):Mem (fun b=>b=b6) W [.blk b6 cs6 T6] W:=⟨Pr.refl _ _,fun b=>b=b6,no,fun b h=> .inl h,fun b h=>h.elim,fun b _ g=>g,⟨rfl,h6⟩,trivial⟩
theorem memD2(hx:Ext w W)(hD:W.heap[D]? =some (.deferred (some [])))(h3:Blk W b3 cs T)(h6:Blk W b6 cs6 T6)(d:¬b3=b6)(l1:w.heap.size≤D)(l2:w.heap.size≤b3)(l3:w.heap.size≤b6):Mem no w [.defd D, .blk b3 cs T, .blk b6 cs6 T6] W:=
 ⟨pr_no hx, fun b => b = D, fun b => b = b3 ∨ b = b6, fun b h => .inr (h ▸ l1), fun b h => .inr (h.elim (fun h => h ▸ l2) fun h => h ▸ l3), fun b h g => by
  subst h
  rcases g with g | g
  ·exact not_defd h3 hD g.symm
  ·exact not_defd h6 hD g.symm, ⟨rfl, hD⟩, fun b => b = b3, fun b => b = b6, fun b h => .inl h, fun b h => .inr h, fun b h g => d (h.symm.trans g), ⟨rfl, h3⟩, fun b => b = b6, no, fun b h => h, fun b h => h.elim, fun b _ g => g, ⟨rfl, h6⟩, trivial⟩
theorem memD1(hx:Ext w W)(hD:W.heap[D]? =some (.deferred (some [])))(h6:Blk W b6 cs6 T6)(l1:w.heap.size≤D)(l3:w.heap.size≤b6):Mem no w [.defd D, .blk b6 cs6 T6] W:=
 ⟨pr_no hx,fun b=>b=D,fun b=>b=b6,fun b h=> .inr (h▸l1),fun b h=> .inr (h▸l3),fun b h g=>not_defd h6 hD (g.symm.trans h),⟨rfl,hD⟩,fun b=>b=b6,no,fun b h=>h,fun b h=>h.elim,fun b _ g=>g,⟨rfl,h6⟩,trivial⟩
theorem blk_two{S0:Nat→Prop}{L:List Ent}(M:Mem S0 W (.blk b6 cs6 T6:: .blk b3 cs T::L) w'):¬b3=b6:=fun e=>by
 obtain⟨S,U,h1,h2,h3,⟨k1,k2⟩,S',U',g1,g2,g3,⟨q1,q2⟩,_⟩:=M.sep;subst e;exact h3 _ k1 (g1 _ q1)
end
end G
namespace W
open Go.RowKit G
set_option maxRecDepth 20000
set_option maxHeartbeats 8000000
attribute [local irreducible] RS RX RY Code.wp bodyPost J Ent.blk Ent.iown Ent.wrow Ent.wown Ent.gown Ent.all Ent.emp
instance:Ents prog 111:=⟨.mk func111 (by kernel_rfl) rfl⟩
theorem stMissing0(s:StA)(z:OpA)(w:World):
  Calls prog 68 #[.agg (srC s).toArray, .agg (opC z).toArray] w (Gv w (fun q:Nat×Nat=> .func (.func 111) #[] #[.pointer (some ⟨q.1,0,none⟩), .pointer (some ⟨q.2,0,none⟩)]) (fun q=>[.blk q.1 (opC z) 39, .blk q.2 (srC s) 27]) (fun _=>True)):=by
 refine J.enter 4 func68 rfl rfl ?_;refine run ?_;refine J.box rfl rfl rfl fun b1=>?_
 refine J.box rfl rfl rfl fun b2=>?_
 refine run ?_;refine J.fn rfl rfl rfl ?_;refine run ?_;exact J.finG (b2,b1) rfl trivial sb
theorem missIter{S0 S1:Nat→Prop}(s:StA)(z:OpA)(bo bs:Nat)(T T2:TypeId)(w0:World)(hbo:Blk w0 bo (opC z) T)(hbs:Blk w0 bs (srC s) T2)(D0:WRow .u8 32 S0 w0 s.oa s.on s.os)(D1:WRow .u8 32 S1 w0 z.pa z.o.n z.o.ids)(hn:s.on≤70)(hz:z.o.n≤40):
  IterC prog 111 [.pointer (some ⟨bo,0,none⟩), .pointer (some ⟨bs,0,none⟩)] (S.numF (S.absF s.on s.os z.o.ids) z.o.n) (S.selF (S.absF s.on s.os z.o.ids) z.o.ids z.o.n) w0:=by
 intro lp JJ Jx Wb hW hJ hJx hY h0;have hW:Ext w0 Wb:=hW;obtain⟨F,hF⟩:=ex (S.absF s.on s.os z.o.ids);rw[←hF];refine(callsIn_wide (n:=8)).2 ?_;show Calls prog 111 ([.func (.yield lp) #[] #[], .pointer (some ⟨bo,0,none⟩), .pointer (some ⟨bs,0,none⟩)]:List Value).toArray Wb _;have hbW:=hbo.ext hW;refine J.enter 22 func111 rfl rfl ?_;refine run ?_;refine J.ldOq hbW rfl ?_;refine run ?_;unfold J;intro w M;refine C.loop (A:=Nat×List IdB) (fun p=>[(9, .int .i64 (p.1:Nat))]) [5,10,11,12,13,14,15,16,17,18,19,20,21,22,23,24] (fun p w=>(p.1≤z.o.n∧p.2.length=S.numF F p.1∧flatB p.2=S.selF F z.o.ids p.1)∧Ext w0 w∧JJ p.2 w) (fun p=>z.o.n - p.1) (0,[]) (by kernel_rfl) ⟨⟨Nat.zero_le _,rfl,rfl⟩,hW.tr M.ext,hJ _ _ _ none h0 (grown_ext M.ext) (fun r e=>by cases e)⟩ (fun p j w hI=>?_);obtain⟨⟨hp1,hp2,hp3⟩,hw0,hjj⟩:=hI;obtain⟨p,pre⟩:=p;dsimp only at hp1 hp2 hp3 hjj;simp only[upd,junk,List.map_cons,List.map_nil,List.set_cons_succ,List.set_cons_zero];refine J.from ?_;have D1':=D1.ext hw0;have hbsW:=hbs.ext hw0;refine run ?_;refine J.ifd rfl (fun c1=>?_) (fun c1=>?_)
 rotate_left
 ·refine run ?_;obtain rfl:p=z.o.n:=by omega
  unfold J;exact fun w' M=>⟨⟨_,rfl⟩, .inl ⟨pre,⟨hp2,hp3⟩,hJ _ _ _ none hjj (grown_ext M.ext) (fun r e=>by cases e)⟩⟩
 obtain⟨y,hy⟩:=ex (elt 32 z.o.ids ((p:Nat):Int).toNat);have hyA:Arr .u8 32 y:=hy▸D1.elt_arr (by omega);have hyi:S.idAt z.o.ids p=y:=by rw[hy,Int.toNat_natCast];rfl
 have hFp:F p=decide (¬S.inS s.on s.os y):=by rw[hF];unfold S.absF;rw[hyi]
 refine run ?_;refine J.alloc rfl fun b5=>?_
 refine J.staw rfl rfl ?_;refine J.nilN ?_;refine run0 ?_;refine J.regY 8 8 ?_;refine run ?_;refine J.ldOq hbsW rfl ?_;refine run ?_;refine J.callp rfl rfl (fun w' M=>hasID _ _ _ _ _ w' ((D0.ext hw0).ext M.ext) hyA (by omega)) ?_;refine run ?_;refine J.spt rfl rfl rfl (fun c2=>?_) (fun c2=>?_)
 ·have hFt:F p=true:=by rw[hFp];exact decide_eq_true (of_decide_eq_false c2)
  refine run ?_;refine J.nil ?_;unfold J;intro w1 M1;unfold KY;refine yield_step (vs:=[.agg (ints .u8 y).toArray]) rfl rfl rfl (hY pre ⟨y,hyA⟩ w1 (hJ _ _ _ none hjj (grown_ext M1.ext) (fun r e=>by cases e)) (by have:=S.numF_le F p;omega)) (fun e w2 he=>?_);rcases he with⟨rfl,hj2,hk2⟩|⟨rfl,hx2⟩
  ·refine⟨_,rfl,J.restY (S0:=no) ?_ (Mem.first w2)⟩;have hw2:Ext w0 w2:=(hw0.tr M1.ext).trans hk2;refine run ?_;unfold J;intro w3 M3;refine C.next (p+1,pre++[(⟨y,hyA⟩:IdB)]) ⟨rfl,trivial⟩ (by kernel_rfl) ⟨⟨by dsimp only;omega,?_,?_⟩,hw2.tr M3.ext,hJ _ _ _ none hj2 (grown_ext M3.ext) (fun r e=>by cases e)⟩ (by dsimp only;omega)
   ·dsimp only;rw[List.length_append,S.numF,hFt,hp2];rfl
   dsimp only;rw[flatB_snoc,hp3,S.selF,hFt,hyi];rfl
  refine⟨_,rfl,J.restY (S0:=no) ?_ (Mem.first w2)⟩;refine run ?_;unfold J;intro w3 M3;refine⟨⟨_,rfl⟩, .inr ⟨_,⟨by simp,?_⟩,hJx _ _ _ none hx2 (grown_ext M3.ext) (fun r e=>by cases e)⟩⟩;have h1:S.numF F (p+1)=S.numF F p+1:=by rw[S.numF,hFt];rfl
  exact Nat.pos_of_ne_zero fun h=>by have:=S.numF_zero.1 h p (by omega);rw[hFt]at this;cases this
 have hFf:F p=false:=by rw[hFp];exact decide_eq_false (not_not_intro (of_decide_eq_true c2))
 refine run ?_;refine J.nil ?_;unfold J;intro w1 M1;unfold KY;refine yield_skip rfl ?_;refine J.restY ?_ M1;refine run ?_;unfold J;intro w3 M3;refine C.next (p+1,pre) ⟨rfl,trivial⟩ (by kernel_rfl) ⟨⟨by dsimp only;omega,?_,?_⟩,hw0.tr M3.ext,hJ _ _ _ none hjj (grown_ext M3.ext) (fun r e=>by cases e)⟩ (by dsimp only;omega)
 ·dsimp only;rw[S.numF,hFf,hp2];rfl
 dsimp only;rw[S.selF,hFf,hp3];exact(List.append_nil _).symm
instance:Ents prog 110:=⟨.mk func110 (by kernel_rfl) rfl⟩
instance:Ents prog 66:=⟨.mk func66 (by kernel_rfl) rfl⟩
instance:Ents prog 68:=⟨.mk func68 (by kernel_rfl) rfl⟩
instance:Ents prog 67:=⟨.mk func67 (by kernel_rfl) rfl⟩
instance:Inf prog 5 1 1 [.int .u8 0]:=⟨TI.of (v:= .int .u8 0) (by kernel_rfl) rfl⟩
theorem appSeq{g:FuncId}{lb:List Value}{n:Nat}{xs:List Int}(w00 w:World)(hit:IterC prog g lb n xs w00)(hw00:Ext w00 w)(he:Enters prog g):
  Calls prog 110 #[.slice none 0 0, .func (.func g) #[] lb.toArray] w (Gv w (fun q:Option Addr×Nat=> .slice q.1 n q.2) (fun q=>[.wown 29 .u8 32 q.1 n q.2 xs]) fun q=>n≤q.2):=by
 show Calls prog 110 ([.slice none 0 0, .func (.func g) #[] lb.toArray]:List Value).toArray w _;refine J.enterR 11 func110 rfl rfl ?_;refine run ?_;refine J.box rfl rfl rfl fun b2=>?_
 refine run ?_;unfold J;intro w1 M1;have x1:Ext w w1:=M1.ext;obtain⟨S1,hS1,h1⟩:=M1.get .here;obtain⟨hs2,hB2⟩:=blk_e h1;have hb2:w.heap.size≤b2:=(hS1 b2 hs2).1.resolve_left fun h=>h;refine(wpIn_wide (n:=9)).1 ?_;refine wpIn_rangeFunc_ownH (F:=Fence.wide) (n:=9) (w:=w1) (gf:=g) (lb:=lb.toArray) rfl (by decide) (by rw[eval_fr];rfl) trivial (enters_run he) hit (fun h k=>belowK_t h k) (belowK_b (hw00.tr x1).size) (hw00.tr x1) (fun x=>rfl)
  (fun(k:List IdB) (Wb:World)=>Ext w Wb∧∃a c,Blk Wb b2 [.slice a k.length c] 23∧WOwn 0 Wb 29 .u8 32 a k.length c (flatB k)∧¬obk a=some b2∧∀b,obk a=some b→w.heap.size≤b)
  (fun _ _ _=>False)
  (fun k A B row ⟨hx,a,c,h1,h2,h3,h4⟩ hg hr=>⟨ext_own hx x1.size hg hr,a,c,blk_own h1 hg hr,wown_own h2 hg hr,h3,h4⟩)
  (fun c s A B row h=>h.elim)
  ⟨x1,none,0,hB2,WOwn.nil 0 w1 29 .u8 32,(by simp[obk]),fun b h=>(by simp[obk]at h)⟩
  (fun x a' Wb=>∃b5 a0 n0 c0,a'=fr [.slice none 0 0, .func (.func g) #[] lb.toArray, .pointer (some ⟨b2,0,none⟩),undef, .slice none 0 0, .pointer (some ⟨b5,0,none⟩), .func (.func g) #[] lb.toArray, .agg (ints .u8 x.1).toArray,undef,undef,undef,undef,undef]∧Blk Wb b5 (ints .u8 x.1) 29∧¬b5=b2∧w.heap.size≤b5∧Blk Wb b2 [.slice a0 n0 c0] 23∧¬obk a0=some b5)
  (fun x a' s A B row ⟨b5,a0,n0,c0,h1,h2,h3,h4,h5,h6⟩ hg hr=>⟨b5,a0,n0,c0,h1,blk_own h2 hg hr,h3,h4,blk_own h5 hg hr,h6⟩)
  ?_ ?_ ?_ ?_
 ·intro r pre x Wb K hI hK;obtain⟨hx,a,c,i1,i2,i3,i4⟩:=hI;have hxA:=x.2;rw[zip1 (fun _ _ _=>rfl)];show Code.wpIn (FW (some r)) 7 _ (Code.region _ _ _) _ ⟨([.slice none 0 0, .func (.func g) #[] lb.toArray, .pointer (some ⟨b2,0,none⟩),undef, .slice none 0 0,undef, .func (.func g) #[] lb.toArray, .agg (ints .u8 x.1).toArray,undef,undef,undef,undef,undef]:List Value).toArray,[]⟩ Wb;refine J.from (J.dreg ?_);refine run ?_;refine J.alloc rfl fun b5=>?_
  refine J.staw rfl rfl ?_;refine J.dnil ?_;unfold J;intro w2 M2;obtain⟨S2,hS2,h2⟩:=M2.get .here;obtain⟨hs5,hB5⟩:=blk_e h2;have hb5:Wb.heap.size≤b5:=(hS2 b5 hs5).1.resolve_left fun h=>h;have x2:=M2.ext;refine hK _ _ (keeps_ext x2) (Below.mono x2 (hw00.tr hx).size) ⟨hx.tr x2,a,c,i1.ext x2,i2.ext x2,i3,i4⟩ ⟨b5,a,pre.length,c,rfl,hB5,fun e=>?_,Nat.le_trans hx.size hb5,i1.ext x2,fun e=>?_⟩
  ·have:=i1.lt;omega
  obtain⟨_,_,k⟩:=wown_cells i2 e;have:=k.lt;omega
 ·intro r pre x a' Wb hl hr0 hI hAx hlen;obtain⟨hx,a,c,i1,i2,i3,i4⟩:=hI;obtain⟨b5,a0,n0,c0,rfl,k2,k3,k4,k5,k6⟩:=hAx;obtain⟨rfl,rfl,rfl⟩:=Value.slice.inj (blk_same k5 i1);have hxA:=x.2;refine J.at (mem3 k2 i1 i2 k3 k6 i3) ?_;refine J.dblk (J.dreg ?_);refine run ?_;refine J.b1W rfl rfl hxA fun bb=>?_
  refine J.apW rfl rfl RW.own' fun a2 c2=>?_
  refine run ?_;refine J.front (.wown 29 .u8 32 a2 (pre.length+1) c2 (flatB pre++x.1)) ?_;refine J.front (.blk b2 [.slice a2 (pre.length+1) c2] 23) ?_;unfold J;intro w2 M2;obtain⟨q1,q2,q3,q4⟩:=mem_two M2;have hS:∀b,(b=b5∨b=b2∨obk a0=some b)→w.heap.size≤b:=fun b h=>by
   rcases h with rfl|rfl|h
   ·exact k4
   ·exact hb2
   exact i4 b h
  refine⟨keeps_pr M2.pr fun b h=>?_,M2.pr.below (fun b h=>Nat.le_trans hw00.size (hS b h)) (Nat.le_trans hw00.size hx.size),pr_ext hx M2.pr hS,a2,c2,?_,?_,q3,fun b h=>(q4 b h).elim (hS b) fun k=>Nat.le_trans hx.size k⟩
  ·rcases h with rfl|rfl|h
   ·exact⟨_,_,k2⟩
   ·exact⟨_,_,i1⟩
   exact wown_cells i2 h
  ·rw[List.length_append];exact q1
  rw[List.length_append,flatB_snoc];exact q2
 ·intro D ks Wb hD ⟨hk1,hk2⟩ ⟨hx,a,c,i1,i2,i3,i4⟩ hK;subst hk1 hk2;show Code.wp _ (Code.seq _ _) _ ⟨([.slice none 0 0, .func (.func g) #[] lb.toArray, .pointer (some ⟨b2,0,none⟩),undef, .slice none 0 0,undef, .func (.func g) #[] lb.toArray,undef,undef,undef,undef,undef,undef]:List Value).toArray,markD D⟩ Wb;refine(wpIn_wide (n:=9)).1 ?_;refine J.at (mem4 hx hK i1 i2 i3 (Nat.le_trans x1.size hD) hb2 i4) ?_;refine J.dsq (ro:=none) (J.dreg ?_);refine run ?_;refine J.dnil (J.dthn (P:=prog) (J.dret ?_));refine J.retM ?_;refine run ?_;refine J.fact (.wown 29 .u8 32 a ks.length c (flatB ks)) (fun _ _ h=>(wown_len h).2) fun hcap=>?_
  exact J.finG (a,c) rfl hcap sb
 intro D c pre Wb hD hS h;exact h.elim
theorem collect{g:FuncId}{lb:List Value}{n:Nat}{xs:List Int}(w00 w:World)(hit:IterC prog g lb n xs w00)(hw00:Ext w00 w)(he:Enters prog g):
  Calls prog 67 #[.func (.func g) #[] lb.toArray] w (Gv w (fun q:Option Addr×Nat=> .slice q.1 n q.2) (fun q=>[.wown 29 .u8 32 q.1 n q.2 xs]) fun q=>n≤q.2):=by
 refine J.enter 4 func67 rfl rfl ?_;refine run ?_;refine J.call rfl rfl (fun w' M=>appSeq w00 w' hit (hw00.tr M.ext) he) fun q hq=>?_
 refine run ?_;exact J.finG q rfl hq sb
theorem stAsked{S0 S1:Nat→Prop}(s:StA)(z:OpA)(TK:TypeId)(w:World)(K0:Kst w TK)(H:StR S0 w s)(R:OpR S1 w z):
  Calls prog 66 #[.agg (srC s).toArray, .agg (opC z).toArray] w (Ret w fun v _=>v= .int .i64 (S.askE s.V z.o)):=by
 refine J.enter 11 func66 rfl rfl ?_;refine run ?_;refine J.box rfl rfl rfl fun b1=>?_
 refine J.box rfl rfl rfl fun b2=>?_
 refine run ?_;refine J.callp rfl rfl (fun w' M=>stCheck s _ w' (K0.ext M.ext) (H.ext M.ext)) ?_;refine run ?_;refine J.ifn rfl (fun c1=>?_) (fun c1=>?_)
 ·obtain⟨k1,k2⟩:=S.chkT_ne c1;rw[k2];refine run ?_;exact J.fin (congrArg _ (S.askE_8 k1).symm)
 refine run ?_;refine J.callp rfl rfl (fun w' M=>verifyO z.o R.ok _ _ _ _ (K0.ext M.ext) (R.row.ext M.ext) R.cap) ?_;refine run ?_;exact J.fin (congrArg _ (S.askE_v (S.chkT_iff.1 c1)).symm)
theorem stMissing{S0 S1:Nat→Prop}(s:StA)(z:OpA)(TK:TypeId)(w:World)(K0:Kst w TK)(H:StR S0 w s)(R:OpR S1 w z):
  Calls prog 21 #[.agg (srC s).toArray, .agg (opC z).toArray] w (Gv w (fun q:Option Addr×Nat=> .tuple #[.slice q.1 (S.msN s.V z.o) q.2, .int .i64 (S.askE s.V z.o)]) (fun q=>[.wown 29 .u8 32 q.1 (S.msN s.V z.o) q.2 (S.msL s.V z.o)]) fun q=>S.msN s.V z.o≤q.2):=by
 have hcp:=H.cap;have h20:=R.ok.n;refine J.enter 15 func21 rfl rfl ?_;refine run ?_;refine J.box rfl rfl rfl fun b1=>?_
 refine J.box rfl rfl rfl fun b2=>?_
 refine run ?_;refine J.callp rfl rfl (fun w' M=>stAsked s z _ w' (K0.ext M.ext) (H.ext M.ext) (R.ext M.ext)) ?_;refine run ?_;refine J.ifn rfl (fun c1=>?_) (fun c1=>?_)
 ·obtain⟨k1,k2⟩:=S.ms_no c1;rw[k1,k2];refine run ?_;refine J.nilWo 29 .u8 32 ?_;exact J.finG (none,0) rfl (Nat.le_refl _) sb
 obtain⟨k1,k2⟩:=S.ms_yes c1;rw[k1,k2,c1];refine run ?_;refine J.call rfl rfl (fun w' M=>stMissing0 s z w') fun m _=>?_
 refine J.call rfl rfl (fun w' M=>collect w' w' (missIter s z m.1 m.2 _ _ w' (blkC m.1 M) (blkC m.2 M) (H.os.ext M.ext) (R.row.ext M.ext) (by omega) (by omega)) (Ext.refl w') Ents.h) fun q hq=>?_
 refine run ?_;exact J.finG q rfl hq sb
theorem stVerdict{S0 S1:Nat→Prop}(s:StA)(z:OpA)(w:World)(H:StR S0 w s)(R:OpR S1 w z)(hv:s.on=s.sh.ver):
  Calls prog 78 #[.agg (srC s).toArray, .agg (opC z).toArray, .agg (ints .u8 (S.idOf z.o)).toArray] w (Ret w fun v _=>v= .int .u8 (S.judT s.V z.o)):=by
 have hcp:=H.cap;have h20:=R.ok.n;have hA:=S.sha_arr (S.encS z.o);show Calls prog 78 ([.agg (srC s).toArray, .agg (opC z).toArray, .agg (ints .u8 (S.idOf z.o)).toArray]:List Value).toArray w _;refine J.enterR 18 func78 rfl rfl ?_;refine run ?_;refine J.box rfl rfl rfl fun b3=>?_
 refine J.box rfl rfl rfl fun b4=>?_
 refine J.box rfl rfl rfl fun b5=>?_
 refine J.alloc rfl fun b6=>?_
 refine run ?_;refine J.callp rfl rfl (fun w' M=>hasID _ _ _ _ _ w' (H.os.ext M.ext) hA (by omega)) ?_;refine run ?_;refine J.ifd rfl (fun c1=>?_) (fun c1=>?_)
 ·refine run ?_;refine J.toM ?_;refine run ?_;exact J.fin (congrArg _ (S.jud_5 c1).symm)
 refine run ?_;refine J.call rfl rfl (fun w' M=>stMissing0 s z w') fun m _=>?_
 refine run ?_;refine J.front (.blk b3 (srC s) 27) ?_;refine J.front (.blk b6 [.int .u8 0] 5) ?_;unfold J;intro w1 M1;have x1:Ext w w1:=M1.ext;have d36:=blk_two M1;have hB6:=blkC b6 M1;have hB3:=blkC b3 M1;obtain⟨S6,hS6,h6⟩:=M1.get .here;obtain⟨S3,hS3,h3⟩:=M1.get (.there .here);have hb6:w.heap.size≤b6:=(hS6 b6 (blk_e h6).1).1.resolve_left fun h=>h;have hb3:w.heap.size≤b3:=(hS3 b3 (blk_e h3).1).1.resolve_left fun h=>h;have hit:=missIter s z m.1 m.2 _ _ w1 (blkC m.1 M1) (blkC m.2 M1) (H.os.ext x1) (R.row.ext x1) (by omega) (by omega);refine(wpIn_wide (n:=9)).1 ?_;refine wpIn_rangeFunc_ownF (F:=Fence.wide) (n:=9) (w:=w1) (gf:=111) rfl (by decide) (by rw[eval_fr];rfl) trivial (enters_run Ents.h) hit (fun h k=>belowK_t h k) (belowK_b (Nat.le_refl _)) (Below.refl _ _) (fun x=>rfl)
  (fun(k:List IdB) (Wb:World)=>k=[]∧Ext w Wb∧Blk Wb b3 (srC s) 27∧Blk Wb b6 [.int .u8 0] 5)
  (fun c _ Wb=>c= .ret∧Ext w Wb∧Blk Wb b6 [.int .u8 6] 5)
  (fun k A B row ⟨h0,hx,h1,h2⟩ hg hr=>⟨h0,ext_own hx x1.size hg hr,blk_own h1 hg hr,blk_own h2 hg hr⟩)
  (fun c k A B row ⟨h0,hx,h1⟩ hg hr=>⟨h0,ext_own hx x1.size hg hr,blk_own h1 hg hr⟩)
  ⟨rfl,x1,hB3,hB6⟩ (fun x=>fr [.agg (srC s).toArray, .agg (opC z).toArray, .agg (ints .u8 (S.idOf z.o)).toArray, .pointer (some ⟨b3,0,none⟩), .pointer (some ⟨b4,0,none⟩), .pointer (some ⟨b5,0,none⟩), .pointer (some ⟨b6,0,none⟩), .pointer (some ⟨b3,4,none⟩), .slice s.oa s.on s.oc, .agg (ints .u8 (S.idOf z.o)).toArray, .bool (decide (S.inS s.on s.os (S.idOf z.o))), .agg (srC s).toArray, .agg (opC z).toArray, .func (.func 111) #[] #[.pointer (some ⟨m.1,0,none⟩), .pointer (some ⟨m.2,0,none⟩)], .agg (ints .u8 x.1).toArray,undef,undef,undef,undef,undef,undef]) ?_ ?_ ?_ ?_
 ·intro r x Wb K hK;rw[zip1 (fun _ _ _=>rfl)];exact wpIn_skip hK
 ·intro r pre x Wb hI hlen;obtain⟨rfl,hx,i3,i6⟩:=hI;refine J.at (memB1 i6) ?_;refine J.dblk (J.dsq (J.dreg ?_));refine run ?_;refine J.dret ?_;unfold J;intro w2 M2;refine⟨others_pr M2.pr fun b h=>⟨_,_,h▸i6⟩,rfl,pr_ext hx M2.pr fun b h=>h▸hb6,blkC b6 M2⟩
 ·intro D ks Wb hD ⟨hk1,hk2⟩ ⟨h0,hx,i3,i6⟩ hK;subst h0;have hall:S.allI s.on s.os z.o.n z.o.ids:=S.abs_none.1 hk1.symm;show Code.wp _ (Code.seq _ _) _ ⟨([.agg (srC s).toArray, .agg (opC z).toArray, .agg (ints .u8 (S.idOf z.o)).toArray, .pointer (some ⟨b3,0,none⟩), .pointer (some ⟨b4,0,none⟩), .pointer (some ⟨b5,0,none⟩), .pointer (some ⟨b6,0,none⟩), .pointer (some ⟨b3,4,none⟩), .slice s.oa s.on s.oc, .agg (ints .u8 (S.idOf z.o)).toArray, .bool (decide (S.inS s.on s.os (S.idOf z.o))), .agg (srC s).toArray, .agg (opC z).toArray, .func (.func 111) #[] #[.pointer (some ⟨m.1,0,none⟩), .pointer (some ⟨m.2,0,none⟩)],undef,undef,undef,undef,undef,undef,undef]:List Value).toArray,markD D⟩ Wb;refine(wpIn_wide (n:=9)).1 ?_;refine J.at (memD2 hx hK i3 i6 d36 (Nat.le_trans x1.size hD) hb3 hb6) ?_;refine J.dsq (ro:=none) (J.dsq (J.dreg ?_));refine run ?_;refine J.dnil (J.dthn (P:=prog) (J.dife rfl (fun c3=>?_) (fun c3=>?_)))
  ·refine J.dsq (J.dreg ?_);refine run ?_;refine J.dnil (J.dthn (P:=prog) (J.dret ?_));refine J.retM ?_;refine run ?_;exact J.fin (congrArg _ (S.jud_8 c1 hall (by show(s.on:Int)=s.cap;omega)).symm)
  refine J.dskip (J.dthn (P:=prog) (J.dsq (J.dreg ?_)));refine run ?_;refine J.dnil (J.dthn (P:=prog) (J.dret ?_));refine J.retM ?_;refine run ?_;exact J.fin (congrArg _ (S.jud_1 c1 hall (by show(s.on:Int)≠s.cap;omega)).symm)
 intro D c pre Wb hD ⟨hp,hn⟩ ⟨hc,hx,i6⟩ hK;subst hc;have hall:¬S.allI s.on s.os z.o.n z.o.ids:=fun h=>by have:=S.abs_none.2 h;omega
 refine J.at (memD1 hx hK i6 (Nat.le_trans x1.size hD) hb6) ?_;refine J.dret (ro:=none) ?_;show J no w _ (bodyPostM Fence.wide 9 _ _ _ .ret ⟨([.agg (srC s).toArray, .agg (opC z).toArray, .agg (ints .u8 (S.idOf z.o)).toArray, .pointer (some ⟨b3,0,none⟩), .pointer (some ⟨b4,0,none⟩), .pointer (some ⟨b5,0,none⟩), .pointer (some ⟨b6,0,none⟩), .pointer (some ⟨b3,4,none⟩), .slice s.oa s.on s.oc, .agg (ints .u8 (S.idOf z.o)).toArray, .bool (decide (S.inS s.on s.os (S.idOf z.o))), .agg (srC s).toArray, .agg (opC z).toArray, .func (.func 111) #[] #[.pointer (some ⟨m.1,0,none⟩), .pointer (some ⟨m.2,0,none⟩)],undef,undef,undef,undef,undef,undef,undef]:List Value).toArray,markD D⟩);refine J.retM ?_;refine run ?_;exact J.fin (congrArg _ (S.jud_6 c1 hall).symm)
instance:Ents prog 120:=⟨.mk func120 (by kernel_rfl) rfl⟩
theorem cloneGr{S0:Nat→Prop}(a:Option Addr)(n c:Nat)(l:List GrA)(w:World)(D0:GRow (fun g:GrA=>grC g) 2 S0 w a n l)(hn:n≤1000):
  Calls prog 120 #[.slice a n c] w (Gv w (fun q:Option Addr×Nat=> .slice q.1 n q.2) (fun q=>[.gown (fun g:GrA=>grC g) 2 57 q.1 n q.2 l]) fun _=>True):=by
 refine J.enter 7 func120 rfl rfl ?_;refine run ?_;refine J.ifb rfl (fun c1=>?_) (fun c1=>?_)
 ·obtain⟨rfl,rfl⟩:=D0.none (by decide) c1;refine run ?_;refine J.nilG (fun g:GrA=>grC g) 2 57 grC_len ?_;exact J.finG (none,0) rfl trivial (.cons_cons _ (List.nil_sublist _))
 refine run ?_;refine J.b0G (fun g:GrA=>grC g) grC_len rfl fun b=>?_
 refine run ?_;refine J.apG rfl rfl (RG.arg D0) grC_one fun a' c'=>?_
 refine run ?_;refine J.re (.gown (fun g:GrA=>grC g) 2 57 a' (0+n) c' ([]++l)) (.gown (fun g:GrA=>grC g) 2 57 a' n c' l) (fun S w h=>by rw[Nat.zero_add]at h;exact h) ?_;exact J.finG (a',c') (by rw[Nat.zero_add]) trivial (.cons_cons _ (List.nil_sublist _))
structure TwO where
 (i:Nat)(D:List GrA)
theorem mid_at{α:Type}{D l:List α}{i:Nat}{x:α}(hD:D.length=i)(h:l[i]? =some x):(D++l.drop i)[((i:Nat):Int).toNat]? =some x:=by
 rw[Int.toNat_natCast,List.getElem?_append_right (by omega),hD,Nat.sub_self,List.getElem?_drop,Nat.add_zero];exact h
theorem stTwin{S0:Nat→Prop}(s:StA)(w:World)(H:StR S0 w s):
  Calls prog 79 #[.agg (srC s).toArray] w (Gv w (fun q:StA=> .agg (srC q).toArray) (fun q=>stE q) (StK s.V)):=by
 have P0:=H.sh.pr;have hl:=P0.len;have hcp:=H.sh.cap;have hcp2:=H.cap;refine J.enter 76 func79 rfl rfl ?_;refine run ?_;refine J.box rfl rfl rfl fun b1=>?_
 refine J.alloc rfl fun b2=>?_
 refine run ?_;refine J.regionX [(0, .q),(1, .q),(2, .q),(4, .q),(5, .q),(3, .e),(7, .q),(8, .q),(6, .e),(9, .g),(10, .q),(11, .g)] mixed (by kernel_rfl) ?_;refine run ?_;refine J.call rfl rfl (fun w' M=>cloneW s.sh.ha s.sh.hn s.sh.hc s.sh.hs w' (H.sh.hr.ext M.ext) hcp.2.1 (by omega)) fun q1 hq1=>?_
 refine run ?_;refine J.call rfl rfl (fun w' M=>cloneW s.oa s.on s.oc s.os w' (H.os.ext M.ext) hcp2.1 (by omega)) fun q2 hq2=>?_
 obtain⟨ha,hc⟩:=q1;obtain⟨oa,oc⟩:=q2;dsimp only at hq1 hq2⊢;refine run ?_;refine J.call rfl rfl (fun w' M=>cloneGr s.sh.pa s.sh.pn s.sh.pc s.sh.gs w' (P0.ext M.ext) (by omega)) fun q3 hq3=>?_
 obtain⟨pa,pc⟩:=q3;dsimp only at hq3⊢;refine run ?_;refine J.noA ?_;refine J.re (.gown (fun g:GrA=>grC g) 2 57 pa s.sh.pn pc s.sh.gs) (.gown (fun g:GrA=>grC g) 2 57 pa s.sh.pn pc ([]++s.sh.gs.drop 0)) (fun _ _ h=>h) ?_;refine J.re (.all []) (.all (([]:List GrA).map grAll)) (fun _ _ h=>h) ?_;refine J.front (.wown 29 .u8 32 oa s.on oc s.os) ?_;refine J.front (.wown 29 .u8 32 ha s.sh.hn hc s.sh.hs) ?_;refine J.front (.blk b1 [.int .i64 s.cap, .slice pa s.sh.pn pc, .slice ha s.sh.hn hc, .int .i64 s.sh.ver, .slice oa s.on oc] 27) ?_;refine J.front (.all (([]:List GrA).map grAll)) ?_;refine J.front (.gown (fun g:GrA=>grC g) 2 57 pa s.sh.pn pc ([]++s.sh.gs.drop 0)) ?_;refine J.drop (E:=[.gown (fun g:GrA=>grC g) 2 57 pa s.sh.pn pc ([]++s.sh.gs.drop 0), .all (([]:List GrA).map grAll), .blk b1 [.int .i64 s.cap, .slice pa s.sh.pn pc, .slice ha s.sh.hn hc, .int .i64 s.sh.ver, .slice oa s.on oc] 27, .wown 29 .u8 32 ha s.sh.hn hc s.sh.hs, .wown 29 .u8 32 oa s.on oc s.os, .blk b2 [.int .i64 0, .slice none 0 0, .slice none 0 0, .int .i64 0, .slice none 0 0] 27]) sb ?_;refine J.loop (A:=TwO) (fun p=>[(26, .int .i64 (p.i:Nat))]) [3,4,5,27,28,29,30,31,32,33,34,35,36,37,38,39,40,41,42,43,44,45,46,47,48,49,50,51,52,53,54,55,56,57,58,59,60,61,62,63,64,65,66,67,68,69,70,71,72,73,74,75] (fun p=>[.gown (fun g:GrA=>grC g) 2 57 pa s.sh.pn pc (p.D++s.sh.gs.drop p.i), .all (p.D.map grAll), .blk b1 [.int .i64 s.cap, .slice pa s.sh.pn pc, .slice ha s.sh.hn hc, .int .i64 s.sh.ver, .slice oa s.on oc] 27, .wown 29 .u8 32 ha s.sh.hn hc s.sh.hs, .wown 29 .u8 32 oa s.on oc s.os, .blk b2 [.int .i64 0, .slice none 0 0, .slice none 0 0, .int .i64 0, .slice none 0 0] 27]) (fun p=>p.i≤s.sh.pn∧p.D.length=p.i∧p.D.map GrA.P=s.sh.V.ps.take p.i∧∀x∈p.D,GrK x) (fun p=>s.sh.pn - p.i) ⟨0,[]⟩ (by kernel_rfl) ⟨Nat.zero_le _,rfl,rfl,fun z hz=>by cases hz⟩ (fun p j hI=>?_)
 obtain⟨hp,hD,hps,hpk⟩:=hI;refine run ?_;refine J.ifd rfl (fun c1=>?_) (fun c1=>?_)
 ·obtain⟨g,hg⟩:=P0.ex (i:=(p.i:Nat)) (by omega);have hg':=hg;rw[Int.toNat_natCast]at hg';have G:=H.sh.g hg';have hgl:=G.len;have hgc:=G.cap;have G0:=G.ops;have hz1:(p.D++s.sh.gs.drop p.i)[((p.i:Nat):Int).toNat]? =some g:=mid_at hD hg';have hll:(p.D++s.sh.gs.drop p.i).length=s.sh.pn:=by rw[List.length_append,List.length_drop];omega
  refine J.fact (.gown (fun g:GrA=>grC g) 2 57 pa s.sh.pn pc (p.D++s.sh.gs.drop p.i)) (fun _ _ h=>(gown_e h).1.some (by omega)) fun hpa=>?_
  have hpb:∃b o,pa=some ⟨b,o,none⟩:=hpa.elim fun b h=>⟨b,0,h⟩
  refine run ?_;refine J.regionX [(0, .q),(1, .c),(2, .q),(3, .q),(4, .q),(5, .q),(7, .q),(8, .q),(9, .q),(10, .q),(6, .e),(11, .e),(12, .q),(13, .q),(14, .g),(15, .q),(16, .q),(17, .g)] mixed (by kernel_rfl) ?_;refine run ?_;refine J.ncP rfl hpb rfl ?_;refine run ?_;refine J.ncP rfl hpb rfl ?_;refine run ?_;refine J.call rfl rfl (fun w' M=>cloneW g.ia g.m g.ic g.ids w' (G.ids.ext M.ext) hgc.1 (by omega)) fun q1 hq1=>?_
  obtain⟨ia,ic⟩:=q1;dsimp only at hq1⊢;refine run ?_;refine J.call rfl rfl (fun w' M=>cloneO g.oa g.n g.oc g.zs w' (G0.ext M.ext) (by omega)) fun q2 hq2=>?_
  obtain⟨za,zc⟩:=q2;dsimp only;refine run ?_;refine J.ncP rfl hpb rfl ?_;refine run ?_;refine J.stGf (f:=fun g:GrA=>grC g) (o:=0) (q0:=g) (q:=(⟨ia,g.oa,g.m,g.n,ic,g.oc,g.ids,g.zs⟩:GrA)) rfl rfl hz1 rfl ?_;have hz2:((p.D++s.sh.gs.drop p.i).set ((p.i:Nat):Int).toNat (⟨ia,g.oa,g.m,g.n,ic,g.oc,g.ids,g.zs⟩:GrA))[((p.i:Nat):Int).toNat]? =some ⟨ia,g.oa,g.m,g.n,ic,g.oc,g.ids,g.zs⟩:=by rw[List.getElem?_set,if_pos rfl,if_pos (by omega)]
  refine run ?_;refine J.ncP rfl hpb rfl ?_;refine run ?_;refine J.stGf (f:=fun g:GrA=>grC g) (o:=1) (q0:=(⟨ia,g.oa,g.m,g.n,ic,g.oc,g.ids,g.zs⟩:GrA)) (q:=(⟨ia,za,g.m,g.n,ic,zc,g.ids,g.zs⟩:GrA)) rfl rfl hz2 rfl ?_;have e1:((p.D++s.sh.gs.drop p.i).set ((p.i:Nat):Int).toNat (⟨ia,g.oa,g.m,g.n,ic,g.oc,g.ids,g.zs⟩:GrA)).set ((p.i:Nat):Int).toNat (⟨ia,za,g.m,g.n,ic,zc,g.ids,g.zs⟩:GrA)=(p.D++[(⟨ia,za,g.m,g.n,ic,zc,g.ids,g.zs⟩:GrA)])++s.sh.gs.drop (p.i+1):=by rw[List.set_set,Int.toNat_natCast,S.set_mid hD hg']
  rw[e1];have hz3:((p.D++[(⟨ia,za,g.m,g.n,ic,zc,g.ids,g.zs⟩:GrA)])++s.sh.gs.drop (p.i+1))[((p.i:Nat):Int).toNat]? =some ⟨ia,za,g.m,g.n,ic,zc,g.ids,g.zs⟩:=by
   rw[Int.toNat_natCast,List.append_assoc,List.getElem?_append_right (by omega),hD,Nat.sub_self];rfl
  refine run ?_;refine J.ncP rfl hpb rfl ?_;refine run ?_;refine J.noA ?_;refine J.re (.gown opC 11 39 za g.n zc g.zs) (.gown opC 11 39 za g.n zc ([]++g.zs.drop 0)) (fun _ _ h=>h) ?_;refine J.re (.all []) (.all (([]:List OpA).map (opE 29))) (fun _ _ h=>h) ?_;refine J.front (.wown 29 .u8 32 ia g.m ic g.ids) ?_;refine J.front (.all (p.D.map grAll)) ?_;refine J.front (.gown (fun g:GrA=>grC g) 2 57 pa s.sh.pn pc ((p.D++[(⟨ia,za,g.m,g.n,ic,zc,g.ids,g.zs⟩:GrA)])++s.sh.gs.drop (p.i+1))) ?_;refine J.front (.all (([]:List OpA).map (opE 29))) ?_;refine J.front (.gown opC 11 39 za g.n zc ([]++g.zs.drop 0)) ?_;refine J.drop (E:=[.gown opC 11 39 za g.n zc ([]++g.zs.drop 0), .all (([]:List OpA).map (opE 29)), .gown (fun g:GrA=>grC g) 2 57 pa s.sh.pn pc ((p.D++[(⟨ia,za,g.m,g.n,ic,zc,g.ids,g.zs⟩:GrA)])++s.sh.gs.drop (p.i+1)), .all (p.D.map grAll), .wown 29 .u8 32 ia g.m ic g.ids, .blk b1 [.int .i64 s.cap, .slice pa s.sh.pn pc, .slice ha s.sh.hn hc, .int .i64 s.sh.ver, .slice oa s.on oc] 27, .wown 29 .u8 32 ha s.sh.hn hc s.sh.hs, .wown 29 .u8 32 oa s.on oc s.os, .blk b2 [.int .i64 0, .slice none 0 0, .slice none 0 0, .int .i64 0, .slice none 0 0] 27]) sb ?_
  refine J.loop (A:=TwA) (fun e=>[(55, .int .i64 (e.i:Nat))]) [5,56,57,58,59,60,61,62,63,64,65,66,67,68,69,70,71,72,73,74] (fun e=>[.gown opC 11 39 za g.n zc (e.D++g.zs.drop e.i), .all (e.D.map (opE 29)), .gown (fun g:GrA=>grC g) 2 57 pa s.sh.pn pc ((p.D++[(⟨ia,za,g.m,g.n,ic,zc,g.ids,g.zs⟩:GrA)])++s.sh.gs.drop (p.i+1)), .all (p.D.map grAll), .wown 29 .u8 32 ia g.m ic g.ids, .blk b1 [.int .i64 s.cap, .slice pa s.sh.pn pc, .slice ha s.sh.hn hc, .int .i64 s.sh.ver, .slice oa s.on oc] 27, .wown 29 .u8 32 ha s.sh.hn hc s.sh.hs, .wown 29 .u8 32 oa s.on oc s.os, .blk b2 [.int .i64 0, .slice none 0 0, .slice none 0 0, .int .i64 0, .slice none 0 0] 27]) (fun e=>e.i≤g.n∧e.D.length=e.i∧e.D.map OpA.o=(g.zs.take e.i).map OpA.o∧∀z∈e.D,z.o.n≤z.pc) (fun e=>g.n - e.i) ⟨0,[]⟩ (by kernel_rfl) ⟨Nat.zero_le _,rfl,rfl,fun z hz=>by cases hz⟩ (fun e j2 hE=>?_);obtain⟨he,hED,hEo,hEc⟩:=hE;refine run ?_;refine J.ifd rfl (fun d1=>?_) (fun d1=>?_)
  ·obtain⟨z,hzz⟩:=G0.ex (i:=(e.i:Nat)) (by omega);have R:=G.op hzz;rw[Int.toNat_natCast]at hzz;have hy2:(e.D++g.zs.drop e.i)[((e.i:Nat):Int).toNat]? =some z:=mid_at hED hzz;refine run ?_;refine J.regionX [(0, .q),(1, .q),(2, .q),(3, .q),(4, .q),(5, .q),(6, .q),(7, .q),(8, .q),(9, .q),(10, .q),(11, .q),(12, .q),(13, .e),(14, .q),(15, .q),(16, .g)] mixed (by kernel_rfl) ?_;refine run ?_;refine J.ncP rfl hpb rfl ?_;refine run ?_;refine J.ncP rfl hpb rfl ?_;refine run ?_;refine J.call rfl rfl (fun w' M=>cloneW _ _ _ _ w' (R.row.ext M.ext) R.cap (by have:=R.ok.n;omega)) fun q hq=>?_
   refine run ?_;refine J.stGf (f:=opC) (o:=1) (q0:=z) (q:=⟨z.o,q.1,q.2⟩) rfl rfl hy2 rfl ?_;have e2:(e.D++g.zs.drop e.i).set ((e.i:Nat):Int).toNat (⟨z.o,q.1,q.2⟩:OpA)=(e.D++[(⟨z.o,q.1,q.2⟩:OpA)])++g.zs.drop (e.i+1):=by rw[Int.toNat_natCast,S.set_mid hED hzz]
   rw[e2];refine run ?_;refine J.snocA (e.D.map (opE 29)) (.wown 29 .u8 32 q.1 z.o.n q.2 z.o.ids) ?_;refine J.re (.all (e.D.map (opE 29)++[.wown 29 .u8 32 q.1 z.o.n q.2 z.o.ids])) (.all ((e.D++[(⟨z.o,q.1,q.2⟩:OpA)]).map (opE 29))) (fun _ _ h=>by rw[List.map_append];exact h) ?_
   exact J.next ⟨e.i + 1, e.D ++ [⟨z.o, q.1, q.2⟩]⟩ ⟨rfl, trivial⟩ (by kernel_rfl) ⟨by dsimp only; omega, by simp [hED], by dsimp only; rw [List.map_append, hEo, List.take_add_one, hzz, Option.toList_some, List.map_append]; rfl, fun y hy => by
    rcases List.mem_append.1 hy with h | h
    ·exact hEc y h
    rw [List.mem_singleton] at h; subst h; exact hq⟩ (by dsimp only; omega)
  obtain⟨ei,D⟩:=e;dsimp only at he hED hEo hEc d1⊢;obtain rfl:ei=g.n:=by omega
  rw[List.drop_of_length_le (by have:=G0.len;omega),List.append_nil];have hDo:D.map OpA.o=g.ops:=by rw[hEo,List.take_of_length_le (by have:=G0.len;omega)];rfl
  refine run ?_;refine J.triG (⟨ia,za,g.m,g.n,ic,zc,g.ids,D⟩:GrA) ?_;refine J.snocA (p.D.map grAll) (grAll ⟨ia,za,g.m,g.n,ic,zc,g.ids,D⟩) ?_;refine J.re (.all (p.D.map grAll++[grAll ⟨ia,za,g.m,g.n,ic,zc,g.ids,D⟩])) (.all ((p.D++[(⟨ia,za,g.m,g.n,ic,zc,g.ids,D⟩:GrA)]).map grAll)) (fun _ _ h=>by rw[List.map_append];exact h) ?_;refine J.re (.gown (fun g:GrA=>grC g) 2 57 pa s.sh.pn pc ((p.D++[(⟨ia,za,g.m,g.n,ic,zc,g.ids,g.zs⟩:GrA)])++s.sh.gs.drop (p.i+1))) (.gown (fun g:GrA=>grC g) 2 57 pa s.sh.pn pc ((p.D++[(⟨ia,za,g.m,g.n,ic,zc,g.ids,D⟩:GrA)])++s.sh.gs.drop (p.i+1))) (fun _ _ h=>gown_reG (by simp only[List.flatMap_append];rfl) (by simp only[List.length_append,List.length_cons]) h) ?_;refine J.front (.all ((p.D++[(⟨ia,za,g.m,g.n,ic,zc,g.ids,D⟩:GrA)]).map grAll)) ?_;refine J.front (.gown (fun g:GrA=>grC g) 2 57 pa s.sh.pn pc ((p.D++[(⟨ia,za,g.m,g.n,ic,zc,g.ids,D⟩:GrA)])++s.sh.gs.drop (p.i+1))) ?_
  exact J.next ⟨p.i + 1, p.D ++ [⟨ia, za, g.m, g.n, ic, zc, g.ids, D⟩]⟩ ⟨rfl, trivial⟩ (by kernel_rfl) ⟨by dsimp only; omega, by simp [hD], gsTake hg' (by unfold GrA.P GrA.ops; dsimp only; rw [hDo]; rfl) hps, fun y hy => by
   rcases List.mem_append.1 hy with h | h
   ·exact hpk y h
   rw [List.mem_singleton] at h
   subst h
   exact ⟨fun z hz => G.opz z.o (by rw [← hDo]; exact List.mem_map.2 ⟨z, hz, rfl⟩), hEc⟩⟩ (by dsimp only; omega)
 obtain⟨pi,D⟩:=p;dsimp only at hp hD hps hpk c1⊢;obtain rfl:pi=s.sh.pn:=by omega
 rw[List.drop_of_length_le (by omega),List.append_nil];have hps:D.map GrA.P=s.sh.V.ps:=hps.trans (List.take_of_length_le (by rw[List.length_map,hl];exact Nat.le_refl _));refine run ?_;refine J.pair (.gown (fun g:GrA=>grC g) 2 57 pa s.sh.pn pc D) (.all (D.map grAll)) ?_;refine J.snocA [.gown (fun g:GrA=>grC g) 2 57 pa s.sh.pn pc D, .all (D.map grAll)] (.wown 29 .u8 32 ha s.sh.hn hc s.sh.hs) ?_;refine J.re (.all ([.gown (fun g:GrA=>grC g) 2 57 pa s.sh.pn pc D, .all (D.map grAll)]++[.wown 29 .u8 32 ha s.sh.hn hc s.sh.hs])) (shW ⟨pa,s.sh.pn,pc,D,ha,s.sh.hn,hc,s.sh.hs,s.sh.ver⟩) (fun _ _ h=>by unfold shW;exact h) ?_;refine J.front (shW ⟨pa,s.sh.pn,pc,D,ha,s.sh.hn,hc,s.sh.hs,s.sh.ver⟩) ?_;exact J.finG ⟨s.cap,⟨pa,s.sh.pn,pc,D,ha,s.sh.hn,hc,s.sh.hs,s.sh.ver⟩,oa,s.on,oc,s.os⟩ rfl ⟨by unfold StA.V ShA.V;dsimp only;rw[hps],hpk⟩ sb
instance:Ents prog 78:=⟨.mk func78 (by kernel_rfl) rfl⟩
instance:Ents prog 79:=⟨.mk func79 (by kernel_rfl) rfl⟩
instance:Ents prog 80:=⟨.mk func80 (by kernel_rfl) rfl⟩
instance:Ents prog 34:=⟨.mk func34 (by kernel_rfl) rfl⟩
instance:Und prog 76 (.slice 5):=⟨underlying76⟩
instance:Ents prog 63:=⟨.mk func63 (by kernel_rfl) rfl⟩
theorem StZ.off{v:S.StV}{o:S.OpV}(hz:StZ v)(hg:S.StG v)(h:S.okT v)(hv:S.verE o=0):StZ (S.offT v o):=by
 by_cases c:S.judT v o=1
 ·rw[S.off_1 c];obtain⟨a1,a2⟩:=S.com_add hg h hv c;have F:=S.ok_fineT hg h;obtain⟨_,_,b3,b4,_⟩:=S.add_fine F.fine.good.1 a1;rw[a2]at b3 b4;have hle:=b3.le;have hcp:=F.cap;have hps:=F.ps;refine⟨fun p hp=>?_,⟨?_,?_⟩,fun _=>?_,?_⟩
  ·obtain⟨i,hi,rfl⟩:=List.mem_map.1 hp;obtain⟨h1,h2⟩:=S.prt_size (S.putP (S.whole v.sh.ps) (S.idOf o) o) v.sh.ps.length i;exact⟨by omega,by omega⟩
  ·show(S.madeS _ _).ps.length≤6;rw[S.made_len];omega
  ·exact Nat.le_trans (S.numF_le _ _) (Nat.le_trans hle (by decide))
  ·exact Nat.le_trans (S.allN_made b3) (Nat.le_trans hle (by decide))
  show v.n+1≤70;omega
 rw[S.off_no c];exact hz
theorem StZ.run{v:S.StV}{l:List S.OpV}(hz:StZ v)(hg:S.StG v)(h:S.okT v)(hl:∀o∈l,S.verE o=0):∀i,i≤l.length→StZ (S.runT v l i)
 |0,_=>hz
 |i+1,hi=>by
  obtain⟨k1,k2⟩:=S.run_ok hg h hl i (by omega);rw[S.runT];exact(StZ.run hz hg h hl i (by omega)).off k2 k1 (hl _ (by rw[S.getD_at (by omega)];exact List.getElem_mem _))
theorem jud_bd(v:S.StV)(o:S.OpV):0≤S.judT v o∧S.judT v o<256:=by
 rcases S.jud_or v o with h|h|h|h<;>rw[h]<;>decide
theorem stOffer{S0 S1:Nat→Prop}(s:StA)(z:OpA)(TK:TypeId)(w:World)(K0:Kst w TK)(H:StR S0 w s)(R:OpR S1 w z):
  Calls prog 34 #[.agg (srC s).toArray, .agg (opC z).toArray] w (Gv w (fun q:StA=> .tuple #[.agg (srC q).toArray, .int .u8 (S.ofJ s.V z.o), .int .i64 (S.askE s.V z.o)]) (fun q=>stE q) (StK (S.ofS s.V z.o))):=by
 have hcp:=H.cap;have hA:=S.sha_arr (S.encS z.o);refine J.enter 55 func34 rfl rfl ?_;refine run ?_;refine J.box rfl rfl rfl fun b1=>?_
 refine J.box rfl rfl rfl fun b2=>?_
 refine J.alloc rfl fun b3=>?_
 refine run ?_;refine J.callp rfl rfl (fun w' M=>stAsked s z _ w' (K0.ext M.ext) (H.ext M.ext) (R.ext M.ext)) ?_;refine run ?_;refine J.ifn rfl (fun c1=>?_) (fun c1=>?_)
 ·rw[(S.of_no c1).2];refine run ?_;refine J.nilSh (J.nilWo 29 .u8 32 ?_);refine J.front (shW ShA.zero) ?_;exact J.finG StA.zero rfl (stZero (S.of_no c1).1) sb
 obtain⟨hok,hv⟩:=S.askE_0 c1;have hchk:=S.verE_check hv;have hver:(s.on:Int)=s.sh.ver:=hok.1.2.2.2;rw[(S.of_yes c1).1,(S.of_yes c1).2,c1];refine run ?_;refine J.callp rfl rfl (fun w' M=>idO z.o R.ok _ _ _ _ (K0.ext M.ext) (R.row.ext M.ext) R.cap) ?_;rw[if_pos hchk];refine run ?_;refine J.alloc rfl fun b4=>?_
 refine run ?_;refine J.callp rfl rfl (fun w' M=>stVerdict s z w' (H.ext M.ext) (R.ext M.ext) hver) ?_;refine run ?_;refine J.call rfl rfl (fun w' M=>stTwin s w' (H.ext M.ext)) fun t ht=>?_
 refine run ?_;refine J.alloc rfl fun b5=>?_
 refine run ?_;refine J.ife rfl (fun c2=>?_) (fun c2=>?_)
 ·obtain⟨a1,a2⟩:=S.com_add H.g hok hv c2;obtain⟨p1,p2,p3⟩:=S.pu_0 hok.1.2.1 a1;rw[a2]at p2;refine run ?_;refine J.call rfl rfl (fun w' M=>shOne (shPut s.sh z TK w' (K0.ext M.ext) (H.sh.ext M.ext) H.L (R.ext M.ext))) fun r hr=>?_
  rw[show S.puE s.sh.V z.o=0 from p1,show S.puI s.sh.V z.o=S.idOf z.o from p3];refine run ?_;refine J.alloc rfl fun b6=>?_
  refine J.alloc rfl fun b7=>?_
  refine run ?_;refine J.regionG [.blk b6 (shC r) 25, .blk b5 (srC t) 27, .blk b4 (ints .u8 (S.sha (S.encS z.o))) 29] [7,9] [8] mixed ?_;refine J.gfin [(0, .q),(1, .q),(2, .q),(3, .q),(6, .q),(4, .e),(5, .e),(7, .g),(8, .c),(9, .g)] (by kernel_rfl) ?_;refine run ?_;refine J.b1W rfl rfl hA fun bb=>?_
  refine run ?_;have hton:t.on=s.on:=congrArg S.StV.n ht.V;refine J.apW rfl rfl RW.own' fun a' c'=>?_
  refine J.sw rfl ?_;refine run ?_;refine J.front (.wown 29 .u8 32 a' (t.on+1) c' (t.os++S.sha (S.encS z.o))) ?_;refine J.front (shW r) ?_;refine J.finG ⟨t.cap,r,a',t.on+1,c',t.os++S.sha (S.encS z.o)⟩ rfl ⟨?_,hr.k⟩ sb;rw[S.off_1 c2];have e1:t.cap=s.cap:=congrArg S.StV.cap ht.V;have e2:t.on=s.on:=congrArg S.StV.n ht.V;have e3:t.os=s.os:=congrArg S.StV.os ht.V;have e4:r.V=S.puS s.sh.V z.o:=hr.V;unfold StA.V S.comT;dsimp only;rw[e1,e2,e3,e4,show S.puS s.sh.V z.o=_ from p2]
 refine run ?_;refine J.finG t rfl ⟨?_,ht.k⟩ sb;rw[S.off_no c2];exact ht.V
structure RnA where
 (i:Nat)(t:StA)(a:Option Addr)(c:Nat)
theorem stRun{S0 S1:Nat→Prop}(s:StA)(a:Option Addr)(n c:Nat)(zs:List OpA)(TK:TypeId)(w:World)(K0:Kst w TK)(H:StR S0 w s)(O:GRow opC 11 S1 w a n zs)(I0:Inns opI S1 w zs)(hok:∀z∈zs,z.o.ok)(hn:n≤100000):
  Calls prog 36 #[.agg (srC s).toArray, .slice a n c] w (Gv w (fun q:StA×Option Addr×Nat=> .tuple #[.agg (srC q.1).toArray, .slice q.2.1 (S.runL s.V (zs.map OpA.o)).length q.2.2, .int .i64 (S.runE s.V (zs.map OpA.o))]) (fun q=>[shW q.1.sh, .wown 29 .u8 32 q.1.oa q.1.on q.1.oc q.1.os, .iown 5 .u8 q.2.1 (S.runL s.V (zs.map OpA.o)).length q.2.2 (S.runL s.V (zs.map OpA.o))]) fun q=>StK (S.runS s.V (zs.map OpA.o)) q.1):=by
 have hl:=O.len;obtain⟨ops,hops⟩:=ex (zs.map OpA.o);have hol:ops.length=n:=by rw[hops,List.length_map,hl]
 have opR:∀ {i:Nat} {z:OpA},zs[i]? =some z→OpR S1 w z∧ops.getD i S.OpV.zero=z.o:=fun {i z} h=>by
  have hm:=List.mem_of_getElem? h;have h1:=I0 z hm ⟨.u8,32,z.pa,z.o.n,z.pc,z.o.ids⟩ (List.mem_singleton.2 rfl);exact⟨⟨hok z hm,h1.1,h1.2⟩,by rw[hops,List.getD_eq_getElem?_getD,List.getElem?_map,h];rfl⟩
 rw[←hops];refine J.enter 66 func36 rfl rfl ?_;refine run ?_;refine J.box rfl rfl rfl fun b1=>?_
 refine J.alloc rfl fun b2=>?_
 refine run ?_;refine J.callp rfl rfl (fun w' M=>stCheck s _ w' (K0.ext M.ext) (H.ext M.ext)) ?_;refine run ?_;refine J.ifn rfl (fun c1=>?_) (fun c1=>?_)
 ·obtain⟨k1,k2⟩:=S.chkT_ne c1;have he:=S.runE_8 (l:=ops) k1;obtain⟨e1,e2⟩:=S.run_no (v:=s.V) (l:=ops) (by rw[he];decide);rw[he,e2,k2];refine run ?_;refine J.nilI 5 .u8 ?_;refine J.nilWo 29 .u8 32 ?_;refine J.nilSh ?_;exact J.finG (StA.zero,none,0) rfl (stZero e1) sb
 have hokT:=S.chkT_iff.1 c1;refine run ?_;refine J.ifd rfl (fun c2=>?_) (fun c2=>?_)
 ·have he:=S.runE_4 (l:=ops) hokT (by omega);obtain⟨e1,e2⟩:=S.run_no (v:=s.V) (l:=ops) (by rw[he];decide);rw[he,e2];refine run ?_;refine J.nilI 5 .u8 ?_;refine J.nilWo 29 .u8 32 ?_;refine J.nilSh ?_;exact J.finG (StA.zero,none,0) rfl (stZero e1) sb
 have h60:¬60<ops.length:=by omega
 have hev:=S.runE_v (l:=ops) hokT h60;refine run ?_;refine J.loopS (A:=Nat) (fun p=>[(30, .int .i64 (p:Nat))]) [9,10,31,32,33,34,35,36,37,38,39,40] (fun p=>p≤n∧∀k,k<p→S.verE (ops.getD k S.OpV.zero)=0) (fun p=>n - p) 0 (by kernel_rfl) ⟨Nat.zero_le _,fun i hi=>by omega⟩ (fun p j hI=>?_);obtain⟨hp,hI⟩:=hI;refine run ?_;refine J.ifd rfl (fun c3=>?_) (fun c3=>?_)
 ·obtain⟨z,hz⟩:=O.ex (i:=(p:Nat)) (by omega);have hz':=hz;rw[Int.toNat_natCast]at hz';obtain⟨R,hzo⟩:=opR hz';refine run ?_;refine J.alloc rfl fun b3=>?_
  refine run ?_;refine J.callp rfl rfl (fun w' M=>verifyO z.o R.ok _ _ _ _ (K0.ext M.ext) (R.row.ext M.ext) R.cap) ?_;refine run ?_;refine J.ifn rfl (fun c4=>?_) (fun c4=>?_)
  ·have he:S.runE s.V ops=S.verE z.o:=by
    rw[hev,←hzo];exact S.verL_first (by omega) hI (by rw[hzo];exact c4)
   obtain⟨e1,e2⟩:=S.run_no (v:=s.V) (l:=ops) (by rw[he];exact c4);rw[he,e2];refine run ?_;refine J.nilI 5 .u8 ?_;refine J.nilWo 29 .u8 32 ?_;refine J.nilSh ?_;exact J.finG (StA.zero,none,0) rfl (stZero e1) sb
  refine run ?_;refine J.nextS (p+1) ⟨rfl,trivial⟩ (by kernel_rfl) ⟨by omega,fun k hk=>?_⟩ (by omega);rcases Nat.lt_or_ge k p with h|h
  ·exact hI k h
  obtain rfl:k=p:=by omega
  rw[hzo];exact c4
 have hvl:S.verL ops=0:=S.verL_all fun k hk=>hI k (by omega);have hvo:=S.verL_zero.1 hvl;have he:S.runE s.V ops=0:=hev.trans hvl;obtain⟨e1,e2⟩:=S.run_yes he;rw[he,e1,e2,S.runJ_len,hol];have hrun:=fun i hi=>S.run_ok H.g hokT hvo i hi;have hsz:=fun i hi=>H.z.run H.g hokT hvo i hi;refine run ?_;refine J.call rfl rfl (fun w' M=>stTwin s w' (H.ext M.ext)) fun t ht=>?_
 refine run ?_;refine J.alloc rfl fun b4=>?_
 refine run ?_;refine J.nilI 5 .u8 ?_;refine J.front (.blk b1 (srC s) 27) ?_;refine J.front (.iown 5 .u8 none 0 0 []) ?_;refine J.front (.wown 29 .u8 32 t.oa t.on t.oc t.os) ?_;refine J.front (shW t.sh) ?_;refine J.front (.blk b4 (srC t) 27) ?_;refine J.loop (A:=RnA) (fun p=>[(12, .slice p.a p.i p.c),(45, .int .i64 (p.i:Nat))]) [14,15,16,17,46,47,48,49,50,51,52,53,54,55,56,57,58,59,60,61,62,63,64,65] (fun p=>[.blk b4 (srC p.t) 27,shW p.t.sh, .wown 29 .u8 32 p.t.oa p.t.on p.t.oc p.t.os, .iown 5 .u8 p.a p.i p.c (S.runJ s.V ops p.i), .blk b1 (srC s) 27, .blk b2 [.int .i64 0, .slice none 0 0, .slice none 0 0, .int .i64 0, .slice none 0 0] 27]) (fun p=>p.i≤n∧StK (S.runT s.V ops p.i) p.t) (fun p=>n - p.i) ⟨0,t,none,0⟩ (by kernel_rfl) ⟨Nat.zero_le _,ht⟩ (fun p j hI=>?_) sb;obtain⟨hp,hT⟩:=hI;refine run ?_;refine J.ifd rfl (fun c3=>?_) (fun c3=>?_)
 ·obtain⟨z,hz⟩:=O.ex (i:=(p.i:Nat)) (by omega);have hz':=hz;rw[Int.toNat_natCast]at hz';obtain⟨R,hzo⟩:=opR hz';have hvz:S.verE z.o=0:=by rw[←hzo];exact hvo _ (by rw[S.getD_at (by omega)];exact List.getElem_mem _)
  have hbd:=jud_bd (S.runT s.V ops p.i) z.o;have hask:S.askE (S.runT s.V ops p.i) z.o=0:=by rw[S.askE_v (hrun p.i (by omega)).1,hvz]
  obtain⟨f1,f2⟩:=S.of_yes hask;refine run ?_;refine J.alloc rfl fun b5=>?_
  refine run ?_;refine J.call rfl rfl (fun w' M=>stOffer p.t z TK w' (K0.ext M.ext) (hT.own (hsz p.i (by omega)) w' M) (R.ext M.ext)) fun u hu=>?_
  rw[hT.V,f1]at hu;rw[hT.V,f2,hask];refine run ?_;refine J.alloc rfl fun b6=>?_
  refine run ?_;refine J.regionR [.blk b6 (srC u) 27] [(0, .q),(1, .q),(2, .q),(3, .e),(4, .e),(5, .e),(6, .q)] mixed (by kernel_rfl) (by repeat(first|exact List.Sublist.refl _|refine List.Sublist.cons_cons _ ?_|refine List.Sublist.cons _ ?_)) ?_;refine run ?_;refine J.b1 rfl rfl fun bb=>?_
  refine J.apI rfl rfl RI.own' fun a' c'=>?_
  have e3:S.runJ s.V ops p.i++[S.judT (S.runT s.V ops p.i) z.o]=S.runJ s.V ops (p.i+1):=by rw[S.runJ,hzo]
  rw[e3];refine run ?_;refine J.front (.iown 5 .u8 a' (p.i+1) c' (S.runJ s.V ops (p.i+1))) ?_;refine J.front (.wown 29 .u8 32 u.oa u.on u.oc u.os) ?_;refine J.front (shW u.sh) ?_;refine J.front (.blk b4 (srC u) 27) ?_;refine J.drop (E:=[.blk b4 (srC u) 27,shW u.sh, .wown 29 .u8 32 u.oa u.on u.oc u.os, .iown 5 .u8 a' (p.i+1) c' (S.runJ s.V ops (p.i+1)), .blk b1 (srC s) 27, .blk b2 [.int .i64 0, .slice none 0 0, .slice none 0 0, .int .i64 0, .slice none 0 0] 27]) sb ?_;exact J.next ⟨p.i+1,u,a',c'⟩ ⟨rfl,rfl,trivial⟩ (by kernel_rfl) ⟨by dsimp only;omega,by dsimp only;rw[S.runT,hzo];exact hu⟩ (by dsimp only;omega)
 obtain⟨pi,t',ra,rc⟩:=p;dsimp only at hp hT c3⊢;obtain rfl:pi=n:=by omega
 refine run ?_;exact J.finG (t',ra,rc) rfl hT sb
theorem stSince{S0:Nat→Prop}(s:StA)(k:Int)(TK:TypeId)(w:World)(K0:Kst w TK)(H:StR S0 w s):
  Calls prog 25 #[.agg (srC s).toArray, .int .i64 k] w (Gv w (fun q:Option Addr×Nat=> .tuple #[.slice q.1 (S.sinN s.V k) q.2, .int .i64 (S.sinE s.V k)]) (fun q=>[.wown 29 .u8 32 q.1 (S.sinN s.V k) q.2 (S.sinL s.V k)]) fun q=>S.sinN s.V k≤q.2):=by
 have hcp:=H.cap;refine J.enter 24 func25 rfl rfl ?_;refine run ?_;refine J.box rfl rfl rfl fun b1=>?_
 refine run ?_;refine J.callp rfl rfl (fun w' M=>stCheck s _ w' (K0.ext M.ext) (H.ext M.ext)) ?_;refine run ?_;refine J.ifn rfl (fun c1=>?_) (fun c1=>?_)
 ·obtain⟨k1,k2⟩:=S.chkT_ne c1;have he:=S.sinE_8 (k:=k) k1;obtain⟨e1,e2⟩:=S.sin_no (v:=s.V) (k:=k) (by rw[he];decide);rw[he,e1,e2,k2];refine run ?_;refine J.nilWo 29 .u8 32 ?_;exact J.finG (none,0) rfl (Nat.le_refl _) sb
 have hok:=S.chkT_iff.1 c1;have bad:¬(0≤k∧k≤s.V.n)→S.sinE s.V k=2∧S.sinN s.V k=0∧S.sinL s.V k=[]:=fun h=>by
  have he:=S.sinE_2 hok h;obtain⟨e1,e2⟩:=S.sin_no (v:=s.V) (k:=k) (by rw[he];decide);exact⟨he,e1,e2⟩
 refine run ?_;refine J.spd rfl rfl rfl (fun c2=>?_) (fun c2=>?_)
 ·obtain⟨he,e1,e2⟩:=bad (by omega);rw[he,e1,e2];refine run ?_;refine J.nilWo 29 .u8 32 ?_;exact J.finG (none,0) rfl (Nat.le_refl _) sb
 refine run ?_;refine J.ifd rfl (fun c3=>?_) (fun c3=>?_)
 ·obtain⟨he,e1,e2⟩:=bad (fun h=>by have h1:k≤(s.on:Int):=h.2;omega);rw[he,e1,e2];refine run ?_;refine J.nilWo 29 .u8 32 ?_;exact J.finG (none,0) rfl (Nat.le_refl _) sb
 have he:=S.sinE_0 hok (k:=k) ⟨by omega,by show k≤(s.on:Int);omega⟩;obtain⟨e1,e2⟩:=S.sin_yes he;rw[he,e1,e2];refine run ?_;refine J.call rfl rfl (fun w' M=>cloneW _ (s.on - k.toNat) _ _ w' (wDp (H.os.ext M.ext) k.toNat s.oc (by omega) hcp.1) (by omega) (by omega)) fun q hq=>?_
 refine run ?_;exact J.finG q rfl hq sb
theorem stNew(c n:Int)(w:World):
  Calls prog 17 #[.int .i64 c, .int .i64 n] w (Gv w (fun q:StA=> .tuple #[.agg (srC q).toArray, .int .i64 (S.nwTE c n)]) (fun q=>stE q) (StK (S.nwT c n))):=by
 have bad:¬((1≤c∧c≤40)∧1≤n∧n≤4)→S.nwT c n=S.StV.zero∧S.nwTE c n=2:=S.nwT_2;refine J.enter 25 func17 rfl rfl ?_;refine run ?_;refine J.alloc rfl fun b1=>?_
 refine run ?_;refine J.call rfl rfl (fun w' M=>shOne (shNew n w')) fun u hu=>?_
 refine run ?_;refine J.alloc rfl fun b2=>?_
 refine run ?_;refine J.spd rfl rfl rfl (fun c1=>?_) (fun c1=>?_)
 ·obtain⟨e1,e2⟩:=bad (by omega);rw[e2];refine run ?_;refine J.nilWo 29 .u8 32 ?_;refine J.nilSh ?_;exact J.finG StA.zero rfl (stZero e1) sb
 refine run ?_;refine J.spd rfl rfl rfl (fun c2=>?_) (fun c2=>?_)
 ·obtain⟨e1,e2⟩:=bad (by omega);rw[e2];refine run ?_;refine J.nilWo 29 .u8 32 ?_;refine J.nilSh ?_;exact J.finG StA.zero rfl (stZero e1) sb
 refine run ?_;refine J.ifn rfl (fun c3=>?_) (fun c3=>?_)
 ·obtain⟨e1,e2⟩:=bad fun h=>c3 (if_pos h.2);rw[e2];refine run ?_;refine J.nilWo 29 .u8 32 ?_;refine J.nilSh ?_;exact J.finG StA.zero rfl (stZero e1) sb
 have hn:1≤n∧n≤4:=Classical.byContradiction fun h=>by
  rw[show S.nwE n=2 from if_neg h]at c3;exact absurd c3 (by decide)
 obtain⟨e1,e2⟩:=S.nwT_0 (c:=c) (n:=n) ⟨by omega,hn⟩;rw[e2];refine run ?_;refine J.nilWo 29 .u8 32 ?_;refine J.front (.wown 29 .u8 32 none 0 0 []) ?_;refine J.front (shW u) ?_;refine J.finG ⟨c,u,none,0,0,[]⟩ rfl ⟨?_,hu.k⟩ sb;rw[e1];have e4:u.V=S.nwS n:=hu.V;unfold StA.V;dsimp only;rw[e4,show S.nwS n=S.madeS S.PG.nil n.toNat from if_pos hn]
end W
end Go.Proofs.YtaapnlnileblaaaGreatDoor
