/-
  Part 14 of the lemmas of these laws: BuilderNames.
-/
import Derived.Test.YtkibkhgcbepolaaGreatDoorPBn13
set_option linter.unusedVariables false
set_option linter.unusedSimpArgs false
open Go.Proofs.Tryz
namespace Go.Proofs.YtkibkhgcbepolaaGreatDoor
namespace W
open Go.RowKit G
def mpK:List IdV→Nat→List (Value×Value)
 |[],_=>[]
 |x::l,i=>(.agg (idC x).toArray, .int .i64 (i:Nat))::mpK l (i+1)
theorem mpK_snoc(x:IdV):∀(l:List IdV) (i:Nat),mpK (l++[x]) i=mpK l i++[(.agg (idC x).toArray, .int .i64 ((i+l.length:Nat):Int))]
 |[],i=>by simp[mpK]
 |y::l,i=>by
  rw[List.cons_append,mpK,mpK_snoc x l,mpK,List.cons_append,List.length_cons,show i+1+l.length=i+(l.length+1)by omega]
def Mpi(w:World)(b:Nat)(l:List IdV):Prop:=∃es clock,w.heap[b]? =some (.map es clock)∧es.toList.map (fun e=>(e.key,e.val))=mpK l 0
def mpiE(b:Nat)(l:List IdV):Ent:=
 ⟨fun S w => S b ∧ Mpi w b l, fun ⟨h1, es, c, h2, h3⟩ k => ⟨h1, es, c, by
  have hl : b < _ := (Array.getElem?_eq_some_iff.1 h2).1
  rw [k b h1 hl]; exact h2, h3⟩, fun ⟨h1, es, c, h2, h3⟩ k => ⟨k b (Array.getElem?_eq_some_iff.1 h2).1 h1, es, c, h2, h3⟩⟩
section
variable{P:Program}{w:World}{k e el t n b:Nat}
theorem plain_u8(he:P.underlying e=some (.int .u8)):P.plainKey e=true:=by unfold Program.plainKey;rw[he]
theorem run_ckArr{xs:List Int}(hu:P.underlying k=some (.array n e))(he:P.underlying e=some (.int .u8))(hs:P.cellsOf e=1)(hl:xs.length=n)(em:Bool)(d:Nat):(Instr.checkKey em (d+2) k (.agg (ints .u8 xs).toArray)).run P w= .ok () w:=by
 have hsz:=size_run (P:=P) (w:=w) hs (by decide);rw[show d+2=(d+1)+1 from rfl,Instr.checkKey];simp only[Sem.run_bind,run_underlying hu,Result.andThen_ok];simp only[Std.Legacy.Range.forIn_eq_forIn_range',Std.Legacy.Range.size,Nat.sub_zero,Nat.add_one_sub_one,Nat.div_one];have each:∀j∈List.range' 0 n,j<n:=fun j hj=>by
  have:=List.mem_range'.1 hj;omega
 generalize List.range' 0 n=is at each
 induction is with
 |nil=>simp
 |cons j is ih=>
  have hj:j<n:=each j (by simp);have hc:(ints .u8 xs).toArray[j*1]? =some (.int .u8 (xs[j]'(by omega))):=by simp[ints,hj,hl]
  have p1:=run_part_plain (P:=P) w (plain_u8 he) hc;have p2:(Instr.checkKey em (d+1) e (.int .u8 (xs[j]'(by omega)))).run P w= .ok () w:=by simp[Instr.checkKey,run_underlying he]
  simp only[List.forIn_cons,Sem.run_bind,hsz,Result.andThen_ok,p1,p2,Sem.run_pure];exact ih (fun y hy=>each y (by simp[hy]))
theorem run_eqId{x y:IdV}(hu:P.underlying k=some (.array 32 e))(he:P.underlying e=some (.int .u8))(hs:P.cellsOf e=1):(Op.equal k (.agg (idC x).toArray) (.agg (idC y).toArray)).run P w= .ok (decide (x.xs=y.xs)) w:=by
 have h:=(eq_run (P:=P) 9991 9 k (ints .u8 x.xs) (ints .u8 y.xs) (.array 32 e) w (fits_arr 7 hu he hs x.h (by decide)) (fits_arr 7 hu he hs y.h (by decide)) hu).2;rw[eqC_ints]at h;exact h
theorem run_find{x:IdV}(hu:P.underlying k=some (.array 32 e))(he:P.underlying e=some (.int .u8))(hs:P.cellsOf e=1):
  ∀(l:List IdV) (s i:Nat) (L:List MapEntry),L.map (fun e=>(e.key,e.val))=mpK l s→(Instr.findAsking k (.agg (idC x).toArray) L i).run P w= .ok ((l.findIdx? fun y=>decide (x.xs=y.xs)).map fun j=>(i+j, .int .i64 ((s+j:Nat):Int))) w
 |[],s,i,L,h=>by
  obtain rfl:L=[]:=by cases L with
   |nil=>rfl
   |cons a L=>simp[mpK]at h
  simp[Instr.findAsking]
 |y::l,s,i,L,h=>by
  cases L with
  |nil=>simp[mpK]at h
  |cons a L=>
   rw[List.map_cons,mpK,List.cons.injEq]at h;obtain⟨h1,h2⟩:=h;rw[Prod.mk.injEq]at h1;obtain⟨hk,hv⟩:=h1;have ih:=run_find (x:=x) hu he hs l (s+1) (i+1) L h2;have hq:=run_eqId (P:=P) (w:=w) (x:=x) (y:=y) hu he hs;rw[List.findIdx?_cons];unfold Instr.findAsking;simp only[Sem.run_bind,hk,hq,Result.andThen_ok];by_cases hxy:x.xs=y.xs
   ·simp[hxy,hv]
   ·rw[decide_eq_false hxy];simp only[Bool.false_eq_true,if_false,ih,Option.map_map];congr 2;funext j;simp only[Function.comp];rw[show i+1+j=i+(j+1)by omega,show s+1+j=s+(j+1)by omega]
theorem run_findKey'{x:IdV}{l:List IdV}{L:List MapEntry}(hu:P.underlying k=some (.array 32 e))(he:P.underlying e=some (.int .u8))(hs:P.cellsOf e=1)(h:L.map (fun e=>(e.key,e.val))=mpK l 0):
  (Instr.findKey k (.agg (idC x).toArray) L).run P w= .ok ((l.findIdx? fun y=>decide (x.xs=y.xs)).map fun j=>(j, .int .i64 (j:Nat))) w:=by
 rw[run_findKey_eq w (by rw[hu]),run_find hu he hs l 0 0 L h];simp
theorem run_lookI{x:IdV}{l:List IdV}{i:Nat}(ht:P.underlying t=some (.map k el))(hu:P.underlying k=some (.array 32 e))(he:P.underlying e=some (.int .u8))(hs:P.cellsOf e=1)(hm:Mpi w b l)(hx:l.findIdx? (fun y=>decide (x.xs=y.xs))=some i):
  (Instr.lookup t (.map (some b)) (.agg (idC x).toArray) false).run P w= .ok (.int .i64 (i:Nat)) w:=by
 obtain⟨es,c,h1,h2⟩:=hm;have hf:=run_findKey' (P:=P) (w:=w) (x:=x) hu he hs h2;rw[hx]at hf;have hck:=run_ckArr (P:=P) (w:=w) hu he hs x.h es.isEmpty 9998;simp[Instr.lookup,run_underlying ht,MapKept.run_getObj_map h1,hck,hf,Result.andThen]
theorem run_putI{x:IdV}{l:List IdV}(ht:P.underlying t=some (.map k el))(hu:P.underlying k=some (.array 32 e))(he:P.underlying e=some (.int .u8))(hs:P.cellsOf e=1)(hm:Mpi w b l)(hx:∀y∈l,x.xs≠y.xs):
  ∃w',(Instr.mapUpdate t (.map (some b)) (.agg (idC x).toArray) (.int .i64 (l.length:Nat))).run P w= .ok () w'∧St b w w'∧Mpi w' b (l++[x]):=by
 obtain⟨es,c,h1,h2⟩:=hm;have hf:=run_findKey' (P:=P) (w:=w) (x:=x) hu he hs h2;rw[List.findIdx?_eq_none_iff.2 (fun y hy=>decide_eq_false (hx y hy))]at hf;have hck:=run_ckArr (P:=P) (w:=w) hu he hs x.h false 9998;have hb:=(Array.getElem?_eq_some_iff.1 h1).1;refine⟨{w with heap:=w.heap.setIfInBounds b (.map (es.push {key:= .agg (idC x).toArray,val:= .int .i64 (l.length:Nat),born:=c}) (c+1))},?_,⟨rfl,rfl,rfl,by simp,fun q hq=>?_⟩,es.push {key:= .agg (idC x).toArray,val:= .int .i64 (l.length:Nat),born:=c},c+1,?_,?_⟩
 ·simp[Instr.mapUpdate,run_underlying ht,MapKept.run_getObj_map h1,hck,hf,MapKept.run_setObj_map _ h1,Result.andThen]
 ·simp[Ne.symm hq]
 ·simp[hb]
 ·rw[Array.toList_push,List.map_append,h2,mpK_snoc];simp
end
section
variable{S0:Nat→Prop}{w0:World}{L:List Ent}{P:Program}{ops:Array Oper}{K:List Value→World→Prop}{rest:List (Oper×Kd)}{l:List Value}{m:Md}{d:Tmp}{ty:TypeId}{pos:String}{af:Array Edge}{kd:Kd}{t k e el:TypeId}{x y z:Operand}
theorem J.mkM{l':Nat→List Value}{i:Int}[U:Und P t (.map k el)](hk:okE m kd=true)(hx:ev l x= .int .i64 i)(kk:∀b,J S0 w0 (mpiE b []::L) (RY S0 w0 m P ops K rest (l' b)))(hl:∀b,l.set d (.map (some b))=l' b:=by intro b;dsimp only[List.set]):
  J S0 w0 L (RY S0 w0 m P ops K ((⟨some d, .makeMap t (some x),ty,pos,af,none⟩,kd)::rest) l):=
 J.eff hk fun w M K' hK=>by
  have hr:(execOp (ev l) ⟨some d, .makeMap t (some x),ty,pos,af,none⟩).run P w= .ok (.value (.map (some w.heap.size))) (w.alloc (.map #[] 0)):=by
   simp[execOp,hx,Instr.makeMap,run_underlying U.h,asInt,asIntOf,Result.andThen]
  have hx1:Ext w (w.alloc (.map #[] 0)):=(Below.refl _ _).alloc (Nat.le_refl _) (.map #[] 0);refine RS.o hr (RS.nil (hK _ _ hx1 ?_)) rfl;rw[hl];exact kk _ _ (M.new hx1 ⟨Nat.le_refl _, #[],0,(MapKept.heap_alloc w _).1,rfl⟩)
theorem J.putM{F:Ent→List Ent}{b:Nat}{lst:List IdV}{q:IdV}[U:Und P t (.map k el)][U2:Und P k (.array 32 e)][U3:Und P e (.int .u8)][Z:Siz P e 1](hx:ev l x= .map (some b))(hy:ev l y= .agg (idC q).toArray)(hz:ev l z= .int .i64 (lst.length:Nat))[R:RE L (mpiE b lst) F](hn:∀u∈lst,q.xs≠u.xs)
  (kk:J S0 w0 (F (mpiE b (lst++[q]))) (RY S0 w0 m P ops K rest l))(hk:okG m kd (F (mpiE b (lst++[q]))):=by first|exact trivial|(repeat(first|exact List.Sublist.refl _|refine List.Sublist.cons_cons _ ?_|refine List.Sublist.cons _ ?_))):
  J S0 w0 L (RY S0 w0 m P ops K ((⟨none, .mapUpdate t x y z,ty,pos,af,none⟩,kd)::rest) l):=
 J.big hk fun w M K' hK=>by
  obtain⟨S,h1,h2,h3⟩:=M.foc (R.h (mpiE b (lst++[q])));obtain⟨w1,hr,x1,hm⟩:=run_putI (P:=P) (w:=w) (x:=q) U.h U2.h U3.h Z.h h2.2 hn;have M':Mem S0 w0 (F (mpiE b (lst++[q]))) w1:=h3 w1 S ⟨x1.os,x1.tape,x1.output,by rw[x1.size];exact Nat.le_refl _,fun p _ hp=>x1.block p fun e=>hp (e▸h2.1)⟩ ⟨h2.1,hm⟩ fun _ hb=> .inl hb;exact RS.u rfl rfl (by simp only[execOp];rw[hx,hy,hz];simp[hr]) (RS.nil (hK _ w1 M' (kk w1 M')))
theorem J.lookM{F:Ent→List Ent}{l':List Value}{b i:Nat}{lst:List IdV}{q:IdV}[U:Und P t (.map k el)][U2:Und P k (.array 32 e)][U3:Und P e (.int .u8)][Z:Siz P e 1](hx:ev l x= .map (some b))(hy:ev l y= .agg (idC q).toArray)[R:RE (Lv m L) (mpiE b lst) F](hi:lst.findIdx? (fun u=>decide (q.xs=u.xs))=some i)
  (kk:J S0 w0 L (RY S0 w0 m P ops K rest l'))(hl:l.set d (.int .i64 (i:Nat))=l':=by dsimp only[List.set]):
  J S0 w0 L (RY S0 w0 m P ops K ((⟨some d, .lookup t x y false,ty,pos,af,none⟩, .q)::rest) l):=
 J.val (fun w M => by
  obtain ⟨S, _, h2⟩ := M.get (R.h (mpiE b lst)).same
  have hr := run_lookI (P := P) (w := w) (x := q) U.h U2.h U3.h Z.h h2.2 hi
  simp [execOp, hx, hy, hr, Result.andThen]) kk hl
end
end W
namespace W
open Go.RowKit G
set_option maxRecDepth 20000
set_option maxHeartbeats 8000000
attribute [local irreducible] RS RX RY Code.wp bodyPost J Ent.blk Ent.irow Ent.iown Ent.wrow Ent.wown Ent.gown Ent.all Ent.emp
instance:Und prog 239 (.map 24 3):=⟨underlying239⟩
theorem ids_ne{m:Nat}{ids:List Int}(hr:S.Rising m ids){l:List IdV}(hl:l.length=m)(he:flatI l=ids){p:Nat}{x:IdV}(hx:l[p]? =some x):∀u∈l.take p,x.xs≠u.xs:=by
 intro u hu h;obtain⟨i,hi,rfl⟩:=List.mem_iff_getElem.1 hu;rw[List.length_take]at hi;have hp:=(List.getElem?_eq_some_iff.1 hx).1;have e1:∀(k:Nat) (y:IdV),l[k]? =some y→S.idAt ids k=y.xs:=fun k y hy=>by
  have hk:=(List.getElem?_eq_some_iff.1 hy).1;unfold S.idAt;rw[←he,←flatI_drop,←Nat.mul_one 32,←flatI_take,List.drop_eq_getElem_cons hk];have:=(List.getElem?_eq_some_iff.1 hy).2;rw[this];simp[flatI]
 have h1:=e1 p x hx;have h2:=e1 i (l.take p)[i] (by rw[List.getElem?_eq_getElem (by omega)];simp);have:=S.rising_inj hr (i:=p) (j:=i) (by omega) (by omega) (by rw[h1,h2,h]);omega
theorem idv_at{ids:List Int}{l:List IdV}(he:flatI l=ids){k:Nat}{y:IdV}(hy:l[k]? =some y):S.idAt ids k=y.xs:=by
 have hk:=(List.getElem?_eq_some_iff.1 hy).1;unfold S.idAt;rw[←he,←flatI_drop,←Nat.mul_one 32,←flatI_take,List.drop_eq_getElem_cons hk];have:=(List.getElem?_eq_some_iff.1 hy).2;rw[this];simp[flatI]
theorem idC_all(x:IdV):((idC x).drop 0).take 32=idC x:=List.take_of_length_le (by rw[List.drop_zero,idC_len x];exact Nat.le_refl _)
theorem ancPlaces{S0:Nat→Prop}(g:GrA)(l:List IdV)(w:World)(GI:GRow idC 32 S0 w g.ia g.m l)(hr:S.Rising g.m g.ids)(he:flatI l=g.ids)(hm:g.m≤70):
  Calls prog 164 #[.agg (grC g).toArray] w (Gv w (fun b:Nat=> .map (some b)) (fun b=>[mpiE b l]) fun _=>True):=by
 have hl:=GI.len;refine J.enter 22 func164 rfl rfl ?_;refine run ?_;refine J.box rfl rfl rfl fun b1=>?_
 refine run ?_;refine J.mkM rfl rfl fun bm=>?_
 refine run ?_;refine J.loop (A:=Nat) (fun p=>[(13, .int .i64 (p:Nat))]) [4,5,14,15,16,17,18,19,20,21] (fun p=>[mpiE bm (l.take p), .blk b1 (grC g) 43]) (fun p=>p≤g.m) (fun p=>g.m - p) 0 (by kernel_rfl) (Nat.zero_le _) (fun p j hp=>?_);refine run ?_;refine J.ifd rfl (fun c1=>?_) (fun c1=>?_)
 ·obtain⟨x,hx⟩:=GI.ex (i:=(p:Nat)) (by omega);have hx':=hx;rw[Int.toNat_natCast]at hx';refine run ?_;refine J.ldGa (i:=((p:Nat):Int)) (sz:=32) (off:=0) rfl (RG.arg GI) ?_ (q:=x) (hf:=idC_all x) (hn:=idC_len x);refine J.alloc rfl fun b2=>?_
  refine run ?_;refine J.putM (q:=x) rfl rfl (show Value.int .i64 ((p:Nat):Int)= .int .i64 ((l.take p).length:Nat)from by rw[List.length_take,Nat.min_eq_left (by omega)]) (ids_ne hr hl he hx') ?_;refine run ?_;refine J.re (mpiE bm (l.take p++[x])) (mpiE bm (l.take (p+1))) (fun _ _ h=>by rw[List.take_add_one,hx'];exact h) ?_;exact J.next (p+1) ⟨rfl,trivial⟩ (by kernel_rfl) (by omega) (by omega)
 refine run ?_;refine J.re (mpiE bm (l.take p)) (mpiE bm l) (fun _ _ h=>by rw[List.take_of_length_le (by omega)]at h;exact h) ?_;exact J.finG bm rfl trivial sb
structure SeA where
 (i n:Nat)(a:Option Addr)(c:Nat)
theorem ancMarked{S0 S1:Nat→Prop}(g:GrA)(sa:Option Addr)(sc:Nat)(f:List Bool)(w:World)(D0:WRow .u8 32 S0 w g.ia g.m g.ids)(B0:GRow boC 1 S1 w sa g.m f)(hm:g.m≤70):
  Calls prog 240 #[.agg (grC g).toArray, .slice sa g.m sc] w (Gv w (fun q:Option Addr×Nat×Nat=> .slice q.1 q.2.1 q.2.2) (fun q=>[.wown 24 .u8 32 q.1 q.2.1 q.2.2 (S.selF (fun i=>f.getD i false) g.ids g.m)]) fun q=>q.2.1=S.numF (fun i=>f.getD i false) g.m):=by
 have hl:=B0.len;obtain⟨F,hF⟩:=ex (fun i=>f.getD i false);rw[←hF];refine J.enter 24 func240 rfl rfl ?_;refine run ?_;refine J.box rfl rfl rfl fun b1=>?_
 refine run ?_;refine J.nilWo 24 .u8 32 ?_;refine J.loop (A:=SeA) (fun p=>[(5, .slice p.a p.n p.c),(9, .int .i64 (p.i:Nat))]) [6,10,11,12,13,14,15,16,17,18,19,20,21,22,23,24] (fun p=>[.wown 24 .u8 32 p.a p.n p.c (S.selF F g.ids p.i), .blk b1 (grC g) 43]) (fun p=>p.i≤g.m∧p.n=S.numF F p.i) (fun p=>g.m - p.i) ⟨0,0,none,0⟩ (by kernel_rfl) ⟨Nat.zero_le _,rfl⟩ (fun p j hI=>?_);obtain⟨hp,hn⟩:=hI;have hnle:=S.numF_le F p.i;refine run ?_;refine J.ifd rfl (fun c1=>?_) (fun c1=>?_)
 ·obtain⟨y,hy⟩:=B0.ex (i:=(p.i:Nat)) (by omega);have ey:F p.i=y:=by rw[hF];rw[Int.toNat_natCast]at hy;show f.getD p.i false=y;rw[List.getD_eq_getElem?_getD,hy];rfl
  refine run ?_;cases y with
  |true=>
   have e3:S.selF F g.ids p.i++S.idAt g.ids p.i=S.selF F g.ids (p.i+1):=by rw[S.selF,ey];rfl
   have e4:S.numF F (p.i+1)=p.n+1:=by rw[S.numF,ey,←hn];rfl
   have hA:Arr .u8 32 (elt 32 g.ids p.i):=D0.elt_arr (by omega);refine run ?_;refine J.b1W rfl rfl hA fun bb=>?_
   refine J.apW rfl rfl RW.own' fun a' c'=>?_
   rw[Int.toNat_natCast];refine run ?_;refine J.re (.wown 24 .u8 32 a' (p.n+1) c' (S.selF F g.ids p.i++elt 32 g.ids p.i)) (.wown 24 .u8 32 a' (p.n+1) c' (S.selF F g.ids (p.i+1))) (fun _ _ h=>by rw[←e3];exact h) ?_;exact J.next ⟨p.i+1,p.n+1,a',c'⟩ ⟨rfl,rfl,trivial⟩ (by kernel_rfl) ⟨by dsimp only;omega,e4.symm⟩ (by dsimp only;omega)
  |false=>
   have e3:S.selF F g.ids p.i=S.selF F g.ids (p.i+1):=by rw[S.selF,ey];exact(List.append_nil _).symm
   have e4:S.numF F (p.i+1)=p.n:=by rw[S.numF,ey,←hn];rfl
   refine run ?_;refine J.re (.wown 24 .u8 32 p.a p.n p.c (S.selF F g.ids p.i)) (.wown 24 .u8 32 p.a p.n p.c (S.selF F g.ids (p.i+1))) (fun _ _ h=>by rw[←e3];exact h) ?_;exact J.next ⟨p.i+1,p.n,p.a,p.c⟩ ⟨rfl,rfl,trivial⟩ (by kernel_rfl) ⟨by dsimp only;omega,e4.symm⟩ (by dsimp only;omega)
 obtain⟨pi,pn,pa,pc⟩:=p;dsimp only at hp hn c1⊢;obtain rfl:pi=g.m:=by omega
 refine run ?_;exact J.finG (pa,pn,pc) rfl hn sb
instance:Ents prog 164:=⟨.mk func164 (by kernel_rfl) rfl⟩
instance:Ents prog 240:=⟨.mk func240 (by kernel_rfl) rfl⟩
theorem find_ix{m:Nat}{ids x:List Int}{l:List IdV}(hl:l.length=m)(he:flatI l=ids)(hr:S.Rising m ids)(hx:S.inS m ids x):l.findIdx? (fun u=>decide (x=u.xs))=some (S.ixS m ids x):=by
 obtain⟨h1,h2⟩:=S.ix_in hx;have hk:S.ixS m ids x<l.length:=by omega
 rw[List.findIdx?_eq_some_iff_getElem];refine⟨hk,?_,fun j hj=>?_⟩
 ·have:=idv_at he (List.getElem?_eq_getElem hk);rw[h2]at this;exact decide_eq_true this
 intro hd;have h3:=of_decide_eq_true hd;have h4:=idv_at he (List.getElem?_eq_getElem (show j<l.length by omega));rw[←h3,←h2]at h4;have:=S.rising_inj hr (by omega) h1 h4;omega
def setT(m p:Nat):List Bool:=List.replicate p true++List.replicate (m - p) false
theorem setT_set{m p:Nat}(h:p<m):(setT m p).set p true=setT m (p+1):=by
 unfold setT;rw[List.set_append_right _ _ (by simp),List.length_replicate,Nat.sub_self,show m - p=(m - (p+1))+1 by omega,List.replicate_succ,List.set_cons_zero,List.replicate_succ',List.append_assoc];rfl
theorem setT_all(m:Nat):setT m m=S.hdS m []:=by unfold setT;rw[Nat.sub_self,S.hdS_first];simp
theorem hd_sel(m:Nat)(ids:List Int)(ops:List S.OpV)(n:Nat)(hn:n=ops.length):∀i,i<m→(S.hdS m (S.namI (S.prS m ids ops) n)).getD i false=S.hdF m ids ops i:=fun i hi=>by
 rw[List.getD_eq_getElem?_getD,S.hdS_get _ hi,hn];rfl
theorem ancHeads{S0:Nat→Prop}(g:GrA)(TK:TypeId)(w:World)(K0:Kst w TK)(G:GrR S0 w g)(h0:S.chkG g.m g.ids g.ops=0):
  Calls prog 161 #[.agg (grC g).toArray] w (Gv w (fun q:Option Addr×Nat×Nat=> .tuple #[.slice q.1 q.2.1 q.2.2, .int .i64 0]) (fun q=>[.wown 24 .u8 32 q.1 q.2.1 q.2.2 (S.hdI g.P)]) fun q=>q.2.1=S.hdN g.P):=by
 have D0:=G.ids;have G0:=G.ops;have hl:=G.len;have hcp:=G.cap;have hcp2:=G.cap.2.2;obtain⟨_,hmn,_,hr,ho,_⟩:=S.chkG_zero.1 h0;obtain⟨l,hl1,hl2⟩:=chunks g.m g.ids D0.len;have GI:=wrow_grow hl2 hl1 D0;obtain⟨P,hP⟩:=ex (S.prS g.m g.ids g.ops);refine J.enter 55 func161 rfl rfl ?_;refine run ?_;refine J.box rfl rfl rfl fun b1=>?_
 refine run ?_;refine J.callp rfl rfl (fun w' M=>(by have:=dagCheck g TK w' (K0.ext M.ext) (G.ext M.ext);rwa[h0]at this)) ?_;refine run ?_;refine J.call rfl rfl (fun w' M=>ancPlaces g l w' (GI.ext M.ext) hr hl2 (by omega)) fun bm _=>?_
 refine run ?_;refine J.mkG boC false (fun _=>rfl) rfl rfl rfl rfl fun bd=>?_
 rw[show List.replicate g.m false=setT g.m 0 from rfl];refine run ?_;refine J.loop (A:=Nat) (fun p=>[(25, .int .i64 (p:Nat))]) [7,26,27,28,29,30,31] (fun p=>[.gown boC 1 4 (some ⟨bd,0,none⟩) g.m g.m (setT g.m p),mpiE bm l, .blk b1 (grC g) 43]) (fun p=>p≤g.m) (fun p=>g.m - p) 0 (by kernel_rfl) (Nat.zero_le _) (fun p j hp=>?_);refine run ?_;refine J.ifd rfl (fun c1=>?_) (fun c1=>?_)
 ·refine run ?_;refine J.stG1 rfl rfl (q:=true) rfl ?_;rw[Int.toNat_natCast p,setT_set (by omega)];refine run ?_;exact J.next (p+1) ⟨rfl,trivial⟩ (by kernel_rfl) (by omega) (by omega)
 obtain rfl:p=g.m:=by omega
 rw[setT_all];refine J.re (.gown boC 1 4 (some ⟨bd,0,none⟩) g.m g.m (S.hdS g.m [])) (.gown boC 1 4 (some ⟨bd,0,none⟩) g.m g.m (S.hdS g.m (S.namI P 0))) (fun _ _ h=>h) ?_;clear hp c1;refine run ?_;refine J.loop (A:=Nat) (fun i=>[(35, .int .i64 (i:Nat))]) [9,11,36,37,38,39,40,41,42,43,44,45,46,47,48,49,50,51,52] (fun i=>[.gown boC 1 4 (some ⟨bd,0,none⟩) g.m g.m (S.hdS g.m (S.namI P i)),mpiE bm l, .blk b1 (grC g) 43]) (fun i=>i≤g.n) (fun i=>g.n - i) 0 (by kernel_rfl) (Nat.zero_le _) (fun i j hi=>?_);refine run ?_;refine J.ifd rfl (fun c1=>?_) (fun c1=>?_)
 ·obtain⟨z,hz⟩:=G0.ex (i:=(i:Nat)) (by omega);have R:=G.op hz;have R0:=R.row;have h40:=R.ok.n;have hz':=hz;rw[Int.toNat_natCast]at hz';have hzo:=GrA.opAt hz';have hoi:=ho i (by omega);rw[hzo]at hoi;have hpl:(P i).length=z.o.n:=by rw[hP,S.prS_len,hzo]
  refine run ?_;refine J.alloc rfl fun b2=>?_
  refine run ?_;refine J.re (.gown boC 1 4 (some ⟨bd,0,none⟩) g.m g.m (S.hdS g.m (S.namI P i))) (.gown boC 1 4 (some ⟨bd,0,none⟩) g.m g.m (S.hdS g.m (S.namI P i++(P i).take 0))) (fun _ _ h=>by rw[List.take_zero,List.append_nil];exact h) ?_;refine J.loop (A:=Nat) (fun k=>[(42, .int .i64 (k:Nat))]) [11,43,44,45,46,47,48,49,50,51] (fun k=>[.blk b2 (opC z) 37, .gown boC 1 4 (some ⟨bd,0,none⟩) g.m g.m (S.hdS g.m (S.namI P i++(P i).take k)),mpiE bm l, .blk b1 (grC g) 43]) (fun k=>k≤z.o.n) (fun k=>z.o.n - k) 0 (by kernel_rfl) (Nat.zero_le _) (fun k j2 hk=>?_);refine run ?_;refine J.ifd rfl (fun c2=>?_) (fun c2=>?_)
  ·have hA:Arr .u8 32 (elt 32 z.o.ids k):=R0.elt_arr (by omega);have hin:S.inS g.m g.ids (elt 32 z.o.ids k):=hoi k (by omega);have hix:=S.ix_in hin;have hf:=find_ix hl1 hl2 hr hin;have hPk:(P i)[k]? =some (S.ixS g.m g.ids (elt 32 z.o.ids k)):=by
    have:=S.prS_get g.m g.ids g.ops i k (by rw[hzo];omega);rw[←hP,hzo]at this;rw[List.getElem?_eq_getElem (by omega)];rw[List.getD_eq_getElem?_getD,List.getElem?_eq_getElem (by omega),Option.getD_some]at this;rw[this];rfl
   have hset:(S.hdS g.m (S.namI P i++(P i).take k)).set (S.ixS g.m g.ids (elt 32 z.o.ids k)) false=S.hdS g.m (S.namI P i++(P i).take (k+1)):=by
    rw[S.hdS_set _ hix.1,List.append_assoc,List.take_add_one,hPk];rfl
   obtain⟨ix,hxi⟩:=ex (S.ixS g.m g.ids (elt 32 z.o.ids k));rw[←hxi]at hix hf hset;refine run ?_;rw[Int.toNat_natCast];refine J.alloc rfl fun b3=>?_
   refine run ?_;refine J.lookM (q:=⟨elt 32 z.o.ids k,hA.1⟩) rfl rfl hf ?_;refine run ?_;refine J.stG1 rfl rfl (q:=false) rfl ?_;rw[Int.toNat_natCast ix,hset];refine run ?_;exact J.next (k+1) ⟨rfl,trivial⟩ (by kernel_rfl) (by omega) (by omega)
  obtain rfl:k=z.o.n:=by omega
  refine J.re (.gown boC 1 4 (some ⟨bd,0,none⟩) g.m g.m (S.hdS g.m (S.namI P i++(P i).take z.o.n))) (.gown boC 1 4 (some ⟨bd,0,none⟩) g.m g.m (S.hdS g.m (S.namI P (i+1)))) (fun _ _ h=>by rw[List.take_of_length_le (by omega)]at h;rw[S.namI_snoc];exact h) ?_;refine run ?_;refine J.drop (E:=[.gown boC 1 4 (some ⟨bd,0,none⟩) g.m g.m (S.hdS g.m (S.namI P (i+1))),mpiE bm l, .blk b1 (grC g) 43]) sb ?_;exact J.next (i+1) ⟨rfl,trivial⟩ (by kernel_rfl) (by omega) (by omega)
 obtain rfl:i=g.n:=by omega
 have hsel:=hd_sel g.m g.ids g.ops g.n hl.symm;rw[←hP]at hsel;refine run ?_;refine J.call rfl rfl (fun w' M=>(RG.own' (a:=some ⟨bd,0,none⟩) w' M).elim fun _ k0=>ancMarked g (some ⟨bd,0,none⟩) g.m _ w' (D0.ext M.ext) k0 (by omega)) fun q hq=>?_
 refine run ?_;have e1:S.selF (fun i=>(S.hdS g.m (S.namI P g.n)).getD i false) g.ids g.m=S.hdI g.P:=by unfold S.hdI;exact S.selF_congr hsel
 have e2:S.numF (fun i=>(S.hdS g.m (S.namI P g.n)).getD i false) g.m=S.hdN g.P:=by unfold S.hdN;exact S.numF_congr hsel
 rw[e1];exact J.finG q rfl (hq.trans e2) sb
structure NmA where
 (i n:Nat)(a:Option Addr)(c:Nat)
theorem refTop{S0:Nat→Prop}(g:GrA)(w:World)(G:GrR S0 w g)(h0:S.chkG g.m g.ids g.ops=0):
  Calls prog 34 #[.agg (grC g).toArray] w (Gv w (fun q:Option Addr×Nat×Nat=> .slice q.1 q.2.1 q.2.2) (fun q=>[.wown 24 .u8 32 q.1 q.2.1 q.2.2 (S.hdI g.P)]) fun q=>q.2.1=S.hdN g.P):=by
 have D0:=G.ids;have G0:=G.ops;have hl:=G.len;have hcp:=G.cap;have hcp2:=G.cap.2.2;obtain⟨_,hmn,_,hr,ho,_⟩:=S.chkG_zero.1 h0;have h4:=S.nmN_le (S.chk_n4 h0);have hw:∀o∈g.ops,o.wide:=fun o ho=>by
  obtain⟨i,hi,rfl⟩:=List.mem_iff_getElem.1 ho;have:=G.widz (i:=i) (by omega);rwa[List.getD_eq_getElem?_getD,List.getElem?_eq_getElem hi]at this
 refine J.enter 45 func34 rfl rfl ?_;refine run ?_;refine J.box rfl rfl rfl fun b1=>?_
 refine run ?_;refine J.nilWo 24 .u8 32 ?_;refine J.loop (A:=NmA) (fun p=>[(3, .slice p.a p.n p.c),(5, .int .i64 (p.i:Nat))]) [7,8,9,10,11,12,13,14,15,16,17,18,19,20,21] (fun p=>[.wown 24 .u8 32 p.a p.n p.c (S.nmI (g.ops.take p.i)), .blk b1 (grC g) 43]) (fun p=>p.i≤g.n∧p.n=S.nmN (g.ops.take p.i)) (fun p=>g.n - p.i) ⟨0,0,none,0⟩ (by kernel_rfl) ⟨Nat.zero_le _,rfl⟩ (fun p j hI=>?_);obtain⟨hp,hn⟩:=hI;have hb:=h4 p.i;refine run ?_;refine J.ifd rfl (fun c1=>?_) (fun c1=>?_)
 ·obtain⟨z,hz⟩:=G0.ex (i:=(p.i:Nat)) (by omega);have R:=G.op hz;have h40:=R.ok.n;have hz':=hz;rw[Int.toNat_natCast]at hz';have hq:g.ops[p.i]? =some z.o:=by unfold GrA.ops;rw[List.getElem?_map,hz'];rfl
  have e1:S.nmI (g.ops.take (p.i+1))=S.nmI (g.ops.take p.i)++z.o.ids:=by rw[List.take_add_one,hq,Option.toList_some,S.nmI_snoc]
  have e2:S.nmN (g.ops.take (p.i+1))=S.nmN (g.ops.take p.i)+z.o.n:=by rw[List.take_add_one,hq,Option.toList_some,S.nmN_snoc]
  refine run ?_;refine J.apW rfl rfl (RW.arg R.row) fun a' c'=>?_
  rw[←e1];refine run ?_;exact J.next ⟨p.i+1,p.n+z.o.n,a',c'⟩ ⟨rfl,rfl,trivial⟩ (by kernel_rfl) ⟨by dsimp only;omega,by dsimp only;rw[e2,hn]⟩ (by dsimp only;omega)
 obtain⟨pi,nn,na,nc⟩:=p;dsimp only at hp hn c1 hb⊢;obtain rfl:pi=g.n:=by omega
 have hnm:∀i,i<g.m→(S.inS nn (S.nmI g.ops) (S.idAt g.ids i)↔i∈S.namI (S.prS g.m g.ids g.ops) g.ops.length):=fun i hi=>by
  have:=S.named_iff hr ho hw hi g.ops.length (Nat.le_refl _);rw[List.take_length]at this;rw[←this,hn,List.take_of_length_le (by omega)]
 rw[List.take_of_length_le (by omega)];have hnn:nn≤1000:=by omega
 clear hn hp c1;obtain⟨F,hF⟩:=ex (S.hdF g.m g.ids g.ops);have eS:S.hdI g.P=S.selF F g.ids g.m:=by rw[hF];rfl
 have eN:S.hdN g.P=S.numF F g.m:=by rw[hF];rfl
 rw[eS,eN];refine run ?_;refine J.nilWo 24 .u8 32 ?_;refine J.loop (A:=NmA) (fun p=>[(4, .slice p.a p.n p.c),(6, .int .i64 (p.i:Nat))]) [22,23,24,25,26,27,28,29,30,31,32,33,34,35,36,37,38,39,40,41,42,43,44] (fun p=>[.wown 24 .u8 32 p.a p.n p.c (S.selF F g.ids p.i), .wown 24 .u8 32 na nn nc (S.nmI g.ops), .blk b1 (grC g) 43]) (fun p=>p.i≤g.m∧p.n=S.numF F p.i) (fun p=>g.m - p.i) ⟨0,0,none,0⟩ (by kernel_rfl) ⟨Nat.zero_le _,rfl⟩ (fun p j hI=>?_);obtain⟨hp,hn⟩:=hI;have hnle:=S.numF_le F p.i;refine run ?_;refine J.ifd rfl (fun c1=>?_) (fun c1=>?_)
 ·have hA:Arr .u8 32 (elt 32 g.ids p.i):=D0.elt_arr (by omega);refine run ?_;rw[Int.toNat_natCast];refine J.callp rfl rfl (fun w' M=>(RW.own' (a:=na) w' M).elim fun _ k0=>refAt na nn nc _ _ w' k0 hA (by omega)) ?_;refine run ?_;refine J.ifd rfl (fun c2=>?_) (fun c2=>?_)
  ·have ey:F p.i=true:=by rw[hF];exact decide_eq_true fun h=>S.at_neg.1 c2 ((hnm p.i (by omega)).2 h)
   have e3:S.selF F g.ids p.i++elt 32 g.ids p.i=S.selF F g.ids (p.i+1):=by rw[S.selF,ey];rfl
   have e4:S.numF F (p.i+1)=p.n+1:=by rw[S.numF,ey,←hn];rfl
   refine run ?_;rw[Int.toNat_natCast];refine J.b1W rfl rfl hA fun bb=>?_
   refine J.apW rfl rfl RW.own' fun a' c'=>?_
   rw[e3];refine run ?_;exact J.next ⟨p.i+1,p.n+1,a',c'⟩ ⟨rfl,rfl,trivial⟩ (by kernel_rfl) ⟨by dsimp only;omega,e4.symm⟩ (by dsimp only;omega)
  have ey:F p.i=false:=by rw[hF];exact decide_eq_false fun h=>c2 (S.at_neg.2 fun k=>h ((hnm p.i (by omega)).1 k))
  have e3:S.selF F g.ids p.i=S.selF F g.ids (p.i+1):=by rw[S.selF,ey];exact(List.append_nil _).symm
  have e4:S.numF F (p.i+1)=p.n:=by rw[S.numF,ey,←hn];rfl
  rw[e3];refine run ?_;exact J.next ⟨p.i+1,p.n,p.a,p.c⟩ ⟨rfl,rfl,trivial⟩ (by kernel_rfl) ⟨by dsimp only;omega,e4.symm⟩ (by dsimp only;omega)
 obtain⟨pi,pn,pa,pc⟩:=p;dsimp only at hp hn c1⊢;obtain rfl:pi=g.m:=by omega
 refine run ?_;exact J.finG (pa,pn,pc) rfl hn sb
theorem wTk{S0:Nat→Prop}{w:World}{a:Option Addr}{n:Nat}{ids:List Int}(h:WRow .u8 32 S0 w a n ids)(p c:Nat)(hp:p≤n)(hc:p≤c):WRow .u8 32 S0 w (subA a 0 32 c) p (ids.take (32*p)):=by
 have hl:=h.len;have:=h.row.sub 0 p 32 c (by rw[ints_length];omega) (Nat.zero_le _) hc;refine⟨?_,by rw[List.length_take];omega,h.bd.take _⟩;simpa [ints,List.map_take,Nat.mul_comm]using this
theorem wDp{S0:Nat→Prop}{w:World}{a:Option Addr}{n:Nat}{ids:List Int}(h:WRow .u8 32 S0 w a n ids)(p c:Nat)(hp:p≤n)(hc:n≤c):WRow .u8 32 S0 w (subA a p 32 c) (n - p) (ids.drop (32*p)):=by
 have hl:=h.len;have:=h.row.sub p n 32 c (by rw[ints_length];omega) hp hc;refine⟨?_,by rw[List.length_drop];omega,fun x hx=>h.bd x (List.mem_of_mem_drop hx)⟩;have e:((ints .u8 ids).drop (p*32)).take ((n - p)*32)=ints .u8 (ids.drop (32*p)):=by
  unfold ints;rw[←List.map_drop,←List.map_take,Nat.mul_comm p 32,List.take_of_length_le (by rw[List.length_drop];omega)]
 rwa[e]at this
theorem rwTake{S0:Nat→Prop}{w0:World}{L:List Ent}{a:Option Addr}{n:Nat}{ids:List Int}(h:RW S0 w0 L .u8 32 a n ids)(p c:Nat)(hp:p≤n)(hc:p≤c):RW S0 w0 L .u8 32 (subA a 0 32 c) p (ids.take (32*p)):=fun w M=>let ⟨S,k⟩:=h w M;⟨S,wTk k p c hp hc⟩
theorem rwDrop{S0:Nat→Prop}{w0:World}{L:List Ent}{a:Option Addr}{n:Nat}{ids:List Int}(h:RW S0 w0 L .u8 32 a n ids)(p c:Nat)(hp:p≤n)(hc:n≤c):RW S0 w0 L .u8 32 (subA a p 32 c) (n - p) (ids.drop (32*p)):=fun w M=>let ⟨S,k⟩:=h w M;⟨S,wDp k p c hp hc⟩
theorem refSorted{S0:Nat→Prop}(a:Option Addr)(n c:Nat)(ids:List Int)(w:World)(D0:WRow .u8 32 S0 w a n ids)(hc:n≤c)(hn:n≤500):
  Calls prog 203 #[.slice a n c] w (Gv w (fun q:Option Addr×Nat×Nat=> .slice q.1 q.2.1 q.2.2) (fun q=>[.wown 24 .u8 32 q.1 q.2.1 q.2.2 (S.srtS ids n).2]) fun q=>q.2.1=(S.srtS ids n).1):=by
 refine J.enter 60 func203 rfl rfl ?_;refine run ?_;refine J.nilWo 24 .u8 32 ?_;refine J.loop (A:=NmA) (fun p=>[(3, .slice p.a p.n p.c),(4, .int .i64 (p.i:Nat))]) [5,6,7,8,9,10,11,12,13,14,15,16,17,18,19,20,21,22,23,24,25,26,27,28,29,30,31,32,33,34,35,36,37,38,39,40,41,42,43,44,45,46,47,48,49,50,51,52,53,54,55,56,57,58,59] (fun p=>[.wown 24 .u8 32 p.a p.n p.c (S.srtS ids p.i).2]) (fun p=>p.i≤n∧p.n=(S.srtS ids p.i).1) (fun p=>n - p.i) ⟨0,0,none,0⟩ (by kernel_rfl) ⟨Nat.zero_le _,rfl⟩ (fun p j hI=>?_);obtain⟨i,on,oa,oc⟩:=p;obtain⟨hp,hon⟩:=hI;dsimp only at hp hon⊢;have hle:=S.srtS_le ids i;have hsame:= @S.srtS_same ids i;have hmore:= @S.srtS_more ids i;obtain⟨o,ho⟩:=ex (S.srtS ids i).2;rw[←hon]at hle hsame hmore;rw[←ho]at hsame hmore⊢;refine run ?_;refine J.ifd rfl (fun c1=>?_) (fun c1=>?_)
 ·have hA:Arr .u8 32 (elt 32 ids i):=D0.elt_arr (by omega);obtain⟨x,hx⟩:=ex (elt 32 ids i);have hxi:S.idAt ids i=x:=hx.symm;rw[←hx]at hA;rw[hxi]at hsame hmore;refine J.fact (.wown 24 .u8 32 oa on oc o) (fun _ _ h=>(wown_len h).1) fun hol=>?_
  refine J.fact (.wown 24 .u8 32 oa on oc o) (fun _ _ h=>(wown_len h).2) fun hcap=>?_
  refine J.fact (.wown 24 .u8 32 oa on oc o) (fun _ _ h=>(wown_e h).1.bd) fun hbd=>?_
  have hoA:∀k,k<on→Arr .u8 32 (elt 32 o k):=fun k hk=>⟨by unfold elt;rw[List.length_take,List.length_drop];omega,fun y hy=>hbd y (List.mem_of_mem_drop (List.mem_of_mem_take hy))⟩
  refine run ?_;refine J.loopS (A:=Int) (fun p=>[(5, .int .i64 p)]) [12,13,14,15,16,17,18,19,20,21,22,23,24,25,26,27,28,29] (fun p=>(0≤p∧p≤on)∧∀k,k<p.toNat→S.cmpS (S.idAt o k) x<0) (fun p=>on - p.toNat) 0 (by kernel_rfl) ⟨by omega,fun i hi=>by omega⟩ (fun p j2 hI2=>?_);obtain⟨h1,h2⟩:=hI2;refine run ?_;refine J.joinX (A:=Bool) (fun u=>[(27, .bool u)]) [12,13,14,15,16,17,18,19,20,21,22,23,24,25,26] (fun _=>[.wown 24 .u8 32 oa on oc o]) (fun u=>u=decide (p<on∧S.cmpS (S.idAt o p.toNat) x<0)) ?_ (fun u j3 hu=>?_)
  ·refine J.regionX [(0, .q),(1, .q),(2, .q),(3, .q),(4, .q),(5, .q),(6, .q),(7, .q),(8, .q),(9, .q),(10, .q),(11, .q),(12, .q),(13, .e),(14, .q),(15, .q)] mixed (by kernel_rfl) ?_;refine run ?_;refine J.spd rfl rfl rfl (fun c2=>?_) (fun c2=>?_)
   ·refine run ?_;refine J.callp rfl rfl (fun w' M=>rcmp _ _ (hoA p.toNat (by omega)) hA w') ?_;refine run ?_;exact J.cut _ ⟨rfl,trivial⟩ (by kernel_rfl) (decide_eq_decide.2 ⟨fun h=>⟨c2,h⟩,fun h=>h.2⟩)
   refine run ?_;exact J.cut _ ⟨rfl,trivial⟩ (by kernel_rfl) (decide_eq_false fun h=>c2 h.1).symm
  subst hu;refine run ?_;refine J.ifd rfl (fun c2=>?_) (fun c2=>?_)
  ·refine run ?_;refine J.nextS (p+1) ⟨rfl,trivial⟩ (by kernel_rfl) ⟨by omega,fun k hk=>?_⟩ (by omega);rcases Nat.lt_or_ge k p.toNat with e|e
   ·exact h2 k e
   obtain rfl:k=p.toNat:=by omega
   exact c2.2
  have hsp:S.spotS on o x=p.toNat:=S.spotC_eq (by omega) h2 fun hlt=>by
   have:¬S.cmpS (S.idAt o p.toNat) x<0:=fun e=>c2 ⟨by omega,e⟩;show 0≤S.cmpS (S.idAt o p.toNat) x;omega
  rw[hsp]at hsame hmore;refine run ?_;refine J.joinX (A:=Bool) (fun u=>[(44, .bool u)]) [30,31,32,33,34,35,36,37,38,39,40,41,42,43] (fun _=>[.wown 24 .u8 32 oa on oc o]) (fun u=>u=true↔¬(p.toNat<on∧S.idAt o p.toNat=x)) ?_ (fun u j3 hu=>?_)
  ·refine J.regionX [(0, .q),(1, .q),(2, .q),(3, .q),(4, .q),(5, .q),(6, .q),(7, .q),(8, .q),(9, .q),(10, .q),(11, .q),(12, .q),(13, .q),(14, .q)] mixed (by kernel_rfl) ?_;refine run ?_;refine J.spe rfl rfl rfl (fun c3=>?_) (fun c3=>?_)
   ·refine run ?_;exact J.cut _ ⟨rfl,trivial⟩ (by kernel_rfl) ⟨fun _ h=>by omega,fun _=>rfl⟩
   have hoe:=(hoA p.toNat (by omega)).1;refine run ?_;refine run ?_;exact J.cut _ ⟨rfl,trivial⟩ (by kernel_rfl) (decide_eq_true_iff.trans ⟨fun h k=>h k.2,fun h k=>h ⟨by omega,k⟩⟩)
  refine run ?_;refine J.ifb rfl (fun c3=>?_) (fun c3=>?_)
  ·have hs:=hmore (hu.1 c3);have hnn:p.toNat+1+(on - p.toNat)=on+1:=by omega
   refine J.regionW [.wown 24 .u8 32 oa on oc o] mixed ?_;refine J.wnode [(1, .q),(2, .q),(3, .q),(5, .q),(6, .q),(7, .q),(8, .q),(11, .q),(12, .q),(13, .q)] [0,9] 5 #[false,true,true,true,false,true,true,true,true,false,false,true,true,true,false,false] (by kernel_rfl) ?_;refine run ?_;refine J.nil ?_;refine J.wbr ?_ ?_
   ·refine J.b0W .u8 rfl fun bi=>?_
    refine J.nil ?_;refine J.wnode [] [4,9] 4 #[true,true,true,true,false,true,true,true,true,false,false,true,true,true,false,false] (by kernel_rfl) ?_;refine run ?_;refine J.nil ?_;refine J.wbr ?_ ?_
    ·refine J.apW (n2:=p.toNat) rfl rfl (rwTake RW.own' p.toNat oc (by omega) (by omega)) fun a1 c1=>?_
     rw[Nat.zero_add p.toNat,List.nil_append (o.take (32*p.toNat))];refine J.nil ?_;refine J.wfin [(9, .e),(10, .e),(14, .e),(15, .q)] (by kernel_rfl) ?_;refine run ?_;refine J.b1W rfl rfl hA fun bx=>?_
     refine run ?_;refine J.apW rfl rfl RW.own' fun a2 c2=>?_
     refine run ?_;refine J.apW (n2:=on - p.toNat) rfl rfl (rwDrop RW.own' p.toNat oc (by omega) (by omega)) fun a3 c3=>?_
     rw[hnn];refine run ?_;refine run ?_;refine J.re (.wown 24 .u8 32 a3 (on+1) c3 (o.take (32*p.toNat)++x++o.drop (32*p.toNat))) (.wown 24 .u8 32 a3 (on+1) c3 (S.srtS ids (i+1)).2) (fun _ _ h=>by rw[hs];unfold S.insW;rw[←List.append_assoc];exact h) ?_;refine J.front (.wown 24 .u8 32 a3 (on+1) c3 (S.srtS ids (i+1)).2) ?_;exact J.next ⟨i+1,on+1,a3,c3⟩ ⟨rfl,rfl,trivial⟩ (by kernel_rfl) ⟨by dsimp only;omega,by rw[hs]⟩ (by dsimp only;omega)
    refine J.wbr ?_ ?_
    ·refine J.b1W rfl rfl hA fun bx=>?_
     refine J.nil ?_;refine J.wfin [(4, .e),(10, .e),(14, .e),(15, .q)] (by kernel_rfl) ?_;refine run ?_;refine J.apW (n2:=p.toNat) rfl rfl (rwTake RW.own' p.toNat oc (by omega) (by omega)) fun a1 c1=>?_
     rw[Nat.zero_add p.toNat,List.nil_append (o.take (32*p.toNat))];refine run ?_;refine J.apW rfl rfl RW.own' fun a2 c2=>?_
     refine run ?_;refine J.apW (n2:=on - p.toNat) rfl rfl (rwDrop RW.own' p.toNat oc (by omega) (by omega)) fun a3 c3=>?_
     rw[hnn];refine run ?_;refine run ?_;refine J.re (.wown 24 .u8 32 a3 (on+1) c3 (o.take (32*p.toNat)++x++o.drop (32*p.toNat))) (.wown 24 .u8 32 a3 (on+1) c3 (S.srtS ids (i+1)).2) (fun _ _ h=>by rw[hs];unfold S.insW;rw[←List.append_assoc];exact h) ?_;refine J.front (.wown 24 .u8 32 a3 (on+1) c3 (S.srtS ids (i+1)).2) ?_;exact J.next ⟨i+1,on+1,a3,c3⟩ ⟨rfl,rfl,trivial⟩ (by kernel_rfl) ⟨by dsimp only;omega,by rw[hs]⟩ (by dsimp only;omega)
    exact J.wbr0
   refine J.wbr ?_ ?_
   ·refine J.b1W rfl rfl hA fun bx=>?_
    refine J.nil ?_;refine J.wfin [(0, .e),(4, .e),(10, .e),(14, .e),(15, .q)] (by kernel_rfl) ?_;refine run ?_;refine J.b0W .u8 rfl fun bi=>?_
    refine run ?_;refine J.apW (n2:=p.toNat) rfl rfl (rwTake RW.own' p.toNat oc (by omega) (by omega)) fun a1 c1=>?_
    rw[Nat.zero_add p.toNat,List.nil_append (o.take (32*p.toNat))];refine run ?_;refine J.apW rfl rfl RW.own' fun a2 c2=>?_
    refine run ?_;refine J.apW (n2:=on - p.toNat) rfl rfl (rwDrop RW.own' p.toNat oc (by omega) (by omega)) fun a3 c3=>?_
    rw[hnn];refine run ?_;refine run ?_;refine J.re (.wown 24 .u8 32 a3 (on+1) c3 (o.take (32*p.toNat)++x++o.drop (32*p.toNat))) (.wown 24 .u8 32 a3 (on+1) c3 (S.srtS ids (i+1)).2) (fun _ _ h=>by rw[hs];unfold S.insW;rw[←List.append_assoc];exact h) ?_;refine J.front (.wown 24 .u8 32 a3 (on+1) c3 (S.srtS ids (i+1)).2) ?_;exact J.next ⟨i+1,on+1,a3,c3⟩ ⟨rfl,rfl,trivial⟩ (by kernel_rfl) ⟨by dsimp only;omega,by rw[hs]⟩ (by dsimp only;omega)
   exact J.wbr0
  have hs:=hsame (Classical.not_not.1 fun h=>by rw[hu.2 h]at c3;cases c3);refine J.re (.wown 24 .u8 32 oa on oc o) (.wown 24 .u8 32 oa on oc (S.srtS ids (i+1)).2) (fun _ _ h=>by rw[hs,←ho];exact h) ?_;refine run ?_;exact J.next ⟨i+1,on,oa,oc⟩ ⟨rfl,rfl,trivial⟩ (by kernel_rfl) ⟨by dsimp only;omega,by rw[hs];exact hon⟩ (by dsimp only;omega)
 obtain rfl:i=n:=by omega
 rw[ho];refine run ?_;exact J.finG (oa,on,oc) rfl hon sb
end W
namespace W
open Go.RowKit G
section
variable{S0:Nat→Prop}{w0:World}{L:List Ent}{P:Program}{ops:Array Oper}{K:List Value→World→Prop}{rest:List (Oper×Kd)}{l l':List Value}{m:Md}{d:Tmp}{ty xt e:TypeId}{pos:String}{af:Array Edge}{kd:Kd}{x y:Operand}{nn:Nat}{ki k:IntKind}{a:Option Addr}{k0 sz n:Nat}{i:Int}{xs:List Int}
theorem J.ixA[U:Und P xt (.array nn e)][Z:Siz P e 1](hk:pureK kd=true)(ha:∃b o,a=some ⟨b,o,none⟩)(hx:ev l x=pt a k0)(hy:ev l y= .int ki 0)(kk:J S0 w0 L (RY S0 w0 m P ops K rest l'))(hn:0<nn:=by decide)(hl:l.set d (pt a (k0+0))=l':=by dsimp only[List.set]):
  J S0 w0 L (RY S0 w0 m P ops K ((⟨some d, .indexAddr xt x y,ty,pos,af,none⟩,kd)::rest) l):=
 J.pur hk (fun w => by
  obtain ⟨b, o, rfl⟩ := ha
  rw [pt_some rfl]
  exact D.indexArr (i := 0) (hx.trans (pt_some rfl k0)) hy U.h Z.h (by decide) (by omega)) kk hl
theorem J.ldB{off:Nat}[U:Und P xt (.int k)](hx:ev l x=pt a (i.toNat*sz+off))(hR:RW S0 w0 (Lv m L) k sz a n xs)(kk:J S0 w0 L (RY S0 w0 m P ops K rest l'))(hz:0<sz:=by decide)(ho:off<sz:=by decide)(hi:0≤i∧i<n:=by omega)(hl:l.set d (.int k ((elt sz xs i.toNat).getD off 0))=l':=by dsimp only[List.set]):
  J S0 w0 L (RY S0 w0 m P ops K ((⟨some d, .load xt x,ty,pos,af,none⟩, .q)::rest) l):=
 J.val (fun w M => by
  obtain ⟨S, h⟩ := hR w M
  obtain ⟨b, o, ha, _, hc⟩ := h.at_ hz hi
  have hl := h.elt_len (i := i.toNat) (by omega)
  have h1 := hc off (by rw [ints_length, hl]; exact ho)
  rw [ints_getD _ _ _ (by rw [hl]; exact ho), Nat.add_assoc] at h1
  exact D.load (by rw [hx, pt_some ha]) U.h rfl h1) kk hl
end
end W
namespace W
open Go.RowKit G
set_option maxRecDepth 20000
set_option maxHeartbeats 8000000
attribute [local irreducible] RS RX RY Code.wp bodyPost J Ent.blk Ent.irow Ent.iown Ent.wrow Ent.wown Ent.gown Ent.all Ent.emp
instance:Sca prog 5:=⟨_,underlying5,rfl⟩
theorem shNumber(x:List Int)(n:Int)(hx:Arr .u8 32 x)(hn:0<n∧n≤1000)(w:World):
  Calls prog 159 #[.agg (ints .u8 x).toArray, .int .i64 n] w (Ret w fun v _=>v= .int .i64 (x.getD 0 0 % n)):=by
 obtain⟨x0,xs,rfl⟩:∃x0 xs,x=x0::xs:=by
  cases x with
  |nil=>exact absurd hx.1 (by decide)
  |cons y ys=>exact⟨y,ys,rfl⟩
 have h0:=hx.2 x0 (List.mem_cons_self);simp only[lim]at h0;refine J.enter 8 func159 rfl rfl ?_;refine run ?_;refine J.box rfl rfl rfl fun b1=>?_
 refine run ?_;refine J.ixA (a:=some ⟨b1,0,none⟩) (k0:=0) rfl ⟨b1,0,rfl⟩ rfl rfl ?_;refine J.ld (b:=b1) (o:=0) rfl ?_;refine run ?_;exact J.fin rfl
structure PtA where
 (i n:Nat)(a:Option Addr)(c:Nat)(oa:Option Addr)(oc:Nat)(zs:List OpA)
theorem refPart{S0 S1:Nat→Prop}(g:GrA)(la:Option Addr)(ln lc:Nat)(ll:List Int)(w:World)(G:GrR S0 w g)(D1:WRow .u8 32 S1 w la ln ll)(hmn:g.n=g.m)(hln:ln≤1000):
  Calls prog 269 #[.agg (grC g).toArray, .slice la ln lc] w (Gv w (fun q:GrA=> .agg (grC q).toArray) (grE 24 37) (GrP (S.parS g.P ln ll).m (S.parS g.P ln ll).ids (S.parS g.P ln ll).ops)):=by
 have D0:=G.ids;have G0:=G.ops;have hl:=G.len;have hcp:=G.cap;have hcp2:=G.cap.2.2;obtain⟨F,hF⟩:=ex (S.parF g.P ln ll);refine J.enter 42 func269 rfl rfl ?_;refine run ?_;refine J.box rfl rfl rfl fun b1=>?_
 refine J.alloc rfl fun b2=>?_
 refine run ?_;refine J.alloc rfl fun b3=>?_
 refine run ?_;refine J.nilWo 24 .u8 32 ?_;refine J.nilG opC 11 37 opC_len ?_;refine J.loop (A:=PtA) (fun p=>[(6, .int .i64 (p.i:Nat))]) [7,8,9,10,11,12,13,14,15,16,17,18,19,20,21,22,23,24,25,26,27,28,29,30,31,32,33,34,35,36,37,38,39,40,41] (fun p=>[.gown opC 11 37 p.oa p.n p.oc p.zs, .wown 24 .u8 32 p.a p.n p.c (S.selF F g.ids p.i), .blk b3 [.slice p.a p.n p.c, .slice p.oa p.n p.oc] 43, .blk b2 [.slice none 0 0, .slice none 0 0] 43, .blk b1 (grC g) 43]) (fun p=>p.i≤g.m∧p.n=S.numF F p.i∧p.zs.map OpA.o=S.selO F g.ops p.i∧∀z∈p.zs,z∈g.zs) (fun p=>g.m - p.i) ⟨0,0,none,0,none,0,[]⟩ (by kernel_rfl) ⟨Nat.zero_le _,rfl,rfl,fun z hz=>(by cases hz)⟩ (fun p j hI=>?_);obtain⟨hp,hn,hz1,hz2⟩:=hI;have hnle:=S.numF_le F p.i;refine run ?_;refine J.ifd rfl (fun c1=>?_) (fun c1=>?_)
 ·have hA:Arr .u8 32 (elt 32 g.ids p.i):=D0.elt_arr (by omega);obtain⟨z,hz⟩:=G0.ex (i:=(p.i:Nat)) (by omega);have hz':=hz;rw[Int.toNat_natCast]at hz';have hzo:=GrA.opAt hz';refine run ?_;rw[Int.toNat_natCast];refine J.callp rfl rfl (fun w' M=>refAt la ln lc ll _ w' (D1.ext M.ext) hA hln) ?_;refine run ?_;refine J.ifd rfl (fun c2=>?_) (fun c2=>?_)
  ·have ey:F p.i=true:=by rw[hF];exact decide_eq_true (Classical.byContradiction fun h=>by have:=S.at_neg.2 h;exact absurd (Int.lt_of_lt_of_le this c2) (Int.lt_irrefl _))
   have e3:S.selF F g.ids p.i++elt 32 g.ids p.i=S.selF F g.ids (p.i+1):=by rw[S.selF,ey];rfl
   have e4:S.numF F (p.i+1)=p.n+1:=by rw[S.numF,ey,←hn];rfl
   have e5:S.selO F g.ops (p.i+1)=S.selO F g.ops p.i++[z.o]:=by rw[S.selO,ey,hzo];rfl
   refine run ?_;refine J.regionX [(0, .q),(1, .q),(2, .q),(3, .q),(4, .q),(5, .q),(6, .q),(7, .e),(8, .g),(9, .q),(10, .g)] mixed (by kernel_rfl) ?_;refine run ?_;rw[Int.toNat_natCast];refine J.b1W rfl rfl hA fun bb=>?_
   refine J.apW rfl rfl RW.own' fun a' c'=>?_
   rw[e3];refine run ?_;refine J.regionX [(0, .q),(1, .q),(2, .q),(3, .q),(4, .q),(5, .q),(6, .q),(7, .e),(8, .g),(9, .q),(10, .g)] mixed (by kernel_rfl) ?_;refine run ?_;refine J.b1G opC z opC_len rfl rfl rfl fun bc=>?_
   refine J.apG rfl rfl RG.own' opC_one fun oa' oc'=>?_
   refine run ?_;refine J.drop (E:=[.gown opC 11 37 oa' (p.n+1) oc' (p.zs++[z]), .wown 24 .u8 32 a' (p.n+1) c' (S.selF F g.ids (p.i+1)), .blk b3 [.slice a' (p.n+1) c', .slice oa' (p.n+1) oc'] 43, .blk b2 [.slice none 0 0, .slice none 0 0] 43, .blk b1 (grC g) 43]) sb ?_
   exact J.next ⟨p.i + 1, p.n + 1, a', c', oa', oc', p.zs ++ [z]⟩ ⟨rfl, trivial⟩ (by kernel_rfl) ⟨by dsimp only; omega, e4.symm, by dsimp only; rw [List.map_append, hz1, e5]; rfl, fun y hy => by
    rcases List.mem_append.1 hy with h | h
    ·exact hz2 y h
    rw [List.mem_singleton] at h; subst h; exact List.mem_of_getElem? hz'⟩ (by dsimp only; omega)
  have ey:F p.i=false:=by rw[hF];exact decide_eq_false fun h=>c2 (by have h2:¬S.atS ln ll (elt 32 g.ids p.i)<0:=fun k=>S.at_neg.1 k h;omega)
  have e3:S.selF F g.ids p.i=S.selF F g.ids (p.i+1):=by rw[S.selF,ey];exact(List.append_nil _).symm
  have e4:S.numF F (p.i+1)=p.n:=by rw[S.numF,ey,←hn];rfl
  have e5:S.selO F g.ops (p.i+1)=S.selO F g.ops p.i:=by rw[S.selO,ey];exact List.append_nil _
  rw[e3];refine run ?_;exact J.next ⟨p.i+1,p.n,p.a,p.c,p.oa,p.oc,p.zs⟩ ⟨rfl,trivial⟩ (by kernel_rfl) ⟨by dsimp only;omega,e4.symm,by rw[e5];exact hz1,hz2⟩ (by dsimp only;omega)
 have hnm:=S.numF_le F g.m;obtain⟨pi,pn,pa,pc,poa,poc,zs⟩:=p;dsimp only at hp hn hz1 hz2 hnle c1⊢;obtain rfl:pi=g.m:=by omega
 refine J.fact (.wown 24 .u8 32 pa pn pc (S.selF F g.ids g.m)) (fun _ _ h=>(wown_len h).2) fun hc1=>?_
 refine J.fact (.gown opC 11 37 poa pn poc zs) (fun _ _ h=>(gown_e h).1.capn) fun hc2=>?_
 refine run ?_;refine J.call rfl rfl (fun w' M=>(RW.own' (a:=pa) w' M).elim fun _ k0=>(RG.own' (a:=poa) w' M).elim fun _ k1=>refGTwin ⟨pa,poa,pn,pn,pc,poc,S.selF F g.ids g.m,zs⟩ w' (S0:=fun _=>True) ⟨k0.weaken fun _ _ _=>trivial,k1.weaken fun _ _ _=>trivial,Inns.weak (fun x hx=>(G.ext M.ext).inn x (hz2 x hx)) fun _ _=>trivial,fun z hz=>G.ok z (hz2 z hz),hc1,hc2,by show pn≤70;omega,by show pn≤70;omega⟩) fun q hq=>?_
 dsimp only[grE,List.cons_append,List.nil_append];refine run ?_;refine J.finG q rfl ?_ (by unfold grE;repeat(first|exact List.nil_sublist _|refine List.Sublist.cons_cons _ ?_|refine List.Sublist.cons _ ?_));have e1:S.parS g.P ln ll=⟨S.numF F g.m,S.selF F g.ids g.m,S.selO F g.ops g.m⟩:=by subst hF;rfl
 rw[e1];have eo:GrA.ops ⟨pa,poa,pn,pn,pc,poc,S.selF F g.ids g.m,zs⟩=S.selO F g.ops g.m:=hz1;rw[eo]at hq;exact⟨hq.m.trans hn,hq.ids,hq.n,hq.ops,hq.cap⟩
end W
namespace S
open G
structure ShV where
 (ps:List PG)(hn:Nat)(hs:List Int)(ver:Int)
def ShV.zero:ShV:=⟨[],0,[],0⟩
def modF(g:PG)(n i:Nat)(k:Nat):Bool:=decide ((idAt g.ids k).getD 0 0 % (n:Int)=(i:Nat))
def prtS(g:PG)(n i:Nat):PG:=parS g (numF (modF g n i) g.m) (selF (modF g n i) g.ids g.m)
def madeS(g:PG)(n:Nat):ShV:=⟨(List.range n).map (prtS g n),hdN g,hdI g,g.m⟩
theorem made_take(g:PG){n i:Nat}(hi:i<n):(madeS g n).ps.take (i+1)=(madeS g n).ps.take i++[prtS g n i]:=by
 unfold madeS;dsimp only;rw[List.take_add_one,List.getElem?_map,List.getElem?_range hi];rfl
theorem made_len(g:PG)(n:Nat):(madeS g n).ps.length=n:=by unfold madeS;simp
theorem selO_mem{f:Nat→Bool}{ops:List OpV}:∀ {n:Nat} {o:OpV},o∈selO f ops n→o∈ops∨o=OpV.zero
 |0,_,h=>by cases h
 |n+1,o,h=>by
  rw[selO]at h;rcases List.mem_append.1 h with k|k
  ·exact selO_mem k
  ·split at k
   ·rw[List.mem_singleton]at k;subst k;rw[List.getD_eq_getElem?_getD];cases hq:ops[n]? with
    |none=>exact .inr rfl
    |some o=>exact .inl (List.mem_of_getElem? hq)
   ·cases k
theorem selO_ok{f:Nat→Bool}{ops:List OpV}{n:Nat}(h:∀o∈ops,o.ok):∀o∈selO f ops n,o.ok:=fun o ho=>by
 rcases selO_mem ho with k|k
 ·exact h o k
 ·rw[k];exact OpV.zero_ok
def hitS(p:PG)(x:List Int):Prop:=inS p.m p.ids x∧ixS p.m p.ids x<p.ops.length
instance(p:PG)(x:List Int):Decidable (hitS p x):=by unfold hitS;infer_instance
def whP(ps:List PG)(x:List Int)(g:PG):Nat→PG
 |0=>g
 |k+1=>if hitS (ps.getD k PG.nil) x then⟨(whP ps x g k).m+1,(whP ps x g k).ids++x,(whP ps x g k).ops++[(ps.getD k PG.nil).ops.getD (ixS (ps.getD k PG.nil).m (ps.getD k PG.nil).ids x) OpV.zero]⟩else whP ps x g k
theorem whP_hit{ps:List PG}{x:List Int}{g:PG}{k:Nat}(h:hitS (ps.getD k PG.nil) x):whP ps x g (k+1)=⟨(whP ps x g k).m+1,(whP ps x g k).ids++x,(whP ps x g k).ops++[(ps.getD k PG.nil).ops.getD (ixS (ps.getD k PG.nil).m (ps.getD k PG.nil).ids x) OpV.zero]⟩:=by
 rw[whP,if_pos h]
theorem whP_no{ps:List PG}{x:List Int}{g:PG}{k:Nat}(h:¬hitS (ps.getD k PG.nil) x):whP ps x g (k+1)=whP ps x g k:=by
 rw[whP,if_neg h]
def whI(ps:List PG)(ids:List Int):Nat→PG
 |0=>PG.nil
 |i+1=>whP ps (idAt ids i) (whI ps ids i) ps.length
theorem whI_succ(ps:List PG)(ids:List Int)(i:Nat):whI ps ids (i+1)=whP ps (idAt ids i) (whI ps ids i) ps.length:=rfl
def allI'(ps:List PG):List Int:=ps.flatMap PG.ids
def allN(ps:List PG):Nat:=(ps.map PG.m).foldl (· + ·) 0
theorem allN_snoc(l:List PG)(g:PG):allN (l++[g])=allN l+g.m:=by unfold allN;simp[List.foldl_append]
theorem allI_snoc(l:List PG)(g:PG):allI' (l++[g])=allI' l++g.ids:=by unfold allI';simp
theorem all_take(ps:List PG){k:Nat}(hk:k<ps.length):allN (ps.take (k+1))=allN (ps.take k)+(ps.getD k PG.nil).m∧allI' (ps.take (k+1))=allI' (ps.take k)++(ps.getD k PG.nil).ids:=by
 rw[List.take_add_one,List.getElem?_eq_getElem hk,Option.toList_some,allN_snoc,allI_snoc,List.getD_eq_getElem?_getD,List.getElem?_eq_getElem hk];exact⟨rfl,rfl⟩
theorem allN_le{ps:List PG}{b:Nat}(h:∀p∈ps,p.m≤b):∀k,k≤ps.length→allN (ps.take k)≤b*k
 |0,_=>by simp[allN]
 |k+1,hk=>by
  have ih:=allN_le h k (by omega);have hm:=h _ (List.getElem_mem (show k<ps.length by omega));rw[(all_take ps (by omega)).1,List.getD_eq_getElem?_getD,List.getElem?_eq_getElem (by omega),Nat.mul_add];show _+(ps[k]).m≤_;omega
theorem allN_mono(ps:List PG){k:Nat}(hk:k≤ps.length):allN (ps.take k)≤allN ps:=by
 have:∀d,k+d≤ps.length→allN (ps.take k)≤allN (ps.take (k+d)):=fun d=>by
  induction d with
  |zero=>exact fun _=>Nat.le_refl _
  |succ d ih=>
   intro h;have:=ih (by omega);have:=(all_take ps (k:=k+d) (by omega)).1;rw[←Nat.add_assoc];omega
 have h:=this (ps.length - k) (by omega);rwa[show k+(ps.length - k)=ps.length by omega,List.take_length]at h
theorem all_len{ps:List PG}(h:∀p∈ps,p.ids.length=32*p.m):∀k,k≤ps.length→(allI' (ps.take k)).length=32*allN (ps.take k)
 |0,_=>by simp[allI',allN]
 |k+1,hk=>by
  have ih:=all_len h k (by omega);have hm:=h _ (List.getElem_mem (show k<ps.length by omega));rw[(all_take ps (by omega)).1,(all_take ps (by omega)).2,List.length_append,ih,List.getD_eq_getElem?_getD,List.getElem?_eq_getElem (by omega),Nat.mul_add];show _+(ps[k]).ids.length=32*_+32*(ps[k]).m;omega
theorem hit_at{p:PG}{x:List Int}:hitS p x↔0≤atS p.m p.ids x∧atS p.m p.ids x<(p.ops.length:Nat):=by
 unfold hitS atS;split<;>rename_i h
 ·simp[h]
 ·simp[h]
theorem at_val{m:Nat}{ids x:List Int}(h:0≤atS m ids x):atS m ids x=(ixS m ids x:Nat):=by
 unfold atS at*;split at h
 ·rename_i hh;rw[if_pos hh]
 ·omega
theorem whP_le(ps:List PG)(x:List Int)(g:PG):∀k,(whP ps x g k).m≤g.m+k
 |0=>Nat.le_refl _
 |k+1=>by
  have:=whP_le ps x g k;by_cases h:hitS (ps.getD k PG.nil) x
  ·rw[whP_hit h];dsimp only;omega
  ·rw[whP_no h];omega
theorem whI_le(ps:List PG)(ids:List Int):∀i,(whI ps ids i).m≤i*ps.length
 |0=>Nat.zero_le _
 |i+1=>by
  have:=whI_le ps ids i;have:=whP_le ps (idAt ids i) (whI ps ids i) ps.length;rw[whI_succ,Nat.add_mul];omega
def whole(ps:List PG):PG:=whI ps (srtS (allI' ps) (allN ps)).2 (srtS (allI' ps) (allN ps)).1
end S
namespace W
open Go.RowKit G
set_option maxRecDepth 20000
set_option maxHeartbeats 8000000
attribute [local irreducible] RS RX RY Code.wp bodyPost J Ent.blk Ent.irow Ent.iown Ent.wrow Ent.wown Ent.gown Ent.all Ent.emp
instance:Inf prog 53 3 56 [.slice none 0 0, .slice none 0 0, .int .i64 0]:=⟨TI.of (v:= .agg #[.slice none 0 0, .slice none 0 0, .int .i64 0]) (by kernel_rfl) rfl⟩
instance:Ents prog 34:=⟨.mk func34 (by kernel_rfl) rfl⟩
instance:SInf prog 53 [(0,1),(1,1),(2,1)]:=⟨_,underlying53,by kernel_rfl,by kernel_rfl⟩
instance:Siz prog 53 3:=⟨by kernel_rfl⟩
instance:Fld prog 53 0 0:=⟨_,_,1,underlying53,rfl,by kernel_rfl,by decide,rfl⟩
instance:Sca prog 51:=⟨_,underlying51,rfl⟩
instance:Und prog 51 (.slice 43):=⟨underlying51⟩
instance:Ents prog 269:=⟨.mk func269 (by kernel_rfl) rfl⟩
instance:Siz prog 51 1:=⟨by kernel_rfl⟩
instance:Agg prog 53 3:=⟨_,underlying53,rfl,by kernel_rfl⟩
structure ShA where
 (pa:Option Addr)(pn pc:Nat)(gs:List GrA)(ha:Option Addr)(hn hc:Nat)(hs:List Int)(ver:Int)
@[reducible] def shC(s:ShA):List Value:=[.slice s.pa s.pn s.pc, .slice s.ha s.hn s.hc, .int .i64 s.ver]
@[reducible] def ShA.V(s:ShA):S.ShV:=⟨s.gs.map GrA.P,s.hn,s.hs,s.ver⟩
def ShA.zero:ShA:=⟨none,0,0,[],none,0,0,[],0⟩
theorem grC_len(g:GrA):(grC g).length=2:=rfl
theorem grC_one(g:GrA):∀u∈grC g,u.oneCell'=true:=by
 intro u hu;simp only[grC,List.mem_cons,List.not_mem_nil,or_false]at hu;rcases hu with rfl|rfl<;>rfl
structure ShR(S0:Nat→Prop)(w:World)(s:ShA):Prop where
 pr:GRow (fun g:GrA=>grC g) 2 S0 w s.pa s.pn s.gs
 gi:∀g∈s.gs,GrR S0 w g
 hr:WRow .u8 32 S0 w s.ha s.hn s.hs
 cap:s.pn≤s.pc∧s.hn≤s.hc∧s.pn≤6∧s.hn≤100
theorem ShR.ext{S0:Nat→Prop}{w w':World}{s:ShA}(h:ShR S0 w s)(x:Ext w w'):ShR S0 w' s:=⟨h.pr.ext x,fun g hg=>(h.gi g hg).ext x,h.hr.ext x,h.cap⟩
theorem ShR.g{S0:Nat→Prop}{w:World}{s:ShA}(h:ShR S0 w s){i:Nat}{g:GrA}(hg:s.gs[i]? =some g):GrR S0 w g:=h.gi g (List.mem_of_getElem? hg)
def ShL(s:ShA):Prop:=s.pn≤4→S.allN s.V.ps≤64
def grAll(g:GrA):Ent:= .all (grE 24 37 g)
@[reducible] def shE(s:ShA):List Ent:=[.gown (fun g:GrA=>grC g) 2 43 s.pa s.pn s.pc s.gs, .all (s.gs.map grAll), .wown 24 .u8 32 s.ha s.hn s.hc s.hs]
structure GrK(g:GrA):Prop where
 ok:∀z∈g.zs,z.o.ok
 cap:∀z∈g.zs,z.o.n≤z.pc
structure ShK(v:S.ShV)(s:ShA):Prop where
 V:s.V=v
 k:∀g∈s.gs,GrK g
theorem J.triG{S0:Nat→Prop}{w0:World}{L:List Ent}{X:World→Prop}(q:GrA){F1 F2 F3 F4:Ent→List Ent}[R1:RE L (.gown opC 11 37 q.oa q.n q.oc q.zs) F1][R2:RE (F1 .emp) (.all (q.zs.map (opE 24))) F2]
  [R3:RE (F2 (.all [.gown opC 11 37 q.oa q.n q.oc q.zs, .all (q.zs.map (opE 24))])) (.wown 24 .u8 32 q.ia q.m q.ic q.ids) F3][R4:RE (F3 .emp) (.all [.gown opC 11 37 q.oa q.n q.oc q.zs, .all (q.zs.map (opE 24))]) F4](k:J S0 w0 (F4 (grAll q)) X):J S0 w0 L X:=
 J.pair (.gown opC 11 37 q.oa q.n q.oc q.zs) (.all (q.zs.map (opE 24))) (J.snocA [.gown opC 11 37 q.oa q.n q.oc q.zs, .all (q.zs.map (opE 24))] (.wown 24 .u8 32 q.ia q.m q.ic q.ids) k)
structure MdA where
 (i:Nat)(a:Option Addr)(c:Nat)(gs:List GrA)
theorem refMade{S0:Nat→Prop}(g:GrA)(n:Nat)(w:World)(G:GrR S0 w g)(h0:S.chkG g.m g.ids g.ops=0)(hn:n≤4):
  Calls prog 192 #[.agg (grC g).toArray, .int .i64 (n:Nat)] w (Gv w (fun q:ShA=> .agg (shC q).toArray) (fun q=>shE q) (ShK (S.madeS g.P n))):=by
 have D0:=G.ids;have hl:=G.len;have hcp:=G.cap;have hcp2:=G.cap.2.2;have hmn:g.n=g.m:=by have:=(S.chkG_zero.1 h0).2.1;omega
 refine J.enter 53 func192 rfl rfl ?_;refine run ?_;refine J.box rfl rfl rfl fun b2=>?_
 refine J.alloc rfl fun b4=>?_
 refine run ?_;refine J.joinX (A:=(Option Addr×Nat×Nat)×Nat) (fun u=>[(5, .pointer (some ⟨u.2,0,none⟩))]) [9,10,11,12,13,14] (fun u=>[.blk u.2 [.slice none 0 0, .slice u.1.1 u.1.2.1 u.1.2.2, .int .i64 (g.m:Nat)] 53, .wown 24 .u8 32 u.1.1 u.1.2.1 u.1.2.2 (S.hdI g.P), .blk b4 [.slice none 0 0, .slice none 0 0, .int .i64 0] 53, .blk b2 (grC g) 43]) (fun u=>u.1.2.1=S.hdN g.P) ?_ (fun u j hu=>?_)
 ·refine J.regionW [.blk b2 (grC g) 43] mixed ?_;refine J.wnode [(0, .q),(2, .q),(3, .q),(4, .q)] [1,6] 3 #[true,false,true,true,true,false,false,false] (by kernel_rfl) ?_;refine run ?_;refine J.nil ?_;refine J.wbr ?_ ?_
  ·refine J.call rfl rfl (fun w' M=>refTop g w' (G.ext M.ext) h0) fun q hq=>?_
   refine J.nil ?_;refine J.wfin [(5, .q),(6, .e),(7, .e)] (by kernel_rfl) ?_;refine run ?_;refine J.alloc rfl fun b5=>?_
   refine run ?_;refine run ?_;refine J.front (.wown 24 .u8 32 q.1 q.2.1 q.2.2 (S.hdI g.P)) ?_;refine J.front (.blk b5 [.slice none 0 0, .slice q.1 q.2.1 q.2.2, .int .i64 (g.m:Nat)] 53) ?_;exact J.cut ((q.1,q.2.1,q.2.2),b5) ⟨rfl,trivial⟩ (by kernel_rfl) hq
  refine J.wbr ?_ ?_
  ·refine J.alloc rfl fun b5=>?_
   refine J.nil ?_;refine J.wfin [(1, .e),(5, .q),(7, .e)] (by kernel_rfl) ?_;refine run ?_;refine J.call rfl rfl (fun w' M=>refTop g w' (G.ext M.ext) h0) fun q hq=>?_
   refine run ?_;refine run ?_;refine J.front (.wown 24 .u8 32 q.1 q.2.1 q.2.2 (S.hdI g.P)) ?_;refine J.front (.blk b5 [.slice none 0 0, .slice q.1 q.2.1 q.2.2, .int .i64 (g.m:Nat)] 53) ?_;exact J.cut ((q.1,q.2.1,q.2.2),b5) ⟨rfl,trivial⟩ (by kernel_rfl) hq
  exact J.wbr0
 obtain⟨⟨ha,hhn,hhc⟩,b5⟩:=u;dsimp only at hu⊢;refine run ?_;refine J.noA ?_;refine J.nilG (fun g:GrA=>grC g) 2 43 grC_len ?_;refine J.loop (A:=MdA) (fun p=>[(6, .int .i64 (p.i:Nat))]) [7,8,15,16,17,18,19,20,21,22,23,24,25,26,27,28,29,30,31,32,33,34,35,36,37,38,39,40,41,42,43,44,45,46,47,48,49,50,51,52,53] (fun p=>[.gown (fun g:GrA=>grC g) 2 43 p.a p.i p.c p.gs, .all (p.gs.map grAll), .blk b5 [.slice p.a p.i p.c, .slice ha hhn hhc, .int .i64 (g.m:Nat)] 53, .wown 24 .u8 32 ha hhn hhc (S.hdI g.P), .blk b4 [.slice none 0 0, .slice none 0 0, .int .i64 0] 53, .blk b2 (grC g) 43]) (fun p=>p.i≤n∧p.gs.map GrA.P=(S.madeS g.P n).ps.take p.i∧∀x∈p.gs,GrK x) (fun p=>n - p.i) ⟨0,none,0,[]⟩ (by kernel_rfl) ⟨Nat.zero_le _,rfl,fun z hz=>(by cases hz)⟩ (fun p j2 hI=>?_);obtain⟨hp,hps,hpk⟩:=hI;refine run ?_;refine J.ifd rfl (fun c1=>?_) (fun c1=>?_)
 ·obtain⟨F,hF⟩:=ex (S.modF g.P n p.i);refine run ?_;refine J.nilWo 24 .u8 32 ?_;refine J.loop (A:=NmA) (fun k=>[(7, .slice k.a k.n k.c),(8, .int .i64 (k.i:Nat))]) [20,21,22,23,24,25,26,27,28,29,30,31,32,33,34,35,36,37,38,39,40,41,42,43,44,45] (fun k=>[.wown 24 .u8 32 k.a k.n k.c (S.selF F g.ids k.i), .gown (fun g:GrA=>grC g) 2 43 p.a p.i p.c p.gs, .all (p.gs.map grAll), .blk b5 [.slice p.a p.i p.c, .slice ha hhn hhc, .int .i64 (g.m:Nat)] 53, .wown 24 .u8 32 ha hhn hhc (S.hdI g.P), .blk b4 [.slice none 0 0, .slice none 0 0, .int .i64 0] 53, .blk b2 (grC g) 43]) (fun k=>k.i≤g.m∧k.n=S.numF F k.i) (fun k=>g.m - k.i) ⟨0,0,none,0⟩ (by kernel_rfl) ⟨Nat.zero_le _,rfl⟩ (fun k j3 hI=>?_);obtain⟨hk,hkn⟩:=hI;have hnle:=S.numF_le F k.i;refine run ?_;refine J.ifd rfl (fun c2=>?_) (fun c2=>?_)
  ·have hA:Arr .u8 32 (elt 32 g.ids k.i):=D0.elt_arr (by omega);obtain⟨ib,io,hia,_,_⟩:=D0.at_ (by decide) (i:=(k.i:Nat)) (by omega);have hb0:0≤(elt 32 g.ids ((k.i:Nat):Int).toNat).getD 0 0:=by
    rw[Int.toNat_natCast,List.getD_eq_getElem?_getD,List.getElem?_eq_getElem (by rw[hA.1];decide),Option.getD_some];exact(hA.2 _ (List.getElem_mem _)).1
   have hb1:(elt 32 g.ids ((k.i:Nat):Int).toNat).getD 0 0<256:=by
    rw[Int.toNat_natCast,List.getD_eq_getElem?_getD,List.getElem?_eq_getElem (by rw[hA.1];decide),Option.getD_some];exact(hA.2 _ (List.getElem_mem _)).2
   refine run ?_;refine J.ixA (a:=g.ia) (k0:=((k.i:Nat):Int).toNat*32) rfl ⟨ib,io,hia⟩ rfl rfl ?_;refine J.ldB (i:=((k.i:Nat):Int)) (sz:=32) (off:=0) rfl (RW.arg D0) ?_;refine run ?_;rw[Int.toNat_natCast k.i];refine J.ife rfl (fun c3=>?_) (fun c3=>?_)
   ·have ey:F k.i=true:=by rw[hF];exact decide_eq_true c3
    have e3:S.selF F g.ids k.i++elt 32 g.ids k.i=S.selF F g.ids (k.i+1):=by rw[S.selF,ey];rfl
    have e4:S.numF F (k.i+1)=k.n+1:=by rw[S.numF,ey,←hkn];rfl
    refine run ?_;rw[Int.toNat_natCast k.i];refine J.b1W rfl rfl hA fun bb=>?_
    refine J.apW rfl rfl RW.own' fun a' c'=>?_
    rw[e3];refine run ?_;exact J.next ⟨k.i+1,k.n+1,a',c'⟩ ⟨rfl,rfl,trivial⟩ (by kernel_rfl) ⟨by dsimp only;omega,e4.symm⟩ (by dsimp only;omega)
   have ey:F k.i=false:=by rw[hF];exact decide_eq_false c3
   have e3:S.selF F g.ids k.i=S.selF F g.ids (k.i+1):=by rw[S.selF,ey];exact(List.append_nil _).symm
   have e4:S.numF F (k.i+1)=k.n:=by rw[S.numF,ey,←hkn];rfl
   rw[e3];refine run ?_;exact J.next ⟨k.i+1,k.n,k.a,k.c⟩ ⟨rfl,rfl,trivial⟩ (by kernel_rfl) ⟨by dsimp only;omega,e4.symm⟩ (by dsimp only;omega)
  have hnm:=S.numF_le F g.m;obtain⟨ki,kn,ka,kc⟩:=k;dsimp only at hk hkn hnle c2⊢;obtain rfl:ki=g.m:=by omega
  refine run ?_;refine J.regionX [(0, .q),(1, .q),(2, .q),(3, .q),(4, .e),(5, .e),(6, .g),(7, .q),(8, .g)] mixed (by kernel_rfl) ?_;refine run ?_;refine J.call rfl rfl (fun w' M=>(RW.own' (a:=ka) w' M).elim fun _ k0=>refPart g ka kn kc _ w' (G.ext M.ext) k0 hmn (by omega)) fun q hq=>?_
  dsimp only[grE,List.cons_append,List.nil_append];refine run ?_;refine J.b1G (fun g:GrA=>grC g) q grC_len rfl rfl rfl fun bb=>?_
  refine J.apG rfl rfl RG.own' grC_one fun a' c'=>?_
  refine run ?_;refine J.triG q ?_;refine J.snocA (p.gs.map grAll) (grAll q) ?_;refine J.re (.all (p.gs.map grAll++[grAll q])) (.all ((p.gs++[q]).map grAll)) (fun _ _ h=>by rw[List.map_append];exact h) ?_;have hqP:q.P=S.prtS g.P n p.i:=by rw[hq.P];unfold S.prtS;rw[←hF,←hkn]
  refine J.drop (E:=[.gown (fun g:GrA=>grC g) 2 43 a' (p.i+1) c' (p.gs++[q]), .all ((p.gs++[q]).map grAll), .blk b5 [.slice a' (p.i+1) c', .slice ha hhn hhc, .int .i64 (g.m:Nat)] 53, .wown 24 .u8 32 ha hhn hhc (S.hdI g.P), .blk b4 [.slice none 0 0, .slice none 0 0, .int .i64 0] 53, .blk b2 (grC g) 43]) sb ?_
  exact J.next ⟨p.i + 1, a', c', p.gs ++ [q]⟩ ⟨rfl, trivial⟩ (by kernel_rfl) ⟨by dsimp only; omega, by dsimp only; rw [List.map_append, hps, S.made_take _ (by omega)]; show _ ++ [q.P] = _; rw [hqP], fun y hy => by
   rcases List.mem_append.1 hy with h | h
   ·exact hpk y h
   rw [List.mem_singleton] at h
   subst h
   exact ⟨hq.ok (S.selO_ok (fun o ho => G.opz o ho)), hq.cap⟩⟩ (by dsimp only; omega)
 obtain⟨pi,pa,pc,gs⟩:=p;dsimp only at hp hps hpk c1⊢;obtain rfl:pi=n:=by omega
 refine run ?_;refine J.finG ⟨pa,pi,pc,gs,ha,hhn,hhc,S.hdI g.P,(g.m:Nat)⟩ rfl ⟨?_,hpk⟩ sb;unfold ShA.V S.madeS;dsimp only;rw[hps,hu,List.take_of_length_le (by rw[S.made_len];exact Nat.le_refl _)];rfl
end W
namespace S
open G
/-! ### sums -/
def sm(f:Nat→Nat):Nat→Nat
 |0=>0
 |n+1=>sm f n+f n
theorem sm_zero:∀n,sm (fun _=>0) n=0
 |0=>rfl
 |n+1=>by rw[sm,sm_zero n]
theorem sm_add(f g:Nat→Nat):∀n,sm (fun i=>f i+g i) n=sm f n+sm g n
 |0=>rfl
 |n+1=>by rw[sm,sm,sm,sm_add f g n];omega
theorem sm_swap(F:Nat→Nat→Nat)(n:Nat):∀k,sm (fun i=>sm (F i) k) n=sm (fun j=>sm (fun i=>F i j) n) k
 |0=>sm_zero n
 |k+1=>by
  show sm (fun i=>sm (F i) k+F i k) n=_;rw[sm_add,sm_swap F n k];rfl
theorem sm_le{f g:Nat→Nat}:∀ {n:Nat},(∀i,i<n→f i≤g i)→sm f n≤sm g n
 |0,_=>Nat.le_refl _
 |n+1,h=>by
  have:=sm_le (n:=n) fun i hi=>h i (by omega);have:=h n (by omega);rw[sm,sm];omega
theorem sm_ind(P:Nat→Prop)[DecidablePred P]:∀n,sm (fun i=>if P i then 1 else 0) n=((List.range n).filter fun i=>decide (P i)).length
 |0=>rfl
 |n+1=>by
  rw[sm,sm_ind P n,List.range_succ,List.filter_append,List.length_append];congr 1;by_cases h:P n
  ·simp[h]
  ·simp[h]
/-! ### a graph with one more at its end -/
def PG.snoc(g:PG)(x:List Int)(o:OpV):PG:=⟨g.m+1,g.ids++x,g.ops++[o]⟩
section
variable{g:PG}{x y:List Int}{o u:OpV}
theorem snoc_good(hg:g.good)(hx:x.length=32):(g.snoc x o).good:=⟨by show(g.ids++x).length=32*(g.m+1);rw[List.length_append,hg.1,hx];omega,by show(g.ops++[o]).length=g.m+1;rw[List.length_append,hg.2];rfl⟩
theorem snoc_at(hg:g.good)(hx:x.length=32)(i:Nat)(hi:i<g.m+1):idAt (g.snoc x o).ids i=if i<g.m then idAt g.ids i else x:=by
 show idAt (g.ids++x) i=_;rw[idAt_app hg.1];split
 ·rfl
 ·rw[show i - g.m=0 by omega];unfold idAt;rw[Nat.mul_zero,List.drop_zero,List.take_of_length_le (by omega)]
theorem snoc_op(hg:g.good)(i:Nat)(hi:i<g.m+1):(g.snoc x o).ops.getD i OpV.zero=if i<g.m then g.ops.getD i OpV.zero else o:=by
 show(g.ops++[o]).getD i OpV.zero=_;rw[List.getD_eq_getElem?_getD];split
 ·rw[List.getElem?_append_left (by rw[hg.2];assumption),List.getD_eq_getElem?_getD]
 ·rw[List.getElem?_append_right (by rw[hg.2];omega),hg.2,show i - g.m=0 by omega];rfl
theorem snoc_has(hg:g.good)(hx:x.length=32):(g.snoc x o).has y u↔g.has y u∨(x=y∧o=u):=by
 constructor
 ·rintro⟨i,hi,e1,e2⟩;have hi':i<g.m+1:=hi;rw[snoc_at hg hx i hi']at e1;rw[snoc_op hg i hi']at e2;by_cases h:i<g.m
  ·rw[if_pos h]at e1 e2;exact .inl ⟨i,h,e1,e2⟩
  ·rw[if_neg h]at e1 e2;exact .inr ⟨e1,e2⟩
 ·rintro(⟨i,hi,e1,e2⟩|⟨e1,e2⟩)
  ·exact⟨i,Nat.lt_succ_of_lt hi,by rw[snoc_at hg hx i (by omega),if_pos hi];exact e1,by rw[snoc_op hg i (by omega),if_pos hi];exact e2⟩
  ·exact⟨g.m,Nat.lt_succ_self _,by rw[snoc_at hg hx _ (by omega),if_neg (by omega)];exact e1,by rw[snoc_op hg _ (by omega),if_neg (by omega)];exact e2⟩
theorem snoc_rising(hg:g.good)(hr:Rising g.m g.ids)(hx:x.length=32)(h:∀i,i<g.m→cmpS (idAt g.ids i) x<0):Rising (g.snoc x o).m (g.snoc x o).ids:=fun i hi=>by
 have hi':i<g.m:=by have:(g.snoc x o).m=g.m+1:=rfl;omega
 rw[snoc_at hg hx i (by omega),snoc_at hg hx (i+1) (by omega),if_pos hi'];split
 ·exact hr i (by omega)
 ·exact h i hi'
end
/-! ### ids in their order -/
theorem srt_good{ids:List Int}{n:Nat}(hl:ids.length=32*n):∀k,k≤n→(srtS ids k).2.length=32*(srtS ids k).1∧Rising (srtS ids k).1 (srtS ids k).2∧∀y,inS (srtS ids k).1 (srtS ids k).2 y↔∃j,j<k∧idAt ids j=y
 |0,_=>⟨rfl,nil_rising,fun y=>⟨fun h=>absurd h (nil_in y),fun⟨j,hj,_⟩=>absurd hj (Nat.not_lt_zero _)⟩⟩
 |k+1,hk=>by
  obtain⟨h1,h2,h3⟩:=srt_good hl k (by omega);have hx:=idAt_len ids k n hl (by omega);by_cases h:spotS (srtS ids k).1 (srtS ids k).2 (idAt ids k)<(srtS ids k).1∧idAt (srtS ids k).2 (spotS (srtS ids k).1 (srtS ids k).2 (idAt ids k))=idAt ids k
  ·rw[srtS_same h];refine⟨h1,h2,fun y=>(h3 y).trans ⟨fun⟨j,hj,e⟩=>⟨j,by omega,e⟩,fun⟨j,hj,e⟩=>?_⟩⟩;rcases Nat.lt_or_ge j k with c|c
   ·exact⟨j,c,e⟩
   ·obtain rfl:j=k:=by omega
    rw[←e];exact(h3 _).1 ⟨_,h.1,h.2⟩
  ·rw[srtS_more h];have hg:(⟨(srtS ids k).1,(srtS ids k).2,List.replicate (srtS ids k).1 OpV.zero⟩:PG).good:=⟨h1,List.length_replicate⟩
   have hn : ¬ inS (srtS ids k).1 (srtS ids k).2 (idAt ids k) := fun hi => h (by
    have := (spotS_has h2).1 hi
    exact ⟨this.1, (cmpS_eq _ _).1 this.2⟩)
   refine⟨(putP_good hg hx OpV.zero).1,putP_rising hg h2 hx hn OpV.zero,fun y=>(putP_in hg hx OpV.zero).trans ⟨fun hy=>?_,fun⟨j,hj,e⟩=>?_⟩⟩
   ·rcases hy with hy|hy
    ·obtain⟨j,hj,e⟩:=(h3 y).1 hy;exact⟨j,by omega,e⟩
    ·exact⟨k,by omega,hy.symm⟩
   ·rcases Nat.lt_or_ge j k with c|c
    ·exact .inl ((h3 y).2 ⟨j,c,e⟩)
    ·obtain rfl:j=k:=by omega
     exact .inr e.symm
theorem all_in{ps:List PG}(hw:∀p∈ps,p.ids.length=32*p.m)(y:List Int):∀k,k≤ps.length→(inS (allN (ps.take k)) (allI' (ps.take k)) y↔∃j,j<k∧inS (ps.getD j PG.nil).m (ps.getD j PG.nil).ids y)
 |0,_=>⟨fun h=>absurd h inS_zero,fun⟨j,hj,_⟩=>absurd hj (Nat.not_lt_zero _)⟩
 |k+1,hk=>by
  have ih:=all_in hw y k (by omega);have e:=all_take ps (k:=k) (by omega);rw[e.1,e.2,inS_app (all_len hw k (by omega)),ih];constructor
  ·rintro(⟨j,hj,h⟩|h)
   ·exact⟨j,by omega,h⟩
   ·exact⟨k,by omega,h⟩
  ·rintro⟨j,hj,h⟩;rcases Nat.lt_or_ge j k with c|c
   ·exact .inl ⟨j,c,h⟩
   ·obtain rfl:j=k:=by omega
    exact .inr h
/-! ### how many operations there are -/
theorem whP_m(ps:List PG)(x:List Int)(g:PG):∀k,(whP ps x g k).m=g.m+sm (fun j=>if hitS (ps.getD j PG.nil) x then 1 else 0) k
 |0=>rfl
 |k+1=>by
  have ih:=whP_m ps x g k;rw[sm];by_cases h:hitS (ps.getD k PG.nil) x
  ·rw[whP_hit h,if_pos h];dsimp only;omega
  ·rw[whP_no h,if_neg h];omega
theorem whI_m(ps:List PG)(ids:List Int):∀i,(whI ps ids i).m=sm (fun i=>sm (fun j=>if hitS (ps.getD j PG.nil) (idAt ids i)then 1 else 0) ps.length) i
 |0=>rfl
 |i+1=>by rw[whI_succ,whP_m,whI_m ps ids i];rfl
theorem col_le{p:PG}{ids:List Int}{n:Nat}(h:∀a,a<n→∀b,b<n→idAt ids a=idAt ids b→a=b):sm (fun i=>if hitS p (idAt ids i)then 1 else 0) n≤p.m:=by
 rw[sm_ind];have hm:∀a∈(List.range n).filter fun i=>decide (hitS p (idAt ids i)),a<n∧hitS p (idAt ids a):=fun a ha=>by
  rw[List.mem_filter]at ha;exact⟨List.mem_range.1 ha.1,of_decide_eq_true ha.2⟩
 have hn := nodup_map_on (f := fun i => ixS p.m p.ids (idAt ids i)) (l := (List.range n).filter fun i => decide (hitS p (idAt ids i))) (fun a ha b hb e => by
  obtain ⟨h1, h2⟩ := hm a ha
  obtain ⟨h3, h4⟩ := hm b hb
  refine h a h1 b h3 ?_
  have e1 := (ix_in h2.1).2
  have e2 := (ix_in h4.1).2
  rw [← e1, ← e2, e]) (List.nodup_range.sublist List.filter_sublist)
 have:=nodup_len hn (m:=List.range p.m) fun y hy=>by
  obtain⟨a,ha,rfl⟩:=List.mem_map.1 hy;exact List.mem_range.2 (ix_in (hm a ha).2.1).1
 rwa[List.length_map,List.length_range]at this
theorem sm_all(ps:List PG):∀k,k≤ps.length→sm (fun j=>(ps.getD j PG.nil).m) k=allN (ps.take k)
 |0,_=>by simp[sm,allN]
 |k+1,hk=>by rw[sm,sm_all ps k (by omega),(all_take ps (by omega)).1]
theorem whole_le{ps:List PG}(hw:∀p∈ps,p.ids.length=32*p.m):(whole ps).m≤allN ps:=by
 have hl:=all_len hw ps.length (Nat.le_refl _);rw[List.take_length]at hl;obtain⟨_,hr,_⟩:=srt_good hl (allN ps) (Nat.le_refl _);unfold whole;rw[whI_m,sm_swap];refine Nat.le_trans (sm_le (g:=fun j=>(ps.getD j PG.nil).m) fun j _=>col_le fun a ha b hb e=>rising_inj hr ha hb e) ?_;rw[sm_all ps _ (Nat.le_refl _),List.take_length];exact Nat.le_refl _
/-! ### good parts -/
def goodP(n i:Nat)(p:PG):Prop:=p.good∧Rising p.m p.ids∧∀j,j<p.m→(idAt p.ids j).getD 0 0 % (n:Int)=(i:Nat)
def goodPs(ps:List PG):Prop:=∀i,i<ps.length→goodP ps.length i (ps.getD i PG.nil)
section
variable{ps:List PG}
theorem goodPs.mem(h:goodPs ps){p:PG}(hp:p∈ps):p.good∧Rising p.m p.ids:=by
 obtain⟨i,hi,rfl⟩:=List.getElem_of_mem hp;have:=h i hi;rw[getD_at hi]at this;exact⟨this.1,this.2.1⟩
theorem goodPs.one(h:goodPs ps){i j:Nat}{x:List Int}(hi:i<ps.length)(hj:j<ps.length)(h1:inS (ps.getD i PG.nil).m (ps.getD i PG.nil).ids x)(h2:inS (ps.getD j PG.nil).m (ps.getD j PG.nil).ids x):i=j:=by
 obtain⟨a,ha,e1⟩:=h1;obtain⟨b,hb,e2⟩:=h2;have r1:=(h i hi).2.2 a ha;have r2:=(h j hj).2.2 b hb;rw[e1]at r1;rw[e2]at r2;omega
theorem goodPs.hit(h:goodPs ps){i:Nat}{x:List Int}(hi:i<ps.length):hitS (ps.getD i PG.nil) x↔inS (ps.getD i PG.nil).m (ps.getD i PG.nil).ids x:=
 ⟨fun k=>k.1,fun k=>⟨k,by rw[(h i hi).1.2];exact(ix_in k).1⟩⟩
theorem whP_none{x:List Int}{g:PG}:∀ {k:Nat},(∀j,j<k→¬hitS (ps.getD j PG.nil) x)→whP ps x g k=g
 |0,_=>rfl
 |k+1,h=>by rw[whP_no (h k (by omega)),whP_none fun j hj=>h j (by omega)]
theorem whP_one{x:List Int}{g:PG}{i:Nat}(hi:hitS (ps.getD i PG.nil) x):∀ {k:Nat},i<k→(∀j,j<k→hitS (ps.getD j PG.nil) x→j=i)→whP ps x g k=g.snoc x ((ps.getD i PG.nil).ops.getD (ixS (ps.getD i PG.nil).m (ps.getD i PG.nil).ids x) OpV.zero)
 |k+1,hk,h=>by
  by_cases e:i=k
  ·subst e;rw[whP_hit hi,whP_none fun j hj hh=>absurd (h j (by omega) hh) (by omega)];rfl
  ·rw[whP_no fun hh=>e (h k (by omega) hh).symm];exact whP_one hi (by omega) fun j hj=>h j (by omega)
theorem idAt_take{l:List Int}(i:Nat):l.take (32*(i+1))=l.take (32*i)++idAt l i:=by
 unfold idAt;rw[Nat.mul_add,Nat.mul_one,List.take_add]
theorem whI_good(h:goodPs ps){J:List Int}{n:Nat}(hJ:∀i,i<n→∃j,j<ps.length∧inS (ps.getD j PG.nil).m (ps.getD j PG.nil).ids (idAt J i)):∀i,i≤n→
  (whI ps J i).m=i∧(whI ps J i).ids=J.take (32*i)∧(whI ps J i).ops.length=i∧∀k,k<i→∀j,j<ps.length→inS (ps.getD j PG.nil).m (ps.getD j PG.nil).ids (idAt J k)→(whI ps J i).ops.getD k OpV.zero=(ps.getD j PG.nil).ops.getD (ixS (ps.getD j PG.nil).m (ps.getD j PG.nil).ids (idAt J k)) OpV.zero
 |0,_=>⟨rfl,by simp[whI,PG.nil],rfl,fun k hk=>absurd hk (Nat.not_lt_zero _)⟩
 |i+1,hi=>by
  obtain⟨h1,h2,h3,h4⟩:=whI_good h hJ i (by omega);obtain⟨j,hj,hin⟩:=hJ i (by omega);have e:whI ps J (i+1)=_:=whP_one (g:=whI ps J i) ((h.hit hj).2 hin) hj fun k hk hh=>h.one hk hj hh.1 hin;rw[e];refine⟨by show(whI ps J i).m+1=_;rw[h1],by show(whI ps J i).ids++_=_;rw[h2,idAt_take],by show((whI ps J i).ops++[_]).length=_;rw[List.length_append,h3];rfl,fun k hk j' hj' hin'=>?_⟩;show((whI ps J i).ops++[_]).getD k OpV.zero=_;rw[List.getD_eq_getElem?_getD];rcases Nat.lt_or_ge k i with c|c
  ·rw[List.getElem?_append_left (by omega),←List.getD_eq_getElem?_getD];exact h4 k c j' hj' hin'
  ·obtain rfl:k=i:=by omega
   obtain rfl:=h.one hj hj' hin hin';rw[List.getElem?_append_right (by omega),h3,Nat.sub_self];rfl
structure Mrg(ps:List PG)(g:PG):Prop where
 good:g.good
 rise:Rising g.m g.ids
 has:∀x o,g.has x o↔∃p∈ps,p.has x o
theorem Mrg.eq{g g':PG}(h:Mrg ps g)(h':Mrg ps g'):g=g':=PG.ext_has h.good h'.good h.rise h'.rise fun x o=>(h.has x o).trans (h'.has x o).symm
theorem mem_parts{q:PG→Prop}:(∃p∈ps,q p)↔∃j,j<ps.length∧q (ps.getD j PG.nil):=
 ⟨fun ⟨p, hp, hq⟩ => by
  obtain ⟨i, hi, rfl⟩ := List.getElem_of_mem hp
  exact ⟨i, hi, by rw [getD_at hi]; exact hq⟩, fun ⟨j, hj, hq⟩ => ⟨_, by rw [getD_at hj]; exact List.getElem_mem hj, hq⟩⟩
theorem whole_mrg(h:goodPs ps):Mrg ps (whole ps):=by
 have hw:∀p∈ps,p.ids.length=32*p.m:=fun p hp=>(h.mem hp).1.1;have hl:=all_len hw ps.length (Nat.le_refl _);have ha:=fun y=>all_in hw y ps.length (Nat.le_refl _);rw[List.take_length]at hl ha;obtain⟨h1,hr,h3⟩:=srt_good hl (allN ps) (Nat.le_refl _);have hs:∀y,inS (srtS (allI' ps) (allN ps)).1 (srtS (allI' ps) (allN ps)).2 y↔∃j,j<ps.length∧inS (ps.getD j PG.nil).m (ps.getD j PG.nil).ids y:=fun y=>(h3 y).trans (ha y);obtain⟨g1,g2,g3,g4⟩:=whI_good h (J:=(srtS (allI' ps) (allN ps)).2) (n:=(srtS (allI' ps) (allN ps)).1) (fun i hi=>(hs _).1 ⟨i,hi,rfl⟩) _ (Nat.le_refl _);rw[List.take_of_length_le (by omega)]at g2;have e:whole ps=whI ps (srtS (allI' ps) (allN ps)).2 (srtS (allI' ps) (allN ps)).1:=rfl;rw[←e]at g1 g2 g3 g4;refine⟨⟨by rw[g2,g1,h1],by rw[g3,g1]⟩,by rw[g1,g2];exact hr,fun x o=>Iff.trans ⟨?_,?_⟩ mem_parts.symm⟩
 ·rintro⟨i,hi,e1,e2⟩;rw[g1]at hi;rw[g2]at e1;obtain⟨j,hj,hin⟩:=(hs x).1 ⟨i,hi,e1⟩;refine⟨j,hj,_,(ix_in hin).1,(ix_in hin).2,?_⟩;rw[←e2,g4 i hi j hj (by rw[e1];exact hin),e1]
 ·rintro⟨j,hj,i',hi',e1,e2⟩;have hin:inS (ps.getD j PG.nil).m (ps.getD j PG.nil).ids x:=⟨i',hi',e1⟩
  obtain⟨i,hi,e3⟩:=(hs x).2 ⟨j,hj,hin⟩;refine⟨i,by rw[g1];exact hi,by rw[g2];exact e3,?_⟩;rw[g4 i hi j hj (by rw[e3];exact hin),e3,←e1,ix_eq (h j hj).2.1 hi'];exact e2
end
def selP(f:Nat→Bool)(g:PG)(n:Nat):PG:=⟨numF f n,selF f g.ids n,selO f g.ops n⟩
theorem selP_yes{f:Nat→Bool}{g:PG}{n:Nat}(h:f n=true):selP f g (n+1)=(selP f g n).snoc (idAt g.ids n) (g.ops.getD n OpV.zero):=by
 unfold selP PG.snoc;rw[numF,selF,selO,h];rfl
theorem selP_no{f:Nat→Bool}{g:PG}{n:Nat}(h:f n=false):selP f g (n+1)=selP f g n:=by
 unfold selP;rw[numF,selF,selO,h];simp
theorem sel_all{f:Nat→Bool}{g:PG}(hg:g.good)(hr:Rising g.m g.ids):∀n,n≤g.m→(selP f g n).good∧Rising (selP f g n).m (selP f g n).ids∧∀x o,(selP f g n).has x o↔∃k,k<n∧f k=true∧idAt g.ids k=x∧g.ops.getD k OpV.zero=o
 |0,_=>⟨⟨rfl,rfl⟩,nil_rising,fun x o=>⟨fun h=>absurd h (nil_has x o),fun⟨k,hk,_⟩=>absurd hk (Nat.not_lt_zero _)⟩⟩
 |n+1,hn=>by
  obtain⟨h1,h2,h3⟩:=sel_all hg hr n (by omega);have hx:=idAt_len g.ids n g.m hg.1 (by omega);cases h:f n with
  |false=>
   rw[selP_no h];refine⟨h1,h2,fun x o=>(h3 x o).trans ⟨fun⟨k,hk,r⟩=>⟨k,by omega,r⟩,fun⟨k,hk,r⟩=>?_⟩⟩;rcases Nat.lt_or_ge k n with c|c
   ·exact⟨k,c,r⟩
   ·obtain rfl:k=n:=by omega
    rw[h]at r;exact absurd r.1 (by simp)
  |true=>
   rw[selP_yes h];refine⟨snoc_good h1 hx,snoc_rising h1 h2 hx fun i hi=>?_,fun x o=>(snoc_has h1 hx).trans ⟨fun hh=>?_,fun⟨k,hk,r⟩=>?_⟩⟩
   ·obtain⟨k,hk,_,e,_⟩:=(h3 (idAt (selP f g n).ids i) _).1 ⟨i,hi,rfl,rfl⟩;rw[←e];exact rising_lt hr k n hk (by omega)
   ·rcases hh with hh|⟨e1,e2⟩
    ·obtain⟨k,hk,r⟩:=(h3 x o).1 hh;exact⟨k,by omega,r⟩
    ·exact⟨n,by omega,h,e1,e2⟩
   ·rcases Nat.lt_or_ge k n with c|c
    ·exact .inl ((h3 x o).2 ⟨k,c,r⟩)
    ·obtain rfl:k=n:=by omega
     exact .inr r.2
theorem selO_congr{f g:Nat→Bool}{ops:List OpV}:∀ {n:Nat},(∀i,i<n→f i=g i)→selO f ops n=selO g ops n
 |0,_=>rfl
 |n+1,h=>by unfold selO;rw[selO_congr fun i hi=>h i (by omega),h n (by omega)]
section
variable{g:PG}{n i:Nat}
theorem prt_sel(hg:g.good)(hr:Rising g.m g.ids):prtS g n i=selP (modF g n i) g g.m:=by
 obtain⟨_,_,h3⟩:=sel_all (f:=modF g n i) hg hr g.m (Nat.le_refl _);have e:∀k,k<g.m→parF g (numF (modF g n i) g.m) (selF (modF g n i) g.ids g.m) k=modF g n i k:=fun k hk=>by
  have hin:inS (numF (modF g n i) g.m) (selF (modF g n i) g.ids g.m) (idAt g.ids k)↔modF g n i k=true:=by
   refine(has_in (g:=selP (modF g n i) g g.m)).trans ⟨fun⟨o,ho⟩=>?_,fun h=>⟨_,(h3 _ _).2 ⟨k,hk,h,rfl,rfl⟩⟩⟩;obtain⟨j,_,hj,e,_⟩:=(h3 _ _).1 ho;unfold modF at hj⊢;rwa[e]at hj
  unfold parF;cases hm:modF g n i k with
  |true=>exact decide_eq_true (hin.2 hm)
  |false=>exact decide_eq_false fun h=>by rw[hin.1 h]at hm;cases hm
 unfold prtS parS selP;rw[numF_congr e,selF_congr e,selO_congr e]
theorem prt_all(hg:g.good)(hr:Rising g.m g.ids):(prtS g n i).good∧Rising (prtS g n i).m (prtS g n i).ids∧∀x o,(prtS g n i).has x o↔g.has x o∧x.getD 0 0 % (n:Int)=(i:Nat):=by
 rw[prt_sel hg hr];obtain⟨h1,h2,h3⟩:=sel_all (f:=modF g n i) hg hr g.m (Nat.le_refl _);refine⟨h1,h2,fun x o=>(h3 x o).trans ⟨fun⟨k,hk,hf,e1,e2⟩=>⟨⟨k,hk,e1,e2⟩,?_⟩,fun⟨⟨k,hk,e1,e2⟩,hm⟩=>⟨k,hk,?_,e1,e2⟩⟩⟩
 ·rw[←e1];exact of_decide_eq_true hf
 ·rw[←e1]at hm;exact decide_eq_true hm
end
theorem made_at{g:PG}{n i:Nat}(hi:i<n):(madeS g n).ps.getD i PG.nil=prtS g n i:=by
 rw[getD_at (by rw[made_len];exact hi)];unfold madeS;simp
theorem made_good{g:PG}{n:Nat}(hg:g.good)(hr:Rising g.m g.ids):goodPs (madeS g n).ps:=fun i hi=>by
 rw[made_len]at hi⊢;rw[made_at hi];obtain⟨h1,h2,h3⟩:=prt_all (n:=n) (i:=i) hg hr;exact⟨h1,h2,fun j hj=>((h3 _ _).1 ⟨j,hj,rfl,rfl⟩).2⟩
theorem made_mrg {g : PG} {n : Nat} (hg : g.good) (hr : Rising g.m g.ids) (hn : 0 < n) : Mrg (madeS g n).ps g := ⟨hg, hr, fun x o => Iff.trans ⟨fun h => by
  have h1 := Int.emod_nonneg (x.getD 0 0) (show (n : Int) ≠ 0 by omega)
  have h2 := Int.emod_lt_of_pos (x.getD 0 0) (show (0 : Int) < n by omega)
  have hi : (x.getD 0 0 % (n : Int)).toNat < n := by omega
  refine ⟨(x.getD 0 0 % (n : Int)).toNat, by rw [made_len]; exact hi, ?_⟩
  rw [made_at hi]
  exact ((prt_all hg hr).2.2 x o).2 ⟨h, by omega⟩, fun ⟨j, hj, h⟩ => by
  rw [made_len] at hj
  rw [made_at hj] at h
  exact (((prt_all hg hr).2.2 x o).1 h).1⟩ mem_parts.symm⟩
theorem prt_back{ps:List PG}{g:PG}(h:goodPs ps)(hm:Mrg ps g){i:Nat}(hi:i<ps.length):prtS g ps.length i=ps.getD i PG.nil:=by
 obtain⟨h1,h2,h3⟩:=prt_all (n:=ps.length) (i:=i) hm.good hm.rise;refine PG.ext_has h1 (h i hi).1 h2 (h i hi).2.1 fun x o=>(h3 x o).trans ⟨fun⟨a,b⟩=>?_,fun a=>⟨(hm.has x o).2 (mem_parts.2 ⟨i,hi,a⟩),?_⟩⟩
 ·obtain⟨j,hj,k⟩:=mem_parts.1 ((hm.has x o).1 a);obtain⟨q,hq,e1,e2⟩:=k;have:=(h j hj).2.2 q hq;rw[e1]at this;have:j=i:=by omega
  subst this;exact⟨q,hq,e1,e2⟩
 ·obtain⟨q,hq,e1,_⟩:=a;have:=(h i hi).2.2 q hq;rwa[e1]at this
theorem PG.ext3:∀ {a b:PG},a.m=b.m→a.ids=b.ids→a.ops=b.ops→a=b
 |⟨_,_,_⟩,⟨_,_,_⟩,rfl,rfl,rfl=>rfl
/-! ### when an index is one -/
def eqSh(a b:ShV):Prop:=a.ps.length=b.ps.length∧a.ver=b.ver∧a.hs=b.hs∧∀i,i<a.ps.length→(a.ps.getD i PG.nil).ids=(b.ps.getD i PG.nil).ids∧(a.ps.getD i PG.nil).ops=(b.ps.getD i PG.nil).ops
def okR(v:ShV):Prop:=(1≤v.ps.length∧v.ps.length≤4)∧chkP (whole v.ps)=0∧eqSh v (madeS (whole v.ps) v.ps.length)
def okP(v:ShV):Prop:=(1≤v.ps.length∧v.ps.length≤4)∧goodPs v.ps∧chkP (whole v.ps)=0∧v.ver=(whole v.ps).m∧v.hs=hdI (whole v.ps)
theorem whI_len{ps:List PG}{J:List Int}{n:Nat}(hJ:∀i,i<n→(idAt J i).length=32):∀i,i≤n→(whI ps J i).good
 |0,_=>nil_good
 |i+1,hi=>by
  have ih:=whI_len (ps:=ps) hJ i (by omega);have hx:=hJ i (by omega);rw[whI_succ];have:∀k,(whP ps (idAt J i) (whI ps J i) k).good:=fun k=>by
   induction k with
   |zero=>exact ih
   |succ k ihk=>
    by_cases h:hitS (ps.getD k PG.nil) (idAt J i)
    ·rw[whP_hit h];exact snoc_good ihk hx
    ·rw[whP_no h];exact ihk
  exact this _
theorem whole_good{ps:List PG}(hw:∀p∈ps,p.ids.length=32*p.m):(whole ps).good:=by
 have hl:=all_len hw ps.length (Nat.le_refl _);rw[List.take_length]at hl;obtain⟨h1,_,_⟩:=srt_good hl (allN ps) (Nat.le_refl _);exact whI_len (fun i hi=>idAt_len _ i _ h1 hi) _ (Nat.le_refl _)
theorem whP_ok{ps:List PG}{x:List Int}{g:PG}(hg:∀o∈g.ops,o.ok)(h:∀p∈ps,∀o∈p.ops,o.ok):∀k,∀o∈(whP ps x g k).ops,o.ok
 |0=>hg
 |k+1=>by
  by_cases c:hitS (ps.getD k PG.nil) x
  ·rw[whP_hit c];intro o ho;rcases List.mem_append.1 ho with a|a
   ·exact whP_ok hg h k o a
   ·rw[List.mem_singleton]at a;subst a;rcases Nat.lt_or_ge k ps.length with e|e
    ·refine h _ (List.getElem_mem e) _ ?_;rw[getD_at e,getD_at (by rw[getD_at e]at c;exact c.2)];exact List.getElem_mem _
    ·have e2:ps.getD k PG.nil=PG.nil:=by rw[List.getD_eq_getElem?_getD,List.getElem?_eq_none e];rfl
     rw[e2]at c;exact absurd c.1 (nil_in x)
  ·rw[whP_no c];exact whP_ok hg h k
theorem whI_ok{ps:List PG}{J:List Int}(h:∀p∈ps,∀o∈p.ops,o.ok):∀i,∀o∈(whI ps J i).ops,o.ok
 |0=>fun o ho=>by cases ho
 |i+1=>by rw[whI_succ];exact whP_ok (whI_ok h i) h _
theorem whole_ok{ps:List PG}(h:∀p∈ps,∀o∈p.ops,o.ok):∀o∈(whole ps).ops,o.ok:=whI_ok h _
theorem ok_iff{v:ShV}(hw:∀p∈v.ps,p.ids.length=32*p.m):okR v↔okP v:=by
 constructor
 ·rintro⟨hn,hc,h1,h2,h3,h4⟩;have hg:=whole_good hw;have hr:=((chkP_fine hg.1).1 hc).rising;have e:v.ps=(madeS (whole v.ps) v.ps.length).ps:=by
   apply List.ext_getElem h1;intro i hi hi';obtain⟨a,b⟩:=h4 i hi;have g2:=(made_good (n:=v.ps.length) hg hr i hi').1;rw[getD_at hi,getD_at hi']at a b;rw[getD_at hi']at g2;have hm:=hw _ (List.getElem_mem hi);have hm2:=g2.1;rw[a]at hm;have:(v.ps[i]).m=((madeS (whole v.ps) v.ps.length).ps[i]).m:=by omega
   exact PG.ext3 this a b
  have hgp:goodPs v.ps:=by rw[e];exact made_good hg hr
  exact⟨hn,hgp,hc,h2,h3⟩
 ·rintro⟨hn,hgp,hc,h2,h3⟩;refine⟨hn,hc,(made_len _ _).symm,h2,h3,fun i hi=>?_⟩;rw[made_at hi,prt_back hgp (whole_mrg hgp) hi];exact⟨rfl,rfl⟩
instance(a b:ShV):Decidable (eqSh a b):=by unfold eqSh;infer_instance
open Classical in
noncomputable def chkH(v:ShV):Int:=if okR v then 0 else 8
theorem chkH_0{v:ShV}(h:okR v):chkH v=0:=if_pos h
theorem chkH_8{v:ShV}(h:¬okR v):chkH v=8:=if_neg h
theorem prt_size(g:PG)(n i:Nat):(prtS g n i).m≤g.m∧(prtS g n i).ops.length≤g.m:=⟨numF_le _ _,by unfold prtS parS;dsimp only;rw[selO_len];exact numF_le _ _⟩
theorem chkH_iff{v:ShV}:chkH v=0↔okR v:=⟨fun h=>Classical.byContradiction fun k=>by rw[chkH_8 k]at h;exact absurd h (by decide),chkH_0⟩
open Classical in
noncomputable def alP(v:ShV):PG:=if okR v then whole v.ps else PG.nil
theorem al_0{v:ShV}(h:okR v):alP v=whole v.ps:=if_pos h
theorem al_8{v:ShV}(h:¬okR v):alP v=PG.nil:=if_neg h
def nwS(n:Int):ShV:=if 1≤n∧n≤4 then madeS PG.nil n.toNat else ShV.zero
def nwE(n:Int):Int:=if 1≤n∧n≤4 then 0 else 2
end S
namespace G
open Go.RowKit
section
end
section
variable{S0:Nat→Prop}{w0:World}{L Lq:List Ent}{P:Program}{l:List Value}{l0:List Oper}{K:List Value→World→Prop}
class SubL(E L:List Ent):Prop where
 h:E.Sublist L
instance SubL.nil{L:List Ent}:SubL [] L:=⟨List.nil_sublist _⟩
instance(priority:=low) SubL.skip{E L:List Ent}{x:Ent}[s:SubL E L]:SubL E (x::L):=⟨.cons _ s.h⟩
instance SubL.take{E L:List Ent}{x:Ent}[s:SubL E L]:SubL (x::E) (x::L):=⟨.cons_cons _ s.h⟩
def bs(k n:Nat):Array Bool:=((List.range k).map fun i=>n.testBit i).toArray
theorem J.wst{A:Type}(M:A→List (Nat×Value))(Jk:List Nat)(Lp:A→List Ent)(I:A→Prop)(n:Nat)(li:Array Bool){l':A→(Nat→Value)→List Value}{n0:Nat}{li0:Array Bool}
  (h:∀p j,I p→J S0 w0 (Lp p) (WX S0 w0 Lq P l0 K n li (l' p j)))
  (k:(∀(p:A) (le:List Value) (L':List Ent) (li':Array Bool),slotsOk le (M p)→upd (upd l (M p)) (junk Jk (fun s=>le.getD s undef))=le→li'=li→I p→SubL (Lp p) L'→J S0 w0 L' (WX S0 w0 Lq P l0 K n li' le))→J S0 w0 L (WX S0 w0 Lq P l0 K n0 li0 l))
  (hl:∀p j,upd (upd l (M p)) (junk Jk j)=l' p j:=by intro p j;simp only[upd,junk,List.map_cons,List.map_nil,List.set_cons_succ,List.set_cons_zero];exact rfl):J S0 w0 L (WX S0 w0 Lq P l0 K n0 li0 l):=
 k fun p le L' li' _ he hli hi hs w' Mm=>by
  subst hli;have:=h p (fun s=>le.getD s undef) hi w' (Mm.sub hs.h);rw[←hl,he]at this;exact this
end
section
variable{P:Program}{ev:Operand→Value}{w:World}{x y:Operand}{a b:Int}{k:IntKind}{d:Option Tmp}{ty:TypeId}{pos:String}{af:Array Edge}{g:Option (Nat×Bool)}
theorem D.min2(hx:ev x= .int k a)(hy:ev y= .int k b){ts:Array TypeId}:
  (execOp ev ⟨d, .call {callee:= .builtin .min,args:= #[x,y],argTypes:=ts},ty,pos,af,g⟩).run P w= .ok (.value (.int k (if b<a then b else a))) w:=by
 simp[execOp,resolve,hx,hy,invoke,builtin,Builtin.min_,Builtin.min2]
end
section
variable{S0:Nat→Prop}{w0:World}{L:List Ent}{P:Program}{ops:Array Oper}{K:List Value→World→Prop}{rest:List (Oper×Kd)}{l l':List Value}{m:Md}{d:Tmp}{ty:TypeId}{pos:String}{af:Array Edge}{kd:Kd}{x y:Operand}{k:IntKind}{p q r:Int}
theorem J.mn{ts:Array TypeId}(hk:pureK kd=true)(hx:ev l x= .int k p)(hy:ev l y= .int k q)(kk:J S0 w0 L (RY S0 w0 m P ops K rest l'))(hr:(if q<p then q else p)=r:=by rfl)(hl:l.set d (.int k r)=l':=by dsimp only[List.set]):J S0 w0 L (RY S0 w0 m P ops K ((⟨some d, .call {callee:= .builtin .min,args:= #[x,y],argTypes:=ts},ty,pos,af,none⟩,kd)::rest) l):=
 J.pur hk (fun _=>by subst hr;exact D.min2 hx hy) kk hl
end
def cgB:List (Oper×Kd)→Bool
 |[]=>true
 |(_, .c)::r=>cgB r
 |(_, .g)::r=>cgB r
 |_=>false
theorem rx_irrel{P:Program}{ops:Array Oper}{R R':World→World→Prop}{K:List Value→World→Prop}:∀(pl:List (Oper×Kd)) (l:List Value) (w:World),cgB pl=true→RX P ops R K pl l w→RX P ops R' K pl l w
 |[],_,_,_,h=>h
 |(o, .q)::_,_,_,hk,_=>by cases hk
 |(o, .e)::_,_,_,hk,_=>by cases hk
 |(o, .c)::r,l,w,hk,h=>by
  simp only[RX]at h⊢;split at h
  ·rename_i hw;rw[if_pos hw];obtain⟨v,h1,h2⟩:=h;exact⟨v,h1,rx_irrel r _ _ hk h2⟩
  ·rename_i hw;rw[if_neg hw];exact rx_irrel r _ _ hk h
 |(o, .g)::r,l,w,hk,h=>by
  simp only[RX]at h⊢;split at h
  ·rename_i hw;rw[if_pos hw];unfold Oper.wp at*;refine upon_mono ?_ (fun _ _ _ h=>h) h;rintro a w' ⟨l',rfl,h⟩;exact⟨l',rfl,rx_irrel r _ _ hk h⟩
  ·rename_i hw;rw[if_neg hw];exact rx_irrel r _ _ hk h
def WG(S0:Nat→Prop)(w0:World)(Lq:List Ent)(bg fl:List Nat)(P:Program)(l0:List Oper)(K:List Value→World→Prop)(n:Nat)(li:Array Bool)(l:List Value)(w:World):Prop:=
 Closed l0.toArray li→wpX P l0.toArray (MR S0 w0 Lq) bg (fun a w=>∃l,a=fr l∧K l w) n li (fr l) w
def BG(S0:Nat→Prop)(w0:World)(Lq:List Ent)(bg fl:List Nat)(P:Program)(l0:List Oper)(K:List Value→World→Prop)(n:Nat)(li:Array Bool):List Nat→List Value→World→Prop
 |[],_,_=>True
 |i::rd,l,w=>RX P l0.toArray (MR S0 w0 Lq) (WG S0 w0 Lq bg fl P l0 K n (li.setIfInBounds i true)) [(nth l0 i, .e)] l w∧BG S0 w0 Lq bg fl P l0 K n li rd l w
def bgB(ops:Array Oper)(bg fl:List Nat):Bool:=bg.all fun j=>bigB ops fl j
theorem bgB_spec{ops:Array Oper}{bg fl:List Nat}(h:bgB ops bg fl=true):∀j∈bg,∀listed,Closed ops listed→j∈Region.ready .any ops listed→∀k∈Region.ready .any ops listed,k=j∨k∈fl:=by
 unfold bgB at h;rw[List.all_eq_true]at h;exact fun j hj listed hcl hr=>bigB_spec (h j hj) listed hcl hr
section
variable{S0:Nat→Prop}{w0:World}{L Lq:List Ent}{bg fl:List Nat}{P:Program}{Q:Exit→Act→World→Prop}{l:List Value}{id n n':Nat}{l0:List Oper}{K:List Value→World→Prop}{li:Array Bool}{rd:List Nat}{ops:Array Oper}
theorem J.sw{pl:List (Oper×Kd)}(hk:cgB pl=true)(h:J S0 w0 L (RY S0 w0 .x P ops K pl l)):J S0 w0 L (RY S0 w0 (.r Lq) P ops K pl l):=fun w M _=>rx_irrel (R:=Ext) pl l w hk (h w M)
theorem BG.get{k:Nat}{w:World}:∀ {rd:List Nat},BG S0 w0 Lq bg fl P l0 K n li rd l w→k∈rd→RX P l0.toArray (MR S0 w0 Lq) (WG S0 w0 Lq bg fl P l0 K n (li.setIfInBounds k true)) [(nth l0 k, .e)] l w
 |_::_,h, .head _=>h.1
 |_::_,h, .tail _ hk=>BG.get h.2 hk
theorem J.regionG(Lq:List Ent)(bg fl:List Nat)(hm:P.follows .mixedOrders=true)(h:J S0 w0 L (WG S0 w0 Lq bg fl P l0 (KN Q) l0.length (Array.replicate l0.length false) l)):J S0 w0 L ((Code.region id l0.toArray true).wp P Q (fr l)):=fun w M=>by
 refine wp_region_any hm ?_;have:=h {w with drawn:=w.drawn+1} (M.grow ((Below.refl _ _).drew)) (by intro k ok _ h;exfalso;simp[Array.getElem?_replicate]at h;split at h<;>simp at h);have h2:=wpAny_of_X (Q':=Q) (R:=MR S0 w0 Lq) (fun a w h=>by obtain⟨l,rfl,h⟩:=h;exact h) l0.length (Array.replicate l0.length false) (fr l) _ this;simpa using h2
theorem J.gnode{pl':List (Oper×Kd)}(pl:List (Nat×Kd))(rd:List Nat)(n':Nat)(li':Array Bool)
  (hB:(Region.noSelect l0.toArray&&(bgB l0.toArray bg fl&&(noG pl&&(Nat.beq (n'+1+pl.length) n&&(!rd.isEmpty&&planB l0.toArray fl (fun s=>(Region.ready .any l0.toArray s==rd)&&(s.toList==li'.toList&&rd.all fun i=> !bg.any (Nat.beq i))) pl li)))))=true)
  (h:J S0 w0 L (RY S0 w0 (.r Lq) P l0.toArray (BG S0 w0 Lq bg fl P l0 K n' li' rd) pl' l))(hs:Lq.Sublist L:=by repeat(first|exact List.Sublist.refl _|refine List.Sublist.cons_cons _ ?_|refine List.Sublist.cons _ ?_))(hp:pick l0 pl=pl':=by dsimp only[pick,nth]):J S0 w0 L (WG S0 w0 Lq bg fl P l0 K n li l):=fun w M hcl=>by
 simp only[Bool.and_eq_true]at hB;obtain⟨hns,hbg,hn,hz,hr0,hB⟩:=hB;have hz:=Nat.eq_of_beq_eq_true hz;subst hz;subst hp;have h1:RX P l0.toArray (MR S0 w0 Lq) (BG S0 w0 Lq bg fl P l0 K n' li' rd) (pick l0 pl) l w:=h w M (M.sub hs);refine rx_list (n:=n'+1) (bg:=bg) (fl:=fl) ?_ (fun _ h=>h) (fun h k x=>k (h x)) hns (bgB_spec hbg) pl li l w hcl (fun i hi=>by cases (noG_g hn).1 i hi) (fun i hi=>by cases (noG_g hn).2 i hi) hB h1;intro listed l w hcl he hk;simp only[Bool.and_eq_true,beq_iff_eq]at he;obtain⟨hr,hl,_⟩:=he;obtain rfl:listed=li':=Array.ext' hl;refine⟨fun h0=>by rw[h0]at hr;subst hr;simp at hr0,fun k hm=>?_⟩;have hk2:=BG.get hk (hr▸hm);have hlt:k<l0.length:=by
  obtain⟨_,o,ho,_⟩:=mem_ready.1 hm;simpa using(Array.getElem?_eq_some_iff.1 ho).1
 have hi:l0.toArray[k]? =some (nth l0 k):=by simpa using nth_get l0 k hlt
 unfold xOp;simp only[hi];simp only[RX]at hk2;split
 ·rename_i hw;rw[if_pos (by exact hw)]at hk2;unfold Oper.wp at*;refine upon_mono ?_ (fun _ _ _ h=>h) hk2;rintro a w' ⟨l',rfl,hR,h⟩;exact⟨fun _=>hR,h (hcl.set hm)⟩
 ·rename_i hw;rw[if_neg (by exact hw)]at hk2;rw[put_fr];exact⟨fun _=>fun h=>h,hk2 (hcl.set hm)⟩
theorem J.gfin{pl':List (Oper×Kd)}(pl:List (Nat×Kd))
  (hB:(Region.noSelect l0.toArray&&(bgB l0.toArray bg fl&&(((G.bigs pl).all (fun i=>bg.contains i)&&(G.frees pl).all (fun i=>fl.contains i))&&(Nat.beq pl.length n&&planB l0.toArray fl (endB l0.toArray) pl li))))=true)
  (h:J S0 w0 L (RY S0 w0 (.r Lq) P l0.toArray K pl' l))(hs:Lq.Sublist L:=by repeat(first|exact List.Sublist.refl _|refine List.Sublist.cons_cons _ ?_|refine List.Sublist.cons _ ?_))(hp:pick l0 pl=pl':=by dsimp only[pick,nth]):J S0 w0 L (WG S0 w0 Lq bg fl P l0 K n li l):=fun w M hcl=>by
 simp only[Bool.and_eq_true]at hB;obtain⟨hns,hbg,⟨hg,hf⟩,hz,hB⟩:=hB;have hz:=Nat.eq_of_beq_eq_true hz;subst hz;subst hp;have h1:RX P l0.toArray (MR S0 w0 Lq) K (pick l0 pl) l w:=h w M (M.sub hs);rw[List.all_eq_true]at hg hf;have:=rx_list (bg:=bg) (fl:=fl) (n:=0) (en:=endB l0.toArray) (Qx:=fun a w=>∃l,a=fr l∧K l w) (fun listed l w _ he hk=>⟨by simpa [endB]using he,l,rfl,hk⟩) (fun _ h=>h) (fun h k x=>k (h x)) hns (bgB_spec hbg) pl li l w hcl (fun i hi=>by simpa using hg i ((mem_bigs pl i).1 hi)) (fun i hi=>by simpa using hf i (mem_frees pl i hi)) hB h1;rwa[Nat.zero_add]at this
theorem J.gbr{i:Nat}{oi:Oper}(h1:J S0 w0 L (RY S0 w0 (.r Lq) P l0.toArray (WG S0 w0 Lq bg fl P l0 K n (li.setIfInBounds i true)) [(oi, .e)] l))(h2:J S0 w0 L (BG S0 w0 Lq bg fl P l0 K n li rd l))
  (hs:Lq.Sublist L:=by repeat(first|exact List.Sublist.refl _|refine List.Sublist.cons_cons _ ?_|refine List.Sublist.cons _ ?_))(hi:nth l0 i=oi:=by dsimp only[nth]):J S0 w0 L (BG S0 w0 Lq bg fl P l0 K n li (i::rd) l):=fun w M=>by
 subst hi;exact⟨h1 w M (M.sub hs),h2 w M⟩
theorem J.gbr0:J S0 w0 L (BG S0 w0 Lq bg fl P l0 K n li [] l):=fun _ _=>trivial
end
end G
namespace W
open Go.RowKit G
set_option maxRecDepth 20000
set_option maxHeartbeats 8000000
attribute [local irreducible] RS RX RY Code.wp bodyPost J Ent.blk Ent.irow Ent.iown Ent.wrow Ent.wown Ent.gown Ent.all Ent.emp
instance:Ents prog 203:=⟨.mk func203 (by kernel_rfl) rfl⟩
structure WhA where
 (i n:Nat)(a:Option Addr)(c:Nat)(oa:Option Addr)(oc:Nat)(zs:List OpA)
theorem gsAt{gs:List GrA}{g:GrA}{i:Nat}(h:gs[i]? =some g):(gs.map GrA.P).getD i S.PG.nil=g.P:=by
 rw[List.getD_eq_getElem?_getD,List.getElem?_map,h];rfl
theorem ShR.ml{S0:Nat→Prop}{w:World}{s:ShA}(h:ShR S0 w s):∀p∈s.gs.map GrA.P,p.ids.length=32*p.m:=fun p hp=>by
 obtain⟨g,hg,rfl⟩:=List.mem_map.1 hp;exact(h.gi g hg).ids.len
theorem ShR.le{S0:Nat→Prop}{w:World}{s:ShA}(h:ShR S0 w s)(hL:ShL s)(hn:s.pn≤4):(S.whole s.V.ps).m≤64:=by
 have h1:=S.whole_le (ps:=s.V.ps) h.ml;have h2:=hL hn;omega
theorem refWhole{S0:Nat→Prop}(s:ShA)(w:World)(H:ShR S0 w s)(hL:ShL s)(hn:s.pn≤4):
  Calls prog 109 #[.agg (shC s).toArray] w (Gv w (fun q:GrA=> .agg (grC q).toArray) (grE 24 37) (GrP (S.whole s.V.ps).m (S.whole s.V.ps).ids (S.whole s.V.ps).ops)):=by
 have P0:=H.pr;have hl:=P0.len;have hcp:=H.cap;obtain⟨V,hV⟩:=ex (s.gs.map GrA.P);have hVl:V.length=s.pn:=by rw[hV,List.length_map,hl]
 have hVm:∀k,k≤s.pn→S.allN (V.take k)≤64:=fun k hk=>Nat.le_trans (S.allN_mono V (by omega)) (hV▸hL hn);have h7:=H.le hL hn;refine J.enter 87 func109 rfl rfl ?_;refine run ?_;refine J.box rfl rfl rfl fun b1=>?_
 refine J.alloc rfl fun b2=>?_
 refine run ?_;refine J.nilWo 24 .u8 32 ?_;refine J.loop (A:=NmA) (fun k=>[(3, .slice k.a k.n k.c),(4, .int .i64 (k.i:Nat))]) [9,10,11,12,13,14,15,16,17,18,19,20,21,22,23] (fun k=>[.wown 24 .u8 32 k.a k.n k.c (S.allI' (V.take k.i)), .blk b2 [.slice none 0 0, .slice none 0 0] 43, .blk b1 (shC s) 53]) (fun k=>k.i≤s.pn∧k.n=S.allN (V.take k.i)) (fun k=>s.pn - k.i) ⟨0,0,none,0⟩ (by kernel_rfl) ⟨Nat.zero_le _,rfl⟩ (fun k j2 hI=>?_);obtain⟨hk,hkn⟩:=hI;have hkm:=hVm k.i hk;refine run ?_;refine J.ifd rfl (fun c1=>?_) (fun c1=>?_)
 ·obtain⟨g,hg⟩:=P0.ex (i:=(k.i:Nat)) (by omega);have hg':=hg;rw[Int.toNat_natCast]at hg';have G:=H.g hg';have D0:=G.ids;have hcp2:=G.cap;have hgP:=gsAt hg';rw[←hV]at hgP;have e2:=S.all_take V (k:=k.i) (by omega);rw[hgP]at e2;refine run ?_;refine J.apW rfl rfl (RW.arg D0) fun a' c'=>?_
  refine run ?_;rw[←e2.2];exact J.next ⟨k.i+1,k.n+g.m,a',c'⟩ ⟨rfl,rfl,trivial⟩ (by kernel_rfl) ⟨by dsimp only;omega,by dsimp only;rw[e2.1,hkn]⟩ (by dsimp only;omega)
 obtain⟨ki,kn,ka,kc⟩:=k;dsimp only at hk hkn hkm c1⊢;obtain rfl:ki=s.pn:=by omega
 rw[List.take_of_length_le (by omega)]at hkn hkm⊢;refine J.fact (.wown 24 .u8 32 ka kn kc (S.allI' V)) (fun _ _ h=>(wown_len h).2) fun hc1=>?_
 refine run ?_;refine J.call rfl rfl (fun w' M=>(RW.own' (a:=ka) w' M).elim fun _ k0=>refSorted ka kn kc _ w' k0 hc1 (by omega)) fun q hq=>?_
 obtain⟨qa,qn,qc⟩:=q;dsimp only at hq⊢;have hqle:=S.srtS_le (S.allI' V) kn;obtain⟨J0,hJ0⟩:=ex (S.srtS (S.allI' V) kn).2;rw[←hJ0];refine J.fact (.wown 24 .u8 32 qa qn qc J0) (fun _ _ h=>(fun i hi=>(wown_row h).elt_arr hi:∀i,i<qn→Arr .u8 32 (elt 32 J0 i))) fun hJA=>?_
 refine run ?_;refine J.alloc rfl fun b5=>?_
 refine run ?_;refine J.nilWo 24 .u8 32 ?_;refine J.re (.wown 24 .u8 32 none 0 0 []) (.wown 24 .u8 32 none 0 0 (S.whI V J0 0).ids) (fun _ _ h=>h) ?_;refine J.nilG opC 11 37 opC_len ?_;refine J.drop (E:=[.gown opC 11 37 none 0 0 [], .wown 24 .u8 32 none 0 0 (S.whI V J0 0).ids, .blk b5 [.slice none 0 0, .slice none 0 0] 43, .wown 24 .u8 32 qa qn qc J0, .blk b2 [.slice none 0 0, .slice none 0 0] 43, .blk b1 (shC s) 53]) sb ?_;refine J.loop (A:=WhA) (fun p=>[(6, .int .i64 (p.i:Nat))]) [7,8,26,27,28,29,30,31,32,33,34,35,36,37,38,39,40,41,42,43,44,45,46,47,48,49,50,51,52,53,54,55,56,57,58,59,60,61,62,63,64,65,66,67,68,69,70,71,72,73,74,75,76,77,78,79,80,81,82,83,84,85] (fun p=>[.gown opC 11 37 p.oa p.n p.oc p.zs, .wown 24 .u8 32 p.a p.n p.c (S.whI V J0 p.i).ids, .blk b5 [.slice p.a p.n p.c, .slice p.oa p.n p.oc] 43, .wown 24 .u8 32 qa qn qc J0, .blk b2 [.slice none 0 0, .slice none 0 0] 43, .blk b1 (shC s) 53]) (fun p=>p.i≤qn∧p.n=(S.whI V J0 p.i).m∧p.zs.map OpA.o=(S.whI V J0 p.i).ops∧∀z∈p.zs,∃g∈s.gs,z∈g.zs) (fun p=>qn - p.i) ⟨0,0,none,0,none,0,[]⟩ (by kernel_rfl) ⟨Nat.zero_le _,rfl,rfl,fun z hz=>by cases hz⟩ (fun p j3 hI=>?_);obtain⟨hp,hpn,hpz,hpm⟩:=hI;have hpb:=S.whI_le V J0 p.i;have hpb2:p.i*V.length≤80*4:=Nat.mul_le_mul (by omega) (by omega);refine run ?_;refine J.ifd rfl (fun c2=>?_) (fun c2=>?_)
 ·have hA:=hJA p.i (by omega);refine run ?_;refine J.loop (A:=WhA) (fun k=>[(7, .int .i64 (k.i:Nat))]) [8,32,33,34,35,36,37,38,39,40,41,42,43,44,45,46,47,48,49,50,51,52,53,54,55,56,57,58,59,60,61,62,63,64,65,66,67,68,69,70,71,72,73,74,75,76,77,78,79,80,81,82,83,84,85] (fun k=>[.gown opC 11 37 k.oa k.n k.oc k.zs, .wown 24 .u8 32 k.a k.n k.c (S.whP V (S.idAt J0 p.i) (S.whI V J0 p.i) k.i).ids, .blk b5 [.slice k.a k.n k.c, .slice k.oa k.n k.oc] 43, .wown 24 .u8 32 qa qn qc J0, .blk b2 [.slice none 0 0, .slice none 0 0] 43, .blk b1 (shC s) 53]) (fun k=>k.i≤s.pn∧k.n=(S.whP V (S.idAt J0 p.i) (S.whI V J0 p.i) k.i).m∧k.zs.map OpA.o=(S.whP V (S.idAt J0 p.i) (S.whI V J0 p.i) k.i).ops∧∀z∈k.zs,∃g∈s.gs,z∈g.zs) (fun k=>s.pn - k.i) ⟨0,p.n,p.a,p.c,p.oa,p.oc,p.zs⟩ (by kernel_rfl) ⟨Nat.zero_le _,hpn,hpz,hpm⟩ (fun k j4 hI=>?_);obtain⟨hk,hkn,hkz,hkm⟩:=hI;have hkb:=S.whP_le V (S.idAt J0 p.i) (S.whI V J0 p.i) k.i;refine run ?_;refine J.ifd rfl (fun c3=>?_) (fun c3=>?_)
  ·obtain⟨g,hg⟩:=P0.ex (i:=(k.i:Nat)) (by omega);have hg':=hg;rw[Int.toNat_natCast]at hg';have G:=H.g hg';have D0:=G.ids;have O0:=G.ops;have hcp2:=G.cap;have hgl:=G.len;have hgP:=gsAt hg';rw[←hV]at hgP;refine run ?_;refine J.regionX [(0, .q),(1, .q),(2, .q),(3, .q),(4, .q),(5, .q),(6, .q),(7, .q),(8, .q),(9, .q),(10, .e),(11, .q)] mixed (by kernel_rfl) ?_;refine run ?_;rw[Int.toNat_natCast p.i];refine J.callp rfl rfl (fun w' M=>refAt g.ia g.m g.ic g.ids _ w' (D0.ext M.ext) hA (by omega)) ?_;refine run ?_;refine J.spd rfl rfl rfl (fun c4=>?_) (fun c4=>?_)
   ·have hat:=S.at_val (show 0≤S.atS g.m g.ids (elt 32 J0 p.i)by omega);refine run ?_;refine J.ifd rfl (fun c5=>?_) (fun c5=>?_)
    ·have hit:S.hitS (V.getD k.i S.PG.nil) (S.idAt J0 p.i):=by rw[hgP];exact S.hit_at.2 ⟨c4,by show _<((g.ops.length:Nat):Int);rw[hgl];exact c5⟩
     have e1:=S.whP_hit (g:=S.whI V J0 p.i) hit;rw[hgP]at e1;rw[hat];have hix:S.ixS g.m g.ids (elt 32 J0 p.i)<g.n:=by omega
     obtain⟨z,hz⟩:=O0.ex (i:=(S.ixS g.m g.ids (elt 32 J0 p.i):Nat)) (by omega);have hz':=hz;rw[Int.toNat_natCast]at hz';have hzo:=GrA.opAt hz';refine J.regionG [.blk b5 [.slice k.a k.n k.c, .slice k.oa k.n k.oc] 43, .wown 24 .u8 32 qa qn qc J0, .blk b1 (shC s) 53] [22,24] [23] mixed ?_;refine J.gnode [(0, .q),(1, .q),(2, .q),(3, .q),(4, .q),(5, .q),(8, .q),(9, .q),(10, .q),(11, .q),(12, .q),(13, .q),(14, .q),(15, .q),(16, .q),(17, .q),(18, .q)] [6,19] 7 #[true,true,true,true,true,true,false,false,true,true,true,true,true,true,true,true,true,true,true,false,false,false,false,false,false] (by kernel_rfl) ?_;refine run ?_;refine J.nil ?_;refine J.gbr ?_ ?_
     ·rw[Int.toNat_natCast p.i];refine J.b1W rfl rfl hA fun bb=>?_
      refine J.nil ?_;refine J.gnode [] [7,19] 6 #[true,true,true,true,true,true,true,false,true,true,true,true,true,true,true,true,true,true,true,false,false,false,false,false,false] (by kernel_rfl) ?_;refine run ?_;refine J.nil ?_;refine J.gbr ?_ ?_
      ·refine J.apW rfl rfl RW.own' fun a' c'=>?_
       refine J.nil ?_;refine J.gfin [(21, .q),(19, .e),(20, .e),(22, .g),(23, .c),(24, .g)] (by kernel_rfl) ?_;refine run ?_;refine J.b1G opC z opC_len rfl rfl rfl fun bc=>?_
       refine run ?_;refine J.apG rfl rfl RG.own' opC_one fun oa' oc'=>?_
       refine J.sw rfl ?_;refine run ?_;refine J.front (.blk b5 [.slice a' (k.n+1) c', .slice oa' (k.n+1) oc'] 43) ?_;refine J.front (.wown 24 .u8 32 a' (k.n+1) c' ((S.whP V (S.idAt J0 p.i) (S.whI V J0 p.i) k.i).ids++elt 32 J0 p.i)) ?_;refine J.front (.gown opC 11 37 oa' (k.n+1) oc' (k.zs++[z])) ?_;refine J.re (.wown 24 .u8 32 a' (k.n+1) c' ((S.whP V (S.idAt J0 p.i) (S.whI V J0 p.i) k.i).ids++elt 32 J0 p.i)) (.wown 24 .u8 32 a' (k.n+1) c' (S.whP V (S.idAt J0 p.i) (S.whI V J0 p.i) (k.i+1)).ids) (fun _ _ h=>by rw[e1];exact h) ?_;refine run ?_;refine J.drop (E:=[.gown opC 11 37 oa' (k.n+1) oc' (k.zs++[z]), .wown 24 .u8 32 a' (k.n+1) c' (S.whP V (S.idAt J0 p.i) (S.whI V J0 p.i) (k.i+1)).ids, .blk b5 [.slice a' (k.n+1) c', .slice oa' (k.n+1) oc'] 43, .wown 24 .u8 32 qa qn qc J0, .blk b2 [.slice none 0 0, .slice none 0 0] 43, .blk b1 (shC s) 53]) sb ?_
       exact J.next ⟨k.i + 1, k.n + 1, a', c', oa', oc', k.zs ++ [z]⟩ ⟨rfl, trivial⟩ (by kernel_rfl) ⟨by dsimp only; omega, by rw [e1, ← hkn], by rw [e1, List.map_append, hkz]; dsimp only; rw [show g.P.ops.getD (S.ixS g.P.m g.P.ids (S.idAt J0 p.i)) S.OpV.zero = z.o from hzo]; rfl, fun y hy => by
        rcases List.mem_append.1 hy with h | h
        ·exact hkm y h
        rw [List.mem_singleton] at h; subst h; exact ⟨g, List.mem_of_getElem? hg', List.mem_of_getElem? hz'⟩⟩ (by dsimp only; omega)
      refine J.gbr ?_ ?_
      ·refine J.b1G opC z opC_len rfl rfl rfl fun bc=>?_
       refine J.nil ?_;refine J.gfin [(7, .e),(21, .q),(20, .e),(22, .g),(23, .c),(24, .g)] (by kernel_rfl) ?_;refine run ?_;refine J.apW rfl rfl RW.own' fun a' c'=>?_
       refine run ?_;refine J.apG rfl rfl RG.own' opC_one fun oa' oc'=>?_
       refine J.sw rfl ?_;refine run ?_;refine J.front (.blk b5 [.slice a' (k.n+1) c', .slice oa' (k.n+1) oc'] 43) ?_;refine J.front (.wown 24 .u8 32 a' (k.n+1) c' ((S.whP V (S.idAt J0 p.i) (S.whI V J0 p.i) k.i).ids++elt 32 J0 p.i)) ?_;refine J.front (.gown opC 11 37 oa' (k.n+1) oc' (k.zs++[z])) ?_;refine J.re (.wown 24 .u8 32 a' (k.n+1) c' ((S.whP V (S.idAt J0 p.i) (S.whI V J0 p.i) k.i).ids++elt 32 J0 p.i)) (.wown 24 .u8 32 a' (k.n+1) c' (S.whP V (S.idAt J0 p.i) (S.whI V J0 p.i) (k.i+1)).ids) (fun _ _ h=>by rw[e1];exact h) ?_;refine run ?_;refine J.drop (E:=[.gown opC 11 37 oa' (k.n+1) oc' (k.zs++[z]), .wown 24 .u8 32 a' (k.n+1) c' (S.whP V (S.idAt J0 p.i) (S.whI V J0 p.i) (k.i+1)).ids, .blk b5 [.slice a' (k.n+1) c', .slice oa' (k.n+1) oc'] 43, .wown 24 .u8 32 qa qn qc J0, .blk b2 [.slice none 0 0, .slice none 0 0] 43, .blk b1 (shC s) 53]) sb ?_
       exact J.next ⟨k.i + 1, k.n + 1, a', c', oa', oc', k.zs ++ [z]⟩ ⟨rfl, trivial⟩ (by kernel_rfl) ⟨by dsimp only; omega, by rw [e1, ← hkn], by rw [e1, List.map_append, hkz]; dsimp only; rw [show g.P.ops.getD (S.ixS g.P.m g.P.ids (S.idAt J0 p.i)) S.OpV.zero = z.o from hzo]; rfl, fun y hy => by
        rcases List.mem_append.1 hy with h | h
        ·exact hkm y h
        rw [List.mem_singleton] at h; subst h; exact ⟨g, List.mem_of_getElem? hg', List.mem_of_getElem? hz'⟩⟩ (by dsimp only; omega)
      exact J.gbr0
     refine J.gbr ?_ ?_
     ·refine J.b1G opC z opC_len rfl rfl rfl fun bc=>?_
      refine J.nil ?_;refine J.gfin [(6, .e),(7, .e),(21, .q),(20, .e),(22, .g),(23, .c),(24, .g)] (by kernel_rfl) ?_;refine run ?_;rw[Int.toNat_natCast p.i];refine J.b1W rfl rfl hA fun bb=>?_
      refine run ?_;refine J.apW rfl rfl RW.own' fun a' c'=>?_
      refine run ?_;refine J.apG rfl rfl RG.own' opC_one fun oa' oc'=>?_
      refine J.sw rfl ?_;refine run ?_;refine J.front (.blk b5 [.slice a' (k.n+1) c', .slice oa' (k.n+1) oc'] 43) ?_;refine J.front (.wown 24 .u8 32 a' (k.n+1) c' ((S.whP V (S.idAt J0 p.i) (S.whI V J0 p.i) k.i).ids++elt 32 J0 p.i)) ?_;refine J.front (.gown opC 11 37 oa' (k.n+1) oc' (k.zs++[z])) ?_;refine J.re (.wown 24 .u8 32 a' (k.n+1) c' ((S.whP V (S.idAt J0 p.i) (S.whI V J0 p.i) k.i).ids++elt 32 J0 p.i)) (.wown 24 .u8 32 a' (k.n+1) c' (S.whP V (S.idAt J0 p.i) (S.whI V J0 p.i) (k.i+1)).ids) (fun _ _ h=>by rw[e1];exact h) ?_;refine run ?_;refine J.drop (E:=[.gown opC 11 37 oa' (k.n+1) oc' (k.zs++[z]), .wown 24 .u8 32 a' (k.n+1) c' (S.whP V (S.idAt J0 p.i) (S.whI V J0 p.i) (k.i+1)).ids, .blk b5 [.slice a' (k.n+1) c', .slice oa' (k.n+1) oc'] 43, .wown 24 .u8 32 qa qn qc J0, .blk b2 [.slice none 0 0, .slice none 0 0] 43, .blk b1 (shC s) 53]) sb ?_
      exact J.next ⟨k.i + 1, k.n + 1, a', c', oa', oc', k.zs ++ [z]⟩ ⟨rfl, trivial⟩ (by kernel_rfl) ⟨by dsimp only; omega, by rw [e1, ← hkn], by rw [e1, List.map_append, hkz]; dsimp only; rw [show g.P.ops.getD (S.ixS g.P.m g.P.ids (S.idAt J0 p.i)) S.OpV.zero = z.o from hzo]; rfl, fun y hy => by
       rcases List.mem_append.1 hy with h | h
       ·exact hkm y h
       rw [List.mem_singleton] at h; subst h; exact ⟨g, List.mem_of_getElem? hg', List.mem_of_getElem? hz'⟩⟩ (by dsimp only; omega)
     exact J.gbr0
    have e1:=S.whP_no (ps:=V) (x:=S.idAt J0 p.i) (g:=S.whI V J0 p.i) (k:=k.i) (by rw[hgP];exact fun h=>c5 (by have:=(S.hit_at.1 h).2;rw[←hgl];exact this));refine run ?_;refine J.re (.wown 24 .u8 32 k.a k.n k.c (S.whP V (S.idAt J0 p.i) (S.whI V J0 p.i) k.i).ids) (.wown 24 .u8 32 k.a k.n k.c (S.whP V (S.idAt J0 p.i) (S.whI V J0 p.i) (k.i+1)).ids) (fun _ _ h=>by rw[e1];exact h) ?_;exact J.next ⟨k.i+1,k.n,k.a,k.c,k.oa,k.oc,k.zs⟩ ⟨rfl,trivial⟩ (by kernel_rfl) ⟨by dsimp only;omega,by rw[e1];exact hkn,by rw[e1];exact hkz,hkm⟩ (by dsimp only;omega)
   have e1:=S.whP_no (ps:=V) (x:=S.idAt J0 p.i) (g:=S.whI V J0 p.i) (k:=k.i) (by rw[hgP];exact fun h=>c4 (S.hit_at.1 h).1);refine run ?_;refine J.re (.wown 24 .u8 32 k.a k.n k.c (S.whP V (S.idAt J0 p.i) (S.whI V J0 p.i) k.i).ids) (.wown 24 .u8 32 k.a k.n k.c (S.whP V (S.idAt J0 p.i) (S.whI V J0 p.i) (k.i+1)).ids) (fun _ _ h=>by rw[e1];exact h) ?_;exact J.next ⟨k.i+1,k.n,k.a,k.c,k.oa,k.oc,k.zs⟩ ⟨rfl,trivial⟩ (by kernel_rfl) ⟨by dsimp only;omega,by rw[e1];exact hkn,by rw[e1];exact hkz,hkm⟩ (by dsimp only;omega)
  have e1:S.whP V (S.idAt J0 p.i) (S.whI V J0 p.i) k.i=S.whI V J0 (p.i+1):=by rw[S.whI_succ,hVl,show k.i=s.pn by omega]
  rw[e1]at hkn hkz⊢;refine run ?_;exact J.next ⟨p.i+1,k.n,k.a,k.c,k.oa,k.oc,k.zs⟩ ⟨rfl,trivial⟩ (by kernel_rfl) ⟨by dsimp only;omega,hkn,hkz,hkm⟩ (by dsimp only;omega)
 obtain⟨pi,pn,pa,pc,poa,poc,zs⟩:=p;dsimp only at hp hpn hpz hpm c2⊢;obtain rfl:pi=qn:=by omega
 have ew:S.whole s.V.ps=S.whI V J0 pi:=by
  unfold S.whole;rw[show s.V.ps=V from hV.symm,hJ0,←hkn,hq]
 rw[ew]at h7⊢;refine J.fact (.wown 24 .u8 32 pa pn pc (S.whI V J0 pi).ids) (fun _ _ h=>(wown_len h).2) fun hc2=>?_
 refine J.fact (.gown opC 11 37 poa pn poc zs) (fun _ _ h=>(gown_e h).1.capn) fun hc3=>?_
 refine run ?_;refine J.call rfl rfl (fun w' M=>(RW.own' (a:=pa) w' M).elim fun _ k0=>(RG.own' (a:=poa) w' M).elim fun _ k1=>refGTwin ⟨pa,poa,pn,pn,pc,poc,(S.whI V J0 pi).ids,zs⟩ w' (S0:=fun _=>True) ⟨k0.weaken fun _ _ _=>trivial,k1.weaken fun _ _ _=>trivial,Inns.weak (fun x hx=>(hpm x hx).elim fun g hg=>((H.gi g hg.1).ext M.ext).inn x hg.2) fun _ _=>trivial,fun z hz=>(hpm z hz).elim fun g hg=>(H.gi g hg.1).ok z hg.2,hc2,hc3,by show pn≤70;omega,by show pn≤70;omega⟩) fun q hq=>?_
 dsimp only[grE,List.cons_append,List.nil_append];refine run ?_;refine J.finG q rfl ?_ (by unfold grE;repeat(first|exact List.nil_sublist _|refine List.Sublist.cons_cons _ ?_|refine List.Sublist.cons _ ?_));have eo:GrA.ops ⟨pa,poa,pn,pn,pc,poc,(S.whI V J0 pi).ids,zs⟩=(S.whI V J0 pi).ops:=hpz;rw[eo]at hq;exact⟨hq.m.trans hpn,hq.ids,hq.n,hq.ops,hq.cap⟩
end W
end Go.Proofs.YtkibkhgcbepolaaGreatDoor
