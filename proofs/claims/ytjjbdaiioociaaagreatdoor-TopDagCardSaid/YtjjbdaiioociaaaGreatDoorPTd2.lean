/-
  Part 2 of the lemmas of these laws: TopDag.
-/
import Derived.Test.YtjjbdaiioociaaaGreatDoorPTd1
set_option linter.unusedVariables false
set_option linter.unusedSimpArgs false
open Go.Proofs.Tryz
namespace Go.Proofs.YtjjbdaiioociaaaGreatDoor
namespace G
open Go.RowKit
structure IArr(k:IntKind)(w:World)(b n:Nat)(xs:List Int)(tl:List Value)(T:TypeId):Prop where
 blk:Blk w b (ints k xs++tl) T
 len:xs.length=n
 bd:Bd k xs
theorem IArr.lt{k:IntKind}{w:World}{b n:Nat}{xs:List Int}{tl:List Value}{T:TypeId}(h:IArr k w b n xs tl T):b<w.heap.size:=h.blk.lt
theorem IArr.ext{k:IntKind}{w w':World}{b n:Nat}{xs:List Int}{tl:List Value}{T:TypeId}(h:IArr k w b n xs tl T)(x:Ext w w'):IArr k w' b n xs tl T:=⟨h.blk.ext x,h.len,h.bd⟩
theorem IArr.st{k:IntKind}{w w':World}{b n m:Nat}{xs:List Int}{tl:List Value}{T:TypeId}(h:IArr k w b n xs tl T)(x:St m w w')(hn:b≠m):IArr k w' b n xs tl T:=⟨h.blk.st x hn,h.len,h.bd⟩
theorem IArr.pr{k:IntKind}{S:Nat→Prop}{w w':World}{b n:Nat}{xs:List Int}{tl:List Value}{T:TypeId}(h:IArr k w b n xs tl T)(x:Pr S w w')(hn:¬S b):IArr k w' b n xs tl T:=⟨h.blk.pr x hn,h.len,h.bd⟩
theorem IArr.of{k:IntKind}{w:World}{b n:Nat}{xs:List Int}{T:TypeId}(h:Blk w b (ints k xs) T)(hl:xs.length=n)(hb:Bd k xs):IArr k w b n xs [] T:=⟨by simpa using h,hl,hb⟩
theorem lim_pos(k:IntKind):0<lim k:=by cases k<;>simp[lim]
theorem Bd.zeros(k:IntKind)(n:Nat):Bd k (List.replicate n 0):=by
 intro x hx;obtain rfl:=(List.mem_replicate.1 hx).2;exact⟨Int.le_refl _,lim_pos k⟩
theorem IArr.zero{k:IntKind}{w:World}{b n:Nat}{T:TypeId}(h:Blk w b (ints k (List.replicate n 0)) T):IArr k w b n (List.replicate n 0) [] T:= .of h (by simp) (Bd.zeros k n)
theorem IArr.at_{k:IntKind}{w:World}{b n:Nat}{xs:List Int}{tl:List Value}{T:TypeId}(h:IArr k w b n xs tl T){i:Nat}(hi:i<n):w.cell? ⟨b,i,none⟩=some (.int k (xs.getD i 0)):=by
 have hl:=h.len;refine h.blk.cell ?_;rw[List.getElem?_append_left (by rw[ints_length];omega)];simp[ints,List.getD_eq_getElem?_getD,List.getElem?_eq_getElem (show i<xs.length by omega)]
theorem IArr.cells{k:IntKind}{w:World}{b n:Nat}{xs:List Int}{tl:List Value}{T:TypeId}(h:IArr k w b n xs tl T):Cells w b 0 (ints k xs):=
 h.blk.cells (by simp)
theorem IArr.row{k:IntKind}{S:Nat→Prop}{w:World}{b n:Nat}{xs:List Int}{tl:List Value}{T:TypeId}(h:IArr k w b n xs tl T)(hs:S b):IRow k S w (some ⟨b,0,none⟩) n xs:=
 ⟨.inr ⟨b,0,rfl,hs,h.cells⟩,h.len,h.bd⟩
theorem splice_eq:∀(vs cs:List Value) (o:Nat),o+vs.length≤cs.length→splice cs o vs=cs.take o++vs++cs.drop (o+vs.length)
 |[],cs,o,_=>by simp[splice]
 |v::vs,cs,o,h=>by
  simp only[List.length_cons]at h;unfold splice;rw[splice_eq vs _ (o+1) (by simp;omega)];have hi:o<cs.length:=by omega
  rw[List.take_succ_eq_append_getElem (by simpa using hi),List.getElem_set_self,List.take_set_of_le (Nat.le_refl _),List.drop_set_of_lt (by omega)];simp only[List.append_assoc,List.cons_append,List.nil_append,List.length_cons];rw[show o+1+vs.length=o+(vs.length+1)by omega]
def fillL(pl:List (Nat×Nat))(cells:List Value):List (Nat×Value)→Option (List Value)
 |[]=>some cells
 |(i,v)::r=>
  match pl[i]? with
  |none=>none
  |some (off,size)=>if Nat.beq v.cells.size size&&Nat.ble (off+v.cells.size) cells.length then fillL pl (splice cells off v.cells.toList) r else none
theorem fill_fillL(pl:List (Nat×Nat))(place:Nat→Option (Nat×Nat))(hp:∀i,place i=pl[i]?):∀(ps:List (Nat×Value)) (cells cs:List Value),fillL pl cells ps=some cs→Instr.fill place cells.toArray ps=some cs.toArray
 |[],cells,cs,h=>by simp[fillL]at h;simp[Instr.fill,h]
 |(i,v)::r,cells,cs,h=>by
  unfold fillL at h;unfold Instr.fill;rw[hp i];split at h
  ·cases h
  ·rename_i off size hpl;rw[hpl];split at h
   ·rename_i hc;rw[Bool.and_eq_true]at hc;have h1:=Nat.eq_of_beq_eq_true hc.1;have h2:=Nat.le_of_ble_eq_true hc.2;have e:(v.cells.zipIdx.foldl (fun(cs:Array Value) (x:Value×Nat)=>cs.setIfInBounds (off+x.2) x.1) cells.toArray)=(splice cells off v.cells.toList).toArray:=by
     apply Array.ext';rw[←Array.foldl_toList,Array.toList_zipIdx,foldl_set v.cells.toList cells.toArray off 0 (by simp;omega),splice_eq _ _ _ (by simp;omega)];simp
    have h3:(v.cells.size≠size||off+v.cells.size>cells.toArray.size)=false:=by simp[h1];omega
    simp only[h3,Bool.false_eq_true,if_false];show Instr.fill place (v.cells.zipIdx.foldl (fun(cs:Array Value) (x:Value×Nat)=>cs.setIfInBounds (off+x.2) x.1) cells.toArray) r=_;rw[e];exact fill_fillL pl place hp r _ cs h
   ·cases h
def SI(P:Program)(t:TypeId)(pl:List (Nat×Nat)):Prop:=
 ∃fields:Array Field,P.underlying t=some (.struct fields)∧fields.toList.map (fun f=>(f.offset,P.cellsOf f.type))=pl∧pl.all (fun x=>Nat.blt 0 x.2)=true
theorem places_run{P:Program}{w:World}:∀(fs:List Field) (pl:List (Nat×Nat)),fs.map (fun f=>(f.offset,P.cellsOf f.type))=pl→pl.all (fun x=>Nat.blt 0 x.2)=true→
  ((fs.mapM (m:=Sem) fun(f:Field)=>do pure (f.offset,←sizeOf f.type)):Sem (List (Nat×Nat))).run P w= .ok pl w
 |[],pl,h,_=>by subst h;simp
 |f::fs,pl,h,hz=>by
  subst h;simp only[List.map_cons,List.all_cons,Bool.and_eq_true]at hz;have h0:P.cellsOf f.type≠0:=by
   have:=hz.1;simp[Nat.blt_eq]at this;omega
  have ih:=places_run (w:=w) fs _ rfl hz.2;rw[List.mapM_cons,Sem.run_bind,Sem.run_bind,size_run rfl h0];simp only[Result.andThen,Sem.run_pure];rw[Sem.run_bind,ih];rfl
section
variable{P:Program}{ops:Array Oper}{R:World→World→Prop}{K:List Value→World→Prop}{rest:List Oper}{restX:List (Oper×Kd)}{l:List Value}{w:World}{d:Tmp}{dd:Option Tmp}{ty:TypeId}{pos:String}{af:Array Edge}{g:Option (Nat×Bool)}
theorem D.buildS{t:TypeId}{parts:Array (Nat×Operand)}{pl:List (Nat×Nat)}{sz by_:Nat}{z cs:List Value}{ps:List (Nat×Value)}(ht:TI P t sz by_ z)(hs:SI P t pl)(hv:parts.toList.map (fun p=>(p.1,ev l p.2))=ps)(hf:fillL pl z ps=some cs):
  (execOp (ev l) ⟨dd, .build t parts,ty,pos,af,g⟩).run P w= .ok (.value (.agg cs.toArray)) w:=by
 obtain⟨i,v,h1,h2,h3,h4,h5⟩:=ht;obtain⟨fields,u1,u2,u3⟩:=hs;have hz1:(zeroValue t).run P w= .ok v w:=by simp[zeroValue,typeInfo,h1,h4]
 have hpl:((fields.mapM (m:=Sem) fun(f:Field)=>do pure (f.offset,←sizeOf f.type)):Sem (Array (Nat×Nat))).run P w= .ok pl.toArray w:=by
  have e:fields=fields.toList.toArray:=by simp
  rw[e,List.mapM_toArray,Sem.run_map,places_run (w:=w) fields.toList pl u2 u3];rfl
 have hfill:=fill_fillL pl (fun i=>pl.toArray[i]?) (fun i=>by simp) ps z cs hf;simp only[execOp,Instr.build,Sem.run_bind,hz1,Result.andThen,run_underlying u1];rw[hpl];dsimp only;have e2:(Array.map (fun x=>(x.fst,ev l x.snd)) parts).toList=ps:=by rw[←hv];simp
 rw[h5];simp only[e2];rw[hfill];simp
theorem D.buildArr{t e n by_:Nat}{parts:Array (Nat×Operand)}{xs:List Operand}{z vs:List Value}(hu:P.underlying t=some (.array n e))(ht:TI P t n by_ z)(hz:z.length=n)(hs:P.cellsOf e=1)(hp:parts.toList=enumV 0 xs)(hv:xs.map (ev l)=vs)(hl:vs.length=n)(h1:∀v∈vs,v.cells= #[v]):
  (execOp (ev l) ⟨dd, .build t parts,ty,pos,af,g⟩).run P w= .ok (.value (.agg vs.toArray)) w:=by
 obtain⟨i,v,i1,i2,i3,i4,i5⟩:=ht;have hz1:(zeroValue t).run P w= .ok v w:=by simp[zeroValue,typeInfo,i1,i4]
 have hfl:=fill_enum (sz:=1) vs 0 z.toArray (fun v hv=>by rw[h1 v hv];rfl) (by simp[hz,hl]);have hcs:vs.flatMap (·.cells.toList)=vs:=by
  clear hfl hl hv
  induction vs with
  |nil=>rfl
  |cons a r ih=>rw[List.flatMap_cons,h1 a (by simp),ih (fun v hv=>h1 v (by simp[hv]))];rfl
 have e2:(Array.map (fun x=>(x.fst,ev l x.snd)) parts).toList=enumV 0 vs:=by
  rw[Array.toList_map,hp];have:=enumV_map (ev l) xs 0;rw[hv]at this;exact this
 simp only[execOp,Instr.build,Sem.run_bind,hz1,Result.andThen,run_underlying hu,size_run hs (by decide)];rw[i5];simp only[e2];rw[hfl,hcs];simp
theorem RS.idxA{x y:Operand}{xt e b n:Nat}{k ki:IntKind}{xs:List Int}{tl:List Value}{T:TypeId}{i:Int}(hA:IArr k w b n xs tl T)(hx:ev l x= .pointer (some ⟨b,0,none⟩))(hy:ev l y= .int ki i)(hu:P.underlying xt=some (.array n e))(hs:P.cellsOf e=1)
  (hi:0≤i∧i<n)(h:∀v,w.cell? ⟨b,i.toNat,none⟩=some (.int k v)→v=xs.getD i.toNat 0→0≤v∧v<lim k→RS P ops K rest (l.set d (.pointer (some ⟨b,i.toNat,none⟩))) w):
  RS P ops K (⟨some d, .indexAddr xt x y,ty,pos,af,none⟩::rest) l w:=by
 have e1:(⟨b,0+i.toNat*1,none⟩:Addr)=⟨b,i.toNat,none⟩:=by simp
 have:=D.indexArr (d:=some d) (ty:=ty) (pos:=pos) (af:=af) (g:=none) (w:=w) hx hy hu hs (by decide) hi;rw[e1]at this;exact RS.o this (h _ (hA.at_ (by omega)) rfl (hA.bd.get _)) rfl
theorem RX.idxA{x y:Operand}{xt e b n:Nat}{k ki:IntKind}{xs:List Int}{tl:List Value}{T:TypeId}{i:Int}(hRE:∀w',R w w'→Ext w w')(hA:IArr k w b n xs tl T)(hx:ev l x= .pointer (some ⟨b,0,none⟩))(hy:ev l y= .int ki i)(hu:P.underlying xt=some (.array n e))(hs:P.cellsOf e=1)
  (hi:0≤i∧i<n)(h:∀v,(∀w',R w w'→w'.cell? ⟨b,i.toNat,none⟩=some (.int k v))→v=xs.getD i.toNat 0→0≤v∧v<lim k→RX P ops R K restX (l.set d (.pointer (some ⟨b,i.toNat,none⟩))) w):
  RX P ops R K ((⟨some d, .indexAddr xt x y,ty,pos,af,none⟩, .q)::restX) l w:=by
 have e1:(⟨b,0+i.toNat*1,none⟩:Addr)=⟨b,i.toNat,none⟩:=by simp
 refine RX.o (fun w' _=>?_) (h _ (fun w' hw=>(hA.ext (hRE _ hw)).at_ (by omega)) rfl (hA.bd.get _)) rfl;rw[←e1];exact D.indexArr hx hy hu hs (by decide) hi
theorem RS.storeA{x y:Operand}{xt b o n:Nat}{k:IntKind}{xs:List Int}{tl:List Value}{T:TypeId}{v:Int}(hA:IArr k w b n xs tl T)(hx:ev l x= .pointer (some ⟨b,o,none⟩))(hy:ev l y= .int k v)(hs:P.cellsOf xt=1)(ho:o<n)(hv:0≤v∧v<lim k)
  (h:∀w',St b w w'→IArr k w' b n (xs.set o v) tl T→RS P ops K rest l w'):RS P ops K (⟨none, .store xt x y,ty,pos,af,none⟩::rest) l w:=by
 have hl:=hA.len;refine RS.store hx hy hs rfl hA.blk (Nat.ble_eq_true_of_le (by simp[ints_length];omega)) (fun w' y' N=>h w' y' ⟨?_,by simp[hl],hA.bd.set _ hv⟩);rwa[List.set_append_left _ _ (by rw[ints_length];omega),ints_set]at N
theorem cellB_ints{k:IntKind}{xs:List Int}:∀v∈ints k xs,cellB v=true:=by
 intro v hv;obtain⟨x,_,rfl⟩:=List.mem_map.1 hv;rfl
theorem RS.storeWhole{x y:Operand}{xt b sz:Nat}{cs vs:List Value}{T:TypeId}(hx:ev l x= .pointer (some ⟨b,0,none⟩))(hy:ev l y= .agg vs.toArray)(hs:P.cellsOf xt=sz)(hz:sz≠0)(hn:vs.length=sz)(hv:∀v∈vs,cellB v=true)(hB:Blk w b cs T)(hc:cs.length=sz)
  (h:∀w',St b w w'→Blk w' b vs T→RS P ops K rest l w'):RS P ops K (⟨none, .store xt x y,ty,pos,af,none⟩::rest) l w:=by
 refine RS.storeAgg hx hy hs hz hn hv hB (by omega) (fun w' y' N=>h w' y' ?_);rw[splice_eq _ _ _ (by omega)]at N;simpa [List.drop_eq_nil_of_le (show cs.length≤vs.length by omega)]using N
theorem RS.storeArr{x y:Operand}{xt b n:Nat}{k:IntKind}{xs ys:List Int}{tl:List Value}{T:TypeId}(hA:IArr k w b n xs tl T)(hx:ev l x= .pointer (some ⟨b,0,none⟩))(hy:ev l y= .agg (ints k ys).toArray)(hs:P.cellsOf xt=n)(hn:n≠0)(hl:ys.length=n)(hb:Bd k ys)
  (h:∀w',St b w w'→IArr k w' b n ys tl T→RS P ops K rest l w'):RS P ops K (⟨none, .store xt x y,ty,pos,af,none⟩::rest) l w:=by
 have hl':=hA.len;refine RS.storeAgg hx hy hs hn (by rw[ints_length,hl]) cellB_ints hA.blk (by simp[ints_length];omega) (fun w' y' N=>h w' y' ⟨?_,hl,hb⟩);rw[splice_eq _ _ _ (by simp[ints_length];omega)]at N;simp only[List.take_zero,List.nil_append,Nat.zero_add]at N;rwa[List.drop_append_of_le_length (by simp[ints_length];omega),List.drop_eq_nil_of_le (by simp[ints_length];omega),List.nil_append]at N
theorem D.sliceArr{x:Operand}{t e b n:Nat}{lo hi:Option Operand}{li hi':Int}{kl kh:IntKind}(hx:ev l x= .pointer (some ⟨b,0,none⟩))(hu:P.underlying t=some (.array n e))(hs:P.cellsOf e=1)
  (hl:(lo.map (ev l)).getD (.int kl 0)= .int kl li)(hh:(hi.map (ev l)).getD (.int kh n)= .int kh hi')(hb:0≤li∧li≤hi'∧hi'≤n):
  (execOp (ev l) ⟨dd, .slice t x lo hi none,ty,pos,af,g⟩).run P w= .ok (.value (.slice (subA (some ⟨b,0,none⟩) li.toNat 1 n) (hi'.toNat - li.toNat) (n - li.toNat))) w:=by
 have h0:0≤hi':=by omega
 have hsz:=size_run (P:=P) (w:=w) hs (by decide);have key:∀m:Nat,(if n=m then(⟨b,0,none⟩:Addr)else(⟨b,0,none⟩:Addr).add m)=(⟨b,if n=m then 0 else m,none⟩:Addr):=by
  intro m;split<;>simp[add_mk]
 simp only[execOp];rw[hx];cases lo with
 |none=>
  simp at hl;subst hl;cases hi with
  |none=>
   simp at hh;subst hh;by_cases hn:n=0<;>simp[Instr.sliceAt,Instr.sureAddr,run_underlying hu,Instr.sliceBounds,hsz,subA,add_mk,hn]
  |some y=>
   simp at hh;have hy:ev l y= .int kh hi':=hh;by_cases hn:n=0<;>simp[Instr.sliceAt,Instr.sureAddr,run_underlying hu,Instr.sliceBounds,Instr.sliceBound,asIntOf,hy,h0,hb.2.2,hsz,subA,add_mk,hn]<;>omega
 |some x'=>
  have hx':ev l x'= .int kl li:=by simpa using hl
  cases hi with
  |none=>
   have hh':(n:Int)=hi':=by simpa using hh
   subst hh';have:li≤(n:Int):=hb.2.1;simp[Instr.sliceAt,Instr.sureAddr,run_underlying hu,Instr.sliceBounds,Instr.sliceBound,asIntOf,hx',hb.1,this,hsz,subA,add_mk];split<;>simp
  |some y=>
   have hy:ev l y= .int kh hi':=by simpa using hh
   simp[Instr.sliceAt,Instr.sureAddr,run_underlying hu,Instr.sliceBounds,Instr.sliceBound,asIntOf,hx',hy,h0,hb.1,hb.2.2,hsz,subA,add_mk];rw[if_pos (by omega)];congr 4;split<;>rfl
end
theorem and_nat(a b:Int)(n:Nat)(ha:0≤a∧a<(2 ^ n:Nat))(hb:0≤b∧b<(2 ^ n:Nat)):0≤iand a b∧iand a b<(2 ^ n:Nat):=by
 unfold iand;refine⟨by omega,?_⟩;have:=Nat.and_lt_two_pow (x:=a.toNat) (y:=b.toNat) (n:=n) (by omega);omega
theorem or_nat(a b:Int)(n:Nat)(ha:0≤a∧a<(2 ^ n:Nat))(hb:0≤b∧b<(2 ^ n:Nat)):0≤ior a b∧ior a b<(2 ^ n:Nat):=by
 unfold ior;refine⟨by omega,?_⟩;have:=Nat.or_lt_two_pow (x:=a.toNat) (y:=b.toNat) (n:=n) (by omega) (by omega);omega
theorem xor_nat(a b:Int)(n:Nat)(ha:0≤a∧a<(2 ^ n:Nat))(hb:0≤b∧b<(2 ^ n:Nat)):0≤ixor a b∧ixor a b<(2 ^ n:Nat):=by
 unfold ixor;refine⟨by omega,?_⟩;have:=Nat.xor_lt_two_pow (x:=a.toNat) (y:=b.toNat) (n:=n) (by omega) (by omega);omega
theorem shr_nat(a M:Int)(n:Nat)(ha:0≤a∧a<M):0≤a / 2 ^ n∧a / 2 ^ n<M:=by
 have hp:(0:Int)≤2 ^ n:=Int.pow_nonneg (by decide);have h1:=Int.ediv_nonneg ha.1 hp;have h2:=Int.ediv_le_self (2 ^ n) ha.1;omega
abbrev Arr(k:IntKind)(n:Nat)(xs:List Int):Prop:=xs.length=n∧Bd k xs
theorem IArr.ofA{k:IntKind}{w:World}{b n:Nat}{xs:List Int}{T:TypeId}(h:Blk w b (ints k xs) T)(hl:Arr k n xs):IArr k w b n xs [] T:= .of h hl.1 hl.2
theorem IArr.ofT{k:IntKind}{w:World}{b n:Nat}{xs:List Int}{tl:List Value}{T:TypeId}(h:Blk w b (ints k xs++tl) T)(hl:Arr k n xs):IArr k w b n xs tl T:=⟨h,hl.1,hl.2⟩
theorem IArr.arr{k:IntKind}{w:World}{b n:Nat}{xs:List Int}{tl:List Value}{T:TypeId}(h:IArr k w b n xs tl T):Arr k n xs:=⟨h.len,h.bd⟩
theorem Arr.zeros(k:IntKind)(n:Nat):Arr k n (List.replicate n 0):=⟨by simp,Bd.zeros k n⟩
theorem IArr.all{k:IntKind}{w:World}{b n:Nat}{xs:List Int}{tl:List Value}{T:TypeId}(h:IArr k w b n xs tl T):Cells w b 0 (ints k xs++tl):=h.blk.cells (by rw[List.drop_zero,List.take_length])
theorem IArr.allLen{k:IntKind}{w:World}{b n:Nat}{xs:List Int}{tl:List Value}{T:TypeId}(h:IArr k w b n xs tl T){sz:Nat}(hs:n+tl.length=sz):(ints k xs++tl).length=sz:=by
 rw[List.length_append,ints_length,h.len];exact hs
theorem IArr.tail{k:IntKind}{w:World}{b n:Nat}{xs:List Int}{tl:List Value}{T:TypeId}(h:IArr k w b n xs tl T)(j:Nat){v:Value}(hv:tl[j]? =some v):w.cell? ⟨b,n+j,none⟩=some v:=by
 refine h.blk.cell ?_;rw[List.getElem?_append_right (by rw[ints_length,h.len];omega),ints_length,h.len,show n+j - n=j by omega];exact hv
section
variable{P:Program}{ops:Array Oper}{R:World→World→Prop}{K:List Value→World→Prop}{rest:List Oper}{restX:List (Oper×Kd)}{l:List Value}{w:World}{d:Tmp}{dd:Option Tmp}{ty xt yt:TypeId}{pos:String}{af:Array Edge}{g:Option (Nat×Bool)}{x y:Operand}{a b:Int}
theorem D.band_u32(hx:ev l x= .int .u32 a)(hy:ev l y= .int .u32 b)(ha:0≤a∧a<4294967296)(hb:0≤b∧b<4294967296):
  ((execOp (ev l) ⟨dd, .binOp .and xt x y yt,ty,pos,af,g⟩).run P w= .ok (.value (.int .u32 (iand a b))) w)∧(0≤iand a b∧iand a b<4294967296):=
 ⟨D.band hx hy rfl (by simp only[IntKind.bits];omega) (by simp only[IntKind.bits];omega),and_nat a b 32 ha hb⟩
theorem D.bor_u32(hx:ev l x= .int .u32 a)(hy:ev l y= .int .u32 b)(ha:0≤a∧a<4294967296)(hb:0≤b∧b<4294967296):
  ((execOp (ev l) ⟨dd, .binOp .or xt x y yt,ty,pos,af,g⟩).run P w= .ok (.value (.int .u32 (ior a b))) w)∧(0≤ior a b∧ior a b<4294967296):=
 ⟨D.bor hx hy rfl (by simp only[IntKind.bits];omega) (by simp only[IntKind.bits];omega),or_nat a b 32 ha hb⟩
theorem D.bxor_u32(hx:ev l x= .int .u32 a)(hy:ev l y= .int .u32 b)(ha:0≤a∧a<4294967296)(hb:0≤b∧b<4294967296):
  ((execOp (ev l) ⟨dd, .binOp .xor xt x y yt,ty,pos,af,g⟩).run P w= .ok (.value (.int .u32 (ixor a b))) w)∧(0≤ixor a b∧ixor a b<4294967296):=
 ⟨D.bxor hx hy rfl (by simp only[IntKind.bits];omega) (by simp only[IntKind.bits];omega),xor_nat a b 32 ha hb⟩
theorem D.shr_u32{yk:IntKind}(hx:ev l x= .int .u32 a)(hy:ev l y= .int yk b)(ha:0≤a∧a<4294967296)(hb:0≤b∧b≤32):
  ((execOp (ev l) ⟨dd, .binOp .shr xt x y yt,ty,pos,af,g⟩).run P w= .ok (.value (.int .u32 (a / 2 ^ b.toNat))) w)∧(0≤a / 2 ^ b.toNat∧a / 2 ^ b.toNat<4294967296):=
 ⟨D.shr hx hy hb,shr_nat a 4294967296 b.toNat ha⟩
theorem D.band_u64(hx:ev l x= .int .u64 a)(hy:ev l y= .int .u64 b)(ha:0≤a∧a<18446744073709551616)(hb:0≤b∧b<18446744073709551616):
  ((execOp (ev l) ⟨dd, .binOp .and xt x y yt,ty,pos,af,g⟩).run P w= .ok (.value (.int .u64 (iand a b))) w)∧(0≤iand a b∧iand a b<18446744073709551616):=
 ⟨D.band hx hy rfl (by simp only[IntKind.bits];omega) (by simp only[IntKind.bits];omega),and_nat a b 64 ha hb⟩
theorem D.bor_u64(hx:ev l x= .int .u64 a)(hy:ev l y= .int .u64 b)(ha:0≤a∧a<18446744073709551616)(hb:0≤b∧b<18446744073709551616):
  ((execOp (ev l) ⟨dd, .binOp .or xt x y yt,ty,pos,af,g⟩).run P w= .ok (.value (.int .u64 (ior a b))) w)∧(0≤ior a b∧ior a b<18446744073709551616):=
 ⟨D.bor hx hy rfl (by simp only[IntKind.bits];omega) (by simp only[IntKind.bits];omega),or_nat a b 64 ha hb⟩
theorem D.bxor_u64(hx:ev l x= .int .u64 a)(hy:ev l y= .int .u64 b)(ha:0≤a∧a<18446744073709551616)(hb:0≤b∧b<18446744073709551616):
  ((execOp (ev l) ⟨dd, .binOp .xor xt x y yt,ty,pos,af,g⟩).run P w= .ok (.value (.int .u64 (ixor a b))) w)∧(0≤ixor a b∧ixor a b<18446744073709551616):=
 ⟨D.bxor hx hy rfl (by simp only[IntKind.bits];omega) (by simp only[IntKind.bits];omega),xor_nat a b 64 ha hb⟩
theorem D.shr_u64{yk:IntKind}(hx:ev l x= .int .u64 a)(hy:ev l y= .int yk b)(ha:0≤a∧a<18446744073709551616)(hb:0≤b∧b≤64):
  ((execOp (ev l) ⟨dd, .binOp .shr xt x y yt,ty,pos,af,g⟩).run P w= .ok (.value (.int .u64 (a / 2 ^ b.toNat))) w)∧(0≤a / 2 ^ b.toNat∧a / 2 ^ b.toNat<18446744073709551616):=
 ⟨D.shr hx hy hb,shr_nat a 18446744073709551616 b.toNat ha⟩
theorem RS.ob{op:Op}{v:Value}{φ:Prop}(hr:(execOp (ev l) ⟨some d,op,ty,pos,af,none⟩).run P w= .ok (.value v) w∧φ){l':List Value}(k:φ→RS P ops K rest l' w)(hl:l.set d v=l':=by dsimp only[List.set]):
  RS P ops K (⟨some d,op,ty,pos,af,none⟩::rest) l w:=RS.o hr.1 (k hr.2) hl
theorem RX.ob{op:Op}{v:Value}{φ:Prop}(hw0:R w w)(hr:∀w',R w w'→(execOp (ev l) ⟨some d,op,ty,pos,af,none⟩).run P w'= .ok (.value v) w'∧φ){l':List Value}(k:φ→RX P ops R K restX l' w)(hl:l.set d v=l':=by dsimp only[List.set]):
  RX P ops R K ((⟨some d,op,ty,pos,af,none⟩, .q)::restX) l w:=RX.o (fun w' hw=>(hr w' hw).1) (k (hr w hw0).2) hl
theorem RS.storeT{b n:Nat}{k:IntKind}{xs:List Int}{tl:List Value}{T:TypeId}{v:Value}(hA:IArr k w b n xs tl T)(j:Nat)(hx:ev l x= .pointer (some ⟨b,n+j,none⟩))(hy:ev l y=v)(hs:P.cellsOf xt=1)(hv:cellB v=true)(hj:Nat.ble (j+1) tl.length=true)
  (h:∀w',St b w w'→IArr k w' b n xs (tl.set j v) T→RS P ops K rest l w'):RS P ops K (⟨none, .store xt x y,ty,pos,af,none⟩::rest) l w:=by
 have hl:=hA.len;have hj:=Nat.le_of_ble_eq_true hj;refine RS.store hx hy hs hv hA.blk (Nat.ble_eq_true_of_le (by simp[ints_length];omega)) (fun w' y' N=>h w' y' ⟨?_,hl,hA.bd⟩);rwa[List.set_append_right _ _ (by rw[ints_length];omega),ints_length,hl,show n+j - n=j by omega]at N
theorem RS.storeRec{b n sz:Nat}{k:IntKind}{xs ys:List Int}{tl tl':List Value}{T:TypeId}(hA:IArr k w b n xs tl T)(hx:ev l x= .pointer (some ⟨b,0,none⟩))(hy:ev l y= .agg (ints k ys++tl').toArray)(hs:P.cellsOf xt=sz)(hz:sz≠0)(hl:Arr k n ys)(ht:tl'.length=tl.length)(hn:n+tl.length=sz)
  (hc:∀v∈tl',cellB v=true)(h:∀w',St b w w'→IArr k w' b n ys tl' T→RS P ops K rest l w'):RS P ops K (⟨none, .store xt x y,ty,pos,af,none⟩::rest) l w:=by
 refine RS.storeWhole hx hy hs hz (by rw[List.length_append,ints_length,hl.1,ht];exact hn) ?_ hA.blk (hA.allLen hn) (fun w' y' N=>h w' y' ⟨N,hl.1,hl.2⟩);intro v hv;rcases List.mem_append.1 hv with hv|hv
 ·exact cellB_ints v hv
 ·exact hc v hv
theorem RS.idxV{e n:Nat}{k ki:IntKind}{xs:List Int}{i:Int}{ed:TypeDesc}(hx:ev l x= .agg (ints k xs).toArray)(hy:ev l y= .int ki i)(hu:P.underlying xt=some (.array n e))(he:P.underlying e=some ed)
  (hd:(match ed with| .struct _| .array _ _=>true|_=>false)=false)(hs:P.cellsOf e=1)(hi:0≤i∧i<n)(hn:xs.length=n)(hb:Bd k xs)
  (h:∀v,v=xs.getD i.toNat 0→0≤v∧v<lim k→RS P ops K rest (l.set d (.int k v)) w):RS P ops K (⟨some d, .index xt x y,ty,pos,af,none⟩::rest) l w:=by
 refine RS.o (D.indexVal hx hy hu he hd hs hi ?_) (h _ rfl (hb.get _)) rfl;simp[ints,List.getD_eq_getElem?_getD,List.getElem?_eq_getElem (show i.toNat<xs.length by omega)]
end
section
variable{P:Program}{ops:Array Oper}{K:List Value→World→Prop}{rest:List Oper}{l:List Value}{w:World}{d:Tmp}{dd:Option Tmp}{ty:TypeId}{pos:String}{af:Array Edge}{g:Option (Nat×Bool)}
theorem zeroCells_one(v0:Value)(m:Nat):(Builtin.zeroCells #[v0] m)=(List.replicate m v0).toArray:=by
 unfold Builtin.zeroCells;apply Array.ext
 ·simp
 intro i h1 h2;simp at h1 h2;simp[Nat.mod_one]
theorem Own.blk{lo:Nat}{e:TypeId}{sz n c g0:Nat}{cs:List Value}(h:Own lo w e sz (some ⟨g0,0,none⟩) n c cs):∃rest:List Value,Blk w g0 (cs++rest) e∧(cs++rest).length=c*sz∧lo≤g0:=by
 rcases h.2 with⟨hv,hn⟩|⟨g,cap,cur,hv,hb,hg,h1,h2,hcs,ht⟩
 ·simp at hv
 ·simp at hv;obtain⟨rfl,rfl⟩:=hv;refine⟨cur.toList.drop (n*sz),?_,?_,hb⟩
  ·unfold Blk;rw[←ht,List.take_append_drop];simpa using hg
  ·rw[←ht,List.take_append_drop];simpa using hcs
theorem Own.of_part{lo:Nat}{e:TypeId}{sz n c g0:Nat}{cs rest:List Value}(h:Blk w g0 (cs++rest) e)(hl:(cs++rest).length=c*sz)(hn:cs.length=n*sz)(hnc:n≤c)(hc:c≤maxLen)(hb:lo≤g0):Own lo w e sz (some ⟨g0,0,none⟩) n c cs:=by
 refine⟨hn, .inr ⟨g0,c,(cs++rest).toArray,rfl,hb,h,hnc,hc,by simpa using hl,?_⟩⟩;simp[←hn]
theorem appendZ{t ti e:TypeId}{ki:IntKind}{lo by_ n c:Nat}{v0:Value}{a:Option Addr}{cs:List Value}(m:Nat)(ht:P.underlying t=some (.slice e))(hti:P.underlying ti=some (.int ki))(hT:TI P e 1 by_ [v0])(hv:cellB v0=true)
  (hO:Own lo w e 1 a n c cs)(hlo:lo≤w.heap.size)(hb:(n+m)*by_≤140737488355328)(h63:n+m≤140737488355328):
  ∃a' c' w',(Builtin.append_ #[t,ti] ty #[.slice a n c, .int .i64 m]).run P w= .ok (.slice a' (n+m) c') w'∧Own lo w' e 1 a' (n+m) c' (cs++List.replicate m v0)∧Pr (fun k=>obk a=some k) w w':=by
 obtain⟨i,z,i1,i2,i3,i4,i5⟩:=hT;have hw:IntKind.i64.wrap (m:Int)=m:=W.i64 (by omega);have hbz:m*by_≤(n+m)*by_:=Nat.mul_le_mul_right _ (by omega);have h48:¬(281474976710656<(m:Int)*(i.bytes:Int)):=by rw[i3,←Int.natCast_mul];omega
 have hl0:¬((m:Int)<0):=by omega
 have hcl:=hO.len;have hcap:=hO.cap;have hz:z.cells= #[v0]:=i5;by_cases hm:m=0
 ·subst hm;refine⟨a,c,w,?_,by simpa using hO,Pr.refl _ _⟩;have hw0:IntKind.i64.wrap 0=0:=W.i64 (by omega);cases a<;>simp[Builtin.append_,hw0,run_underlying ht,run_underlying hti,sizeOf,typeInfo,i1,asInt,asIntOf,hcap.1,storeCells]
 ·by_cases hroom:n+m≤c
  ·cases a with
   |none=>
    rcases hO.2 with⟨hv',hn⟩|⟨g,cap,cur,hv',_⟩
    ·simp at hv';omega
    ·simp at hv'
   |some ad=>
    obtain⟨g0,rfl⟩:∃g0,ad=⟨g0,0,none⟩:=by
     rcases hO.2 with⟨hv',_⟩|⟨g,cap,cur,hv',_⟩
     ·simp at hv'
     ·simp at hv';exact⟨g,hv'.1⟩
    obtain⟨rs,hB,hlen,hge⟩:=hO.blk;rw[List.length_append]at hlen;obtain⟨w',h1,h2,h3⟩:=storeCells_blk (P:=P) (o:=n) (List.replicate m v0) 0 _ w hB (by rw[List.length_append,List.length_replicate];omega) (by intro v hv';rw[(List.mem_replicate.1 hv').2];exact hv);refine⟨some ⟨g0,0,none⟩,c,w',?_,?_,(Pr.refl _ _).st h2 rfl⟩
    ·simp[Builtin.append_,run_underlying ht,run_underlying hti,sizeOf,typeInfo,zeroValue,i1,i2,i4,asInt,asIntOf,hw,hl0,h48,hroom,hm,hz,zeroCells_one,add_mk,h1]
    ·rw[splice_eq _ _ _ (by simp;omega)]at h3;have e1:(cs++rs).take (n+0)=cs:=by rw[Nat.add_zero,List.take_left' (by omega)]
     rw[e1]at h3;refine Own.of_part h3 ?_ (by simp;omega) hroom hcap.2 hge;simp;omega
  ·have h63':¬(9223372036854775807<((n:Int)+(m:Int))):=by omega
   have h48':¬(281474976710656<Builtin.nextslicecap (n+m) c*i.bytes):=by
    have:=growslice_fits (need:=n+m) (old:=c) (bytes:=i.bytes) (by omega) (by rw[i3];exact hb);omega
   have hge:=grownCap_ge w (n+m) c e;have hcm:=grownCap_le_maxLen w (n+m) c e (by simp only[maxLen];omega);refine⟨some ⟨w.heap.size,0,none⟩,grownCap w (n+m) c e,w.drew.alloc (.cells (cs++List.replicate m v0++List.replicate (grownCap w (n+m) c e - (n+m)) v0).toArray e),?_,?_,?_⟩
   ·have hold:∀sp,(Builtin.firstCells 1 n (.slice a n sp)).run P w.drew= .ok cs.toArray w.drew:=by
     intro sp;cases a with
     |none=>
      have:cs=[]:=by
       rcases hO.2 with⟨hv',hn⟩|⟨g,cap,cur,hv',_⟩
       ·exact List.eq_nil_of_length_eq_zero (by omega)
       ·simp at hv'
      simp[this,run_firstCells_none]
     |some ad=>
      obtain ⟨b, o, ha, _, hcells⟩ | hnil := (show (∃ b o, some ad = some ⟨b, o, none⟩ ∧ obk (some ad) = some b ∧ Cells w b o cs) ∨ cs = [] from by
       rcases hO.row with h | h
       ·exact .inr h
       ·exact .inl h)
      ·obtain rfl:=Option.some.inj ha;refine run_firstCells_some (P:=P) w.drew 1 n ⟨b,o,none⟩ n sp cs (by omega) ?_;intro j u hu;have hj:j<cs.length:=(List.getElem?_eq_some_iff.1 hu).1;have:=hcells j hj;rw[List.getD_eq_getElem?_getD,hu]at this;simpa [add_mk]using this
      ·subst hnil;refine run_firstCells_some (P:=P) w.drew 1 n ad n sp [] (by simpa using hcl) ?_;intro j u hu;simp at hu
    simp[Builtin.append_,run_underlying ht,run_underlying hti,sizeOf,typeInfo,zeroValue,i1,i2,i4,asInt,asIntOf,hw,hl0,h48,hroom,hm,hz,zeroCells_one,h63',h48',Question.forced,hold,newRow];simp[grownCap];congr 2;apply Array.ext';simp
   ·have:=new_facts w.drew (cs++List.replicate m v0++List.replicate (grownCap w (n+m) c e - (n+m)) v0) e;refine Own.of_part this.2.1 ?_ (by simp;omega) hge hcm hlo;simp;omega
   ·refine Pr.ext (Pr.refl _ _) ?_;exact((Below.refl _ _).drew).alloc (Nat.le_refl _) _
theorem RS.appendZ{x y:Operand}{t ti e:TypeId}{k ki:IntKind}{lo by_:Nat}{a:Option Addr}{n c:Nat}{xs:List Int}{m:Int}
  (hO:IOwn lo w e k a n c xs)(hx:ev l x= .slice a n c)(hy:ev l y= .int .i64 m)(hm:0≤m)(hu:P.underlying t=some (.slice e))(hti:P.underlying ti=some (.int ki))(ht:TI P e 1 by_ [.int k 0])
  (hlo:lo≤w.heap.size)(hby:by_≤8)(hb:n+m.toNat≤17592186044416)
  (h:∀a' c' w',IOwn lo w' e k a' (n+m.toNat) c' (xs++List.replicate m.toNat 0)→Pr (fun b=>obk a=some b) w w'→RS P ops K rest (l.set d (.slice a' (n+m.toNat) c')) w'):
  RS P ops K (⟨some d, .call {callee:= .builtin .append,args:= #[x,y],argTypes:= #[t,ti]},ty,pos,af,none⟩::rest) l w:=by
 have h8:(n+m.toNat)*by_≤(n+m.toNat)*8:=Nat.mul_le_mul_left _ hby;obtain⟨a',c',w',h1,h2,h3⟩:=G.appendZ (P:=P) (w:=w) (ty:=ty) m.toNat hu hti ht rfl hO.own hlo (by omega) (by omega);have e1:((m.toNat:Nat):Int)=m:=by omega
 rw[e1]at h1;refine RS.o (w':=w') (v:= .slice a' (n+m.toNat) c') ?_ (h a' c' w' ⟨?_,hO.bd.append (Bd.zeros k _)⟩ h3) rfl
 ·simp[execOp,resolve,hx,hy,invoke,builtin,h1]
 ·rw[ints_append];have:ints k (List.replicate m.toNat 0)=List.replicate m.toNat (.int k 0):=by simp[ints]
  rw[this];exact h2
theorem RS.buildNone{t e:TypeId}{sz by_:Nat}{z:List Value}(hu:P.underlying t=some (.slice e))(ht:TI P e sz by_ z)
  (h:∀b w',w.heap.size=b→w'.heap.size=b+1→Ext w w'→Blk w' b [] e→RS P ops K rest (l.set d (.slice (some ⟨b,0,none⟩) 0 0)) w'):
  RS P ops K (⟨some d, .buildSlice t 0 #[],ty,pos,af,none⟩::rest) l w:=by
 obtain⟨i,v,h1,h2,h3,h4,h5⟩:=ht;refine RS.new (f:=fun b=> .slice (some ⟨b,0,none⟩) 0 0) ?_ h;have hs:(sizeOf e).run P w= .ok sz w:=by simp[sizeOf,typeInfo,h1,h2]
 simp only[execOp,Instr.buildSlice,Sem.run_bind,run_underlying hu,Result.andThen,hs];simp[Instr.fill,newRow];rw[show Array.range 0= #[]from rfl];simp
theorem D.nilS{x y:Operand}{t e yt:TypeId}{a:Option Addr}{n c:Nat}(hx:ev l x= .slice a n c)(hy:ev l y= .slice none 0 0)(hu:P.underlying t=some (.slice e)):
  (execOp (ev l) ⟨dd, .binOp .eql t x y yt,ty,pos,af,g⟩).run P w= .ok (.value (.bool a.isNone)) w:=by
 have h1:=run_equal_slice_nil (P:=P) w t e a n c hu;simp only[execOp,eqGuard];rw[hx,hy];simp[binOp,h1]
end
def eqC:List Value→List Value→Bool
 |[],[]=>true
 | .int _ a::xs, .int _ b::ys=>(a==b)&&eqC xs ys
 | .bool a::xs, .bool b::ys=>(a==b)&&eqC xs ys
 | .string a::xs, .string b::ys=>(a.toList==b.toList)&&eqC xs ys
 |_,_=>false
theorem eqC_append:∀(a b c d:List Value),a.length=b.length→eqC (a++c) (b++d)=(eqC a b&&eqC c d)
 |[],[],c,d,_=>by simp[eqC]
 |[],_::_,_,_,h=>by simp at h
 |_::_,[],_,_,h=>by simp at h
 |x::a,y::b,c,d,h=>by
  have ih:=eqC_append a b c d (by simpa using h);cases x<;>cases y<;>simp[eqC,ih,Bool.and_assoc]
theorem eqC_ints{k:IntKind}:∀(xs ys:List Int),eqC (ints k xs) (ints k ys)=decide (xs=ys)
 |[],[]=>by simp[ints,eqC]
 |[],_::_=>by simp[ints,eqC]
 |_::_,[]=>by simp[ints,eqC]
 |x::xs,y::ys=>by
  have ih:=eqC_ints (k:=k) xs ys;simp only[ints]at ih;simp[ints,eqC,ih];rfl
def partsOk:Nat→List (Nat×Nat)→Option Nat
 |o,[]=>some o
 |o,(a,sz)::r=>if Nat.beq a o then partsOk (o+sz) r else none
def FitsT(P:Program):Nat→TypeId→List Value→Bool
 |0,_,_=>false
 |d+1,t,cs=>
  match P.underlying t with
  |some .bool=>match cs with|[.bool _]=>true|_=>false
  |some (.int q)=>match cs with|[.int q' _]=>q'==q|_=>false
  |some .string=>match cs with|[.string _]=>true|_=>false
  |some (.array n e)=>(Nat.blt 0 n&&Nat.beq cs.length (n*P.cellsOf e))&&(List.range n).all fun i=>FitsT P d e ((cs.drop (i*P.cellsOf e)).take (P.cellsOf e))
  |some (.struct fs)=> !P.stoodInHeld t&&(partsOk 0 (fs.toList.map fun f=>(f.offset,P.cellsOf f.type))==some cs.length)&&fs.toList.all fun f=>f.name != "_" &&FitsT P d f.type ((cs.drop f.offset).take (P.cellsOf f.type))
  |_=>false
def valC(ed:TypeDesc)(cs:List Value):Value:=if isAggD ed then .agg cs.toArray else cs.headD undef
section
variable{P:Program}{w:World}
theorem fits_len:∀ {d:Nat} {t:TypeId} {cs:List Value},FitsT P d t cs=true→∃ed,P.underlying t=some ed∧(isAggD ed=false→cs.length=1)
 |0,_,_,h=>by simp[FitsT]at h
 |d+1,t,cs,h=>by
  unfold FitsT at h;split at h
  ·rename_i hu;refine⟨_,hu,fun _=>?_⟩;split at h<;>simp_all
  ·rename_i hu;refine⟨_,hu,fun _=>?_⟩;split at h<;>simp_all
  ·rename_i hu;refine⟨_,hu,fun _=>?_⟩;split at h<;>simp_all
  ·rename_i hu;exact⟨_,hu,fun h=>by simp[isAggD]at h⟩
  ·rename_i hu;exact⟨_,hu,fun h=>by simp[isAggD]at h⟩
  ·cases h
theorem info_cells{t:TypeId}{ed:TypeDesc}(h:P.underlying t=some ed):∃i,P.info? t=some i∧i.size=P.cellsOf t:=by
 obtain⟨i,hi⟩:=info_of_underlying h;exact⟨i,hi,by simp[Program.cellsOf,hi]⟩
theorem part_run{e:TypeId}{ed:TypeDesc}{off:Nat}{xs:Array Value}(hu:P.underlying e=some ed)(h1:isAggD ed=false→((xs.toList.drop off).take (P.cellsOf e)).length=1):
  (part e xs off).run P w= .ok (valC ed ((xs.toList.drop off).take (P.cellsOf e))) w:=by
 obtain⟨i,hi,hs⟩:=info_cells hu;cases hd:isAggD ed
 ·have h1:=h1 hd;have hoff:off<xs.size:=by
   rw[List.length_take,List.length_drop,Array.length_toList]at h1;omega
  have hpos:0<P.cellsOf e:=by
   rw[List.length_take]at h1;omega
  have h2:xs[off]? =some xs[off]:=by simp[hoff]
  simp[part,agg_run hu,hd,h2,valC];obtain⟨m,hm⟩:∃m,P.cellsOf e=m+1:=⟨P.cellsOf e - 1,by omega⟩
  rw[hm,List.drop_eq_getElem_cons (show off<xs.toList.length by simpa using hoff)];simp
 ·have hl:(xs.extract off (off+P.cellsOf e)).toList=(xs.toList.drop off).take (P.cellsOf e):=by
   rw[Array.toList_extract];simp[List.extract]
  simp[part,agg_run hu,hd,run_sizeOf w hi,valC];apply Array.ext';simp
theorem eq_run(d:Nat):∀(m:Nat) (t:TypeId) (xs ys:List Value) (ed:TypeDesc) (w:World),FitsT P m t xs=true→FitsT P m t ys=true→P.underlying t=some ed→xs.length=ys.length∧(Op.equalIn (d+m) t (valC ed xs) (valC ed ys)).run P w= .ok (eqC xs ys) w
 |0,_,_,_,_,_,h,_,_=>by simp[FitsT]at h
 |m+1,t,xs,ys,ed,w,hx,hy,hu=>by
  unfold FitsT at hx hy;rw[hu]at hx hy;rw[show d+(m+1)=(d+m)+1 from rfl];cases ed
  case bool=>
   dsimp only at hx hy;split at hx<;>split at hy<;>simp at hx hy;exact⟨rfl,by simp[valC,isAggD,run_equalIn_bool w _ _ _ _ hu,eqC]⟩
  case int q=>
   dsimp only at hx hy;split at hx<;>split at hy<;>simp at hx hy;subst hx;subst hy;exact⟨rfl,by simp[valC,isAggD,run_equalIn_int w _ _ _ _ _ _ hu,eqC]⟩
  case string=>
   dsimp only at hx hy;split at hx<;>split at hy<;>simp at hx hy;exact⟨rfl,by simp[valC,isAggD,run_equalIn_string w _ _ _ _ hu,eqC]⟩
  case array n e=>
   dsimp only at hx hy;rw[Bool.and_eq_true]at hx hy;have lx:=Nat.eq_of_beq_eq_true (Bool.and_eq_true_iff.1 hx.1).2;have ly:=Nat.eq_of_beq_eq_true (Bool.and_eq_true_iff.1 hy.1).2;rw[Bool.and_eq_true]at hx;refine⟨by rw[lx,ly],?_⟩;simp only[valC,isAggD,if_true];have key:∀(k j:Nat),j+k=n→(Op.eqItems (d+m) e (P.cellsOf e) xs.toArray ys.toArray (List.range' j k)).run P w= .ok (eqC (xs.drop (j*P.cellsOf e)) (ys.drop (j*P.cellsOf e))) w:=by
    intro k
    induction k with
    |zero=>
     intro j hj;have e1:xs.drop (j*P.cellsOf e)=[]:=List.drop_eq_nil_of_le (by rw[lx];simp at hj;subst hj;exact Nat.le_refl _);have e2:ys.drop (j*P.cellsOf e)=[]:=List.drop_eq_nil_of_le (by rw[ly];simp at hj;subst hj;exact Nat.le_refl _);simp[Op.eqItems,e1,e2,eqC]
    |succ k ih=>
     intro j hj;have fx:=List.all_eq_true.1 hx.2 j (by simp;omega);have fy:=List.all_eq_true.1 hy.2 j (by simp;omega);obtain⟨ed,hue,h1⟩:=fits_len fx;obtain⟨ed',hue',h1'⟩:=fits_len fy;obtain rfl:ed=ed':=by rw[hue]at hue';exact Option.some.inj hue'
     obtain⟨hl,hr⟩:=eq_run d m e _ _ ed w fx fy hue;have ih:=ih (j+1) (by omega);have sp:∀zs:List Value,zs.drop (j*P.cellsOf e)=(zs.drop (j*P.cellsOf e)).take (P.cellsOf e)++zs.drop ((j+1)*P.cellsOf e):=by
      intro zs;rw[Nat.add_mul,Nat.one_mul,←List.drop_drop,List.take_append_drop]
     rw[List.range'_succ,sp xs,sp ys,eqC_append _ _ _ _ hl];simp only[Op.eqItems,Sem.run_bind,part_run (xs:=xs.toArray) hue (by simpa using h1),part_run (xs:=ys.toArray) hue (by simpa using h1'),Result.andThen_ok,hr];cases eqC ((xs.drop (j*P.cellsOf e)).take (P.cellsOf e)) ((ys.drop (j*P.cellsOf e)).take (P.cellsOf e))
     ·simp
     ·simpa using ih
   have hn:0<n:=by have:=hx.1.1;simpa [Nat.blt_eq]using this
   obtain⟨ed,hue,_⟩:=fits_len (List.all_eq_true.1 hx.2 0 (by simp;omega));obtain⟨i,hi,_⟩:=info_cells hue;rw[run_equalIn_array w (d+m) _ _ hu hi,List.range_eq_range',key n 0 (by omega)];simp
  case struct fs=>
   dsimp only at hx hy;simp only[Bool.and_eq_true,Bool.not_eq_true']at hx hy;have lx:partsOk 0 (fs.toList.map fun f=>(f.offset,P.cellsOf f.type))=some xs.length:=by simpa using hx.1.2
   have ly:partsOk 0 (fs.toList.map fun f=>(f.offset,P.cellsOf f.type))=some ys.length:=by simpa using hy.1.2
   refine⟨by rw[lx]at ly;exact Option.some.inj ly,?_⟩;simp only[valC,isAggD,if_true];have hfs:P.fieldsOf t=fs:=by simp[Program.fieldsOf,hu]
   rw[run_equalIn_struct w (d+m) t _ _ (by rw[hfs];exact hu) hx.1.1,hfs];have key:∀(l:List Field) (o:Nat),partsOk o (l.map fun f=>(f.offset,P.cellsOf f.type))=some xs.length→partsOk o (l.map fun f=>(f.offset,P.cellsOf f.type))=some ys.length→
     (∀f∈l,(f.name != "_" &&FitsT P m f.type ((xs.drop f.offset).take (P.cellsOf f.type)))=true)→(∀f∈l,(f.name != "_" &&FitsT P m f.type ((ys.drop f.offset).take (P.cellsOf f.type)))=true)→
     (Op.eqFields (d+m) xs.toArray ys.toArray l).run P w= .ok (eqC (xs.drop o) (ys.drop o)) w:=by
    intro l
    induction l with
    |nil=>
     intro o h1 h2 _ _;simp only[List.map_nil,partsOk,Option.some.injEq]at h1 h2;rw[List.drop_eq_nil_of_le (by omega),List.drop_eq_nil_of_le (by omega)];simp[Op.eqFields,eqC]
    |cons f l ih=>
     intro o h1 h2 h3 h4;simp only[List.map_cons,partsOk]at h1 h2;split at h1
     ·rename_i ho;rw[if_pos ho]at h2;have ho:=Nat.eq_of_beq_eq_true ho;have g3:=h3 f (by simp);have g4:=h4 f (by simp);rw[Bool.and_eq_true]at g3 g4;rw[ho]at g3 g4;have hn:f.name≠ "_" :=by simpa using g3.1
      obtain⟨ed,hue,e1⟩:=fits_len g3.2;obtain⟨ed',hue',e1'⟩:=fits_len g4.2;obtain rfl:ed=ed':=by rw[hue]at hue';exact Option.some.inj hue'
      obtain⟨hl,hr⟩:=eq_run d m f.type _ _ ed w g3.2 g4.2 hue;have ih:=ih (o+P.cellsOf f.type) h1 h2 (fun g hg=>h3 g (by simp[hg])) (fun g hg=>h4 g (by simp[hg]));have sp:∀zs:List Value,zs.drop o=(zs.drop o).take (P.cellsOf f.type)++zs.drop (o+P.cellsOf f.type):=by
       intro zs;rw[←List.drop_drop,List.take_append_drop]
      rw[sp xs,sp ys,eqC_append _ _ _ _ hl];simp only[Op.eqFields,hn,ne_eq,not_false_eq_true,if_true,ho,Sem.run_bind,part_run (xs:=xs.toArray) hue (by simpa using e1),part_run (xs:=ys.toArray) hue (by simpa using e1'),Result.andThen_ok,hr];cases eqC ((xs.drop o).take (P.cellsOf f.type)) ((ys.drop o).take (P.cellsOf f.type))
      ·simp
      ·simpa using ih
     ·cases h1
   have:=key fs.toList 0 lx ly (List.all_eq_true.1 hx.2) (List.all_eq_true.1 hy.2);simpa using this
  all_goals simp at hx
theorem fits_arr{t e:TypeId}{n:Nat}{k:IntKind}{xs:List Int}(d:Nat)(hu:P.underlying t=some (.array n e))(he:P.underlying e=some (.int k))(hs:P.cellsOf e=1)(hl:xs.length=n)(hn:0<n):FitsT P (d+2) t (ints k xs)=true:=by
 unfold FitsT;rw[hu];simp only[hs,Nat.mul_one,ints_length,hl,Bool.and_eq_true,Nat.beq_refl,Nat.blt_eq,hn,true_and];refine List.all_eq_true.2 fun i hi=>?_
 have hi:=List.mem_range.1 hi;have e1:((ints k xs).drop i).take 1=[.int k (xs.getD i 0)]:=by
  rw[List.drop_eq_getElem_cons (show i<(ints k xs).length by rw[ints_length];omega)];simp[ints,List.getD_eq_getElem?_getD,List.getElem?_eq_getElem (show i<xs.length by omega)]
 rw[e1];unfold FitsT;rw[he];simp
end
section
variable{P:Program}{ops:Array Oper}{R:World→World→Prop}{K:List Value→World→Prop}{rest:List Oper}{l:List Value}{w:World}{d:Tmp}{dd:Option Tmp}{ty xt yt:TypeId}{pos:String}{af:Array Edge}{g:Option (Nat×Bool)}{x y:Operand}
theorem eqC_bin(op:BinOp)(ho:op= .eql∨op= .neq){xs ys:List Value}{ed:TypeDesc}(hx:ev l x= .agg xs.toArray)(hy:ev l y= .agg ys.toArray)(hu:P.underlying xt=some ed)(ha:isAggD ed=true)(hg:P.eqGuardType P.depth xt=false)(fx:FitsT P 9 xt xs=true)(fy:FitsT P 9 xt ys=true):
  (execOp (ev l) ⟨dd, .binOp op xt x y yt,ty,pos,af,g⟩).run P w= .ok (.value (.bool (if op= .eql then eqC xs ys else !(eqC xs ys)))) w:=by
 have h1:=(eq_run (P:=P) 9991 9 xt xs ys ed w fx fy hu).2;simp only[valC,ha,if_true]at h1;simp only[execOp];rw[hx,hy];rcases ho with rfl|rfl
 ·simp only[Sem.run_bind,run_eqGuard_agg w .eql xt x y _ _ hg,Result.andThen_ok,run_eql_struct,h1];rfl
 ·simp only[Sem.run_bind,run_eqGuard_agg w .neq xt x y _ _ hg,Result.andThen_ok,run_neq_struct,h1];rfl
theorem D.eqA{xs ys:List Value}{ed:TypeDesc}(hx:ev l x= .agg xs.toArray)(hy:ev l y= .agg ys.toArray)(hu:P.underlying xt=some ed)(ha:isAggD ed=true)(hg:P.eqGuardType P.depth xt=false)(fx:FitsT P 9 xt xs=true)(fy:FitsT P 9 xt ys=true):
  (execOp (ev l) ⟨dd, .binOp .eql xt x y yt,ty,pos,af,g⟩).run P w= .ok (.value (.bool (eqC xs ys))) w:=eqC_bin .eql (.inl rfl) hx hy hu ha hg fx fy
theorem D.neA{xs ys:List Value}{ed:TypeDesc}(hx:ev l x= .agg xs.toArray)(hy:ev l y= .agg ys.toArray)(hu:P.underlying xt=some ed)(ha:isAggD ed=true)(hg:P.eqGuardType P.depth xt=false)(fx:FitsT P 9 xt xs=true)(fy:FitsT P 9 xt ys=true):
  (execOp (ev l) ⟨dd, .binOp .neq xt x y yt,ty,pos,af,g⟩).run P w= .ok (.value (.bool (!(eqC xs ys)))) w:=eqC_bin .neq (.inr rfl) hx hy hu ha hg fx fy
theorem D.eqI{e:TypeId}{n:Nat}{k:IntKind}{xs ys:List Int}(hx:ev l x= .agg (ints k xs).toArray)(hy:ev l y= .agg (ints k ys).toArray)(hu:P.underlying xt=some (.array n e))(he:P.underlying e=some (.int k))(hs:P.cellsOf e=1)(hg:P.eqGuardType P.depth xt=false)(lx:xs.length=n)(ly:ys.length=n)(hn:0<n):
  (execOp (ev l) ⟨dd, .binOp .eql xt x y yt,ty,pos,af,g⟩).run P w= .ok (.value (.bool (decide (xs=ys)))) w:=by
 have:=D.eqA (dd:=dd) (yt:=yt) (ty:=ty) (pos:=pos) (af:=af) (g:=g) (w:=w) hx hy hu rfl hg (fits_arr 7 hu he hs lx hn) (fits_arr 7 hu he hs ly hn);rwa[eqC_ints]at this
theorem D.neI{e:TypeId}{n:Nat}{k:IntKind}{xs ys:List Int}(hx:ev l x= .agg (ints k xs).toArray)(hy:ev l y= .agg (ints k ys).toArray)(hu:P.underlying xt=some (.array n e))(he:P.underlying e=some (.int k))(hs:P.cellsOf e=1)(hg:P.eqGuardType P.depth xt=false)(lx:xs.length=n)(ly:ys.length=n)(hn:0<n):
  (execOp (ev l) ⟨dd, .binOp .neq xt x y yt,ty,pos,af,g⟩).run P w= .ok (.value (.bool (decide (xs≠ys)))) w:=by
 have:=D.neA (dd:=dd) (yt:=yt) (ty:=ty) (pos:=pos) (af:=af) (g:=g) (w:=w) hx hy hu rfl hg (fits_arr 7 hu he hs lx hn) (fits_arr 7 hu he hs ly hn);rw[eqC_ints]at this;rw[this];simp
end
def bys(s:ByteArray):List Int:=s.data.toList.map fun b=>(b.toNat:Int)
theorem bys_len(s:ByteArray):(bys s).length=s.size:=by simp[bys]
theorem bys_bd(s:ByteArray):Bd .u8 (bys s):=by
 intro x hx;obtain⟨b,_,rfl⟩:=List.mem_map.1 hx;have:=b.toNat_lt;simp only[lim];omega
theorem bys_get(s:ByteArray)(i:Nat)(h:i<s.size):(bys s).getD i 0=(s[i].toNat:Int):=by
 have h2:i<s.data.toList.length:=by simpa using h
 simp only[bys,List.getD_eq_getElem?_getD,List.getElem?_map,List.getElem?_eq_getElem h2,Option.map_some,Option.getD_some];rfl
theorem bys_strOf(xs:List Int)(h:Bd .u8 xs):bys (strOfNums xs)=xs:=by
 simp only[bys,strOfNums,List.map_map];have:∀x∈xs,((fun b:UInt8=>(b.toNat:Int)) ∘ fun n:Int=>UInt8.ofNat n.toNat) x=x:=by
  intro x hx;have:=h x hx;simp only[lim]at this;simp only[Function.comp_def,UInt8.toNat_ofNat'];omega
 rw[List.map_congr_left this];simp
theorem strEq(s t:ByteArray):(s.toList==t.toList)=decide (s=t):=by
 rw[ByteArray.toList_eq,ByteArray.toList_eq];by_cases h:s=t
 ·simp[h]
 ·have:s.data.toList≠t.data.toList:=fun e=>h (ByteArray.ext (Array.ext' e));rw[decide_eq_false h];exact beq_eq_false_iff_ne.2 this
def It(w:World)(b:Nat)(s:ByteArray)(p:Nat):Prop:=w.heap[b]? =some (.stringIter s p)
theorem It.lt{w:World}{b:Nat}{s:ByteArray}{p:Nat}(h:It w b s p):b<w.heap.size:=(Array.getElem?_eq_some_iff.1 h).1
theorem It.ext{w w':World}{b:Nat}{s:ByteArray}{p:Nat}(h:It w b s p)(k:Ext w w'):It w' b s p:=by unfold It;rw[k.block b h.lt];exact h
theorem It.st{w w':World}{b c:Nat}{s:ByteArray}{p:Nat}(h:It w b s p)(k:St c w w')(hn:b≠c):It w' b s p:=by unfold It;rw[k.block b hn];exact h
theorem It.pr{S:Nat→Prop}{w w':World}{b:Nat}{s:ByteArray}{p:Nat}(h:It w b s p)(k:Pr S w w')(hn:¬S b):It w' b s p:=by unfold It;rw[k.block b h.lt hn];exact h
section
variable{P:Program}{ops:Array Oper}{R:World→World→Prop}{K:List Value→World→Prop}{rest:List Oper}{l:List Value}{w:World}{d:Tmp}{dd:Option Tmp}{ty xt yt:TypeId}{pos:String}{af:Array Edge}{g:Option (Nat×Bool)}{x y:Operand}
theorem D.indexStr{s:ByteArray}{k:IntKind}{i:Int}(hx:ev l x= .string s)(hy:ev l y= .int k i)(hu:P.underlying xt=some .string)(hi:0≤i∧i<s.size):
  (execOp (ev l) ⟨dd, .index xt x y,ty,pos,af,g⟩).run P w= .ok (.value (.int .u8 ((bys s).getD i.toNat 0))) w:=by
 have h1:i.toNat<s.size:=by omega
 rw[bys_get s _ h1];simp only[execOp];rw[hx,hy];simp[Instr.index,asIntOf,run_underlying hu,hi.1,h1]
theorem RS.indexStr{s:ByteArray}{k:IntKind}{i:Int}(hx:ev l x= .string s)(hy:ev l y= .int k i)(hu:P.underlying xt=some .string)(hi:0≤i∧i<s.size)
  (h:∀v,v=(bys s).getD i.toNat 0→0≤v∧v<lim .u8→RS P ops K rest (l.set d (.int .u8 v)) w):RS P ops K (⟨some d, .index xt x y,ty,pos,af,none⟩::rest) l w:=
 RS.o (D.indexStr hx hy hu hi) (h _ rfl ((bys_bd s).get _)) rfl
theorem RS.convSB{s:ByteArray}{src dst e:TypeId}(hx:ev l x= .string s)(hs:P.underlying src=some .string)(hd:P.underlying dst=some (.slice e))(he:P.underlying e=some (.int .u8))
  (h:∀a c w',Ext w w'→s.size≤c→w'.heap.size=w.heap.size+1→IRow .u8 (fun k=>w.heap.size≤k) w' a s.size (bys s)→RS P ops K rest (l.set d (.slice a s.size c)) w'):
  RS P ops K (⟨some d, .convert src dst x,ty,pos,af,none⟩::rest) l w:=by
 have hr:=run_bytes_of_string (P:=P) w src dst e s hs hd he;have hx2:Ext w (w.drew.alloc (.cells (bytesRow s (grownCap w s.size 0 e)) e ((bytesRow s (grownCap w s.size 0 e)).size,(bytesRow s (grownCap w s.size 0 e)).size+1))):=
  ((Below.refl _ _).drew).alloc (Nat.le_refl _) _
 refine RS.o (v:= .slice (some ⟨w.heap.size,0,none⟩) s.size (grownCap w s.size 0 e)) (w':=_) ?_ (h _ _ _ hx2 (grownCap_ge w s.size 0 e) (World.size_alloc _ _) ⟨.inr ⟨w.heap.size,0,rfl,Nat.le_refl _,?_⟩,bys_len s,bys_bd s⟩) rfl
 ·simp only[execOp];rw[hx];simp[hr]
 ·intro j hj;have hj':j<s.data.size:=by rw[ints_length,bys_len]at hj;exact hj
  have h1:=World.cell?_alloc_mark w.drew (bytesRow s (grownCap w s.size 0 e)) e ((bytesRow s (grownCap w s.size 0 e)).size,(bytesRow s (grownCap w s.size 0 e)).size+1) j;have hsz:w.drew.heap.size=w.heap.size:=rfl;rw[hsz]at h1;rw[Nat.zero_add,h1,bytesRow_at s _ j hj'];congr 1;simp only[ints,bys,List.getD_eq_getElem?_getD,List.getElem?_map,Array.getElem?_toList];rw[Array.getElem?_eq_getElem hj'];rfl
theorem Row.load{S:Nat→Prop}{a:Addr}{xs:List Int}{k:IntKind}(h:Row S w (some a) (ints k xs)):∀(j:Nat) (v:Value),(ints k xs)[j]? =some v→w.cell? (a.add j)=some v:=h.news rfl
theorem RS.range{s:ByteArray}(hx:ev l x= .string s)(hu:P.underlying xt=some .string)
  (h:∀b w',w.heap.size=b→w'.heap.size=b+1→Ext w w'→It w' b s 0→RS P ops K rest (l.set d (.pointer (some ⟨b,0,none⟩))) w'):RS P ops K (⟨some d, .range xt x,ty,pos,af,none⟩::rest) l w:=by
 refine RS.o (v:= .pointer (some ⟨w.heap.size,0,none⟩)) (w':=w.iter s 0) ?_ (h w.heap.size _ rfl (by simp[World.iter]) ((Below.refl _ _).alloc (Nat.le_refl _) _) (World.iter_heap w s 0)) rfl;simp only[execOp];rw[hx];simp[run_range_string w xt s hu]
theorem RS.next{s:ByteArray}{b p:Nat}(hI:It w b s p)(hx:ev l x= .pointer (some ⟨b,0,none⟩))
  (h1:p<s.size→∀w',St b w w'→It w' b s (p+(Utf8.decode s p).2)→RS P ops K rest (l.set d (.tuple #[.bool true, .int .i64 p, .int .i32 (Utf8.decode s p).1])) w')
  (h2:¬p<s.size→RS P ops K rest (l.set d (.tuple #[.bool false])) w):RS P ops K (⟨some d, .next x true,ty,pos,af,none⟩::rest) l w:=by
 by_cases hp:p<s.size
 ·refine RS.o (v:= .tuple #[.bool true, .int .i64 p, .int .i32 (Utf8.decode s p).1]) (w':= {w with heap:=w.heap.setIfInBounds b (.stringIter s (p+(Utf8.decode s p).2))}) ?_
   (h1 hp _ ⟨rfl,rfl,rfl,by simp,fun k hk=>by simp[Ne.symm hk]⟩ (by unfold It;simp[hI.lt])) rfl
  simp only[execOp];rw[hx];have:=hI;unfold It at this;simp[Instr.next,getObj,setObj,Sem.run,this,Result.andThen,hp,goInt]
 ·refine RS.o (v:= .tuple #[.bool false]) (w':=w) ?_ (h2 hp) rfl;simp only[execOp];rw[hx];have:=hI;unfold It at this;simp[Instr.next,getObj,Sem.run,this,Result.andThen,hp]
theorem D.field{cs vs:List Value}{fs:Array Field}{f:Field}{i:Nat}{ed:TypeDesc}{v:Value}(hx:ev l x= .agg cs.toArray)(hu:P.underlying xt=some (.struct fs))(hf:fs[i]? =some f)(he:P.underlying f.type=some ed)(hv:(cs.drop f.offset).take (P.cellsOf f.type)=vs)
  (h1:isAggD ed=false→vs.length=1)(hv2:valC ed vs=v):(execOp (ev l) ⟨dd, .field xt x i,ty,pos,af,g⟩).run P w= .ok (.value v) w:=by
 subst hv hv2;have:=part_run (P:=P) (w:=w) (off:=f.offset) (xs:=cs.toArray) he (by simpa using h1);simp only[execOp];rw[hx];have h2:(asAgg (.agg cs.toArray)).run P w= .ok cs.toArray w:=by simp[asAgg]
 simp[Instr.field,run_underlying hu,hf,h2,Result.andThen,this]
end
structure Pc where
 (a:Option Addr)(n c:Nat)(xs:List Int)
instance:Inhabited Pc:=⟨⟨none,0,0,[]⟩⟩
def Pc.val(p:Pc):Value:= .slice p.a p.n p.c
structure PRow(k:IntKind)(S:Nat→Prop)(w:World)(a:Option Addr)(n:Nat)(ps:List Pc):Prop where
 row:Row S w a (ps.map Pc.val)
 len:ps.length=n
 each:∀p∈ps,IRow k S w p.a p.n p.xs∧p.n≤p.c
section
variable{k:IntKind}{S T:Nat→Prop}{w w':World}{a:Option Addr}{n m:Nat}{ps:List Pc}
theorem PRow.ext(h:PRow k S w a n ps)(x:Ext w w'):PRow k S w' a n ps:=⟨h.row.ext x,h.len,fun p hp=>⟨(h.each p hp).1.ext x,(h.each p hp).2⟩⟩
theorem PRow.st(h:PRow k S w a n ps)(x:St m w w')(hn:S m→False):PRow k S w' a n ps:=⟨h.row.st x hn,h.len,fun p hp=>⟨(h.each p hp).1.st x hn,(h.each p hp).2⟩⟩
theorem PRow.pr(h:PRow k S w a n ps)(x:Pr T w w')(hn:∀b,S b→T b→False):PRow k S w' a n ps:=⟨h.row.pr x hn,h.len,fun p hp=>⟨(h.each p hp).1.pr x hn,(h.each p hp).2⟩⟩
theorem PRow.weaken(h:PRow k S w a n ps)(x:∀b,b<w.heap.size→S b→T b):PRow k T w a n ps:=⟨h.row.weaken x,h.len,fun p hp=>⟨(h.each p hp).1.weaken x,(h.each p hp).2⟩⟩
theorem PRow.of_blk{b:Nat}{cs:List Value}{e:TypeId}(B:Blk w b cs e)(hs:S b)(hc:cs=ps.map Pc.val)(hn:ps.length=n)(he:∀p∈ps,IRow k S w p.a p.n p.xs∧p.n≤p.c):PRow k S w (some ⟨b,0,none⟩) n ps:=by
 subst hc;exact⟨Row.of_blk (n:=(ps.map Pc.val).length) B hs List.take_length,hn,he⟩
theorem PRow.at_(h:PRow k S w a n ps){i:Int}(hi:0≤i∧i<n):∃b o,a=some ⟨b,o,none⟩∧w.cell? ⟨b,o+i.toNat*1,none⟩=some (ps.getD i.toNat default).val∧IRow k S w (ps.getD i.toNat default).a (ps.getD i.toNat default).n (ps.getD i.toNat default).xs∧(ps.getD i.toNat default).n≤(ps.getD i.toNat default).c:=by
 have hl:=h.len;have hlt:i.toNat<ps.length:=by omega
 obtain⟨b,o,ha,_,hc⟩:=h.row.at_ i.toNat (by rw[List.length_map];exact hlt);have e1:ps.getD i.toNat default=ps[i.toNat]:=by simp[List.getD_eq_getElem?_getD,List.getElem?_eq_getElem hlt]
 refine⟨b,o,ha,?_,?_⟩
 ·rw[Nat.mul_one,hc,e1];simp[List.getD_eq_getElem?_getD,List.getElem?_eq_getElem hlt]
 ·rw[e1];exact h.each _ (List.getElem_mem hlt)
def cat(ps:List Pc):List Int:=ps.flatMap (·.xs)
theorem cat_snoc(ps:List Pc)(i:Nat)(hi:i<ps.length):cat (ps.take (i+1))=cat (ps.take i)++(ps.getD i default).xs:=by
 have e1:ps.getD i default=ps[i]:=by simp[List.getD_eq_getElem?_getD,List.getElem?_eq_getElem hi]
 unfold cat;rw[e1,List.take_succ_eq_append_getElem hi,List.flatMap_append];simp
theorem cat_le(ps:List Pc)(i:Nat):(cat (ps.take i)).length≤(cat ps).length:=by
 have:cat ps=cat (ps.take i)++cat (ps.drop i):=by
  unfold cat;rw[←List.flatMap_append,List.take_append_drop]
 rw[this,List.length_append];omega
structure WRow(k:IntKind)(sz:Nat)(S:Nat→Prop)(w:World)(a:Option Addr)(n:Nat)(xs:List Int):Prop where
 row:Row S w a (ints k xs)
 len:xs.length=sz*n
 bd:Bd k xs
variable{sz:Nat}{xs:List Int}
theorem WRow.ext(h:WRow k sz S w a n xs)(x:Ext w w'):WRow k sz S w' a n xs:=⟨h.row.ext x,h.len,h.bd⟩
theorem WRow.st(h:WRow k sz S w a n xs)(x:St m w w')(hn:S m→False):WRow k sz S w' a n xs:=⟨h.row.st x hn,h.len,h.bd⟩
theorem WRow.pr(h:WRow k sz S w a n xs)(x:Pr T w w')(hn:∀b,S b→T b→False):WRow k sz S w' a n xs:=⟨h.row.pr x hn,h.len,h.bd⟩
theorem WRow.weaken(h:WRow k sz S w a n xs)(x:∀b,b<w.heap.size→S b→T b):WRow k sz T w a n xs:=⟨h.row.weaken x,h.len,h.bd⟩
theorem WRow.nil:WRow k sz S w a 0 []:=⟨Row.nil,by simp,Bd.nil k⟩
def elt(sz:Nat)(xs:List Int)(i:Nat):List Int:=(xs.drop (sz*i)).take sz
theorem WRow.elt_len(h:WRow k sz S w a n xs){i:Nat}(hi:i<n):(elt sz xs i).length=sz:=by
 have hl:=h.len;have h2:sz*(i+1)≤sz*n:=Nat.mul_le_mul_left _ hi;rw[Nat.mul_add]at h2;unfold elt;rw[List.length_take,List.length_drop];omega
theorem WRow.elt_bd(h:WRow k sz S w a n xs)(i:Nat):Bd k (elt sz xs i):=(h.bd.drop _).take _
theorem WRow.elt_arr(h:WRow k sz S w a n xs){i:Nat}(hi:i<n):Arr k sz (elt sz xs i):=⟨h.elt_len hi,h.elt_bd i⟩
theorem WRow.at_(h:WRow k sz S w a n xs)(hz:0<sz){i:Int}(hi:0≤i∧i<n):∃b o,a=some ⟨b,o,none⟩∧S b∧Cells w b (o+i.toNat*sz) (ints k (elt sz xs i.toNat)):=by
 have hl:=h.len;have hlt:i.toNat<n:=by omega
 have h2:sz*(i.toNat+1)≤sz*n:=Nat.mul_le_mul_left _ hlt;rw[Nat.mul_add]at h2;obtain⟨b,o,ha,hs,hc⟩:=h.row.part (sz*i.toNat) sz (by rw[ints_length];omega) hz;refine⟨b,o,ha,hs,?_⟩;rw[ints_drop,ints_take]at hc;rwa[Nat.mul_comm i.toNat sz]
structure WOwn(lo:Nat)(w:World)(e:TypeId)(k:IntKind)(sz:Nat)(a:Option Addr)(n c:Nat)(xs:List Int):Prop where
 own:Own lo w e sz a n c (ints k xs)
 bd:Bd k xs
variable{lo c:Nat}{e:TypeId}
theorem WOwn.len(h:WOwn lo w e k sz a n c xs):xs.length=sz*n:=by
 have:=h.own.len;rw[ints_length]at this;rw[this,Nat.mul_comm]
theorem WOwn.ext(h:WOwn lo w e k sz a n c xs)(x:Ext w w'):WOwn lo w' e k sz a n c xs:=⟨h.own.ext x,h.bd⟩
theorem WOwn.st(h:WOwn lo w e k sz a n c xs)(x:St m w w')(hn:obk a=some m→False):WOwn lo w' e k sz a n c xs:=⟨h.own.st x hn,h.bd⟩
theorem WOwn.pr(h:WOwn lo w e k sz a n c xs)(x:Pr T w w')(hn:∀b,obk a=some b→T b→False):WOwn lo w' e k sz a n c xs:=⟨h.own.pr x hn,h.bd⟩
theorem WOwn.row(h:WOwn lo w e k sz a n c xs):WRow k sz (fun b=>lo≤b) w a n xs:=⟨h.own.rowS,h.len,h.bd⟩
theorem WOwn.rowO(h:WOwn lo w e k sz a n c xs):WRow k sz (fun b=>obk a=some b) w a n xs:=⟨h.own.row,h.len,h.bd⟩
theorem WOwn.nil(lo:Nat)(w:World)(e:TypeId)(k:IntKind)(sz:Nat):WOwn lo w e k sz none 0 0 []:=⟨Own.nil lo w e sz,Bd.nil k⟩
theorem WOwn.los(h:WOwn lo w e k sz a n c xs):∀b,obk a=some b→lo≤b∧b<w.heap.size:=h.own.lo
theorem WOwn.base{lo':Nat}(h:WOwn lo w e k sz a n c xs)(hl:∀b,obk a=some b→lo'≤b):WOwn lo' w e k sz a n c xs:=⟨h.own.base hl,h.bd⟩
theorem WOwn.of_blk{b:Nat}{cs:List Value}(h:Blk w b cs e)(hc:cs=ints k xs)(hn:xs.length=sz*n)(hb:lo≤b)(hd:Bd k xs)(hm:n≤9223372036854775807):WOwn lo w e k sz (some ⟨b,0,none⟩) n n xs:=by
 subst hc;exact⟨Own.of_blk h (by rw[ints_length,hn,Nat.mul_comm]) hb (by simp only[maxLen];omega),hd⟩
theorem take_pre(xs:List Int)(m:Nat):ints k (xs.take m)=(ints k xs).take m:=(ints_take k xs m).symm
theorem IOwn.pre(h:IOwn lo w e k a n c xs){m:Nat}(hm:m≤n):IOwn lo w e k a m c (xs.take m):=by
 have hl:=h.len;refine⟨?_,h.bd.take m⟩;have hc:=h.own.cap;cases a with
 |none=>
  rcases h.own.2 with⟨hv,hn⟩|⟨g,cap,cur,hv,_⟩
  ·simp at hv;obtain rfl:m=0:=by omega
   obtain⟨hn0,rfl⟩:=hv;rw[List.take_zero];exact Own.nil lo w e 1
  ·simp at hv
 |some ad=>
  obtain⟨g0,rfl⟩:∃g0,ad=⟨g0,0,none⟩:=by
   rcases h.own.2 with⟨hv,_⟩|⟨g,cap,cur,hv,_⟩
   ·simp at hv
   ·simp at hv;exact⟨g,hv.1⟩
  obtain⟨rs,hB,hlen,hge⟩:=h.own.blk;refine Own.of_part (rest:=(ints k xs).drop m++rs) ?_ ?_ (by rw[ints_length,List.length_take];omega) (by omega) hc.2 hge
  ·rw[take_pre,←List.append_assoc,List.take_append_drop];exact hB
  ·rw[take_pre,←List.append_assoc,List.take_append_drop];exact hlen
end
theorem subA_zero(a:Option Addr)(sz m:Nat):subA a 0 sz m=a:=by
 unfold subA;split
 ·rfl
 ·cases a<;>simp[Addr.add]
theorem IRow.rest{k:IntKind}{S:Nat→Prop}{w:World}{a:Option Addr}{n:Nat}{xs:List Int}(h:IRow k S w a n xs)(lo m:Nat)(hl:lo≤n)(hm:n≤m):IRow k S w (subA a lo 1 m) (n - lo) (xs.drop lo):=by
 have:=h.sub lo n m (Nat.le_refl _) hl hm;rwa[List.take_of_length_le (by rw[List.length_drop,h.len];exact Nat.le_refl _)]at this
theorem IRow.none{k:IntKind}{S:Nat→Prop}{w:World}{a:Option Addr}{n:Nat}{xs:List Int}(h:IRow k S w a n xs)(ha:a.isNone=true):xs=[]∧n=0:=by
 have hl:=h.len;rcases h.row with h|⟨b,o,h,_⟩
 ·have:xs=[]:=List.eq_nil_of_length_eq_zero (by rw[←ints_length (k:=k),h];rfl);subst this;exact⟨rfl,by simpa using hl.symm⟩
 ·subst h;cases ha
theorem WRow.none{k:IntKind}{sz:Nat}{S:Nat→Prop}{w:World}{a:Option Addr}{n:Nat}{xs:List Int}(h:WRow k sz S w a n xs)(hz:0<sz)(ha:a.isNone=true):xs=[]∧n=0:=by
 have hl:=h.len;rcases h.row with h|⟨b,o,h,_⟩
 ·have:xs=[]:=List.eq_nil_of_length_eq_zero (by rw[←ints_length (k:=k),h];rfl);subst this;refine⟨rfl,?_⟩;rcases Nat.eq_zero_or_pos n with h|h
  ·exact h
  ·have:=Nat.mul_pos hz h;simp at hl;omega
 ·subst h;cases ha
def Each(k:IntKind)(w:World):List Pc→Prop
 |[]=>True
 |p::ps=>(∃S,IRow k S w p.a p.n p.xs∧p.n≤p.c)∧Each k w ps
theorem PRow.of_blkE{k:IntKind}{w:World}{b n:Nat}{cs:List Value}{e:TypeId}{ps:List Pc}(B:Blk w b cs e)(hc:cs=ps.map Pc.val)(hn:ps.length=n)(he:Each k w ps):PRow k (fun _=>True) w (some ⟨b,0,Option.none⟩) n ps:=by
 refine PRow.of_blk B trivial hc hn ?_;clear B hc hn
 induction ps with
 |nil=>intro p hp;cases hp
 |cons q ps ih=>
  intro p hp;rcases List.mem_cons.1 hp with rfl|hp
  ·obtain⟨⟨S,h1,h2⟩,_⟩:=he;exact⟨h1.weaken fun _ _ _=>trivial,h2⟩
  ·exact ih he.2 p hp
section
variable{P:Program}{ops:Array Oper}{R:World→World→Prop}{K:List Value→World→Prop}{rest:List Oper}{restX:List (Oper×Kd)}{l:List Value}{w:World}{d:Tmp}{dd:Option Tmp}{ty xt yt:TypeId}{pos:String}{af:Array Edge}{g:Option (Nat×Bool)}{x y:Operand}{k ki:IntKind}{S:Nat→Prop}{a:Option Addr}{n c sz:Nat}{xs:List Int}{i:Int}{e:TypeId}
theorem RS.idxP{ps:List Pc}(hR:PRow k S w a n ps)(hx:ev l x= .slice a n c)(hy:ev l y= .int ki i)(hu:P.underlying xt=some (.slice e))(hs:P.cellsOf e=1)(hi:0≤i∧i<n)
  (h:∀b o p,w.cell? ⟨b,o,none⟩=some (.slice p.a p.n p.c)→p=ps.getD i.toNat default→IRow k S w p.a p.n p.xs→p.n≤p.c→RS P ops K rest (l.set d (.pointer (some ⟨b,o,none⟩))) w):
  RS P ops K (⟨some d, .indexAddr xt x y,ty,pos,af,none⟩::rest) l w:=by
 obtain⟨b,o,ha,hc,hr,hn⟩:=hR.at_ hi;exact RS.o (D.indexAddr hx hy hu hs (by decide) ha hi) (h _ _ _ hc rfl hr hn) rfl
theorem RS.idxW(hR:WRow k sz S w a n xs)(hx:ev l x= .slice a n c)(hy:ev l y= .int ki i)(hu:P.underlying xt=some (.slice e))(hs:P.cellsOf e=sz)(hz:0<sz)(hi:0≤i∧i<n)
  (h:∀b o,Cells w b o (ints k (elt sz xs i.toNat))→S b→Arr k sz (elt sz xs i.toNat)→RS P ops K rest (l.set d (.pointer (some ⟨b,o,none⟩))) w):
  RS P ops K (⟨some d, .indexAddr xt x y,ty,pos,af,none⟩::rest) l w:=by
 obtain⟨b,o,ha,hs',hc⟩:=hR.at_ hz hi;exact RS.o (D.indexAddr hx hy hu hs (by omega) ha hi) (h _ _ hc hs' (hR.elt_arr (by omega))) rfl
theorem Cells.ext{w w':World}{b o:Nat}{cs:List Value}(h:Cells w b o cs)(k:Ext w w')(hn:0<cs.length):Cells w' b o cs:=h.of_block (k.block b (h.lt hn))
theorem RX.idxW(hRE:∀w',R w w'→Ext w w')(hR:WRow k sz S w a n xs)(hx:ev l x= .slice a n c)(hy:ev l y= .int ki i)(hu:P.underlying xt=some (.slice e))(hs:P.cellsOf e=sz)(hz:0<sz)(hi:0≤i∧i<n)
  (h:∀b o,(∀w',R w w'→Cells w' b o (ints k (elt sz xs i.toNat)))→S b→Arr k sz (elt sz xs i.toNat)→RX P ops R K restX (l.set d (.pointer (some ⟨b,o,none⟩))) w):
  RX P ops R K ((⟨some d, .indexAddr xt x y,ty,pos,af,none⟩, .q)::restX) l w:=by
 obtain⟨b,o,ha,hs',hc⟩:=hR.at_ hz hi;have hl:=hR.elt_len (i:=i.toNat) (by omega);exact RX.o (fun w' _=>D.indexAddr hx hy hu hs (by omega) ha hi) (h _ _ (fun w' hw=>hc.ext (hRE _ hw) (by rw[ints_length];omega)) hs' (hR.elt_arr (by omega))) rfl
theorem D.loadW{b o:Nat}{ed:TypeDesc}(hx:ev l x= .pointer (some ⟨b,o,none⟩))(he:P.underlying xt=some ed)(hd:isAggD ed=true)(hs:P.cellsOf xt=sz)(hz:sz≠0)(hA:Arr k sz xs)(hc:Cells w b o (ints k xs)):
  (execOp (ev l) ⟨dd, .load xt x,ty,pos,af,g⟩).run P w= .ok (.value (.agg (ints k xs).toArray)) w:=
 D.loadAgg hx he hd hs hz (by rw[ints_length,hA.1]) hc
theorem D.cap(hx:ev l x= .slice a n c)(hu:P.underlying xt=some (.slice e)):
  (execOp (ev l) ⟨dd, .call {callee:= .builtin .cap,args:= #[x],argTypes:= #[xt]},ty,pos,af,g⟩).run P w= .ok (.value (.int .i64 c)) w:=by
 simp[execOp,resolve,hx,invoke,builtin,Builtin.cap_,run_underlying hu,goInt]
theorem RS.storeI{lo b:Nat}{e':TypeId}{j:Int}{v:Int}(hO:IOwn lo w e' k (some ⟨b,0,none⟩) n c xs)(hx:ev l x= .pointer (some ⟨b,0+j.toNat*1,none⟩))(hy:ev l y= .int k v)(hs:P.cellsOf xt=1)(hj:0≤j∧j<n)(hv:0≤v∧v<lim k)
  (h:∀w',St b w w'→IOwn lo w' e' k (some ⟨b,0,none⟩) n c (xs.set j.toNat v)→RS P ops K rest l w'):RS P ops K (⟨none, .store xt x y,ty,pos,af,none⟩::rest) l w:=by
 have hl:=hO.len;refine RS.storeOwn hx hy hs rfl hO.own (by rw[ints_length];omega) (fun w' y' N=>h w' y' ⟨?_,hO.bd.set _ hv⟩);rwa[ints_set,show 0+j.toNat*1=j.toNat by omega]at N
theorem D.build0{t e' n' sz' by_:Nat}{z:List Value}(hu:P.underlying t=some (.array n' e'))(ht:TI P t sz' by_ z)(hs:P.cellsOf e'=1):
  (execOp (ev l) ⟨dd, .build t #[],ty,pos,af,g⟩).run P w= .ok (.value (.agg z.toArray)) w:=by
 obtain⟨i,v,i1,i2,i3,i4,i5⟩:=ht;have hz1:(zeroValue t).run P w= .ok v w:=by simp[zeroValue,typeInfo,i1,i4]
 simp only[execOp,Instr.build,Sem.run_bind,hz1,Result.andThen,run_underlying hu,size_run hs (by decide)];rw[i5];simp[Instr.fill]
theorem fieldI{t:TypeId}{m:Nat}{tl:List Value}(hc:P.cellsOf t=m)(hl:xs.length=m):((ints k xs++tl).drop 0).take (P.cellsOf t)=ints k xs:=by
 rw[hc,List.drop_zero,List.take_left' (by rw[ints_length];exact hl)]
theorem RS.appendW{lo by_:Nat}{z:List Value}{a2:Option Addr}{m c2:Nat}{ys:List Int}{t:TypeId}
  (hO:WOwn lo w e k sz a n c xs)(hR:WRow k sz S w a2 m ys)(hx:ev l x= .slice a n c)(hy:ev l y= .slice a2 m c2)(hu:P.underlying t=some (.slice e))(ht:TI P e sz by_ z)(hz:z.length=sz)(hsz:0<sz)
  (hlo:lo≤w.heap.size)(hby:by_≤1000)(hb:n+m≤100000000)
  (h:∀a' c' w',WOwn lo w' e k sz a' (n+m) c' (xs++ys)→Pr (fun b=>obk a=some b) w w'→RS P ops K rest (l.set d (.slice a' (n+m) c')) w'):
  RS P ops K (⟨some d, .call {callee:= .builtin .append,args:= #[x,y],argTypes:= #[t,t]},ty,pos,af,none⟩::rest) l w:=by
 have h8:(n+m)*by_≤(n+m)*1000:=Nat.mul_le_mul_left _ hby;refine RS.append hx hy hu ht hz hsz hO.own hR.row (by rw[ints_length,hR.len,Nat.mul_comm]) (ints_one _ _) hlo (by omega) (by omega) ?_;intro a' c' w' ho hp;exact h a' c' w' ⟨by rw[ints_append];exact ho,hO.bd.append hR.bd⟩ hp
theorem loadBytes_run{b:Nat}:∀(xs:List Int) (o:Nat) (acc:ByteArray),Cells w b o (ints .u8 xs)→(Extern.Bytes.loadBytes ⟨b,o,none⟩ xs.length acc).run P w= .ok ⟨acc.data++(xs.map fun n=>UInt8.ofNat n.toNat).toArray⟩ w
 |[],o,acc,_=>by simp[Extern.Bytes.loadBytes]
 |x::xs,o,acc,h=>by
  have h0:=h 0 (by simp[ints]);have h1:Cells w b (o+1) (ints .u8 xs):=by
   intro j hj;have:=h (j+1) (by simp[ints]at hj⊢;omega);rw[show o+(j+1)=o+1+j by omega]at this;rw[this];simp[ints]
  have h2:(Go.load ⟨b,o,none⟩).run P w= .ok (.int .u8 x) w:=by
   simp only[Go.load,Sem.run];rw[show w.cell? ⟨b,o,none⟩=some (.int .u8 x)by simpa [ints]using h0]
  simp only[List.length_cons,Extern.Bytes.loadBytes,Sem.run_bind,h2,Result.andThen,add_mk];rw[loadBytes_run xs (o+1) _ h1];simp[ByteArray.push,Nat.toUInt8]
theorem bytesOf_run(hR:IRow .u8 S w a n xs):(Extern.Bytes.bytesOf (.slice a n c)).run P w= .ok (strOfNums xs) w:=by
 have hl:=hR.len;cases a with
 |none=>
  have:xs=[]:=by
   rcases hR.row with h|⟨b,o,h,_⟩
   ·exact List.eq_nil_of_length_eq_zero (by rw[←ints_length (k:= .u8),h];rfl)
   ·cases h
  subst this;simp[Extern.Bytes.bytesOf];rfl
 |some ad=>
  rcases hR.row with h|⟨b,o,h,_,hc⟩
  ·have:xs=[]:=List.eq_nil_of_length_eq_zero (by rw[←ints_length (k:= .u8),h];rfl);subst this;simp at hl;subst hl;simp[Extern.Bytes.bytesOf,Extern.Bytes.loadBytes];rfl
  ·obtain rfl:=Option.some.inj h;simp only[Extern.Bytes.bytesOf];rw[←hl,loadBytes_run xs o _ hc];simp[strOfNums,ByteArray.empty,ByteArray.emptyWithCapacity];rfl
theorem D.ext{f:FuncId}{fn:Func}{args:Array Operand}{av:List Value}{ts:Array TypeId}{E:Array Value→Sem Value}{v:Value}{w':World}(hf:P.funcs[f]? =some fn)(hn:(fn.name== "runtime.NumGoroutine")=false)(hb:fn.body.isNone=true)(hnx:Extern.findNext fn=none)(he:Extern.find fn=some E)
  (ha:args.toList.map (ev l)=av)(hr:(E av.toArray).run P w= .ok v w'):
  (execOp (ev l) ⟨dd, .call {callee:= .value (.func f),args:=args,argTypes:=ts},ty,pos,af,g⟩).run P w= .ok (.value v) w':=by
 have hfun:ev l (.func f)= .func (.func f) #[] #[]:=rfl;simp only[execOp,resolve,args_map ha,hfun];have hn':¬fn.name= "runtime.NumGoroutine" :=by simpa using hn
 simp only[Deferred.ofValue,invoke,callFunc,Sem.run_bind,Result.andThen];have hb':fn.body=none:=by simpa using hb
 simp[mark,Sem.run,hn',hf];rw[if_pos hb',hnx,he];simp[hr]
end
theorem elt_cat(sz:Nat)(xs:List Int)(i:Nat):xs.take (sz*(i+1))=xs.take (sz*i)++elt sz xs i:=by
 unfold elt;rw[Nat.mul_add,Nat.mul_one,List.take_add]
def UB(w:World)(b N:Nat)(T:TypeId):Prop:=∃(xs:List Int) (rest:List Value),Blk w b (ints .u8 xs++rest) T∧xs.length=N∧Bd .u8 xs
theorem UB.ext{w w':World}{b N:Nat}{T:TypeId}(h:UB w b N T)(x:Ext w w'):UB w' b N T:=by
 obtain⟨xs,r,h1,h2,h3⟩:=h;exact⟨xs,r,h1.ext x,h2,h3⟩
theorem UB.st{w w':World}{b N m:Nat}{T:TypeId}(h:UB w b N T)(x:St m w w')(hn:b≠m):UB w' b N T:=by
 obtain⟨xs,r,h1,h2,h3⟩:=h;exact⟨xs,r,h1.st x hn,h2,h3⟩
theorem UB.pr{S:Nat→Prop}{w w':World}{b N:Nat}{T:TypeId}(h:UB w b N T)(x:Pr S w w')(hn:¬S b):UB w' b N T:=by
 obtain⟨xs,r,h1,h2,h3⟩:=h;exact⟨xs,r,h1.pr x hn,h2,h3⟩
theorem UB.lt{w:World}{b N:Nat}{T:TypeId}(h:UB w b N T):b<w.heap.size:=by
 obtain⟨xs,r,h1,h2,h3⟩:=h;exact h1.lt
theorem UB.cells{w:World}{b N:Nat}{T:TypeId}(h:UB w b N T)(o sz:Nat)(ho:o+sz≤N):∃ys,Cells w b o (ints .u8 ys)∧Arr .u8 sz ys:=by
 obtain⟨xs,r,h1,h2,h3⟩:=h;refine⟨(xs.drop o).take sz,h1.cells ?_,by rw[List.length_take,List.length_drop];omega,(h3.drop o).take sz⟩;rw[List.drop_append_of_le_length (by rw[ints_length];omega),List.take_append_of_le_length (by rw[ints_length,List.length_drop,ints_length,List.length_take,List.length_drop];omega),ints_drop,ints_take,ints_length,List.length_take,List.length_drop];congr 2;omega
theorem WOwn.ub{lo:Nat}{w:World}{e:TypeId}{sz n c g0:Nat}{xs:List Int}(h:WOwn lo w e .u8 sz (some ⟨g0,0,Option.none⟩) n c xs):UB w g0 (sz*n) e:=by
 obtain⟨rs,hB,_,_⟩:=h.own.blk;exact⟨xs,rs,hB,h.len,h.bd⟩
theorem WOwn.some{lo:Nat}{w:World}{e:TypeId}{k:IntKind}{sz n c:Nat}{a:Option Addr}{xs:List Int}(h:WOwn lo w e k sz a n c xs)(hn:0<n):∃g0,a=Option.some ⟨g0,0,Option.none⟩:=by
 rcases h.own.2 with⟨hv,h0⟩|⟨g,cap,cur,hv,_⟩
 ·omega
 ·simp at hv;exact⟨g,hv.1⟩
theorem Own.pre{lo:Nat}{w:World}{e:TypeId}{sz n c:Nat}{a:Option Addr}{cs:List Value}(h:Own lo w e sz a n c cs):n≤c:=h.cap.1
section
variable{P:Program}{ops:Array Oper}{R:World→World→Prop}{K:List Value→World→Prop}{rest:List Oper}{restX:List (Oper×Kd)}{l:List Value}{w:World}{d:Tmp}{dd:Option Tmp}{ty xt yt:TypeId}{pos:String}{af:Array Edge}{g:Option (Nat×Bool)}{x y:Operand}{k ki:IntKind}{S:Nat→Prop}{a:Option Addr}{n c sz:Nat}{xs:List Int}{i:Int}{e:TypeId}
theorem RS.idxU{b o N m cp:Nat}{A:Option Addr}{T:TypeId}(hU:UB w b N T)(hA:A=some ⟨b,o,none⟩)(hx:ev l x= .slice A m cp)(hy:ev l y= .int ki i)(hu:P.underlying xt=some (.slice e))(hs:P.cellsOf e=sz)(hz:0<sz)(hi:0≤i∧i<m)(hb:o+sz*(i.toNat+1)≤N)
  (h:∀ys o',o'=o+i.toNat*sz→Cells w b o' (ints .u8 ys)→Arr .u8 sz ys→RS P ops K rest (l.set d (.pointer (some ⟨b,o',none⟩))) w):
  RS P ops K (⟨some d, .indexAddr xt x y,ty,pos,af,none⟩::rest) l w:=by
 rw[Nat.mul_add,Nat.mul_one,Nat.mul_comm]at hb;obtain⟨ys,h1,h2⟩:=hU.cells (o+i.toNat*sz) sz (by omega);exact RS.o (D.indexAddr hx hy hu hs (by omega) hA hi) (h ys _ rfl h1 h2) rfl
theorem RX.idxU(hRE:∀w',R w w'→Ext w w'){b o N m cp:Nat}{A:Option Addr}{T:TypeId}(hU:UB w b N T)(hA:A=some ⟨b,o,none⟩)(hx:ev l x= .slice A m cp)(hy:ev l y= .int ki i)(hu:P.underlying xt=some (.slice e))(hs:P.cellsOf e=sz)(hz:0<sz)(hi:0≤i∧i<m)(hb:o+sz*(i.toNat+1)≤N)
  (h:∀ys o',o'=o+i.toNat*sz→(∀w',R w w'→Cells w' b o' (ints .u8 ys))→Arr .u8 sz ys→RX P ops R K restX (l.set d (.pointer (some ⟨b,o',none⟩))) w):
  RX P ops R K ((⟨some d, .indexAddr xt x y,ty,pos,af,none⟩, .q)::restX) l w:=by
 rw[Nat.mul_add,Nat.mul_one,Nat.mul_comm]at hb;obtain⟨ys,h1,h2⟩:=hU.cells (o+i.toNat*sz) sz (by omega);exact RX.o (fun w' _=>D.indexAddr hx hy hu hs (by omega) hA hi) (h ys _ rfl (fun w' hw=>h1.ext (hRE _ hw) (by rw[ints_length,h2.1];exact hz)) h2) rfl
theorem UB.splice{b N o:Nat}{T:TypeId}{vs ys:List Int}{rs:List Value}(hB:Blk w b (splice (ints .u8 vs++rs) o (ints .u8 ys)) T)(hl:vs.length=N)(hb:Bd .u8 vs)(hy:Bd .u8 ys)(ho:o+ys.length≤N):UB w b N T:=by
 rw[splice_eq _ _ _ (by simp[ints_length];omega)]at hB;refine⟨vs.take o++ys++vs.drop (o+ys.length),rs,?_,by simp;omega,((hb.take o).append hy).append (hb.drop _)⟩;rw[List.take_append_of_le_length (by rw[ints_length];omega),ints_length,List.drop_append_of_le_length (by rw[ints_length];omega),ints_take,ints_drop]at hB;rw[ints_append,ints_append];simpa [List.append_assoc]using hB
theorem RS.storeU{b o N:Nat}{T:TypeId}{ys:List Int}(hU:UB w b N T)(hx:ev l x= .pointer (some ⟨b,o,none⟩))(hy:ev l y= .agg (ints .u8 ys).toArray)(hs:P.cellsOf xt=sz)(hz:sz≠0)(hA:Arr .u8 sz ys)(ho:o+sz≤N)
  (h:∀w',St b w w'→UB w' b N T→RS P ops K rest l w'):RS P ops K (⟨none, .store xt x y,ty,pos,af,none⟩::rest) l w:=by
 obtain⟨vs,rs,hB,hl,hb⟩:=hU;have hlen:=hA.1;exact RS.storeAgg hx hy hs hz (by rw[ints_length,hlen]) cellB_ints hB (by simp[ints_length];omega) (fun w' y' N'=>h w' y' (UB.splice N' hl hb hA.2 (by omega)))
theorem zeros_cells{zc:List Value}(n:Nat)(hz:∀v∈zc,v= .int .u8 0)(hl:0<zc.length):(Builtin.zeroCells zc.toArray n).toList=ints .u8 (List.replicate (n*zc.length) 0):=by
 have hs:(Builtin.zeroCells zc.toArray n).size=n*zc.length:=by simp[Builtin.zeroCells]
 apply List.ext_getElem
 ·simp[ints_length,hs]
 intro j h1 h2;have hj:j<n*zc.length:=by simpa [hs]using h1
 have hm:j % zc.length<zc.length:=Nat.mod_lt _ hl;have:zc[j % zc.length]= .int .u8 0:=hz _ (List.getElem_mem hm);simp[Builtin.zeroCells,ints,hm,this]
theorem RS.clearU{b o N m cp by_:Nat}{A:Option Addr}{T t:TypeId}{zc:List Value}(hU:UB w b N T)(hA:A=some ⟨b,o,none⟩)(hx:ev l x= .slice A m cp)(hu:P.underlying t=some (.slice e))(ht:TI P e sz by_ zc)(hz:∀v∈zc,v= .int .u8 0)(hl:zc.length=sz)(hz0:0<sz)(ho:o+m*sz≤N)
  (h:∀w',St b w w'→UB w' b N T→RS P ops K rest l w'):RS P ops K (⟨none, .call {callee:= .builtin .clear,args:= #[x],argTypes:= #[t]},ty,pos,af,none⟩::rest) l w:=by
 subst hA;obtain⟨i,v,i1,i2,i3,i4,i5⟩:=ht;have hz1:(zeroValue e).run P w= .ok v w:=by simp[zeroValue,typeInfo,i1,i4]
 have hrun:∀w',(Builtin.clear_ #[t] ty #[.slice (some ⟨b,o,none⟩) m cp]).run P w= .ok (.tuple #[]) w'→(RS P ops K rest l w'→RS P ops K (⟨none, .call {callee:= .builtin .clear,args:= #[x],argTypes:= #[t]},ty,pos,af,none⟩::rest) l w):=by
  intro w' hr hk;refine RS.v (v:= .tuple #[]) (w':=w') rfl ?_ hk;simp[execOp,resolve,hx,invoke,builtin,hr]
 by_cases hm:m=0
 ·subst hm;exact hrun w (by simp[Builtin.clear_,run_underlying hu]) (h w (St.refl b w) hU)
 ·obtain⟨vs,rs,hB,hlv,hb⟩:=hU;have hzl:(Builtin.zeroCells v.cells m).toList=ints .u8 (List.replicate (m*sz) 0):=by rw[i5,zeros_cells m hz (by omega),hl]
  obtain⟨w1,h1,h2,h3⟩:=storeCells_blk (P:=P) (o:=o) (ints .u8 (List.replicate (m*sz) 0)) 0 _ w hB (by simp[ints_length];omega) cellB_ints;refine hrun w1 ?_ (h w1 h2 (UB.splice (o:=o) (by simpa using h3) hlv hb (Bd.zeros _ _) (by simp;omega)));have hm':∃m',m=m'+1:=⟨m - 1,by omega⟩
  obtain⟨m',rfl⟩:=hm';simp[Builtin.clear_,run_underlying hu,hz1,hzl,h1]
end
theorem Blk.bel{w w':World}{b N:Nat}{cs:List Value}{T:TypeId}(h:Blk w b cs T)(k:Below N w w')(hb:b<N):Blk w' b cs T:=by
 unfold Blk;rw[k.block b hb];exact h
section
variable{P:Program}{ops:Array Oper}{K:List Value→World→Prop}{rest:List Oper}{l:List Value}{w:World}{d:Tmp}{dd:Option Tmp}{ty xt yt:TypeId}{pos:String}{af:Array Edge}{g:Option (Nat×Bool)}{x y:Operand}
theorem D.eqB{a b:Bool}(hx:ev l x= .bool a)(hy:ev l y= .bool b)(hu:P.underlying xt=some .bool):(execOp (ev l) ⟨dd, .binOp .eql xt x y yt,ty,pos,af,g⟩).run P w= .ok (.value (.bool (a==b))) w:=by
 have h1:=run_equal_bool (P:=P) w xt a b hu;simp only[execOp,eqGuard];rw[hx,hy];simp[binOp,h1]
theorem RS.storeAggB{b o sz:Nat}{cs vs:List Value}{T:TypeId}(hx:ev l x= .pointer (some ⟨b,o,none⟩))(hy:ev l y= .agg vs.toArray)(hs:P.cellsOf xt=sz)(hz:sz≠0)(hn:vs.length=sz)
  (hv:vs.all cellB=true)(hB:Blk w b cs T)(ho:Nat.ble (o+sz) cs.length=true)(k:∀w',St b w w'→Blk w' b (splice cs o vs) T→RS P ops K rest l w'):
  RS P ops K (⟨none, .store xt x y,ty,pos,af,none⟩::rest) l w:=
 RS.storeAgg hx hy hs hz hn (List.all_eq_true.1 hv) hB (by rw[hn];exact Nat.le_of_ble_eq_true ho) k
end
def FF(l:List Value)(ds:List Nat)(f:Nat→Value):List Value:=upd l (ds.map fun d=>(d,f d))
theorem FF_get(f:Nat→Value)(s:Nat):∀(ds:List Nat) (l:List Value),(FF l ds f)[s]? =if s∈ds∧s<l.length then some (f s)else l[s]?
 |[],l=>by simp[FF,upd]
 |d::ds,l=>by
  have ih:=FF_get f s ds (l.set d (f d));unfold FF at ih⊢;simp only[List.map_cons,upd];rw[ih,List.length_set];by_cases h:s∈ds∧s<l.length
  ·rw[if_pos h,if_pos ⟨by simp[h.1],h.2⟩]
  ·rw[if_neg h,List.getElem?_set];by_cases hd:d=s
   ·subst hd;by_cases hl:d<l.length
    ·simp[hl]
    ·simp[hl]
   ·have hd':¬s=d:=fun e=>hd e.symm;have hns:¬((s=d∨s∈ds)∧s<l.length):=fun e=>h ⟨e.1.resolve_left hd',e.2⟩;simp only[hd,if_false,List.mem_cons];rw[if_neg hns]
theorem FF_len(f:Nat→Value):∀(ds:List Nat) (l:List Value),(FF l ds f).length=l.length
 |[],l=>rfl
 |d::ds,l=>by
  have ih:=FF_len f ds (l.set d (f d));unfold FF at ih⊢;simp only[List.map_cons,upd];rw[ih,List.length_set]
theorem FF_set(l:List Value)(ds:List Nat)(f:Nat→Value)(d:Nat)(v:Value)(hd:d∈ds):(FF l ds f).set d v=FF l ds (fun s=>if s=d then v else f s):=by
 apply List.ext_getElem?;intro s;rw[List.getElem?_set,FF_get,FF_get,FF_len];by_cases h:d=s
 ·subst h;by_cases hl:d<l.length<;>simp[hl,hd]
 ·have h':¬s=d:=fun e=>h e.symm;simp[h,h']
theorem FF_id(l:List Value)(ds:List Nat):FF l ds (fun s=>l.getD s undef)=l:=by
 apply List.ext_getElem?;intro s;rw[FF_get];split
 ·rename_i h;simp[List.getD_eq_getElem?_getD,List.getElem?_eq_getElem h.2]
 ·rfl
def LS(m n:Nat):Array Bool:=(List.replicate m true++List.replicate (n - m) false).toArray
def cntU(m:Nat)(listed:Array Bool):Nat:=(List.range m).countP fun i=> !listed.getD i false
def phaseB(l0:List Oper)(m:Nat)(ds:List Nat):Bool:=
 Nat.ble m l0.length&&(List.range m).all (fun i=>(nth l0 i).dst==some (ds.getD i 0)&&(nth l0 i).guard.isNone&&(nth l0 i).after.all fun e=> !Region.binds .any e||Nat.blt e.on i)&&
 ds.length==m&&
 (List.range l0.length).all fun i=>Nat.blt i m||(match ancL l0.toArray 5000 (depsL l0.toArray i) []with|anc=>(List.range m).all fun s=>anc.any (Nat.beq s))
theorem nth_mem_range{l0:List Oper}{i:Nat}(h:i<l0.length):l0.toArray[i]? =some (nth l0 i):=by simpa using nth_get l0 i h
theorem countP_set(m:Nat)(listed:Array Bool)(i:Nat)(him:i<m)(hin:i<listed.size)(hf:listed.getD i false=false):cntU m listed=cntU m (listed.setIfInBounds i true)+1:=by
 have e:∀j,(!(listed.setIfInBounds i true).getD j false)=if j=i then false else !listed.getD j false:=by
  intro j;split
  ·rename_i h;subst h;simp[hin]
  ·rename_i h;rw[getD_set_ne false (Ne.symm h)]
 unfold cntU;have hsum:∀(xs:List Nat),xs.Nodup→i∈xs→xs.countP (fun j=> !listed.getD j false)=xs.countP (fun j=>if j=i then false else !listed.getD j false)+1:=by
  intro xs
  induction xs with
  |nil=>intro _ h;cases h
  |cons x xs ih=>
   intro hn hi;rw[List.nodup_cons]at hn;by_cases hx:x=i
   ·subst hx;have:xs.countP (fun j=> !listed.getD j false)=xs.countP (fun j=>if j=x then false else !listed.getD j false):=by
     apply List.countP_congr;intro j hj;have:j≠x:=fun e=>hn.1 (e▸hj);simp[this]
    rw[List.countP_cons,List.countP_cons,this];simp[hf]
   ·have:=ih hn.2 (by rcases List.mem_cons.1 hi with h|h;exact absurd h.symm hx;exact h);rw[List.countP_cons,List.countP_cons,this];simp only[hx,if_false];omega
 rw[hsum _ List.nodup_range (by simpa using him)];congr 2;funext j;rw[e j]
section
variable{P:Program}{bg:List Nat}{Q:Act→World→Prop}
theorem phase{l0:List Oper}{m k:Nat}{ds:List Nat}{l:List Value}{w0:World}{Φ:Nat→Value→World→Prop}(hB:phaseB l0 m ds=true)
  (hΦ:∀i v w w',Φ i v w→Ext w w'→Φ i v w')
  (hstep:∀i,i<m→∀(f:Nat→Value) w',Ext w0 w'→(∀j∈depsL l0.toArray i,Φ j (f (ds.getD j 0)) w')→RS P l0.toArray (fun l'' w''=>∃v,l''=(FF l ds f).set (ds.getD i 0) v∧Ext w' w''∧Φ i v w'') [nth l0 i] (FF l ds f) w')
  (hnd:ds.Nodup)
  (hend:∀(f:Nat→Value) w',Ext w0 w'→(∀i,i<m→Φ i (f (ds.getD i 0)) w')→wpX P l0.toArray Ext bg Q k (LS m l0.length) (fr (FF l ds f)) w'):
  ∀(c:Nat) (listed:Array Bool) (f:Nat→Value) (w':World),cntU m listed=c→listed.size=l0.length→(∀i,m≤i→listed.getD i false=false)→Closed l0.toArray listed→Ext w0 w'→
   (∀i,i<m→listed.getD i false=true→Φ i (f (ds.getD i 0)) w')→wpX P l0.toArray Ext bg Q (c+k) listed (fr (FF l ds f)) w':=by
 simp only[phaseB,Bool.and_eq_true]at hB;obtain⟨⟨⟨hmn,hB1⟩,hdl⟩,hB2⟩:=hB;have hmn:=Nat.le_of_ble_eq_true hmn;have hdl:ds.length=m:=by simpa using hdl
 have dmem:∀i,i<m→ds.getD i 0∈ds:=by
  intro i hi;rw[List.getD_eq_getElem?_getD,List.getElem?_eq_getElem (by omega)];exact List.getElem_mem _
 have dinj:∀i j,i<m→j<m→ds.getD i 0=ds.getD j 0→i=j:=by
  intro i j hi hj h;rw[List.getD_eq_getElem?_getD,List.getD_eq_getElem?_getD,List.getElem?_eq_getElem (by omega),List.getElem?_eq_getElem (by omega)]at h;exact(List.getElem_inj hnd).1 (by simpa using h)
 have one:∀i,i<m→(nth l0 i).dst=some (ds.getD i 0)∧(nth l0 i).guard=none∧∀e∈(nth l0 i).after,Region.binds .any e=true→e.on<i:=by
  intro i hi;have:=List.all_eq_true.1 hB1 i (by simpa using hi);simp only[Bool.and_eq_true,beq_iff_eq,Array.all_eq_true_iff_forall_mem,Bool.or_eq_true,Bool.not_eq_true',Option.isNone_iff_eq_none]at this;refine⟨this.1.1,this.1.2,fun e he hb=>?_⟩;rcases this.2 e he with h|h
  ·rw[hb]at h;cases h
  ·simpa [Nat.blt_eq]using h
 intro c
 induction c with
 |zero=>
  intro listed f w' hc hsz hhi hcl hx hF;have hall:∀i,i<m→listed.getD i false=true:=by
   intro i hi;have:=List.countP_eq_zero.1 hc i (by simpa using hi);simpa using this
  have hL:listed=LS m l0.length:=by
   apply Array.ext
   ·simp[LS,hsz];omega
   intro i h1 h2;by_cases him:i<m
   ·have:=hall i him;simp[h1]at this;rw[this];simp[LS,him]
   ·have:=hhi i (by omega);simp[h1]at this;rw[this];simp[LS,List.getElem_append,him]
  rw[hL,Nat.zero_add];exact hend f w' hx (fun i hi=>hF i hi (hall i hi))
 |succ c ih=>
  intro listed f w' hc hsz hhi hcl hx hF
  -- what comes up is among the first
  have hrd:∀j,j∈Region.ready .any l0.toArray listed→j<m:=by
   intro j hj;obtain⟨hj0,oj,hoj,hja⟩:=mem_ready.1 hj;have hjn:j<l0.length:=by simpa using(Array.getElem?_eq_some_iff.1 hoj).1
   rcases Nat.lt_or_ge j m with h|h
   ·exact h
   ·exfalso;have h2:=List.all_eq_true.1 hB2 j (by simpa using hjn);have h3:Nat.blt j m=false:=by
     rw[Bool.eq_false_iff];intro e;rw[Nat.blt_eq]at e;omega
    rw[h3,Bool.false_or]at h2;have hz:cntU m listed=0:=by
     unfold cntU;rw[List.countP_eq_zero];intro s hs;have h4:=List.all_eq_true.1 h2 s hs;obtain⟨q,hq,hqs⟩:=List.any_eq_true.1 h4;obtain rfl:=Nat.eq_of_beq_eq_true hqs
     have := ancL_spec hcl 5000 (depsL l0.toArray j) [] (fun i hi => by
      unfold depsL at hi
      rw [hoj] at hi
      obtain ⟨e, he, rfl⟩ := List.mem_map.1 hi
      rw [List.mem_filter] at he
      exact hja e (by simpa using he.1) he.2) (fun i hi => by cases hi) _ hq
     simp[this]
    omega
  rw[show c+1+k=(c+k)+1 by omega];refine⟨fun h0=>?_,fun i hi=>?_⟩
  ·-- something comes up
   exfalso;have hex:∃s,s<m∧listed.getD s false=false:=by
    have hp:0<(List.range m).countP fun i=> !listed.getD i false:=by unfold cntU at hc;omega
    obtain⟨s,hs,h⟩:=List.countP_pos_iff.1 hp;exact⟨s,by simpa using hs,by simpa using h⟩
   obtain⟨s,hs,hmin⟩:∃s,(s<m∧listed.getD s false=false)∧∀t,t<s→listed.getD t false=true:=by
    obtain⟨s,hs⟩:=hex
    induction s using Nat.strongRecOn with
    |_ s ihs=>
     by_cases h:∃t,t<s∧listed.getD t false=false
     ·obtain⟨t,ht,hf⟩:=h;exact ihs t ht ⟨by omega,hf⟩
     ·refine⟨s,hs,fun t ht=>?_⟩;cases hb:listed.getD t false
      ·exact absurd ⟨t,ht,hb⟩ h
      ·rfl
   have:s∈Region.ready .any l0.toArray listed:=by
    refine mem_ready.2 ⟨?_,nth l0 s,nth_mem_range (by omega),fun e he hb=>hmin _ ((one s hs.1).2.2 e he hb)⟩;have:=hs.2;have hlt:s<listed.size:=by omega
    simp[hlt]at this⊢;exact this
   rw[h0]at this;cases this
  ·have him:=hrd i hi;obtain⟨h1,h2,h3⟩:=one i him;obtain⟨hi0,oi,hoi,hia⟩:=mem_ready.1 hi;rw[nth_mem_range (by omega)]at hoi;obtain rfl:=Option.some.inj hoi;have hif:listed.getD i false=false:=by
    have hlt:i<listed.size:=by omega
    simp[hlt]at hi0⊢;exact hi0
   have hst := hstep i him f w' hx (fun j hj => by
    unfold depsL at hj
    rw [nth_mem_range (by omega)] at hj
    obtain ⟨e, he, rfl⟩ := List.mem_map.1 hj
    rw [List.mem_filter] at he
    have he1 : e ∈ (nth l0 i).after := by simpa using he.1
    have hlt := h3 e he1 he.2
    exact hF _ (by omega) (hia e he1 he.2))
   unfold RS at hst;unfold xOp;rw[nth_mem_range (by omega)];have hwn:Region.wanted (nth l0 i) (yielded l0.toArray (fr (FF l ds f)).tmps)=true:=by simp[Region.wanted,h2]
   simp only[hwn,if_true];rw[if_pos (by simp[Region.wanted,h2])]at hst;unfold Oper.wp at hst⊢;refine upon_mono ?_ (fun _ _ _ h=>h) hst;rintro a' w'' ⟨l'',rfl,v,rfl,hx2,hv⟩;refine⟨fun _=>hx2,?_⟩;rw[FF_set _ _ _ _ _ (dmem i him)];refine ih _ _ w'' ?_ (by simp[hsz]) ?_ (hcl.set hi) (hx.tr hx2) ?_
   ·have:=countP_set m listed i him (by omega) hif;omega
   ·intro j hj;rw[getD_set_ne false (by omega)];exact hhi j hj
   ·intro j hj hl;by_cases hji:j=i
    ·subst hji;simpa using hv
    ·have hne:¬ds.getD j 0=ds.getD i 0:=fun e=>hji (dinj j i hj him e);rw[if_neg hne];rw[getD_set_ne false (Ne.symm hji)]at hl;exact hΦ _ _ _ _ (hF j hj hl) hx2
def stepsM(P:Program)(l0:List Oper)(ds:List Nat)(l:List Value)(w0:World)(Φ:Nat→Value→World→Prop):List Nat→Prop
 |[]=>True
 |i::r=>(∀(f:Nat→Value) w',Ext w0 w'→(∀j∈depsL l0.toArray i,Φ j (f (ds.getD j 0)) w')→RS P l0.toArray (fun l'' w''=>∃v,l''=(FF l ds f).set (ds.getD i 0) v∧Ext w' w''∧Φ i v w'') [nth l0 i] (FF l ds f) w')∧stepsM P l0 ds l w0 Φ r
theorem stepsM_mem{l0:List Oper}{ds:List Nat}{l:List Value}{w0:World}{Φ:Nat→Value→World→Prop}:∀ {is:List Nat},stepsM P l0 ds l w0 Φ is→∀i∈is,(∀(f:Nat→Value) w',Ext w0 w'→(∀j∈depsL l0.toArray i,Φ j (f (ds.getD j 0)) w')→RS P l0.toArray (fun l'' w''=>∃v,l''=(FF l ds f).set (ds.getD i 0) v∧Ext w' w''∧Φ i v w'') [nth l0 i] (FF l ds f) w')
 |[],_,i,hi=>by cases hi
 |j::r,h,i,hi=>by
  rcases List.mem_cons.1 hi with rfl|hi
  ·exact h.1
  ·exact stepsM_mem h.2 i hi
def allM(Φ:Nat→Value→World→Prop)(ds:List Nat)(f:Nat→Value)(w:World):List Nat→Prop
 |[]=>True
 |i::r=>Φ i (f (ds.getD i 0)) w∧allM Φ ds f w r
theorem allM_of{Φ:Nat→Value→World→Prop}{ds:List Nat}{f:Nat→Value}{w:World}:∀ {is:List Nat},(∀i∈is,Φ i (f (ds.getD i 0)) w)→allM Φ ds f w is
 |[],_=>trivial
 |i::r,h=>⟨h i (by simp),allM_of fun j hj=>h j (by simp[hj])⟩
theorem regionM{id:Nat}{l0:List Oper}{Q:Exit→Act→World→Prop}{l:List Value}{w:World}(m:Nat)(ds:List Nat)(Φ:Nat→Value→World→Prop)(plan:List (Nat×Kd)){pl:List (Oper×Kd)}(hm:P.follows .mixedOrders=true)
  (hB:(Region.noSelect l0.toArray&&phaseB l0 m ds&&(decide ds.Nodup&&Nat.beq (m+plan.length) l0.length&&planB l0.toArray (frees plan) (endB l0.toArray) plan (LS m l0.length)))=true)
  (hΦ:∀i v w w',Φ i v w→Ext w w'→Φ i v w')
  (hs:∀w',Ext w w'→stepsM P l0 ds l w' Φ (List.range m))
  (h:∀f w',Ext w w'→allM Φ ds f w' (List.range m)→RX P l0.toArray Ext (fun l w=>Q .normal (fr l) w) pl (FF l ds f) w')(hp:pick l0 plan=pl:=by dsimp only[pick,nth]):(Code.region id l0.toArray true).wp P Q (fr l) w:=by
 subst hp;simp only[Bool.and_eq_true,decide_eq_true_eq]at hB;obtain⟨⟨hsel,hph⟩,⟨hnd,hl⟩,hpl⟩:=hB;have hl:=Nat.eq_of_beq_eq_true hl;refine wp_region_any hm ?_;have hx0:Ext w {w with drawn:=w.drawn+1}:=(Below.refl _ _).drew;have key:=phase (P:=P) (bg:=bigs plan) (Q:=fun a w=>∃l,a=fr l∧Q .normal (fr l) w) (k:=0+plan.length) (w0:= {w with drawn:=w.drawn+1}) hph hΦ
  (fun i hi=>stepsM_mem (hs _ hx0) i (by simpa using hi)) hnd
  (fun f w' hx hF => rx_list (R := Ext) (K := fun l w => Q .normal (fr l) w) (n := 0) (en := endB l0.toArray) (Qx := fun a w => ∃ l, a = fr l ∧ Q .normal (fr l) w) (fun listed l w _ he hk => ⟨by simpa [endB] using he, l, rfl, hk⟩) Ext.refl (fun h k => h.tr k) hsel (fun j hj => bigB_spec (planB_big plan _ hpl j hj)) plan (LS m l0.length) _ w' (by
   -- the first ones are closed
   have hph2 := hph
   simp only [phaseB, Bool.and_eq_true] at hph2
   obtain ⟨⟨⟨hmn, hB1⟩, _⟩, _⟩ := hph2
   have hmn := Nat.le_of_ble_eq_true hmn
   have hg : ∀ i, (LS m l0.length).getD i false = decide (i < m) := by
    intro i
    by_cases him : i < m
    ·have : i < l0.length := by omega
     simp [LS, him]
     rw [List.getElem?_append_left (by simpa using him)]
     simp [him]
    ·simp only [him, decide_false]
     simp only [LS, Array.getD_eq_getD_getElem?]
     simp [List.getElem?_append, him, List.getElem?_replicate]
     split <;> simp
   intro q oq hq hlq e he hb
   rw [hg] at hlq ⊢
   have hqm : q < m := by simpa using hlq
   rw [nth_mem_range (by omega)] at hq
   obtain rfl := Option.some.inj hq
   have := List.all_eq_true.1 hB1 q (by simpa using hqm)
   simp only [Bool.and_eq_true, Array.all_eq_true_iff_forall_mem, Bool.or_eq_true, Bool.not_eq_true'] at this
   rcases this.2 e he with h5 | h5
   ·rw [hb] at h5; cases h5
   ·rw [Nat.blt_eq] at h5
    simp; omega) (fun i hi => (mem_bigs plan i).1 hi) (fun i hi => mem_frees plan i hi) hpl (h f w' (hx0.tr hx) (allM_of fun i hi => hF i (by simpa using hi))))
  (cntU m (Array.replicate l0.length false)) (Array.replicate l0.length false) (fun s=>l.getD s undef) {w with drawn:=w.drawn+1} rfl (by simp)
  (by intro i _;simp[Array.getElem?_replicate];split<;>simp) (by intro k ok _ h;exfalso;simp[Array.getElem?_replicate]at h;split at h<;>simp at h) (Ext.refl _) (by intro i _ h;exfalso;simp[Array.getElem?_replicate]at h;split at h<;>simp at h)
 rw[FF_id,Nat.zero_add]at key;have hcnt:cntU m (Array.replicate l0.length false)=m:=by
  unfold cntU;rw[List.countP_eq_length.2 (fun i _=>by simp[Array.getElem?_replicate];split<;>simp),List.length_range]
 rw[hcnt,hl]at key;have h2:=wpAny_of_X (Q':=Q) (R:=Ext) (fun a w h=>by obtain⟨l,rfl,h⟩:=h;exact h) l0.length (Array.replicate l0.length false) (fr l) _ key;simpa using h2
end
theorem yielded_fr{l0:List Oper}{l:List Value}{j:Nat}{s:Nat}{b:Bool}(hj:(l0[j]?).bind (·.dst)=some s)(hl:l.getD s undef= .bool b)(hs:Nat.ble (s+1) l.length=true):yielded l0.toArray l.toArray j=some b:=by
 have hs':=Nat.le_of_ble_eq_true hs;have e1:(l0.toArray[j]?).bind (·.dst)=some s:=by simpa using hj
 have e2:l.toArray[s]? =some (.bool b):=by
  rw[List.getD_eq_getElem?_getD,List.getElem?_eq_getElem (by omega)]at hl;rw[List.getElem?_toArray,List.getElem?_eq_getElem (by omega)];simpa using hl
 unfold yielded;rw[e1,Option.bind_some,e2]
theorem D.fieldL{P:Program}{l:List Value}{w:World}{dd:Option Tmp}{ty xt:TypeId}{pos:String}{af:Array Edge}{g:Option (Nat×Bool)}{x:Operand}{b o i sz:Nat}{fs:Array Field}{f:Field}(off:Nat)(hx:ev l x= .pointer (some ⟨b,o,none⟩))(hu:P.underlying xt=some (.struct fs))(hf:fs[i]? =some f)(hs:P.cellsOf f.type=sz)(hz:sz≠0)(ho:o+f.offset=off):
  (execOp (ev l) ⟨dd, .fieldAddr xt x i,ty,pos,af,g⟩).run P w= .ok (.value (.pointer (some ⟨b,off,none⟩))) w:=by
 subst ho;exact D.fieldAddr hx hu hf hs hz
section
variable{P:Program}{l0:List Oper}{R:World→World→Prop}{K:List Value→World→Prop}{rest:List Oper}{restX:List (Oper×Kd)}{l:List Value}{w:World}{d:Option Tmp}{op:Op}{ty:TypeId}{pos:String}{af:Array Edge}{j:Nat}{t b:Bool}{kd:Kd}
theorem RS.wantB(s:Nat)(hj:(l0[j]?).bind (·.dst)=some s)(hl:l.getD s undef= .bool t)(hs:Nat.ble (s+1) l.length=true)
  (k:RS P l0.toArray K (⟨d,op,ty,pos,af,none⟩::rest) l w):RS P l0.toArray K (⟨d,op,ty,pos,af,some (j,t)⟩::rest) l w:=RS.want (yielded_fr hj hl hs) k
theorem RS.skipB(s:Nat)(hj:(l0[j]?).bind (·.dst)=some s)(hl:l.getD s undef= .bool b)(hs:Nat.ble (s+1) l.length=true)(hb:(b==t)=false)
  (k:RS P l0.toArray K rest (putL d undef l) w):RS P l0.toArray K (⟨d,op,ty,pos,af,some (j,t)⟩::rest) l w:=RS.skip (by rw[yielded_fr hj hl hs];simpa using hb) k
theorem RX.wantB(s:Nat)(hj:(l0[j]?).bind (·.dst)=some s)(hl:l.getD s undef= .bool t)(hs:Nat.ble (s+1) l.length=true)
  (k:RX P l0.toArray R K ((⟨d,op,ty,pos,af,none⟩,kd)::restX) l w):RX P l0.toArray R K ((⟨d,op,ty,pos,af,some (j,t)⟩,kd)::restX) l w:=RX.want (yielded_fr hj hl hs) k
theorem RX.skipB(s:Nat)(hj:(l0[j]?).bind (·.dst)=some s)(hl:l.getD s undef= .bool b)(hs:Nat.ble (s+1) l.length=true)(hb:(b==t)=false)
  (k:RX P l0.toArray R K restX (putL d undef l) w):RX P l0.toArray R K ((⟨d,op,ty,pos,af,some (j,t)⟩,kd)::restX) l w:=RX.skip (by rw[yielded_fr hj hl hs];simpa using hb) k
end
structure KArr(k:IntKind)(w:World)(b n:Nat)(xs:List Int)(T:TypeId):Prop where
 cells:Cells w b 0 (ints k xs)
 len:xs.length=n
 bd:Bd k xs
 lt:b<w.heap.size
section
variable{k:IntKind}{w w':World}{b n m:Nat}{xs:List Int}{T:TypeId}{S:Nat→Prop}
theorem KArr.ext(h:KArr k w b n xs T)(x:Ext w w'):KArr k w' b n xs T:=⟨h.cells.of_block (x.block b h.lt),h.len,h.bd,Nat.lt_of_lt_of_le h.lt x.size⟩
theorem KArr.st(h:KArr k w b n xs T)(x:St m w w')(hn:b≠m):KArr k w' b n xs T:=⟨h.cells.of_block (x.block b hn),h.len,h.bd,by rw[x.size];exact h.lt⟩
theorem KArr.pr(h:KArr k w b n xs T)(x:Pr S w w')(hn:¬S b):KArr k w' b n xs T:=⟨h.cells.of_block (x.block b h.lt hn),h.len,h.bd,Nat.lt_of_lt_of_le h.lt x.size⟩
theorem KArr.at_(h:KArr k w b n xs T){i:Nat}(hi:i<n):w.cell? ⟨b,i,none⟩=some (.int k (xs.getD i 0)):=by
 have hl:=h.len;have:=h.cells i (by rw[ints_length];omega);rw[Nat.zero_add]at this;rw[this,ints_getD _ _ _ (by omega)]
end
section
variable{P:Program}{ops:Array Oper}{R:World→World→Prop}{K:List Value→World→Prop}{rest:List Oper}{restX:List (Oper×Kd)}{l:List Value}{w:World}{d:Tmp}{ty:TypeId}{pos:String}{af:Array Edge}
theorem RS.idxK{x y:Operand}{xt e b n:Nat}{k ki:IntKind}{xs:List Int}{T:TypeId}{i:Int}(hA:KArr k w b n xs T)(hx:ev l x= .pointer (some ⟨b,0,none⟩))(hy:ev l y= .int ki i)(hu:P.underlying xt=some (.array n e))(hs:P.cellsOf e=1)
  (hi:0≤i∧i<n)(h:∀v,w.cell? ⟨b,i.toNat,none⟩=some (.int k v)→v=xs.getD i.toNat 0→0≤v∧v<lim k→RS P ops K rest (l.set d (.pointer (some ⟨b,i.toNat,none⟩))) w):
  RS P ops K (⟨some d, .indexAddr xt x y,ty,pos,af,none⟩::rest) l w:=by
 have e1:(⟨b,0+i.toNat*1,none⟩:Addr)=⟨b,i.toNat,none⟩:=by simp
 have:=D.indexArr (d:=some d) (ty:=ty) (pos:=pos) (af:=af) (g:=none) (w:=w) hx hy hu hs (by decide) hi;rw[e1]at this;exact RS.o this (h _ (hA.at_ (by omega)) rfl (hA.bd.get _)) rfl
theorem RX.idxK{x y:Operand}{xt e b n:Nat}{k ki:IntKind}{xs:List Int}{T:TypeId}{i:Int}(hRE:∀w',R w w'→Ext w w')(hA:KArr k w b n xs T)(hx:ev l x= .pointer (some ⟨b,0,none⟩))(hy:ev l y= .int ki i)(hu:P.underlying xt=some (.array n e))(hs:P.cellsOf e=1)
  (hi:0≤i∧i<n)(h:∀v,(∀w',R w w'→w'.cell? ⟨b,i.toNat,none⟩=some (.int k v))→v=xs.getD i.toNat 0→0≤v∧v<lim k→RX P ops R K restX (l.set d (.pointer (some ⟨b,i.toNat,none⟩))) w):
  RX P ops R K ((⟨some d, .indexAddr xt x y,ty,pos,af,none⟩, .q)::restX) l w:=by
 have e1:(⟨b,0+i.toNat*1,none⟩:Addr)=⟨b,i.toNat,none⟩:=by simp
 refine RX.o (fun w' _=>?_) (h _ (fun w' hw=>(hA.ext (hRE _ hw)).at_ (by omega)) rfl (hA.bd.get _)) rfl;rw[←e1];exact D.indexArr hx hy hu hs (by decide) hi
end
section
variable{P:Program}{ops:Array Oper}{K:List Value→World→Prop}{rest:List Oper}{l:List Value}{w:World}{d:Tmp}{ty:TypeId}{pos:String}{af:Array Edge}
theorem Cells.take{b o n:Nat}{k:IntKind}{ys:List Int}(h:Cells w b o (ints k ys))(hn:n≤ys.length):Cells w b o (ints k (ys.take n)):=by
 intro j hj;rw[ints_length,List.length_take]at hj;rw[h j (by rw[ints_length];omega),ints_getD _ _ _ (by omega),ints_getD _ _ _ (by rw[List.length_take];omega)];simp[List.getD_eq_getElem?_getD,show j<n by omega]
end
theorem yielded_und{l0:List Oper}{l:List Value}{j:Nat}{s:Nat}(hj:(l0[j]?).bind (·.dst)=some s)(hl:l.getD s undef=undef)(hs:Nat.ble (s+1) l.length=true):yielded l0.toArray l.toArray j=none:=by
 have hs':=Nat.le_of_ble_eq_true hs;have e1:(l0.toArray[j]?).bind (·.dst)=some s:=by simpa using hj
 have e2:l.toArray[s]? =some undef:=by
  rw[List.getD_eq_getElem?_getD,List.getElem?_eq_getElem (by omega)]at hl;rw[List.getElem?_toArray,List.getElem?_eq_getElem (by omega)];simpa using hl
 unfold yielded;rw[e1,Option.bind_some,e2];rfl
section
variable{P:Program}{l0:List Oper}{R:World→World→Prop}{K:List Value→World→Prop}{rest:List Oper}{restX:List (Oper×Kd)}{l:List Value}{w:World}{d:Option Tmp}{op:Op}{ty:TypeId}{pos:String}{af:Array Edge}{j:Nat}{t:Bool}{kd:Kd}
theorem RS.skipU(s:Nat)(hj:(l0[j]?).bind (·.dst)=some s)(hl:l.getD s undef=undef)(hs:Nat.ble (s+1) l.length=true)
  (k:RS P l0.toArray K rest (putL d undef l) w):RS P l0.toArray K (⟨d,op,ty,pos,af,some (j,t)⟩::rest) l w:=RS.skip (by rw[yielded_und hj hl hs];rfl) k
theorem RX.skipU(s:Nat)(hj:(l0[j]?).bind (·.dst)=some s)(hl:l.getD s undef=undef)(hs:Nat.ble (s+1) l.length=true)
  (k:RX P l0.toArray R K restX (putL d undef l) w):RX P l0.toArray R K ((⟨d,op,ty,pos,af,some (j,t)⟩,kd)::restX) l w:=RX.skip (by rw[yielded_und hj hl hs];rfl) k
end
section
end
theorem IOwn.some{lo:Nat}{w:World}{e:TypeId}{k:IntKind}{n c:Nat}{a:Option Addr}{xs:List Int}(h:IOwn lo w e k a n c xs)(hn:0<n):∃g0,a=Option.some ⟨g0,0,Option.none⟩:=by
 rcases h.own.2 with⟨hv,h0⟩|⟨g,cap,cur,hv,_⟩
 ·omega
 ·simp at hv;exact⟨g,hv.1⟩
section
end
def UBo(w:World)(b N:Nat)(T:TypeId):Prop:=N=0∨UB w b N T
theorem UBo.st{w w':World}{b N m:Nat}{T:TypeId}(h:UBo w b N T)(x:St m w w')(hn:b≠m):UBo w' b N T:=h.imp_right (·.st x hn)
theorem UBo.pr{S:Nat→Prop}{w w':World}{b N:Nat}{T:TypeId}(h:UBo w b N T)(x:Pr S w w')(hn:¬S b):UBo w' b N T:=h.imp_right (·.pr x hn)
section
end
theorem flat_get{α:Type}(f:α→List Value)(sz:Nat)(hf:∀x,(f x).length=sz)(d:α):∀(l:List α) (i:Nat),i<l.length→((l.flatMap f).drop (sz*i)).take sz=f (l.getD i d)
 |[],i,h=>by simp at h
 |x::l,0,_=>by
  rw[List.flatMap_cons,Nat.mul_zero,List.drop_zero,List.take_append_of_le_length (by rw[hf];exact Nat.le_refl _),List.take_of_length_le (by rw[hf];exact Nat.le_refl _)];rfl
 |x::l,i+1,h=>by
  have:=flat_get f sz hf d l i (by simpa using h);rw[List.flatMap_cons,List.drop_append,List.drop_of_length_le (by rw[hf,Nat.mul_add];omega),List.nil_append,hf,show sz*(i+1) - sz=sz*i by rw[Nat.mul_add];omega,this];rfl
theorem flat_len{α:Type}(f:α→List Value)(sz:Nat)(hf:∀x,(f x).length=sz):∀l:List α,(l.flatMap f).length=sz*l.length
 |[]=>by simp
 |x::l=>by rw[List.flatMap_cons,List.length_append,hf,flat_len f sz hf l,List.length_cons,Nat.mul_add];omega
structure GRow{α:Type}(f:α→List Value)(sz:Nat)(S:Nat→Prop)(w:World)(a:Option Addr)(n:Nat)(l:List α):Prop where
 row:Row S w a (l.flatMap f)
 len:l.length=n
 szf:∀x,(f x).length=sz
section
variable{α:Type}{f:α→List Value}{sz:Nat}{S T:Nat→Prop}{w w':World}{a:Option Addr}{n m:Nat}{l:List α}
theorem GRow.ext(h:GRow f sz S w a n l)(x:Ext w w'):GRow f sz S w' a n l:=⟨h.row.ext x,h.len,h.szf⟩
theorem GRow.st(h:GRow f sz S w a n l)(x:St m w w')(hn:S m→False):GRow f sz S w' a n l:=⟨h.row.st x hn,h.len,h.szf⟩
theorem GRow.pr(h:GRow f sz S w a n l)(x:Pr T w w')(hn:∀b,S b→T b→False):GRow f sz S w' a n l:=⟨h.row.pr x hn,h.len,h.szf⟩
theorem GRow.of_blk{b:Nat}{cs:List Value}{e:TypeId}(B:Blk w b cs e)(hs:S b)(hc:cs=l.flatMap f)(hn:l.length=n)(hf:∀x,(f x).length=sz):GRow f sz S w (some ⟨b,0,none⟩) n l:=by
 subst hc;exact⟨Row.of_blk (n:=(l.flatMap f).length) B hs List.take_length,hn,hf⟩
theorem GRow.at_(h:GRow f sz S w a n l)(hz:0<sz)(d:α){i:Int}(hi:0≤i∧i<n):∃b o,a=some ⟨b,o,none⟩∧S b∧Cells w b (o+i.toNat*sz) (f (l.getD i.toNat d))∧l.getD i.toNat d∈l:=by
 have hl:=h.len;have hlt:i.toNat<l.length:=by omega
 have hfl:=flat_len f sz h.szf l;have h2:sz*(i.toNat+1)≤sz*l.length:=Nat.mul_le_mul_left _ hlt;rw[Nat.mul_add]at h2;obtain⟨b,o,ha,hs,hc⟩:=h.row.part (sz*i.toNat) sz (by omega) hz;rw[flat_get f sz h.szf d l _ hlt]at hc;refine⟨b,o,ha,hs,?_,?_⟩
 ·rwa[Nat.mul_comm i.toNat sz]
 ·rw[List.getD_eq_getElem?_getD,List.getElem?_eq_getElem hlt];exact List.getElem_mem hlt
end
section
end
end G
end Go.Proofs.YtjjbdaiioociaaaGreatDoor
