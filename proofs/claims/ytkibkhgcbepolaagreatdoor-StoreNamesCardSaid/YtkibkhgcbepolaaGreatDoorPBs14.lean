/-
  Part 14 of the lemmas of these laws: StoreNames.
-/
import Derived.Test.YtkibkhgcbepolaaGreatDoorPBs13
set_option linter.unusedVariables false
set_option linter.unusedSimpArgs false
open Go.Proofs.Tryz
namespace Go.Proofs.YtkibkhgcbepolaaGreatDoor
namespace G
open Go.RowKit
abbrev FW(ro:Option Nat):Fence:= {Fence.wide with round:=ro}
def noDef(o:Oper):Bool:=match o.op with
 | .defer _=>false
 |_=>true
theorem noDef_ne{o:Oper}(h:noDef o=true)(c:Call):o.op≠ .defer c:=fun e=>by
 unfold noDef at h;rw[e]at h;cases h
section
variable{P:Program}{ops:Array Oper}{K:List Value→World→Prop}{Q:Exit→Act→World→Prop}{n:Nat}{ro:Option Nat}{ds:List Deferred}
theorem callsW{f:FuncId}{args:Array Value}{w:World}{R:Ending→World→Prop}(h:Calls P f args w R):CallsIn (FW ro) n P f args w R:=(callsIn_wide (n:=n)).2 h
theorem rowsW{row:String}{args:Array Value}{w:World}{R:Value→World→Prop}(h:Rows P row args w R):RowsIn (FW ro) n P row args w R:=fun c cs _=>let ⟨v,w',r,s⟩:=h c cs;⟨v,w',r,(stepsIn_wide (P:=P)).2 s⟩
theorem fr_inj{l l':List Value}(h:fr l=fr l'):l=l':=List.toArray_inj (congrArg Act.tmps h)
theorem put_ds(l:List Value)(d:Option Tmp)(v:Value):(⟨l.toArray,ds⟩:Act).put d v=⟨(putL d v l).toArray,ds⟩:=by cases d<;>simp[Act.put,putL]
theorem uponW{o:Oper}{l:List Value}{nx nx':Act→World→Prop}(hn:∀l' w',nx (fr l') w'→nx' ⟨l'.toArray,ds⟩ w'){r:Result Next}(h:o.upon P (fr l) (fun a' w'=>∃l',a'=fr l'∧nx (fr l') w') (fun _ _ _=>False) r):o.uponIn (FW ro) n P ⟨l.toArray,ds⟩ nx' Q r:=by
 have put1:∀v w',(∃l',(fr l).put o.dst v=fr l'∧nx (fr l') w')→nx' ((⟨l.toArray,ds⟩:Act).put o.dst v) w':=fun v w' ⟨l',e,k⟩=>by
  rw[put_fr]at e;rw[put_ds,fr_inj e];exact hn l' w' k
 cases r with
 |ok x w=>
  cases x with
  |value v=>exact put1 v w h
  |skip=>exact put1 undef w h
  |defer d=>
   obtain⟨l',e,_⟩:=h;have:({fr l with defers:=d::(fr l).defers}:Act).put o.dst undef=fr l':=e;have e2:=congrArg Act.defers this;cases hd:o.dst<;>simp[hd,Act.put,fr]at e2
  |enter f args=>
   refine⟨fun h=>absurd (show(none:Option Nat).isSome=true from h) (by decide),?_⟩;have h:Calls P f args w _:=h;refine callsW (h.mono fun e w' he=>?_);cases e with
   |returned v=>exact put1 v w' he
   |panicked chain=>exact he.elim
   |outgrown=>
    obtain⟨a,w,k⟩:=he;exact k.elim
  |row row args=>
   refine⟨fun h=>absurd (show(none:Option Nat).isSome=true from h) (by decide),?_⟩;have h:Rows P row args w _:=h;exact rowsW (fun c cs=>let ⟨v,w',r,s⟩:=h c cs;⟨v,w',put1 v w' r,s⟩)
  |_=>exact h.elim
 |halt x w=>cases x<;>exact h.elim
theorem eval_ds(l:List Value):(⟨l.toArray,ds⟩:Act).eval=ev l:=by
 rw[←eval_fr];funext x;cases x<;>rfl
theorem rs_in{tail:List Oper}:∀(pre:List Oper) (l:List Value) (w:World),pre.all noDef=true→RS P ops K pre l w→(∀l' w',K l' w'→wpListIn (FW ro) n P ops Q tail ⟨l'.toArray,ds⟩ w')→wpListIn (FW ro) n P ops Q (pre++tail) ⟨l.toArray,ds⟩ w
 |[],l,w,_,h,k=>k l w h
 |o::rest,l,w,hn,h,k=>by
  rw[List.all_cons,Bool.and_eq_true]at hn;unfold RS at h;rw[List.cons_append];unfold wpListIn;split
  ·rename_i hw;rw[if_pos (by exact hw)]at h;refine⟨fun _ _=>trivial,?_⟩;rw[Oper.semAt_eq _ _ _ (noDef_ne hn.1),eval_ds];unfold Oper.wp at h;rw[eval_fr]at h;refine uponW (nx:=fun a' w'=>∃l',a'=fr l'∧RS P ops K rest l' w') (fun l' w' ⟨l2,e,r⟩=>?_) (upon_mono (fun a w' ⟨l',e,r⟩=>⟨l',e,l',rfl,r⟩) (fun _ _ _ h=>h) h);obtain rfl:=fr_inj e;exact rs_in rest l' w' hn.2 r k
  ·rename_i hw;rw[if_neg (by exact hw)]at h;refine⟨fun _ _=>trivial,?_⟩;rw[put_ds];exact rs_in rest _ w hn.2 h k
theorem region_ds{id:Nat}{l0:List Oper}{l:List Value}{w:World}(hn:l0.all noDef=true)(h:RS P l0.toArray (fun l w=>Q .normal ⟨l.toArray,ds⟩ w) l0 l w):(Code.region id l0.toArray false).wpIn (FW ro) n P Q ⟨l.toArray,ds⟩ w:=by
 refine wpIn_region_lit ?_;have:=rs_in (P:=P) (ro:=ro) (n:=n) (ds:=ds) (Q:=Q) (tail:=[]) l0 l w hn h (fun l' w' k=>k);rwa[List.append_nil]at this
end
/-! ### over a memory that is a list of parts -/
def Ent.defd(D:Nat):Ent:=⟨fun S w=>S D∧w.heap[D]? =some (.deferred (some [])),fun {S w w'} h k=>⟨h.1,(k D h.1 (Array.getElem?_eq_some_iff.1 h.2).1).trans h.2⟩,fun {S T w} h k=>⟨k D (Array.getElem?_eq_some_iff.1 h.2).1 h.1,h.2⟩⟩
@[reducible] def markD(D:Nat):List Deferred:=[{target:= .collected D,args:= #[]}]
def KD(ds:List Deferred)(Q:Exit→Act→World→Prop)(l:List Value)(w:World):Prop:=Q .normal ⟨l.toArray,ds⟩ w
section
variable{S0:Nat→Prop}{w0:World}{L L':List Ent}{P:Program}{Q:Exit→Act→World→Prop}{l:List Value}{x y c:Code}{o:Operand}{id:Nat}{n:Nat}{ro:Option Nat}{ds:List Deferred}{N:Act→World→Prop}
theorem J.dreg{l0:List Oper}{pl:List (Oper×Kd)}(h:J S0 w0 L (RY S0 w0 .s P l0.toArray (KD ds Q) pl l))(hn:l0.all noDef=true:=by rfl)(hp:l0.map (fun o=>(o,Kd.q))=pl:=by dsimp only[List.map]):J S0 w0 L ((Code.region id l0.toArray false).wpIn (FW ro) n P Q ⟨l.toArray,ds⟩):=fun w M=>by
 refine region_ds hn ?_;have:=h w M;subst hp;unfold RY at this;rw[List.map_map]at this;have e:(Prod.fst ∘ fun o:Oper=>(o,Kd.q))=_root_.id:=rfl;rwa[e,List.map_id]at this
theorem J.dnil{ops:Array Oper}(h:J S0 w0 L (Q .normal ⟨l.toArray,ds⟩)):J S0 w0 L (RY S0 w0 .s P ops (KD ds Q) [] l):=J.nil h
theorem J.dsq{a:Act}(h:J S0 w0 L (x.wpIn (FW ro) n P (Exit.then (y.wpIn (FW ro) n P Q) Q) a)):J S0 w0 L ((Code.seq x y).wpIn (FW ro) n P Q a):=fun w M=>wpIn_seq (h w M)
theorem J.dblk{a:Act}(h:J S0 w0 L (c.wpIn (FW ro) n P (Exit.inBlock id Q) a)):J S0 w0 L ((Code.block id c).wpIn (FW ro) n P Q a):=fun w M=>wpIn_block (h w M)
theorem J.dret{a:Act}(h:J S0 w0 L (Q .ret a)):J S0 w0 L (Code.ret.wpIn (FW ro) n P Q a):=fun w M=>wpIn_ret (h w M)
theorem J.dskip{a:Act}(h:J S0 w0 L (Q .normal a)):J S0 w0 L (Code.skip.wpIn (FW ro) n P Q a):=fun w M=>wpIn_skip (h w M)
theorem J.dife{a b:Int}(hc:ev l o= .bool (a==b))(ht:a=b→J S0 w0 L (x.wpIn (FW ro) n P Q ⟨l.toArray,ds⟩))(hf:a≠b→J S0 w0 L (y.wpIn (FW ro) n P Q ⟨l.toArray,ds⟩)):J S0 w0 L ((Code.cond o x y).wpIn (FW ro) n P Q ⟨l.toArray,ds⟩):=fun w M=>
 wpIn_cond_split (t:=a==b) ((congrFun (eval_ds l) o).trans hc) (fun h=>ht (by simpa using h) w M) (fun h=>hf (by simpa using h) w M)
theorem J.retM{D:Nat}{F:Ent→List Ent}[R:RE L (.defd D) F]{fn:Func}{Rr:Ending→World→Prop}(k:J S0 w0 (F .emp) (bodyPost P fn Rr .ret (fr l))):J S0 w0 L (bodyPostM Fence.wide n P fn Rr .ret ⟨l.toArray,markD D⟩):=fun w M=>by
 obtain⟨S,hS,⟨hD,hK⟩,hput⟩:=M.foc (R.h .emp);have hg:=grownBy_putObj' w D (.deferred none);obtain⟨_,v,h2,h3⟩:=k _ (hput (w.putObj D (.deferred none)) S ⟨hg.os,hg.tape,hg.output,hg.size,fun k hk hs=>hg.block k hk fun e=>by cases e;exact hs hD⟩ trivial fun b hb=> .inl hb);exact⟨by simp, .inl ⟨D,_,rfl,run_takeDeferred hK,⟨v,h2,h3⟩⟩⟩
theorem J.toM{fn:Func}{Rr:Ending→World→Prop}(k:J S0 w0 L (bodyPost P fn Rr .ret (fr l))):J S0 w0 L (bodyPostM Fence.wide n P fn Rr .ret (fr l)):=fun w M=>let ⟨_,v,h2,h3⟩:=k w M;⟨v,h2,h3⟩
theorem J.enterR{f:FuncId}{av:List Value}{fn:Func}{Rr:Ending→World→Prop}(u:Nat)(hf:P.funcs[f]? =some fn)(hb:fn.body=some c)(hu:fn.ntmps - av.length=u)(h:J no w0 [] (c.wp P (bodyPostM Fence.wide 9 P fn Rr) (fr l)))(hl:av++List.replicate u undef=l:=by dsimp only[List.reduceReplicate,List.cons_append,List.nil_append]):Calls P f av.toArray w0 Rr:=
 (callsIn_wide (n := 9)).1 (callsIn_of_wp_marks hf hb trivial ((wpIn_wide (n := 9)).2 (by
  subst hl
  have h2 := h w0 (Mem.first w0)
  have e : (av ++ List.replicate u undef).toArray = av.toArray ++ Array.replicate (fn.ntmps - av.toArray.size) undef := by simp [hu]
  have e2 : fr (av ++ List.replicate u undef) = { tmps := av.toArray ++ Array.replicate (fn.ntmps - av.toArray.size) undef, defers := [] } := congrArg (fun t => (⟨t, []⟩ : Act)) e
  rw [e2] at h2
  exact h2)))
end
section
variable{w w' W W':World}{B b n c:Nat}{cs:List Value}{T e:TypeId}{row:Option Nat}{a:Option Addr}{k:IntKind}{sz:Nat}{xs:List Int}{S:Nat→Prop}
theorem blk_own(h:Blk W b cs T)(hg:W.grownBy W' row)(hr:∀r,row=some r→B≤r∧∃o:Obj,W.heap[r]? =some o∧o.isCells=false):Blk W' b cs T:=by
 have hlt:=h.lt;unfold Blk at h⊢;refine(hg.block b hlt fun e=>?_).trans h;obtain⟨_,o,ho,hc⟩:=hr b e.symm;rw[h]at ho;cases ho;cases hc
theorem wown_own(h:WOwn 0 W e k sz a n c xs)(hg:W.grownBy W' row)(hr:∀r,row=some r→B≤r∧∃o:Obj,W.heap[r]? =some o∧o.isCells=false):WOwn 0 W' e k sz a n c xs:=by
 refine⟨h.own.step fun b hb hlt=>hg.block b hlt fun e2=>?_,h.bd⟩;rcases h.own.2 with⟨hv,_⟩|⟨g,cap,cur,hv,_,hgc,_⟩
 ·simp only[Value.slice.injEq]at hv;rw[hv.1]at hb;cases hb
 ·simp only[Value.slice.injEq]at hv;rw[hv.1]at hb;obtain rfl:g=b:=Option.some.inj hb;obtain⟨_,o,ho,hc⟩:=hr g e2.symm;rw[hgc]at ho;cases ho;cases hc
theorem ext_own(h:Ext w W)(hB:w.heap.size≤B)(hg:W.grownBy W' row)(hr:∀r,row=some r→B≤r∧∃o:Obj,W.heap[r]? =some o∧o.isCells=false):Ext w W':=h.grown hg h.size (fun j e=>Nat.le_trans hB (hr j e).1)
theorem keeps_pr (h : Pr S W W') (hS : ∀ b, S b → ∃ cs T, Blk W b cs T) : KeepsFrom B W W' := ⟨h.size, fun k o _ hk ho => (h.block k (Array.getElem?_eq_some_iff.1 hk).1 fun hs => by
 obtain ⟨cs, T, hb⟩ := hS k hs
 unfold Blk at hb
 rw [hb] at hk
 cases hk
 cases ho).trans hk⟩
theorem wown_cells(h:WOwn 0 W e k sz a n c xs){b:Nat}(hb:obk a=some b):∃cs T,Blk W b cs T:=by
 rcases h.own.2 with⟨hv,_⟩|⟨g,cap,cur,hv,_,hgc,_⟩
 ·simp only[Value.slice.injEq]at hv;rw[hv.1]at hb;cases hb
 ·simp only[Value.slice.injEq]at hv;rw[hv.1]at hb;obtain rfl:g=b:=Option.some.inj hb;exact⟨cur.toList,e,by unfold Blk;rw[hgc]⟩
theorem pr_ext(h:Ext w W)(k:Pr S W W')(hS:∀b,S b→w.heap.size≤b):Ext w W':=Below.trans h (k.below hS h.size)
theorem pr_no(h:Ext w W):Pr no w W:=⟨h.os,h.tape,h.output,h.size,fun k hk _=>h.block k hk⟩
end
/-! ### an iterator -/
section
variable{S0:Nat→Prop}{w0:World}{L:List Ent}{P:Program}{Q:Exit→Act→World→Prop}{l:List Value}{ops:Array Oper}{id n:Nat}{post:List Oper}
theorem J.from{X:World→Prop}{w:World}(h:J no w [] X):X w:=h w (Mem.first w)
theorem J.at{X:World→Prop}{w:World}(M:Mem S0 w0 L w)(h:J S0 w0 L X):X w:=h w M
def KY(n:Nat)(P:Program)(ops:Array Oper)(Q:Exit→Act→World→Prop)(post:List Oper)(l:List Value)(w:World):Prop:=wpListIn Fence.wide n P ops Q post (fr l) w
theorem J.regY{l0:List Oper}{pl:List (Oper×Kd)}(k n:Nat)(h:J S0 w0 L (RY S0 w0 .s P l0.toArray (KY n P l0.toArray Q post) pl l))(hn:(l0.take k).all noDef=true:=by rfl)(hp:(l0.take k).map (fun o=>(o,Kd.q))=pl:=by dsimp only[List.take,List.map])(hq:l0.drop k=post:=by dsimp only[List.drop]):J S0 w0 L ((Code.region id l0.toArray false).wp P Q (fr l)):=fun w M=>by
 refine(wpIn_wide (n:=n)).1 (wpIn_region_lit ?_);have h2:=h w M;subst hp hq;unfold RY at h2;rw[List.map_map]at h2;have e:(Prod.fst ∘ fun o:Oper=>(o,Kd.q))=_root_.id:=rfl;rw[e,List.map_id]at h2;have:=rs_in (P:=P) (ro:=none) (n:=n) (ds:=[]) (Q:=Q) (tail:=l0.drop k) (l0.take k) l w hn h2 (fun l' w' k=>k);rwa[List.take_append_drop]at this
theorem yield_step{d:Tmp}{x:Operand}{args:Array Operand}{ts:Array TypeId}{ty:TypeId}{pos:String}{af:Array Edge}{j lp:Nat}{vs:List Value}{w:World}{R:Ending→World→Prop}(hv:yielded ops l.toArray j=some true)(hx:ev l x= .func (.yield lp) #[] #[])(ha:args.toList.map (ev l)=vs)(hy:YieldAt Fence.wide (n - 1) P lp vs.toArray w R)
  (k:∀e w',R e w'→∃v,e= .returned v∧wpListIn Fence.wide n P ops Q post (fr (l.set d v)) w'):wpListIn Fence.wide n P ops Q (⟨some d, .call {callee:= .value x,args:=args,argTypes:=ts},ty,pos,af,some (j,true)⟩::post) (fr l) w:=by
 obtain⟨fn,tmps,assign,body,hy1,hy2⟩:=hy;unfold wpListIn;rw[if_pos (by simp[Region.wanted,hv])];refine⟨fun _ _=>trivial,?_⟩;have hr:(execOp (ev l) ⟨some d, .call {callee:= .value x,args:=args,argTypes:=ts},ty,pos,af,some (j,true)⟩).run P w= .ok (.round lp fn tmps assign body) w:=by
  simp only[execOp,resolve,args_map ha];rw[hx];simp[Deferred.ofValue,invoke,go_sem,hy1]
 rw[Oper.semAt_eq _ _ _ (by intro c e;cases e),eval_fr,hr];refine⟨fun h=>absurd (show(none:Option Nat).isSome=true from h) (by decide),hy2.mono fun e w' he=>?_⟩;obtain⟨v,rfl,hk⟩:=k e w' he;show wpListIn _ _ _ _ _ _ ((fr l).put (some d) v) w';rw[put_fr];exact hk
theorem yield_skip{d:Tmp}{op:Op}{ty:TypeId}{pos:String}{af:Array Edge}{j:Nat}{w:World}(hv:(yielded ops l.toArray j==some true)=false)(k:wpListIn Fence.wide n P ops Q post (fr (l.set d undef)) w):wpListIn Fence.wide n P ops Q (⟨some d,op,ty,pos,af,some (j,true)⟩::post) (fr l) w:=by
 unfold wpListIn;rw[if_neg (by simp only[Region.wanted];rw[hv];decide)];refine⟨fun _ _=>trivial,?_⟩;rw[put_fr];exact k
theorem rest_in{w:World}(hn:post.all noDef=true)(h:RS P ops (fun l w=>Q .normal (fr l) w) post l w):wpListIn Fence.wide n P ops Q post (fr l) w:=by
 have:=rs_in (P:=P) (ro:=none) (n:=n) (ds:=[]) (Q:=Q) (tail:=[]) post l w hn h (fun l' w' k=>k);rwa[List.append_nil]at this
theorem J.restY{pl:List (Oper×Kd)}{w:World}(h:J S0 w0 L (RY S0 w0 .s P ops (KN Q) pl l))(M:Mem S0 w0 L w)(hn:post.all noDef=true:=by rfl)(hp:post.map (fun o=>(o,Kd.q))=pl:=by dsimp only[List.map]):wpListIn Fence.wide n P ops Q post (fr l) w:=by
 refine rest_in hn ?_;have h2:=h w M;subst hp;unfold RY at h2;rw[List.map_map]at h2;have e:(Prod.fst ∘ fun o:Oper=>(o,Kd.q))=_root_.id:=rfl;rwa[e,List.map_id]at h2
end
abbrev IdB:= {xs:List Int // Arr .u8 32 xs}
def flatB(l:List IdB):List Int:=l.flatMap fun x=>x.1
theorem flatB_snoc(l:List IdB)(x:IdB):flatB (l++[x])=flatB l++x.1:=by unfold flatB;simp
def IterC(P:Program)(g:FuncId)(lb:List Value)(n:Nat)(xs:List Int)(w:World):Prop:=SeqStopsK Fence.wide 8 P g lb.toArray (fun x:IdB=> #[.agg (ints .u8 x.1).toArray]) (Below w.heap.size) (fun l=>l.length=n∧flatB l=xs) (fun l=>0<l.length∧0<n) 1000 w
theorem grown_ext{w w':World}(h:Ext w w'):w.grownBy w' none:=⟨h.os,h.tape,h.output,h.size,fun k hk _=>h.block k hk⟩
theorem enters_run{P:Program}{f:FuncId}(he:Enters P f)(args:Array Value)(w:World):(callFunc f args).run P w= .ok (.enter f args) w:=by
 obtain⟨fn,h1,h2,h3⟩:=he;have h4:¬fn.name= "runtime.NumGoroutine" :=by simpa using h2
 have h5:¬fn.body=none:=by intro e;simp[e]at h3
 simp[callFunc,h1,h4,h5,program,Sem.run]
theorem keeps_ext{B:Nat}{w w':World}(h:Ext w w'):KeepsFrom B w w':=⟨h.size,fun k o _ hk _=>(h.block k (Array.getElem?_eq_some_iff.1 hk).1).trans hk⟩
theorem zip1{f:Array Value→Tmp×Value→Array Value}(hf:∀t p v,f t (p,v)=t.setIfInBounds p v)(l:List Value)(p:Tmp)(v:Value):Array.foldl f (fr l).tmps (#[p].zip #[v])=(l.set p v).toArray:=by
 simp[hf]
section
variable{S0:Nat→Prop}{w W w':World}{b5 b2 n c D:Nat}{cs cs2:List Value}{T T2 e:TypeId}{a:Option Addr}{k:IntKind}{sz:Nat}{xs:List Int}{L:List Ent}
theorem mem3(h5:Blk W b5 cs T)(h2:Blk W b2 cs2 T2)(hO:WOwn 0 W e k sz a n c xs)(d1:¬b5=b2)(d2:¬obk a=some b5)(d3:¬obk a=some b2):Mem (fun b=>b=b5∨b=b2∨obk a=some b) W [.blk b5 cs T, .blk b2 cs2 T2, .wown e k sz a n c xs] W:=
 ⟨Pr.refl _ _, fun b => b = b5, fun b => b = b2 ∨ obk a = some b, fun b h => .inl (.inl h), fun b h => .inl (.inr h), fun b h g => by
  subst h
  exact g.elim d1 d2, ⟨rfl, h5⟩, fun b => b = b2, fun b => obk a = some b, fun b h => .inl h, fun b h => .inr h, fun b h g => by
  subst h
  exact d3 g, ⟨rfl, h2⟩, fun b => obk a = some b, no, fun b h => h, fun b h => h.elim, fun b _ g => g, ⟨hO, fun b h => h⟩, trivial⟩
theorem mem_two(M:Mem S0 W (.blk b2 cs2 T2:: .wown e k sz a n c xs::L) w'):Blk w' b2 cs2 T2∧WOwn 0 w' e k sz a n c xs∧(¬obk a=some b2)∧∀b,obk a=some b→S0 b∨W.heap.size≤b:=by
 obtain⟨S,U,h1,h2,h3,⟨k1,k2⟩,S',U',g1,g2,g3,⟨q1,q2⟩,_⟩:=M.sep;exact⟨k2,q1,fun e=>h3 b2 k1 (g1 b2 (q2 b2 e)),fun b e=>h2 b (g1 b (q2 b e))⟩
theorem not_defd{b:Nat}(h:Blk W b cs T)(hD:W.heap[D]? =some (.deferred (some []))):¬b=D:=fun e=>by
 subst e;unfold Blk at h;rw[h]at hD;cases hD
theorem mem4(hx:Ext w W)(hD:W.heap[D]? =some (.deferred (some [])))(h2:Blk W b2 cs2 T2)(hO:WOwn 0 W e k sz a n c xs)(d3:¬obk a=some b2)(l1:w.heap.size≤D)(l2:w.heap.size≤b2)(l3:∀b,obk a=some b→w.heap.size≤b):Mem no w [.defd D, .blk b2 cs2 T2, .wown e k sz a n c xs] W:=
 ⟨pr_no hx, fun b => b = D, fun b => b = b2 ∨ obk a = some b, fun b h => .inr (h ▸ l1), fun b h => .inr (h.elim (fun h => h ▸ l2) (l3 b)), fun b h g => by
  subst h
  rcases g with g | g
  ·exact not_defd h2 hD g.symm
  ·obtain ⟨_, _, q⟩ := wown_cells hO g
   exact not_defd q hD rfl, ⟨rfl, hD⟩, fun b => b = b2, fun b => obk a = some b, fun b h => .inl h, fun b h => .inr h, fun b h g => by
  subst h
  exact d3 g, ⟨rfl, h2⟩, fun b => obk a = some b, no, fun b h => h, fun b h => h.elim, fun b _ g => g, ⟨hO, fun b h => h⟩, trivial⟩
theorem J.dthn{P:Program}{N:Act→World→Prop}{Q:Exit→Act→World→Prop}{w0:World}{a:Act}(h:J S0 w0 L (N a)):J S0 w0 L (Exit.then N Q .normal a):=h
theorem blk_same{b:Nat}{v u:Value}(h:Blk W b [v] T)(g:Blk W b [u] T2):v=u:=by
 unfold Blk at h g;rw[h]at g;simp at g;exact g.1
end
section
variable{S:Nat→Prop}{w W w':World}{b3 b6 D:Nat}{cs cs6:List Value}{T T6:TypeId}
theorem others_pr (h : Pr S w w') (hS : ∀ b, S b → ∃ cs T, Blk w b cs T) : KeepsOthers w w' := ⟨h.size, fun k o hk ho => (h.block k (Array.getElem?_eq_some_iff.1 hk).1 fun hs => by
 obtain ⟨cs, T, hb⟩ := hS k hs
 unfold Blk at hb
 rw [hb] at hk
 cases hk
 cases ho).trans hk⟩
theorem memB1(h6:Blk W b6 cs6 T6):Mem (fun b=>b=b6) W [.blk b6 cs6 T6] W:=⟨Pr.refl _ _,fun b=>b=b6,no,fun b h=> .inl h,fun b h=>h.elim,fun b _ g=>g,⟨rfl,h6⟩,trivial⟩
theorem memD2(hx:Ext w W)(hD:W.heap[D]? =some (.deferred (some [])))(h3:Blk W b3 cs T)(h6:Blk W b6 cs6 T6)(d:¬b3=b6)(l1:w.heap.size≤D)(l2:w.heap.size≤b3)(l3:w.heap.size≤b6):Mem no w [.defd D, .blk b3 cs T, .blk b6 cs6 T6] W:=
 ⟨pr_no hx, fun b => b = D, fun b => b = b3 ∨ b = b6, fun b h => .inr (h ▸ l1), fun b h => .inr (h.elim (fun h => h ▸ l2) fun h => h ▸ l3), fun b h g => by
  subst h
  rcases g with g | g
  ·exact not_defd h3 hD g.symm
  ·exact not_defd h6 hD g.symm, ⟨rfl, hD⟩, fun b => b = b3, fun b => b = b6, fun b h => .inl h, fun b h => .inr h, fun b h g => d (h.symm.trans g), ⟨rfl, h3⟩, fun b => b = b6, no, fun b h => h, fun b h => h.elim, fun b _ g => g, ⟨rfl, h6⟩, trivial⟩
theorem memD1(hx:Ext w W)(hD:W.heap[D]? =some (.deferred (some [])))(h6:Blk W b6 cs6 T6)(l1:w.heap.size≤D)(l3:w.heap.size≤b6):Mem no w [.defd D, .blk b6 cs6 T6] W:=
 ⟨pr_no hx,fun b=>b=D,fun b=>b=b6,fun b h=> .inr (h▸l1),fun b h=> .inr (h▸l3),fun b h g=>not_defd h6 hD (g.symm.trans h),⟨rfl,hD⟩,fun b=>b=b6,no,fun b h=>h,fun b h=>h.elim,fun b _ g=>g,⟨rfl,h6⟩,trivial⟩
theorem blk_two{S0:Nat→Prop}{L:List Ent}(M:Mem S0 W (.blk b6 cs6 T6:: .blk b3 cs T::L) w'):¬b3=b6:=fun e=>by
 obtain⟨S,U,h1,h2,h3,⟨k1,k2⟩,S',U',g1,g2,g3,⟨q1,q2⟩,_⟩:=M.sep;subst e;exact h3 _ k1 (g1 _ q1)
end
end G
namespace W
open Go.RowKit G
set_option maxRecDepth 20000
set_option maxHeartbeats 8000000
attribute [local irreducible] RS RX RY Code.wp bodyPost J Ent.blk Ent.iown Ent.wrow Ent.wown Ent.gown Ent.all Ent.emp
instance:Ents prog 212:=⟨.mk func212 (by kernel_rfl) rfl⟩
theorem stMissing0(s:StA)(z:OpA)(w:World):
  Calls prog 119 #[.agg (srC s).toArray, .agg (opC z).toArray] w (Gv w (fun q:Nat×Nat=> .func (.func 212) #[] #[.pointer (some ⟨q.1,0,none⟩), .pointer (some ⟨q.2,0,none⟩)]) (fun q=>[.blk q.1 (opC z) 37, .blk q.2 (srC s) 55]) (fun _=>True)):=by
 refine J.enter 4 func119 rfl rfl ?_;refine run ?_;refine J.box rfl rfl rfl fun b1=>?_
 refine J.box rfl rfl rfl fun b2=>?_
 refine run ?_;refine J.fn rfl rfl rfl ?_;refine run ?_;exact J.finG (b2,b1) rfl trivial sb
theorem missIter{S0 S1:Nat→Prop}(s:StA)(z:OpA)(bo bs:Nat)(T T2:TypeId)(w0:World)(hbo:Blk w0 bo (opC z) T)(hbs:Blk w0 bs (srC s) T2)(D0:WRow .u8 32 S0 w0 s.oa s.on s.os)(D1:WRow .u8 32 S1 w0 z.pa z.o.n z.o.ids)(hn:s.on≤70)(hz:z.o.n≤40):
  IterC prog 212 [.pointer (some ⟨bo,0,none⟩), .pointer (some ⟨bs,0,none⟩)] (S.numF (S.absF s.on s.os z.o.ids) z.o.n) (S.selF (S.absF s.on s.os z.o.ids) z.o.ids z.o.n) w0:=by
 intro lp JJ Jx Wb hW hJ hJx hY h0;have hW:Ext w0 Wb:=hW;obtain⟨F,hF⟩:=ex (S.absF s.on s.os z.o.ids);rw[←hF];refine(callsIn_wide (n:=8)).2 ?_;show Calls prog 212 ([.func (.yield lp) #[] #[], .pointer (some ⟨bo,0,none⟩), .pointer (some ⟨bs,0,none⟩)]:List Value).toArray Wb _;have hbW:=hbo.ext hW;refine J.enter 22 func212 rfl rfl ?_;refine run ?_;refine J.ldOq hbW rfl ?_;refine run ?_;unfold J;intro w M;refine C.loop (A:=Nat×List IdB) (fun p=>[(9, .int .i64 (p.1:Nat))]) [5,10,11,12,13,14,15,16,17,18,19,20,21,22,23,24] (fun p w=>(p.1≤z.o.n∧p.2.length=S.numF F p.1∧flatB p.2=S.selF F z.o.ids p.1)∧Ext w0 w∧JJ p.2 w) (fun p=>z.o.n - p.1) (0,[]) (by kernel_rfl) ⟨⟨Nat.zero_le _,rfl,rfl⟩,hW.tr M.ext,hJ _ _ _ none h0 (grown_ext M.ext) (fun r e=>by cases e)⟩ (fun p j w hI=>?_);obtain⟨⟨hp1,hp2,hp3⟩,hw0,hjj⟩:=hI;obtain⟨p,pre⟩:=p;dsimp only at hp1 hp2 hp3 hjj;simp only[upd,junk,List.map_cons,List.map_nil,List.set_cons_succ,List.set_cons_zero];refine J.from ?_;have D1':=D1.ext hw0;have hbsW:=hbs.ext hw0;refine run ?_;refine J.ifd rfl (fun c1=>?_) (fun c1=>?_)
 rotate_left
 ·refine run ?_;obtain rfl:p=z.o.n:=by omega
  unfold J;exact fun w' M=>⟨⟨_,rfl⟩, .inl ⟨pre,⟨hp2,hp3⟩,hJ _ _ _ none hjj (grown_ext M.ext) (fun r e=>by cases e)⟩⟩
 obtain⟨y,hy⟩:=ex (elt 32 z.o.ids ((p:Nat):Int).toNat);have hyA:Arr .u8 32 y:=hy▸D1.elt_arr (by omega);have hyi:S.idAt z.o.ids p=y:=by rw[hy,Int.toNat_natCast];rfl
 have hFp:F p=decide (¬S.inS s.on s.os y):=by rw[hF];unfold S.absF;rw[hyi]
 refine run ?_;refine J.alloc rfl fun b5=>?_
 refine J.staw rfl rfl ?_;refine J.nilN ?_;refine run0 ?_;refine J.regY 8 8 ?_;refine run ?_;refine J.ldOq hbsW rfl ?_;refine run ?_;refine J.callp rfl rfl (fun w' M=>hasID _ _ _ _ _ w' ((D0.ext hw0).ext M.ext) hyA (by omega)) ?_;refine run ?_;refine J.spt rfl rfl rfl (fun c2=>?_) (fun c2=>?_)
 ·have hFt:F p=true:=by rw[hFp];exact decide_eq_true (of_decide_eq_false c2)
  refine run ?_;refine J.nil ?_;unfold J;intro w1 M1;unfold KY;refine yield_step (vs:=[.agg (ints .u8 y).toArray]) rfl rfl rfl (hY pre ⟨y,hyA⟩ w1 (hJ _ _ _ none hjj (grown_ext M1.ext) (fun r e=>by cases e)) (by have:=S.numF_le F p;omega)) (fun e w2 he=>?_);rcases he with⟨rfl,hj2,hk2⟩|⟨rfl,hx2⟩
  ·refine⟨_,rfl,J.restY (S0:=no) ?_ (Mem.first w2)⟩;have hw2:Ext w0 w2:=(hw0.tr M1.ext).trans hk2;refine run ?_;unfold J;intro w3 M3;refine C.next (p+1,pre++[(⟨y,hyA⟩:IdB)]) ⟨rfl,trivial⟩ (by kernel_rfl) ⟨⟨by dsimp only;omega,?_,?_⟩,hw2.tr M3.ext,hJ _ _ _ none hj2 (grown_ext M3.ext) (fun r e=>by cases e)⟩ (by dsimp only;omega)
   ·dsimp only;rw[List.length_append,S.numF,hFt,hp2];rfl
   dsimp only;rw[flatB_snoc,hp3,S.selF,hFt,hyi];rfl
  refine⟨_,rfl,J.restY (S0:=no) ?_ (Mem.first w2)⟩;refine run ?_;unfold J;intro w3 M3;refine⟨⟨_,rfl⟩, .inr ⟨_,⟨by simp,?_⟩,hJx _ _ _ none hx2 (grown_ext M3.ext) (fun r e=>by cases e)⟩⟩;have h1:S.numF F (p+1)=S.numF F p+1:=by rw[S.numF,hFt];rfl
  exact Nat.pos_of_ne_zero fun h=>by have:=S.numF_zero.1 h p (by omega);rw[hFt]at this;cases this
 have hFf:F p=false:=by rw[hFp];exact decide_eq_false (not_not_intro (of_decide_eq_true c2))
 refine run ?_;refine J.nil ?_;unfold J;intro w1 M1;unfold KY;refine yield_skip rfl ?_;refine J.restY ?_ M1;refine run ?_;unfold J;intro w3 M3;refine C.next (p+1,pre) ⟨rfl,trivial⟩ (by kernel_rfl) ⟨⟨by dsimp only;omega,?_,?_⟩,hw0.tr M3.ext,hJ _ _ _ none hjj (grown_ext M3.ext) (fun r e=>by cases e)⟩ (by dsimp only;omega)
 ·dsimp only;rw[S.numF,hFf,hp2];rfl
 dsimp only;rw[S.selF,hFf,hp3];exact(List.append_nil _).symm
instance:Ents prog 211:=⟨.mk func211 (by kernel_rfl) rfl⟩
instance:Ents prog 42:=⟨.mk func42 (by kernel_rfl) rfl⟩
instance:Ents prog 114:=⟨.mk func114 (by kernel_rfl) rfl⟩
instance:Ents prog 119:=⟨.mk func119 (by kernel_rfl) rfl⟩
instance:Ents prog 118:=⟨.mk func118 (by kernel_rfl) rfl⟩
instance:Inf prog 5 1 1 [.int .u8 0]:=⟨TI.of (v:= .int .u8 0) (by kernel_rfl) rfl⟩
theorem appSeq{g:FuncId}{lb:List Value}{n:Nat}{xs:List Int}(w00 w:World)(hit:IterC prog g lb n xs w00)(hw00:Ext w00 w)(he:Enters prog g):
  Calls prog 211 #[.slice none 0 0, .func (.func g) #[] lb.toArray] w (Gv w (fun q:Option Addr×Nat=> .slice q.1 n q.2) (fun q=>[.wown 24 .u8 32 q.1 n q.2 xs]) fun q=>n≤q.2):=by
 show Calls prog 211 ([.slice none 0 0, .func (.func g) #[] lb.toArray]:List Value).toArray w _;refine J.enterR 11 func211 rfl rfl ?_;refine run ?_;refine J.box rfl rfl rfl fun b2=>?_
 refine run ?_;unfold J;intro w1 M1;have x1:Ext w w1:=M1.ext;obtain⟨S1,hS1,h1⟩:=M1.get .here;obtain⟨hs2,hB2⟩:=blk_e h1;have hb2:w.heap.size≤b2:=(hS1 b2 hs2).1.resolve_left fun h=>h;refine(wpIn_wide (n:=9)).1 ?_;refine wpIn_rangeFunc_ownH (F:=Fence.wide) (n:=9) (w:=w1) (gf:=g) (lb:=lb.toArray) rfl (by decide) (by rw[eval_fr];rfl) trivial (enters_run he) hit (fun h k=>belowK_t h k) (belowK_b (hw00.tr x1).size) (hw00.tr x1) (fun x=>rfl)
  (fun(k:List IdB) (Wb:World)=>Ext w Wb∧∃a c,Blk Wb b2 [.slice a k.length c] 22∧WOwn 0 Wb 24 .u8 32 a k.length c (flatB k)∧¬obk a=some b2∧∀b,obk a=some b→w.heap.size≤b)
  (fun _ _ _=>False)
  (fun k A B row ⟨hx,a,c,h1,h2,h3,h4⟩ hg hr=>⟨ext_own hx x1.size hg hr,a,c,blk_own h1 hg hr,wown_own h2 hg hr,h3,h4⟩)
  (fun c s A B row h=>h.elim)
  ⟨x1,none,0,hB2,WOwn.nil 0 w1 24 .u8 32,(by simp[obk]),fun b h=>(by simp[obk]at h)⟩
  (fun x a' Wb=>∃b5 a0 n0 c0,a'=fr [.slice none 0 0, .func (.func g) #[] lb.toArray, .pointer (some ⟨b2,0,none⟩),undef, .slice none 0 0, .pointer (some ⟨b5,0,none⟩), .func (.func g) #[] lb.toArray, .agg (ints .u8 x.1).toArray,undef,undef,undef,undef,undef]∧Blk Wb b5 (ints .u8 x.1) 24∧¬b5=b2∧w.heap.size≤b5∧Blk Wb b2 [.slice a0 n0 c0] 22∧¬obk a0=some b5)
  (fun x a' s A B row ⟨b5,a0,n0,c0,h1,h2,h3,h4,h5,h6⟩ hg hr=>⟨b5,a0,n0,c0,h1,blk_own h2 hg hr,h3,h4,blk_own h5 hg hr,h6⟩)
  ?_ ?_ ?_ ?_
 ·intro r pre x Wb K hI hK;obtain⟨hx,a,c,i1,i2,i3,i4⟩:=hI;have hxA:=x.2;rw[zip1 (fun _ _ _=>rfl)];show Code.wpIn (FW (some r)) 7 _ (Code.region _ _ _) _ ⟨([.slice none 0 0, .func (.func g) #[] lb.toArray, .pointer (some ⟨b2,0,none⟩),undef, .slice none 0 0,undef, .func (.func g) #[] lb.toArray, .agg (ints .u8 x.1).toArray,undef,undef,undef,undef,undef]:List Value).toArray,[]⟩ Wb;refine J.from (J.dreg ?_);refine run ?_;refine J.alloc rfl fun b5=>?_
  refine J.staw rfl rfl ?_;refine J.dnil ?_;unfold J;intro w2 M2;obtain⟨S2,hS2,h2⟩:=M2.get .here;obtain⟨hs5,hB5⟩:=blk_e h2;have hb5:Wb.heap.size≤b5:=(hS2 b5 hs5).1.resolve_left fun h=>h;have x2:=M2.ext;refine hK _ _ (keeps_ext x2) (Below.mono x2 (hw00.tr hx).size) ⟨hx.tr x2,a,c,i1.ext x2,i2.ext x2,i3,i4⟩ ⟨b5,a,pre.length,c,rfl,hB5,fun e=>?_,Nat.le_trans hx.size hb5,i1.ext x2,fun e=>?_⟩
  ·have:=i1.lt;omega
  obtain⟨_,_,k⟩:=wown_cells i2 e;have:=k.lt;omega
 ·intro r pre x a' Wb hl hr0 hI hAx hlen;obtain⟨hx,a,c,i1,i2,i3,i4⟩:=hI;obtain⟨b5,a0,n0,c0,rfl,k2,k3,k4,k5,k6⟩:=hAx;obtain⟨rfl,rfl,rfl⟩:=Value.slice.inj (blk_same k5 i1);have hxA:=x.2;refine J.at (mem3 k2 i1 i2 k3 k6 i3) ?_;refine J.dblk (J.dreg ?_);refine run ?_;refine J.b1W rfl rfl hxA fun bb=>?_
  refine J.apW rfl rfl RW.own' fun a2 c2=>?_
  refine run ?_;refine J.front (.wown 24 .u8 32 a2 (pre.length+1) c2 (flatB pre++x.1)) ?_;refine J.front (.blk b2 [.slice a2 (pre.length+1) c2] 22) ?_;unfold J;intro w2 M2;obtain⟨q1,q2,q3,q4⟩:=mem_two M2;have hS:∀b,(b=b5∨b=b2∨obk a0=some b)→w.heap.size≤b:=fun b h=>by
   rcases h with rfl|rfl|h
   ·exact k4
   ·exact hb2
   exact i4 b h
  refine⟨keeps_pr M2.pr fun b h=>?_,M2.pr.below (fun b h=>Nat.le_trans hw00.size (hS b h)) (Nat.le_trans hw00.size hx.size),pr_ext hx M2.pr hS,a2,c2,?_,?_,q3,fun b h=>(q4 b h).elim (hS b) fun k=>Nat.le_trans hx.size k⟩
  ·rcases h with rfl|rfl|h
   ·exact⟨_,_,k2⟩
   ·exact⟨_,_,i1⟩
   exact wown_cells i2 h
  ·rw[List.length_append];exact q1
  rw[List.length_append,flatB_snoc];exact q2
 ·intro D ks Wb hD ⟨hk1,hk2⟩ ⟨hx,a,c,i1,i2,i3,i4⟩ hK;subst hk1 hk2;show Code.wp _ (Code.seq _ _) _ ⟨([.slice none 0 0, .func (.func g) #[] lb.toArray, .pointer (some ⟨b2,0,none⟩),undef, .slice none 0 0,undef, .func (.func g) #[] lb.toArray,undef,undef,undef,undef,undef,undef]:List Value).toArray,markD D⟩ Wb;refine(wpIn_wide (n:=9)).1 ?_;refine J.at (mem4 hx hK i1 i2 i3 (Nat.le_trans x1.size hD) hb2 i4) ?_;refine J.dsq (ro:=none) (J.dreg ?_);refine run ?_;refine J.dnil (J.dthn (P:=prog) (J.dret ?_));refine J.retM ?_;refine run ?_;refine J.fact (.wown 24 .u8 32 a ks.length c (flatB ks)) (fun _ _ h=>(wown_len h).2) fun hcap=>?_
  exact J.finG (a,c) rfl hcap sb
 intro D c pre Wb hD hS h;exact h.elim
theorem collect{g:FuncId}{lb:List Value}{n:Nat}{xs:List Int}(w00 w:World)(hit:IterC prog g lb n xs w00)(hw00:Ext w00 w)(he:Enters prog g):
  Calls prog 118 #[.func (.func g) #[] lb.toArray] w (Gv w (fun q:Option Addr×Nat=> .slice q.1 n q.2) (fun q=>[.wown 24 .u8 32 q.1 n q.2 xs]) fun q=>n≤q.2):=by
 refine J.enter 4 func118 rfl rfl ?_;refine run ?_;refine J.call rfl rfl (fun w' M=>appSeq w00 w' hit (hw00.tr M.ext) he) fun q hq=>?_
 refine run ?_;exact J.finG q rfl hq sb
theorem stAsked{S0 S1:Nat→Prop}(s:StA)(z:OpA)(TK:TypeId)(w:World)(K0:Kst w TK)(H:StR S0 w s)(R:OpR S1 w z):
  Calls prog 114 #[.agg (srC s).toArray, .agg (opC z).toArray] w (Ret w fun v _=>v= .int .i64 (S.askE s.V z.o)):=by
 refine J.enter 11 func114 rfl rfl ?_;refine run ?_;refine J.box rfl rfl rfl fun b1=>?_
 refine J.box rfl rfl rfl fun b2=>?_
 refine run ?_;refine J.callp rfl rfl (fun w' M=>stCheck s _ w' (K0.ext M.ext) (H.ext M.ext)) ?_;refine run ?_;refine J.ifn rfl (fun c1=>?_) (fun c1=>?_)
 ·obtain⟨k1,k2⟩:=S.chkT_ne c1;rw[k2];refine run ?_;exact J.fin (congrArg _ (S.askE_8 k1).symm)
 refine run ?_;refine J.callp rfl rfl (fun w' M=>verifyO z.o R.ok _ _ _ _ (K0.ext M.ext) (R.row.ext M.ext) R.cap) ?_;refine run ?_;exact J.fin (congrArg _ (S.askE_v (S.chkT_iff.1 c1)).symm)
theorem stMissing{S0 S1:Nat→Prop}(s:StA)(z:OpA)(TK:TypeId)(w:World)(K0:Kst w TK)(H:StR S0 w s)(R:OpR S1 w z):
  Calls prog 38 #[.agg (srC s).toArray, .agg (opC z).toArray] w (Gv w (fun q:Option Addr×Nat=> .tuple #[.slice q.1 (S.msN s.V z.o) q.2, .int .i64 (S.askE s.V z.o)]) (fun q=>[.wown 24 .u8 32 q.1 (S.msN s.V z.o) q.2 (S.msL s.V z.o)]) fun q=>S.msN s.V z.o≤q.2):=by
 have hcp:=H.cap;have h20:=R.ok.n;refine J.enter 15 func38 rfl rfl ?_;refine run ?_;refine J.box rfl rfl rfl fun b1=>?_
 refine J.box rfl rfl rfl fun b2=>?_
 refine run ?_;refine J.callp rfl rfl (fun w' M=>stAsked s z _ w' (K0.ext M.ext) (H.ext M.ext) (R.ext M.ext)) ?_;refine run ?_;refine J.ifn rfl (fun c1=>?_) (fun c1=>?_)
 ·obtain⟨k1,k2⟩:=S.ms_no c1;rw[k1,k2];refine run ?_;refine J.nilWo 24 .u8 32 ?_;exact J.finG (none,0) rfl (Nat.le_refl _) sb
 obtain⟨k1,k2⟩:=S.ms_yes c1;rw[k1,k2,c1];refine run ?_;refine J.call rfl rfl (fun w' M=>stMissing0 s z w') fun m _=>?_
 refine J.call rfl rfl (fun w' M=>collect w' w' (missIter s z m.1 m.2 _ _ w' (blkC m.1 M) (blkC m.2 M) (H.os.ext M.ext) (R.row.ext M.ext) (by omega) (by omega)) (Ext.refl w') Ents.h) fun q hq=>?_
 refine run ?_;exact J.finG q rfl hq sb
theorem stVerdict{S0 S1:Nat→Prop}(s:StA)(z:OpA)(w:World)(H:StR S0 w s)(R:OpR S1 w z)(hv:s.on=s.sh.ver):
  Calls prog 115 #[.agg (srC s).toArray, .agg (opC z).toArray, .agg (ints .u8 (S.idOf z.o)).toArray] w (Ret w fun v _=>v= .int .u8 (S.judT s.V z.o)):=by
 have hcp:=H.cap;have h20:=R.ok.n;have hA:=S.sha_arr (S.encS z.o);show Calls prog 115 ([.agg (srC s).toArray, .agg (opC z).toArray, .agg (ints .u8 (S.idOf z.o)).toArray]:List Value).toArray w _;refine J.enterR 18 func115 rfl rfl ?_;refine run ?_;refine J.box rfl rfl rfl fun b3=>?_
 refine J.box rfl rfl rfl fun b4=>?_
 refine J.box rfl rfl rfl fun b5=>?_
 refine J.alloc rfl fun b6=>?_
 refine run ?_;refine J.callp rfl rfl (fun w' M=>hasID _ _ _ _ _ w' (H.os.ext M.ext) hA (by omega)) ?_;refine run ?_;refine J.ifd rfl (fun c1=>?_) (fun c1=>?_)
 ·refine run ?_;refine J.toM ?_;refine run ?_;exact J.fin (congrArg _ (S.jud_5 c1).symm)
 refine run ?_;refine J.call rfl rfl (fun w' M=>stMissing0 s z w') fun m _=>?_
 refine run ?_;refine J.front (.blk b3 (srC s) 55) ?_;refine J.front (.blk b6 [.int .u8 0] 5) ?_;unfold J;intro w1 M1;have x1:Ext w w1:=M1.ext;have d36:=blk_two M1;have hB6:=blkC b6 M1;have hB3:=blkC b3 M1;obtain⟨S6,hS6,h6⟩:=M1.get .here;obtain⟨S3,hS3,h3⟩:=M1.get (.there .here);have hb6:w.heap.size≤b6:=(hS6 b6 (blk_e h6).1).1.resolve_left fun h=>h;have hb3:w.heap.size≤b3:=(hS3 b3 (blk_e h3).1).1.resolve_left fun h=>h;have hit:=missIter s z m.1 m.2 _ _ w1 (blkC m.1 M1) (blkC m.2 M1) (H.os.ext x1) (R.row.ext x1) (by omega) (by omega);refine(wpIn_wide (n:=9)).1 ?_;refine wpIn_rangeFunc_ownF (F:=Fence.wide) (n:=9) (w:=w1) (gf:=212) rfl (by decide) (by rw[eval_fr];rfl) trivial (enters_run Ents.h) hit (fun h k=>belowK_t h k) (belowK_b (Nat.le_refl _)) (Below.refl _ _) (fun x=>rfl)
  (fun(k:List IdB) (Wb:World)=>k=[]∧Ext w Wb∧Blk Wb b3 (srC s) 55∧Blk Wb b6 [.int .u8 0] 5)
  (fun c _ Wb=>c= .ret∧Ext w Wb∧Blk Wb b6 [.int .u8 6] 5)
  (fun k A B row ⟨h0,hx,h1,h2⟩ hg hr=>⟨h0,ext_own hx x1.size hg hr,blk_own h1 hg hr,blk_own h2 hg hr⟩)
  (fun c k A B row ⟨h0,hx,h1⟩ hg hr=>⟨h0,ext_own hx x1.size hg hr,blk_own h1 hg hr⟩)
  ⟨rfl,x1,hB3,hB6⟩ (fun x=>fr [.agg (srC s).toArray, .agg (opC z).toArray, .agg (ints .u8 (S.idOf z.o)).toArray, .pointer (some ⟨b3,0,none⟩), .pointer (some ⟨b4,0,none⟩), .pointer (some ⟨b5,0,none⟩), .pointer (some ⟨b6,0,none⟩), .pointer (some ⟨b3,4,none⟩), .slice s.oa s.on s.oc, .agg (ints .u8 (S.idOf z.o)).toArray, .bool (decide (S.inS s.on s.os (S.idOf z.o))), .agg (srC s).toArray, .agg (opC z).toArray, .func (.func 212) #[] #[.pointer (some ⟨m.1,0,none⟩), .pointer (some ⟨m.2,0,none⟩)], .agg (ints .u8 x.1).toArray,undef,undef,undef,undef,undef,undef]) ?_ ?_ ?_ ?_
 ·intro r x Wb K hK;rw[zip1 (fun _ _ _=>rfl)];exact wpIn_skip hK
 ·intro r pre x Wb hI hlen;obtain⟨rfl,hx,i3,i6⟩:=hI;refine J.at (memB1 i6) ?_;refine J.dblk (J.dsq (J.dreg ?_));refine run ?_;refine J.dret ?_;unfold J;intro w2 M2;refine⟨others_pr M2.pr fun b h=>⟨_,_,h▸i6⟩,rfl,pr_ext hx M2.pr fun b h=>h▸hb6,blkC b6 M2⟩
 ·intro D ks Wb hD ⟨hk1,hk2⟩ ⟨h0,hx,i3,i6⟩ hK;subst h0;have hall:S.allI s.on s.os z.o.n z.o.ids:=S.abs_none.1 hk1.symm;show Code.wp _ (Code.seq _ _) _ ⟨([.agg (srC s).toArray, .agg (opC z).toArray, .agg (ints .u8 (S.idOf z.o)).toArray, .pointer (some ⟨b3,0,none⟩), .pointer (some ⟨b4,0,none⟩), .pointer (some ⟨b5,0,none⟩), .pointer (some ⟨b6,0,none⟩), .pointer (some ⟨b3,4,none⟩), .slice s.oa s.on s.oc, .agg (ints .u8 (S.idOf z.o)).toArray, .bool (decide (S.inS s.on s.os (S.idOf z.o))), .agg (srC s).toArray, .agg (opC z).toArray, .func (.func 212) #[] #[.pointer (some ⟨m.1,0,none⟩), .pointer (some ⟨m.2,0,none⟩)],undef,undef,undef,undef,undef,undef,undef]:List Value).toArray,markD D⟩ Wb;refine(wpIn_wide (n:=9)).1 ?_;refine J.at (memD2 hx hK i3 i6 d36 (Nat.le_trans x1.size hD) hb3 hb6) ?_;refine J.dsq (ro:=none) (J.dsq (J.dreg ?_));refine run ?_;refine J.dnil (J.dthn (P:=prog) (J.dife rfl (fun c3=>?_) (fun c3=>?_)))
  ·refine J.dsq (J.dreg ?_);refine run ?_;refine J.dnil (J.dthn (P:=prog) (J.dret ?_));refine J.retM ?_;refine run ?_;exact J.fin (congrArg _ (S.jud_8 c1 hall (by show(s.on:Int)=s.cap;omega)).symm)
  refine J.dskip (J.dthn (P:=prog) (J.dsq (J.dreg ?_)));refine run ?_;refine J.dnil (J.dthn (P:=prog) (J.dret ?_));refine J.retM ?_;refine run ?_;exact J.fin (congrArg _ (S.jud_1 c1 hall (by show(s.on:Int)≠s.cap;omega)).symm)
 intro D c pre Wb hD ⟨hp,hn⟩ ⟨hc,hx,i6⟩ hK;subst hc;have hall:¬S.allI s.on s.os z.o.n z.o.ids:=fun h=>by have:=S.abs_none.2 h;omega
 refine J.at (memD1 hx hK i6 (Nat.le_trans x1.size hD) hb6) ?_;refine J.dret (ro:=none) ?_;show J no w _ (bodyPostM Fence.wide 9 _ _ _ .ret ⟨([.agg (srC s).toArray, .agg (opC z).toArray, .agg (ints .u8 (S.idOf z.o)).toArray, .pointer (some ⟨b3,0,none⟩), .pointer (some ⟨b4,0,none⟩), .pointer (some ⟨b5,0,none⟩), .pointer (some ⟨b6,0,none⟩), .pointer (some ⟨b3,4,none⟩), .slice s.oa s.on s.oc, .agg (ints .u8 (S.idOf z.o)).toArray, .bool (decide (S.inS s.on s.os (S.idOf z.o))), .agg (srC s).toArray, .agg (opC z).toArray, .func (.func 212) #[] #[.pointer (some ⟨m.1,0,none⟩), .pointer (some ⟨m.2,0,none⟩)],undef,undef,undef,undef,undef,undef,undef]:List Value).toArray,markD D⟩);refine J.retM ?_;refine run ?_;exact J.fin (congrArg _ (S.jud_6 c1 hall).symm)
instance:Ents prog 209:=⟨.mk func209 (by kernel_rfl) rfl⟩
theorem cloneGr{S0:Nat→Prop}(a:Option Addr)(n c:Nat)(l:List GrA)(w:World)(D0:GRow (fun g:GrA=>grC g) 2 S0 w a n l)(hn:n≤1000):
  Calls prog 209 #[.slice a n c] w (Gv w (fun q:Option Addr×Nat=> .slice q.1 n q.2) (fun q=>[.gown (fun g:GrA=>grC g) 2 43 q.1 n q.2 l]) fun _=>True):=by
 refine J.enter 7 func209 rfl rfl ?_;refine run ?_;refine J.ifb rfl (fun c1=>?_) (fun c1=>?_)
 ·obtain⟨rfl,rfl⟩:=D0.none (by decide) c1;refine run ?_;refine J.nilG (fun g:GrA=>grC g) 2 43 grC_len ?_;exact J.finG (none,0) rfl trivial (.cons_cons _ (List.nil_sublist _))
 refine run ?_;refine J.b0G (fun g:GrA=>grC g) grC_len rfl fun b=>?_
 refine run ?_;refine J.apG rfl rfl (RG.arg D0) grC_one fun a' c'=>?_
 refine run ?_;refine J.re (.gown (fun g:GrA=>grC g) 2 43 a' (0+n) c' ([]++l)) (.gown (fun g:GrA=>grC g) 2 43 a' n c' l) (fun S w h=>by rw[Nat.zero_add]at h;exact h) ?_;exact J.finG (a',c') (by rw[Nat.zero_add]) trivial (.cons_cons _ (List.nil_sublist _))
structure TwO where
 (i:Nat)(D:List GrA)
theorem mid_at{α:Type}{D l:List α}{i:Nat}{x:α}(hD:D.length=i)(h:l[i]? =some x):(D++l.drop i)[((i:Nat):Int).toNat]? =some x:=by
 rw[Int.toNat_natCast,List.getElem?_append_right (by omega),hD,Nat.sub_self,List.getElem?_drop,Nat.add_zero];exact h
theorem stTwin{S0:Nat→Prop}(s:StA)(w:World)(H:StR S0 w s):
  Calls prog 116 #[.agg (srC s).toArray] w (Gv w (fun q:StA=> .agg (srC q).toArray) (fun q=>stE q) (StK s.V)):=by
 have P0:=H.sh.pr;have hl:=P0.len;have hcp:=H.sh.cap;have hcp2:=H.cap;refine J.enter 76 func116 rfl rfl ?_;refine run ?_;refine J.box rfl rfl rfl fun b1=>?_
 refine J.alloc rfl fun b2=>?_
 refine run ?_;refine J.regionX [(0, .q),(1, .q),(2, .q),(4, .q),(5, .q),(3, .e),(7, .q),(8, .q),(6, .e),(9, .g),(10, .q),(11, .g)] mixed (by kernel_rfl) ?_;refine run ?_;refine J.call rfl rfl (fun w' M=>cloneW s.sh.ha s.sh.hn s.sh.hc s.sh.hs w' (H.sh.hr.ext M.ext) hcp.2.1 (by omega)) fun q1 hq1=>?_
 refine run ?_;refine J.call rfl rfl (fun w' M=>cloneW s.oa s.on s.oc s.os w' (H.os.ext M.ext) hcp2.1 (by omega)) fun q2 hq2=>?_
 obtain⟨ha,hc⟩:=q1;obtain⟨oa,oc⟩:=q2;dsimp only at hq1 hq2⊢;refine run ?_;refine J.call rfl rfl (fun w' M=>cloneGr s.sh.pa s.sh.pn s.sh.pc s.sh.gs w' (P0.ext M.ext) (by omega)) fun q3 hq3=>?_
 obtain⟨pa,pc⟩:=q3;dsimp only at hq3⊢;refine run ?_;refine J.noA ?_;refine J.re (.gown (fun g:GrA=>grC g) 2 43 pa s.sh.pn pc s.sh.gs) (.gown (fun g:GrA=>grC g) 2 43 pa s.sh.pn pc ([]++s.sh.gs.drop 0)) (fun _ _ h=>h) ?_;refine J.re (.all []) (.all (([]:List GrA).map grAll)) (fun _ _ h=>h) ?_;refine J.front (.wown 24 .u8 32 oa s.on oc s.os) ?_;refine J.front (.wown 24 .u8 32 ha s.sh.hn hc s.sh.hs) ?_;refine J.front (.blk b1 [.int .i64 s.cap, .slice pa s.sh.pn pc, .slice ha s.sh.hn hc, .int .i64 s.sh.ver, .slice oa s.on oc] 55) ?_;refine J.front (.all (([]:List GrA).map grAll)) ?_;refine J.front (.gown (fun g:GrA=>grC g) 2 43 pa s.sh.pn pc ([]++s.sh.gs.drop 0)) ?_;refine J.drop (E:=[.gown (fun g:GrA=>grC g) 2 43 pa s.sh.pn pc ([]++s.sh.gs.drop 0), .all (([]:List GrA).map grAll), .blk b1 [.int .i64 s.cap, .slice pa s.sh.pn pc, .slice ha s.sh.hn hc, .int .i64 s.sh.ver, .slice oa s.on oc] 55, .wown 24 .u8 32 ha s.sh.hn hc s.sh.hs, .wown 24 .u8 32 oa s.on oc s.os, .blk b2 [.int .i64 0, .slice none 0 0, .slice none 0 0, .int .i64 0, .slice none 0 0] 55]) sb ?_;refine J.loop (A:=TwO) (fun p=>[(26, .int .i64 (p.i:Nat))]) [3,4,5,27,28,29,30,31,32,33,34,35,36,37,38,39,40,41,42,43,44,45,46,47,48,49,50,51,52,53,54,55,56,57,58,59,60,61,62,63,64,65,66,67,68,69,70,71,72,73,74,75] (fun p=>[.gown (fun g:GrA=>grC g) 2 43 pa s.sh.pn pc (p.D++s.sh.gs.drop p.i), .all (p.D.map grAll), .blk b1 [.int .i64 s.cap, .slice pa s.sh.pn pc, .slice ha s.sh.hn hc, .int .i64 s.sh.ver, .slice oa s.on oc] 55, .wown 24 .u8 32 ha s.sh.hn hc s.sh.hs, .wown 24 .u8 32 oa s.on oc s.os, .blk b2 [.int .i64 0, .slice none 0 0, .slice none 0 0, .int .i64 0, .slice none 0 0] 55]) (fun p=>p.i≤s.sh.pn∧p.D.length=p.i∧p.D.map GrA.P=s.sh.V.ps.take p.i∧∀x∈p.D,GrK x) (fun p=>s.sh.pn - p.i) ⟨0,[]⟩ (by kernel_rfl) ⟨Nat.zero_le _,rfl,rfl,fun z hz=>by cases hz⟩ (fun p j hI=>?_)
 obtain⟨hp,hD,hps,hpk⟩:=hI;refine run ?_;refine J.ifd rfl (fun c1=>?_) (fun c1=>?_)
 ·obtain⟨g,hg⟩:=P0.ex (i:=(p.i:Nat)) (by omega);have hg':=hg;rw[Int.toNat_natCast]at hg';have G:=H.sh.g hg';have hgl:=G.len;have hgc:=G.cap;have G0:=G.ops;have hz1:(p.D++s.sh.gs.drop p.i)[((p.i:Nat):Int).toNat]? =some g:=mid_at hD hg';have hll:(p.D++s.sh.gs.drop p.i).length=s.sh.pn:=by rw[List.length_append,List.length_drop];omega
  refine J.fact (.gown (fun g:GrA=>grC g) 2 43 pa s.sh.pn pc (p.D++s.sh.gs.drop p.i)) (fun _ _ h=>(gown_e h).1.some (by omega)) fun hpa=>?_
  have hpb:∃b o,pa=some ⟨b,o,none⟩:=hpa.elim fun b h=>⟨b,0,h⟩
  refine run ?_;refine J.regionX [(0, .q),(1, .c),(2, .q),(3, .q),(4, .q),(5, .q),(7, .q),(8, .q),(9, .q),(10, .q),(6, .e),(11, .e),(12, .q),(13, .q),(14, .g),(15, .q),(16, .q),(17, .g)] mixed (by kernel_rfl) ?_;refine run ?_;refine J.ncP rfl hpb rfl ?_;refine run ?_;refine J.ncP rfl hpb rfl ?_;refine run ?_;refine J.call rfl rfl (fun w' M=>cloneW g.ia g.m g.ic g.ids w' (G.ids.ext M.ext) hgc.1 (by omega)) fun q1 hq1=>?_
  obtain⟨ia,ic⟩:=q1;dsimp only at hq1⊢;refine run ?_;refine J.call rfl rfl (fun w' M=>cloneO g.oa g.n g.oc g.zs w' (G0.ext M.ext) (by omega)) fun q2 hq2=>?_
  obtain⟨za,zc⟩:=q2;dsimp only;refine run ?_;refine J.ncP rfl hpb rfl ?_;refine run ?_;refine J.stGf (f:=fun g:GrA=>grC g) (o:=0) (q0:=g) (q:=(⟨ia,g.oa,g.m,g.n,ic,g.oc,g.ids,g.zs⟩:GrA)) rfl rfl hz1 rfl ?_;have hz2:((p.D++s.sh.gs.drop p.i).set ((p.i:Nat):Int).toNat (⟨ia,g.oa,g.m,g.n,ic,g.oc,g.ids,g.zs⟩:GrA))[((p.i:Nat):Int).toNat]? =some ⟨ia,g.oa,g.m,g.n,ic,g.oc,g.ids,g.zs⟩:=by rw[List.getElem?_set,if_pos rfl,if_pos (by omega)]
  refine run ?_;refine J.ncP rfl hpb rfl ?_;refine run ?_;refine J.stGf (f:=fun g:GrA=>grC g) (o:=1) (q0:=(⟨ia,g.oa,g.m,g.n,ic,g.oc,g.ids,g.zs⟩:GrA)) (q:=(⟨ia,za,g.m,g.n,ic,zc,g.ids,g.zs⟩:GrA)) rfl rfl hz2 rfl ?_;have e1:((p.D++s.sh.gs.drop p.i).set ((p.i:Nat):Int).toNat (⟨ia,g.oa,g.m,g.n,ic,g.oc,g.ids,g.zs⟩:GrA)).set ((p.i:Nat):Int).toNat (⟨ia,za,g.m,g.n,ic,zc,g.ids,g.zs⟩:GrA)=(p.D++[(⟨ia,za,g.m,g.n,ic,zc,g.ids,g.zs⟩:GrA)])++s.sh.gs.drop (p.i+1):=by rw[List.set_set,Int.toNat_natCast,S.set_mid hD hg']
  rw[e1];have hz3:((p.D++[(⟨ia,za,g.m,g.n,ic,zc,g.ids,g.zs⟩:GrA)])++s.sh.gs.drop (p.i+1))[((p.i:Nat):Int).toNat]? =some ⟨ia,za,g.m,g.n,ic,zc,g.ids,g.zs⟩:=by
   rw[Int.toNat_natCast,List.append_assoc,List.getElem?_append_right (by omega),hD,Nat.sub_self];rfl
  refine run ?_;refine J.ncP rfl hpb rfl ?_;refine run ?_;refine J.noA ?_;refine J.re (.gown opC 11 37 za g.n zc g.zs) (.gown opC 11 37 za g.n zc ([]++g.zs.drop 0)) (fun _ _ h=>h) ?_;refine J.re (.all []) (.all (([]:List OpA).map (opE 24))) (fun _ _ h=>h) ?_;refine J.front (.wown 24 .u8 32 ia g.m ic g.ids) ?_;refine J.front (.all (p.D.map grAll)) ?_;refine J.front (.gown (fun g:GrA=>grC g) 2 43 pa s.sh.pn pc ((p.D++[(⟨ia,za,g.m,g.n,ic,zc,g.ids,g.zs⟩:GrA)])++s.sh.gs.drop (p.i+1))) ?_;refine J.front (.all (([]:List OpA).map (opE 24))) ?_;refine J.front (.gown opC 11 37 za g.n zc ([]++g.zs.drop 0)) ?_;refine J.drop (E:=[.gown opC 11 37 za g.n zc ([]++g.zs.drop 0), .all (([]:List OpA).map (opE 24)), .gown (fun g:GrA=>grC g) 2 43 pa s.sh.pn pc ((p.D++[(⟨ia,za,g.m,g.n,ic,zc,g.ids,g.zs⟩:GrA)])++s.sh.gs.drop (p.i+1)), .all (p.D.map grAll), .wown 24 .u8 32 ia g.m ic g.ids, .blk b1 [.int .i64 s.cap, .slice pa s.sh.pn pc, .slice ha s.sh.hn hc, .int .i64 s.sh.ver, .slice oa s.on oc] 55, .wown 24 .u8 32 ha s.sh.hn hc s.sh.hs, .wown 24 .u8 32 oa s.on oc s.os, .blk b2 [.int .i64 0, .slice none 0 0, .slice none 0 0, .int .i64 0, .slice none 0 0] 55]) sb ?_
  refine J.loop (A:=TwA) (fun e=>[(55, .int .i64 (e.i:Nat))]) [5,56,57,58,59,60,61,62,63,64,65,66,67,68,69,70,71,72,73,74] (fun e=>[.gown opC 11 37 za g.n zc (e.D++g.zs.drop e.i), .all (e.D.map (opE 24)), .gown (fun g:GrA=>grC g) 2 43 pa s.sh.pn pc ((p.D++[(⟨ia,za,g.m,g.n,ic,zc,g.ids,g.zs⟩:GrA)])++s.sh.gs.drop (p.i+1)), .all (p.D.map grAll), .wown 24 .u8 32 ia g.m ic g.ids, .blk b1 [.int .i64 s.cap, .slice pa s.sh.pn pc, .slice ha s.sh.hn hc, .int .i64 s.sh.ver, .slice oa s.on oc] 55, .wown 24 .u8 32 ha s.sh.hn hc s.sh.hs, .wown 24 .u8 32 oa s.on oc s.os, .blk b2 [.int .i64 0, .slice none 0 0, .slice none 0 0, .int .i64 0, .slice none 0 0] 55]) (fun e=>e.i≤g.n∧e.D.length=e.i∧e.D.map OpA.o=(g.zs.take e.i).map OpA.o∧∀z∈e.D,z.o.n≤z.pc) (fun e=>g.n - e.i) ⟨0,[]⟩ (by kernel_rfl) ⟨Nat.zero_le _,rfl,rfl,fun z hz=>by cases hz⟩ (fun e j2 hE=>?_);obtain⟨he,hED,hEo,hEc⟩:=hE;refine run ?_;refine J.ifd rfl (fun d1=>?_) (fun d1=>?_)
  ·obtain⟨z,hzz⟩:=G0.ex (i:=(e.i:Nat)) (by omega);have R:=G.op hzz;rw[Int.toNat_natCast]at hzz;have hy2:(e.D++g.zs.drop e.i)[((e.i:Nat):Int).toNat]? =some z:=mid_at hED hzz;refine run ?_;refine J.regionX [(0, .q),(1, .q),(2, .q),(3, .q),(4, .q),(5, .q),(6, .q),(7, .q),(8, .q),(9, .q),(10, .q),(11, .q),(12, .q),(13, .e),(14, .q),(15, .q),(16, .g)] mixed (by kernel_rfl) ?_;refine run ?_;refine J.ncP rfl hpb rfl ?_;refine run ?_;refine J.ncP rfl hpb rfl ?_;refine run ?_;refine J.call rfl rfl (fun w' M=>cloneW _ _ _ _ w' (R.row.ext M.ext) R.cap (by have:=R.ok.n;omega)) fun q hq=>?_
   refine run ?_;refine J.stGf (f:=opC) (o:=1) (q0:=z) (q:=⟨z.o,q.1,q.2⟩) rfl rfl hy2 rfl ?_;have e2:(e.D++g.zs.drop e.i).set ((e.i:Nat):Int).toNat (⟨z.o,q.1,q.2⟩:OpA)=(e.D++[(⟨z.o,q.1,q.2⟩:OpA)])++g.zs.drop (e.i+1):=by rw[Int.toNat_natCast,S.set_mid hED hzz]
   rw[e2];refine run ?_;refine J.snocA (e.D.map (opE 24)) (.wown 24 .u8 32 q.1 z.o.n q.2 z.o.ids) ?_;refine J.re (.all (e.D.map (opE 24)++[.wown 24 .u8 32 q.1 z.o.n q.2 z.o.ids])) (.all ((e.D++[(⟨z.o,q.1,q.2⟩:OpA)]).map (opE 24))) (fun _ _ h=>by rw[List.map_append];exact h) ?_
   exact J.next ⟨e.i + 1, e.D ++ [⟨z.o, q.1, q.2⟩]⟩ ⟨rfl, trivial⟩ (by kernel_rfl) ⟨by dsimp only; omega, by simp [hED], by dsimp only; rw [List.map_append, hEo, List.take_add_one, hzz, Option.toList_some, List.map_append]; rfl, fun y hy => by
    rcases List.mem_append.1 hy with h | h
    ·exact hEc y h
    rw [List.mem_singleton] at h; subst h; exact hq⟩ (by dsimp only; omega)
  obtain⟨ei,D⟩:=e;dsimp only at he hED hEo hEc d1⊢;obtain rfl:ei=g.n:=by omega
  rw[List.drop_of_length_le (by have:=G0.len;omega),List.append_nil];have hDo:D.map OpA.o=g.ops:=by rw[hEo,List.take_of_length_le (by have:=G0.len;omega)];rfl
  refine run ?_;refine J.triG (⟨ia,za,g.m,g.n,ic,zc,g.ids,D⟩:GrA) ?_;refine J.snocA (p.D.map grAll) (grAll ⟨ia,za,g.m,g.n,ic,zc,g.ids,D⟩) ?_;refine J.re (.all (p.D.map grAll++[grAll ⟨ia,za,g.m,g.n,ic,zc,g.ids,D⟩])) (.all ((p.D++[(⟨ia,za,g.m,g.n,ic,zc,g.ids,D⟩:GrA)]).map grAll)) (fun _ _ h=>by rw[List.map_append];exact h) ?_;refine J.re (.gown (fun g:GrA=>grC g) 2 43 pa s.sh.pn pc ((p.D++[(⟨ia,za,g.m,g.n,ic,zc,g.ids,g.zs⟩:GrA)])++s.sh.gs.drop (p.i+1))) (.gown (fun g:GrA=>grC g) 2 43 pa s.sh.pn pc ((p.D++[(⟨ia,za,g.m,g.n,ic,zc,g.ids,D⟩:GrA)])++s.sh.gs.drop (p.i+1))) (fun _ _ h=>gown_reG (by simp only[List.flatMap_append];rfl) (by simp only[List.length_append,List.length_cons]) h) ?_;refine J.front (.all ((p.D++[(⟨ia,za,g.m,g.n,ic,zc,g.ids,D⟩:GrA)]).map grAll)) ?_;refine J.front (.gown (fun g:GrA=>grC g) 2 43 pa s.sh.pn pc ((p.D++[(⟨ia,za,g.m,g.n,ic,zc,g.ids,D⟩:GrA)])++s.sh.gs.drop (p.i+1))) ?_
  exact J.next ⟨p.i + 1, p.D ++ [⟨ia, za, g.m, g.n, ic, zc, g.ids, D⟩]⟩ ⟨rfl, trivial⟩ (by kernel_rfl) ⟨by dsimp only; omega, by simp [hD], gsTake hg' (by unfold GrA.P GrA.ops; dsimp only; rw [hDo]; rfl) hps, fun y hy => by
   rcases List.mem_append.1 hy with h | h
   ·exact hpk y h
   rw [List.mem_singleton] at h
   subst h
   exact ⟨fun z hz => G.opz z.o (by rw [← hDo]; exact List.mem_map.2 ⟨z, hz, rfl⟩), hEc⟩⟩ (by dsimp only; omega)
 obtain⟨pi,D⟩:=p;dsimp only at hp hD hps hpk c1⊢;obtain rfl:pi=s.sh.pn:=by omega
 rw[List.drop_of_length_le (by omega),List.append_nil];have hps:D.map GrA.P=s.sh.V.ps:=hps.trans (List.take_of_length_le (by rw[List.length_map,hl];exact Nat.le_refl _));refine run ?_;refine J.pair (.gown (fun g:GrA=>grC g) 2 43 pa s.sh.pn pc D) (.all (D.map grAll)) ?_;refine J.snocA [.gown (fun g:GrA=>grC g) 2 43 pa s.sh.pn pc D, .all (D.map grAll)] (.wown 24 .u8 32 ha s.sh.hn hc s.sh.hs) ?_;refine J.re (.all ([.gown (fun g:GrA=>grC g) 2 43 pa s.sh.pn pc D, .all (D.map grAll)]++[.wown 24 .u8 32 ha s.sh.hn hc s.sh.hs])) (shW ⟨pa,s.sh.pn,pc,D,ha,s.sh.hn,hc,s.sh.hs,s.sh.ver⟩) (fun _ _ h=>by unfold shW;exact h) ?_;refine J.front (shW ⟨pa,s.sh.pn,pc,D,ha,s.sh.hn,hc,s.sh.hs,s.sh.ver⟩) ?_;exact J.finG ⟨s.cap,⟨pa,s.sh.pn,pc,D,ha,s.sh.hn,hc,s.sh.hs,s.sh.ver⟩,oa,s.on,oc,s.os⟩ rfl ⟨by unfold StA.V ShA.V;dsimp only;rw[hps],hpk⟩ sb
instance:Ents prog 115:=⟨.mk func115 (by kernel_rfl) rfl⟩
instance:Ents prog 116:=⟨.mk func116 (by kernel_rfl) rfl⟩
instance:Ents prog 31:=⟨.mk func31 (by kernel_rfl) rfl⟩
instance:Und prog 48 (.slice 5):=⟨underlying48⟩
theorem StZ.off{v:S.StV}{o:S.OpV}(hz:StZ v)(hg:S.StG v)(h:S.okT v)(hv:S.verE o=0):StZ (S.offT v o):=by
 by_cases c:S.judT v o=1
 ·rw[S.off_1 c];obtain⟨a1,a2⟩:=S.com_add hg h hv c;have F:=S.ok_fineT hg h;obtain⟨_,_,b3,b4,_⟩:=S.add_fine F.fine.good.1 a1;rw[a2]at b3 b4;have hle:=b3.le;have hcp:=F.cap;have hps:=F.ps;refine⟨fun p hp=>?_,⟨?_,?_⟩,fun _=>?_,?_⟩
  ·obtain⟨i,hi,rfl⟩:=List.mem_map.1 hp;obtain⟨h1,h2⟩:=S.prt_size (S.putP (S.whole v.sh.ps) (S.idOf o) o) v.sh.ps.length i;exact⟨by omega,by omega⟩
  ·show(S.madeS _ _).ps.length≤6;rw[S.made_len];omega
  ·exact Nat.le_trans (S.numF_le _ _) (Nat.le_trans hle (by decide))
  ·exact Nat.le_trans (S.allN_made b3) (Nat.le_trans hle (by decide))
  show v.n+1≤70;omega
 rw[S.off_no c];exact hz
theorem StZ.run{v:S.StV}{l:List S.OpV}(hz:StZ v)(hg:S.StG v)(h:S.okT v)(hl:∀o∈l,S.verE o=0):∀i,i≤l.length→StZ (S.runT v l i)
 |0,_=>hz
 |i+1,hi=>by
  obtain⟨k1,k2⟩:=S.run_ok hg h hl i (by omega);rw[S.runT];exact(StZ.run hz hg h hl i (by omega)).off k2 k1 (hl _ (by rw[S.getD_at (by omega)];exact List.getElem_mem _))
theorem jud_bd(v:S.StV)(o:S.OpV):0≤S.judT v o∧S.judT v o<256:=by
 rcases S.jud_or v o with h|h|h|h<;>rw[h]<;>decide
theorem stOffer{S0 S1:Nat→Prop}(s:StA)(z:OpA)(TK:TypeId)(w:World)(K0:Kst w TK)(H:StR S0 w s)(R:OpR S1 w z):
  Calls prog 31 #[.agg (srC s).toArray, .agg (opC z).toArray] w (Gv w (fun q:StA=> .tuple #[.agg (srC q).toArray, .int .u8 (S.ofJ s.V z.o), .int .i64 (S.askE s.V z.o)]) (fun q=>stE q) (StK (S.ofS s.V z.o))):=by
 have hcp:=H.cap;have hA:=S.sha_arr (S.encS z.o);refine J.enter 55 func31 rfl rfl ?_;refine run ?_;refine J.box rfl rfl rfl fun b1=>?_
 refine J.box rfl rfl rfl fun b2=>?_
 refine J.alloc rfl fun b3=>?_
 refine run ?_;refine J.callp rfl rfl (fun w' M=>stAsked s z _ w' (K0.ext M.ext) (H.ext M.ext) (R.ext M.ext)) ?_;refine run ?_;refine J.ifn rfl (fun c1=>?_) (fun c1=>?_)
 ·rw[(S.of_no c1).2];refine run ?_;refine J.nilSh (J.nilWo 24 .u8 32 ?_);refine J.front (shW ShA.zero) ?_;exact J.finG StA.zero rfl (stZero (S.of_no c1).1) sb
 obtain⟨hok,hv⟩:=S.askE_0 c1;have hchk:=S.verE_check hv;have hver:(s.on:Int)=s.sh.ver:=hok.1.2.2.2;rw[(S.of_yes c1).1,(S.of_yes c1).2,c1];refine run ?_;refine J.callp rfl rfl (fun w' M=>idO z.o R.ok _ _ _ _ (K0.ext M.ext) (R.row.ext M.ext) R.cap) ?_;rw[if_pos hchk];refine run ?_;refine J.alloc rfl fun b4=>?_
 refine run ?_;refine J.callp rfl rfl (fun w' M=>stVerdict s z w' (H.ext M.ext) (R.ext M.ext) hver) ?_;refine run ?_;refine J.call rfl rfl (fun w' M=>stTwin s w' (H.ext M.ext)) fun t ht=>?_
 refine run ?_;refine J.alloc rfl fun b5=>?_
 refine run ?_;refine J.ife rfl (fun c2=>?_) (fun c2=>?_)
 ·obtain⟨a1,a2⟩:=S.com_add H.g hok hv c2;obtain⟨p1,p2,p3⟩:=S.pu_0 hok.1.2.1 a1;rw[a2]at p2;refine run ?_;refine J.call rfl rfl (fun w' M=>shOne (shPut s.sh z TK w' (K0.ext M.ext) (H.sh.ext M.ext) H.L (R.ext M.ext))) fun r hr=>?_
  rw[show S.puE s.sh.V z.o=0 from p1,show S.puI s.sh.V z.o=S.idOf z.o from p3];refine run ?_;refine J.alloc rfl fun b6=>?_
  refine J.alloc rfl fun b7=>?_
  refine run ?_;refine J.regionG [.blk b6 (shC r) 53, .blk b5 (srC t) 55, .blk b4 (ints .u8 (S.sha (S.encS z.o))) 24] [7,9] [8] mixed ?_;refine J.gfin [(0, .q),(1, .q),(2, .q),(3, .q),(6, .q),(4, .e),(5, .e),(7, .g),(8, .c),(9, .g)] (by kernel_rfl) ?_;refine run ?_;refine J.b1W rfl rfl hA fun bb=>?_
  refine run ?_;have hton:t.on=s.on:=congrArg S.StV.n ht.V;refine J.apW rfl rfl RW.own' fun a' c'=>?_
  refine J.sw rfl ?_;refine run ?_;refine J.front (.wown 24 .u8 32 a' (t.on+1) c' (t.os++S.sha (S.encS z.o))) ?_;refine J.front (shW r) ?_;refine J.finG ⟨t.cap,r,a',t.on+1,c',t.os++S.sha (S.encS z.o)⟩ rfl ⟨?_,hr.k⟩ sb;rw[S.off_1 c2];have e1:t.cap=s.cap:=congrArg S.StV.cap ht.V;have e2:t.on=s.on:=congrArg S.StV.n ht.V;have e3:t.os=s.os:=congrArg S.StV.os ht.V;have e4:r.V=S.puS s.sh.V z.o:=hr.V;unfold StA.V S.comT;dsimp only;rw[e1,e2,e3,e4,show S.puS s.sh.V z.o=_ from p2]
 refine run ?_;refine J.finG t rfl ⟨?_,ht.k⟩ sb;rw[S.off_no c2];exact ht.V
structure RnA where
 (i:Nat)(t:StA)(a:Option Addr)(c:Nat)
theorem stRun{S0 S1:Nat→Prop}(s:StA)(a:Option Addr)(n c:Nat)(zs:List OpA)(TK:TypeId)(w:World)(K0:Kst w TK)(H:StR S0 w s)(O:GRow opC 11 S1 w a n zs)(I0:Inns opI S1 w zs)(hok:∀z∈zs,z.o.ok)(hn:n≤100000):
  Calls prog 39 #[.agg (srC s).toArray, .slice a n c] w (Gv w (fun q:StA×Option Addr×Nat=> .tuple #[.agg (srC q.1).toArray, .slice q.2.1 (S.runL s.V (zs.map OpA.o)).length q.2.2, .int .i64 (S.runE s.V (zs.map OpA.o))]) (fun q=>[shW q.1.sh, .wown 24 .u8 32 q.1.oa q.1.on q.1.oc q.1.os, .iown 5 .u8 q.2.1 (S.runL s.V (zs.map OpA.o)).length q.2.2 (S.runL s.V (zs.map OpA.o))]) fun q=>StK (S.runS s.V (zs.map OpA.o)) q.1):=by
 have hl:=O.len;obtain⟨ops,hops⟩:=ex (zs.map OpA.o);have hol:ops.length=n:=by rw[hops,List.length_map,hl]
 have opR:∀ {i:Nat} {z:OpA},zs[i]? =some z→OpR S1 w z∧ops.getD i S.OpV.zero=z.o:=fun {i z} h=>by
  have hm:=List.mem_of_getElem? h;have h1:=I0 z hm ⟨.u8,32,z.pa,z.o.n,z.pc,z.o.ids⟩ (List.mem_singleton.2 rfl);exact⟨⟨hok z hm,h1.1,h1.2⟩,by rw[hops,List.getD_eq_getElem?_getD,List.getElem?_map,h];rfl⟩
 rw[←hops];refine J.enter 66 func39 rfl rfl ?_;refine run ?_;refine J.box rfl rfl rfl fun b1=>?_
 refine J.alloc rfl fun b2=>?_
 refine run ?_;refine J.callp rfl rfl (fun w' M=>stCheck s _ w' (K0.ext M.ext) (H.ext M.ext)) ?_;refine run ?_;refine J.ifn rfl (fun c1=>?_) (fun c1=>?_)
 ·obtain⟨k1,k2⟩:=S.chkT_ne c1;have he:=S.runE_8 (l:=ops) k1;obtain⟨e1,e2⟩:=S.run_no (v:=s.V) (l:=ops) (by rw[he];decide);rw[he,e2,k2];refine run ?_;refine J.nilI 5 .u8 ?_;refine J.nilWo 24 .u8 32 ?_;refine J.nilSh ?_;exact J.finG (StA.zero,none,0) rfl (stZero e1) sb
 have hokT:=S.chkT_iff.1 c1;refine run ?_;refine J.ifd rfl (fun c2=>?_) (fun c2=>?_)
 ·have he:=S.runE_4 (l:=ops) hokT (by omega);obtain⟨e1,e2⟩:=S.run_no (v:=s.V) (l:=ops) (by rw[he];decide);rw[he,e2];refine run ?_;refine J.nilI 5 .u8 ?_;refine J.nilWo 24 .u8 32 ?_;refine J.nilSh ?_;exact J.finG (StA.zero,none,0) rfl (stZero e1) sb
 have h60:¬60<ops.length:=by omega
 have hev:=S.runE_v (l:=ops) hokT h60;refine run ?_;refine J.loopS (A:=Nat) (fun p=>[(30, .int .i64 (p:Nat))]) [9,10,31,32,33,34,35,36,37,38,39,40] (fun p=>p≤n∧∀k,k<p→S.verE (ops.getD k S.OpV.zero)=0) (fun p=>n - p) 0 (by kernel_rfl) ⟨Nat.zero_le _,fun i hi=>by omega⟩ (fun p j hI=>?_);obtain⟨hp,hI⟩:=hI;refine run ?_;refine J.ifd rfl (fun c3=>?_) (fun c3=>?_)
 ·obtain⟨z,hz⟩:=O.ex (i:=(p:Nat)) (by omega);have hz':=hz;rw[Int.toNat_natCast]at hz';obtain⟨R,hzo⟩:=opR hz';refine run ?_;refine J.alloc rfl fun b3=>?_
  refine run ?_;refine J.callp rfl rfl (fun w' M=>verifyO z.o R.ok _ _ _ _ (K0.ext M.ext) (R.row.ext M.ext) R.cap) ?_;refine run ?_;refine J.ifn rfl (fun c4=>?_) (fun c4=>?_)
  ·have he:S.runE s.V ops=S.verE z.o:=by
    rw[hev,←hzo];exact S.verL_first (by omega) hI (by rw[hzo];exact c4)
   obtain⟨e1,e2⟩:=S.run_no (v:=s.V) (l:=ops) (by rw[he];exact c4);rw[he,e2];refine run ?_;refine J.nilI 5 .u8 ?_;refine J.nilWo 24 .u8 32 ?_;refine J.nilSh ?_;exact J.finG (StA.zero,none,0) rfl (stZero e1) sb
  refine run ?_;refine J.nextS (p+1) ⟨rfl,trivial⟩ (by kernel_rfl) ⟨by omega,fun k hk=>?_⟩ (by omega);rcases Nat.lt_or_ge k p with h|h
  ·exact hI k h
  obtain rfl:k=p:=by omega
  rw[hzo];exact c4
 have hvl:S.verL ops=0:=S.verL_all fun k hk=>hI k (by omega);have hvo:=S.verL_zero.1 hvl;have he:S.runE s.V ops=0:=hev.trans hvl;obtain⟨e1,e2⟩:=S.run_yes he;rw[he,e1,e2,S.runJ_len,hol];have hrun:=fun i hi=>S.run_ok H.g hokT hvo i hi;have hsz:=fun i hi=>H.z.run H.g hokT hvo i hi;refine run ?_;refine J.call rfl rfl (fun w' M=>stTwin s w' (H.ext M.ext)) fun t ht=>?_
 refine run ?_;refine J.alloc rfl fun b4=>?_
 refine run ?_;refine J.nilI 5 .u8 ?_;refine J.front (.blk b1 (srC s) 55) ?_;refine J.front (.iown 5 .u8 none 0 0 []) ?_;refine J.front (.wown 24 .u8 32 t.oa t.on t.oc t.os) ?_;refine J.front (shW t.sh) ?_;refine J.front (.blk b4 (srC t) 55) ?_;refine J.loop (A:=RnA) (fun p=>[(12, .slice p.a p.i p.c),(45, .int .i64 (p.i:Nat))]) [14,15,16,17,46,47,48,49,50,51,52,53,54,55,56,57,58,59,60,61,62,63,64,65] (fun p=>[.blk b4 (srC p.t) 55,shW p.t.sh, .wown 24 .u8 32 p.t.oa p.t.on p.t.oc p.t.os, .iown 5 .u8 p.a p.i p.c (S.runJ s.V ops p.i), .blk b1 (srC s) 55, .blk b2 [.int .i64 0, .slice none 0 0, .slice none 0 0, .int .i64 0, .slice none 0 0] 55]) (fun p=>p.i≤n∧StK (S.runT s.V ops p.i) p.t) (fun p=>n - p.i) ⟨0,t,none,0⟩ (by kernel_rfl) ⟨Nat.zero_le _,ht⟩ (fun p j hI=>?_) sb;obtain⟨hp,hT⟩:=hI;refine run ?_;refine J.ifd rfl (fun c3=>?_) (fun c3=>?_)
 ·obtain⟨z,hz⟩:=O.ex (i:=(p.i:Nat)) (by omega);have hz':=hz;rw[Int.toNat_natCast]at hz';obtain⟨R,hzo⟩:=opR hz';have hvz:S.verE z.o=0:=by rw[←hzo];exact hvo _ (by rw[S.getD_at (by omega)];exact List.getElem_mem _)
  have hbd:=jud_bd (S.runT s.V ops p.i) z.o;have hask:S.askE (S.runT s.V ops p.i) z.o=0:=by rw[S.askE_v (hrun p.i (by omega)).1,hvz]
  obtain⟨f1,f2⟩:=S.of_yes hask;refine run ?_;refine J.alloc rfl fun b5=>?_
  refine run ?_;refine J.call rfl rfl (fun w' M=>stOffer p.t z TK w' (K0.ext M.ext) (hT.own (hsz p.i (by omega)) w' M) (R.ext M.ext)) fun u hu=>?_
  rw[hT.V,f1]at hu;rw[hT.V,f2,hask];refine run ?_;refine J.alloc rfl fun b6=>?_
  refine run ?_;refine J.regionR [.blk b6 (srC u) 55] [(0, .q),(1, .q),(2, .q),(3, .e),(4, .e),(5, .e),(6, .q)] mixed (by kernel_rfl) (by repeat(first|exact List.Sublist.refl _|refine List.Sublist.cons_cons _ ?_|refine List.Sublist.cons _ ?_)) ?_;refine run ?_;refine J.b1 rfl rfl fun bb=>?_
  refine J.apI rfl rfl RI.own' fun a' c'=>?_
  have e3:S.runJ s.V ops p.i++[S.judT (S.runT s.V ops p.i) z.o]=S.runJ s.V ops (p.i+1):=by rw[S.runJ,hzo]
  rw[e3];refine run ?_;refine J.front (.iown 5 .u8 a' (p.i+1) c' (S.runJ s.V ops (p.i+1))) ?_;refine J.front (.wown 24 .u8 32 u.oa u.on u.oc u.os) ?_;refine J.front (shW u.sh) ?_;refine J.front (.blk b4 (srC u) 55) ?_;refine J.drop (E:=[.blk b4 (srC u) 55,shW u.sh, .wown 24 .u8 32 u.oa u.on u.oc u.os, .iown 5 .u8 a' (p.i+1) c' (S.runJ s.V ops (p.i+1)), .blk b1 (srC s) 55, .blk b2 [.int .i64 0, .slice none 0 0, .slice none 0 0, .int .i64 0, .slice none 0 0] 55]) sb ?_;exact J.next ⟨p.i+1,u,a',c'⟩ ⟨rfl,rfl,trivial⟩ (by kernel_rfl) ⟨by dsimp only;omega,by dsimp only;rw[S.runT,hzo];exact hu⟩ (by dsimp only;omega)
 obtain⟨pi,t',ra,rc⟩:=p;dsimp only at hp hT c3⊢;obtain rfl:pi=n:=by omega
 refine run ?_;exact J.finG (t',ra,rc) rfl hT sb
theorem stSince{S0:Nat→Prop}(s:StA)(k:Int)(TK:TypeId)(w:World)(K0:Kst w TK)(H:StR S0 w s):
  Calls prog 40 #[.agg (srC s).toArray, .int .i64 k] w (Gv w (fun q:Option Addr×Nat=> .tuple #[.slice q.1 (S.sinN s.V k) q.2, .int .i64 (S.sinE s.V k)]) (fun q=>[.wown 24 .u8 32 q.1 (S.sinN s.V k) q.2 (S.sinL s.V k)]) fun q=>S.sinN s.V k≤q.2):=by
 have hcp:=H.cap;refine J.enter 24 func40 rfl rfl ?_;refine run ?_;refine J.box rfl rfl rfl fun b1=>?_
 refine run ?_;refine J.callp rfl rfl (fun w' M=>stCheck s _ w' (K0.ext M.ext) (H.ext M.ext)) ?_;refine run ?_;refine J.ifn rfl (fun c1=>?_) (fun c1=>?_)
 ·obtain⟨k1,k2⟩:=S.chkT_ne c1;have he:=S.sinE_8 (k:=k) k1;obtain⟨e1,e2⟩:=S.sin_no (v:=s.V) (k:=k) (by rw[he];decide);rw[he,e1,e2,k2];refine run ?_;refine J.nilWo 24 .u8 32 ?_;exact J.finG (none,0) rfl (Nat.le_refl _) sb
 have hok:=S.chkT_iff.1 c1;have bad:¬(0≤k∧k≤s.V.n)→S.sinE s.V k=2∧S.sinN s.V k=0∧S.sinL s.V k=[]:=fun h=>by
  have he:=S.sinE_2 hok h;obtain⟨e1,e2⟩:=S.sin_no (v:=s.V) (k:=k) (by rw[he];decide);exact⟨he,e1,e2⟩
 refine run ?_;refine J.spd rfl rfl rfl (fun c2=>?_) (fun c2=>?_)
 ·obtain⟨he,e1,e2⟩:=bad (by omega);rw[he,e1,e2];refine run ?_;refine J.nilWo 24 .u8 32 ?_;exact J.finG (none,0) rfl (Nat.le_refl _) sb
 refine run ?_;refine J.ifd rfl (fun c3=>?_) (fun c3=>?_)
 ·obtain⟨he,e1,e2⟩:=bad (fun h=>by have h1:k≤(s.on:Int):=h.2;omega);rw[he,e1,e2];refine run ?_;refine J.nilWo 24 .u8 32 ?_;exact J.finG (none,0) rfl (Nat.le_refl _) sb
 have he:=S.sinE_0 hok (k:=k) ⟨by omega,by show k≤(s.on:Int);omega⟩;obtain⟨e1,e2⟩:=S.sin_yes he;rw[he,e1,e2];refine run ?_;refine J.call rfl rfl (fun w' M=>cloneW _ (s.on - k.toNat) _ _ w' (wDp (H.os.ext M.ext) k.toNat s.oc (by omega) hcp.1) (by omega) (by omega)) fun q hq=>?_
 refine run ?_;exact J.finG q rfl hq sb
theorem stNew(c n:Int)(w:World):
  Calls prog 36 #[.int .i64 c, .int .i64 n] w (Gv w (fun q:StA=> .tuple #[.agg (srC q).toArray, .int .i64 (S.nwTE c n)]) (fun q=>stE q) (StK (S.nwT c n))):=by
 have bad:¬((1≤c∧c≤40)∧1≤n∧n≤4)→S.nwT c n=S.StV.zero∧S.nwTE c n=2:=S.nwT_2;refine J.enter 25 func36 rfl rfl ?_;refine run ?_;refine J.alloc rfl fun b1=>?_
 refine run ?_;refine J.call rfl rfl (fun w' M=>shOne (shNew n w')) fun u hu=>?_
 refine run ?_;refine J.alloc rfl fun b2=>?_
 refine run ?_;refine J.spd rfl rfl rfl (fun c1=>?_) (fun c1=>?_)
 ·obtain⟨e1,e2⟩:=bad (by omega);rw[e2];refine run ?_;refine J.nilWo 24 .u8 32 ?_;refine J.nilSh ?_;exact J.finG StA.zero rfl (stZero e1) sb
 refine run ?_;refine J.spd rfl rfl rfl (fun c2=>?_) (fun c2=>?_)
 ·obtain⟨e1,e2⟩:=bad (by omega);rw[e2];refine run ?_;refine J.nilWo 24 .u8 32 ?_;refine J.nilSh ?_;exact J.finG StA.zero rfl (stZero e1) sb
 refine run ?_;refine J.ifn rfl (fun c3=>?_) (fun c3=>?_)
 ·obtain⟨e1,e2⟩:=bad fun h=>c3 (if_pos h.2);rw[e2];refine run ?_;refine J.nilWo 24 .u8 32 ?_;refine J.nilSh ?_;exact J.finG StA.zero rfl (stZero e1) sb
 have hn:1≤n∧n≤4:=Classical.byContradiction fun h=>by
  rw[show S.nwE n=2 from if_neg h]at c3;exact absurd c3 (by decide)
 obtain⟨e1,e2⟩:=S.nwT_0 (c:=c) (n:=n) ⟨by omega,hn⟩;rw[e2];refine run ?_;refine J.nilWo 24 .u8 32 ?_;refine J.front (.wown 24 .u8 32 none 0 0 []) ?_;refine J.front (shW u) ?_;refine J.finG ⟨c,u,none,0,0,[]⟩ rfl ⟨?_,hu.k⟩ sb;rw[e1];have e4:u.V=S.nwS n:=hu.V;unfold StA.V;dsimp only;rw[e4,show S.nwS n=S.madeS S.PG.nil n.toNat from if_pos hn]
instance:Ents prog 41:=⟨.mk func41 (by kernel_rfl) rfl⟩
end W
namespace S
open G
/-! ### the third operation -/
def hxZ:List Int:=[84,115,226,229,1,66,225,93,234,30,233,224,98,147,176,107,171,18,248,223,147,177,151,188,28,165,170,225,215,223,162,210]
def hxP:OpV:=⟨64,0,1,0,0,0,280029583,157840741,0,[], .empty, .empty⟩
theorem hx_z:sha (encS hxP)=hxZ:=by decide+kernel
theorem hx_pub3:pubS 3=64:=by decide+kernel
theorem hx_non3:nonceS 3 (msgS (hxA.wit 3))=317751998:=by decide+kernel
theorem hx_r3:pubS 317751998=907203284:=by
 unfold pubS;rw[pw_fast _ _ _ (by decide) (by decide)];decide+kernel
theorem hx_e3:sigE 3 (msgS (hxA.wit 3))=280029583:=by
 unfold sigE;rw[hx_non3,hx_r3,hx_pub3];decide+kernel
theorem hx_s3:sigS 3 (msgS (hxA.wit 3))=157840741:=by
 unfold sigS;rw[hx_non3,hx_e3];decide
theorem hx_signE3:signE 3 hxA=0:=signE_zero.2 ⟨by decide,check_zero.2 ⟨(by decide:(0:Nat)≤4),rising_nil,isG_pub 3 (by decide),(by decide:(0:Int)≤1000000000000),(by decide:(0:Int)<500000003),(by decide:(0:Int)<500000003), .inl ⟨rfl,rfl,rfl,rfl,rfl,rfl⟩⟩⟩
theorem hx_sign3:signS 3 hxA=hxP:=by
 unfold signS;rw[if_pos hx_signE3,hx_e3,hx_s3];unfold OpV.wit;rw[hx_pub3];rfl
theorem hx_okP:hxP.ok:=⟨by decide,by decide,by decide,by decide,by decide,by decide,by decide,by decide,by decide,by decide,by decide⟩
theorem hx_verP:verE hxP=0:=by
 have:=(sign_good hx_okA rfl hx_signE3).2.2.2.2.2.2;rwa[hx_sign3]at this
/-! ### new stores -/
theorem nw_ok{c n:Int}(h:(1≤c∧c≤40)∧1≤n∧n≤4):okT (nwT c n)∧StG (nwT c n)∧whole (nwT c n).sh.ps=PG.nil:=by
 rw[(nwT_0 h).1];obtain⟨m1,m2⟩:=ok_made (n:=n.toNat) nil_fine (by omega);refine⟨⟨⟨h.1,m1,?_,?_⟩,fun i hi=>absurd hi (Nat.not_lt_zero _)⟩,⟨fun p hp=>((made_good nil_fine.good nil_fine.rising).mem hp).1.1,rfl⟩,m2⟩
 ·show((0:Nat):Int)≤c;omega
 ·rfl
/-! ### the example -/
theorem jud_w{v:StV}{o:OpV}{x:List Int}(h4:idOf o=x):judT v o=if inS v.n v.os x then 5 else if ¬allI v.n v.os o.n o.ids then 6 else if(v.n:Int)=v.cap then 8 else 1:=by subst h4;rfl
def hxL:List OpV:=[hxU,hxO,hxU,hxU,hxP]
theorem hxT_0:nwT 2 4=⟨2,madeS PG.nil 4,0,[]⟩:=(nwT_0 (by decide)).1
noncomputable def hxT1:StV:=comT (nwT 2 4) hxO
noncomputable def hxT2:StV:=comT hxT1 hxU
theorem hxT1_is:hxT1.n=1∧hxT1.os=hxX∧hxT1.cap=2:=by
 unfold hxT1;rw[hxT_0];exact⟨rfl,(List.nil_append _).trans hx_x,rfl⟩
theorem hxT2_is:hxT2.n=2∧hxT2.os=hxX++hxY∧hxT2.cap=2:=by
 have h1:hxT2.n=hxT1.n+1:=rfl;have h2:hxT2.os=hxT1.os++idOf hxU:=rfl;have h3:hxT2.cap=hxT1.cap:=rfl;have h4:idOf hxU=hxY:=hx_y;rw[h1,h2,h3,hxT1_is.1,hxT1_is.2.1,hxT1_is.2.2,h4];exact⟨rfl,rfl,rfl⟩
theorem hx_j1:judT (nwT 2 4) hxU=6:=by
 rw[hxT_0,jud_w hx_y];exact(if_neg (by decide)).trans (if_pos (by decide))
theorem hx_j2:judT (nwT 2 4) hxO=1:=by
 rw[hxT_0,jud_w hx_x];exact(if_neg (by decide)).trans ((if_neg (by decide)).trans (if_neg (by decide)))
theorem hx_j3:judT hxT1 hxU=1:=by
 rw[jud_w hx_y,hxT1_is.1,hxT1_is.2.1,hxT1_is.2.2];exact(if_neg (by decide)).trans ((if_neg (by decide)).trans (if_neg (by decide)))
theorem hx_j4:judT hxT2 hxU=5:=by
 rw[jud_w hx_y,hxT2_is.1,hxT2_is.2.1,hxT2_is.2.2];exact if_pos (by decide)
theorem hx_j5:judT hxT2 hxP=8:=by
 rw[jud_w hx_z,hxT2_is.1,hxT2_is.2.1,hxT2_is.2.2];exact(if_neg (by decide)).trans ((if_neg (by decide)).trans (if_pos (by decide)))
theorem hx_t:runT (nwT 2 4) hxL 5=hxT2∧runJ (nwT 2 4) hxL 5=[6,1,1,5,8]:=by
 have e0:runT (nwT 2 4) hxL 0=nwT 2 4:=rfl;have e1:runT (nwT 2 4) hxL 1=nwT 2 4:=off_no (show judT (nwT 2 4) hxU≠1 by rw[hx_j1];decide);have e2:runT (nwT 2 4) hxL 2=hxT1:=(congrArg (fun t=>offT t hxO) e1).trans (off_1 hx_j2);have e3:runT (nwT 2 4) hxL 3=hxT2:=(congrArg (fun t=>offT t hxU) e2).trans (off_1 hx_j3);have e4:runT (nwT 2 4) hxL 4=hxT2:=(congrArg (fun t=>offT t hxU) e3).trans (off_no (by rw[hx_j4];decide));have e5:runT (nwT 2 4) hxL 5=hxT2:=(congrArg (fun t=>offT t hxP) e4).trans (off_no (by rw[hx_j5];decide));refine⟨e5,?_⟩;show((((([]++[judT (runT (nwT 2 4) hxL 0) hxU])++[judT (runT (nwT 2 4) hxL 1) hxO])++[judT (runT (nwT 2 4) hxL 2) hxU])++[judT (runT (nwT 2 4) hxL 3) hxU])++[judT (runT (nwT 2 4) hxL 4) hxP])=_;rw[e0,e1,e2,e3,e4,hx_j1,hx_j2,hx_j3,hx_j4,hx_j5];rfl
theorem hx_ver:∀o∈hxL,verE o=0:=fun o ho=>by
 simp only[hxL,List.mem_cons,List.not_mem_nil,or_false]at ho;rcases ho with rfl|rfl|rfl|rfl|rfl
 ·exact hx_verU
 ·exact hx_verO
 ·exact hx_verU
 ·exact hx_verU
 ·exact hx_verP
theorem hx_okT:okT (nwT 2 4)∧StG (nwT 2 4):=⟨(nw_ok (by decide)).1,(nw_ok (by decide)).2.1⟩
theorem hx_run:runE (nwT 2 4) hxL=0∧runS (nwT 2 4) hxL=hxT2∧runL (nwT 2 4) hxL=[6,1,1,5,8]:=by
 have e:runE (nwT 2 4) hxL=0:=(runE_v hx_okT.1 (by decide)).trans (verL_zero.2 hx_ver);exact⟨e,(run_yes e).1.trans hx_t.1,(run_yes e).2.trans hx_t.2⟩
theorem hx_ok2:okT hxT2∧StG hxT2:=by
 have:=run_ok hx_okT.2 hx_okT.1 hx_ver 5 (Nat.le_refl _);rwa[hx_t.1]at this
theorem hx_sin:sinE hxT2 1=0∧sinN hxT2 1=1∧sinL hxT2 1=hxY:=by
 have e:sinE hxT2 1=0:=sinE_0 hx_ok2.1 (by rw[hxT2_is.1];decide);obtain⟨h1,h2⟩:=sin_yes e;refine⟨e,?_,?_⟩
 ·rw[h1,hxT2_is.1];rfl
 ·rw[h2,hxT2_is.2.1];rfl
/-! ### runs in parts -/
/-! ### what was committed is there -/
/-! ### other shards -/
/-! ### what is missing -/
end S
namespace G
open Go.RowKit
section
variable{S0:Nat→Prop}{w0:World}{L:List Ent}{P:Program}{ops:Array Oper}{K:List Value→World→Prop}{rest:List (Oper×Kd)}{l:List Value}{m:Md}{d:Tmp}{ty t e:TypeId}{pos:String}{af:Array Edge}{kd:Kd}
theorem ints_flat(k:IntKind):∀xs:List Int,(ints k xs).flatMap (·.cells.toList)=ints k xs
 |[]=>rfl
 |x::xs=>by
  have h:=ints_flat k xs;unfold ints at h⊢;rw[List.map_cons,List.flatMap_cons,h];rfl
theorem J.bnI{n by_:Nat}{parts:Array (Nat×Operand)}{zs:List Value}(k:IntKind)(xs:List Int)[U:Und P t (.slice e)][I:Inf P e 1 by_ zs]{l':Nat→List Value}(hk:okE m kd=true)(hv:(parts.toList.map Prod.snd).map (ev l)=ints k xs)(hbd:Bd k xs)
  (kk:∀b,J S0 w0 (.iown e k (some ⟨b,0,none⟩) n n xs::L) (RY S0 w0 m P ops K rest (l' b)))(hp:parts.toList=enumV 0 (parts.toList.map Prod.snd):=by rfl)(hq:xs.length=n:=by rfl)(hn:Nat.ble n 1000=true:=by rfl)(h0:Nat.ble 1 n=true:=by rfl)
  (hl:∀b,l.set d (.slice (some ⟨b,0,none⟩) n n)=l' b:=by intro b;dsimp only[List.set]):J S0 w0 L (RY S0 w0 m P ops K ((⟨some d, .buildSlice t n parts,ty,pos,af,none⟩,kd)::rest) l):=
 J.eff hk fun w M K' hK => RS.buildSlice (vs := ints k xs) (cs := ints k xs) U.h I.h (by decide) hn rfl hp hv (by rw [ints_length, hq]) (ints_flat k xs) (fun v h => by
  unfold ints at h
  obtain ⟨x, _, rfl⟩ := List.mem_map.1 h
  rfl) h0 fun b w' e1 s1 x1 B => RS.nil (hK _ w' x1 (by
  rw [hl]
  exact kk b w' (M.new x1 (own_blk (xs := xs) ⟨by subst e1; exact Nat.le_refl _, B⟩ hq hbd (by have := Nat.le_of_ble_eq_true hn; omega)))))
end
end G
namespace W
open Go.RowKit G
set_option maxRecDepth 20000
set_option maxHeartbeats 8000000
attribute [local irreducible] RS RX RY Code.wp bodyPost J Ent.blk Ent.iown Ent.wrow Ent.wown Ent.gown Ent.all Ent.emp
instance:Ents prog 117:=⟨.mk func117 (by kernel_rfl) rfl⟩
instance:Ents prog 37:=⟨.mk func37 (by kernel_rfl) rfl⟩
instance:Ents prog 36:=⟨.mk func36 (by kernel_rfl) rfl⟩
instance:Ents prog 39:=⟨.mk func39 (by kernel_rfl) rfl⟩
instance:Ents prog 40:=⟨.mk func40 (by kernel_rfl) rfl⟩
instance:Ents prog 122:=⟨.mk func122 (by kernel_rfl) rfl⟩
theorem StZ.zero:StZ S.StV.zero:=⟨fun p hp=>(by cases hp),⟨Nat.zero_le _,Nat.zero_le _⟩,fun _=>Nat.zero_le _,Nat.zero_le _⟩
theorem StZ.nw(c n:Int):StZ (S.nwT c n):=by
 by_cases h:(1≤c∧c≤40)∧1≤n∧n≤4
 ·rw[(S.nwT_0 h).1];refine⟨fun p hp=>?_,⟨?_,Nat.zero_le _⟩,fun _=>Nat.le_trans (S.allN_made S.nil_fine) (Nat.zero_le _),Nat.zero_le _⟩
  ·obtain⟨i,hi,rfl⟩:=List.mem_map.1 hp;obtain⟨h1,h2⟩:=S.prt_size S.PG.nil n.toNat i;exact⟨Nat.le_trans h1 (Nat.zero_le _),Nat.le_trans h2 (Nat.zero_le _)⟩
  show(S.madeS _ _).ps.length≤6;rw[S.made_len];omega
 rw[(S.nwT_2 h).1];exact StZ.zero
theorem StZ.ofS{v:S.StV}(o:S.OpV)(hz:StZ v)(hg:S.StG v):StZ (S.ofS v o):=by
 by_cases c:S.askE v o=0
 ·obtain⟨hok,hv⟩:=S.askE_0 c;rw[(S.of_yes c).1];exact hz.off hg hok hv
 rw[(S.of_no c).1];exact StZ.zero
theorem StZ.runS{v:S.StV}(l:List S.OpV)(hz:StZ v)(hg:S.StG v):StZ (S.runS v l):=by
 by_cases c:S.runE v l=0
 ·rw[(S.run_yes c).1];have hok:S.okT v:=Classical.byContradiction fun h=>by rw[S.runE_8 h]at c;exact absurd c (by decide)
  have h60:¬60<l.length:=fun h=>by rw[S.runE_4 hok h]at c;exact absurd c (by decide)
  rw[S.runE_v hok h60]at c;exact hz.run hg hok (S.verL_zero.1 c) _ (Nat.le_refl _)
 rw[(S.run_no c).1];exact StZ.zero
theorem stSigned(x:Int)(hx:0≤x∧x<4294967296){S0:Nat→Prop}(a:Option Addr)(n c:Nat)(ids:List Int)(TK:TypeId)(w:World)(K0:Kst w TK)(hok:(⟨0,0,1,0,0,0,0,0,n,ids, .empty, .empty⟩:S.OpV).ok)(D0:WRow .u8 32 S0 w a n ids)(hc:n≤c):
  Calls prog 117 #[.int .u32 x, .slice a n c] w (Gv w (fun q:OpA=> .agg (opC q).toArray) (fun q=>[.wrow .u8 32 q.pa q.o.n q.o.ids]) fun q=>q.o.n≤q.pc∧q.o=S.signS x ⟨0,0,1,0,0,0,0,0,n,ids, .empty, .empty⟩):=by
 refine J.enter 14 func117 rfl rfl ?_;refine run ?_;refine J.alloc rfl fun b1=>?_
 refine run ?_;refine J.call rfl rfl (fun w' M=>signH x hx ⟨⟨0,0,1,0,0,0,0,0,n,ids, .empty, .empty⟩,a,c⟩ TK w' (K0.ext M.ext) ⟨hok,D0.ext M.ext,hc⟩) fun q hq=>?_
 refine run ?_;refine J.alloc rfl fun b2=>?_
 refine run ?_;exact J.finG q.1 rfl ⟨hq.1,hq.2.1⟩ sb
theorem stSA(TK:TypeId)(w:World)(K0:Kst w TK):Calls prog 117 #[.int .u32 1, .slice none 0 0] w (Gv w (fun q:Option Addr×Nat=> .agg (opC ⟨S.hxO,q.1,q.2⟩).toArray) (fun q=>[.wrow .u8 32 q.1 0 []]) fun _=>True):=
 (stSigned (S0:=no) 1 (by decide) none 0 0 [] TK w K0 S.hx_okA WRow.nil (Nat.le_refl _)).mono fun _ w' ⟨⟨o,pa,pc⟩,h1,⟨hc,e⟩,h3,h4⟩=>by
  obtain rfl:o=S.hxO:=e.trans S.hx_sign1;exact⟨(pa,pc),h1,trivial,h3,h4⟩
theorem stSB{S0:Nat→Prop}(a:Option Addr)(TK:TypeId)(w:World)(K0:Kst w TK)(D0:WRow .u8 32 S0 w a 1 S.hxX):Calls prog 117 #[.int .u32 2, .slice a 1 1] w (Gv w (fun q:Option Addr×Nat=> .agg (opC ⟨S.hxU,q.1,q.2⟩).toArray) (fun q=>[.wrow .u8 32 q.1 1 S.hxX]) fun q=>1≤q.2):=
 (stSigned 2 (by decide) a 1 1 S.hxX TK w K0 S.hx_okB D0 (Nat.le_refl _)).mono fun _ w' ⟨⟨o,pa,pc⟩,h1,⟨hc,e⟩,h3,h4⟩=>by
  obtain rfl:o=S.hxU:=e.trans S.hx_sign2;exact⟨(pa,pc),h1,hc,h3,h4⟩
theorem stSC(TK:TypeId)(w:World)(K0:Kst w TK):Calls prog 117 #[.int .u32 3, .slice none 0 0] w (Gv w (fun q:Option Addr×Nat=> .agg (opC ⟨S.hxP,q.1,q.2⟩).toArray) (fun q=>[.wrow .u8 32 q.1 0 []]) fun _=>True):=
 (stSigned (S0:=no) 3 (by decide) none 0 0 [] TK w K0 S.hx_okA WRow.nil (Nat.le_refl _)).mono fun _ w' ⟨⟨o,pa,pc⟩,h1,⟨hc,e⟩,h3,h4⟩=>by
  obtain rfl:o=S.hxP:=e.trans S.hx_sign3;exact⟨(pa,pc),h1,trivial,h3,h4⟩
theorem hx_chO:S.checkE S.hxO=0:=S.verE_check S.hx_verO
theorem hx_chU:S.checkE S.hxU=0:=S.verE_check S.hx_verU
theorem stGiven(TK:TypeId)(w:World)(K0:Kst w TK):
  Calls prog 37 #[] w (Gv w (fun q:(Option Addr×Nat)×(Option Addr×Nat)×(Option Addr×Nat)=> .tuple #[.agg (opC ⟨S.hxO,q.1.1,q.1.2⟩).toArray, .agg (opC ⟨S.hxU,q.2.1.1,q.2.1.2⟩).toArray, .agg (opC ⟨S.hxP,q.2.2.1,q.2.2.2⟩).toArray]) (fun q=>[.wrow .u8 32 q.2.2.1 0 [], .wrow .u8 32 q.2.1.1 1 S.hxX, .wrow .u8 32 q.1.1 0 []]) fun q=>1≤q.2.1.2):=by
 have hX:=S.hx_arrX;refine J.enter 16 func37 rfl rfl ?_;refine run ?_;refine J.alloc rfl fun b1=>?_
 refine J.alloc rfl fun b2=>?_
 refine J.alloc rfl fun b3=>?_
 refine run ?_;refine J.call rfl rfl (fun w' M=>stSA TK w' (K0.ext M.ext)) fun z1 _=>?_
 refine run ?_;refine J.callp rfl rfl (fun w' M=>(RW.row' (a:=z1.1) w' M).elim fun _ k1=>idO S.hxO S.hx_okO z1.1 z1.2 TK w' (K0.ext M.ext) k1 (Nat.zero_le _)) ?_;rw[if_pos hx_chO,S.hx_x,hx_chO];refine run ?_;refine J.alloc rfl fun b4=>?_
 refine run ?_;refine J.regionX [(0, .q),(1, .q),(2, .e),(3, .e),(4, .e),(5, .g),(6, .g),(7, .g)] mixed (by kernel_rfl) ?_;refine run ?_;refine J.b1W rfl rfl hX fun bx=>?_
 refine run ?_;refine J.call rfl rfl (fun w' M=>(RW.own' (a:=some ⟨bx,0,none⟩) w' M).elim fun _ k0=>stSB _ TK w' (K0.ext M.ext) k0) fun z2 hz2=>?_
 refine run ?_;refine J.call rfl rfl (fun w' M=>stSC TK w' (K0.ext M.ext)) fun z3 _=>?_
 refine run ?_;exact J.finG (z1,z2,z3) rfl hz2 sb
theorem exRun{S0 S1 S2 S3 S4:Nat→Prop}(s:StA)(a pa pb pc:Option Addr)(ca cb cc:Nat)(TK:TypeId)(w:World)(K0:Kst w TK)(H:StR S0 w s)(hs:s.V=S.nwT 2 4)(O:GRow opC 11 S1 w a 5 [⟨S.hxU,pb,cb⟩,⟨S.hxO,pa,ca⟩,⟨S.hxU,pb,cb⟩,⟨S.hxU,pb,cb⟩,⟨S.hxP,pc,cc⟩])
  (ha:WRow .u8 32 S2 w pa 0 [])(hb:WRow .u8 32 S3 w pb 1 S.hxX)(hc:WRow .u8 32 S4 w pc 0 [])(hcb:1≤cb):
  Calls prog 39 #[.agg (srC s).toArray, .slice a 5 5] w (Gv w (fun q:StA×Option Addr×Nat=> .tuple #[.agg (srC q.1).toArray, .slice q.2.1 5 q.2.2, .int .i64 0]) (fun q=>[shW q.1.sh, .wown 24 .u8 32 q.1.oa q.1.on q.1.oc q.1.os, .iown 5 .u8 q.2.1 5 q.2.2 [6,1,1,5,8]]) fun q=>StK S.hxT2 q.1):=by
 have i0:Inns opI (fun _=>True) w [⟨S.hxU,pb,cb⟩,⟨S.hxO,pa,ca⟩,⟨S.hxU,pb,cb⟩,⟨S.hxU,pb,cb⟩,⟨S.hxP,pc,cc⟩]:=fun z hz i hi=>by
  obtain rfl:=List.mem_singleton.1 hi;simp only[List.mem_cons,List.not_mem_nil,or_false]at hz;rcases hz with rfl|rfl|rfl|rfl|rfl
  ·exact⟨hb.weaken fun _ _ _=>trivial,hcb⟩
  ·exact⟨ha.weaken fun _ _ _=>trivial,Nat.zero_le _⟩
  ·exact⟨hb.weaken fun _ _ _=>trivial,hcb⟩
  ·exact⟨hb.weaken fun _ _ _=>trivial,hcb⟩
  exact⟨hc.weaken fun _ _ _=>trivial,Nat.zero_le _⟩
 have h := stRun s a 5 5 [⟨S.hxU, pb, cb⟩, ⟨S.hxO, pa, ca⟩, ⟨S.hxU, pb, cb⟩, ⟨S.hxU, pb, cb⟩, ⟨S.hxP, pc, cc⟩] TK w K0 H (O.weaken fun _ _ _ => trivial) i0 (fun z hz => by
  simp only [List.mem_cons, List.not_mem_nil, or_false] at hz
  rcases hz with rfl | rfl | rfl | rfl | rfl
  ·exact S.hx_okU
  ·exact S.hx_okO
  ·exact S.hx_okU
  ·exact S.hx_okU
  exact S.hx_okP) (by decide)
 rw[show List.map OpA.o [⟨S.hxU,pb,cb⟩,⟨S.hxO,pa,ca⟩,⟨S.hxU,pb,cb⟩,⟨S.hxU,pb,cb⟩,⟨S.hxP,pc,cc⟩]=S.hxL from rfl,hs,S.hx_run.1,S.hx_run.2.1,S.hx_run.2.2]at h;exact h
theorem exZ:StZ S.hxT2:=by
 have h:=(StZ.nw 2 4).run S.hx_okT.2 S.hx_okT.1 S.hx_ver 5 (Nat.le_refl _);rwa[S.hx_t.1]at h
theorem stAlive(TK:TypeId)(w:World)(K0:Kst w TK):Calls prog 44 #[] w (Ret w fun v _=>v= .bool true):=by
 have hY:=S.hx_arrY;refine J.enter 69 func44 rfl rfl ?_;refine run ?_;refine J.call rfl rfl (fun w' M=>stGiven TK w' (K0.ext M.ext)) fun z hz=>?_
 obtain⟨⟨pa,ca⟩,⟨pb,cb⟩,⟨pc,cc⟩⟩:=z;dsimp only at hz⊢;refine run ?_;refine J.alloc rfl fun b1=>?_
 refine J.alloc rfl fun b2=>?_
 refine J.alloc rfl fun b3=>?_
 refine run ?_;refine J.call rfl rfl (fun w' M=>stNew 2 4 w') fun s hs=>?_
 rw[show S.nwTE 2 4=0 from rfl];refine run ?_;refine J.alloc rfl fun b4=>?_
 refine run ?_
 refine J.bnG (vs := [.agg (opC ⟨S.hxU, pb, cb⟩).toArray, .agg (opC ⟨S.hxO, pa, ca⟩).toArray, .agg (opC ⟨S.hxU, pb, cb⟩).toArray, .agg (opC ⟨S.hxU, pb, cb⟩).toArray, .agg (opC ⟨S.hxP, pc, cc⟩).toArray]) opC [⟨S.hxU, pb, cb⟩, ⟨S.hxO, pa, ca⟩, ⟨S.hxU, pb, cb⟩, ⟨S.hxU, pb, cb⟩, ⟨S.hxP, pc, cc⟩] opC_len rfl rfl rfl (fun v hv => by
  simp only [List.mem_cons, List.not_mem_nil, or_false] at hv
  rcases hv with rfl | rfl | rfl | rfl | rfl <;> rfl) fun b5 => ?_
 refine run ?_;refine J.call rfl rfl (fun w' M=>(RG.own' (a:=some ⟨b5,0,none⟩) w' M).elim fun _ k0=>(RW.row' (a:=pa) w' M).elim fun _ k1=>(RW.row' (a:=pb) w' M).elim fun _ k2=>(RW.row' (a:=pc) w' M).elim fun _ k3=>exRun s _ pa pb pc ca cb cc TK w' (K0.ext M.ext) (hs.own (StZ.nw 2 4) w' M) hs.V k0 k1 k2 k3 hz) fun q hq=>?_
 obtain⟨q,qa,qc⟩:=q;dsimp only at hq⊢;refine run ?_;refine J.alloc rfl fun b6=>?_
 refine run ?_;refine J.call rfl rfl (fun w' M=>stSince q 1 TK w' (K0.ext M.ext) (hq.own exZ w' M)) fun i1 hi1=>?_
 rw[hq.V,S.hx_sin.2.1]at hi1;rw[hq.V,S.hx_sin.1,S.hx_sin.2.1,S.hx_sin.2.2];refine run ?_;refine J.callp rfl rfl (fun w' M=>(RW.row' (a:=pb) w' M).elim fun _ k1=>idO S.hxU S.hx_okU pb cb TK w' (K0.ext M.ext) k1 hz) ?_;rw[if_pos hx_chU,S.hx_y,hx_chU];refine run ?_;refine J.alloc rfl fun b7=>?_
 refine run ?_;refine J.bnI .u8 [6,1,1,5,8] rfl rfl (by intro x hx;simp only[List.mem_cons,List.not_mem_nil,or_false]at hx;simp only[lim];omega) fun b8=>?_
 refine run ?_;refine J.callp rfl rfl (fun w' M=>(RI.own' (a:=qa) w' M).elim fun _ k0=>(RI.own' (a:=some ⟨b8,0,none⟩) w' M).elim fun _ k1=>sameBytes _ _ _ _ _ _ _ _ w' k0 k1 (by omega) (by omega)) ?_;rw[show decide (([6,1,1,5,8]:List Int)=[6,1,1,5,8])=true from decide_eq_true rfl];refine run ?_;refine J.b1W rfl rfl hY fun bx=>?_
 refine run ?_;refine J.callp rfl rfl (fun w' M=>(RW.own' (a:=i1.1) w' M).elim fun _ k1=>(RW.own' (a:=some ⟨bx,0,none⟩) w' M).elim fun _ k2=>sameIDs _ _ _ _ _ _ _ _ w' k1 k2 (by omega) (by omega)) ?_;refine run ?_;exact J.fin rfl
theorem zeroStR(w:World):StR no w StA.zero:=⟨⟨GRow.nil' grC_len,fun g hg=>(by cases hg),WRow.nil,Nat.le_refl _,Nat.le_refl _,Nat.zero_le _,Nat.zero_le _⟩,WRow.nil,⟨Nat.le_refl _,Nat.zero_le _⟩,fun _=>Nat.zero_le _⟩
theorem zeroOpR(w:World):OpR no w ⟨S.OpV.zero,none,0⟩:=⟨S.OpV.zero_ok,WRow.nil,Nat.le_refl _⟩
theorem stRunE{S0 S1:Nat→Prop}(s:StA)(a:Option Addr)(n c:Nat)(zs:List OpA)(TK:TypeId)(w:World)(K0:Kst w TK)(H:StR S0 w s)(O:GRow opC 11 S1 w a n zs)(I0:Inns opI S1 w zs)(hok:∀z∈zs,z.o.ok)(hn:n≤100000){v v2:S.StV}{l:List S.OpV}{e:Int}{bs:List Int}{k:Nat}(hv:s.V=v)(hl:zs.map OpA.o=l)(he:S.runE v l=e)(hS:S.runS v l=v2)(hL:S.runL v l=bs)(hk:bs.length=k):
  Calls prog 39 #[.agg (srC s).toArray, .slice a n c] w (Gv w (fun q:StA×Option Addr×Nat=> .tuple #[.agg (srC q.1).toArray, .slice q.2.1 k q.2.2, .int .i64 e]) (fun q=>[shW q.1.sh, .wown 24 .u8 32 q.1.oa q.1.on q.1.oc q.1.os, .iown 5 .u8 q.2.1 k q.2.2 bs]) fun q=>StK v2 q.1):=by
 subst hv hl he hS hL hk;exact stRun s a n c zs TK w K0 H O I0 hok hn
theorem stSinceE{S0:Nat→Prop}(s:StA)(k:Int)(TK:TypeId)(w:World)(K0:Kst w TK)(H:StR S0 w s){v:S.StV}{m:Nat}{e:Int}{ids:List Int}(hv:s.V=v)(he:S.sinE v k=e)(hn:S.sinN v k=m)(hi:S.sinL v k=ids):
  Calls prog 40 #[.agg (srC s).toArray, .int .i64 k] w (Gv w (fun q:Option Addr×Nat=> .tuple #[.slice q.1 m q.2, .int .i64 e]) (fun q=>[.wown 24 .u8 32 q.1 m q.2 ids]) fun q=>m≤q.2):=by
 subst hv he hn hi;exact stSince s k TK w K0 H
theorem stCheckE{S0:Nat→Prop}(s:StA)(TK:TypeId)(w:World)(K0:Kst w TK)(H:StR S0 w s){v:S.StV}{e:Int}(hv:s.V=v)(he:S.chkT v=e):
  Calls prog 42 #[.agg (srC s).toArray] w (Ret w fun v _=>v= .int .i64 e):=by
 subst hv he;exact stCheck s TK w K0 H
theorem stTwinE{S0:Nat→Prop}(s:StA)(w:World)(H:StR S0 w s){v:S.StV}(hv:s.V=v):Calls prog 41 #[.agg (srC s).toArray] w (Gv w (fun q:StA=> .agg (srC q).toArray) (fun q=>stE q) (StK v)):=by
 subst hv;exact refStTwin s w H
theorem StK.mod{v:S.StV}{k:Int}{sh:ShA}{oa:Option Addr}{n oc:Nat}{os:List Int}(h:StK v ⟨k,sh,oa,n,oc,os⟩)(k':Int)(oa':Option Addr)(n' oc':Nat)(os':List Int):StK ⟨k',v.sh,n',os'⟩ ⟨k',sh,oa',n',oc',os'⟩:=⟨congrArg (fun s=>(⟨k',s,n',os'⟩:S.StV)) (congrArg S.StV.sh h.V),h.k⟩
theorem StZ.mod{v:S.StV}(h:StZ v)(k':Int){n':Nat}(hn:n'≤70)(os':List Int):StZ ⟨k',v.sh,n',os'⟩:=⟨h.m,h.z,h.l,hn⟩
theorem StK.form{v:S.StV}{s:StA}(h:StK v s){k:Int}{n:Nat}{os:List Int}(hk:v.cap=k)(hn:v.n=n)(ho:v.os=os):∃sh oa oc,s=⟨k,sh,oa,n,oc,os⟩:=by
 obtain⟨k1,sh,oa,n1,oc,os1⟩:=s;have e:=h.V;obtain rfl:k1=k:=(congrArg S.StV.cap e).trans hk;obtain rfl:n1=n:=(congrArg S.StV.n e).trans hn;obtain rfl:os1=os:=(congrArg S.StV.os e).trans ho;exact⟨sh,oa,oc,rfl⟩
theorem idsBack{S:Nat→Prop}{w:World}{T:TypeId}{a:Option Addr}{n c:Nat}(l:List IdV)(xs:List Int)(e:flatI l=xs)(hb:Bd .u8 xs)(h:(Ent.gown idC 32 T a n c l).ok S w):(Ent.wown T .u8 32 a n c xs).ok S w:=e▸gown_wown (e.symm▸hb) h
end W
namespace S
open G
theorem nm_new:nwTE 0 1=2∧nwTE 41 1=2∧nwTE 1 0=2∧nwTE 1 5=2∧nwTE 40 4=0:=⟨(nwT_2 (by decide)).2,(nwT_2 (by decide)).2,(nwT_2 (by decide)).2,(nwT_2 (by decide)).2,(nwT_0 (by decide)).2⟩
noncomputable def nm0:StV:=nwT 40 4
theorem nm0_is:nm0=⟨40,madeS PG.nil 4,0,[]⟩:=(nwT_0 (by decide)).1
theorem nm0_ok:okT nm0∧StG nm0∧whole nm0.sh.ps=PG.nil:=nw_ok (by decide)
theorem nm_j1:judT nm0 hxO=1:=by
 rw[nm0_is,jud_w hx_x];exact(if_neg (by decide)).trans ((if_neg (by decide)).trans (if_neg (by decide)))
noncomputable def nm1:StV:=comT nm0 hxO
theorem nm1_is:nm1.n=1∧nm1.os=hxX∧nm1.cap=40:=by
 unfold nm1;rw[nm0_is];exact⟨rfl,(List.nil_append _).trans hx_x,rfl⟩
theorem nm1_of:ofS nm0 hxO=nm1∧ofJ nm0 hxO=1∧askE nm0 hxO=0:=by
 have e:askE nm0 hxO=0:=(askE_v nm0_ok.1).trans hx_verO;exact⟨(of_yes e).1.trans (off_1 nm_j1),(of_yes e).2.trans nm_j1,e⟩
theorem nm1_ok:okT nm1∧StG nm1∧whole nm1.sh.ps=hxG:=by
 obtain⟨h1,h2,h3⟩:=com_ok nm0_ok.2.1 nm0_ok.1 hx_verO nm_j1;rw[nm0_ok.2.2]at h3;exact⟨h1,h2,h3.trans (addP_yes hx_add1).1.symm⟩
theorem nm_j2:judT nm1 hxU=1:=by
 rw[jud_w hx_y,nm1_is.1,nm1_is.2.1,nm1_is.2.2];exact(if_neg (by decide)).trans ((if_neg (by decide)).trans (if_neg (by decide)))
noncomputable def nm2:StV:=comT nm1 hxU
theorem nm2_is:nm2.n=2∧nm2.os=hxX++hxY∧nm2.cap=40:=by
 have h1:nm2.n=nm1.n+1:=rfl;have h2:nm2.os=nm1.os++idOf hxU:=rfl;have h3:nm2.cap=nm1.cap:=rfl;have h4:idOf hxU=hxY:=hx_y;rw[h1,h2,h3,nm1_is.1,nm1_is.2.1,nm1_is.2.2,h4];exact⟨rfl,rfl,rfl⟩
theorem nm2_ok:okT nm2∧StG nm2∧whole nm2.sh.ps=hxH:=by
 obtain⟨h1,h2,h3⟩:=com_ok nm1_ok.2.1 nm1_ok.1 hx_verU nm_j2;rw[nm1_ok.2.2]at h3;exact⟨h1,h2,h3.trans (addP_yes hx_add2).1.symm⟩
theorem nm_zero(o:OpV):askE StV.zero o=8:=askE_8 fun h=>absurd h.1.1.1 (by decide)
theorem nm_bad:verE OpV.zero=8:=by decide+kernel
theorem nm_ask0:askE nm0 OpV.zero=8:=(askE_v nm0_ok.1).trans nm_bad
theorem nm_ms:askE nm0 hxU=0∧msN nm0 hxU=1∧msL nm0 hxU=hxX:=by
 have e:askE nm0 hxU=0:=(askE_v nm0_ok.1).trans hx_verU;obtain⟨h1,h2⟩:=ms_yes e;rw[nm0_is]at h1 h2;exact⟨e,(by rw[nm0_is];exact h1.trans (by decide)),(by rw[nm0_is];exact h2.trans (by decide))⟩
theorem nm_many{l:List OpV}(h:60<l.length):runE nm0 l=4:=runE_4 nm0_ok.1 h
theorem nm_run3:runE nm0 [hxP,OpV.zero,hxO]=8:=by
 rw[runE_v nm0_ok.1 (by decide)]
 have h := verL_first (l := [hxP, OpV.zero, hxO]) (i := 1) (by decide) (fun k hk => by
  obtain rfl : k = 0 := by omega
  exact hx_verP) (by show verE OpV.zero ≠ 0; rw [nm_bad]; decide)
 exact h.trans nm_bad
theorem nm_run0:runE nm0 []=0∧runS nm0 []=nm0∧runL nm0 []=[]:=by
 have e:runE nm0 []=0:=(runE_v nm0_ok.1 (by decide)).trans (verL_zero.2 fun o ho=>by cases ho);exact⟨e,(run_yes e).1,(run_yes e).2⟩
theorem nm_sin:sinE nm1 (-1)=2∧sinE nm1 2=2∧(sinE nm1 0=0∧sinN nm1 0=1∧sinL nm1 0=hxX)∧sinE nm1 1=0∧sinN nm1 1=0∧sinL nm1 1=[]:=by
 have a:=sinE_0 nm1_ok.1 (k:=0) (by rw[nm1_is.1];decide);have b:=sinE_0 nm1_ok.1 (k:=1) (by rw[nm1_is.1];decide);refine⟨sinE_2 nm1_ok.1 (by decide),sinE_2 nm1_ok.1 (by rw[nm1_is.1];decide),⟨a,?_,?_⟩,b,?_,?_⟩
 ·rw[(sin_yes a).1,nm1_is.1];rfl
 ·rw[(sin_yes a).2,nm1_is.2.1];rfl
 ·rw[(sin_yes b).1,nm1_is.1];rfl
 ·rw[(sin_yes b).2,nm1_is.2.1];rfl
theorem nm_run2:runE nm0 [hxO,hxU]=0∧runS nm0 [hxO,hxU]=nm2∧runL nm0 [hxO,hxU]=[1,1]:=by
 have e : runE nm0 [hxO, hxU] = 0 := (runE_v nm0_ok.1 (by decide)).trans (verL_zero.2 fun o ho => by
  simp only [List.mem_cons, List.not_mem_nil, or_false] at ho
  rcases ho with rfl | rfl
  ·exact hx_verO
  ·exact hx_verU)
 have e1:runT nm0 [hxO,hxU] 1=nm1:=off_1 nm_j1;have e2:runT nm0 [hxO,hxU] 2=nm2:=(congrArg (fun t=>offT t hxU) e1).trans (off_1 nm_j2);refine⟨e,(run_yes e).1.trans e2,(run_yes e).2.trans ?_⟩;show([]++[judT (runT nm0 [hxO,hxU] 0) hxO])++[judT (runT nm0 [hxO,hxU] 1) hxU]=_;rw[e1,show runT nm0 [hxO,hxU] 0=nm0 from rfl,nm_j1,nm_j2];rfl
theorem nm_wide:chkT {nm1 with cap:=41}=8:=chkT_8 fun h=>absurd h.1.1.2 (by decide)
theorem nm_small:chkT {nm2 with cap:=1}=8:=chkT_8 fun h=>by
 have h1:(nm2.n:Int)=nm2.sh.ver:=h.1.2.2.2;have h2:nm2.sh.ver≤1:=h.1.2.2.1;rw[nm2_is.1]at h1;omega
theorem nm_twice:chkT {nm1 with n:=2,os:=hxX++hxX}=8:=chkT_8 fun h=>by
 have h1:((2:Nat):Int)=nm1.sh.ver:=h.1.2.2.2;have h2:(nm1.n:Int)=nm1.sh.ver:=nm1_ok.1.1.2.2.2;rw[nm1_is.1]at h2;omega
theorem nm_other{x:List Int}(hx:idAt x 0≠hxX):chkT {nm1 with os:=x}=8:=chkT_8 fun h=>by
 have h1:=(h.2 0 (by show 0<nm1.n;rw[nm1_is.1];decide)).1;have h2:inS (whole nm1.sh.ps).m (whole nm1.sh.ps).ids (idAt x 0):=h1;rw[nm1_ok.2.2]at h2;exact hx ((hx_in1 _).1 h2)
theorem nm_turned:chkT {nm2 with os:=hxY++hxX}=8:=chkT_8 fun h=>by
 have h1:=(h.2 0 (by show 0<nm2.n;rw[nm2_is.1];decide)).2.2;have e:idAt (hxY++hxX) 0=hxY:=by decide
 have h2:allI 0 (hxY++hxX) ((whole nm2.sh.ps).opOf (idAt (hxY++hxX) 0)).n ((whole nm2.sh.ps).opOf (idAt (hxY++hxX) 0)).ids:=h1;rw[e,nm2_ok.2.2]at h2;have h3:hxH.opOf hxY=hxU:=has_fun hx_f2.2.2.1.rising (op_has hx_inY) ((hx_f2.2.2.2.2.2 _ _).2 (.inr ⟨hx_y.symm,rfl⟩));rw[h3]at h2;obtain⟨i,hi,_⟩:=h2 0 (by decide);exact absurd hi (Nat.not_lt_zero _)
end S
end Go.Proofs.YtkibkhgcbepolaaGreatDoor
