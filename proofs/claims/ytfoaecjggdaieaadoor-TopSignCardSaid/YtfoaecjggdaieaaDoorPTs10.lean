/-
  Part 10 of the lemmas of these laws: TopSign.
-/
import Derived.Test.YtfoaecjggdaieaaDoorPTs9
set_option linter.unusedVariables false
set_option linter.unusedSimpArgs false
open Go.Proofs.Tryd
namespace Go.Proofs.YtfoaecjggdaieaaDoor
namespace G
open Go.RowKit
def J(S0:Nat→Prop)(w0:World)(L:List Ent)(X:World→Prop):Prop:=∀w,Mem S0 w0 L w→X w
def KN(Q:Exit→Act→World→Prop)(l:List Value)(w:World):Prop:=Q .normal (fr l) w
inductive Md where
 |s|x|r (Lq:List Ent)
@[reducible] def Lv(m:Md)(L:List Ent):List Ent:=match m with
 | .r Lq=>Lq
 | .s=>L
 | .x=>L
def MR(S0:Nat→Prop)(w0:World)(Lq:List Ent)(w w':World):Prop:=Mem S0 w0 Lq w→Mem S0 w0 Lq w'
def RY(S0:Nat→Prop)(w0:World)(m:Md)(P:Program)(ops:Array Oper)(K:List Value→World→Prop)(pl:List (Oper×Kd))(l:List Value)(w:World):Prop:=
 match m with
 | .x=>RX P ops Ext K pl l w
 | .s=>RS P ops K (pl.map Prod.fst) l w
 | .r Lq=>Mem S0 w0 Lq w→RX P ops (MR S0 w0 Lq) K pl l w
class Und(P:Program)(t:TypeId)(ed:outParam TypeDesc):Prop where h:P.underlying t=some ed
class Siz(P:Program)(t:TypeId)(n:outParam Nat):Prop where h:P.cellsOf t=n
class Inf(P:Program)(t:TypeId)(sz by_:outParam Nat)(z:outParam (List Value)):Prop where h:TI P t sz by_ z
class SInf(P:Program)(t:TypeId)(l:outParam (List (Nat×Nat))):Prop where h:SI P t l
class Fld(P:Program)(t:TypeId)(i:Nat)(off:outParam Nat):Prop where h:∃fs f sz,P.underlying t=some (.struct fs)∧fs[i]? =some f∧P.cellsOf f.type=sz∧sz≠0∧f.offset=off
class Sca(P:Program)(t:TypeId):Prop where h:∃ed,P.underlying t=some ed∧isAggD ed=false
class Agg(P:Program)(t:TypeId)(sz:outParam Nat):Prop where h:∃ed,P.underlying t=some ed∧isAggD ed=true∧P.cellsOf t=sz
class Ents(P:Program)(f:FuncId):Prop where h:Enters P f
section
variable{S0:Nat→Prop}{w0:World}{L L':List Ent}{P:Program}{Q:Exit→Act→World→Prop}{l:List Value}{x y c:Code}{o:Operand}{X Y:World→Prop}{id id':Nat}{N:Act→World→Prop}{e e':Ent}
theorem J.map(f:∀w,X w→Y w)(h:J S0 w0 L X):J S0 w0 L Y:=fun w M=>f w (h w M)
theorem J.drop{E:List Ent}(s:E.Sublist L)(h:J S0 w0 E X):J S0 w0 L X:=fun w M=>h w (M.sub s)
/-! ### control -/
theorem J.sq(h:J S0 w0 L (x.wp P (Exit.then (y.wp P Q) Q) (fr l))):J S0 w0 L ((Code.seq x y).wp P Q (fr l)):=fun w M=>wp_seq (h w M)
theorem J.skip(h:J S0 w0 L (Q .normal (fr l))):J S0 w0 L (Code.skip.wp P Q (fr l)):=fun w M=>wp_skip (h w M)
theorem J.exit(h:J S0 w0 L (Q (.exit id) (fr l))):J S0 w0 L ((Code.exit id).wp P Q (fr l)):=fun w M=>wp_exit (h w M)
theorem J.block(h:J S0 w0 L (c.wp P (Exit.inBlock id Q) (fr l))):J S0 w0 L ((Code.block id c).wp P Q (fr l)):=fun w M=>wp_block (h w M)
theorem J.retc(h:J S0 w0 L (Q .ret (fr l))):J S0 w0 L (Code.ret.wp P Q (fr l)):=fun w M=>wp_ret (h w M)
theorem J.thn(h:J S0 w0 L (N (fr l))):J S0 w0 L (Exit.then N Q .normal (fr l)):=h
theorem J.thr(h:J S0 w0 L (Q .ret (fr l))):J S0 w0 L (Exit.then N Q .ret (fr l)):=h
theorem J.ift(hc:ev l o= .bool true)(h:J S0 w0 L (x.wp P Q (fr l))):J S0 w0 L ((Code.cond o x y).wp P Q (fr l)):=fun w M=>C.ift hc (h w M)
theorem J.iff(hc:ev l o= .bool false)(h:J S0 w0 L (y.wp P Q (fr l))):J S0 w0 L ((Code.cond o x y).wp P Q (fr l)):=fun w M=>C.iff hc (h w M)
theorem J.ifd{p:Prop}[Decidable p](hc:ev l o= .bool (decide p))(ht:p→J S0 w0 L (x.wp P Q (fr l)))(hf:¬p→J S0 w0 L (y.wp P Q (fr l))):J S0 w0 L ((Code.cond o x y).wp P Q (fr l)):=
 fun w M=>C.ifd hc (fun h=>ht h w M) (fun h=>hf h w M)
theorem J.ife{a b:Int}(hc:ev l o= .bool (a==b))(ht:a=b→J S0 w0 L (x.wp P Q (fr l)))(hf:a≠b→J S0 w0 L (y.wp P Q (fr l))):J S0 w0 L ((Code.cond o x y).wp P Q (fr l)):=
 fun w M=>C.ife hc (fun h=>ht h w M) (fun h=>hf h w M)
theorem J.ifn{a b:Int}(hc:ev l o= .bool (a != b))(ht:a≠b→J S0 w0 L (x.wp P Q (fr l)))(hf:a=b→J S0 w0 L (y.wp P Q (fr l))):J S0 w0 L ((Code.cond o x y).wp P Q (fr l)):=
 fun w M=>C.ifn hc (fun h=>ht h w M) (fun h=>hf h w M)
theorem J.region{l0:List Oper}{pl:List (Oper×Kd)}(h:J S0 w0 L (RY S0 w0 .s P l0.toArray (KN Q) pl l))(hp:l0.map (fun o=>(o,Kd.q))=pl:=by dsimp only[List.map]):J S0 w0 L ((Code.region id l0.toArray false).wp P Q (fr l)):=fun w M=>by
 refine G.region ?_;have:=h w M;subst hp;unfold RY at this;rw[List.map_map]at this;have e:(Prod.fst ∘ fun o:Oper=>(o,Kd.q))=_root_.id:=rfl;rwa[e,List.map_id]at this
theorem J.regionX{l0:List Oper}{pl:List (Oper×Kd)}(plan:List (Nat×Kd))(hm:P.follows .mixedOrders=true)
  (hB:(Region.noSelect l0.toArray&&(Nat.beq plan.length l0.length&&planB l0.toArray (frees plan) (endB l0.toArray) plan (Array.replicate l0.length false)))=true)
  (h:J S0 w0 L (RY S0 w0 .x P l0.toArray (KN Q) pl l))(hp:pick l0 plan=pl:=by dsimp only[pick,nth]):J S0 w0 L ((Code.region id l0.toArray true).wp P Q (fr l)):=
 fun w M=>G.regionX Ext plan hm Ext.refl (fun h k=>h.tr k) hB (fun w' hw=>h w' (M.grow hw)) hp
end
section
variable{S0:Nat→Prop}{w0:World}{L:List Ent}{P:Program}{Q:Exit→Act→World→Prop}{l:List Value}{id:Nat}
theorem J.regionT{l0:List Oper}(Lq:List Ent)(t:Tr)(hm:P.follows .mixedOrders=true)
  (hB:(Region.noSelect l0.toArray&&(Nat.beq t.size l0.length&&trB l0.toArray t (Array.replicate l0.length false)))=true)(hs:Lq.Sublist L)
  (h:J S0 w0 L (fun w=>Mem S0 w0 Lq w→RT P l0 (MR S0 w0 Lq) (KN Q) t l w)):J S0 w0 L ((Code.region id l0.toArray true).wp P Q (fr l)):=
 fun w M=>G.regionT (MR S0 w0 Lq) t hm (fun _ h=>h) (fun h k x=>k (h x)) hB (fun w' hw=>h w' (M.grow hw) ((M.grow hw).sub hs))
theorem J.tfin{l0:List Oper}{Lq:List Ent}{plan:List (Nat×Kd)}{pl:List (Oper×Kd)}{K:List Value→World→Prop}(h:J S0 w0 L (RY S0 w0 (.r Lq) P l0.toArray K pl l))(hp:pick l0 plan=pl:=by dsimp only[pick,nth]):J S0 w0 L (fun w=>Mem S0 w0 Lq w→RT P l0 (MR S0 w0 Lq) K (.fin plan) l w):=by subst hp;exact h
def KT(S0:Nat→Prop)(w0:World)(Lq:List Ent)(P:Program)(l0:List Oper)(K:List Value→World→Prop)(i:Nat)(p:Tr)(j:Nat)(q:Tr)(l:List Value)(w:World):Prop:=
 RX P l0.toArray (MR S0 w0 Lq) (RT P l0 (MR S0 w0 Lq) K p) [(nth l0 i, .e)] l w∧RX P l0.toArray (MR S0 w0 Lq) (RT P l0 (MR S0 w0 Lq) K q) [(nth l0 j, .e)] l w
theorem J.kt{l0:List Oper}{Lq:List Ent}{i j:Nat}{p q:Tr}{K:List Value→World→Prop}{oi oj:Oper}
  (h1:J S0 w0 L (RY S0 w0 (.r Lq) P l0.toArray (RT P l0 (MR S0 w0 Lq) K p) [(oi, .e)] l))(h2:J S0 w0 L (RY S0 w0 (.r Lq) P l0.toArray (RT P l0 (MR S0 w0 Lq) K q) [(oj, .e)] l))(hs:Lq.Sublist L:=by repeat(first|exact List.Sublist.refl _|refine List.Sublist.cons_cons _ ?_|refine List.Sublist.cons _ ?_))(hi:nth l0 i=oi:=by dsimp only[nth])(hj:nth l0 j=oj:=by dsimp only[nth]):J S0 w0 L (KT S0 w0 Lq P l0 K i p j q l):=fun w M=>by
 subst hi hj;exact⟨h1 w M (M.sub hs),h2 w M (M.sub hs)⟩
theorem J.kr{l0:List Oper}{Lq:List Ent}{p:Tr}{K:List Value→World→Prop}(h:J S0 w0 L (fun w=>Mem S0 w0 Lq w→RT P l0 (MR S0 w0 Lq) K p l w))(hs:Lq.Sublist L:=by repeat(first|exact List.Sublist.refl _|refine List.Sublist.cons_cons _ ?_|refine List.Sublist.cons _ ?_)):J S0 w0 L (RT P l0 (MR S0 w0 Lq) K p l):=fun w M=>h w M (M.sub hs)
end
/-! ### one operation -/
section
variable{S0:Nat→Prop}{w0:World}{L L':List Ent}{P:Program}{l0:List Oper}{ops:Array Oper}{K:List Value→World→Prop}{rest:List (Oper×Kd)}{l l':List Value}{m:Md}{d:Tmp}{dd:Option Tmp}{op:Op}{ty:TypeId}{pos:String}{af:Array Edge}{kd:Kd}{v:Value}{j:Nat}{t b:Bool}
theorem J.nil(h:J S0 w0 L (K l)):J S0 w0 L (RY S0 w0 m P ops K [] l):=fun w M=>by
 cases m
 ·exact RS.nil (P:=P) (ops:=ops) (h w M)
 ·exact RX.nil (P:=P) (ops:=ops) (R:=Ext) (h w M)
 ·exact fun _=>RX.nil (P:=P) (ops:=ops) (h w M)
theorem J.nilN{Q:Exit→Act→World→Prop}(h:J S0 w0 L (Q .normal (fr l))):J S0 w0 L (RY S0 w0 m P ops (KN Q) [] l):=J.nil h
theorem J.norm(h:l=l')(k:J S0 w0 L (RY S0 w0 m P ops K rest l')):J S0 w0 L (RY S0 w0 m P ops K rest l):=h▸k
theorem J.val(hr:∀w,Mem S0 w0 (Lv m L) w→(execOp (ev l) ⟨some d,op,ty,pos,af,none⟩).run P w= .ok (.value v) w)(k:J S0 w0 L (RY S0 w0 m P ops K rest l'))(hl:l.set d v=l':=by dsimp only[List.set]):
  J S0 w0 L (RY S0 w0 m P ops K ((⟨some d,op,ty,pos,af,none⟩, .q)::rest) l):=fun w M=>by
 cases m
 ·exact RS.o (hr w M) (k w M) hl
 ·exact RX.o (fun w' hw=>hr w' (M.grow hw)) (k w M) hl
 ·exact fun Mq=>RX.o (fun w' hw=>hr w' (hw Mq)) (k w M Mq) hl
def pureK:Kd→Bool
 | .q| .c=>true
 |_=>false
theorem J.pur(hk:pureK kd=true)(hr:∀w,(execOp (ev l) ⟨some d,op,ty,pos,af,none⟩).run P w= .ok (.value v) w)(k:J S0 w0 L (RY S0 w0 m P ops K rest l'))(hl:l.set d v=l':=by dsimp only[List.set]):
  J S0 w0 L (RY S0 w0 m P ops K ((⟨some d,op,ty,pos,af,none⟩,kd)::rest) l):=fun w M=>by
 cases m
 ·exact RS.o (hr w) (k w M) hl
 ·cases kd<;>first|cases hk|skip
  ·exact RX.o (fun w' hw=>hr w') (k w M) hl
  ·exact RX.co hr (k w M) hl
 ·cases kd<;>first|cases hk|skip
  ·exact fun Mq=>RX.o (fun w' hw=>hr w') (k w M Mq) hl
  ·exact fun Mq=>RX.co hr (k w M Mq) hl
def okE(m:Md)(kd:Kd):Bool:=match m,kd with
 | .s,_=>true
 |_, .e=>true
 |_, .g=>true
 |_,_=>false
def okG(m:Md)(kd:Kd)(L':List Ent):Prop:=match m,kd with
 | .s,_=>True
 | .x, .g=>True
 | .r Lq, .e=>Lq.Sublist L'
 | .r Lq, .g=>Lq.Sublist L'
 |_,_=>False
theorem rs_one{o:Oper}{pl:List (Oper×Kd)}{l:List Value}{w:World}(h:RS P ops (fun l' w'=>RS P ops K (pl.map Prod.fst) l' w') [o] l w):RS P ops K (o::pl.map Prod.fst) l w:=by
 unfold RS at h⊢;exact h
theorem J.eff(hk:okE m kd=true)(h:∀w,Mem S0 w0 L w→∀K':List Value→World→Prop,(∀l' w',Ext w w'→RY S0 w0 m P ops K rest l' w'→K' l' w')→RS P ops K' [⟨dd,op,ty,pos,af,none⟩] l w):
  J S0 w0 L (RY S0 w0 m P ops K ((⟨dd,op,ty,pos,af,none⟩,kd)::rest) l):=fun w M=>by
 cases m
 ·exact rs_one (h w M (fun l' w'=>RS P ops K (rest.map Prod.fst) l' w') (fun l' w' _ h=>h))
 ·cases kd<;>first|cases hk|skip
  ·exact RX.eff (h w M _ fun l' w' x h=>⟨x,h⟩)
  ·exact RX.big (h w M _ fun l' w' _ h=>h)
 ·cases kd<;>first|cases hk|skip
  ·exact fun Mq=>RX.eff (h w M _ fun l' w' x h=>⟨fun _=>Mq.grow x,h (Mq.grow x)⟩)
  ·exact fun Mq=>RX.big (h w M _ fun l' w' x h=>h (Mq.grow x))
theorem J.big{L':List Ent}(hk:okG m kd L')(h:∀w,Mem S0 w0 L w→∀K':List Value→World→Prop,(∀l' w',Mem S0 w0 L' w'→RY S0 w0 m P ops K rest l' w'→K' l' w')→RS P ops K' [⟨dd,op,ty,pos,af,none⟩] l w):
  J S0 w0 L (RY S0 w0 m P ops K ((⟨dd,op,ty,pos,af,none⟩,kd)::rest) l):=fun w M=>by
 cases m
 ·exact rs_one (h w M (fun l' w'=>RS P ops K (rest.map Prod.fst) l' w') (fun l' w' _ h=>h))
 ·cases kd
  ·exact False.elim hk
  ·exact False.elim hk
  ·exact RX.big (h w M _ fun l' w' _ h=>h)
  ·exact False.elim hk
 ·cases kd
  ·exact False.elim hk
  ·exact fun Mq=>RX.eff (h w M _ fun l' w' M' h=>⟨fun _=>M'.sub hk,h (M'.sub hk)⟩)
  ·exact fun Mq=>RX.big (h w M _ fun l' w' M' h=>h (M'.sub hk))
  ·exact False.elim hk
theorem J.bigs{ι:Type}(i0:ι){Ls:ι→List Ent}(hk:∀i,okG m kd (Ls i))(h:∀w,Mem S0 w0 L w→∀K':List Value→World→Prop,(∀l' w' i,Mem S0 w0 (Ls i) w'→RY S0 w0 m P ops K rest l' w'→K' l' w')→RS P ops K' [⟨dd,op,ty,pos,af,none⟩] l w):
  J S0 w0 L (RY S0 w0 m P ops K ((⟨dd,op,ty,pos,af,none⟩,kd)::rest) l):=fun w M=>by
 cases m
 ·exact rs_one (h w M (fun l' w'=>RS P ops K (rest.map Prod.fst) l' w') (fun l' w' _ _ h=>h))
 ·cases kd
  ·exact False.elim (hk i0)
  ·exact False.elim (hk i0)
  ·exact RX.big (h w M _ fun l' w' _ _ h=>h)
  ·exact False.elim (hk i0)
 ·cases kd
  ·exact False.elim (hk i0)
  ·exact fun Mq=>RX.eff (h w M _ fun l' w' i M' h=>⟨fun _=>M'.sub (hk i),h (M'.sub (hk i))⟩)
  ·exact fun Mq=>RX.big (h w M _ fun l' w' i M' h=>h (M'.sub (hk i)))
  ·exact False.elim (hk i0)
/-! guards -/
theorem J.want{s:Nat}(hj:(l0[j]?).bind (·.dst)=some s)(hl:l.getD s undef= .bool t)(hs:Nat.ble (s+1) l.length=true)(k:J S0 w0 L (RY S0 w0 m P l0.toArray K ((⟨dd,op,ty,pos,af,none⟩,kd)::rest) l)):
  J S0 w0 L (RY S0 w0 m P l0.toArray K ((⟨dd,op,ty,pos,af,some (j,t)⟩,kd)::rest) l):=fun w M=>by
 cases m
 ·exact RS.wantB s hj hl hs (k w M)
 ·exact RX.wantB s hj hl hs (k w M)
 ·exact fun Mq=>RX.wantB s hj hl hs (k w M Mq)
theorem J.skipg{s:Nat}(hj:(l0[j]?).bind (·.dst)=some s)(hl:l.getD s undef= .bool b)(hs:Nat.ble (s+1) l.length=true)(hb:(b==t)=false)(k:J S0 w0 L (RY S0 w0 m P l0.toArray K rest l'))(hp:putL dd undef l=l':=by dsimp only[putL,List.set]):
  J S0 w0 L (RY S0 w0 m P l0.toArray K ((⟨dd,op,ty,pos,af,some (j,t)⟩,kd)::rest) l):=fun w M=>by
 subst hp;cases m
 ·exact RS.skipB s hj hl hs hb (k w M)
 ·exact RX.skipB s hj hl hs hb (k w M)
 ·exact fun Mq=>RX.skipB s hj hl hs hb (k w M Mq)
theorem J.split{s:Nat}{b:Bool}(hs:Nat.ble (s+1) l.length=true)(h:l.getD s undef= .bool b)(ht:b=true→J S0 w0 L (RY S0 w0 m P ops K rest (l.set s (.bool true))))(hf:b=false→J S0 w0 L (RY S0 w0 m P ops K rest (l.set s (.bool false)))):
  J S0 w0 L (RY S0 w0 m P ops K rest l):=by
 cases hb:b
 ·have:=hf hb;rwa[set_self (by rw[h,hb]) (Nat.le_of_ble_eq_true hs)]at this
 ·have:=ht hb;rwa[set_self (by rw[h,hb]) (Nat.le_of_ble_eq_true hs)]at this
theorem J.sp{s:Nat}{b:Bool}{lt lf:List Value}(hj:(l0[j]?).bind (·.dst)=some s)(h:l.getD s undef= .bool b)(hs:Nat.ble (s+1) l.length=true)
  (kt:b=true→J S0 w0 L (RY S0 w0 m P l0.toArray K ((⟨dd,op,ty,pos,af,some (j,t)⟩,kd)::rest) lt))(kf:b=false→J S0 w0 L (RY S0 w0 m P l0.toArray K ((⟨dd,op,ty,pos,af,some (j,t)⟩,kd)::rest) lf))
  (ht:l.set s (.bool true)=lt:=by dsimp only[List.set])(hf:l.set s (.bool false)=lf:=by dsimp only[List.set]):
  J S0 w0 L (RY S0 w0 m P l0.toArray K ((⟨dd,op,ty,pos,af,some (j,t)⟩,kd)::rest) l):=by
 subst ht hf;exact J.split hs h kt kf
theorem J.spd{s:Nat}{p:Prop}[Decidable p]{lt lf:List Value}(hj:(l0[j]?).bind (·.dst)=some s)(h:l.getD s undef= .bool (decide p))(hs:Nat.ble (s+1) l.length=true)(kt:p→J S0 w0 L (RY S0 w0 m P l0.toArray K ((⟨dd,op,ty,pos,af,some (j,t)⟩,kd)::rest) lt))(kf:¬p→J S0 w0 L (RY S0 w0 m P l0.toArray K ((⟨dd,op,ty,pos,af,some (j,t)⟩,kd)::rest) lf))
  (ht:l.set s (.bool true)=lt:=by dsimp only[List.set])(hf:l.set s (.bool false)=lf:=by dsimp only[List.set]):J S0 w0 L (RY S0 w0 m P l0.toArray K ((⟨dd,op,ty,pos,af,some (j,t)⟩,kd)::rest) l):=J.sp hj h hs (fun h=>kt (of_decide_eq_true h)) (fun h=>kf (of_decide_eq_false h)) ht hf
theorem J.spe{s:Nat}{p q:Int}{lt lf:List Value}(hj:(l0[j]?).bind (·.dst)=some s)(h:l.getD s undef= .bool (p==q))(hs:Nat.ble (s+1) l.length=true)(kt:p=q→J S0 w0 L (RY S0 w0 m P l0.toArray K ((⟨dd,op,ty,pos,af,some (j,t)⟩,kd)::rest) lt))(kf:p≠q→J S0 w0 L (RY S0 w0 m P l0.toArray K ((⟨dd,op,ty,pos,af,some (j,t)⟩,kd)::rest) lf))
  (ht:l.set s (.bool true)=lt:=by dsimp only[List.set])(hf:l.set s (.bool false)=lf:=by dsimp only[List.set]):J S0 w0 L (RY S0 w0 m P l0.toArray K ((⟨dd,op,ty,pos,af,some (j,t)⟩,kd)::rest) l):=J.sp hj h hs (fun h=>kt (by simpa using h)) (fun h=>kf (by simpa using h)) ht hf
theorem J.spn{s:Nat}{p q:Int}{lt lf:List Value}(hj:(l0[j]?).bind (·.dst)=some s)(h:l.getD s undef= .bool (p != q))(hs:Nat.ble (s+1) l.length=true)(kt:p≠q→J S0 w0 L (RY S0 w0 m P l0.toArray K ((⟨dd,op,ty,pos,af,some (j,t)⟩,kd)::rest) lt))(kf:p=q→J S0 w0 L (RY S0 w0 m P l0.toArray K ((⟨dd,op,ty,pos,af,some (j,t)⟩,kd)::rest) lf))
  (ht:l.set s (.bool true)=lt:=by dsimp only[List.set])(hf:l.set s (.bool false)=lf:=by dsimp only[List.set]):J S0 w0 L (RY S0 w0 m P l0.toArray K ((⟨dd,op,ty,pos,af,some (j,t)⟩,kd)::rest) l):=J.sp hj h hs (fun h=>kt (by simpa using h)) (fun h=>kf (by simpa using h)) ht hf
variable{x y z:Operand}{xt yt:TypeId}{k:IntKind}{p q r:Int}{b':Bool}
/-! values -/
theorem J.mv(hk:pureK kd=true)(k:J S0 w0 L (RY S0 w0 m P ops K rest l'))(hv:ev l x=v:=by((conv=>lhs;whnf)<;>rfl))(hl:l.set d v=l':=by dsimp only[List.set]):
  J S0 w0 L (RY S0 w0 m P ops K ((⟨some d, .move x,ty,pos,af,none⟩,kd)::rest) l):=J.pur hk (fun w=>by simp only[execOp];rw[hv];rfl) k hl
theorem J.as(hk:pureK kd=true)(k:J S0 w0 L (RY S0 w0 m P ops K rest l'))(hv:ev l x=v:=by((conv=>lhs;whnf)<;>rfl))(hl:l.set d v=l':=by dsimp only[List.set]):
  J S0 w0 L (RY S0 w0 m P ops K ((⟨some d, .assign x,ty,pos,af,none⟩,kd)::rest) l):=J.pur hk (fun w=>by simp only[execOp];rw[hv];rfl) k hl
theorem J.pk(hk:pureK kd=true)(hc:ev l x= .bool b)(k:J S0 w0 L (RY S0 w0 m P ops K rest l'))(hv:(if b then ev l y else ev l z)=v:=by((conv=>lhs;whnf)<;>rfl))(hl:l.set d v=l':=by dsimp only[List.set]):
  J S0 w0 L (RY S0 w0 m P ops K ((⟨some d, .pick x y z,ty,pos,af,none⟩,kd)::rest) l):=J.pur (v:=if b then ev l y else ev l z) hk (fun w=>by simp only[execOp];rw[hc];cases b<;>rfl) k (by rw[hv];exact hl)
theorem J.ex{i:Nat}{vs:Array Value}(hk:pureK kd=true)(hx:ev l x= .tuple vs)(k:J S0 w0 L (RY S0 w0 m P ops K rest l'))(hv:vs[i]? =some v:=by((conv=>lhs;whnf)<;>rfl))(hl:l.set d v=l':=by dsimp only[List.set]):
  J S0 w0 L (RY S0 w0 m P ops K ((⟨some d, .extract x i,ty,pos,af,none⟩,kd)::rest) l):=J.pur hk (fun w=>by simp only[execOp];rw[hx];simp only[Instr.extract,hv];rfl) k hl
theorem J.add(hk:pureK kd=true)(hx:ev l x= .int k p)(hy:ev l y= .int k q)(kk:J S0 w0 L (RY S0 w0 m P ops K rest l'))(hw:k.wrap (p+q)=r:=by first|exact W.i64 (by omega)|exact W.u64 (by omega)|exact W.u32 (by omega)|exact W.u8 (by omega)|exact W.i32 (by omega))(hl:l.set d (.int k r)=l':=by dsimp only[List.set]):J S0 w0 L (RY S0 w0 m P ops K ((⟨some d, .binOp .add xt x y yt,ty,pos,af,none⟩,kd)::rest) l):=J.pur hk (fun _=>D.add hx hy hw) kk hl
theorem J.sub(hk:pureK kd=true)(hx:ev l x= .int k p)(hy:ev l y= .int k q)(kk:J S0 w0 L (RY S0 w0 m P ops K rest l'))(hw:k.wrap (p - q)=r:=by first|exact W.i64 (by omega)|exact W.u64 (by omega)|exact W.u32 (by omega)|exact W.u8 (by omega)|exact W.i32 (by omega))(hl:l.set d (.int k r)=l':=by dsimp only[List.set]):J S0 w0 L (RY S0 w0 m P ops K ((⟨some d, .binOp .sub xt x y yt,ty,pos,af,none⟩,kd)::rest) l):=J.pur hk (fun _=>D.sub hx hy hw) kk hl
theorem J.eq(hk:pureK kd=true)(hx:ev l x= .int k p)(hy:ev l y= .int k q)(kk:J S0 w0 L (RY S0 w0 m P ops K rest l'))(hl:l.set d (.bool (p==q))=l':=by dsimp only[List.set]):J S0 w0 L (RY S0 w0 m P ops K ((⟨some d, .binOp .eql xt x y yt,ty,pos,af,none⟩,kd)::rest) l):=J.pur hk (fun _=>D.eq hx hy) kk hl
theorem J.ne(hk:pureK kd=true)(hx:ev l x= .int k p)(hy:ev l y= .int k q)(kk:J S0 w0 L (RY S0 w0 m P ops K rest l'))(hl:l.set d (.bool (p != q))=l':=by dsimp only[List.set]):J S0 w0 L (RY S0 w0 m P ops K ((⟨some d, .binOp .neq xt x y yt,ty,pos,af,none⟩,kd)::rest) l):=J.pur hk (fun _=>D.ne hx hy) kk hl
theorem J.lt(hk:pureK kd=true)(hx:ev l x= .int k p)(hy:ev l y= .int k q)(kk:J S0 w0 L (RY S0 w0 m P ops K rest l'))(hl:l.set d (.bool (decide (p<q)))=l':=by dsimp only[List.set]):J S0 w0 L (RY S0 w0 m P ops K ((⟨some d, .binOp .lss xt x y yt,ty,pos,af,none⟩,kd)::rest) l):=J.pur hk (fun _=>D.lt hx hy) kk hl
theorem J.le(hk:pureK kd=true)(hx:ev l x= .int k p)(hy:ev l y= .int k q)(kk:J S0 w0 L (RY S0 w0 m P ops K rest l'))(hl:l.set d (.bool (decide (p≤q)))=l':=by dsimp only[List.set]):J S0 w0 L (RY S0 w0 m P ops K ((⟨some d, .binOp .leq xt x y yt,ty,pos,af,none⟩,kd)::rest) l):=J.pur hk (fun _=>D.le hx hy) kk hl
theorem J.gt(hk:pureK kd=true)(hx:ev l x= .int k p)(hy:ev l y= .int k q)(kk:J S0 w0 L (RY S0 w0 m P ops K rest l'))(hl:l.set d (.bool (decide (q<p)))=l':=by dsimp only[List.set]):J S0 w0 L (RY S0 w0 m P ops K ((⟨some d, .binOp .gtr xt x y yt,ty,pos,af,none⟩,kd)::rest) l):=J.pur hk (fun _=>D.gt hx hy) kk hl
theorem J.ge(hk:pureK kd=true)(hx:ev l x= .int k p)(hy:ev l y= .int k q)(kk:J S0 w0 L (RY S0 w0 m P ops K rest l'))(hl:l.set d (.bool (decide (q≤p)))=l':=by dsimp only[List.set]):J S0 w0 L (RY S0 w0 m P ops K ((⟨some d, .binOp .geq xt x y yt,ty,pos,af,none⟩,kd)::rest) l):=J.pur hk (fun _=>D.ge hx hy) kk hl
theorem J.seq{s t:ByteArray}(hk:pureK kd=true)(hx:ev l x= .string s)(hy:ev l y= .string t)(kk:J S0 w0 L (RY S0 w0 m P ops K rest l'))(hl:l.set d (.bool (s.toList==t.toList))=l':=by dsimp only[List.set]):J S0 w0 L (RY S0 w0 m P ops K ((⟨some d, .binOp .eql xt x y yt,ty,pos,af,none⟩,kd)::rest) l):=J.pur hk (fun _=>D.seq hx hy) kk hl
theorem J.sne{s t:ByteArray}(hk:pureK kd=true)(hx:ev l x= .string s)(hy:ev l y= .string t)(kk:J S0 w0 L (RY S0 w0 m P ops K rest l'))(hl:l.set d (.bool (!(s.toList==t.toList)))=l':=by dsimp only[List.set]):J S0 w0 L (RY S0 w0 m P ops K ((⟨some d, .binOp .neq xt x y yt,ty,pos,af,none⟩,kd)::rest) l):=J.pur hk (fun _=>D.sne hx hy) kk hl
theorem J.not{b:Bool}(hk:pureK kd=true)(hx:ev l x= .bool b){b':Bool}(kk:J S0 w0 L (RY S0 w0 m P ops K rest l'))(hv:(!b)=b':=by first|rfl|skip)(hl:l.set d (.bool b')=l':=by dsimp only[List.set]):J S0 w0 L (RY S0 w0 m P ops K ((⟨some d, .unOp .not xt x,ty,pos,af,none⟩,kd)::rest) l):=J.pur hk (fun _=>by subst hv;exact D.not hx) kk hl
theorem J.ln{a:Option Addr}{n c:Nat}{e:TypeId}[U:Und P xt (.slice e)](hk:pureK kd=true)(hx:ev l x= .slice a n c)(kk:J S0 w0 L (RY S0 w0 m P ops K rest l'))(hl:l.set d (.int .i64 n)=l':=by dsimp only[List.set]):J S0 w0 L (RY S0 w0 m P ops K ((⟨some d, .call {callee:= .builtin .len,args:= #[x],argTypes:= #[xt]},ty,pos,af,none⟩,kd)::rest) l):=J.pur hk (fun _=>D.len hx U.h) kk hl
theorem J.cv{s:TypeId}{k':IntKind}{sd:TypeDesc}[U1:Und P s sd][U:Und P xt (.int k')](hk:pureK kd=true)(hx:ev l x= .int k p)(kk:J S0 w0 L (RY S0 w0 m P ops K rest l'))(hw:k'.wrap p=r:=by first|exact W.i64 (by omega)|exact W.u64 (by omega)|exact W.u32 (by omega)|exact W.u8 (by omega)|exact W.i32 (by omega))(hl:l.set d (.int k' r)=l':=by dsimp only[List.set]):J S0 w0 L (RY S0 w0 m P ops K ((⟨some d, .convert s xt x,ty,pos,af,none⟩,kd)::rest) l):=J.pur hk (fun _=>D.conv hx U1.h U.h hw) kk hl
theorem J.bs{parts:Array (Nat×Operand)}{pl:List (Nat×Nat)}{sz by_:Nat}{zs cs:List Value}{ps:List (Nat×Value)}[I:Inf P xt sz by_ zs][I2:SInf P xt pl](hk:pureK kd=true)(hv:parts.toList.map (fun p=>(p.1,ev l p.2))=ps)(kk:J S0 w0 L (RY S0 w0 m P ops K rest l'))(hf:fillL pl zs ps=some cs:=by rfl)(hl:l.set d (.agg cs.toArray)=l':=by dsimp only[List.set]):J S0 w0 L (RY S0 w0 m P ops K ((⟨some d, .build xt parts,ty,pos,af,none⟩,kd)::rest) l):=J.pur hk (fun _=>D.buildS I.h I2.h hv hf) kk hl
theorem J.sl{lo hi:Option Operand}{li hi':Int}{a a':Option Addr}{n c n' c' sz:Nat}{e:TypeId}[U:Und P xt (.slice e)][Z:Siz P e sz](hk:pureK kd=true)(hx:ev l x= .slice a n c)(h1:(lo.map (ev l)).getD (.int .i64 0)= .int .i64 li)(h2:(hi.map (ev l)).getD (.int .i64 n)= .int .i64 hi')(kk:J S0 w0 L (RY S0 w0 m P ops K rest l'))(hz:sz≠0:=by decide)(hb:0≤li∧li≤hi'∧hi'≤c:=by omega)(hn:n≤c:=by omega)(ha:subA a li.toNat sz c=a':=by rfl)(hn':hi'.toNat - li.toNat=n':=by rfl)(hc':c - li.toNat=c':=by rfl)(hl:l.set d (.slice a' n' c')=l':=by dsimp only[List.set]):J S0 w0 L (RY S0 w0 m P ops K ((⟨some d, .slice xt x lo hi none,ty,pos,af,none⟩,kd)::rest) l):=J.pur hk (fun _=>by subst ha hn' hc';exact D.slice hx U.h Z.h hz h1 h2 hb hn) kk hl
theorem J.eqI{e n:Nat}{xs ys:List Int}[U:Und P xt (.array n e)][U2:Und P e (.int k)][Z:Siz P e 1](hk:pureK kd=true)(hx:ev l x= .agg (ints k xs).toArray)(hy:ev l y= .agg (ints k ys).toArray)(kk:J S0 w0 L (RY S0 w0 m P ops K rest l'))(hg:P.eqGuardType P.depth xt=false:=by kernel_rfl)(lx:xs.length=n:=by first|rfl|assumption|exact And.left (by assumption)|exact WRow.elt_len (by assumption) (by omega)|(subst_vars;exact WRow.elt_len (by assumption) (by omega)))(ly:ys.length=n:=by first|rfl|assumption|exact And.left (by assumption)|exact WRow.elt_len (by assumption) (by omega)|(subst_vars;exact WRow.elt_len (by assumption) (by omega)))(hn:0<n:=by decide)(hl:l.set d (.bool (decide (xs=ys)))=l':=by dsimp only[List.set]):J S0 w0 L (RY S0 w0 m P ops K ((⟨some d, .binOp .eql xt x y yt,ty,pos,af,none⟩,kd)::rest) l):=J.pur hk (fun _=>D.eqI hx hy U.h U2.h Z.h hg lx ly hn) kk hl
theorem J.neI{e n:Nat}{xs ys:List Int}[U:Und P xt (.array n e)][U2:Und P e (.int k)][Z:Siz P e 1](hk:pureK kd=true)(hx:ev l x= .agg (ints k xs).toArray)(hy:ev l y= .agg (ints k ys).toArray)(kk:J S0 w0 L (RY S0 w0 m P ops K rest l'))(hg:P.eqGuardType P.depth xt=false:=by kernel_rfl)(lx:xs.length=n:=by first|rfl|assumption|exact And.left (by assumption)|exact WRow.elt_len (by assumption) (by omega)|(subst_vars;exact WRow.elt_len (by assumption) (by omega)))(ly:ys.length=n:=by first|rfl|assumption|exact And.left (by assumption)|exact WRow.elt_len (by assumption) (by omega)|(subst_vars;exact WRow.elt_len (by assumption) (by omega)))(hn:0<n:=by decide)(hl:l.set d (.bool (decide (xs≠ys)))=l':=by dsimp only[List.set]):J S0 w0 L (RY S0 w0 m P ops K ((⟨some d, .binOp .neq xt x y yt,ty,pos,af,none⟩,kd)::rest) l):=J.pur hk (fun _=>D.neI hx hy U.h U2.h Z.h hg lx ly hn) kk hl
theorem J.fl{b o i off ad:Nat}[F:Fld P xt i off](hk:pureK kd=true)(hx:ev l x= .pointer (some ⟨b,o,none⟩))(k:J S0 w0 L (RY S0 w0 m P ops K rest l'))(ha:o+off=ad:=by first|dsimp only[Nat.reduceAdd]|rfl)(hl:l.set d (.pointer (some ⟨b,ad,none⟩))=l':=by dsimp only[List.set]):
  J S0 w0 L (RY S0 w0 m P ops K ((⟨some d, .fieldAddr xt x i,ty,pos,af,none⟩,kd)::rest) l):=by
 obtain⟨fs,f,sz,h1,h2,h3,h4,rfl⟩:=F.h;subst ha;exact J.pur hk (fun w=>D.fieldAddr hx h1 h2 h3 h4) k hl
end
class LenC(vs:List Value)(n:outParam Nat):Prop where
 h:vs.length=n
 c:vs.all cellB=true
def Ent.blk(b:Nat)(cs:List Value)(T:TypeId):Ent:=
 ⟨fun S w=>S b∧Blk w b cs T,fun {S w w'} h k=>⟨h.1,by unfold Blk;rw[k b h.1 h.2.lt];exact h.2⟩,fun {S T w} h k=>⟨k b h.2.lt h.1,h.2⟩⟩
theorem Rpl.same{L L':List Ent}{e e':Ent}(h:Rpl L e e' L'):Rpl L e e L:=by
 induction h with
 |here=>exact .here
 |there _ ih=>exact .there ih
class RB(L:List Ent)(b:Nat)(cs:outParam (List Value))(T:outParam TypeId)(F:outParam (List Value→List Ent)):Prop where h:∀cs',Rpl L (.blk b cs T) (.blk b cs' T) (F cs')
instance RB.here{b:Nat}{cs:List Value}{T:TypeId}{L:List Ent}:RB (.blk b cs T::L) b cs T (fun cs'=> .blk b cs' T::L):=⟨fun _=> .here⟩
instance(priority:=low) RB.there{b:Nat}{cs:List Value}{T:TypeId}{L:List Ent}{x:Ent}{F:List Value→List Ent}[R:RB L b cs T F]:RB (x::L) b cs T (fun cs'=>x::F cs'):=⟨fun cs'=> .there (R.h cs')⟩
def Ent.irow(k:IntKind)(a:Option Addr)(n:Nat)(xs:List Int):Ent:=
 ⟨fun S w=>IRow k S w a n xs,fun h x=>⟨h.row.step x,h.len,h.bd⟩,fun h x=>h.weaken x⟩
def Ent.iown(e:TypeId)(k:IntKind)(a:Option Addr)(n c:Nat)(xs:List Int):Ent:=
 ⟨fun S w=>IOwn 0 w e k a n c xs∧∀b,obk a=some b→S b,fun h x=>⟨⟨h.1.own.step fun b hb=>x b (h.2 b hb),h.1.bd⟩,h.2⟩,fun h x=>⟨h.1,fun b hb=>x b (h.1.own.lo b hb).2 (h.2 b hb)⟩⟩
def Ent.wrow(k:IntKind)(sz:Nat)(a:Option Addr)(n:Nat)(xs:List Int):Ent:=
 ⟨fun S w=>WRow k sz S w a n xs,fun h x=>⟨h.row.step x,h.len,h.bd⟩,fun h x=>h.weaken x⟩
section
variable{S0 S:Nat→Prop}{w0 w:World}{L L':List Ent}{b n c sz:Nat}{cs:List Value}{T e:TypeId}{k:IntKind}{a:Option Addr}{xs:List Int}{α:Type}{f:α→List Value}{g:α→List Inn}{lst:List α}
theorem Mem.blk(M:Mem S0 w0 L w)(r:Rpl L (.blk b cs T) (.blk b cs T) L):Blk w b cs T:=let ⟨_,_,h⟩:=M.get r;h.2
/-! rows that can be read -/
def RI(S0:Nat→Prop)(w0:World)(L:List Ent)(k:IntKind)(a:Option Addr)(n:Nat)(xs:List Int):Prop:=∀w,Mem S0 w0 L w→∃S,IRow k S w a n xs
def RW(S0:Nat→Prop)(w0:World)(L:List Ent)(k:IntKind)(sz:Nat)(a:Option Addr)(n:Nat)(xs:List Int):Prop:=∀w,Mem S0 w0 L w→∃S,WRow k sz S w a n xs
def RG{α:Type}(S0:Nat→Prop)(w0:World)(L:List Ent)(f:α→List Value)(sz:Nat)(a:Option Addr)(n:Nat)(lst:List α):Prop:=∀w,Mem S0 w0 L w→∃S,GRow f sz S w a n lst
theorem RI.arg(h:IRow k S w0 a n xs):RI no w0 L k a n xs:=fun w M=>⟨S,h.ext M.ext⟩
theorem RI.own(r:Rpl L (.iown e k a n c xs) (.iown e k a n c xs) L):RI S0 w0 L k a n xs:=fun w M=>let ⟨S,_,h⟩:=M.get r;⟨_,h.1.row⟩
theorem RW.row(r:Rpl L (.wrow k sz a n xs) (.wrow k sz a n xs) L):RW S0 w0 L k sz a n xs:=fun w M=>let ⟨S,_,h⟩:=M.get r;⟨S,h⟩
theorem RG.arg(h:GRow f sz S w0 a n lst):RG no w0 L f sz a n lst:=fun w M=>⟨S,h.ext M.ext⟩
end
section
variable{S0:Nat→Prop}{w0:World}{L L' E:List Ent}{P:Program}{l0:List Oper}{ops:Array Oper}{K:List Value→World→Prop}{rest:List (Oper×Kd)}{l l':List Value}{m:Md}{d:Tmp}{op:Op}{ty:TypeId}{pos:String}{af:Array Edge}{kd:Kd}{v:Value}{x y z:Operand}{xt yt e T:TypeId}{b o n c sz by_:Nat}{cs cs' vs zs:List Value}{ed:TypeDesc}
 {k ki:IntKind}{a:Option Addr}{xs:List Int}{i:Int}{α:Type}{f:α→List Value}{lst:List α}
theorem J.alloc[I:Inf P e sz by_ zs]{l':Nat→List Value}(hk:okE m kd=true)(k:∀b,J S0 w0 (.blk b zs e::L) (RY S0 w0 m P ops K rest (l' b)))(hl:∀b,l.set d (.pointer (some ⟨b,0,none⟩))=l' b:=by intro b;dsimp only[List.set]):
  J S0 w0 L (RY S0 w0 m P ops K ((⟨some d, .alloc e,ty,pos,af,none⟩,kd)::rest) l):=J.eff hk fun w M K' hK=>RS.alloc I.h fun b w' e1 s1 x1 B=>RS.nil (hK _ w' x1 (by rw[hl];exact k b w' (M.new x1 ⟨by subst e1;exact Nat.le_refl _,B⟩)))
theorem J.box{l':Nat→List Value}(hk:okE m kd=true)(hx:ev l x=v)(hc:v.cells=cs.toArray)(k:∀b,J S0 w0 (.blk b cs e::L) (RY S0 w0 m P ops K rest (l' b)))(hl:∀b,l.set d (.pointer (some ⟨b,0,none⟩))=l' b:=by intro b;dsimp only[List.set]):
  J S0 w0 L (RY S0 w0 m P ops K ((⟨some d, .box e x,ty,pos,af,none⟩,kd)::rest) l):=J.eff hk fun w M K' hK=>RS.box hx hc fun b w' e1 s1 x1 B=>RS.nil (hK _ w' x1 (by rw[hl];exact k b w' (M.new x1 ⟨by subst e1;exact Nat.le_refl _,B⟩)))
theorem Mem.store{w w':World}(M:Mem S0 w0 L w)(r:Rpl L (.blk b cs T) (.blk b cs' T) L')(x:St b w w')(B:Blk w' b cs' T):Mem S0 w0 L' w':=by
 obtain⟨S,h1,h2,h3⟩:=M.foc r;exact h3 w' S ⟨x.os,x.tape,x.output,by rw[x.size];exact Nat.le_refl _,fun q _ hq=>x.block q fun e=>hq (e▸h2.1)⟩ ⟨h2.1,B⟩ fun _ hb=> .inl hb
theorem J.st[Z:Siz P xt 1]{F:List Value→List Ent}(hx:ev l x= .pointer (some ⟨b,o,none⟩))[R:RB L b cs T F](k:J S0 w0 (F cs') (RY S0 w0 m P ops K rest l))(hy:ev l y=v:=by((conv=>lhs;whnf)<;>rfl))(hv:cellB v=true:=by rfl)
  (ho:Nat.ble (o+1) cs.length=true:=by rfl)(hc:cs.set o v=cs':=by dsimp only[List.set])(hk:okG m kd (F cs'):=by first|exact trivial|(repeat(first|exact List.Sublist.refl _|refine List.Sublist.cons_cons _ ?_|refine List.Sublist.cons _ ?_))):J S0 w0 L (RY S0 w0 m P ops K ((⟨none, .store xt x y,ty,pos,af,none⟩,kd)::rest) l):=
 J.big hk fun w M K' hK=>RS.store hx hy Z.h hv (M.blk (R.h cs).same) ho fun w' x1 B=>RS.nil (hK _ w' (M.store (R.h _) x1 (by rw[←hc];exact B)) (k w' (M.store (R.h _) x1 (by rw[←hc];exact B))))
theorem splice_get:∀(vs cs:List Value) (o i:Nat),o+vs.length≤cs.length→(splice cs o vs)[i]? =if o≤i∧i<o+vs.length then vs[i - o]? else cs[i]?
 |[],cs,o,i,_=>by simp only[splice,List.length_nil,Nat.add_zero];rw[if_neg (by omega)]
 |v::vs,cs,o,i,h=>by
  simp only[List.length_cons]at h;rw[splice,splice_get vs (cs.set o v) (o+1) i (by simp;omega)];by_cases h1:o+1≤i∧i<o+1+vs.length
  ·rw[if_pos h1,if_pos (by simp only[List.length_cons];omega),show i - o=(i - (o+1))+1 by omega,List.getElem?_cons_succ]
  ·rw[if_neg h1];by_cases h2:i=o
   ·subst h2;rw[if_pos (by simp only[List.length_cons];omega),Nat.sub_self,List.getElem?_cons_zero,List.getElem?_set_self (by omega)]
   ·rw[if_neg (by simp only[List.length_cons];omega),List.getElem?_set_ne (by omega)]
theorem splice_all{cs vs:List Value}(h:cs.length=vs.length):splice cs 0 vs=vs:=by
 apply List.ext_getElem?;intro i;rw[splice_get vs cs 0 i (by omega)];by_cases hi:i<vs.length
 ·rw[if_pos (by omega)];rfl
 ·rw[if_neg (by omega),List.getElem?_eq_none (by omega),List.getElem?_eq_none (by omega)]
theorem ints_cellB(k:IntKind)(xs:List Int):(ints k xs).all cellB=true:=by
 rw[List.all_eq_true];intro v hv;obtain⟨x,_,rfl⟩:=List.mem_map.1 hv;rfl
theorem J.staw[Z:Siz P xt sz]{F:List Value→List Ent}(hx:ev l x= .pointer (some ⟨b,0,none⟩))(hy:ev l y= .agg vs.toArray)[R:RB L b cs T F](k:J S0 w0 (F vs) (RY S0 w0 m P ops K rest l))(hk:okG m kd (F vs):=by first|exact trivial|(repeat(first|exact List.Sublist.refl _|refine List.Sublist.cons_cons _ ?_|refine List.Sublist.cons _ ?_)))(hz:sz≠0:=by decide)(hn:vs.length=sz:=by first|exact LenC.h|rfl|assumption|exact And.left (by assumption)|(rw[ints_length];first|rfl|assumption|exact And.left (by assumption)|exact WRow.elt_len (by assumption) (by omega)|(subst_vars;exact WRow.elt_len (by assumption) (by omega))))(hc:cs.length=sz:=by first|exact LenC.h|rfl|assumption|exact And.left (by assumption)|(rw[ints_length];first|rfl|assumption|exact And.left (by assumption)|exact WRow.elt_len (by assumption) (by omega)|(subst_vars;exact WRow.elt_len (by assumption) (by omega))))
  (hv:vs.all cellB=true:=by first|exact LenC.c|rfl|exact ints_cellB _ _):J S0 w0 L (RY S0 w0 m P ops K ((⟨none, .store xt x y,ty,pos,af,none⟩,kd)::rest) l):=
 J.big hk fun w M K' hK=>RS.storeAggB hx hy Z.h hz hn hv (M.blk (R.h cs).same) (by rw[Nat.ble_eq];omega) fun w' x1 B=>RS.nil (hK _ w' (M.store (R.h _) x1 (by rw[splice_all (by omega)]at B;exact B)) (k w' (M.store (R.h _) x1 (by rw[splice_all (by omega)]at B;exact B))))
theorem J.ld[U:Sca P xt]{F:List Value→List Ent}(hx:ev l x= .pointer (some ⟨b,o,none⟩))[R:RB (Lv m L) b cs T F](k:J S0 w0 L (RY S0 w0 m P ops K rest l'))(ho:Nat.ble (o+1) cs.length=true:=by rfl)(hv:cs.getD o undef=v:=by((conv=>lhs;whnf)<;>rfl))(hl:l.set d v=l':=by dsimp only[List.set]):
  J S0 w0 L (RY S0 w0 m P ops K ((⟨some d, .load xt x,ty,pos,af,none⟩, .q)::rest) l):=
 let ⟨_,u1,u2⟩:=U.h
 J.val (fun w M=>D.load hx u1 u2 ((M.blk (R.h cs).same).cell (by have:=Nat.le_of_ble_eq_true ho;rw[List.getD_eq_getElem?_getD,List.getElem?_eq_getElem this]at hv;rw[List.getElem?_eq_getElem this,←hv];rfl))) k hl
theorem J.lda[U:Agg P xt sz]{F:List Value→List Ent}(hx:ev l x= .pointer (some ⟨b,0,none⟩))[R:RB (Lv m L) b cs T F](k:J S0 w0 L (RY S0 w0 m P ops K rest l'))(hz:sz≠0:=by decide)(hn:cs.length=sz:=by first|exact LenC.h|rfl|assumption|exact And.left (by assumption)|(rw[ints_length];first|rfl|assumption|exact And.left (by assumption)|exact WRow.elt_len (by assumption) (by omega)|(subst_vars;exact WRow.elt_len (by assumption) (by omega))))(hl:l.set d (.agg cs.toArray)=l':=by dsimp only[List.set]):
  J S0 w0 L (RY S0 w0 m P ops K ((⟨some d, .load xt x,ty,pos,af,none⟩, .q)::rest) l):=
 let ⟨_,u1,u2,u3⟩:=U.h
 J.val (fun w M=>D.loadAgg hx u1 u2 u3 hz hn ((M.blk (R.h cs).same).cells (by rw[List.drop_zero,List.take_length]))) k hl
theorem J.ldp[U:Agg P xt sz]{F:List Value→List Ent}(hx:ev l x= .pointer (some ⟨b,o,none⟩))[R:RB (Lv m L) b cs T F](k:J S0 w0 L (RY S0 w0 m P ops K rest l'))(hz:sz≠0:=by decide)(hv:(cs.drop o).take sz=vs:=by dsimp only[List.drop,List.take])(hn:vs.length=sz:=by rfl)(hl:l.set d (.agg vs.toArray)=l':=by dsimp only[List.set]):
  J S0 w0 L (RY S0 w0 m P ops K ((⟨some d, .load xt x,ty,pos,af,none⟩, .q)::rest) l):=
 let ⟨_,u1,u2,u3⟩:=U.h
 J.val (fun w M=>D.loadAgg hx u1 u2 u3 hz hn ((M.blk (R.h cs).same).cellsN sz hv)) k hl
/-! rows -/
def pt(a:Option Addr)(k:Nat):Value:= .pointer (a.map fun p=>⟨p.block,p.off+k,none⟩)
theorem pt_some{b o:Nat}(ha:a=some ⟨b,o,none⟩)(k:Nat):pt a k= .pointer (some ⟨b,o+k,none⟩):=by subst ha;rfl
theorem J.idxS[U:Und P xt (.slice e)][Z:Siz P e sz](hk:pureK kd=true)(hx:ev l x= .slice (some ⟨b,o,none⟩) n c)(hy:ev l y= .int ki i)(kk:J S0 w0 L (RY S0 w0 m P ops K rest l'))(hz:0<sz:=by decide)(hi:0≤i∧i<n:=by omega)(hl:l.set d (pt (some ⟨b,o,none⟩) (i.toNat*sz))=l':=by dsimp only[List.set]):
  J S0 w0 L (RY S0 w0 m P ops K ((⟨some d, .indexAddr xt x y,ty,pos,af,none⟩,kd)::rest) l):=
 J.pur hk (fun w=>by rw[pt_some rfl];exact D.indexAddr hx hy U.h Z.h (by omega) rfl hi) kk hl
theorem J.idxI[U:Und P xt (.slice e)][Z:Siz P e 1](hx:ev l x= .slice a n c)(hy:ev l y= .int ki i)(hR:RI S0 w0 (Lv m L) k a n xs)(kk:J S0 w0 L (RY S0 w0 m P ops K rest l'))(hi:0≤i∧i<n:=by omega)(hl:l.set d (pt a (i.toNat*1))=l':=by dsimp only[List.set]):
  J S0 w0 L (RY S0 w0 m P ops K ((⟨some d, .indexAddr xt x y,ty,pos,af,none⟩, .q)::rest) l):=
 J.val (fun w M => by
  obtain ⟨S, h⟩ := hR w M
  obtain ⟨b, o, ha, _, hc⟩ := h.at_ hi
  rw [pt_some ha]
  exact D.indexAddr hx hy U.h Z.h (by decide) ha hi) kk hl
theorem J.ldI[U:Und P xt (.int k)](hx:ev l x=pt a (i.toNat*1))(hR:RI S0 w0 (Lv m L) k a n xs)(kk:J S0 w0 L (RY S0 w0 m P ops K rest l'))(hi:0≤i∧i<n:=by omega){q:Int}(hq:q=xs.getD i.toNat 0:=by first|assumption|exact rfl)(hl:l.set d (.int k q)=l':=by dsimp only[List.set]):
  J S0 w0 L (RY S0 w0 m P ops K ((⟨some d, .load xt x,ty,pos,af,none⟩, .q)::rest) l):=
 J.val (fun w M => by
  obtain ⟨S, h⟩ := hR w M
  obtain ⟨b, o, ha, _, hc⟩ := h.at_ hi
  exact D.load (by rw [hx, pt_some ha]) U.h rfl (by rw [hq]; exact hc)) kk hl
theorem GRow.get{S:Nat→Prop}{w:World}{q:α}(h:GRow f sz S w a n lst)(hz:0<sz)(hq:lst[i.toNat]? =some q)(hi:0≤i∧i<n):∃b o,a=some ⟨b,o,none⟩∧S b∧Cells w b (o+i.toNat*sz) (f q):=by
 obtain⟨b,o,h1,h2,h3,_⟩:=h.at_ hz q hi;rw[List.getD_eq_getElem?_getD,hq]at h3;exact⟨b,o,h1,h2,h3⟩
theorem GRow.ex{S:Nat→Prop}{w:World}(h:GRow f sz S w a n lst)(hi:0≤i∧i<n):∃q,lst[i.toNat]? =some q:=⟨_,List.getElem?_eq_getElem (by have:=h.len;omega)⟩
theorem J.idxG[U:Und P xt (.slice e)][Z:Siz P e sz](hx:ev l x= .slice a n c)(hy:ev l y= .int ki i)(hR:RG S0 w0 (Lv m L) f sz a n lst)(kk:J S0 w0 L (RY S0 w0 m P ops K rest l'))(hz:0<sz:=by decide)(hi:0≤i∧i<n:=by omega)(hl:l.set d (pt a (i.toNat*sz))=l':=by dsimp only[List.set]):
  J S0 w0 L (RY S0 w0 m P ops K ((⟨some d, .indexAddr xt x y,ty,pos,af,none⟩, .q)::rest) l):=
 J.val (fun w M => by
  obtain ⟨S, h⟩ := hR w M
  obtain ⟨q, hq⟩ := h.ex hi
  obtain ⟨b, o, ha, _, hc⟩ := h.get hz hq hi
  rw [pt_some ha]
  exact D.indexAddr hx hy U.h Z.h (by omega) ha hi) kk hl
end
def Gv{α:Type}(w:World)(g:α→Value)(E:α→List Ent)(p:α→Prop)(e:Ending)(w':World):Prop:=∃x,e= .returned (g x)∧p x∧Ext w w'∧Sep (E x) (fun b=>w.heap.size≤b) w'
theorem sep1{e:Ent}{S:Nat→Prop}{w:World}(h:e.ok S w):Sep [e] S w:=⟨S,no,fun _ h=>h,fun _ h=>h.elim,fun _ _ h=>h.elim,h,trivial⟩
theorem Gv.of{α:Type}{P:Program}{f:FuncId}{av:Array Value}{w:World}{A:Value→World→Prop}{g:α→Value}{E:α→List Ent}{p:α→Prop}(h:Calls P f av w (Ret w A))(k:∀v w',Ext w w'→A v w'→∃x,v=g x∧p x∧Sep (E x) (fun b=>w.heap.size≤b) w'):Calls P f av w (Gv w g E p):=
 h.mono fun _ w' ⟨v,h1,h2,h3⟩=>let ⟨x,k1,k2,k3⟩:=k v w' h2 h3;⟨x,k1▸h1,k2,h2,k3⟩
theorem iown_ok{lo:Nat}{w:World}{e:TypeId}{k:IntKind}{n c:Nat}{a:Option Addr}{xs:List Int}(h:IOwn lo w e k a n c xs):(Ent.iown e k a n c xs).ok (fun b=>lo≤b) w:=⟨⟨h.own.base fun _ _=>Nat.zero_le _,h.bd⟩,fun b hb=>(h.lo b hb).1⟩
section
variable{S0:Nat→Prop}{w0:World}{L L' E:List Ent}{P:Program}{l0:List Oper}{ops:Array Oper}{K:List Value→World→Prop}{rest:List (Oper×Kd)}{l l':List Value}{m:Md}{d:Tmp}{op:Op}{ty:TypeId}{pos:String}{af:Array Edge}{kd:Kd}{v:Value}{x y z:Operand}{f:FuncId}{args:Array Operand}{av:List Value}{ts:Array TypeId}
theorem J.callp{g:Value}[E:Ents P f](hk:okE m kd=true)(ha:args.toList.map (ev l)=av)(h:∀w,Mem S0 w0 L w→Calls P f av.toArray w (Ret w fun v _=>v=g))(k:J S0 w0 L (RY S0 w0 m P ops K rest l'))(hl:l.set d g=l':=by dsimp only[List.set]):
  J S0 w0 L (RY S0 w0 m P ops K ((⟨some d, .call {callee:= .value (.func f),args:=args,argTypes:=ts},ty,pos,af,none⟩,kd)::rest) l):=
 J.eff hk fun w M K' hK=>RS.call E.h (h w M) ha fun v w' x1 hv=>RS.nil (hK _ w' x1 (by subst hv;rw[hl];exact k w' (M.grow x1)))
theorem J.call{α:Type}{g:α→Value}{Ex E':α→List Ent}{p:α→Prop}{l':α→List Value}[E:Ents P f](hk:okE m kd=true)(ha:args.toList.map (ev l)=av)(h:∀w,Mem S0 w0 L w→Calls P f av.toArray w (Gv w g Ex p))(k:∀x,p x→J S0 w0 (E' x) (RY S0 w0 m P ops K rest (l' x)))
  (hE:∀x,Ex x++L=E' x:=by intro x;dsimp only[List.cons_append,List.nil_append])(hl:∀x,l.set d (g x)=l' x:=by intro x;dsimp only[List.set]):
  J S0 w0 L (RY S0 w0 m P ops K ((⟨some d, .call {callee:= .value (.func f),args:=args,argTypes:=ts},ty,pos,af,none⟩,kd)::rest) l):=
 J.eff hk fun w M K' hK=>RS.callx E.h (h w M) ha fun e w' ⟨q,h1,h2,h3,h4⟩=>⟨_,h1,RS.nil (hK _ w' h3 (by rw[hl];exact k q h2 w' (by rw[←hE];exact M.more h3 h4)))⟩
inductive Re(P:Program)(L:List Ent)(l:List Value):ResultVar→Value→Prop
 |tmp {t:Tmp} {v:Value} (hv:l.getD t undef=v):Re P L l (.tmp t) v
 |agg {s:Tmp} {t T:TypeId} {b sz:Nat} {cs:List Value} {F:List Value→List Ent} [U:Agg P t sz] (hp:l.getD s undef= .pointer (some ⟨b,0,none⟩)) [R:RB L b cs T F] (hz:sz≠0) (hn:cs.length=sz):Re P L l (.cell s t) (.agg cs.toArray)
 |one {s:Tmp} {t T:TypeId} {b:Nat} {v:Value} {cs:List Value} {F:List Value→List Ent} [U:Sca P t] (hp:l.getD s undef= .pointer (some ⟨b,0,none⟩)) [R:RB L b cs T F] (ho:Nat.ble 1 cs.length=true) (hv:cs.getD 0 undef=v):Re P L l (.cell s t) v
theorem Re.ok{r:ResultVar}{rs:List ResultVar}{v:Value}{vs:List Value}(h:Re P L l r v){w:World}(M:Mem S0 w0 L w)(k:resOk P l w rs vs):resOk P l w (r::rs) (v::vs):=by
 cases h with
 |tmp hv=>exact⟨hv,k⟩
 | @agg s t T b sz cs F U hp R hz hn=>
  obtain⟨_,u1,u2,u3⟩:=U.h;exact⟨⟨_,hp,loadVar_agg u1 u2 u3 hz hn ((M.blk (R.h cs).same).cells (by rw[List.drop_zero,List.take_length]))⟩,k⟩
 | @one s t T b v cs F U hp R ho hv=>
  obtain⟨_,u1,u2⟩:=U.h;exact⟨⟨_,hp,loadVar_one u1 u2 ((M.blk (R.h cs).same).cell (by have:=Nat.le_of_ble_eq_true ho;rw[List.getD_eq_getElem?_getD,List.getElem?_eq_getElem this]at hv;rw[List.getElem?_eq_getElem this,←hv];rfl))⟩,k⟩
theorem J.tret{fn:Func}{R:Ending→World→Prop}(k:J S0 w0 L (bodyPost P fn R .ret (fr l))):J S0 w0 L (bodyPost P fn R .ret (fr l)):=k
theorem J.ret1{fn:Func}{R:Ending→World→Prop}{r1:ResultVar}{v1:Value}(hr:fn.results= #[r1])(k:J S0 w0 L (R (.returned (v1))))(h1:Re P L l r1 v1:=by first|exact Re.tmp (by((conv=>lhs;whnf)<;>rfl))|exact Re.agg rfl (by decide) (by first|rfl|assumption|exact And.left (by assumption)|(rw[ints_length];first|rfl|assumption|exact And.left (by assumption)|exact WRow.elt_len (by assumption) (by omega)|(subst_vars;exact WRow.elt_len (by assumption) (by omega))))|exact Re.one rfl (by rfl) (by((conv=>lhs;whnf)<;>rfl))):J S0 w0 L (bodyPost P fn R .ret (fr l)):=fun w M=>G.ret (rs:=[r1]) (vs:=[v1]) hr (h1.ok M trivial) rfl (k w M)
theorem J.ret2{fn:Func}{R:Ending→World→Prop}{r1 r2:ResultVar}{v1 v2:Value}(hr:fn.results= #[r1,r2])(k:J S0 w0 L (R (.returned (.tuple #[v1,v2]))))(h1:Re P L l r1 v1:=by first|exact Re.tmp (by((conv=>lhs;whnf)<;>rfl))|exact Re.agg rfl (by decide) (by first|rfl|assumption|exact And.left (by assumption)|(rw[ints_length];first|rfl|assumption|exact And.left (by assumption)|exact WRow.elt_len (by assumption) (by omega)|(subst_vars;exact WRow.elt_len (by assumption) (by omega))))|exact Re.one rfl (by rfl) (by((conv=>lhs;whnf)<;>rfl)))(h2:Re P L l r2 v2:=by first|exact Re.tmp (by((conv=>lhs;whnf)<;>rfl))|exact Re.agg rfl (by decide) (by first|rfl|assumption|exact And.left (by assumption)|(rw[ints_length];first|rfl|assumption|exact And.left (by assumption)|exact WRow.elt_len (by assumption) (by omega)|(subst_vars;exact WRow.elt_len (by assumption) (by omega))))|exact Re.one rfl (by rfl) (by((conv=>lhs;whnf)<;>rfl))):J S0 w0 L (bodyPost P fn R .ret (fr l)):=fun w M=>G.ret (rs:=[r1,r2]) (vs:=[v1,v2]) hr (h1.ok M (h2.ok M trivial)) rfl (k w M)
theorem J.fin{g:Value}(h:v=g):J no w0 L (Ret w0 (fun v _=>v=g) (.returned v)):=fun w M=>⟨v,rfl,M.ext,h⟩
theorem J.finG{α:Type}{g:α→Value}{Ex:α→List Ent}{p:α→Prop}(x:α)(h:v=g x)(hp:p x)(hs:(Ex x).Sublist L):J no w0 L (Gv w0 g Ex p (.returned v)):=fun w M=>⟨x,by rw[h],hp,M.ext,(M.sep.sub hs).mono fun b _ hb=>hb.elim (fun k=>k.elim) fun k=>k⟩
/-! ### loops, joins -/
variable{Q:Exit→Act→World→Prop}{c y:Code}
theorem J.loop{A:Type}(M:A→List (Nat×Value))(Jk:List Nat)(Lp:A→List Ent)(I:A→Prop)(μ:A→Nat)(p0:A){l':A→(Nat→Value)→List Value}
  (h0:upd (upd l (M p0)) (junk Jk (fun s=>l.getD s undef))=l)(i0:I p0)(round:∀p j,I p→J S0 w0 (Lp p) (c.wp P (Exit.then (Nx l M Jk (fun p w=>Mem S0 w0 (Lp p) w∧I p) μ p) Q) (fr (l' p j))))
  (hL:(Lp p0).Sublist L:=by exact List.Sublist.refl _)(hl:∀p j,upd (upd l (M p)) (junk Jk j)=l' p j:=by intro p j;simp only[upd,junk,List.map_cons,List.map_nil,List.set_cons_succ,List.set_cons_zero];exact rfl):J S0 w0 L ((Code.loop c).wp P Q (fr l)):=fun w Mm=>by
 refine C.loop M Jk (fun p w=>Mem S0 w0 (Lp p) w∧I p) μ p0 h0 ⟨Mm.sub hL,i0⟩ fun p j w hI=>?_
 rw[hl];exact round p j hI.2 w hI.1
theorem J.next{A:Type}{M:A→List (Nat×Value)}{Jk:List Nat}{Lp:A→List Ent}{I:A→Prop}{μ:A→Nat}{p:A}{l le:List Value}(p':A)(hs:slotsOk le (M p'))(h:upd (upd l (M p')) (junk Jk (fun s=>le.getD s undef))=le)(hi:I p')(hm:μ p'<μ p)
  (hL:(Lp p').Sublist L:=by repeat(first|exact List.Sublist.refl _|refine List.Sublist.cons_cons _ ?_|refine List.Sublist.cons _ ?_)):J S0 w0 L (Nx l M Jk (fun p w=>Mem S0 w0 (Lp p) w∧I p) μ p (fr le)):=fun w Mm=>C.next p' hs h ⟨Mm.sub hL,hi⟩ hm
@[irreducible] def Cut{A:Type}(l:List Value)(M:A→List (Nat×Value))(Jk:List Nat)(I:A→World→Prop)(a':Act)(w':World):Prop:=∃p' j',a'=fr (upd (upd l (M p')) (junk Jk j'))∧I p' w'
theorem J.cut{A:Type}{M:A→List (Nat×Value)}{Jk:List Nat}{Lp:A→List Ent}{I:A→Prop}{le:List Value}(p':A)(hs:slotsOk le (M p'))(h:upd (upd l (M p')) (junk Jk (fun s=>le.getD s undef))=le)(hi:I p')
  (hL:(Lp p').Sublist L:=by repeat(first|exact List.Sublist.refl _|refine List.Sublist.cons_cons _ ?_|refine List.Sublist.cons _ ?_)):J S0 w0 L (Cut l M Jk (fun p w=>Mem S0 w0 (Lp p) w∧I p) (fr le)):=fun w Mm=>by
 unfold Cut;exact⟨p',_,by rw[h],Mm.sub hL,hi⟩
theorem J.enter{fn:Func}{R:Ending→World→Prop}(u:Nat)(hf:P.funcs[f]? =some fn)(hb:fn.body=some c)(hu:fn.ntmps - av.length=u)(h:J no w0 [] (c.wp P (bodyPost P fn R) (fr l)))(hl:av++List.replicate u undef=l:=by dsimp only[List.reduceReplicate,List.cons_append,List.nil_append]):Calls P f av.toArray w0 R:=
 enterU u hf hb hu (h w0 (Mem.first w0)) hl
end
theorem Pr.mono{S T:Nat→Prop}{w w':World}(h:Pr S w w')(k:∀b,S b→T b):Pr T w w':=⟨h.os,h.tape,h.output,h.size,fun b hb hn=>h.block b hb fun hs=>hn (k b hs)⟩
section
variable{P:Program}{w w':World}
theorem append_at{t ty e:TypeId}{sz by_:Nat}{z:List Value}{a a2:Option Addr}{n c m c2:Nat}{cs ds:List Value}{S:Nat→Prop}(hu:P.underlying t=some (.slice e))(ht:TI P e sz by_ z)(hz:z.length=sz)(hsz:0<sz)
  (hO:Own 0 w e sz a n c cs)(hR:Row S w a2 ds)(hd:ds.length=m*sz)(h1:∀u∈ds,u.oneCell'=true)(hm:0<m)(hb:(n+m)*by_≤140737488355328)(hb':n+m≤140737488355328):
  ∃a' c' w',(Builtin.append_ #[t,t] ty #[.slice a n c, .slice a2 m c2]).run P w= .ok (.slice a' (n+m) c') w'∧Own 0 w' e sz a' (n+m) c' (cs++ds)∧Pr (fun b=>obk a=some b) w w'∧∀b,obk a'=some b→obk a=some b∨w.heap.size≤b:=by
 obtain⟨i,zv,i1,i2,i3,i4,i5⟩:=ht;have hzs:zv.cells.size=sz:=by rw[i5];simpa using hz
 have hlen:0<ds.length:=by rw[hd];exact Nat.mul_pos hm hsz
 obtain⟨b,o,ha,_,_⟩:=hR.at_ 0 hlen;subst ha;subst i2 i3;have h63:n+m≤maxLen:=by simp only[maxLen];omega
 obtain⟨v',w',hr,ho,hg,_⟩:=run_append_own (P:=P) w 0 t ty e i zv i.size i.bytes hu i1 i4 rfl rfl hzs hsz (.slice a n c) n cs hO ⟨b,o,none⟩ m c2 ds hd (hR.news rfl) h1 h63 hb (Nat.zero_le _);obtain⟨a',c',rfl⟩:=Own.form ho;have hp:=grown_pr hg;rw[ownBlock_slice]at hp;refine⟨a',c',w',hr,ho,hp,?_⟩;rcases hO.2 with⟨hv,hn⟩|⟨g,cap,cur,hv,_,hgb,hnc,hcm,hcs,htake⟩
 ·obtain⟨rfl,rfl,rfl⟩:a=none∧n=0∧c=0:=by simpa using hv
  have hr2:=run_append_nil (P:=P) w t ty e i zv hu i1 i4 ⟨b,o,none⟩ m c2 ds hd (hR.news rfl) hm (by simp only[maxLen]at h63;omega) (by rw[Nat.zero_add]at hb;omega);rw[hr]at hr2;injection hr2 with e1 e2;injection e1 with e3;subst e3;intro q hq;right;simp[obk]at hq;omega
 ·obtain⟨rfl,rfl⟩:a=some ⟨g,0,none⟩∧c=cap:=by simpa using hv
  by_cases hroom:n+m≤c
  ·have hfit:n*i.size+ds.length≤cur.size:=by rw[hd,hcs,←Nat.add_mul];exact Nat.mul_le_mul_right _ hroom
   have hr2:=run_append_room (P:=P) w t ty e i hu i1 g n c cur hgb ⟨b,o,none⟩ m c2 ds hd (hR.news rfl) h1 hroom hfit;rw[hr]at hr2;injection hr2 with e1 e2;injection e1 with e3;subst e3;exact fun q hq=> .inl hq
  ·have hr2:=run_append_grow (P:=P) w t ty e i zv hu i1 i4 ⟨g,0,none⟩ n c cs hO.1 (World.ownsRow.cells hO (g:=g) rfl) ⟨b,o,none⟩ m c2 ds hd (hR.news rfl) (by omega) (by simp only[maxLen]at h63;omega) (growslice_fits (by omega) hb);rw[hr]at hr2;injection hr2 with e1 e2;injection e1 with e3;subst e3;intro q hq;right;simp[obk]at hq;omega
end
section
variable{S0:Nat→Prop}{w0:World}{L L':List Ent}{P:Program}{ops:Array Oper}{l:List Value}{d:Tmp}{ty:TypeId}{pos:String}{af:Array Edge}{x y:Operand}{t e:TypeId}{sz by_:Nat}{z:List Value}{a a2:Option Addr}{n c m c2:Nat}{cs ds:List Value}{K':List Value→World→Prop}
theorem app_core{w:World}(M:Mem S0 w0 L w){E:Ent}{E':Option Addr→Nat→Ent}{F:Option Addr→Nat→List Ent}(R:∀a' c',Rpl L E (E' a' c') (F a' c'))(hE:∀S,E.ok S w→Own 0 w e sz a n c cs∧∀b,obk a=some b→S b)
  (hx:ev l x= .slice a n c)(hy:ev l y= .slice a2 m c2)(hu:P.underlying t=some (.slice e))(ht:TI P e sz by_ z)(hz:z.length=sz)(hsz:0<sz)(hR:∃S,Row S w a2 ds)(hd:ds.length=m*sz)(h1:∀u∈ds,u.oneCell'=true)(hb:(n+m)*by_≤140737488355328)(hb':n+m≤140737488355328)
  (hE':∀a' c' w',Own 0 w' e sz a' (n+m) c' (cs++ds)→(E' a' c').ok (fun b=>obk a'=some b) w')
  (k:∀a' c' w',Mem S0 w0 (F a' c') w'→K' (l.set d (.slice a' (n+m) c')) w'):
  RS P ops K' [⟨some d, .call {callee:= .builtin .append,args:= #[x,y],argTypes:= #[t,t]},ty,pos,af,none⟩] l w:=by
 have hrun:∀v w',(Builtin.append_ #[t,t] ty #[.slice a n c, .slice a2 m c2]).run P w= .ok v w'→(execOp (ev l) ⟨some d, .call {callee:= .builtin .append,args:= #[x,y],argTypes:= #[t,t]},ty,pos,af,none⟩).run P w= .ok (.value v) w':=by
  intro v w' h;simp[execOp,resolve,hx,hy,invoke,builtin,h]
 obtain⟨S1,_,q1,_⟩:=M.foc (R a c);obtain⟨hO,_⟩:=hE S1 q1;obtain⟨S,hR⟩:=hR;by_cases hm:m=0
 ·subst hm;obtain rfl:ds=[]:=List.length_eq_zero_iff.1 (by omega);have hcs:P.cellsOf e=sz:=by obtain⟨i,_,i1,i2,_⟩:=ht;simp[Program.cellsOf,i1,i2]
  have:=append_zero_run (P:=P) (w:=w) (ty:=ty) (a:=a) (a2:=a2) (c2:=c2) hu hcs (by omega) hO.cap.1;refine RS.o (hrun _ _ this) (RS.nil (k a c w ?_)) rfl;obtain⟨S2,_,p2,p3⟩:=M.foc (R a c);exact p3 w _ (Pr.refl _ _) (hE' a c w (by simpa using hO)) fun b hb=> .inl ((hE S2 p2).2 b hb)
 ·obtain⟨a',c',w',hr,ho,hp,hat⟩:=append_at (P:=P) (ty:=ty) (c2:=c2) hu ht hz hsz hO hR hd h1 (by omega) hb hb';refine RS.o (hrun _ _ hr) (RS.nil (k a' c' w' ?_)) rfl;obtain⟨S2,_,p2,p3⟩:=M.foc (R a' c');have h2:=(hE S2 p2).2;exact p3 w' _ (hp.mono h2) (hE' a' c' w' ho) fun b hb=>(hat b hb).imp_left (h2 b)
end
/-! numbers that are owned -/
class RO(L:List Ent)(a:Option Addr)(e:outParam TypeId)(k:outParam IntKind)(n c:outParam Nat)(xs:outParam (List Int))(F:outParam (Option Addr→Nat→Nat→List Int→List Ent)):Prop where h:∀a' n' c' xs',Rpl L (.iown e k a n c xs) (.iown e k a' n' c' xs') (F a' n' c' xs')
section
variable{L:List Ent}{a:Option Addr}{e:TypeId}{k:IntKind}{n c:Nat}{xs:List Int}{x:Ent}{F:Option Addr→Nat→Nat→List Int→List Ent}
instance RO.here:RO (.iown e k a n c xs::L) a e k n c xs (fun a' n' c' xs'=> .iown e k a' n' c' xs'::L):=⟨fun _ _ _ _=> .here⟩
instance(priority:=low) RO.there[R:RO L a e k n c xs F]:RO (x::L) a e k n c xs (fun a' n' c' xs'=>x::F a' n' c' xs'):=⟨fun a' n' c' xs'=> .there (R.h a' n' c' xs')⟩
end
/-! a part of a list -/
class RE(L:List Ent)(e:Ent)(F:outParam (Ent→List Ent)):Prop where h:∀e',Rpl L e e' (F e')
instance RE.here{L:List Ent}{e:Ent}:RE (e::L) e (fun e'=>e'::L):=⟨fun _=> .here⟩
instance(priority:=low) RE.there{L:List Ent}{e x:Ent}{F:Ent→List Ent}[R:RE L e F]:RE (x::L) e (fun e'=>x::F e'):=⟨fun e'=> .there (R.h e')⟩
section
variable{S0:Nat→Prop}{w0 w:World}{L L' E:List Ent}{P:Program}{l0:List Oper}{ops:Array Oper}{K:List Value→World→Prop}{rest:List (Oper×Kd)}{l l':List Value}{m:Md}{d:Tmp}{op:Op}{ty:TypeId}{pos:String}{af:Array Edge}{kd:Kd}{v:Value}{x y z:Operand}{t xt yt e T:TypeId}{b o n c n2 c2 sz by_:Nat}{cs cs' vs zs:List Value}{X:World→Prop}
 {k ki:IntKind}{a a2:Option Addr}{xs ys:List Int}{i q:Int}{α:Type}{f:α→List Value}{lst:List α}{e1 e2:Ent}
theorem RI.own'{F:Option Addr→Nat→Nat→List Int→List Ent}[R:RO L a e k n c xs F]:RI S0 w0 L k a n xs:= .own (R.h a n c xs).same
theorem J.re{F:Ent→List Ent}(e1 e2:Ent)[R:RE L e1 F](h:∀S w,e1.ok S w→e2.ok S w)(k:J S0 w0 (F e2) X):J S0 w0 L X:=fun w M=>by
 obtain⟨S,h1,h2,h3⟩:=M.foc (R.h e2);exact k w (h3 w S (Pr.refl _ _) (h S w h2) fun _ hb=> .inl hb)
theorem J.add0(e1:Ent)(h:∀w,e1.ok no w)(k:J S0 w0 (e1::L) X):J S0 w0 L X:=fun w M=>k w (M.new (Ext.refl w) (e1.mono (h w) fun _ _ hb=>hb.elim))
theorem own_blk(h:(Ent.blk b (ints k xs) e).ok S0 w)(hn:xs.length=n)(hd:Bd k xs)(hm:n≤9223372036854775807):(Ent.iown e k (some ⟨b,0,none⟩) n n xs).ok S0 w:=⟨IOwn.of_blk h.2 rfl hn (Nat.zero_le _) hd hm,fun q hq=>by simp[obk]at hq;subst hq;exact h.1⟩
theorem J.b1[U:Und P t (.slice e)][I:Inf P e 1 by_ zs]{l':Nat→List Value}(hk:okE m kd=true)(hx:ev l x= .int k q)(kk:∀b,J S0 w0 (.iown e k (some ⟨b,0,none⟩) 1 1 [q]::L) (RY S0 w0 m P ops K rest (l' b)))
  (hq:0≤q∧q<lim k:=by simp only[lim];omega)(hl:∀b,l.set d (.slice (some ⟨b,0,none⟩) 1 1)=l' b:=by intro b;dsimp only[List.set]):J S0 w0 L (RY S0 w0 m P ops K ((⟨some d, .buildSlice t 1 #[(0,x)],ty,pos,af,none⟩,kd)::rest) l):=
 J.eff hk fun w M K' hK => RS.buildSlice (xs := [x]) (vs := [.int k q]) (cs := [.int k q]) U.h I.h (by decide) rfl rfl rfl (by simp [hx]) rfl rfl (by intro v hv; simp only [List.mem_cons, List.not_mem_nil, or_false] at hv; subst hv; rfl) rfl fun b w' e1 s1 x1 B => RS.nil (hK _ w' x1 (by
  rw [hl]
  exact kk b w' (M.new x1 (own_blk (xs := [q]) ⟨by subst e1; exact Nat.le_refl _, B⟩ rfl (.cons hq (.nil _)) (by decide)))))
theorem J.apI{F:Option Addr→Nat→Nat→List Int→List Ent}{l':Option Addr→Nat→List Value}[U:Und P t (.slice e)][I:Inf P e 1 by_ zs](hx:ev l x= .slice a n c)(hy:ev l y= .slice a2 n2 c2)[R:RO L a e k n c xs F](hR:RI S0 w0 L k a2 n2 ys)
  (kk:∀a' c',J S0 w0 (F a' (n+n2) c' (xs++ys)) (RY S0 w0 m P ops K rest (l' a' c')))(hby:by_≤8:=by decide)(hb:n+n2≤17592186044416:=by omega)(hz:zs.length=1:=by rfl)(hl:∀a' c',l.set d (.slice a' (n+n2) c')=l' a' c':=by intro a' c';dsimp only[List.set])(hk:∀a' c',okG m kd (F a' (n+n2) c' (xs++ys)):=by first|exact fun _ _=>trivial|(intro _ _;repeat(first|exact List.Sublist.refl _|refine List.Sublist.cons_cons _ ?_|refine List.Sublist.cons _ ?_))):
  J S0 w0 L (RY S0 w0 m P ops K ((⟨some d, .call {callee:= .builtin .append,args:= #[x,y],argTypes:= #[t,t]},ty,pos,af,none⟩,kd)::rest) l):=
 J.bigs (ι:=Option Addr×Nat) (Ls:=fun i=>F i.1 (n+n2) i.2 (xs++ys)) (none,0) (fun i=>hk i.1 i.2) fun w M K' hK=>by
  obtain⟨S,hr⟩:=hR w M;have h8:(n+n2)*by_≤(n+n2)*8:=Nat.mul_le_mul_left _ hby;obtain⟨S1,_,q1⟩:=M.get (R.h a n c xs).same;refine app_core (cs:=ints k xs) (ds:=ints k ys) M (fun a' c'=>R.h a' (n+n2) c' (xs++ys)) (fun S h=>⟨h.1.own,h.2⟩) hx hy U.h I.h hz (by decide) ⟨S,hr.row⟩ (by rw[ints_length,hr.len,Nat.mul_one]) (ints_one _ _) (by omega) (by omega) (fun a' c' w' ho=>⟨⟨by rw[ints_append];exact ho,q1.1.bd.append hr.bd⟩,fun _ hb=>hb⟩) fun a' c' w' M'=>hK _ w' (a',c') M' ?_;rw[hl];exact kk a' c' w' M'
theorem J.stI{F:Option Addr→Nat→Nat→List Int→List Ent}[Z:Siz P xt 1](hx:ev l x=pt a (i.toNat*1))(hy:ev l y= .int k q)[R:RO L a e k n c xs F](kk:J S0 w0 (F a n c (xs.set i.toNat q)) (RY S0 w0 m P ops K rest l))(hi:0≤i∧i<n:=by omega)(hq:0≤q∧q<lim k:=by simp only[lim];omega)(hk:okG m kd (F a n c (xs.set i.toNat q)):=by first|exact trivial|(repeat(first|exact List.Sublist.refl _|refine List.Sublist.cons_cons _ ?_|refine List.Sublist.cons _ ?_))):
  J S0 w0 L (RY S0 w0 m P ops K ((⟨none, .store xt x y,ty,pos,af,none⟩,kd)::rest) l):=
 J.big hk fun w M K' hK=>by
  obtain⟨S,h1,h2,h3⟩:=M.foc (R.h a n c (xs.set i.toNat q));obtain⟨g,hg⟩:=h2.1.some (by omega);subst hg;refine RS.storeI h2.1 (by rw[hx];rfl) hy Z.h hi hq fun w' x1 N=>have M':=h3 w' S ⟨x1.os,x1.tape,x1.output,by rw[x1.size];exact Nat.le_refl _,fun b _ hb=>x1.block b fun e=>hb (e▸h2.2 g rfl)⟩ ⟨N,h2.2⟩ fun _ hb=> .inl hb;RS.nil (hK _ w' M' (kk w' M'))
end
end G
namespace G
open Go.RowKit
def Ent.gown{α:Type}(f:α→List Value)(sz:Nat)(e:TypeId)(a:Option Addr)(n c:Nat)(lst:List α):Ent:=
 ⟨fun S w=>GOwn f sz 0 w e a n c lst∧∀b,obk a=some b→S b,fun h x=>⟨⟨h.1.own.step fun b hb=>x b (h.2 b hb),h.1.szf,h.1.len⟩,h.2⟩,fun h x=>⟨h.1,fun b hb=>x b (h.1.own.lo b hb).2 (h.2 b hb)⟩⟩
class GO{α:outParam Type}(L:List Ent)(a:Option Addr)(f:outParam (α→List Value))(sz:outParam Nat)(e:outParam TypeId)(n c:outParam Nat)(lst:outParam (List α))(F:outParam (Option Addr→Nat→Nat→List α→List Ent)):Prop where
 h:∀a' n' c' lst',Rpl L (.gown f sz e a n c lst) (.gown f sz e a' n' c' lst') (F a' n' c' lst')
section
variable{α:Type}{L:List Ent}{a:Option Addr}{f:α→List Value}{sz:Nat}{e:TypeId}{n c:Nat}{lst:List α}{x:Ent}{F:Option Addr→Nat→Nat→List α→List Ent}
instance GO.here:GO (.gown f sz e a n c lst::L) a f sz e n c lst (fun a' n' c' lst'=> .gown f sz e a' n' c' lst'::L):=⟨fun _ _ _ _=> .here⟩
instance(priority:=low) GO.there[R:GO L a f sz e n c lst F]:GO (x::L) a f sz e n c lst (fun a' n' c' lst'=>x::F a' n' c' lst'):=⟨fun a' n' c' lst'=> .there (R.h a' n' c' lst')⟩
end
/-! rows that are read, by their address -/
class RRW(L:List Ent)(a:Option Addr)(k:outParam IntKind)(sz n:outParam Nat)(xs:outParam (List Int)):Prop where h:Rpl L (.wrow k sz a n xs) (.wrow k sz a n xs) L
instance RRW.here{L:List Ent}{a:Option Addr}{k:IntKind}{sz n:Nat}{xs:List Int}:RRW (.wrow k sz a n xs::L) a k sz n xs:=⟨.here⟩
instance(priority:=low) RRW.there{L:List Ent}{a:Option Addr}{k:IntKind}{sz n:Nat}{xs:List Int}{x:Ent}[R:RRW L a k sz n xs]:RRW (x::L) a k sz n xs:=⟨.there R.h⟩
/-! cells of single values -/
@[reducible] def pcC(q:Pc):List Value:=[.slice q.a q.n q.c]
section
variable{S0:Nat→Prop}{w0 w:World}{L L' E:List Ent}{P:Program}{l0:List Oper}{ops:Array Oper}{K:List Value→World→Prop}{rest:List (Oper×Kd)}{l l':List Value}{m:Md}{d:Tmp}{op:Op}{ty:TypeId}{pos:String}{af:Array Edge}{kd:Kd}{v:Value}{x y z:Operand}{t xt yt e T:TypeId}{b o n c n2 c2 sz by_:Nat}{cs cs' vs zs:List Value}{X:World→Prop}
 {k ki:IntKind}{a a2:Option Addr}{xs ys:List Int}{i:Int}{α:Type}{f:α→List Value}{lst lst2:List α}{q:α}{F:Option Addr→Nat→Nat→List α→List Ent}
theorem RW.row'[R:RRW L a k sz n xs]:RW S0 w0 L k sz a n xs:= .row R.h
theorem RG.own'[R:GO L a f sz e n c lst F]:RG S0 w0 L f sz a n lst:=fun w M=>let ⟨S,_,h⟩:=M.get (R.h a n c lst).same;⟨_,h.1.row⟩
theorem gown_blk(h:(Ent.blk b cs e).ok S0 w)(hf:∀x,(f x).length=sz)(hc:cs=lst.flatMap f)(hn:lst.length=n)(hm:n≤9223372036854775807):(Ent.gown f sz e (some ⟨b,0,none⟩) n n lst).ok S0 w:=⟨GOwn.of_blk h.2 hf hc hn (Nat.zero_le _) hm,fun q hq=>by simp[obk]at hq;subst hq;exact h.1⟩
theorem J.nilG(f:α→List Value)(sz:Nat)(e:TypeId)(hf:∀x,(f x).length=sz)(kk:J S0 w0 (.gown f sz e none 0 0 []::L) X):J S0 w0 L X:=J.add0 (.gown f sz e none 0 0 []) (fun w=>⟨GOwn.nil 0 w e hf,fun b hb=>by cases hb⟩) kk
/-! wide elements that are owned -/
theorem J.apG{l':Option Addr→Nat→List Value}[U:Und P t (.slice e)][I:Inf P e sz by_ zs](hx:ev l x= .slice a n c)(hy:ev l y= .slice a2 n2 c2)[R:GO L a f sz e n c lst F](hR:RG S0 w0 L f sz a2 n2 lst2)(h1:∀x,∀u∈f x,u.oneCell'=true)
  (kk:∀a' c',J S0 w0 (F a' (n+n2) c' (lst++lst2)) (RY S0 w0 m P ops K rest (l' a' c')))(hsz:0<sz:=by decide)(hby:by_≤1000:=by decide)(hb:n+n2≤100000000:=by omega)(hz:zs.length=sz:=by first|rfl|simp[ints])(hl:∀a' c',l.set d (.slice a' (n+n2) c')=l' a' c':=by intro a' c';dsimp only[List.set])(hk:∀a' c',okG m kd (F a' (n+n2) c' (lst++lst2)):=by first|exact fun _ _=>trivial|(intro _ _;repeat(first|exact List.Sublist.refl _|refine List.Sublist.cons_cons _ ?_|refine List.Sublist.cons _ ?_))):
  J S0 w0 L (RY S0 w0 m P ops K ((⟨some d, .call {callee:= .builtin .append,args:= #[x,y],argTypes:= #[t,t]},ty,pos,af,none⟩,kd)::rest) l):=
 J.bigs (ι:=Option Addr×Nat) (Ls:=fun i=>F i.1 (n+n2) i.2 (lst++lst2)) (none,0) (fun i=>hk i.1 i.2) fun w M K' hK=>by
  obtain⟨S,hr⟩:=hR w M;have h8:(n+n2)*by_≤(n+n2)*1000:=Nat.mul_le_mul_left _ hby;obtain⟨S1,_,q1⟩:=M.get (R.h a n c lst).same;refine app_core (cs:=lst.flatMap f) (ds:=lst2.flatMap f) M (fun a' c'=>R.h a' (n+n2) c' (lst++lst2)) (fun S h=>⟨h.1.own,h.2⟩) hx hy U.h I.h hz hsz ⟨S,hr.row⟩ (by rw[flat_len f sz hr.szf,hr.len,Nat.mul_comm]) (fun u hu=>by obtain⟨x,_,hx⟩:=List.mem_flatMap.1 hu;exact h1 x u hx) (by omega) (by omega)
   (fun a' c' w' ho=>⟨⟨by rw[List.flatMap_append];exact ho,q1.1.szf,by rw[List.length_append,q1.1.len,hr.len]⟩,fun _ hb=>hb⟩) fun a' c' w' M'=>hK _ w' (a',c') M' ?_
  rw[hl];exact kk a' c' w' M'
theorem J.ldG1[U:Sca P xt](hx:ev l x=pt a (i.toNat*1))(hR:RG S0 w0 (Lv m L) f 1 a n lst)(kk:J S0 w0 L (RY S0 w0 m P ops K rest l')){q:α}(hq:lst[i.toNat]? =some q:=by assumption)(hf:f q=[v]:=by rfl)(hi:0≤i∧i<n:=by omega)(hl:l.set d v=l':=by dsimp only[List.set]):
  J S0 w0 L (RY S0 w0 m P ops K ((⟨some d, .load xt x,ty,pos,af,none⟩, .q)::rest) l):=
 J.val (fun w M => by
  obtain ⟨S, h⟩ := hR w M
  obtain ⟨b, o', ha, _, hc⟩ := h.get (by decide) hq hi
  have : w.cell? ⟨b, o' + i.toNat * 1, Option.none⟩ = Option.some v := by have := hc 0 (by rw [hf]; exact Nat.zero_lt_one); rw [hf] at this; exact this
  obtain ⟨_, u1, u2⟩ := U.h
  exact D.load (by rw [hx, pt_some ha]) u1 u2 this) kk hl
end
end G
namespace G
open Go.RowKit
def Ent.emp:Ent:=⟨fun _ _=>True,fun _ _=>trivial,fun _ _=>trivial⟩
def Ent.all(E:List Ent):Ent:=⟨Sep E,Sep.step,Sep.mono⟩
section
variable{S0:Nat→Prop}{w0 w:World}{L L1 L2 E:List Ent}{e e1 e2 e3:Ent}{X:World→Prop}
theorem Mem.split(M:Mem S0 w0 L w)(r:Rpl L e e1 L1)(h:∀S,e.ok S w→∃S1 S2:Nat→Prop,(∀b,S1 b→S b)∧(∀b,S2 b→S b)∧(∀b,S1 b→S2 b→False)∧e1.ok S1 w∧e2.ok S2 w):Mem S0 w0 (e2::L1) w:=by
 obtain⟨S,T,h1,h2,h3,h4,h5⟩:=r.foc M.sep;obtain⟨S1,S2,g1,g2,g3,g4,g5⟩:=h S h4
 exact ⟨M.pr, S2, fun b => S1 b ∨ T b, fun b hb => h1 b (g2 b hb), fun b hb => hb.elim (fun k => h1 b (g1 b k)) (h2 b), fun b hb hc => hc.elim (fun k => g3 b k hb) (fun k => h3 b (g2 b hb) k), g5,
  h5 (fun b hb => .inl hb) (fun b hb => .inr hb) (fun b hb hc => h3 b (g1 b hb) hc) (fun _ _ _ => rfl) g4⟩
theorem Mem.merge(M:Mem S0 w0 L w)(r1:Rpl L e1 .emp L1)(r2:Rpl L1 e2 e3 L2)(h:∀S1 S2:Nat→Prop,(∀b,S1 b→S2 b→False)→e1.ok S1 w→e2.ok S2 w→e3.ok (fun b=>S1 b∨S2 b) w):Mem S0 w0 L2 w:=by
 obtain⟨S,T,h1,h2,h3,h4,h5⟩:=r1.foc M.sep;have hs:Sep L1 T w:=h5 (U':=T) (S':=no) (fun b hb=>hb.elim) (fun b hb=>hb) (fun b hb=>hb.elim) (fun _ _ _=>rfl) trivial;obtain⟨S2,T2,g1,g2,g3,g4,g5⟩:=r2.foc hs;exact⟨M.pr,g5 (fun b hb=>hb.elim (h1 b) (fun k=>h2 b (g1 b k))) (fun b hb=>h2 b (g2 b hb)) (fun b hb hc=>hb.elim (fun k=>h3 b k (g2 b hc)) (fun k=>g3 b k hc)) (fun _ _ _=>rfl) (h S S2 (fun b hb hc=>h3 b hb (g1 b hc)) h4 g4)⟩
theorem J.merge{F1 F2:Ent→List Ent}(e1 e2 e3:Ent)[R:RE L e1 F1][R2:RE (F1 .emp) e2 F2](h:∀(S1 S2:Nat→Prop) w,(∀b,S1 b→S2 b→False)→e1.ok S1 w→e2.ok S2 w→e3.ok (fun b=>S1 b∨S2 b) w)(k:J S0 w0 (F2 e3) X):J S0 w0 L X:=
 fun w M=>k w (M.merge (R.h .emp) (R2.h e3) fun S1 S2=>h S1 S2 w)
theorem J.fact{p:Prop}{F:Ent→List Ent}(e:Ent)[R:RE L e F](h:∀S w,e.ok S w→p)(k:p→J S0 w0 L X):J S0 w0 L X:=fun w M=>by
 obtain⟨S,_,h2⟩:=M.get (R.h e).same;exact k (h S w h2) w M
/-! one of many -/
theorem sep_open:∀ {E:List Ent} {i:Nat} {S:Nat→Prop},E[i]? =some e→Sep E S w→∃S1 S2:Nat→Prop,(∀b,S1 b→S b)∧(∀b,S2 b→S b)∧(∀b,S1 b→S2 b→False)∧Sep (E.eraseIdx i) S1 w∧e.ok S2 w
 |[],_,_,h,_=>by simp at h
 |x::E,0,S,h,⟨A,B,h1,h2,h3,h4,h5⟩=>by
  obtain rfl:x=e:=by simpa using h
  exact⟨B,A,h2,h1,fun b hb hc=>h3 b hc hb,h5,h4⟩
 |x::E,i+1,S,h,⟨A,B,h1,h2,h3,h4,h5⟩=>by
  obtain⟨S1,S2,g1,g2,g3,g4,g5⟩:=sep_open (E:=E) (i:=i) (by simpa using h) h5;exact⟨fun b=>A b∨S1 b,S2,fun b hb=>hb.elim (h1 b) (fun k=>h2 b (g1 b k)),fun b hb=>h2 b (g2 b hb),fun b hb hc=>hb.elim (fun k=>h3 b k (g2 b hc)) (fun k=>g3 b k hc),⟨A,S1,fun b hb=> .inl hb,fun b hb=> .inr hb,fun b hb hc=>h3 b hb (g1 b hc),h4,g4⟩,g5⟩
theorem J.newA(E:List Ent)(k:J S0 w0 (.all E::L) X)(h:∀w,Sep E no w):J S0 w0 L X:=J.add0 (.all E) h k
end
def pcE(e:TypeId)(k:IntKind)(q:Pc):Ent:= .iown e k q.a q.n q.c q.xs
theorem sep_at{e:Ent}{w:World}:∀ {E:List Ent} {i:Nat} {S:Nat→Prop},E[i]? =some e→Sep E S w→∃S',e.ok S' w:=fun h hs=>let ⟨_,S2,_,_,_,_,h5⟩:=sep_open h hs;⟨S2,h5⟩
theorem RI.all{S0:Nat→Prop}{w0:World}{L:List Ent}{e:TypeId}{k:IntKind}{qs:List Pc}{q:Pc}{i:Nat}{F:Ent→List Ent}[R:RE L (.all (qs.map (pcE e k))) F](hq:qs[i]? =some q):RI S0 w0 L k q.a q.n q.xs:=fun w M=>by
 obtain⟨S,_,h2⟩:=M.get (R.h (.all (qs.map (pcE e k)))).same;obtain⟨S',h3⟩:=sep_at (i:=i) (e:=pcE e k q) (by rw[List.getElem?_map,hq];rfl) h2;exact⟨_,h3.1.row⟩
/-! records with rows inside -/
section
variable{S0:Nat→Prop}{w0 w:World}{L:List Ent}{X:World→Prop}{α:Type}{g:α→List Inn}{l1 l2:List α}
theorem iown_bd{e:TypeId}{k:IntKind}{a:Option Addr}{n c:Nat}{xs:List Int}{S:Nat→Prop}(h:(Ent.iown e k a n c xs).ok S w):Bd k xs:=h.1.bd
theorem iown_len{e:TypeId}{k:IntKind}{a:Option Addr}{n c:Nat}{xs:List Int}{S:Nat→Prop}(h:(Ent.iown e k a n c xs).ok S w):xs.length=n∧n≤c:=⟨h.1.len,h.1.own.cap.1⟩
theorem iown_irow{e:TypeId}{k:IntKind}{a:Option Addr}{n c:Nat}{xs:List Int}{S:Nat→Prop}(h:(Ent.iown e k a n c xs).ok S w):(Ent.irow k a n xs).ok S w:=⟨h.1.rowO.row.weaken fun b _ hb=>h.2 b hb,h.1.len,h.1.bd⟩
end
end G
namespace S
open G
theorem fine4{k:Int}{key:ByteArray}{vk num bits:Int}{t:ByteArray}(h:FineAct k key vk num bits t)(h4:k=4):FineV vk num bits t:=by
 rcases h with⟨h1,_⟩|⟨h1,_⟩|⟨_,_,h1⟩
 ·omega
 ·omega
 ·exact h1
theorem jdO_ok{b:List Int}(hB:Bd .u8 b):(jdO b).ok∧(jdO b).ids.length=32*(jdO b).n:=by
 unfold jdO;split
 ·exact decO_ok hB
 ·exact⟨OpV.zero_ok,rfl⟩
theorem enc_400{o:OpV}(hl:o.ids.length=32*o.n)(hc:checkE o=0):(encS o).length≤400:=by
 obtain⟨c1,_,c3⟩:=check_zero.1 hc;have h1:=numS_len o.au;have h2:=numS_len (o.n:Int);have h3:=numS_len o.st;have h4:=numS_len (o.key.size:Int);have h5:=numS_len o.e;have h6:=numS_len o.s;have h7:=numS_len (zig o.num);have h8:=numS_len (o.t.size:Int);have hk:o.key.size≤20∧o.t.size≤30:=by
  rcases c3.2.2.2.2 with⟨_,e1,_,_,_,e2⟩|⟨_,hK,_,_,_,e2⟩|⟨_,hK,hV⟩
  ·rw[e1,e2];exact⟨by decide,by decide⟩
  ·rw[e2];exact⟨hK.2.1,by decide⟩
  ·refine⟨hK.2.1,?_⟩;rcases hV with⟨_,_,e2⟩|⟨_,_,e2,_⟩|⟨_,_,_,e2,_⟩
   ·rw[e2];decide
   ·rw[e2];decide
   ·exact e2
 unfold encS msgS listS valS
 repeat' split
 all_goals simp[bys_len,be8_len]
 all_goals omega
theorem jd_enc{o:OpV}(ho:o.rng)(hl:o.ids.length=32*o.n)(hc:checkE o=0):jdV (encS o)=(if verE o=0 then 0 else 4)∧(verE o=0→jdO (encS o)=o∧jdI (encS o)=sha (encS o)):=by
 obtain⟨d1,d2⟩:=dec_back ho hl hc;have h4:=enc_400 hl hc;by_cases hv:verE o=0
 ·rw[if_pos hv];have hf:=jd_fine (b:=encS o) (by omega) d2 (by rw[d1];exact hv);obtain⟨e1,e2⟩:=jd_zero hf;rw[d1]at e1 e2;exact⟨hf,fun _=>⟨e1,e2⟩⟩
 ·rw[if_neg hv];exact⟨jd_sig (by omega) d2 (by rw[d1];exact hv),fun h=>absurd h hv⟩
end S
namespace S
theorem getD_mem{l:List Nat}{d:Nat}(h:d<l.length):l.getD d 0∈l:=by
 rw[List.getD_eq_getElem?_getD,List.getElem?_eq_getElem h];exact List.getElem_mem h
end S
namespace S
open G
theorem cmpS_trans:∀ {a b c:List Int},cmpS a b<0→cmpS b c<0→cmpS a c<0
 |[],[],_,h,_=>by simp[cmpS]at h
 |[],_::_,[],_,h=>by simp[cmpS]at h
 |[],_::_,_::_,_,_=>by simp[cmpS]
 |_::_,[],_,h,_=>by simp[cmpS]at h
 |_::_,_::_,[],_,h=>by simp[cmpS]at h
 |x::xs,y::ys,z::zs,h1,h2=>by
  have ih:= @cmpS_trans xs ys zs;simp only[cmpS]at h1 h2⊢;by_cases a1:x<y<;>by_cases a2:y<x<;>by_cases b1:y<z<;>by_cases b2:z<y<;>simp only[a1,a2,b1,b2,if_true,if_false]at h1 h2
  all_goals first|omega|(rw[if_pos (by omega)];decide)|(rw[if_neg (by omega),if_neg (by omega)];exact ih h1 h2)
theorem rising_lt{m:Nat}{ids:List Int}(h:Rising m ids)(i:Nat):∀j,i<j→j<m→cmpS (idAt ids i) (idAt ids j)<0
 |0,hi,_=>by omega
 |j+1,hi,hj=>by
  have h1:=h j (by omega);by_cases e:i=j
  ·subst e;exact h1
  ·exact cmpS_trans (rising_lt h i j (by omega) (by omega)) h1
theorem cmpS_self(a:List Int):cmpS a a=0:=(cmpS_eq a a).2 rfl
theorem rising_inj{m:Nat}{ids:List Int}(h:Rising m ids){i j:Nat}(hi:i<m)(hj:j<m)(e:idAt ids i=idAt ids j):i=j:=by
 rcases Nat.lt_trichotomy i j with h1|h1|h1
 ·have:=rising_lt h i j h1 hj;rw[e,cmpS_self]at this;omega
 ·exact h1
 ·have:=rising_lt h j i h1 hi;rw[e,cmpS_self]at this;omega
def inS(m:Nat)(ids x:List Int):Prop:=∃i,i<m∧idAt ids i=x
def ixS(m:Nat)(ids x:List Int):Nat:=((List.range m).find? fun i=>decide (idAt ids i=x)).getD 0
theorem ix_in{m:Nat}{ids x:List Int}(h:inS m ids x):ixS m ids x<m∧idAt ids (ixS m ids x)=x:=by
 obtain⟨i,hi,e⟩:=h;unfold ixS;cases hf:(List.range m).find? fun i=>decide (idAt ids i=x)with
 |none=>rw[List.find?_eq_none]at hf;exact absurd (decide_eq_true e) (hf i (List.mem_range.2 hi))
 |some j=>
  have h1:=List.find?_some hf;exact⟨List.mem_range.1 (List.mem_of_find?_eq_some hf),of_decide_eq_true h1⟩
theorem ix_eq{m:Nat}{ids:List Int}(h:Rising m ids){i:Nat}(hi:i<m):ixS m ids (idAt ids i)=i:=by
 have:=ix_in (m:=m) (ids:=ids) (x:=idAt ids i) ⟨i,hi,rfl⟩;exact rising_inj h this.1 hi this.2
def allI(m:Nat)(ids:List Int)(n:Nat)(ps:List Int):Prop:=∀j,j<n→inS m ids (idAt ps j)
def prS(m:Nat)(ids:List Int)(ops:List OpV)(i:Nat):List Nat:=(List.range (ops.getD i OpV.zero).n).map fun j=>ixS m ids (idAt (ops.getD i OpV.zero).ids j)
end S
namespace S
open G
def kc(a b:ByteArray):Int:=cmpS (bys a) (bys b)
structure RgV where
 (key:ByteArray)(vk num bits:Int)(t:ByteArray)(st:Int)(id:List Int)(h32:id.length=32)
def RgV.zero:RgV:=⟨.empty,0,0,0, .empty,0,List.replicate 32 0,rfl⟩
@[reducible] def rg(l:List RgV)(i:Nat):RgV:=l.getD i RgV.zero
theorem rg_some{l:List RgV}{i:Nat}{x:RgV}(h:l[i]? =some x):rg l i=x:=by unfold rg;rw[List.getD_eq_getElem?_getD,h];rfl
def SortK(l:List RgV):Prop:=l.Pairwise fun a b=>kc a.key b.key<0
theorem SortK.lt{l:List RgV}(h:SortK l){i j:Nat}(hij:i<j)(hj:j<l.length):kc (rg l i).key (rg l j).key<0:=by
 have:=List.pairwise_iff_getElem.1 h i j (by omega) hj hij;rw[rg_some (List.getElem?_eq_getElem (by omega:i<l.length)),rg_some (List.getElem?_eq_getElem hj)];exact this
/-! places -/
def cK(l:List RgV)(k:ByteArray)(i:Nat):Int:=kc (rg l i).key k
end S
namespace G
open Go.RowKit
section
end
/-! parts of rows -/
section
end
section
variable{S0:Nat→Prop}{w0 w:World}{L L' E:List Ent}{P:Program}{l0:List Oper}{ops:Array Oper}{K:List Value→World→Prop}{rest:List (Oper×Kd)}{l l':List Value}{m:Md}{d:Tmp}{op:Op}{ty:TypeId}{pos:String}{af:Array Edge}{kd:Kd}{v:Value}{x y z:Operand}{t t2 ti xt yt e T T2:TypeId}{b b2 o n c n2 c2 sz by_:Nat}{cs cs' vs ws zs:List Value}{X:World→Prop}
 {k ki kn:IntKind}{a a2:Option Addr}{xs ys:List Int}{i:Int}{α:Type}{f:α→List Value}{lst lst2:List α}{q:α}{s u:ByteArray}
theorem J.eqR{sz:Nat}{p:Prop}[Decidable p][U:Agg P xt sz](hk:pureK kd=true)(hx:ev l x= .agg vs.toArray)(hy:ev l y= .agg ws.toArray)(fx:FitsT P 9 xt vs=true)(fy:FitsT P 9 xt ws=true)(he:eqC vs ws=decide p)(kk:J S0 w0 L (RY S0 w0 m P ops K rest l'))(hg:P.eqGuardType P.depth xt=false:=by kernel_rfl)(hl:l.set d (.bool (decide p))=l':=by dsimp only[List.set]):J S0 w0 L (RY S0 w0 m P ops K ((⟨some d, .binOp .eql xt x y yt,ty,pos,af,none⟩,kd)::rest) l):=
 let ⟨_,u1,u2,_⟩:=U.h
 J.pur hk (fun _=>by rw[←he];exact D.eqA hx hy u1 u2 hg fx fy) kk hl
theorem J.neR{sz:Nat}{p:Prop}[Decidable p][U:Agg P xt sz](hk:pureK kd=true)(hx:ev l x= .agg vs.toArray)(hy:ev l y= .agg ws.toArray)(fx:FitsT P 9 xt vs=true)(fy:FitsT P 9 xt ws=true)(he:eqC vs ws=decide p)(kk:J S0 w0 L (RY S0 w0 m P ops K rest l'))(hg:P.eqGuardType P.depth xt=false:=by kernel_rfl)(hl:l.set d (.bool (decide ¬p))=l':=by dsimp only[List.set]):J S0 w0 L (RY S0 w0 m P ops K ((⟨some d, .binOp .neq xt x y yt,ty,pos,af,none⟩,kd)::rest) l):=
 let ⟨_,u1,u2,_⟩:=U.h
 J.pur hk (fun w => by
  have := D.neA (dd := some d) (yt := yt) (ty := ty) (pos := pos) (af := af) (g := none) (w := w) hx hy u1 u2 hg fx fy
  rw [he] at this
  rw [this]
  congr 3
  by_cases h : p <;> simp [h]) kk hl
/-! slices of slices that lie in a block -/
end
/-! records that are built, part by part -/
inductive EvP(l:List Value):List (Nat×Operand)→List (Nat×Value)→List (Nat×List Value)→Prop
 |nil:EvP l [] [] []
 |cons {i:Nat} {x:Operand} {v:Value} {vs:List Value} {r:List (Nat×Operand)} {ps:List (Nat×Value)} {qs:List (Nat×List Value)} (h:ev l x=v) (hc:v.cells=vs.toArray) (t:EvP l r ps qs):EvP l ((i,x)::r) ((i,v)::ps) ((i,vs)::qs)
def ofS:List (Nat×Nat)→Nat→Nat
 |[],_=>0
 |x::_,0=>x.1
 |_::r,n+1=>ofS r n
theorem ofS_eq:∀(pl:List (Nat×Nat)) (i:Nat),ofS pl i=(pl.getD i (0,0)).1
 |[],_=>by simp[ofS]
 |_::_,0=>rfl
 |_::r,n+1=>by rw[ofS,ofS_eq r n];simp[List.getD_eq_getElem?_getD]
def fillS(pl:List (Nat×Nat))(cs:List Value):List (Nat×List Value)→List Value
 |[]=>cs
 |(i,vs)::r=>fillS pl (splice cs (ofS pl i) vs) r
def fillO(pl:List (Nat×Nat))(n:Nat):List (Nat×List Value)→Bool
 |[]=>true
 |(i,vs)::r=>(Nat.blt i pl.length&&(Nat.beq vs.length (pl.getD i (0,0)).2&&Nat.ble ((pl.getD i (0,0)).1+vs.length) n))&&fillO pl n r
theorem EvP.fill{l:List Value}{pl:List (Nat×Nat)}{r:List (Nat×Operand)}{ps:List (Nat×Value)}{qs:List (Nat×List Value)}(h:EvP l r ps qs):r.map (fun p=>(p.1,ev l p.2))=ps∧∀cs:List Value,fillO pl cs.length qs=true→fillL pl cs ps=some (fillS pl cs qs):=by
 induction h with
 |nil=>exact⟨rfl,fun cs _=>rfl⟩
 | @cons i x v vs r ps qs h hc _ ih=>
  refine⟨by rw[List.map_cons,ih.1,h],fun cs ho=>?_⟩;unfold fillO at ho;rw[Bool.and_eq_true,Bool.and_eq_true,Bool.and_eq_true]at ho;obtain⟨⟨h1,h2,h3⟩,h4⟩:=ho;have hi:i<pl.length:=by rw[Nat.blt_eq]at h1;exact h1
  have hg:pl[i]? =some (pl.getD i (0,0)):=by rw[List.getD_eq_getElem?_getD,List.getElem?_eq_getElem hi];rfl
  unfold fillL fillS;rw[hg,ofS_eq];have hsz:v.cells.size=vs.length:=by rw[hc];simp
  simp only[hsz];rw[if_pos (by rw[h2,h3];rfl),show v.cells.toList=vs by rw[hc]];exact ih.2 _ (by rw[splice_length];exact h4)
theorem J.bd{S0:Nat→Prop}{w0:World}{L:List Ent}{P:Program}{ops:Array Oper}{K:List Value→World→Prop}{rest:List (Oper×Kd)}{l l':List Value}{m:Md}{d:Tmp}{ty xt:TypeId}{pos:String}{af:Array Edge}{kd:Kd}
  {parts:Array (Nat×Operand)}{pl:List (Nat×Nat)}{sz by_:Nat}{zs cs:List Value}{ps:List (Nat×Value)}{qs:List (Nat×List Value)}[I:Inf P xt sz by_ zs][I2:SInf P xt pl](hk:pureK kd=true)(kk:J S0 w0 L (RY S0 w0 m P ops K rest l'))
  (hv:EvP l parts.toList ps qs:=by repeat(first|exact EvP.nil|(apply EvP.cons;(· ((conv=>lhs;whnf)<;>rfl));(· rfl))))(ho:fillO pl zs.length qs=true:=by rfl)(hf:fillS pl zs qs=cs:=by dsimp only[fillS,ofS,splice,List.set,Nat.reduceAdd])(hl:l.set d (.agg cs.toArray)=l':=by dsimp only[List.set]):
  J S0 w0 L (RY S0 w0 m P ops K ((⟨some d, .build xt parts,ty,pos,af,none⟩,kd)::rest) l):=
 J.bs hk (hv.fill (pl:=pl)).1 kk (by rw[←hf];exact(hv.fill (pl:=pl)).2 zs ho) hl
section
end
end G
namespace G
open Go.RowKit
section
variable{S0:Nat→Prop}{w0:World}{L:List Ent}{X:World→Prop}
variable{m:Md}{P:Program}{ops:Array Oper}{K:List Value→World→Prop}{rest:List (Oper×Kd)}{l:List Value}{dd:Option Tmp}{ty:TypeId}{pos:String}{af:Array Edge}{kd:Kd}{g:Option (Nat×Bool)}
theorem J.tm{x:Operand}(h:J S0 w0 L (RY S0 w0 m P ops K ((⟨dd, .move x,ty,pos,af,none⟩,kd)::rest) l)):J S0 w0 L (RY S0 w0 m P ops K ((⟨dd, .move x,ty,pos,af,none⟩,kd)::rest) l):=h
theorem J.ta{x:Operand}(h:J S0 w0 L (RY S0 w0 m P ops K ((⟨dd, .assign x,ty,pos,af,none⟩,kd)::rest) l)):J S0 w0 L (RY S0 w0 m P ops K ((⟨dd, .assign x,ty,pos,af,none⟩,kd)::rest) l):=h
theorem J.tb(b:BinOp){xt yt:TypeId}{x y:Operand}(h:J S0 w0 L (RY S0 w0 m P ops K ((⟨dd, .binOp b xt x y yt,ty,pos,af,none⟩,kd)::rest) l)):J S0 w0 L (RY S0 w0 m P ops K ((⟨dd, .binOp b xt x y yt,ty,pos,af,none⟩,kd)::rest) l):=h
theorem J.tl{xt:TypeId}{x:Operand}(h:J S0 w0 L (RY S0 w0 m P ops K ((⟨dd, .load xt x,ty,pos,af,none⟩,kd)::rest) l)):J S0 w0 L (RY S0 w0 m P ops K ((⟨dd, .load xt x,ty,pos,af,none⟩,kd)::rest) l):=h
theorem J.ts{xt:TypeId}{x y:Operand}(h:J S0 w0 L (RY S0 w0 m P ops K ((⟨dd, .store xt x y,ty,pos,af,none⟩,kd)::rest) l)):J S0 w0 L (RY S0 w0 m P ops K ((⟨dd, .store xt x y,ty,pos,af,none⟩,kd)::rest) l):=h
theorem J.tf{xt:TypeId}{x:Operand}{i:Nat}(h:J S0 w0 L (RY S0 w0 m P ops K ((⟨dd, .fieldAddr xt x i,ty,pos,af,none⟩,kd)::rest) l)):J S0 w0 L (RY S0 w0 m P ops K ((⟨dd, .fieldAddr xt x i,ty,pos,af,none⟩,kd)::rest) l):=h
theorem J.tx{x:Operand}{i:Nat}(h:J S0 w0 L (RY S0 w0 m P ops K ((⟨dd, .extract x i,ty,pos,af,none⟩,kd)::rest) l)):J S0 w0 L (RY S0 w0 m P ops K ((⟨dd, .extract x i,ty,pos,af,none⟩,kd)::rest) l):=h
theorem J.tc(bi:Builtin){args:Array Operand}{ts:Array TypeId}(h:J S0 w0 L (RY S0 w0 m P ops K ((⟨dd, .call {callee:= .builtin bi,args:=args,argTypes:=ts},ty,pos,af,none⟩,kd)::rest) l)):J S0 w0 L (RY S0 w0 m P ops K ((⟨dd, .call {callee:= .builtin bi,args:=args,argTypes:=ts},ty,pos,af,none⟩,kd)::rest) l):=h
theorem J.ti{xt:TypeId}{x y:Operand}(h:J S0 w0 L (RY S0 w0 m P ops K ((⟨dd, .indexAddr xt x y,ty,pos,af,none⟩,kd)::rest) l)):J S0 w0 L (RY S0 w0 m P ops K ((⟨dd, .indexAddr xt x y,ty,pos,af,none⟩,kd)::rest) l):=h
theorem J.tu{b:UnOp}{xt:TypeId}{x:Operand}(h:J S0 w0 L (RY S0 w0 m P ops K ((⟨dd, .unOp b xt x,ty,pos,af,none⟩,kd)::rest) l)):J S0 w0 L (RY S0 w0 m P ops K ((⟨dd, .unOp b xt x,ty,pos,af,none⟩,kd)::rest) l):=h
theorem J.tp{x y z:Operand}(h:J S0 w0 L (RY S0 w0 m P ops K ((⟨dd, .pick x y z,ty,pos,af,none⟩,kd)::rest) l)):J S0 w0 L (RY S0 w0 m P ops K ((⟨dd, .pick x y z,ty,pos,af,none⟩,kd)::rest) l):=h
theorem J.tv{xt yt:TypeId}{x:Operand}(h:J S0 w0 L (RY S0 w0 m P ops K ((⟨dd, .convert xt yt x,ty,pos,af,none⟩,kd)::rest) l)):J S0 w0 L (RY S0 w0 m P ops K ((⟨dd, .convert xt yt x,ty,pos,af,none⟩,kd)::rest) l):=h
theorem J.tq{xt:TypeId}{x:Operand}{lo hi:Option Operand}(h:J S0 w0 L (RY S0 w0 m P ops K ((⟨dd, .slice xt x lo hi none,ty,pos,af,none⟩,kd)::rest) l)):J S0 w0 L (RY S0 w0 m P ops K ((⟨dd, .slice xt x lo hi none,ty,pos,af,none⟩,kd)::rest) l):=h
theorem J.td{xt:TypeId}{ps:Array (Nat×Operand)}(h:J S0 w0 L (RY S0 w0 m P ops K ((⟨dd, .build xt ps,ty,pos,af,none⟩,kd)::rest) l)):J S0 w0 L (RY S0 w0 m P ops K ((⟨dd, .build xt ps,ty,pos,af,none⟩,kd)::rest) l):=h
theorem J.tg{op:Op}{j:Nat}{t:Bool}(h:J S0 w0 L (RY S0 w0 m P ops K ((⟨dd,op,ty,pos,af,some (j,t)⟩,kd)::rest) l)):J S0 w0 L (RY S0 w0 m P ops K ((⟨dd,op,ty,pos,af,some (j,t)⟩,kd)::rest) l):=h
theorem J.tr{op:Oper}(h:J S0 w0 L (RY S0 w0 m P ops K ((op,kd)::rest) l)):J S0 w0 L (RY S0 w0 m P ops K ((op,kd)::rest) l):=h
theorem ex{α:Type}(a:α):∃z,z=a:=⟨a,rfl⟩
structure Hold(q:Prop):Prop where out:q
theorem run {q : Prop} (k : q) (h : Hold q → J S0 w0 L X := by
 intro k
 repeat (first
  | (refine J.tr ?_; first
   | (refine J.tm ?_; refine J.mv rfl ?_)
   | (refine J.ta ?_; refine J.as rfl ?_)
   | (refine J.tf ?_; first | refine J.fl rfl rfl ?_ | refine J.flG rfl (by first | exact RG.own' | exact RG.arg (by assumption) | exact RG.row') ?_ | refine J.flGG rfl (by first | exact RG.own' | exact RG.arg (by assumption) | exact RG.row') ?_)
   | (refine J.tl ?_; first | refine J.ld rfl ?_ | refine J.lda rfl ?_ | refine J.ldI rfl (by first | exact RI.own' | exact RI.arg (by assumption) | exact RI.row') ?_ | refine J.ldW rfl (by first | exact RW.own' | exact RW.arg (by assumption) | exact RW.row') ?_ | refine J.ldG rfl (by first | exact RG.own' | exact RG.arg (by assumption) | exact RG.row') ?_ | refine J.ldGf rfl (by first | exact RG.own' | exact RG.arg (by assumption) | exact RG.row') ?_ | refine J.ldG1 rfl (by first | exact RG.own' | exact RG.arg (by assumption) | exact RG.row') ?_ | refine J.ldGa rfl (by first | exact RG.own' | exact RG.arg (by assumption) | exact RG.row') ?_ | refine J.ldp rfl ?_)
   | (refine J.tb .lss ?_; first | refine J.lt rfl rfl rfl ?_ | refine J.slt rfl rfl rfl ?_)
   | (refine J.tb .eql ?_; first | refine J.eq rfl rfl rfl ?_ | refine J.seq rfl rfl rfl ?_ | refine J.eqb rfl rfl rfl ?_ | refine J.eqI rfl rfl rfl ?_ | refine J.nilS rfl rfl rfl ?_)
   | (refine J.tb .neq ?_; first | refine J.ne rfl rfl rfl ?_ | refine J.sne rfl rfl rfl ?_ | refine J.neb rfl rfl rfl ?_ | refine J.neI rfl rfl rfl ?_)
   | (refine J.tb .add ?_; refine J.add rfl rfl rfl ?_)
   | (refine J.tb .geq ?_; first | refine J.ge rfl rfl rfl ?_ | refine J.sge rfl rfl rfl ?_)
   | (refine J.tb .gtr ?_; first | refine J.gt rfl rfl rfl ?_ | refine J.sgt rfl rfl rfl ?_)
   | (refine J.tb .leq ?_; first | refine J.le rfl rfl rfl ?_ | refine J.sle rfl rfl rfl ?_)
   | (refine J.tb .sub ?_; refine J.sub rfl rfl rfl ?_)
   | (refine J.tx ?_; refine J.ex rfl rfl ?_)
   | (refine J.tc .len ?_; first | refine J.ln rfl rfl ?_ | refine J.lns rfl rfl ?_)
   | (refine J.ti ?_; first | refine J.idxI rfl rfl (by first | exact RI.own' | exact RI.arg (by assumption) | exact RI.row') ?_ | refine J.idxW rfl rfl (by first | exact RW.own' | exact RW.arg (by assumption) | exact RW.row') ?_ | refine J.idxG rfl rfl (by first | exact RG.own' | exact RG.arg (by assumption) | exact RG.row') ?_ | refine J.idxS rfl rfl rfl ?_)
   | (refine J.ts ?_; first | refine J.st rfl ?_ | refine J.staw rfl rfl ?_ | refine J.sta rfl rfl ?_ | refine J.stI rfl rfl ?_)
   | (refine J.tg ?_; first | refine J.want rfl rfl rfl ?_ | refine J.skipg rfl rfl rfl rfl ?_ | refine J.skipu rfl rfl rfl ?_)
   | (refine J.tk ?_; refine J.nc rfl rfl ?_)
   | (refine J.tu ?_; refine J.not rfl rfl ?_)
   | (refine J.tp ?_; refine J.pk rfl rfl ?_)
   | (refine J.tv ?_; refine J.cv rfl rfl ?_)
   | (refine J.td ?_; first | refine J.bd rfl ?_ | refine J.bs rfl rfl ?_)
   | (refine J.tq ?_; first | refine J.slT rfl rfl rfl ?_ | refine J.slP rfl rfl rfl ?_ | refine J.sl rfl rfl rfl rfl ?_ | refine J.slA rfl rfl ?_)
   | (refine J.tc .cap ?_; refine J.cp rfl rfl ?_)
   | (refine J.tz ?_; refine J.fz rfl rfl ?_)
   | (refine J.tc .max ?_; refine J.mx rfl rfl rfl ?_)
   | (refine J.tb .shr ?_; refine J.shr rfl rfl rfl ?_)
   | (refine J.tb .mul ?_; refine J.mul rfl rfl rfl ?_)
   | (refine J.tb .quo ?_; refine J.quo rfl rfl rfl ?_)
   | (refine J.tb .rem ?_; refine J.rem rfl rfl rfl ?_))
  | refine J.nilN ?_
  | refine J.thn ?_
  | refine J.sq ?_
  | refine J.region ?_
  | refine J.ift rfl ?_
  | refine J.iff rfl ?_
  | refine J.block ?_
  | refine J.skip ?_
  | refine J.exit ?_
  | refine J.the ?_
  | refine J.ibe ?_
  | refine J.ibn ?_
  | refine J.ibx rfl ?_
  | refine J.retc ?_
  | refine J.thr ?_
  | refine J.ibr ?_
  | refine J.retN ?_
  | (refine J.tret ?_; first | refine J.ret1 rfl ?_ | refine J.ret2 rfl ?_ | refine J.ret3 rfl ?_ | refine J.ret4 rfl ?_ | refine J.ret0 rfl ?_)
  | refine J.tfin ?_
  | refine J.tbr ?_
  | (refine J.nil ?_; refine J.kr ?_))
 exact k.out) : J S0 w0 L X := h ⟨k⟩
end
end G
namespace W
open Go.RowKit G
structure OpA where
 (o:S.OpV)(pa:Option Addr)(pc:Nat)
@[reducible] def opC(z:OpA):List Value:=[.int .u32 z.o.au, .slice z.pa z.o.n z.pc, .int .u64 z.o.st, .int .u8 z.o.k, .string z.o.key, .int .u8 z.o.vk, .int .i64 z.o.num, .int .u64 z.o.bits, .string z.o.t, .int .u32 z.o.e, .int .u32 z.o.s]
structure OpR(S0:Nat→Prop)(w:World)(z:OpA):Prop where
 ok:z.o.ok
 row:WRow .u8 32 S0 w z.pa z.o.n z.o.ids
 cap:z.o.n≤z.pc
section
end
theorem gown_e{α:Type}{f:α→List Value}{sz:Nat}{e:TypeId}{a:Option Addr}{n c:Nat}{lst:List α}{S:Nat→Prop}{w:World}(h:(Ent.gown f sz e a n c lst).ok S w):GOwn f sz 0 w e a n c lst∧∀b,obk a=some b→S b:=h
section
end
section
end
end W
namespace W
open Go.RowKit G
section
variable{S0:Nat→Prop}{w0:World}{L:List Ent}{P:Program}{Q:Exit→Act→World→Prop}{c y:Code}{l:List Value}{X:World→Prop}{e1 e2:Ent}
theorem J.joinX{A:Type}(M:A→List (Nat×Value))(Jk:List Nat)(Lp:A→List Ent)(I:A→Prop){l':A→(Nat→Value)→List Value}(h:J S0 w0 L (c.wp P (Exit.then (Cut l M Jk (fun p w=>Mem S0 w0 (Lp p) w∧I p)) Q) (fr l)))
  (k:∀p j,I p→J S0 w0 (Lp p) (y.wp P Q (fr (l' p j))))(hl:∀p j,upd (upd l (M p)) (junk Jk j)=l' p j:=by intro p j;simp only[upd,junk,List.map_cons,List.map_nil,List.set_cons_succ,List.set_cons_zero];exact rfl):J S0 w0 L (c.wp P (Exit.then (y.wp P Q) Q) (fr l)):=fun w Mm=>by
 refine wp_mono (h w Mm) fun e a w hq=>?_
 cases e with
 |normal=>
  have hq:Cut l M Jk (fun p w=>Mem S0 w0 (Lp p) w∧I p) a w:=hq;unfold Cut at hq;obtain⟨p',j',rfl,h1,h2⟩:=hq;show y.wp P Q _ w;rw[hl];exact k p' j' h2 w h1
 |_=>exact hq
end
end W
namespace S
open G
structure HvS(ids:List Int)(rd:List Nat)(hv:List Int):Prop where
 len:hv.length=32*rd.length
 at_:∀k,k<rd.length→idAt hv k=idAt ids (rd.getD k 0)
theorem HvS.all{m:Nat}{ids hv:List Int}{ops:List OpV}{rd:List Nat}(h:HvS ids rd hv)(hr:Rising m ids)(hb:∀x∈rd,x<m){i:Nat}(ho:allI m ids (ops.getD i OpV.zero).n (ops.getD i OpV.zero).ids):
  allI rd.length hv (ops.getD i OpV.zero).n (ops.getD i OpV.zero).ids↔∀p∈prS m ids ops i,p∈rd:=by
 constructor
 ·intro ha p hp;unfold prS at hp;obtain⟨j,hj,rfl⟩:=List.mem_map.1 hp;obtain⟨k,hk,e⟩:=ha j (List.mem_range.1 hj);rw[h.at_ k hk]at e;have hm:=getD_mem hk;rw[←e,ix_eq hr (hb _ hm)];exact hm
 ·intro ha j hj;have hp:ixS m ids (idAt (ops.getD i OpV.zero).ids j)∈rd:=ha _ (by unfold prS;exact List.mem_map.2 ⟨j,List.mem_range.2 hj,rfl⟩);obtain⟨k,hk,e⟩:=List.getElem_of_mem hp;refine⟨k,hk,?_⟩;rw[h.at_ k hk,List.getD_eq_getElem?_getD,List.getElem?_eq_getElem hk,Option.getD_some,e];exact(ix_in (ho j hj)).2
end S
namespace S
open G
theorem OpV.ext'{a b:OpV}(h1:a.au=b.au)(h2:a.st=b.st)(h3:a.k=b.k)(h4:a.vk=b.vk)(h5:a.num=b.num)(h6:a.bits=b.bits)(h7:a.e=b.e)(h8:a.s=b.s)(h9:a.n=b.n)(h10:a.ids=b.ids)(h11:a.key=b.key)(h12:a.t=b.t):a=b:=by
 cases a;cases b;simp only at h1 h2 h3 h4 h5 h6 h7 h8 h9 h10 h11 h12;subst h1 h2 h3 h4 h5 h6 h7 h8 h9 h10 h11 h12;rfl
def OpV.wide(o:OpV):Prop:=o.ids.length=32*o.n
theorem sameO_eq{a b:OpV}(ha:a.wide)(hb:b.wide):SameO a b↔a=b:=by
 constructor
 ·rintro⟨h1,h2,h3,⟨h4,h5,h6,h7,h8,h9⟩,h10,h11⟩;unfold OpV.wide at ha hb;have hn:a.n=b.n:=by rw[h2]at ha;omega
  exact OpV.ext' h1 h3 h4 h6 h7 h8 h10 h11 hn h2 h5 h9
 ·rintro rfl;exact sameO_refl a
end S
namespace W
open Go.RowKit G
instance(z:OpA):LenC (opC z) 11:=⟨rfl,rfl⟩
theorem all_e{E:List Ent}{S:Nat→Prop}{w:World}(h:(Ent.all E).ok S w):Sep E S w:=h
theorem all_i{E:List Ent}{S:Nat→Prop}{w:World}(h:Sep E S w):(Ent.all E).ok S w:=h
theorem sep_mem:∀ {E:List Ent} {S:Nat→Prop} {w:World} {e:Ent},e∈E→Sep E S w→∃S',(∀b,S' b→S b)∧e.ok S' w
 |_::_,_,_,_, .head _,⟨A,_,h1,_,_,h4,_⟩=>⟨A,h1,h4⟩
 |_::_,_,_,_, .tail _ h,⟨_,B,_,h2,_,_,h5⟩=>let ⟨S',k1,k2⟩:=sep_mem h h5;⟨S',fun b hb=>h2 b (k1 b hb),k2⟩
section
variable{S0:Nat→Prop}{w0:World}{L:List Ent}{X:World→Prop}{e:Ent}{E:List Ent}
theorem J.snocA{F1 F2:Ent→List Ent}(E:List Ent)(e:Ent)[R:RE L e F1][R2:RE (F1 .emp) (.all E) F2](k:J S0 w0 (F2 (.all (E++[e]))) X):J S0 w0 L X:=
 J.merge e (.all E) (.all (E++[e])) (fun S1 S2 w hd h1 h2=>all_i (Sep.app (all_e h2) (sep1 h1) (fun b hb=> .inr hb) (fun b hb=> .inl hb) fun b hb hc=>hd b hc hb)) k
end
section
end
theorem irow_e{k:IntKind}{a:Option Addr}{n:Nat}{xs:List Int}{S:Nat→Prop}{w:World}(h:(Ent.irow k a n xs).ok S w):IRow k S w a n xs:=h
theorem wrow_i{k:IntKind}{sz:Nat}{a:Option Addr}{n:Nat}{xs:List Int}{S:Nat→Prop}{w:World}(h:WRow k sz S w a n xs):(Ent.wrow k sz a n xs).ok S w:=h
section
end
section
variable{S0:Nat→Prop}{w0:World}{L:List Ent}{P:Program}{ops:Array Oper}{K:List Value→World→Prop}{rest:List (Oper×Kd)}{l:List Value}{m:Md}{d:Tmp}{ty:TypeId}{pos:String}{af:Array Edge}{kd:Kd}{t e:TypeId}{by_:Nat}{zs:List Value}
theorem J.b0I[U:Und P t (.slice e)][I:Inf P e 1 by_ zs](k:IntKind){l':Nat→List Value}(hk:okE m kd=true)(kk:∀b,J S0 w0 (.iown e k (some ⟨b,0,none⟩) 0 0 []::L) (RY S0 w0 m P ops K rest (l' b)))
  (hl:∀b,l.set d (.slice (some ⟨b,0,none⟩) 0 0)=l' b:=by intro b;dsimp only[List.set]):J S0 w0 L (RY S0 w0 m P ops K ((⟨some d, .buildSlice t 0 #[],ty,pos,af,none⟩,kd)::rest) l):=
 J.eff hk fun w M K' hK => RS.buildNone U.h I.h fun b w' e1 s1 x1 B => RS.nil (hK _ w' x1 (by
  rw [hl]
  exact kk b w' (M.new x1 (own_blk (xs := []) ⟨by subst e1; exact Nat.le_refl _, B⟩ rfl (Bd.nil _) (by decide)))))
end
end W
namespace G
open Go.RowKit
section
variable{S0:Nat→Prop}{w0:World}{L Lq:List Ent}{P:Program}{Q:Exit→Act→World→Prop}{l:List Value}{id n n':Nat}{l0:List Oper}{K:List Value→World→Prop}{li:Array Bool}{rd:List Nat}
theorem J.front{X:World→Prop}{F:Ent→List Ent}(e:Ent)[R:RE L e F](k:J S0 w0 (e::F .emp) X):J S0 w0 L X:=fun w M=>by
 exact k w (M.split (R.h .emp) fun S h=>⟨no,S,fun _ h=>h.elim,fun _ h=>h,fun _ h=>h.elim,trivial,h⟩)
end
section
end
section
variable{S0:Nat→Prop}{w0:World}{L Lq:List Ent}{P:Program}{l:List Value}{l0:List Oper}{K:List Value→World→Prop}
def bs(k n:Nat):Array Bool:=((List.range k).map fun i=>n.testBit i).toArray
end
section
variable{S0:Nat→Prop}{w0:World}{L:List Ent}{P:Program}{ops:Array Oper}{K:List Value→World→Prop}{rest:List (Oper×Kd)}{l:List Value}{m:Md}{d:Tmp}{ty t e:TypeId}{pos:String}{af:Array Edge}{kd:Kd}{α:Type}
theorem J.bnG{n sz by_:Nat}{parts:Array (Nat×Operand)}{zs vs:List Value}(f:α→List Value)(qs:List α)(hf:∀x,(f x).length=sz)[U:Und P t (.slice e)][I:Inf P e sz by_ zs]{l':Nat→List Value}(hk:okE m kd=true)(hv:(parts.toList.map Prod.snd).map (ev l)=vs)(hc:vs.flatMap (·.cells.toList)=qs.flatMap f)(hcs:∀v∈vs,v.cells.size=sz)
  (kk:∀b,J S0 w0 (.gown f sz e (some ⟨b,0,none⟩) n n qs::L) (RY S0 w0 m P ops K rest (l' b)))(hp:parts.toList=enumV 0 (parts.toList.map Prod.snd):=by rfl)(hl2:vs.length=n:=by rfl)(hq:qs.length=n:=by rfl)(hz:0<sz:=by decide)(hn:Nat.ble n 1000=true:=by rfl)(hz2:Nat.ble sz 1000=true:=by rfl)(h0:Nat.ble 1 n=true:=by rfl)
  (hl:∀b,l.set d (.slice (some ⟨b,0,none⟩) n n)=l' b:=by intro b;dsimp only[List.set]):J S0 w0 L (RY S0 w0 m P ops K ((⟨some d, .buildSlice t n parts,ty,pos,af,none⟩,kd)::rest) l):=
 J.eff hk fun w M K' hK => RS.buildSlice (vs := vs) (cs := qs.flatMap f) U.h I.h hz hn hz2 hp hv hl2 hc hcs h0 fun b w' e1 s1 x1 B => RS.nil (hK _ w' x1 (by
  rw [hl]
  exact kk b w' (M.new x1 (gown_blk (lst := qs) ⟨by subst e1; exact Nat.le_refl _, B⟩ hf rfl hq (by have := Nat.le_of_ble_eq_true hn; omega)))))
end
section
variable{S0:Nat→Prop}{w0:World}{L:List Ent}{P:Program}{ops:Array Oper}{K:List Value→World→Prop}{rest:List (Oper×Kd)}{l l':List Value}{m:Md}{d:Tmp}{ty xt:TypeId}{pos:String}{af:Array Edge}{x:Operand}
theorem J.cvB{s e:TypeId}{a:Option Addr}{n c:Nat}{xs:List Int}[U1:Und P s (.slice e)][U2:Und P e (.int .u8)][U:Und P xt .string](hx:ev l x= .slice a n c)(hR:RI S0 w0 (Lv m L) .u8 a n xs)(kk:J S0 w0 L (RY S0 w0 m P ops K rest l'))(hl:l.set d (.string (strOfNums xs))=l':=by dsimp only[List.set]):
  J S0 w0 L (RY S0 w0 m P ops K ((⟨some d, .convert s xt x,ty,pos,af,none⟩, .q)::rest) l):=
 J.val (fun w M=>let ⟨_,h⟩:=hR w M;D.convBS h hx U1.h U2.h U.h) kk hl
end
end G
namespace S
open G
theorem num_cut{a b:Int}(ha:0≤a∧a<18446744073709551616)(hb:0≤b∧b<18446744073709551616){x y:List Int}(h:numS a++x=numS b++y):a=b∧x=y:=by
 have h1:=num_R a ha.1 ha.2 x;rw[h,num_R b hb.1 hb.2 y]at h1;have h2:=Option.some.inj h1;exact⟨(congrArg Prod.fst h2).symm,(congrArg Prod.snd h2).symm⟩
theorem ids_cut{n m:Nat}{xs ys:List Int}(hn:n≤4)(hm:m≤4)(hl:xs.length=32*n)(hl2:ys.length=32*m)(hr:Rising n xs)(hr2:Rising m ys){x y:List Int}(h:listS n xs++x=listS m ys++y):x=y:=by
 have h1:=ids_R n xs x hn hl hr;rw[h,ids_R m ys y hm hl2 hr2]at h1;have h2:=Option.some.inj h1;exact(congrArg (fun p=>p.2.2) h2).symm
theorem act_cut{k:Int}{a b:ActV}(hF:FineAct k a.key a.vk a.num a.bits a.t)(hn: -9223372036854775808≤a.num∧a.num≤9223372036854775807)(hb:0≤a.bits∧a.bits<18446744073709551616)
  (hF2:FineAct k b.key b.vk b.num b.bits b.t)(hn2: -9223372036854775808≤b.num∧b.num≤9223372036854775807)(hb2:0≤b.bits∧b.bits<18446744073709551616){x y:List Int}(h:actS k a++x=actS k b++y):x=y:=by
 have h1:=act_R k a x hF hn hb;rw[h,act_R k b y hF2 hn2 hb2]at h1;have h2:=Option.some.inj h1;exact(congrArg (fun p=>p.2) h2).symm
theorem w64{a:Int}(h:0≤a∧a<4294967296):0≤a∧a<18446744073709551616:=by omega
theorem enc_cut{o p:OpV}(ho:o.rng)(hp:p.rng)(hl:o.ids.length=32*o.n)(hm:p.ids.length=32*p.n)(hc:checkE o=0)(hd:checkE p=0){r:List Int}(h:encS o++r=encS p):r=[]:=by
 obtain⟨c1,c2,c3⟩:=check_zero.1 hc;obtain⟨d1,d2,d3⟩:=check_zero.1 hd;rw[enc_eq,enc_eq]at h;simp only[List.cons_append,List.append_assoc]at h;have h:=(List.cons.inj h).2;have h:=(num_cut (w64 ho.au) (w64 hp.au) h).2;have h:=ids_cut c1 d1 hl hm c2 d2 h;have h:=(num_cut ho.st hp.st h).2;obtain⟨hk,h⟩:=List.cons.inj h;have f1:=c3.2.2.2.2;have f2:=d3.2.2.2.2;rw[hk]at h f1;have h:=act_cut f1 ho.num ho.bits f2 hp.num hp.bits h;have h:=(num_cut (w64 ho.e) (w64 hp.e) h).2;rw[←List.append_nil (numS p.s)]at h;exact(num_cut (w64 ho.s) (w64 hp.s) h).2
theorem jd_cut{o:OpV}(ho:o.rng)(hl:o.ids.length=32*o.n)(hc:checkE o=0){b:List Int}(hB:Bd .u8 b){m:Nat}(hm:m<(encS o).length)(hb:b=(encS o).take m):jdV b≠0:=by
 intro h;have h4:¬400<b.length:=by
  intro h4;rw[jd_long h4]at h;cases h
 have hd:decE b=0:=by
  apply Classical.byContradiction;intro hd;rw[jd_form h4 hd]at h;cases h
 obtain⟨g1,g2⟩:=dec_good hB hd;have g3:=decO_ok hB;have:=enc_cut g3.1.rng ho g3.2 hl g1 hc (r:=(encS o).drop m) (by rw[g2,hb,List.take_append_drop]);have h5:((encS o).drop m).length=(encS o).length - m:=List.length_drop;rw[this]at h5;simp at h5;omega
def xO:OpV:=⟨0,1,3,0,0,0,0,0,0,[],⟨#[120]⟩, .empty⟩
theorem xO_ok:xO.ok:=⟨by decide,by decide,by decide,by decide,by decide,by decide,by decide,by decide,by decide,by decide,by decide⟩
theorem act_x:FineAct 3 ⟨#[120]⟩ 0 0 0 .empty:= .inr (.inl ⟨.inr rfl,by decide+kernel,rfl,rfl,rfl,rfl⟩)
theorem xO_sign{x:Int}(hx:0<x∧x<500000003):signE x xO=0:=signE_zero.2 ⟨hx,check_zero.2 ⟨(by decide:(0:Nat)≤4),rising_nil,isG_pub x (by omega),(by decide:(1:Int)≤1000000000000),(by decide:(0:Int)<500000003),(by decide:(0:Int)<500000003),act_x⟩⟩
def pcB(x:List Int):List Int:=numS x.length++x
def pcsB(xs:List (List Int)):List Int:=xs.flatMap pcB
def frmS(xs:List (List Int)):List Int:=5::(numS xs.length++pcsB xs)
theorem pcB_len{x:List Int}(h:x.length≤400):1≤(pcB x).length∧(pcB x).length≤409:=by
 have:=numS_len (x.length:Int);unfold pcB;rw[List.length_append];omega
theorem pcsB_len:∀ {xs:List (List Int)},(∀x∈xs,x.length≤400)→(pcsB xs).length≤409*xs.length
 |[],_=>by simp[pcsB]
 |x::xs,h=>by
  have h1:=pcB_len (h x List.mem_cons_self);have h2:=pcsB_len (xs:=xs) (fun y hy=>h y (List.mem_cons_of_mem _ hy));unfold pcsB at h2⊢;rw[List.flatMap_cons,List.length_append,List.length_cons];omega
theorem pcsB_snoc(xs:List (List Int))(x:List Int):pcsB (xs++[x])=pcsB xs++pcB x:=by
 unfold pcsB;rw[List.flatMap_append];simp
theorem rd_at{b r:List Int}{n:Int}(h:b=numS n++r)(h0:0≤n∧n<18446744073709551616):rdV b=n∧rdU b=(numS n).length∧rdE b=0∧b.drop (rdU b)=r:=by
 obtain⟨h1,h2,h3⟩:=rd_some (b:=b) (by rw[h];exact read_num n h0.1 h0.2 r);exact⟨h1,h2,h3,by rw[h2,h,List.drop_left]⟩
theorem id_at{b r:List Int}{n:Nat}{ids:List Int}(h:b=listS n ids++r)(hn:n≤4)(hl:ids.length=32*n)(hr:Rising n ids):idN 4 b=n∧idL 4 b=ids∧idU 4 b=(listS n ids).length∧idE 4 b=0∧b.drop (idU 4 b)=r:=by
 obtain⟨h1,h2,h3,h4⟩:=id_some (most:=4) (b:=b) (by rw[h];exact readI_num 4 n ids r (by omega) (by omega) hl hr);exact⟨h1,h2,h3,h4,by rw[h3,h,List.drop_left]⟩
theorem pt_at{most:Nat}{b r x:List Int}(h:b=pcB x++r)(hx:x.length≤most)(hm:most≤1000000):ptE most 1 b=0∧ptU most 1 b=(pcB x).length∧ptS most 1 b=x∧b.drop (ptU most 1 b)=r:=by
 have hb:b=numS x.length++(x++r):=by rw[h,pcB,List.append_assoc]
 obtain⟨h1,h2,h3,h4⟩:=rd_at hb (by omega);have hl:b.length=(numS x.length).length+(x.length+r.length):=by rw[hb,List.length_append,List.length_append]
 have hok:ptOk most 1 b:=⟨h3,by omega,by rw[h1,h2,hl];omega⟩
 obtain⟨e1,e2,e3⟩:=pt_ok hok;have e4:ptU most 1 b=(pcB x).length:=by rw[e2,h1,h2,pcB,List.length_append];omega
 refine⟨e1,e4,?_,?_⟩
 ·rw[e3,h4,h1];simp
 ·rw[e4,h,List.drop_left]
def r6(o:OpV):List Int:=numS o.e++numS o.s
def r5(o:OpV):List Int:=(if o.k=4 then valS o.vk o.num o.bits o.t else [])++r6 o
def r4(o:OpV):List Int:=(if o.k=1 then []else pcB (bys o.key))++r5 o
def r3(o:OpV):List Int:=numS o.st++o.k::r4 o
def r2(o:OpV):List Int:=listS o.n o.ids++r3 o
def r1(o:OpV):List Int:=numS o.au++r2 o
theorem enc_r1(o:OpV)(h:o.k=1→o.k≠4):encS o=111::r1 o:=by
 rw[enc_eq];unfold r1 r2 r3 r4 r5 r6 pcB actS OpV.act;by_cases h1:o.k=1
 ·rw[if_pos h1,if_pos h1,if_neg (h h1)];simp
 ·rw[if_neg h1,if_neg h1];simp[bys_len,List.append_assoc]
def frP(ls:List (List Int))(i:Nat):List Int:=5::(numS ls.length++pcsB (ls.take i))
theorem frP_zero(ls:List (List Int)):frP ls 0=[5]++numS ls.length:=by
 unfold frP pcsB;simp
theorem frP_succ{ls:List (List Int)}{i:Nat}{x:List Int}(h:ls[i]? =some x):frP ls (i+1)=frP ls i++pcB x:=by
 unfold frP;rw[List.take_add_one,h,Option.toList_some,pcsB_snoc];simp
theorem frP_all(ls:List (List Int)){i:Nat}(h:ls.length≤i):frP ls i=frmS ls:=by
 unfold frP frmS;rw[List.take_of_length_le h]
theorem frP_len{ls:List (List Int)}(h:ls.length≤8)(h4:∀x∈ls,x.length≤400)(i:Nat):1≤(frP ls i).length∧(frP ls i).length≤3282:=by
 have h1:=numS_len (ls.length:Int);have h2:=pcsB_len (xs:=ls.take i) fun x hx=>h4 x (List.mem_of_mem_take hx);rw[List.length_take]at h2;unfold frP;rw[List.length_cons,List.length_append];omega
def frR(ls:List (List Int))(i:Nat):List Int:=pcsB (ls.drop i)
theorem frR_at{ls:List (List Int)}{i:Nat}{x:List Int}(h:ls[i]? =some x):frR ls i=pcB x++frR ls (i+1):=by
 unfold frR pcsB;obtain⟨hi,rfl⟩:=List.getElem?_eq_some_iff.1 h;rw[List.drop_eq_getElem_cons hi,List.flatMap_cons]
end S
namespace W
open Go.RowKit G
set_option maxRecDepth 20000
set_option maxHeartbeats 8000000
attribute [local irreducible] RS RX RY Code.wp bodyPost J Ent.blk Ent.irow Ent.iown Ent.wrow Ent.gown Ent.all Ent.emp
instance:Und prog 5 (.int .u8):=⟨underlying5⟩
instance:Fld prog 88 0 0:=⟨_,_,1,underlying88,rfl,by kernel_rfl,by decide,rfl⟩
instance:Sca prog 5:=⟨_,underlying5,rfl⟩
instance:Und prog 38 (.slice 5):=⟨underlying38⟩
instance:Inf prog 5 1 1 [.int .u8 0]:=⟨TI.of (v:= .int .u8 0) (by kernel_rfl) rfl⟩
instance:Siz prog 5 1:=⟨by kernel_rfl⟩
instance:Ents prog 86:=⟨.mk func86 (by kernel_rfl) rfl⟩
instance:Fld prog 88 1 1:=⟨_,_,1,underlying88,rfl,by kernel_rfl,by decide,rfl⟩
instance:Sca prog 24:=⟨_,underlying24,rfl⟩
instance:Und prog 24 (.int .u64):=⟨underlying24⟩
instance:Fld prog 88 3 3:=⟨_,_,1,underlying88,rfl,by kernel_rfl,by decide,rfl⟩
instance:Sca prog 48:=⟨_,underlying48,rfl⟩
instance:Und prog 48 (.slice 38):=⟨underlying48⟩
instance:Und prog 3 (.int .i64):=⟨underlying3⟩
instance:Fld prog 88 2 2:=⟨_,_,1,underlying88,rfl,by kernel_rfl,by decide,rfl⟩
instance:Sca prog 23:=⟨_,underlying23,rfl⟩
instance:Und prog 23 (.slice 44):=⟨underlying23⟩
instance:Ents prog 21:=⟨.mk func21 (by kernel_rfl) rfl⟩
instance:Siz prog 38 1:=⟨by kernel_rfl⟩
instance:Sca prog 38:=⟨_,underlying38,rfl⟩
instance:Ents prog 22:=⟨.mk func22 (by kernel_rfl) rfl⟩
theorem pwg{k:IntKind}{S0:Nat→Prop}{w:World}{a:Option Addr}{n:Nat}{ps:List Pc}(h:PRow k S0 w a n ps):GRow pcC 1 S0 w a n ps:=by
  have e:ps.flatMap pcC=ps.map Pc.val:=by
    clear h
    induction ps with
    |nil=>rfl
    |cons p ps ih=>rw[List.flatMap_cons,List.map_cons,ih];rfl
  exact⟨by rw[e];exact h.row,h.len,fun _=>rfl⟩
theorem numV(n:Int)(hn:0≤n∧n<18446744073709551616)(w:World):
    Calls prog 21 #[.int .u64 n] w (Gv w (fun q:Option Addr×Nat×Nat=> .slice q.1 q.2.1 q.2.2) (fun q=>[.iown 5 .u8 q.1 q.2.1 q.2.2 (S.numS n)]) fun q=>q.2.1=(S.numS n).length):=
  Gv.of (numW n hn w) fun v w' _ ⟨a',n',c',hv,O⟩=>⟨(a',n',c'),hv,O.len.symm,sep1 (iown_ok O)⟩
theorem bytesV{S0:Nat→Prop}(a:Option Addr)(n c:Nat)(xs:List Int)(w:World)(R0:IRow .u8 S0 w a n xs)(hn:n≤10000):
    Calls prog 22 #[.slice a n c] w (Gv w (fun q:Option Addr×Nat×Nat=> .tuple #[.slice q.1 q.2.1 q.2.2, .int .i64 0]) (fun q=>[.iown 5 .u8 q.1 q.2.1 q.2.2 (S.pcB xs)]) fun q=>q.2.1=(S.pcB xs).length):=
  Gv.of (bytesW a n c xs w R0 hn) fun v w' _ ⟨a',n',c',hv,O⟩=>⟨(a',n',c'),hv,by rw[←R0.len]at O;exact O.len.symm,sep1 (iown_ok (by rw[←R0.len]at O;exact O))⟩
theorem frListed(w:World):Calls prog 86 #[.int .u8 5] w (Ret w fun v _=>v= .bool false):=by
  refine J.enter 8 func86 rfl rfl ?_;refine run ?_;exact J.fin rfl
structure WrA where
  (i:Nat)(a:Option Addr)(n c:Nat)
theorem frWrite{S0:Nat→Prop}(a:Option Addr)(n c:Nat)(ps:List Pc)(w:World)(P0:PRow .u8 S0 w a n ps)(h8:n≤8)(h4:∀p∈ps,p.xs.length≤400)(hT:(S.frmS (ps.map Pc.xs)).length≤2000):
    Calls prog 69 #[.agg #[.int .u8 5, .int .u64 0, .slice none 0 0, .slice a n c]] w (Gv w (fun q:Option Addr×Nat×Nat=> .tuple #[.slice q.1 q.2.1 q.2.2, .bool true]) (fun q=>[.iown 5 .u8 q.1 q.2.1 q.2.2 (S.frmS (ps.map Pc.xs))]) fun q=>q.2.1=(S.frmS (ps.map Pc.xs)).length):=by
  have G0:=pwg P0;have hl:=P0.len;refine J.enter 131 func69 rfl rfl ?_;refine run ?_;refine J.box rfl rfl rfl fun b1=>?_
  refine run ?_;refine J.b1 rfl rfl fun b2=>?_
  refine run ?_;refine J.callp rfl rfl (fun w' M=>frListed w') ?_;refine run ?_;refine J.call rfl rfl (fun w' M=>numV n (by omega) w') fun q0 hq0=>?_
  have hb0:=S.numS_len (n:Int);refine run ?_;refine J.apI rfl rfl RI.own' fun a0 c0=>?_
  refine run ?_;rw[show decide ((n:Int)≤8)=true from decide_eq_true (by omega)];obtain⟨ls,els⟩:=ex (ps.map Pc.xs);rw[←els]at hT⊢;have hll:ls.length=n:=by rw[els,List.length_map,hl]
  have h4l:∀x∈ls,x.length≤400:=fun x hx=>by
    rw[els]at hx;obtain⟨p,hp,rfl⟩:=List.mem_map.1 hx;exact h4 p hp
  have hfl:=S.frP_len (ls:=ls) (by omega) h4l;have hf0:=S.frP_zero ls;rw[hll]at hf0;rw[←hf0];have hfl0:=congrArg List.length hf0;rw[List.length_append,List.length_singleton]at hfl0;refine J.loop (A:=WrA) (fun s=>[(4, .slice s.a s.n s.c),(5, .bool true),(8, .int .i64 (s.i:Nat))]) [9,10,74,75,76,77,78,79,80,81,82,83,84,85,86,87,88,89,90,91,92,93,94,95,96,97,98,99,100,101,102] (fun s=>[.iown 5 .u8 s.a s.n s.c (S.frP ls s.i), .blk b1 [.int .u8 5, .int .u64 0, .slice none 0 0, .slice a n c] 88])
    (fun s=>s.i≤n∧s.n=(S.frP ls s.i).length) (fun s=>n - s.i) ⟨0,a0,1+q0.2.1,c0⟩ (by kernel_rfl) ⟨by dsimp only;omega,by dsimp only;omega⟩ (fun s j hI=>?_) sb
  obtain⟨hi,hn⟩:=hI;have hfs:=hfl s.i;refine run ?_;refine J.ifd rfl (fun c1=>?_) (fun c1=>?_)
  · obtain⟨y,hy⟩:=G0.ex (i:=(s.i:Nat)) (by omega)
    have hy':ps[s.i]? =some y:=hy;obtain⟨hy1,hy2⟩:=P0.each y (List.mem_of_getElem? hy');have hy4:=h4 y (List.mem_of_getElem? hy');have hyl:=hy1.len;have hly:ls[s.i]? =some y.xs:=by rw[els,List.getElem?_map,hy'];rfl
    have hsx:=S.frP_succ hly;have hsl:=congrArg List.length hsx;rw[List.length_append]at hsl;have hpl:=S.pcB_len hy4;refine run ?_;refine J.call rfl rfl (fun w' M=>bytesV y.a y.n y.c y.xs w' (hy1.ext M.ext) (by omega)) fun q1 hq1=>?_
    refine run ?_;refine J.apI rfl rfl RI.own' fun a1 c1=>?_
    rw[←hsx];refine run ?_;rw[show decide ((y.n:Int)≤400)=true from decide_eq_true (by omega)];refine J.next ⟨s.i+1,a1,s.n+q1.2.1,c1⟩ ⟨rfl,rfl,rfl,trivial⟩ (by kernel_rfl) ⟨by dsimp only;omega,by dsimp only;omega⟩ (by dsimp only;omega)
  have hfa:=S.frP_all ls (i:=s.i) (by omega);rw[hfa]at hn⊢;refine run ?_;rw[show decide ((s.n:Int)≤2000)=true from decide_eq_true (by omega)];exact J.finG (s.a,s.n,s.c) rfl hn sb
end W
end Go.Proofs.YtfoaecjggdaieaaDoor
