/-
  Part 11 of the lemmas of these laws: PoolNames.
-/
import Derived.Test.YtjjbdaiioociaaaGreatDoorPPn10
set_option linter.unusedVariables false
set_option linter.unusedSimpArgs false
open Go.Proofs.Tryz
namespace Go.Proofs.YtjjbdaiioociaaaGreatDoor
namespace G
open Go.RowKit
def J(S0:Nat→Prop)(w0:World)(L:List Ent)(X:World→Prop):Prop:=∀w,Mem S0 w0 L w→X w
def KN(Q:Exit→Act→World→Prop)(l:List Value)(w:World):Prop:=Q .normal (fr l) w
inductive Md where
 |s|x|r (Lq:List Ent)
@[reducible] def Lv(m:Md)(L:List Ent):List Ent:=match m with
 | .r Lq=>Lq
 | .s=>L
 | .x=>L
def MR(S0:Nat→Prop)(w0:World)(Lq:List Ent)(w w':World):Prop:=Mem S0 w0 Lq w→Mem S0 w0 Lq w'
def RY(S0:Nat→Prop)(w0:World)(m:Md)(P:Program)(ops:Array Oper)(K:List Value→World→Prop)(pl:List (Oper×Kd))(l:List Value)(w:World):Prop:=
 match m with
 | .x=>RX P ops Ext K pl l w
 | .s=>RS P ops K (pl.map Prod.fst) l w
 | .r Lq=>Mem S0 w0 Lq w→RX P ops (MR S0 w0 Lq) K pl l w
class Und(P:Program)(t:TypeId)(ed:outParam TypeDesc):Prop where h:P.underlying t=some ed
class Siz(P:Program)(t:TypeId)(n:outParam Nat):Prop where h:P.cellsOf t=n
class Inf(P:Program)(t:TypeId)(sz by_:outParam Nat)(z:outParam (List Value)):Prop where h:TI P t sz by_ z
class SInf(P:Program)(t:TypeId)(l:outParam (List (Nat×Nat))):Prop where h:SI P t l
class Fld(P:Program)(t:TypeId)(i:Nat)(off:outParam Nat):Prop where h:∃fs f sz,P.underlying t=some (.struct fs)∧fs[i]? =some f∧P.cellsOf f.type=sz∧sz≠0∧f.offset=off
class Sca(P:Program)(t:TypeId):Prop where h:∃ed,P.underlying t=some ed∧isAggD ed=false
class Agg(P:Program)(t:TypeId)(sz:outParam Nat):Prop where h:∃ed,P.underlying t=some ed∧isAggD ed=true∧P.cellsOf t=sz
class Ents(P:Program)(f:FuncId):Prop where h:Enters P f
section
variable{S0:Nat→Prop}{w0:World}{L L':List Ent}{P:Program}{Q:Exit→Act→World→Prop}{l:List Value}{x y c:Code}{o:Operand}{X Y:World→Prop}{id id':Nat}{N:Act→World→Prop}{e e':Ent}
theorem J.map(f:∀w,X w→Y w)(h:J S0 w0 L X):J S0 w0 L Y:=fun w M=>f w (h w M)
theorem J.drop{E:List Ent}(s:E.Sublist L)(h:J S0 w0 E X):J S0 w0 L X:=fun w M=>h w (M.sub s)
/-! ### control -/
theorem J.sq(h:J S0 w0 L (x.wp P (Exit.then (y.wp P Q) Q) (fr l))):J S0 w0 L ((Code.seq x y).wp P Q (fr l)):=fun w M=>wp_seq (h w M)
theorem J.skip(h:J S0 w0 L (Q .normal (fr l))):J S0 w0 L (Code.skip.wp P Q (fr l)):=fun w M=>wp_skip (h w M)
theorem J.exit(h:J S0 w0 L (Q (.exit id) (fr l))):J S0 w0 L ((Code.exit id).wp P Q (fr l)):=fun w M=>wp_exit (h w M)
theorem J.block(h:J S0 w0 L (c.wp P (Exit.inBlock id Q) (fr l))):J S0 w0 L ((Code.block id c).wp P Q (fr l)):=fun w M=>wp_block (h w M)
theorem J.retc(h:J S0 w0 L (Q .ret (fr l))):J S0 w0 L (Code.ret.wp P Q (fr l)):=fun w M=>wp_ret (h w M)
theorem J.thn(h:J S0 w0 L (N (fr l))):J S0 w0 L (Exit.then N Q .normal (fr l)):=h
theorem J.thr(h:J S0 w0 L (Q .ret (fr l))):J S0 w0 L (Exit.then N Q .ret (fr l)):=h
theorem J.ibn(h:J S0 w0 L (Q .normal (fr l))):J S0 w0 L (Exit.inBlock id Q .normal (fr l)):=h
theorem J.ibr(h:J S0 w0 L (Q .ret (fr l))):J S0 w0 L (Exit.inBlock id Q .ret (fr l)):=h
theorem J.ift(hc:ev l o= .bool true)(h:J S0 w0 L (x.wp P Q (fr l))):J S0 w0 L ((Code.cond o x y).wp P Q (fr l)):=fun w M=>C.ift hc (h w M)
theorem J.iff(hc:ev l o= .bool false)(h:J S0 w0 L (y.wp P Q (fr l))):J S0 w0 L ((Code.cond o x y).wp P Q (fr l)):=fun w M=>C.iff hc (h w M)
theorem J.ifd{p:Prop}[Decidable p](hc:ev l o= .bool (decide p))(ht:p→J S0 w0 L (x.wp P Q (fr l)))(hf:¬p→J S0 w0 L (y.wp P Q (fr l))):J S0 w0 L ((Code.cond o x y).wp P Q (fr l)):=
 fun w M=>C.ifd hc (fun h=>ht h w M) (fun h=>hf h w M)
theorem J.ife{a b:Int}(hc:ev l o= .bool (a==b))(ht:a=b→J S0 w0 L (x.wp P Q (fr l)))(hf:a≠b→J S0 w0 L (y.wp P Q (fr l))):J S0 w0 L ((Code.cond o x y).wp P Q (fr l)):=
 fun w M=>C.ife hc (fun h=>ht h w M) (fun h=>hf h w M)
theorem J.ifn{a b:Int}(hc:ev l o= .bool (a != b))(ht:a≠b→J S0 w0 L (x.wp P Q (fr l)))(hf:a=b→J S0 w0 L (y.wp P Q (fr l))):J S0 w0 L ((Code.cond o x y).wp P Q (fr l)):=
 fun w M=>C.ifn hc (fun h=>ht h w M) (fun h=>hf h w M)
theorem J.ifnot{b:Bool}(hc:ev l o= .bool (!b))(ht:b=false→J S0 w0 L (x.wp P Q (fr l)))(hf:b=true→J S0 w0 L (y.wp P Q (fr l))):J S0 w0 L ((Code.cond o x y).wp P Q (fr l)):=
 fun w M=>C.ifnot hc (fun h=>ht h w M) (fun h=>hf h w M)
theorem J.region{l0:List Oper}{pl:List (Oper×Kd)}(h:J S0 w0 L (RY S0 w0 .s P l0.toArray (KN Q) pl l))(hp:l0.map (fun o=>(o,Kd.q))=pl:=by dsimp only[List.map]):J S0 w0 L ((Code.region id l0.toArray false).wp P Q (fr l)):=fun w M=>by
 refine G.region ?_;have:=h w M;subst hp;unfold RY at this;rw[List.map_map]at this;have e:(Prod.fst ∘ fun o:Oper=>(o,Kd.q))=_root_.id:=rfl;rwa[e,List.map_id]at this
theorem J.regionX{l0:List Oper}{pl:List (Oper×Kd)}(plan:List (Nat×Kd))(hm:P.follows .mixedOrders=true)
  (hB:(Region.noSelect l0.toArray&&(Nat.beq plan.length l0.length&&planB l0.toArray (frees plan) (endB l0.toArray) plan (Array.replicate l0.length false)))=true)
  (h:J S0 w0 L (RY S0 w0 .x P l0.toArray (KN Q) pl l))(hp:pick l0 plan=pl:=by dsimp only[pick,nth]):J S0 w0 L ((Code.region id l0.toArray true).wp P Q (fr l)):=
 fun w M=>G.regionX Ext plan hm Ext.refl (fun h k=>h.tr k) hB (fun w' hw=>h w' (M.grow hw)) hp
end
section
variable{S0:Nat→Prop}{w0:World}{L:List Ent}{P:Program}{Q:Exit→Act→World→Prop}{l:List Value}{id:Nat}
theorem J.regionR{l0:List Oper}{pl:List (Oper×Kd)}(Lq:List Ent)(plan:List (Nat×Kd))(hm:P.follows .mixedOrders=true)
  (hB:(Region.noSelect l0.toArray&&(Nat.beq plan.length l0.length&&planB l0.toArray (frees plan) (endB l0.toArray) plan (Array.replicate l0.length false)))=true)(hs:Lq.Sublist L)
  (h:J S0 w0 L (RY S0 w0 (.r Lq) P l0.toArray (KN Q) pl l))(hp:pick l0 plan=pl:=by dsimp only[pick,nth]):J S0 w0 L ((Code.region id l0.toArray true).wp P Q (fr l)):=
 fun w M=>G.regionX (MR S0 w0 Lq) plan hm (fun _ h=>h) (fun h k x=>k (h x)) hB (fun w' hw=>h w' (M.grow hw) ((M.grow hw).sub hs)) hp
theorem J.regionT{l0:List Oper}(Lq:List Ent)(t:Tr)(hm:P.follows .mixedOrders=true)
  (hB:(Region.noSelect l0.toArray&&(Nat.beq t.size l0.length&&trB l0.toArray t (Array.replicate l0.length false)))=true)(hs:Lq.Sublist L)
  (h:J S0 w0 L (fun w=>Mem S0 w0 Lq w→RT P l0 (MR S0 w0 Lq) (KN Q) t l w)):J S0 w0 L ((Code.region id l0.toArray true).wp P Q (fr l)):=
 fun w M=>G.regionT (MR S0 w0 Lq) t hm (fun _ h=>h) (fun h k x=>k (h x)) hB (fun w' hw=>h w' (M.grow hw) ((M.grow hw).sub hs))
theorem J.tfin{l0:List Oper}{Lq:List Ent}{plan:List (Nat×Kd)}{pl:List (Oper×Kd)}{K:List Value→World→Prop}(h:J S0 w0 L (RY S0 w0 (.r Lq) P l0.toArray K pl l))(hp:pick l0 plan=pl:=by dsimp only[pick,nth]):J S0 w0 L (fun w=>Mem S0 w0 Lq w→RT P l0 (MR S0 w0 Lq) K (.fin plan) l w):=by subst hp;exact h
def KT(S0:Nat→Prop)(w0:World)(Lq:List Ent)(P:Program)(l0:List Oper)(K:List Value→World→Prop)(i:Nat)(p:Tr)(j:Nat)(q:Tr)(l:List Value)(w:World):Prop:=
 RX P l0.toArray (MR S0 w0 Lq) (RT P l0 (MR S0 w0 Lq) K p) [(nth l0 i, .e)] l w∧RX P l0.toArray (MR S0 w0 Lq) (RT P l0 (MR S0 w0 Lq) K q) [(nth l0 j, .e)] l w
theorem J.kt{l0:List Oper}{Lq:List Ent}{i j:Nat}{p q:Tr}{K:List Value→World→Prop}{oi oj:Oper}
  (h1:J S0 w0 L (RY S0 w0 (.r Lq) P l0.toArray (RT P l0 (MR S0 w0 Lq) K p) [(oi, .e)] l))(h2:J S0 w0 L (RY S0 w0 (.r Lq) P l0.toArray (RT P l0 (MR S0 w0 Lq) K q) [(oj, .e)] l))(hs:Lq.Sublist L:=by repeat(first|exact List.Sublist.refl _|refine List.Sublist.cons_cons _ ?_|refine List.Sublist.cons _ ?_))(hi:nth l0 i=oi:=by dsimp only[nth])(hj:nth l0 j=oj:=by dsimp only[nth]):J S0 w0 L (KT S0 w0 Lq P l0 K i p j q l):=fun w M=>by
 subst hi hj;exact⟨h1 w M (M.sub hs),h2 w M (M.sub hs)⟩
theorem J.kr{l0:List Oper}{Lq:List Ent}{p:Tr}{K:List Value→World→Prop}(h:J S0 w0 L (fun w=>Mem S0 w0 Lq w→RT P l0 (MR S0 w0 Lq) K p l w))(hs:Lq.Sublist L:=by repeat(first|exact List.Sublist.refl _|refine List.Sublist.cons_cons _ ?_|refine List.Sublist.cons _ ?_)):J S0 w0 L (RT P l0 (MR S0 w0 Lq) K p l):=fun w M=>h w M (M.sub hs)
end
/-! ### one operation -/
section
variable{S0:Nat→Prop}{w0:World}{L L':List Ent}{P:Program}{l0:List Oper}{ops:Array Oper}{K:List Value→World→Prop}{rest:List (Oper×Kd)}{l l':List Value}{m:Md}{d:Tmp}{dd:Option Tmp}{op:Op}{ty:TypeId}{pos:String}{af:Array Edge}{kd:Kd}{v:Value}{j:Nat}{t b:Bool}
theorem J.nil(h:J S0 w0 L (K l)):J S0 w0 L (RY S0 w0 m P ops K [] l):=fun w M=>by
 cases m
 ·exact RS.nil (P:=P) (ops:=ops) (h w M)
 ·exact RX.nil (P:=P) (ops:=ops) (R:=Ext) (h w M)
 ·exact fun _=>RX.nil (P:=P) (ops:=ops) (h w M)
theorem J.nilN{Q:Exit→Act→World→Prop}(h:J S0 w0 L (Q .normal (fr l))):J S0 w0 L (RY S0 w0 m P ops (KN Q) [] l):=J.nil h
theorem J.norm(h:l=l')(k:J S0 w0 L (RY S0 w0 m P ops K rest l')):J S0 w0 L (RY S0 w0 m P ops K rest l):=h▸k
theorem J.val(hr:∀w,Mem S0 w0 (Lv m L) w→(execOp (ev l) ⟨some d,op,ty,pos,af,none⟩).run P w= .ok (.value v) w)(k:J S0 w0 L (RY S0 w0 m P ops K rest l'))(hl:l.set d v=l':=by dsimp only[List.set]):
  J S0 w0 L (RY S0 w0 m P ops K ((⟨some d,op,ty,pos,af,none⟩, .q)::rest) l):=fun w M=>by
 cases m
 ·exact RS.o (hr w M) (k w M) hl
 ·exact RX.o (fun w' hw=>hr w' (M.grow hw)) (k w M) hl
 ·exact fun Mq=>RX.o (fun w' hw=>hr w' (hw Mq)) (k w M Mq) hl
def pureK:Kd→Bool
 | .q| .c=>true
 |_=>false
theorem J.pur(hk:pureK kd=true)(hr:∀w,(execOp (ev l) ⟨some d,op,ty,pos,af,none⟩).run P w= .ok (.value v) w)(k:J S0 w0 L (RY S0 w0 m P ops K rest l'))(hl:l.set d v=l':=by dsimp only[List.set]):
  J S0 w0 L (RY S0 w0 m P ops K ((⟨some d,op,ty,pos,af,none⟩,kd)::rest) l):=fun w M=>by
 cases m
 ·exact RS.o (hr w) (k w M) hl
 ·cases kd<;>first|cases hk|skip
  ·exact RX.o (fun w' hw=>hr w') (k w M) hl
  ·exact RX.co hr (k w M) hl
 ·cases kd<;>first|cases hk|skip
  ·exact fun Mq=>RX.o (fun w' hw=>hr w') (k w M Mq) hl
  ·exact fun Mq=>RX.co hr (k w M Mq) hl
def okE(m:Md)(kd:Kd):Bool:=match m,kd with
 | .s,_=>true
 |_, .e=>true
 |_, .g=>true
 |_,_=>false
def okG(m:Md)(kd:Kd)(L':List Ent):Prop:=match m,kd with
 | .s,_=>True
 | .x, .g=>True
 | .r Lq, .e=>Lq.Sublist L'
 | .r Lq, .g=>Lq.Sublist L'
 |_,_=>False
theorem rs_one{o:Oper}{pl:List (Oper×Kd)}{l:List Value}{w:World}(h:RS P ops (fun l' w'=>RS P ops K (pl.map Prod.fst) l' w') [o] l w):RS P ops K (o::pl.map Prod.fst) l w:=by
 unfold RS at h⊢;exact h
theorem J.eff(hk:okE m kd=true)(h:∀w,Mem S0 w0 L w→∀K':List Value→World→Prop,(∀l' w',Ext w w'→RY S0 w0 m P ops K rest l' w'→K' l' w')→RS P ops K' [⟨dd,op,ty,pos,af,none⟩] l w):
  J S0 w0 L (RY S0 w0 m P ops K ((⟨dd,op,ty,pos,af,none⟩,kd)::rest) l):=fun w M=>by
 cases m
 ·exact rs_one (h w M (fun l' w'=>RS P ops K (rest.map Prod.fst) l' w') (fun l' w' _ h=>h))
 ·cases kd<;>first|cases hk|skip
  ·exact RX.eff (h w M _ fun l' w' x h=>⟨x,h⟩)
  ·exact RX.big (h w M _ fun l' w' _ h=>h)
 ·cases kd<;>first|cases hk|skip
  ·exact fun Mq=>RX.eff (h w M _ fun l' w' x h=>⟨fun _=>Mq.grow x,h (Mq.grow x)⟩)
  ·exact fun Mq=>RX.big (h w M _ fun l' w' x h=>h (Mq.grow x))
theorem J.big{L':List Ent}(hk:okG m kd L')(h:∀w,Mem S0 w0 L w→∀K':List Value→World→Prop,(∀l' w',Mem S0 w0 L' w'→RY S0 w0 m P ops K rest l' w'→K' l' w')→RS P ops K' [⟨dd,op,ty,pos,af,none⟩] l w):
  J S0 w0 L (RY S0 w0 m P ops K ((⟨dd,op,ty,pos,af,none⟩,kd)::rest) l):=fun w M=>by
 cases m
 ·exact rs_one (h w M (fun l' w'=>RS P ops K (rest.map Prod.fst) l' w') (fun l' w' _ h=>h))
 ·cases kd
  ·exact False.elim hk
  ·exact False.elim hk
  ·exact RX.big (h w M _ fun l' w' _ h=>h)
  ·exact False.elim hk
 ·cases kd
  ·exact False.elim hk
  ·exact fun Mq=>RX.eff (h w M _ fun l' w' M' h=>⟨fun _=>M'.sub hk,h (M'.sub hk)⟩)
  ·exact fun Mq=>RX.big (h w M _ fun l' w' M' h=>h (M'.sub hk))
  ·exact False.elim hk
theorem J.bigs{ι:Type}(i0:ι){Ls:ι→List Ent}(hk:∀i,okG m kd (Ls i))(h:∀w,Mem S0 w0 L w→∀K':List Value→World→Prop,(∀l' w' i,Mem S0 w0 (Ls i) w'→RY S0 w0 m P ops K rest l' w'→K' l' w')→RS P ops K' [⟨dd,op,ty,pos,af,none⟩] l w):
  J S0 w0 L (RY S0 w0 m P ops K ((⟨dd,op,ty,pos,af,none⟩,kd)::rest) l):=fun w M=>by
 cases m
 ·exact rs_one (h w M (fun l' w'=>RS P ops K (rest.map Prod.fst) l' w') (fun l' w' _ _ h=>h))
 ·cases kd
  ·exact False.elim (hk i0)
  ·exact False.elim (hk i0)
  ·exact RX.big (h w M _ fun l' w' _ _ h=>h)
  ·exact False.elim (hk i0)
 ·cases kd
  ·exact False.elim (hk i0)
  ·exact fun Mq=>RX.eff (h w M _ fun l' w' i M' h=>⟨fun _=>M'.sub (hk i),h (M'.sub (hk i))⟩)
  ·exact fun Mq=>RX.big (h w M _ fun l' w' i M' h=>h (M'.sub (hk i)))
  ·exact False.elim (hk i0)
/-! guards -/
theorem J.want{s:Nat}(hj:(l0[j]?).bind (·.dst)=some s)(hl:l.getD s undef= .bool t)(hs:Nat.ble (s+1) l.length=true)(k:J S0 w0 L (RY S0 w0 m P l0.toArray K ((⟨dd,op,ty,pos,af,none⟩,kd)::rest) l)):
  J S0 w0 L (RY S0 w0 m P l0.toArray K ((⟨dd,op,ty,pos,af,some (j,t)⟩,kd)::rest) l):=fun w M=>by
 cases m
 ·exact RS.wantB s hj hl hs (k w M)
 ·exact RX.wantB s hj hl hs (k w M)
 ·exact fun Mq=>RX.wantB s hj hl hs (k w M Mq)
theorem J.skipg{s:Nat}(hj:(l0[j]?).bind (·.dst)=some s)(hl:l.getD s undef= .bool b)(hs:Nat.ble (s+1) l.length=true)(hb:(b==t)=false)(k:J S0 w0 L (RY S0 w0 m P l0.toArray K rest l'))(hp:putL dd undef l=l':=by dsimp only[putL,List.set]):
  J S0 w0 L (RY S0 w0 m P l0.toArray K ((⟨dd,op,ty,pos,af,some (j,t)⟩,kd)::rest) l):=fun w M=>by
 subst hp;cases m
 ·exact RS.skipB s hj hl hs hb (k w M)
 ·exact RX.skipB s hj hl hs hb (k w M)
 ·exact fun Mq=>RX.skipB s hj hl hs hb (k w M Mq)
theorem J.skipu{s:Nat}(hj:(l0[j]?).bind (·.dst)=some s)(hl:l.getD s undef=undef)(hs:Nat.ble (s+1) l.length=true)(k:J S0 w0 L (RY S0 w0 m P l0.toArray K rest l'))(hp:putL dd undef l=l':=by dsimp only[putL,List.set]):
  J S0 w0 L (RY S0 w0 m P l0.toArray K ((⟨dd,op,ty,pos,af,some (j,t)⟩,kd)::rest) l):=fun w M=>by
 subst hp;cases m
 ·exact RS.skipU s hj hl hs (k w M)
 ·exact RX.skipU s hj hl hs (k w M)
 ·exact fun Mq=>RX.skipU s hj hl hs (k w M Mq)
theorem J.split{s:Nat}{b:Bool}(hs:Nat.ble (s+1) l.length=true)(h:l.getD s undef= .bool b)(ht:b=true→J S0 w0 L (RY S0 w0 m P ops K rest (l.set s (.bool true))))(hf:b=false→J S0 w0 L (RY S0 w0 m P ops K rest (l.set s (.bool false)))):
  J S0 w0 L (RY S0 w0 m P ops K rest l):=by
 cases hb:b
 ·have:=hf hb;rwa[set_self (by rw[h,hb]) (Nat.le_of_ble_eq_true hs)]at this
 ·have:=ht hb;rwa[set_self (by rw[h,hb]) (Nat.le_of_ble_eq_true hs)]at this
theorem J.sp{s:Nat}{b:Bool}{lt lf:List Value}(hj:(l0[j]?).bind (·.dst)=some s)(h:l.getD s undef= .bool b)(hs:Nat.ble (s+1) l.length=true)
  (kt:b=true→J S0 w0 L (RY S0 w0 m P l0.toArray K ((⟨dd,op,ty,pos,af,some (j,t)⟩,kd)::rest) lt))(kf:b=false→J S0 w0 L (RY S0 w0 m P l0.toArray K ((⟨dd,op,ty,pos,af,some (j,t)⟩,kd)::rest) lf))
  (ht:l.set s (.bool true)=lt:=by dsimp only[List.set])(hf:l.set s (.bool false)=lf:=by dsimp only[List.set]):
  J S0 w0 L (RY S0 w0 m P l0.toArray K ((⟨dd,op,ty,pos,af,some (j,t)⟩,kd)::rest) l):=by
 subst ht hf;exact J.split hs h kt kf
theorem J.spd{s:Nat}{p:Prop}[Decidable p]{lt lf:List Value}(hj:(l0[j]?).bind (·.dst)=some s)(h:l.getD s undef= .bool (decide p))(hs:Nat.ble (s+1) l.length=true)(kt:p→J S0 w0 L (RY S0 w0 m P l0.toArray K ((⟨dd,op,ty,pos,af,some (j,t)⟩,kd)::rest) lt))(kf:¬p→J S0 w0 L (RY S0 w0 m P l0.toArray K ((⟨dd,op,ty,pos,af,some (j,t)⟩,kd)::rest) lf))
  (ht:l.set s (.bool true)=lt:=by dsimp only[List.set])(hf:l.set s (.bool false)=lf:=by dsimp only[List.set]):J S0 w0 L (RY S0 w0 m P l0.toArray K ((⟨dd,op,ty,pos,af,some (j,t)⟩,kd)::rest) l):=J.sp hj h hs (fun h=>kt (of_decide_eq_true h)) (fun h=>kf (of_decide_eq_false h)) ht hf
theorem J.spe{s:Nat}{p q:Int}{lt lf:List Value}(hj:(l0[j]?).bind (·.dst)=some s)(h:l.getD s undef= .bool (p==q))(hs:Nat.ble (s+1) l.length=true)(kt:p=q→J S0 w0 L (RY S0 w0 m P l0.toArray K ((⟨dd,op,ty,pos,af,some (j,t)⟩,kd)::rest) lt))(kf:p≠q→J S0 w0 L (RY S0 w0 m P l0.toArray K ((⟨dd,op,ty,pos,af,some (j,t)⟩,kd)::rest) lf))
  (ht:l.set s (.bool true)=lt:=by dsimp only[List.set])(hf:l.set s (.bool false)=lf:=by dsimp only[List.set]):J S0 w0 L (RY S0 w0 m P l0.toArray K ((⟨dd,op,ty,pos,af,some (j,t)⟩,kd)::rest) l):=J.sp hj h hs (fun h=>kt (by simpa using h)) (fun h=>kf (by simpa using h)) ht hf
theorem J.spn{s:Nat}{p q:Int}{lt lf:List Value}(hj:(l0[j]?).bind (·.dst)=some s)(h:l.getD s undef= .bool (p != q))(hs:Nat.ble (s+1) l.length=true)(kt:p≠q→J S0 w0 L (RY S0 w0 m P l0.toArray K ((⟨dd,op,ty,pos,af,some (j,t)⟩,kd)::rest) lt))(kf:p=q→J S0 w0 L (RY S0 w0 m P l0.toArray K ((⟨dd,op,ty,pos,af,some (j,t)⟩,kd)::rest) lf))
  (ht:l.set s (.bool true)=lt:=by dsimp only[List.set])(hf:l.set s (.bool false)=lf:=by dsimp only[List.set]):J S0 w0 L (RY S0 w0 m P l0.toArray K ((⟨dd,op,ty,pos,af,some (j,t)⟩,kd)::rest) l):=J.sp hj h hs (fun h=>kt (by simpa using h)) (fun h=>kf (by simpa using h)) ht hf
theorem J.spt{s:Nat}{b:Bool}{lt lf:List Value}(hj:(l0[j]?).bind (·.dst)=some s)(h:l.getD s undef= .bool (!b))(hs:Nat.ble (s+1) l.length=true)(kt:b=false→J S0 w0 L (RY S0 w0 m P l0.toArray K ((⟨dd,op,ty,pos,af,some (j,t)⟩,kd)::rest) lt))(kf:b=true→J S0 w0 L (RY S0 w0 m P l0.toArray K ((⟨dd,op,ty,pos,af,some (j,t)⟩,kd)::rest) lf))
  (ht:l.set s (.bool true)=lt:=by dsimp only[List.set])(hf:l.set s (.bool false)=lf:=by dsimp only[List.set]):J S0 w0 L (RY S0 w0 m P l0.toArray K ((⟨dd,op,ty,pos,af,some (j,t)⟩,kd)::rest) l):=J.sp hj h hs (fun h=>kt (by simpa using h)) (fun h=>kf (by simpa using h)) ht hf
variable{x y z:Operand}{xt yt:TypeId}{k:IntKind}{p q r:Int}{b':Bool}
/-! values -/
theorem J.mv(hk:pureK kd=true)(k:J S0 w0 L (RY S0 w0 m P ops K rest l'))(hv:ev l x=v:=by((conv=>lhs;whnf)<;>rfl))(hl:l.set d v=l':=by dsimp only[List.set]):
  J S0 w0 L (RY S0 w0 m P ops K ((⟨some d, .move x,ty,pos,af,none⟩,kd)::rest) l):=J.pur hk (fun w=>by simp only[execOp];rw[hv];rfl) k hl
theorem J.as(hk:pureK kd=true)(k:J S0 w0 L (RY S0 w0 m P ops K rest l'))(hv:ev l x=v:=by((conv=>lhs;whnf)<;>rfl))(hl:l.set d v=l':=by dsimp only[List.set]):
  J S0 w0 L (RY S0 w0 m P ops K ((⟨some d, .assign x,ty,pos,af,none⟩,kd)::rest) l):=J.pur hk (fun w=>by simp only[execOp];rw[hv];rfl) k hl
theorem J.pk(hk:pureK kd=true)(hc:ev l x= .bool b)(k:J S0 w0 L (RY S0 w0 m P ops K rest l'))(hv:(if b then ev l y else ev l z)=v:=by((conv=>lhs;whnf)<;>rfl))(hl:l.set d v=l':=by dsimp only[List.set]):
  J S0 w0 L (RY S0 w0 m P ops K ((⟨some d, .pick x y z,ty,pos,af,none⟩,kd)::rest) l):=J.pur (v:=if b then ev l y else ev l z) hk (fun w=>by simp only[execOp];rw[hc];cases b<;>rfl) k (by rw[hv];exact hl)
theorem J.ex{i:Nat}{vs:Array Value}(hk:pureK kd=true)(hx:ev l x= .tuple vs)(k:J S0 w0 L (RY S0 w0 m P ops K rest l'))(hv:vs[i]? =some v:=by((conv=>lhs;whnf)<;>rfl))(hl:l.set d v=l':=by dsimp only[List.set]):
  J S0 w0 L (RY S0 w0 m P ops K ((⟨some d, .extract x i,ty,pos,af,none⟩,kd)::rest) l):=J.pur hk (fun w=>by simp only[execOp];rw[hx];simp only[Instr.extract,hv];rfl) k hl
theorem J.nc{a:Addr}(hk:pureK kd=true)(hx:ev l x= .pointer (some a))(k:J S0 w0 L (RY S0 w0 m P ops K rest l'))(hl:l.set d (.pointer (some a))=l':=by dsimp only[List.set]):
  J S0 w0 L (RY S0 w0 m P ops K ((⟨some d, .nilCheck x,ty,pos,af,none⟩,kd)::rest) l):=J.pur hk (fun w=>by simp only[execOp];rw[hx];rfl) k hl
theorem J.add(hk:pureK kd=true)(hx:ev l x= .int k p)(hy:ev l y= .int k q)(kk:J S0 w0 L (RY S0 w0 m P ops K rest l'))(hw:k.wrap (p+q)=r:=by first|exact W.i64 (by omega)|exact W.u64 (by omega)|exact W.u32 (by omega)|exact W.u8 (by omega)|exact W.i32 (by omega))(hl:l.set d (.int k r)=l':=by dsimp only[List.set]):J S0 w0 L (RY S0 w0 m P ops K ((⟨some d, .binOp .add xt x y yt,ty,pos,af,none⟩,kd)::rest) l):=J.pur hk (fun _=>D.add hx hy hw) kk hl
theorem J.sub(hk:pureK kd=true)(hx:ev l x= .int k p)(hy:ev l y= .int k q)(kk:J S0 w0 L (RY S0 w0 m P ops K rest l'))(hw:k.wrap (p - q)=r:=by first|exact W.i64 (by omega)|exact W.u64 (by omega)|exact W.u32 (by omega)|exact W.u8 (by omega)|exact W.i32 (by omega))(hl:l.set d (.int k r)=l':=by dsimp only[List.set]):J S0 w0 L (RY S0 w0 m P ops K ((⟨some d, .binOp .sub xt x y yt,ty,pos,af,none⟩,kd)::rest) l):=J.pur hk (fun _=>D.sub hx hy hw) kk hl
theorem J.eq(hk:pureK kd=true)(hx:ev l x= .int k p)(hy:ev l y= .int k q)(kk:J S0 w0 L (RY S0 w0 m P ops K rest l'))(hl:l.set d (.bool (p==q))=l':=by dsimp only[List.set]):J S0 w0 L (RY S0 w0 m P ops K ((⟨some d, .binOp .eql xt x y yt,ty,pos,af,none⟩,kd)::rest) l):=J.pur hk (fun _=>D.eq hx hy) kk hl
theorem J.ne(hk:pureK kd=true)(hx:ev l x= .int k p)(hy:ev l y= .int k q)(kk:J S0 w0 L (RY S0 w0 m P ops K rest l'))(hl:l.set d (.bool (p != q))=l':=by dsimp only[List.set]):J S0 w0 L (RY S0 w0 m P ops K ((⟨some d, .binOp .neq xt x y yt,ty,pos,af,none⟩,kd)::rest) l):=J.pur hk (fun _=>D.ne hx hy) kk hl
theorem J.lt(hk:pureK kd=true)(hx:ev l x= .int k p)(hy:ev l y= .int k q)(kk:J S0 w0 L (RY S0 w0 m P ops K rest l'))(hl:l.set d (.bool (decide (p<q)))=l':=by dsimp only[List.set]):J S0 w0 L (RY S0 w0 m P ops K ((⟨some d, .binOp .lss xt x y yt,ty,pos,af,none⟩,kd)::rest) l):=J.pur hk (fun _=>D.lt hx hy) kk hl
theorem J.le(hk:pureK kd=true)(hx:ev l x= .int k p)(hy:ev l y= .int k q)(kk:J S0 w0 L (RY S0 w0 m P ops K rest l'))(hl:l.set d (.bool (decide (p≤q)))=l':=by dsimp only[List.set]):J S0 w0 L (RY S0 w0 m P ops K ((⟨some d, .binOp .leq xt x y yt,ty,pos,af,none⟩,kd)::rest) l):=J.pur hk (fun _=>D.le hx hy) kk hl
theorem J.gt(hk:pureK kd=true)(hx:ev l x= .int k p)(hy:ev l y= .int k q)(kk:J S0 w0 L (RY S0 w0 m P ops K rest l'))(hl:l.set d (.bool (decide (q<p)))=l':=by dsimp only[List.set]):J S0 w0 L (RY S0 w0 m P ops K ((⟨some d, .binOp .gtr xt x y yt,ty,pos,af,none⟩,kd)::rest) l):=J.pur hk (fun _=>D.gt hx hy) kk hl
theorem J.ge(hk:pureK kd=true)(hx:ev l x= .int k p)(hy:ev l y= .int k q)(kk:J S0 w0 L (RY S0 w0 m P ops K rest l'))(hl:l.set d (.bool (decide (q≤p)))=l':=by dsimp only[List.set]):J S0 w0 L (RY S0 w0 m P ops K ((⟨some d, .binOp .geq xt x y yt,ty,pos,af,none⟩,kd)::rest) l):=J.pur hk (fun _=>D.ge hx hy) kk hl
theorem J.seq{s t:ByteArray}(hk:pureK kd=true)(hx:ev l x= .string s)(hy:ev l y= .string t)(kk:J S0 w0 L (RY S0 w0 m P ops K rest l'))(hl:l.set d (.bool (s.toList==t.toList))=l':=by dsimp only[List.set]):J S0 w0 L (RY S0 w0 m P ops K ((⟨some d, .binOp .eql xt x y yt,ty,pos,af,none⟩,kd)::rest) l):=J.pur hk (fun _=>D.seq hx hy) kk hl
theorem J.not{b:Bool}(hk:pureK kd=true)(hx:ev l x= .bool b){b':Bool}(kk:J S0 w0 L (RY S0 w0 m P ops K rest l'))(hv:(!b)=b':=by first|rfl|skip)(hl:l.set d (.bool b')=l':=by dsimp only[List.set]):J S0 w0 L (RY S0 w0 m P ops K ((⟨some d, .unOp .not xt x,ty,pos,af,none⟩,kd)::rest) l):=J.pur hk (fun _=>by subst hv;exact D.not hx) kk hl
theorem J.ln{a:Option Addr}{n c:Nat}{e:TypeId}[U:Und P xt (.slice e)](hk:pureK kd=true)(hx:ev l x= .slice a n c)(kk:J S0 w0 L (RY S0 w0 m P ops K rest l'))(hl:l.set d (.int .i64 n)=l':=by dsimp only[List.set]):J S0 w0 L (RY S0 w0 m P ops K ((⟨some d, .call {callee:= .builtin .len,args:= #[x],argTypes:= #[xt]},ty,pos,af,none⟩,kd)::rest) l):=J.pur hk (fun _=>D.len hx U.h) kk hl
theorem J.cp{a:Option Addr}{n c:Nat}{e:TypeId}[U:Und P xt (.slice e)](hk:pureK kd=true)(hx:ev l x= .slice a n c)(kk:J S0 w0 L (RY S0 w0 m P ops K rest l'))(hl:l.set d (.int .i64 c)=l':=by dsimp only[List.set]):J S0 w0 L (RY S0 w0 m P ops K ((⟨some d, .call {callee:= .builtin .cap,args:= #[x],argTypes:= #[xt]},ty,pos,af,none⟩,kd)::rest) l):=J.pur hk (fun _=>D.cap hx U.h) kk hl
theorem J.cv{s:TypeId}{k':IntKind}{sd:TypeDesc}[U1:Und P s sd][U:Und P xt (.int k')](hk:pureK kd=true)(hx:ev l x= .int k p)(kk:J S0 w0 L (RY S0 w0 m P ops K rest l'))(hw:k'.wrap p=r:=by first|exact W.i64 (by omega)|exact W.u64 (by omega)|exact W.u32 (by omega)|exact W.u8 (by omega)|exact W.i32 (by omega))(hl:l.set d (.int k' r)=l':=by dsimp only[List.set]):J S0 w0 L (RY S0 w0 m P ops K ((⟨some d, .convert s xt x,ty,pos,af,none⟩,kd)::rest) l):=J.pur hk (fun _=>D.conv hx U1.h U.h hw) kk hl
theorem J.bs{parts:Array (Nat×Operand)}{pl:List (Nat×Nat)}{sz by_:Nat}{zs cs:List Value}{ps:List (Nat×Value)}[I:Inf P xt sz by_ zs][I2:SInf P xt pl](hk:pureK kd=true)(hv:parts.toList.map (fun p=>(p.1,ev l p.2))=ps)(kk:J S0 w0 L (RY S0 w0 m P ops K rest l'))(hf:fillL pl zs ps=some cs:=by rfl)(hl:l.set d (.agg cs.toArray)=l':=by dsimp only[List.set]):J S0 w0 L (RY S0 w0 m P ops K ((⟨some d, .build xt parts,ty,pos,af,none⟩,kd)::rest) l):=J.pur hk (fun _=>D.buildS I.h I2.h hv hf) kk hl
theorem J.sl{lo hi:Option Operand}{li hi':Int}{a a':Option Addr}{n c n' c' sz:Nat}{e:TypeId}[U:Und P xt (.slice e)][Z:Siz P e sz](hk:pureK kd=true)(hx:ev l x= .slice a n c)(h1:(lo.map (ev l)).getD (.int .i64 0)= .int .i64 li)(h2:(hi.map (ev l)).getD (.int .i64 n)= .int .i64 hi')(kk:J S0 w0 L (RY S0 w0 m P ops K rest l'))(hz:sz≠0:=by decide)(hb:0≤li∧li≤hi'∧hi'≤c:=by omega)(hn:n≤c:=by omega)(ha:subA a li.toNat sz c=a':=by rfl)(hn':hi'.toNat - li.toNat=n':=by rfl)(hc':c - li.toNat=c':=by rfl)(hl:l.set d (.slice a' n' c')=l':=by dsimp only[List.set]):J S0 w0 L (RY S0 w0 m P ops K ((⟨some d, .slice xt x lo hi none,ty,pos,af,none⟩,kd)::rest) l):=J.pur hk (fun _=>by subst ha hn' hc';exact D.slice hx U.h Z.h hz h1 h2 hb hn) kk hl
theorem J.shr{k2:IntKind}{q':Int}(hk:pureK kd=true)(hx:ev l x= .int k p)(hy:ev l y= .int k2 q)(kk:J S0 w0 L (RY S0 w0 m P ops K rest l'))(hb:0≤q∧q≤k.bits:=by decide)(hq:(2:Int) ^ q.toNat=q':=by dsimp only[Int.reduceToNat,Int.reducePow])(hl:l.set d (.int k (p / q'))=l':=by dsimp only[List.set]):J S0 w0 L (RY S0 w0 m P ops K ((⟨some d, .binOp .shr xt x y yt,ty,pos,af,none⟩,kd)::rest) l):=J.pur hk (fun _=>by rw[←hq];exact D.shr hx hy hb) kk hl
theorem J.eqI{e n:Nat}{xs ys:List Int}[U:Und P xt (.array n e)][U2:Und P e (.int k)][Z:Siz P e 1](hk:pureK kd=true)(hx:ev l x= .agg (ints k xs).toArray)(hy:ev l y= .agg (ints k ys).toArray)(kk:J S0 w0 L (RY S0 w0 m P ops K rest l'))(hg:P.eqGuardType P.depth xt=false:=by kernel_rfl)(lx:xs.length=n:=by first|rfl|assumption|exact And.left (by assumption)|exact WRow.elt_len (by assumption) (by omega)|(subst_vars;exact WRow.elt_len (by assumption) (by omega)))(ly:ys.length=n:=by first|rfl|assumption|exact And.left (by assumption)|exact WRow.elt_len (by assumption) (by omega)|(subst_vars;exact WRow.elt_len (by assumption) (by omega)))(hn:0<n:=by decide)(hl:l.set d (.bool (decide (xs=ys)))=l':=by dsimp only[List.set]):J S0 w0 L (RY S0 w0 m P ops K ((⟨some d, .binOp .eql xt x y yt,ty,pos,af,none⟩,kd)::rest) l):=J.pur hk (fun _=>D.eqI hx hy U.h U2.h Z.h hg lx ly hn) kk hl
theorem J.fl{b o i off ad:Nat}[F:Fld P xt i off](hk:pureK kd=true)(hx:ev l x= .pointer (some ⟨b,o,none⟩))(k:J S0 w0 L (RY S0 w0 m P ops K rest l'))(ha:o+off=ad:=by first|dsimp only[Nat.reduceAdd]|rfl)(hl:l.set d (.pointer (some ⟨b,ad,none⟩))=l':=by dsimp only[List.set]):
  J S0 w0 L (RY S0 w0 m P ops K ((⟨some d, .fieldAddr xt x i,ty,pos,af,none⟩,kd)::rest) l):=by
 obtain⟨fs,f,sz,h1,h2,h3,h4,rfl⟩:=F.h;subst ha;exact J.pur hk (fun w=>D.fieldAddr hx h1 h2 h3 h4) k hl
theorem J.mx{ts:Array TypeId}(hk:pureK kd=true)(hx:ev l x= .int k p)(hy:ev l y= .int k q)(kk:J S0 w0 L (RY S0 w0 m P ops K rest l'))(hl:l.set d (.int k (if q>p then q else p))=l':=by dsimp only[List.set]):J S0 w0 L (RY S0 w0 m P ops K ((⟨some d, .call {callee:= .builtin .max,args:= #[x,y],argTypes:=ts},ty,pos,af,none⟩,kd)::rest) l):=J.pur hk (fun _=>D.max2 hx hy) kk hl
end
class LenC(vs:List Value)(n:outParam Nat):Prop where
 h:vs.length=n
 c:vs.all cellB=true
def Ent.blk(b:Nat)(cs:List Value)(T:TypeId):Ent:=
 ⟨fun S w=>S b∧Blk w b cs T,fun {S w w'} h k=>⟨h.1,by unfold Blk;rw[k b h.1 h.2.lt];exact h.2⟩,fun {S T w} h k=>⟨k b h.2.lt h.1,h.2⟩⟩
theorem Rpl.same{L L':List Ent}{e e':Ent}(h:Rpl L e e' L'):Rpl L e e L:=by
 induction h with
 |here=>exact .here
 |there _ ih=>exact .there ih
class RB(L:List Ent)(b:Nat)(cs:outParam (List Value))(T:outParam TypeId)(F:outParam (List Value→List Ent)):Prop where h:∀cs',Rpl L (.blk b cs T) (.blk b cs' T) (F cs')
instance RB.here{b:Nat}{cs:List Value}{T:TypeId}{L:List Ent}:RB (.blk b cs T::L) b cs T (fun cs'=> .blk b cs' T::L):=⟨fun _=> .here⟩
instance(priority:=low) RB.there{b:Nat}{cs:List Value}{T:TypeId}{L:List Ent}{x:Ent}{F:List Value→List Ent}[R:RB L b cs T F]:RB (x::L) b cs T (fun cs'=>x::F cs'):=⟨fun cs'=> .there (R.h cs')⟩
def Ent.irow(k:IntKind)(a:Option Addr)(n:Nat)(xs:List Int):Ent:=
 ⟨fun S w=>IRow k S w a n xs,fun h x=>⟨h.row.step x,h.len,h.bd⟩,fun h x=>h.weaken x⟩
def Ent.iown(e:TypeId)(k:IntKind)(a:Option Addr)(n c:Nat)(xs:List Int):Ent:=
 ⟨fun S w=>IOwn 0 w e k a n c xs∧∀b,obk a=some b→S b,fun h x=>⟨⟨h.1.own.step fun b hb=>x b (h.2 b hb),h.1.bd⟩,h.2⟩,fun h x=>⟨h.1,fun b hb=>x b (h.1.own.lo b hb).2 (h.2 b hb)⟩⟩
def Ent.wrow(k:IntKind)(sz:Nat)(a:Option Addr)(n:Nat)(xs:List Int):Ent:=
 ⟨fun S w=>WRow k sz S w a n xs,fun h x=>⟨h.row.step x,h.len,h.bd⟩,fun h x=>h.weaken x⟩
def Ent.wown(e:TypeId)(k:IntKind)(sz:Nat)(a:Option Addr)(n c:Nat)(xs:List Int):Ent:=
 ⟨fun S w=>WOwn 0 w e k sz a n c xs∧∀b,obk a=some b→S b,fun h x=>⟨⟨h.1.own.step fun b hb=>x b (h.2 b hb),h.1.bd⟩,h.2⟩,fun h x=>⟨h.1,fun b hb=>x b (h.1.own.lo b hb).2 (h.2 b hb)⟩⟩
def Ent.grow{α:Type}(f:α→List Value)(sz:Nat)(a:Option Addr)(n:Nat)(lst:List α):Ent:=
 ⟨fun S w=>GRow f sz S w a n lst,fun h x=>⟨h.row.step x,h.len,h.szf⟩,fun h x=>h.weaken x⟩
section
variable{S0 S:Nat→Prop}{w0 w:World}{L L':List Ent}{b n c sz:Nat}{cs:List Value}{T e:TypeId}{k:IntKind}{a:Option Addr}{xs:List Int}{α:Type}{f:α→List Value}{g:α→List Inn}{lst:List α}
theorem Mem.blk(M:Mem S0 w0 L w)(r:Rpl L (.blk b cs T) (.blk b cs T) L):Blk w b cs T:=let ⟨_,_,h⟩:=M.get r;h.2
/-! rows that can be read -/
def RI(S0:Nat→Prop)(w0:World)(L:List Ent)(k:IntKind)(a:Option Addr)(n:Nat)(xs:List Int):Prop:=∀w,Mem S0 w0 L w→∃S,IRow k S w a n xs
def RW(S0:Nat→Prop)(w0:World)(L:List Ent)(k:IntKind)(sz:Nat)(a:Option Addr)(n:Nat)(xs:List Int):Prop:=∀w,Mem S0 w0 L w→∃S,WRow k sz S w a n xs
def RG{α:Type}(S0:Nat→Prop)(w0:World)(L:List Ent)(f:α→List Value)(sz:Nat)(a:Option Addr)(n:Nat)(lst:List α):Prop:=∀w,Mem S0 w0 L w→∃S,GRow f sz S w a n lst
theorem RG.arg(h:GRow f sz S w0 a n lst):RG no w0 L f sz a n lst:=fun w M=>⟨S,h.ext M.ext⟩
theorem RG.row(r:Rpl L (.grow f sz a n lst) (.grow f sz a n lst) L):RG S0 w0 L f sz a n lst:=fun w M=>let ⟨S,_,h⟩:=M.get r;⟨S,h⟩
end
section
variable{S0:Nat→Prop}{w0:World}{L L' E:List Ent}{P:Program}{l0:List Oper}{ops:Array Oper}{K:List Value→World→Prop}{rest:List (Oper×Kd)}{l l':List Value}{m:Md}{d:Tmp}{op:Op}{ty:TypeId}{pos:String}{af:Array Edge}{kd:Kd}{v:Value}{x y z:Operand}{xt yt e T:TypeId}{b o n c sz by_:Nat}{cs cs' vs zs:List Value}{ed:TypeDesc}
 {k ki:IntKind}{a:Option Addr}{xs:List Int}{i:Int}{α:Type}{f:α→List Value}{lst:List α}
theorem J.alloc[I:Inf P e sz by_ zs]{l':Nat→List Value}(hk:okE m kd=true)(k:∀b,J S0 w0 (.blk b zs e::L) (RY S0 w0 m P ops K rest (l' b)))(hl:∀b,l.set d (.pointer (some ⟨b,0,none⟩))=l' b:=by intro b;dsimp only[List.set]):
  J S0 w0 L (RY S0 w0 m P ops K ((⟨some d, .alloc e,ty,pos,af,none⟩,kd)::rest) l):=J.eff hk fun w M K' hK=>RS.alloc I.h fun b w' e1 s1 x1 B=>RS.nil (hK _ w' x1 (by rw[hl];exact k b w' (M.new x1 ⟨by subst e1;exact Nat.le_refl _,B⟩)))
theorem J.box{l':Nat→List Value}(hk:okE m kd=true)(hx:ev l x=v)(hc:v.cells=cs.toArray)(k:∀b,J S0 w0 (.blk b cs e::L) (RY S0 w0 m P ops K rest (l' b)))(hl:∀b,l.set d (.pointer (some ⟨b,0,none⟩))=l' b:=by intro b;dsimp only[List.set]):
  J S0 w0 L (RY S0 w0 m P ops K ((⟨some d, .box e x,ty,pos,af,none⟩,kd)::rest) l):=J.eff hk fun w M K' hK=>RS.box hx hc fun b w' e1 s1 x1 B=>RS.nil (hK _ w' x1 (by rw[hl];exact k b w' (M.new x1 ⟨by subst e1;exact Nat.le_refl _,B⟩)))
theorem Mem.store{w w':World}(M:Mem S0 w0 L w)(r:Rpl L (.blk b cs T) (.blk b cs' T) L')(x:St b w w')(B:Blk w' b cs' T):Mem S0 w0 L' w':=by
 obtain⟨S,h1,h2,h3⟩:=M.foc r;exact h3 w' S ⟨x.os,x.tape,x.output,by rw[x.size];exact Nat.le_refl _,fun q _ hq=>x.block q fun e=>hq (e▸h2.1)⟩ ⟨h2.1,B⟩ fun _ hb=> .inl hb
theorem J.st[Z:Siz P xt 1]{F:List Value→List Ent}(hx:ev l x= .pointer (some ⟨b,o,none⟩))[R:RB L b cs T F](k:J S0 w0 (F cs') (RY S0 w0 m P ops K rest l))(hy:ev l y=v:=by((conv=>lhs;whnf)<;>rfl))(hv:cellB v=true:=by rfl)
  (ho:Nat.ble (o+1) cs.length=true:=by rfl)(hc:cs.set o v=cs':=by dsimp only[List.set])(hk:okG m kd (F cs'):=by first|exact trivial|(repeat(first|exact List.Sublist.refl _|refine List.Sublist.cons_cons _ ?_|refine List.Sublist.cons _ ?_))):J S0 w0 L (RY S0 w0 m P ops K ((⟨none, .store xt x y,ty,pos,af,none⟩,kd)::rest) l):=
 J.big hk fun w M K' hK=>RS.store hx hy Z.h hv (M.blk (R.h cs).same) ho fun w' x1 B=>RS.nil (hK _ w' (M.store (R.h _) x1 (by rw[←hc];exact B)) (k w' (M.store (R.h _) x1 (by rw[←hc];exact B))))
theorem J.sta[Z:Siz P xt sz]{F:List Value→List Ent}(hx:ev l x= .pointer (some ⟨b,o,none⟩))(hy:ev l y= .agg vs.toArray)[R:RB L b cs T F](k:J S0 w0 (F cs') (RY S0 w0 m P ops K rest l))(hz:sz≠0:=by decide)(hn:vs.length=sz:=by rfl)(hv:vs.all cellB=true:=by rfl)
  (ho:Nat.ble (o+sz) cs.length=true:=by rfl)(hc:splice cs o vs=cs':=by dsimp only[splice,List.set])(hk:okG m kd (F cs'):=by first|exact trivial|(repeat(first|exact List.Sublist.refl _|refine List.Sublist.cons_cons _ ?_|refine List.Sublist.cons _ ?_))):J S0 w0 L (RY S0 w0 m P ops K ((⟨none, .store xt x y,ty,pos,af,none⟩,kd)::rest) l):=
 J.big hk fun w M K' hK=>RS.storeAggB hx hy Z.h hz hn hv (M.blk (R.h cs).same) ho fun w' x1 B=>RS.nil (hK _ w' (M.store (R.h _) x1 (by rw[←hc];exact B)) (k w' (M.store (R.h _) x1 (by rw[←hc];exact B))))
theorem splice_get:∀(vs cs:List Value) (o i:Nat),o+vs.length≤cs.length→(splice cs o vs)[i]? =if o≤i∧i<o+vs.length then vs[i - o]? else cs[i]?
 |[],cs,o,i,_=>by simp only[splice,List.length_nil,Nat.add_zero];rw[if_neg (by omega)]
 |v::vs,cs,o,i,h=>by
  simp only[List.length_cons]at h;rw[splice,splice_get vs (cs.set o v) (o+1) i (by simp;omega)];by_cases h1:o+1≤i∧i<o+1+vs.length
  ·rw[if_pos h1,if_pos (by simp only[List.length_cons];omega),show i - o=(i - (o+1))+1 by omega,List.getElem?_cons_succ]
  ·rw[if_neg h1];by_cases h2:i=o
   ·subst h2;rw[if_pos (by simp only[List.length_cons];omega),Nat.sub_self,List.getElem?_cons_zero,List.getElem?_set_self (by omega)]
   ·rw[if_neg (by simp only[List.length_cons];omega),List.getElem?_set_ne (by omega)]
theorem splice_all{cs vs:List Value}(h:cs.length=vs.length):splice cs 0 vs=vs:=by
 apply List.ext_getElem?;intro i;rw[splice_get vs cs 0 i (by omega)];by_cases hi:i<vs.length
 ·rw[if_pos (by omega)];rfl
 ·rw[if_neg (by omega),List.getElem?_eq_none (by omega),List.getElem?_eq_none (by omega)]
theorem ints_cellB(k:IntKind)(xs:List Int):(ints k xs).all cellB=true:=by
 rw[List.all_eq_true];intro v hv;obtain⟨x,_,rfl⟩:=List.mem_map.1 hv;rfl
theorem J.staw[Z:Siz P xt sz]{F:List Value→List Ent}(hx:ev l x= .pointer (some ⟨b,0,none⟩))(hy:ev l y= .agg vs.toArray)[R:RB L b cs T F](k:J S0 w0 (F vs) (RY S0 w0 m P ops K rest l))(hk:okG m kd (F vs):=by first|exact trivial|(repeat(first|exact List.Sublist.refl _|refine List.Sublist.cons_cons _ ?_|refine List.Sublist.cons _ ?_)))(hz:sz≠0:=by decide)(hn:vs.length=sz:=by first|exact LenC.h|rfl|assumption|exact And.left (by assumption)|(rw[ints_length];first|rfl|assumption|exact And.left (by assumption)|exact WRow.elt_len (by assumption) (by omega)|(subst_vars;exact WRow.elt_len (by assumption) (by omega))))(hc:cs.length=sz:=by first|exact LenC.h|rfl|assumption|exact And.left (by assumption)|(rw[ints_length];first|rfl|assumption|exact And.left (by assumption)|exact WRow.elt_len (by assumption) (by omega)|(subst_vars;exact WRow.elt_len (by assumption) (by omega))))
  (hv:vs.all cellB=true:=by first|exact LenC.c|rfl|exact ints_cellB _ _):J S0 w0 L (RY S0 w0 m P ops K ((⟨none, .store xt x y,ty,pos,af,none⟩,kd)::rest) l):=
 J.big hk fun w M K' hK=>RS.storeAggB hx hy Z.h hz hn hv (M.blk (R.h cs).same) (by rw[Nat.ble_eq];omega) fun w' x1 B=>RS.nil (hK _ w' (M.store (R.h _) x1 (by rw[splice_all (by omega)]at B;exact B)) (k w' (M.store (R.h _) x1 (by rw[splice_all (by omega)]at B;exact B))))
theorem J.ld[U:Sca P xt]{F:List Value→List Ent}(hx:ev l x= .pointer (some ⟨b,o,none⟩))[R:RB (Lv m L) b cs T F](k:J S0 w0 L (RY S0 w0 m P ops K rest l'))(ho:Nat.ble (o+1) cs.length=true:=by rfl)(hv:cs.getD o undef=v:=by((conv=>lhs;whnf)<;>rfl))(hl:l.set d v=l':=by dsimp only[List.set]):
  J S0 w0 L (RY S0 w0 m P ops K ((⟨some d, .load xt x,ty,pos,af,none⟩, .q)::rest) l):=
 let ⟨_,u1,u2⟩:=U.h
 J.val (fun w M=>D.load hx u1 u2 ((M.blk (R.h cs).same).cell (by have:=Nat.le_of_ble_eq_true ho;rw[List.getD_eq_getElem?_getD,List.getElem?_eq_getElem this]at hv;rw[List.getElem?_eq_getElem this,←hv];rfl))) k hl
theorem J.lda[U:Agg P xt sz]{F:List Value→List Ent}(hx:ev l x= .pointer (some ⟨b,0,none⟩))[R:RB (Lv m L) b cs T F](k:J S0 w0 L (RY S0 w0 m P ops K rest l'))(hz:sz≠0:=by decide)(hn:cs.length=sz:=by first|exact LenC.h|rfl|assumption|exact And.left (by assumption)|(rw[ints_length];first|rfl|assumption|exact And.left (by assumption)|exact WRow.elt_len (by assumption) (by omega)|(subst_vars;exact WRow.elt_len (by assumption) (by omega))))(hl:l.set d (.agg cs.toArray)=l':=by dsimp only[List.set]):
  J S0 w0 L (RY S0 w0 m P ops K ((⟨some d, .load xt x,ty,pos,af,none⟩, .q)::rest) l):=
 let ⟨_,u1,u2,u3⟩:=U.h
 J.val (fun w M=>D.loadAgg hx u1 u2 u3 hz hn ((M.blk (R.h cs).same).cells (by rw[List.drop_zero,List.take_length]))) k hl
theorem J.ldp[U:Agg P xt sz]{F:List Value→List Ent}(hx:ev l x= .pointer (some ⟨b,o,none⟩))[R:RB (Lv m L) b cs T F](k:J S0 w0 L (RY S0 w0 m P ops K rest l'))(hz:sz≠0:=by decide)(hv:(cs.drop o).take sz=vs:=by dsimp only[List.drop,List.take])(hn:vs.length=sz:=by rfl)(hl:l.set d (.agg vs.toArray)=l':=by dsimp only[List.set]):
  J S0 w0 L (RY S0 w0 m P ops K ((⟨some d, .load xt x,ty,pos,af,none⟩, .q)::rest) l):=
 let ⟨_,u1,u2,u3⟩:=U.h
 J.val (fun w M=>D.loadAgg hx u1 u2 u3 hz hn ((M.blk (R.h cs).same).cellsN sz hv)) k hl
/-! rows -/
def pt(a:Option Addr)(k:Nat):Value:= .pointer (a.map fun p=>⟨p.block,p.off+k,none⟩)
theorem pt_some{b o:Nat}(ha:a=some ⟨b,o,none⟩)(k:Nat):pt a k= .pointer (some ⟨b,o+k,none⟩):=by subst ha;rfl
theorem J.idxS[U:Und P xt (.slice e)][Z:Siz P e sz](hk:pureK kd=true)(hx:ev l x= .slice (some ⟨b,o,none⟩) n c)(hy:ev l y= .int ki i)(kk:J S0 w0 L (RY S0 w0 m P ops K rest l'))(hz:0<sz:=by decide)(hi:0≤i∧i<n:=by omega)(hl:l.set d (pt (some ⟨b,o,none⟩) (i.toNat*sz))=l':=by dsimp only[List.set]):
  J S0 w0 L (RY S0 w0 m P ops K ((⟨some d, .indexAddr xt x y,ty,pos,af,none⟩,kd)::rest) l):=
 J.pur hk (fun w=>by rw[pt_some rfl];exact D.indexAddr hx hy U.h Z.h (by omega) rfl hi) kk hl
theorem J.ldW[U:Agg P xt sz](hx:ev l x=pt a (i.toNat*sz))(hR:RW S0 w0 (Lv m L) k sz a n xs)(kk:J S0 w0 L (RY S0 w0 m P ops K rest l'))(hz:0<sz:=by decide)(hi:0≤i∧i<n:=by omega){q:List Int}(hq:q=elt sz xs i.toNat:=by first|assumption|exact rfl)(hl:l.set d (.agg (ints k q).toArray)=l':=by dsimp only[List.set]):
  J S0 w0 L (RY S0 w0 m P ops K ((⟨some d, .load xt x,ty,pos,af,none⟩, .q)::rest) l):=
 J.val (fun w M => by
  obtain ⟨S, h⟩ := hR w M
  obtain ⟨b, o, ha, _, hc⟩ := h.at_ hz hi
  obtain ⟨_, u1, u2, u3⟩ := U.h
  exact D.loadAgg (by rw [hx, pt_some ha]) u1 u2 u3 (by omega) (by rw [hq, ints_length]; exact h.elt_len (by omega)) (by rw [hq]; exact hc)) kk hl
theorem GRow.get{S:Nat→Prop}{w:World}{q:α}(h:GRow f sz S w a n lst)(hz:0<sz)(hq:lst[i.toNat]? =some q)(hi:0≤i∧i<n):∃b o,a=some ⟨b,o,none⟩∧S b∧Cells w b (o+i.toNat*sz) (f q):=by
 obtain⟨b,o,h1,h2,h3,_⟩:=h.at_ hz q hi;rw[List.getD_eq_getElem?_getD,hq]at h3;exact⟨b,o,h1,h2,h3⟩
theorem GRow.ex{S:Nat→Prop}{w:World}(h:GRow f sz S w a n lst)(hi:0≤i∧i<n):∃q,lst[i.toNat]? =some q:=⟨_,List.getElem?_eq_getElem (by have:=h.len;omega)⟩
theorem J.idxG[U:Und P xt (.slice e)][Z:Siz P e sz](hx:ev l x= .slice a n c)(hy:ev l y= .int ki i)(hR:RG S0 w0 (Lv m L) f sz a n lst)(kk:J S0 w0 L (RY S0 w0 m P ops K rest l'))(hz:0<sz:=by decide)(hi:0≤i∧i<n:=by omega)(hl:l.set d (pt a (i.toNat*sz))=l':=by dsimp only[List.set]):
  J S0 w0 L (RY S0 w0 m P ops K ((⟨some d, .indexAddr xt x y,ty,pos,af,none⟩, .q)::rest) l):=
 J.val (fun w M => by
  obtain ⟨S, h⟩ := hR w M
  obtain ⟨q, hq⟩ := h.ex hi
  obtain ⟨b, o, ha, _, hc⟩ := h.get hz hq hi
  rw [pt_some ha]
  exact D.indexAddr hx hy U.h Z.h (by omega) ha hi) kk hl
theorem J.ldG[U:Agg P xt sz](hx:ev l x=pt a (i.toNat*sz))(hR:RG S0 w0 (Lv m L) f sz a n lst)(kk:J S0 w0 L (RY S0 w0 m P ops K rest l')){q:α}(hq:lst[i.toNat]? =some q:=by assumption)(hf:f q=v::vs:=by rfl)(hz:0<sz:=by decide)(hi:0≤i∧i<n:=by omega)(hl:l.set d (.agg (v::vs).toArray)=l':=by dsimp only[List.set]):
  J S0 w0 L (RY S0 w0 m P ops K ((⟨some d, .load xt x,ty,pos,af,none⟩, .q)::rest) l):=
 J.val (fun w M => by
  obtain ⟨S, h⟩ := hR w M
  obtain ⟨b, o, ha, _, hc⟩ := h.get hz hq hi
  rw [hf] at hc
  obtain ⟨_, u1, u2, u3⟩ := U.h
  exact D.loadAgg (by rw [hx, pt_some ha]) u1 u2 u3 (by omega) (by rw [← hf]; exact h.szf _) hc) kk hl
theorem J.flG{off:Nat}[F:Fld P xt o off][Z:Siz P xt sz](hx:ev l x=pt a (i.toNat*sz))(hR:RG S0 w0 (Lv m L) f sz a n lst)(kk:J S0 w0 L (RY S0 w0 m P ops K rest l'))(hz:0<sz:=by decide)(hi:0≤i∧i<n:=by omega)(hl:l.set d (pt a (i.toNat*sz+off))=l':=by dsimp only[List.set]):
  J S0 w0 L (RY S0 w0 m P ops K ((⟨some d, .fieldAddr xt x o,ty,pos,af,none⟩, .q)::rest) l):=
 J.val (fun w M => by
  obtain ⟨S, h⟩ := hR w M
  obtain ⟨q, hq⟩ := h.ex hi
  obtain ⟨b, o', ha, _, hc⟩ := h.get hz hq hi
  obtain ⟨fs, f, sz', h1, h2, h3, h4, rfl⟩ := F.h
  rw [pt_some ha] at hx
  rw [pt_some ha, ← Nat.add_assoc]
  exact D.fieldAddr hx h1 h2 h3 h4) kk hl
theorem J.ldGf{off:Nat}[U:Sca P xt](hx:ev l x=pt a (i.toNat*sz+off))(hR:RG S0 w0 (Lv m L) f sz a n lst)(kk:J S0 w0 L (RY S0 w0 m P ops K rest l')){q:α}(hq:lst[i.toNat]? =some q:=by assumption)(hf:(f q).getD off undef=v:=by((conv=>lhs;whnf)<;>rfl))(ho:Nat.ble (off+1) sz=true:=by rfl)(hi:0≤i∧i<n:=by omega)(hl:l.set d v=l':=by dsimp only[List.set]):
  J S0 w0 L (RY S0 w0 m P ops K ((⟨some d, .load xt x,ty,pos,af,none⟩, .q)::rest) l):=
 J.val (fun w M => by
  obtain ⟨S, h⟩ := hR w M
  have ho := Nat.le_of_ble_eq_true ho
  obtain ⟨b, o', ha, _, hc⟩ := h.get (by omega) hq hi
  have := hc off (by rw [h.szf]; omega)
  rw [hf, Nat.add_assoc] at this
  obtain ⟨_, u1, u2⟩ := U.h
  exact D.load (by rw [hx, pt_some ha]) u1 u2 this) kk hl
end
def Gv{α:Type}(w:World)(g:α→Value)(E:α→List Ent)(p:α→Prop)(e:Ending)(w':World):Prop:=∃x,e= .returned (g x)∧p x∧Ext w w'∧Sep (E x) (fun b=>w.heap.size≤b) w'
theorem sep1{e:Ent}{S:Nat→Prop}{w:World}(h:e.ok S w):Sep [e] S w:=⟨S,no,fun _ h=>h,fun _ h=>h.elim,fun _ _ h=>h.elim,h,trivial⟩
theorem Gv.of{α:Type}{P:Program}{f:FuncId}{av:Array Value}{w:World}{A:Value→World→Prop}{g:α→Value}{E:α→List Ent}{p:α→Prop}(h:Calls P f av w (Ret w A))(k:∀v w',Ext w w'→A v w'→∃x,v=g x∧p x∧Sep (E x) (fun b=>w.heap.size≤b) w'):Calls P f av w (Gv w g E p):=
 h.mono fun _ w' ⟨v,h1,h2,h3⟩=>let ⟨x,k1,k2,k3⟩:=k v w' h2 h3;⟨x,k1▸h1,k2,h2,k3⟩
theorem wown_ok{lo:Nat}{w:World}{e:TypeId}{k:IntKind}{sz n c:Nat}{a:Option Addr}{xs:List Int}(h:WOwn lo w e k sz a n c xs):(Ent.wown e k sz a n c xs).ok (fun b=>lo≤b) w:=⟨h.base fun _ _=>Nat.zero_le _,fun b hb=>(h.los b hb).1⟩
theorem iown_ok{lo:Nat}{w:World}{e:TypeId}{k:IntKind}{n c:Nat}{a:Option Addr}{xs:List Int}(h:IOwn lo w e k a n c xs):(Ent.iown e k a n c xs).ok (fun b=>lo≤b) w:=⟨⟨h.own.base fun _ _=>Nat.zero_le _,h.bd⟩,fun b hb=>(h.lo b hb).1⟩
section
variable{S0:Nat→Prop}{w0:World}{L L' E:List Ent}{P:Program}{l0:List Oper}{ops:Array Oper}{K:List Value→World→Prop}{rest:List (Oper×Kd)}{l l':List Value}{m:Md}{d:Tmp}{op:Op}{ty:TypeId}{pos:String}{af:Array Edge}{kd:Kd}{v:Value}{x y z:Operand}{f:FuncId}{args:Array Operand}{av:List Value}{ts:Array TypeId}
theorem J.callp{g:Value}[E:Ents P f](hk:okE m kd=true)(ha:args.toList.map (ev l)=av)(h:∀w,Mem S0 w0 L w→Calls P f av.toArray w (Ret w fun v _=>v=g))(k:J S0 w0 L (RY S0 w0 m P ops K rest l'))(hl:l.set d g=l':=by dsimp only[List.set]):
  J S0 w0 L (RY S0 w0 m P ops K ((⟨some d, .call {callee:= .value (.func f),args:=args,argTypes:=ts},ty,pos,af,none⟩,kd)::rest) l):=
 J.eff hk fun w M K' hK=>RS.call E.h (h w M) ha fun v w' x1 hv=>RS.nil (hK _ w' x1 (by subst hv;rw[hl];exact k w' (M.grow x1)))
theorem J.callvp{g:Value}{cap:List Value}[E:Ents P f](hk:okE m kd=true)(hx:ev l x= .func (.func f) #[] cap.toArray)(ha:args.toList.map (ev l)++cap=av)(h:∀w,Mem S0 w0 L w→Calls P f av.toArray w (Ret w fun v _=>v=g))(k:J S0 w0 L (RY S0 w0 m P ops K rest l'))(hl:l.set d g=l':=by dsimp only[List.set]):
  J S0 w0 L (RY S0 w0 m P ops K ((⟨some d, .call {callee:= .value x,args:=args,argTypes:=ts},ty,pos,af,none⟩,kd)::rest) l):=
 J.eff hk fun w M K' hK=>RS.callv E.h (h w M) hx ha fun e w' ⟨v,hv,x1,h1⟩=>⟨v,hv,RS.nil (hK _ w' x1 (by subst h1;rw[hl];exact k w' (M.grow x1)))⟩
theorem J.call{α:Type}{g:α→Value}{Ex E':α→List Ent}{p:α→Prop}{l':α→List Value}[E:Ents P f](hk:okE m kd=true)(ha:args.toList.map (ev l)=av)(h:∀w,Mem S0 w0 L w→Calls P f av.toArray w (Gv w g Ex p))(k:∀x,p x→J S0 w0 (E' x) (RY S0 w0 m P ops K rest (l' x)))
  (hE:∀x,Ex x++L=E' x:=by intro x;dsimp only[List.cons_append,List.nil_append])(hl:∀x,l.set d (g x)=l' x:=by intro x;dsimp only[List.set]):
  J S0 w0 L (RY S0 w0 m P ops K ((⟨some d, .call {callee:= .value (.func f),args:=args,argTypes:=ts},ty,pos,af,none⟩,kd)::rest) l):=
 J.eff hk fun w M K' hK=>RS.callx E.h (h w M) ha fun e w' ⟨q,h1,h2,h3,h4⟩=>⟨_,h1,RS.nil (hK _ w' h3 (by rw[hl];exact k q h2 w' (by rw[←hE];exact M.more h3 h4)))⟩
inductive Re(P:Program)(L:List Ent)(l:List Value):ResultVar→Value→Prop
 |tmp {t:Tmp} {v:Value} (hv:l.getD t undef=v):Re P L l (.tmp t) v
 |agg {s:Tmp} {t T:TypeId} {b sz:Nat} {cs:List Value} {F:List Value→List Ent} [U:Agg P t sz] (hp:l.getD s undef= .pointer (some ⟨b,0,none⟩)) [R:RB L b cs T F] (hz:sz≠0) (hn:cs.length=sz):Re P L l (.cell s t) (.agg cs.toArray)
 |one {s:Tmp} {t T:TypeId} {b:Nat} {v:Value} {cs:List Value} {F:List Value→List Ent} [U:Sca P t] (hp:l.getD s undef= .pointer (some ⟨b,0,none⟩)) [R:RB L b cs T F] (ho:Nat.ble 1 cs.length=true) (hv:cs.getD 0 undef=v):Re P L l (.cell s t) v
theorem Re.ok{r:ResultVar}{rs:List ResultVar}{v:Value}{vs:List Value}(h:Re P L l r v){w:World}(M:Mem S0 w0 L w)(k:resOk P l w rs vs):resOk P l w (r::rs) (v::vs):=by
 cases h with
 |tmp hv=>exact⟨hv,k⟩
 | @agg s t T b sz cs F U hp R hz hn=>
  obtain⟨_,u1,u2,u3⟩:=U.h;exact⟨⟨_,hp,loadVar_agg u1 u2 u3 hz hn ((M.blk (R.h cs).same).cells (by rw[List.drop_zero,List.take_length]))⟩,k⟩
 | @one s t T b v cs F U hp R ho hv=>
  obtain⟨_,u1,u2⟩:=U.h;exact⟨⟨_,hp,loadVar_one u1 u2 ((M.blk (R.h cs).same).cell (by have:=Nat.le_of_ble_eq_true ho;rw[List.getD_eq_getElem?_getD,List.getElem?_eq_getElem this]at hv;rw[List.getElem?_eq_getElem this,←hv];rfl))⟩,k⟩
theorem J.tret{fn:Func}{R:Ending→World→Prop}(k:J S0 w0 L (bodyPost P fn R .ret (fr l))):J S0 w0 L (bodyPost P fn R .ret (fr l)):=k
theorem J.ret1{fn:Func}{R:Ending→World→Prop}{r1:ResultVar}{v1:Value}(hr:fn.results= #[r1])(k:J S0 w0 L (R (.returned (v1))))(h1:Re P L l r1 v1:=by first|exact Re.tmp (by((conv=>lhs;whnf)<;>rfl))|exact Re.agg rfl (by decide) (by first|rfl|assumption|exact And.left (by assumption)|(rw[ints_length];first|rfl|assumption|exact And.left (by assumption)|exact WRow.elt_len (by assumption) (by omega)|(subst_vars;exact WRow.elt_len (by assumption) (by omega))))|exact Re.one rfl (by rfl) (by((conv=>lhs;whnf)<;>rfl))):J S0 w0 L (bodyPost P fn R .ret (fr l)):=fun w M=>G.ret (rs:=[r1]) (vs:=[v1]) hr (h1.ok M trivial) rfl (k w M)
theorem J.ret2{fn:Func}{R:Ending→World→Prop}{r1 r2:ResultVar}{v1 v2:Value}(hr:fn.results= #[r1,r2])(k:J S0 w0 L (R (.returned (.tuple #[v1,v2]))))(h1:Re P L l r1 v1:=by first|exact Re.tmp (by((conv=>lhs;whnf)<;>rfl))|exact Re.agg rfl (by decide) (by first|rfl|assumption|exact And.left (by assumption)|(rw[ints_length];first|rfl|assumption|exact And.left (by assumption)|exact WRow.elt_len (by assumption) (by omega)|(subst_vars;exact WRow.elt_len (by assumption) (by omega))))|exact Re.one rfl (by rfl) (by((conv=>lhs;whnf)<;>rfl)))(h2:Re P L l r2 v2:=by first|exact Re.tmp (by((conv=>lhs;whnf)<;>rfl))|exact Re.agg rfl (by decide) (by first|rfl|assumption|exact And.left (by assumption)|(rw[ints_length];first|rfl|assumption|exact And.left (by assumption)|exact WRow.elt_len (by assumption) (by omega)|(subst_vars;exact WRow.elt_len (by assumption) (by omega))))|exact Re.one rfl (by rfl) (by((conv=>lhs;whnf)<;>rfl))):J S0 w0 L (bodyPost P fn R .ret (fr l)):=fun w M=>G.ret (rs:=[r1,r2]) (vs:=[v1,v2]) hr (h1.ok M (h2.ok M trivial)) rfl (k w M)
theorem J.ret3{fn:Func}{R:Ending→World→Prop}{r1 r2 r3:ResultVar}{v1 v2 v3:Value}(hr:fn.results= #[r1,r2,r3])(k:J S0 w0 L (R (.returned (.tuple #[v1,v2,v3]))))(h1:Re P L l r1 v1:=by first|exact Re.tmp (by((conv=>lhs;whnf)<;>rfl))|exact Re.agg rfl (by decide) (by first|rfl|assumption|exact And.left (by assumption)|(rw[ints_length];first|rfl|assumption|exact And.left (by assumption)|exact WRow.elt_len (by assumption) (by omega)|(subst_vars;exact WRow.elt_len (by assumption) (by omega))))|exact Re.one rfl (by rfl) (by((conv=>lhs;whnf)<;>rfl)))(h2:Re P L l r2 v2:=by first|exact Re.tmp (by((conv=>lhs;whnf)<;>rfl))|exact Re.agg rfl (by decide) (by first|rfl|assumption|exact And.left (by assumption)|(rw[ints_length];first|rfl|assumption|exact And.left (by assumption)|exact WRow.elt_len (by assumption) (by omega)|(subst_vars;exact WRow.elt_len (by assumption) (by omega))))|exact Re.one rfl (by rfl) (by((conv=>lhs;whnf)<;>rfl)))(h3:Re P L l r3 v3:=by first|exact Re.tmp (by((conv=>lhs;whnf)<;>rfl))|exact Re.agg rfl (by decide) (by first|rfl|assumption|exact And.left (by assumption)|(rw[ints_length];first|rfl|assumption|exact And.left (by assumption)|exact WRow.elt_len (by assumption) (by omega)|(subst_vars;exact WRow.elt_len (by assumption) (by omega))))|exact Re.one rfl (by rfl) (by((conv=>lhs;whnf)<;>rfl))):J S0 w0 L (bodyPost P fn R .ret (fr l)):=fun w M=>G.ret (rs:=[r1,r2,r3]) (vs:=[v1,v2,v3]) hr (h1.ok M (h2.ok M (h3.ok M trivial))) rfl (k w M)
theorem J.fin{g:Value}(h:v=g):J no w0 L (Ret w0 (fun v _=>v=g) (.returned v)):=fun w M=>⟨v,rfl,M.ext,h⟩
theorem J.finG{α:Type}{g:α→Value}{Ex:α→List Ent}{p:α→Prop}(x:α)(h:v=g x)(hp:p x)(hs:(Ex x).Sublist L):J no w0 L (Gv w0 g Ex p (.returned v)):=fun w M=>⟨x,by rw[h],hp,M.ext,(M.sep.sub hs).mono fun b _ hb=>hb.elim (fun k=>k.elim) fun k=>k⟩
/-! ### loops, joins -/
variable{Q:Exit→Act→World→Prop}{c y:Code}
theorem J.loop{A:Type}(M:A→List (Nat×Value))(Jk:List Nat)(Lp:A→List Ent)(I:A→Prop)(μ:A→Nat)(p0:A){l':A→(Nat→Value)→List Value}
  (h0:upd (upd l (M p0)) (junk Jk (fun s=>l.getD s undef))=l)(i0:I p0)(round:∀p j,I p→J S0 w0 (Lp p) (c.wp P (Exit.then (Nx l M Jk (fun p w=>Mem S0 w0 (Lp p) w∧I p) μ p) Q) (fr (l' p j))))
  (hL:(Lp p0).Sublist L:=by exact List.Sublist.refl _)(hl:∀p j,upd (upd l (M p)) (junk Jk j)=l' p j:=by intro p j;simp only[upd,junk,List.map_cons,List.map_nil,List.set_cons_succ,List.set_cons_zero];exact rfl):J S0 w0 L ((Code.loop c).wp P Q (fr l)):=fun w Mm=>by
 refine C.loop M Jk (fun p w=>Mem S0 w0 (Lp p) w∧I p) μ p0 h0 ⟨Mm.sub hL,i0⟩ fun p j w hI=>?_
 rw[hl];exact round p j hI.2 w hI.1
theorem J.loopS{A:Type}(M:A→List (Nat×Value))(Jk:List Nat)(I:A→Prop)(μ:A→Nat)(p0:A){l':A→(Nat→Value)→List Value}
  (h0:upd (upd l (M p0)) (junk Jk (fun s=>l.getD s undef))=l)(i0:I p0)(round:∀p j,I p→J S0 w0 L (c.wp P (Exit.then (Nx l M Jk (fun p w=>Mem S0 w0 L w∧I p) μ p) Q) (fr (l' p j))))
  (hl:∀p j,upd (upd l (M p)) (junk Jk j)=l' p j:=by intro p j;simp only[upd,junk,List.map_cons,List.map_nil,List.set_cons_succ,List.set_cons_zero];exact rfl):J S0 w0 L ((Code.loop c).wp P Q (fr l)):=J.loop M Jk (fun _=>L) I μ p0 h0 i0 round (List.Sublist.refl _) hl
theorem J.next{A:Type}{M:A→List (Nat×Value)}{Jk:List Nat}{Lp:A→List Ent}{I:A→Prop}{μ:A→Nat}{p:A}{l le:List Value}(p':A)(hs:slotsOk le (M p'))(h:upd (upd l (M p')) (junk Jk (fun s=>le.getD s undef))=le)(hi:I p')(hm:μ p'<μ p)
  (hL:(Lp p').Sublist L:=by repeat(first|exact List.Sublist.refl _|refine List.Sublist.cons_cons _ ?_|refine List.Sublist.cons _ ?_)):J S0 w0 L (Nx l M Jk (fun p w=>Mem S0 w0 (Lp p) w∧I p) μ p (fr le)):=fun w Mm=>C.next p' hs h ⟨Mm.sub hL,hi⟩ hm
theorem J.nextS{A:Type}{M:A→List (Nat×Value)}{Jk:List Nat}{L':List Ent}{I:A→Prop}{μ:A→Nat}{p:A}{l le:List Value}(p':A)(hs:slotsOk le (M p'))(h:upd (upd l (M p')) (junk Jk (fun s=>le.getD s undef))=le)(hi:I p')(hm:μ p'<μ p)
  (hL:L'.Sublist L:=by repeat(first|exact List.Sublist.refl _|refine List.Sublist.cons_cons _ ?_|refine List.Sublist.cons _ ?_)):J S0 w0 L (Nx l M Jk (fun p w=>Mem S0 w0 L' w∧I p) μ p (fr le)):=fun w Mm=>C.next p' hs h ⟨Mm.sub hL,hi⟩ hm
theorem J.enter{fn:Func}{R:Ending→World→Prop}(u:Nat)(hf:P.funcs[f]? =some fn)(hb:fn.body=some c)(hu:fn.ntmps - av.length=u)(h:J no w0 [] (c.wp P (bodyPost P fn R) (fr l)))(hl:av++List.replicate u undef=l:=by dsimp only[List.reduceReplicate,List.cons_append,List.nil_append]):Calls P f av.toArray w0 R:=
 enterU u hf hb hu (h w0 (Mem.first w0)) hl
end
theorem Pr.mono{S T:Nat→Prop}{w w':World}(h:Pr S w w')(k:∀b,S b→T b):Pr T w w':=⟨h.os,h.tape,h.output,h.size,fun b hb hn=>h.block b hb fun hs=>hn (k b hs)⟩
section
variable{P:Program}{w w':World}
theorem append_at{t ty e:TypeId}{sz by_:Nat}{z:List Value}{a a2:Option Addr}{n c m c2:Nat}{cs ds:List Value}{S:Nat→Prop}(hu:P.underlying t=some (.slice e))(ht:TI P e sz by_ z)(hz:z.length=sz)(hsz:0<sz)
  (hO:Own 0 w e sz a n c cs)(hR:Row S w a2 ds)(hd:ds.length=m*sz)(h1:∀u∈ds,u.oneCell'=true)(hm:0<m)(hb:(n+m)*by_≤140737488355328)(hb':n+m≤140737488355328):
  ∃a' c' w',(Builtin.append_ #[t,t] ty #[.slice a n c, .slice a2 m c2]).run P w= .ok (.slice a' (n+m) c') w'∧Own 0 w' e sz a' (n+m) c' (cs++ds)∧Pr (fun b=>obk a=some b) w w'∧∀b,obk a'=some b→obk a=some b∨w.heap.size≤b:=by
 obtain⟨i,zv,i1,i2,i3,i4,i5⟩:=ht;have hzs:zv.cells.size=sz:=by rw[i5];simpa using hz
 have hlen:0<ds.length:=by rw[hd];exact Nat.mul_pos hm hsz
 obtain⟨b,o,ha,_,_⟩:=hR.at_ 0 hlen;subst ha;subst i2 i3;have h63:n+m≤maxLen:=by simp only[maxLen];omega
 obtain⟨v',w',hr,ho,hg,_⟩:=run_append_own (P:=P) w 0 t ty e i zv i.size i.bytes hu i1 i4 rfl rfl hzs hsz (.slice a n c) n cs hO ⟨b,o,none⟩ m c2 ds hd (hR.news rfl) h1 h63 hb (Nat.zero_le _);obtain⟨a',c',rfl⟩:=Own.form ho;have hp:=grown_pr hg;rw[ownBlock_slice]at hp;refine⟨a',c',w',hr,ho,hp,?_⟩;rcases hO.2 with⟨hv,hn⟩|⟨g,cap,cur,hv,_,hgb,hnc,hcm,hcs,htake⟩
 ·obtain⟨rfl,rfl,rfl⟩:a=none∧n=0∧c=0:=by simpa using hv
  have hr2:=run_append_nil (P:=P) w t ty e i zv hu i1 i4 ⟨b,o,none⟩ m c2 ds hd (hR.news rfl) hm (by simp only[maxLen]at h63;omega) (by rw[Nat.zero_add]at hb;omega);rw[hr]at hr2;injection hr2 with e1 e2;injection e1 with e3;subst e3;intro q hq;right;simp[obk]at hq;omega
 ·obtain⟨rfl,rfl⟩:a=some ⟨g,0,none⟩∧c=cap:=by simpa using hv
  by_cases hroom:n+m≤c
  ·have hfit:n*i.size+ds.length≤cur.size:=by rw[hd,hcs,←Nat.add_mul];exact Nat.mul_le_mul_right _ hroom
   have hr2:=run_append_room (P:=P) w t ty e i hu i1 g n c cur hgb ⟨b,o,none⟩ m c2 ds hd (hR.news rfl) h1 hroom hfit;rw[hr]at hr2;injection hr2 with e1 e2;injection e1 with e3;subst e3;exact fun q hq=> .inl hq
  ·have hr2:=run_append_grow (P:=P) w t ty e i zv hu i1 i4 ⟨g,0,none⟩ n c cs hO.1 (World.ownsRow.cells hO (g:=g) rfl) ⟨b,o,none⟩ m c2 ds hd (hR.news rfl) (by omega) (by simp only[maxLen]at h63;omega) (growslice_fits (by omega) hb);rw[hr]at hr2;injection hr2 with e1 e2;injection e1 with e3;subst e3;intro q hq;right;simp[obk]at hq;omega
end
section
variable{S0:Nat→Prop}{w0:World}{L L':List Ent}{P:Program}{ops:Array Oper}{l:List Value}{d:Tmp}{ty:TypeId}{pos:String}{af:Array Edge}{x y:Operand}{t e:TypeId}{sz by_:Nat}{z:List Value}{a a2:Option Addr}{n c m c2:Nat}{cs ds:List Value}{K':List Value→World→Prop}
theorem app_core{w:World}(M:Mem S0 w0 L w){E:Ent}{E':Option Addr→Nat→Ent}{F:Option Addr→Nat→List Ent}(R:∀a' c',Rpl L E (E' a' c') (F a' c'))(hE:∀S,E.ok S w→Own 0 w e sz a n c cs∧∀b,obk a=some b→S b)
  (hx:ev l x= .slice a n c)(hy:ev l y= .slice a2 m c2)(hu:P.underlying t=some (.slice e))(ht:TI P e sz by_ z)(hz:z.length=sz)(hsz:0<sz)(hR:∃S,Row S w a2 ds)(hd:ds.length=m*sz)(h1:∀u∈ds,u.oneCell'=true)(hb:(n+m)*by_≤140737488355328)(hb':n+m≤140737488355328)
  (hE':∀a' c' w',Own 0 w' e sz a' (n+m) c' (cs++ds)→(E' a' c').ok (fun b=>obk a'=some b) w')
  (k:∀a' c' w',Mem S0 w0 (F a' c') w'→K' (l.set d (.slice a' (n+m) c')) w'):
  RS P ops K' [⟨some d, .call {callee:= .builtin .append,args:= #[x,y],argTypes:= #[t,t]},ty,pos,af,none⟩] l w:=by
 have hrun:∀v w',(Builtin.append_ #[t,t] ty #[.slice a n c, .slice a2 m c2]).run P w= .ok v w'→(execOp (ev l) ⟨some d, .call {callee:= .builtin .append,args:= #[x,y],argTypes:= #[t,t]},ty,pos,af,none⟩).run P w= .ok (.value v) w':=by
  intro v w' h;simp[execOp,resolve,hx,hy,invoke,builtin,h]
 obtain⟨S1,_,q1,_⟩:=M.foc (R a c);obtain⟨hO,_⟩:=hE S1 q1;obtain⟨S,hR⟩:=hR;by_cases hm:m=0
 ·subst hm;obtain rfl:ds=[]:=List.length_eq_zero_iff.1 (by omega);have hcs:P.cellsOf e=sz:=by obtain⟨i,_,i1,i2,_⟩:=ht;simp[Program.cellsOf,i1,i2]
  have:=append_zero_run (P:=P) (w:=w) (ty:=ty) (a:=a) (a2:=a2) (c2:=c2) hu hcs (by omega) hO.cap.1;refine RS.o (hrun _ _ this) (RS.nil (k a c w ?_)) rfl;obtain⟨S2,_,p2,p3⟩:=M.foc (R a c);exact p3 w _ (Pr.refl _ _) (hE' a c w (by simpa using hO)) fun b hb=> .inl ((hE S2 p2).2 b hb)
 ·obtain⟨a',c',w',hr,ho,hp,hat⟩:=append_at (P:=P) (ty:=ty) (c2:=c2) hu ht hz hsz hO hR hd h1 (by omega) hb hb';refine RS.o (hrun _ _ hr) (RS.nil (k a' c' w' ?_)) rfl;obtain⟨S2,_,p2,p3⟩:=M.foc (R a' c');have h2:=(hE S2 p2).2;exact p3 w' _ (hp.mono h2) (hE' a' c' w' ho) fun b hb=>(hat b hb).imp_left (h2 b)
end
/-! numbers that are owned -/
class RO(L:List Ent)(a:Option Addr)(e:outParam TypeId)(k:outParam IntKind)(n c:outParam Nat)(xs:outParam (List Int))(F:outParam (Option Addr→Nat→Nat→List Int→List Ent)):Prop where h:∀a' n' c' xs',Rpl L (.iown e k a n c xs) (.iown e k a' n' c' xs') (F a' n' c' xs')
section
end
/-! a part of a list -/
class RE(L:List Ent)(e:Ent)(F:outParam (Ent→List Ent)):Prop where h:∀e',Rpl L e e' (F e')
instance RE.here{L:List Ent}{e:Ent}:RE (e::L) e (fun e'=>e'::L):=⟨fun _=> .here⟩
instance(priority:=low) RE.there{L:List Ent}{e x:Ent}{F:Ent→List Ent}[R:RE L e F]:RE (x::L) e (fun e'=>x::F e'):=⟨fun e'=> .there (R.h e')⟩
section
variable{S0:Nat→Prop}{w0 w:World}{L L' E:List Ent}{P:Program}{l0:List Oper}{ops:Array Oper}{K:List Value→World→Prop}{rest:List (Oper×Kd)}{l l':List Value}{m:Md}{d:Tmp}{op:Op}{ty:TypeId}{pos:String}{af:Array Edge}{kd:Kd}{v:Value}{x y z:Operand}{t xt yt e T:TypeId}{b o n c n2 c2 sz by_:Nat}{cs cs' vs zs:List Value}{X:World→Prop}
 {k ki:IntKind}{a a2:Option Addr}{xs ys:List Int}{i q:Int}{α:Type}{f:α→List Value}{lst:List α}{e1 e2:Ent}
theorem J.re{F:Ent→List Ent}(e1 e2:Ent)[R:RE L e1 F](h:∀S w,e1.ok S w→e2.ok S w)(k:J S0 w0 (F e2) X):J S0 w0 L X:=fun w M=>by
 obtain⟨S,h1,h2,h3⟩:=M.foc (R.h e2);exact k w (h3 w S (Pr.refl _ _) (h S w h2) fun _ hb=> .inl hb)
theorem J.add0(e1:Ent)(h:∀w,e1.ok no w)(k:J S0 w0 (e1::L) X):J S0 w0 L X:=fun w M=>k w (M.new (Ext.refl w) (e1.mono (h w) fun _ _ hb=>hb.elim))
end
end G
namespace G
open Go.RowKit
def Ent.gown{α:Type}(f:α→List Value)(sz:Nat)(e:TypeId)(a:Option Addr)(n c:Nat)(lst:List α):Ent:=
 ⟨fun S w=>GOwn f sz 0 w e a n c lst∧∀b,obk a=some b→S b,fun h x=>⟨⟨h.1.own.step fun b hb=>x b (h.2 b hb),h.1.szf,h.1.len⟩,h.2⟩,fun h x=>⟨h.1,fun b hb=>x b (h.1.own.lo b hb).2 (h.2 b hb)⟩⟩
class GO{α:outParam Type}(L:List Ent)(a:Option Addr)(f:outParam (α→List Value))(sz:outParam Nat)(e:outParam TypeId)(n c:outParam Nat)(lst:outParam (List α))(F:outParam (Option Addr→Nat→Nat→List α→List Ent)):Prop where
 h:∀a' n' c' lst',Rpl L (.gown f sz e a n c lst) (.gown f sz e a' n' c' lst') (F a' n' c' lst')
section
variable{α:Type}{L:List Ent}{a:Option Addr}{f:α→List Value}{sz:Nat}{e:TypeId}{n c:Nat}{lst:List α}{x:Ent}{F:Option Addr→Nat→Nat→List α→List Ent}
instance GO.here:GO (.gown f sz e a n c lst::L) a f sz e n c lst (fun a' n' c' lst'=> .gown f sz e a' n' c' lst'::L):=⟨fun _ _ _ _=> .here⟩
instance(priority:=low) GO.there[R:GO L a f sz e n c lst F]:GO (x::L) a f sz e n c lst (fun a' n' c' lst'=>x::F a' n' c' lst'):=⟨fun a' n' c' lst'=> .there (R.h a' n' c' lst')⟩
end
/-! rows that are read, by their address -/
class RWO(L:List Ent)(a:Option Addr)(e:outParam TypeId)(k:outParam IntKind)(sz n c:outParam Nat)(xs:outParam (List Int))(F:outParam (Option Addr→Nat→Nat→List Int→List Ent)):Prop where h:∀a' n' c' xs',Rpl L (.wown e k sz a n c xs) (.wown e k sz a' n' c' xs') (F a' n' c' xs')
class RRG{α:outParam Type}(L:List Ent)(a:Option Addr)(f:outParam (α→List Value))(sz n:outParam Nat)(lst:outParam (List α)):Prop where h:Rpl L (.grow f sz a n lst) (.grow f sz a n lst) L
instance RRG.here{α:Type}{L:List Ent}{a:Option Addr}{f:α→List Value}{sz n:Nat}{lst:List α}:RRG (.grow f sz a n lst::L) a f sz n lst:=⟨.here⟩
instance(priority:=low) RRG.there{α:Type}{L:List Ent}{a:Option Addr}{f:α→List Value}{sz n:Nat}{lst:List α}{x:Ent}[R:RRG L a f sz n lst]:RRG (x::L) a f sz n lst:=⟨.there R.h⟩
/-! cells of single values -/
theorem flat_set{α:Type}(f:α→List Value)(sz:Nat)(hf:∀x,(f x).length=sz):∀(l:List α) (i:Nat) (q:α),i<l.length→(l.set i q).flatMap f=(l.flatMap f).take (sz*i)++f q++(l.flatMap f).drop (sz*i+sz)
 |[],i,q,h=>by simp at h
 |x::l,0,q,_=>by simp[List.drop_append,List.drop_of_length_le,hf]
 |x::l,i+1,q,h=>by
  have ih:=flat_set f sz hf l i q (by simpa using h);have e1:(f x).length≤sz*i+sz:=by rw[hf];omega
  have e2:(f x).length≤sz*i+sz+sz:=by rw[hf];omega
  rw[List.set_cons_succ,List.flatMap_cons,List.flatMap_cons,ih,Nat.mul_add,Nat.mul_one];rw[List.take_append,List.take_of_length_le e1,List.drop_append,List.drop_of_length_le e2,hf];rw[show sz*i+sz - sz=sz*i by omega,show sz*i+sz+sz - sz=sz*i+sz by omega];simp[List.append_assoc]
theorem splice_mid:∀(vs cs:List Value) (o:Nat),o+vs.length≤cs.length→splice cs o vs=cs.take o++vs++cs.drop (o+vs.length)
 |vs,cs,o,h=>by
  apply List.ext_getElem?;intro i;rw[splice_get vs cs o i h];by_cases h1:i<o
  ·rw[if_neg (by omega),List.append_assoc,List.getElem?_append_left (by simp;omega),List.getElem?_take,if_pos h1]
  ·by_cases h2:i<o+vs.length
   ·rw[if_pos (by omega),List.append_assoc,List.getElem?_append_right (by simp;omega),List.getElem?_append_left (by simp;omega)];congr 1;simp;omega
   ·rw[if_neg (by omega),List.getElem?_append_right (by simp;omega),List.getElem?_drop];congr 1;simp;omega
section
variable{S0:Nat→Prop}{w0 w:World}{L L' E:List Ent}{P:Program}{l0:List Oper}{ops:Array Oper}{K:List Value→World→Prop}{rest:List (Oper×Kd)}{l l':List Value}{m:Md}{d:Tmp}{op:Op}{ty:TypeId}{pos:String}{af:Array Edge}{kd:Kd}{v:Value}{x y z:Operand}{t xt yt e T:TypeId}{b o n c n2 c2 sz by_:Nat}{cs cs' vs zs:List Value}{X:World→Prop}
 {k ki:IntKind}{a a2:Option Addr}{xs ys:List Int}{i:Int}{α:Type}{f:α→List Value}{lst lst2:List α}{q:α}{F:Option Addr→Nat→Nat→List α→List Ent}
theorem RG.row'[R:RRG L a f sz n lst]:RG S0 w0 L f sz a n lst:= .row R.h
theorem RG.own'[R:GO L a f sz e n c lst F]:RG S0 w0 L f sz a n lst:=fun w M=>let ⟨S,_,h⟩:=M.get (R.h a n c lst).same;⟨_,h.1.row⟩
theorem gown_blk(h:(Ent.blk b cs e).ok S0 w)(hf:∀x,(f x).length=sz)(hc:cs=lst.flatMap f)(hn:lst.length=n)(hm:n≤9223372036854775807):(Ent.gown f sz e (some ⟨b,0,none⟩) n n lst).ok S0 w:=⟨GOwn.of_blk h.2 hf hc hn (Nat.zero_le _) hm,fun q hq=>by simp[obk]at hq;subst hq;exact h.1⟩
theorem J.nilG(f:α→List Value)(sz:Nat)(e:TypeId)(hf:∀x,(f x).length=sz)(kk:J S0 w0 (.gown f sz e none 0 0 []::L) X):J S0 w0 L X:=J.add0 (.gown f sz e none 0 0 []) (fun w=>⟨GOwn.nil 0 w e hf,fun b hb=>by cases hb⟩) kk
theorem made_rep(f:α→List Value)(hf:∀x,(f x).length=sz)(hz:0<sz)(q:α):∀n,(madeCells (f q).toArray (n*sz)).toList=(List.replicate n q).flatMap f:=by
 intro n;apply List.ext_getElem
 ·rw[flat_len f sz hf];simp[madeCells,Nat.mul_comm]
 intro j h1 h2;rw[flat_len f sz hf,List.length_replicate]at h2;have hj:j / sz<n:=Nat.div_lt_of_lt_mul h2;have hg:=flat_get f sz hf q (List.replicate n q) (j / sz) (by simpa using hj);rw[List.getD_eq_getElem?_getD,List.getElem?_replicate,if_pos hj,Option.getD_some]at hg;have hm:=Nat.mod_lt j hz;have e1:(((List.replicate n q).flatMap f).drop (sz*(j / sz))).take sz=f q:=hg;have e2:=congrArg (fun t=>t[j % sz]?) e1;simp only[List.getElem?_take,if_pos hm,List.getElem?_drop,Nat.div_add_mod]at e2;have hl:j % sz<(f q).length:=by rw[hf];exact hm
 rw[List.getElem?_eq_getElem (by rw[flat_len f sz hf,List.length_replicate];exact h2),List.getElem?_eq_getElem hl]at e2;rw[Option.some.inj e2];simp only[madeCells,List.size_toArray,hf,Array.toList_map,List.getElem_map,Array.toList_range,List.getElem_range];rw[getElem!_pos _ _ (by simpa using hl)];simp
theorem J.mkG(f:α→List Value)(q:α)(hf:∀x,(f x).length=sz)[U:Und P t (.slice e)][I:Inf P e sz by_ zs]{l':Nat→List Value}(hk:okE m kd=true)(hx:ev l x= .int ki (n:Nat))(hy:ev l y= .int ki (n:Nat))(hz:zs=f q)(kk:∀b,J S0 w0 (.gown f sz e (some ⟨b,0,none⟩) n n (List.replicate n q)::L) (RY S0 w0 m P ops K rest (l' b)))
  (hb:(by_:Int)*(n:Nat)≤281474976710656:=by omega)(hsz:0<sz:=by decide)(hl:∀b,l.set d (.slice (some ⟨b,0,none⟩) n n)=l' b:=by intro b;dsimp only[List.set])(hi:n≤9223372036854775807:=by omega):J S0 w0 L (RY S0 w0 m P ops K ((⟨some d, .makeSlice t x y,ty,pos,af,none⟩,kd)::rest) l):=
 J.eff hk fun w M K' hK => RS.make hx hy U.h I.h (Int.natCast_nonneg n) hb (by omega) fun b w' e1 s1 x1 B => RS.nil (hK _ w' x1 (by
  rw [Int.toNat_natCast] at B ⊢
  rw [hl]
  refine kk b w' (M.new x1 (gown_blk ⟨by subst e1; exact Nat.le_refl _, B⟩ hf ?_ (by simp) (by omega)))
  rw [hz, made_rep f hf hsz]))
theorem J.b1G(f:α→List Value)(q:α)(hf:∀x,(f x).length=sz)[U:Und P t (.slice e)][I:Inf P e sz by_ zs]{l':Nat→List Value}(hk:okE m kd=true)(hx:ev l x= .agg vs.toArray)(hq:vs=f q)(kk:∀b,J S0 w0 (.gown f sz e (some ⟨b,0,none⟩) 1 1 [q]::L) (RY S0 w0 m P ops K rest (l' b)))
  (hsz:0<sz:=by decide)(hsz':Nat.ble sz 1000=true:=by decide)(hl:∀b,l.set d (.slice (some ⟨b,0,none⟩) 1 1)=l' b:=by intro b;dsimp only[List.set]):J S0 w0 L (RY S0 w0 m P ops K ((⟨some d, .buildSlice t 1 #[(0,x)],ty,pos,af,none⟩,kd)::rest) l):=
 J.eff hk fun w M K' hK => RS.buildSlice (xs := [x]) (vs := [.agg vs.toArray]) (cs := vs) U.h I.h hsz rfl hsz' rfl (by simp [hx]) rfl (by simp [Value.cells]) (by intro v hv; simp only [List.mem_cons, List.not_mem_nil, or_false] at hv; subst hv; simp [Value.cells, hq, hf]) rfl fun b w' e1 s1 x1 B => RS.nil (hK _ w' x1 (by
  rw [hl]
  exact kk b w' (M.new x1 (gown_blk (lst := [q]) ⟨by subst e1; exact Nat.le_refl _, B⟩ hf (by simp [hq]) rfl (by decide)))))
/-! wide elements that are owned -/
theorem J.apW{F:Option Addr→Nat→Nat→List Int→List Ent}{l':Option Addr→Nat→List Value}[U:Und P t (.slice e)][I:Inf P e sz by_ zs](hx:ev l x= .slice a n c)(hy:ev l y= .slice a2 n2 c2)[R:RWO L a e k sz n c xs F](hR:RW S0 w0 L k sz a2 n2 ys)
  (kk:∀a' c',J S0 w0 (F a' (n+n2) c' (xs++ys)) (RY S0 w0 m P ops K rest (l' a' c')))(hsz:0<sz:=by decide)(hby:by_≤1000:=by decide)(hb:n+n2≤100000000:=by omega)(hz:zs.length=sz:=by first|rfl|simp[ints])(hl:∀a' c',l.set d (.slice a' (n+n2) c')=l' a' c':=by intro a' c';dsimp only[List.set])(hk:∀a' c',okG m kd (F a' (n+n2) c' (xs++ys)):=by first|exact fun _ _=>trivial|(intro _ _;repeat(first|exact List.Sublist.refl _|refine List.Sublist.cons_cons _ ?_|refine List.Sublist.cons _ ?_))):
  J S0 w0 L (RY S0 w0 m P ops K ((⟨some d, .call {callee:= .builtin .append,args:= #[x,y],argTypes:= #[t,t]},ty,pos,af,none⟩,kd)::rest) l):=
 J.bigs (ι:=Option Addr×Nat) (Ls:=fun i=>F i.1 (n+n2) i.2 (xs++ys)) (none,0) (fun i=>hk i.1 i.2) fun w M K' hK=>by
  obtain⟨S,hr⟩:=hR w M;have h8:(n+n2)*by_≤(n+n2)*1000:=Nat.mul_le_mul_left _ hby;obtain⟨S1,_,q1⟩:=M.get (R.h a n c xs).same;refine app_core (cs:=ints k xs) (ds:=ints k ys) M (fun a' c'=>R.h a' (n+n2) c' (xs++ys)) (fun S h=>⟨h.1.own,h.2⟩) hx hy U.h I.h hz hsz ⟨S,hr.row⟩ (by rw[ints_length,hr.len,Nat.mul_comm]) (ints_one _ _) (by omega) (by omega) (fun a' c' w' ho=>⟨⟨by rw[ints_append];exact ho,q1.1.bd.append hr.bd⟩,fun _ hb=>hb⟩) fun a' c' w' M'=>hK _ w' (a',c') M' ?_;rw[hl];exact kk a' c' w' M'
theorem J.apG{l':Option Addr→Nat→List Value}[U:Und P t (.slice e)][I:Inf P e sz by_ zs](hx:ev l x= .slice a n c)(hy:ev l y= .slice a2 n2 c2)[R:GO L a f sz e n c lst F](hR:RG S0 w0 L f sz a2 n2 lst2)(h1:∀x,∀u∈f x,u.oneCell'=true)
  (kk:∀a' c',J S0 w0 (F a' (n+n2) c' (lst++lst2)) (RY S0 w0 m P ops K rest (l' a' c')))(hsz:0<sz:=by decide)(hby:by_≤1000:=by decide)(hb:n+n2≤100000000:=by omega)(hz:zs.length=sz:=by first|rfl|simp[ints])(hl:∀a' c',l.set d (.slice a' (n+n2) c')=l' a' c':=by intro a' c';dsimp only[List.set])(hk:∀a' c',okG m kd (F a' (n+n2) c' (lst++lst2)):=by first|exact fun _ _=>trivial|(intro _ _;repeat(first|exact List.Sublist.refl _|refine List.Sublist.cons_cons _ ?_|refine List.Sublist.cons _ ?_))):
  J S0 w0 L (RY S0 w0 m P ops K ((⟨some d, .call {callee:= .builtin .append,args:= #[x,y],argTypes:= #[t,t]},ty,pos,af,none⟩,kd)::rest) l):=
 J.bigs (ι:=Option Addr×Nat) (Ls:=fun i=>F i.1 (n+n2) i.2 (lst++lst2)) (none,0) (fun i=>hk i.1 i.2) fun w M K' hK=>by
  obtain⟨S,hr⟩:=hR w M;have h8:(n+n2)*by_≤(n+n2)*1000:=Nat.mul_le_mul_left _ hby;obtain⟨S1,_,q1⟩:=M.get (R.h a n c lst).same;refine app_core (cs:=lst.flatMap f) (ds:=lst2.flatMap f) M (fun a' c'=>R.h a' (n+n2) c' (lst++lst2)) (fun S h=>⟨h.1.own,h.2⟩) hx hy U.h I.h hz hsz ⟨S,hr.row⟩ (by rw[flat_len f sz hr.szf,hr.len,Nat.mul_comm]) (fun u hu=>by obtain⟨x,_,hx⟩:=List.mem_flatMap.1 hu;exact h1 x u hx) (by omega) (by omega)
   (fun a' c' w' ho=>⟨⟨by rw[List.flatMap_append];exact ho,q1.1.szf,by rw[List.length_append,q1.1.len,hr.len]⟩,fun _ hb=>hb⟩) fun a' c' w' M'=>hK _ w' (a',c') M' ?_
  rw[hl];exact kk a' c' w' M'
theorem GOwn.blk{lo:Nat}(h:GOwn f sz lo w e (Option.some ⟨b,0,none⟩) n c lst):∃cur:List Value,Blk w b cur e∧n≤c∧c≤maxLen∧cur.length=c*sz∧cur.take (n*sz)=lst.flatMap f∧lo≤b:=by
 rcases h.own.2 with⟨hv,_⟩|⟨g,cap,cur,hv,hb,hg,hnc,hcm,hcs,ht⟩
 ·simp at hv
 ·obtain⟨rfl,rfl⟩:b=g∧c=cap:=by simpa using hv
  exact⟨cur.toList,hg,hnc,hcm,by simpa using hcs,ht,hb⟩
theorem GOwn.of_cur{lo:Nat}{cur:List Value}(B:Blk w b cur e)(hf:∀x,(f x).length=sz)(hnc:n≤c)(hcm:c≤maxLen)(hl:cur.length=c*sz)(ht:cur.take (n*sz)=lst.flatMap f)(hn:lst.length=n)(hb:lo≤b):GOwn f sz lo w e (Option.some ⟨b,0,none⟩) n c lst:=
 ⟨⟨by rw[flat_len f sz hf,hn,Nat.mul_comm], .inr ⟨b,c,cur.toArray,rfl,hb,B,hnc,hcm,by simpa using hl,by simpa using ht⟩⟩,hf,hn⟩
theorem GOwn.over{lo o:Nat}{w':World}(h:GOwn f sz lo w e (Option.some ⟨b,0,none⟩) n c lst)(hi:0≤i∧i<n)(hq:splice (lst.flatMap f) (i.toNat*sz+o) vs=(lst.set i.toNat q).flatMap f)(ho:o+vs.length≤sz)(hB:∀cur,Blk w b cur e→i.toNat*sz+o+vs.length≤cur.length→Blk w' b (splice cur (i.toNat*sz+o) vs) e):GOwn f sz lo w' e (Option.some ⟨b,0,none⟩) n c (lst.set i.toNat q):=by
 obtain⟨cur,B,h1,h2,h3,h4,h5⟩:=h.blk;have h6:(i.toNat+1)*sz≤n*sz:=Nat.mul_le_mul_right _ (by omega);have h7:n*sz≤c*sz:=Nat.mul_le_mul_right _ h1;rw[Nat.add_mul,Nat.one_mul]at h6;have hlen:(lst.flatMap f).length=n*sz:=by rw[flat_len f sz h.szf,h.len,Nat.mul_comm]
 refine GOwn.of_cur (hB cur B (by omega)) h.szf h1 h2 (by rw[splice_length];exact h3) ?_ (by rw[List.length_set];exact h.len) h5;rw[←hq];apply List.ext_getElem?;intro j;rw[List.getElem?_take,splice_get _ _ _ _ (by omega),splice_get _ _ _ _ (by omega),←h4,List.getElem?_take];by_cases hj:j<n*sz
 ·rw[if_pos hj,if_pos hj]
 ·rw[if_neg hj,if_neg (by omega),if_neg hj]
theorem over_all(hf:∀x,(f x).length=sz){j:Nat}(hj:j<lst.length):splice (lst.flatMap f) (j*sz+0) (f q)=(lst.set j q).flatMap f:=by
 have h2:sz*(j+1)≤sz*lst.length:=Nat.mul_le_mul_left _ hj;rw[Nat.mul_add,Nat.mul_one]at h2;rw[splice_mid _ _ _ (by rw[flat_len f sz hf,hf,Nat.mul_comm j sz];omega),flat_set f sz hf _ _ _ hj,hf,Nat.add_zero,Nat.mul_comm j sz]
theorem gown_st{S:Nat→Prop}{w w':World}{g:Nat}(x1:St g w w')(hs:S g):Pr S w w':=⟨x1.os,x1.tape,x1.output,by rw[x1.size];exact Nat.le_refl _,fun b _ hb=>x1.block b fun e=>hb (e▸hs)⟩
theorem J.stG[Z:Siz P xt sz](hx:ev l x=pt a (i.toNat*sz))(hy:ev l y= .agg vs.toArray)[R:GO L a f sz e n c lst F](hq:vs=f q)(kk:J S0 w0 (F a n c (lst.set i.toNat q)) (RY S0 w0 m P ops K rest l))(hz:sz≠0:=by decide)(hi:0≤i∧i<n:=by omega)(hv:vs.all cellB=true:=by rfl)(hk:okG m kd (F a n c (lst.set i.toNat q)):=by first|exact trivial|(repeat(first|exact List.Sublist.refl _|refine List.Sublist.cons_cons _ ?_|refine List.Sublist.cons _ ?_))):
  J S0 w0 L (RY S0 w0 m P ops K ((⟨none, .store xt x y,ty,pos,af,none⟩,kd)::rest) l):=
 J.big hk fun w M K' hK=>by
  obtain⟨S,h1,h2,h3⟩:=M.foc (R.h a n c (lst.set i.toNat q));obtain⟨g,hg⟩:=h2.1.some (by omega);subst hg;obtain⟨cur,B,b1,b2,b3,b4,b5⟩:=h2.1.blk;have h6:(i.toNat+1)*sz≤n*sz:=Nat.mul_le_mul_right _ (by omega);have h7:n*sz≤c*sz:=Nat.mul_le_mul_right _ b1;rw[Nat.add_mul,Nat.one_mul]at h6;have hvl:vs.length=sz:=by rw[hq];exact h2.1.szf q
  refine RS.storeAgg (o:=0+i.toNat*sz) (by rw[hx];rfl) hy Z.h hz hvl (List.all_eq_true.1 hv) B (by omega) fun w' x1 N=>RS.nil (have M':=h3 w' S (gown_st x1 (h2.2 g rfl)) ⟨?_,h2.2⟩ fun _ hb=> .inl hb;hK _ w' M' (kk w' M'));subst hq;rw[Nat.zero_add]at N;exact h2.1.over (o:=0) hi (over_all h2.1.szf (by have:=h2.1.len;omega)) (by omega) fun cur' B' _=>by
   rw[show cur'=cur from by unfold Blk at B B';rw[B]at B';simpa using B'.symm];exact N
theorem J.ldG1[U:Sca P xt](hx:ev l x=pt a (i.toNat*1))(hR:RG S0 w0 (Lv m L) f 1 a n lst)(kk:J S0 w0 L (RY S0 w0 m P ops K rest l')){q:α}(hq:lst[i.toNat]? =some q:=by assumption)(hf:f q=[v]:=by rfl)(hi:0≤i∧i<n:=by omega)(hl:l.set d v=l':=by dsimp only[List.set]):
  J S0 w0 L (RY S0 w0 m P ops K ((⟨some d, .load xt x,ty,pos,af,none⟩, .q)::rest) l):=
 J.val (fun w M => by
  obtain ⟨S, h⟩ := hR w M
  obtain ⟨b, o', ha, _, hc⟩ := h.get (by decide) hq hi
  have : w.cell? ⟨b, o' + i.toNat * 1, Option.none⟩ = Option.some v := by have := hc 0 (by rw [hf]; exact Nat.zero_lt_one); rw [hf] at this; exact this
  obtain ⟨_, u1, u2⟩ := U.h
  exact D.load (by rw [hx, pt_some ha]) u1 u2 this) kk hl
end
end G
namespace G
open Go.RowKit
def Ent.emp:Ent:=⟨fun _ _=>True,fun _ _=>trivial,fun _ _=>trivial⟩
def Ent.all(E:List Ent):Ent:=⟨Sep E,Sep.step,Sep.mono⟩
section
variable{S0:Nat→Prop}{w0 w:World}{L L1 L2 E:List Ent}{e e1 e2 e3:Ent}{X:World→Prop}
theorem Mem.split(M:Mem S0 w0 L w)(r:Rpl L e e1 L1)(h:∀S,e.ok S w→∃S1 S2:Nat→Prop,(∀b,S1 b→S b)∧(∀b,S2 b→S b)∧(∀b,S1 b→S2 b→False)∧e1.ok S1 w∧e2.ok S2 w):Mem S0 w0 (e2::L1) w:=by
 obtain⟨S,T,h1,h2,h3,h4,h5⟩:=r.foc M.sep;obtain⟨S1,S2,g1,g2,g3,g4,g5⟩:=h S h4
 exact ⟨M.pr, S2, fun b => S1 b ∨ T b, fun b hb => h1 b (g2 b hb), fun b hb => hb.elim (fun k => h1 b (g1 b k)) (h2 b), fun b hb hc => hc.elim (fun k => g3 b k hb) (fun k => h3 b (g2 b hb) k), g5,
  h5 (fun b hb => .inl hb) (fun b hb => .inr hb) (fun b hb hc => h3 b (g1 b hb) hc) (fun _ _ _ => rfl) g4⟩
theorem Mem.merge(M:Mem S0 w0 L w)(r1:Rpl L e1 .emp L1)(r2:Rpl L1 e2 e3 L2)(h:∀S1 S2:Nat→Prop,(∀b,S1 b→S2 b→False)→e1.ok S1 w→e2.ok S2 w→e3.ok (fun b=>S1 b∨S2 b) w):Mem S0 w0 L2 w:=by
 obtain⟨S,T,h1,h2,h3,h4,h5⟩:=r1.foc M.sep;have hs:Sep L1 T w:=h5 (U':=T) (S':=no) (fun b hb=>hb.elim) (fun b hb=>hb) (fun b hb=>hb.elim) (fun _ _ _=>rfl) trivial;obtain⟨S2,T2,g1,g2,g3,g4,g5⟩:=r2.foc hs;exact⟨M.pr,g5 (fun b hb=>hb.elim (h1 b) (fun k=>h2 b (g1 b k))) (fun b hb=>h2 b (g2 b hb)) (fun b hb hc=>hb.elim (fun k=>h3 b k (g2 b hc)) (fun k=>g3 b k hc)) (fun _ _ _=>rfl) (h S S2 (fun b hb hc=>h3 b hb (g1 b hc)) h4 g4)⟩
theorem J.part{F:Ent→List Ent}(e e1 e2:Ent)[R:RE L e F](h:∀S w,e.ok S w→∃S1 S2:Nat→Prop,(∀b,S1 b→S b)∧(∀b,S2 b→S b)∧(∀b,S1 b→S2 b→False)∧e1.ok S1 w∧e2.ok S2 w)(k:J S0 w0 (e2::F e1) X):J S0 w0 L X:=
 fun w M=>k w (M.split (R.h e1) fun S=>h S w)
theorem J.merge{F1 F2:Ent→List Ent}(e1 e2 e3:Ent)[R:RE L e1 F1][R2:RE (F1 .emp) e2 F2](h:∀(S1 S2:Nat→Prop) w,(∀b,S1 b→S2 b→False)→e1.ok S1 w→e2.ok S2 w→e3.ok (fun b=>S1 b∨S2 b) w)(k:J S0 w0 (F2 e3) X):J S0 w0 L X:=
 fun w M=>k w (M.merge (R.h .emp) (R2.h e3) fun S1 S2=>h S1 S2 w)
theorem J.fact{p:Prop}{F:Ent→List Ent}(e:Ent)[R:RE L e F](h:∀S w,e.ok S w→p)(k:p→J S0 w0 L X):J S0 w0 L X:=fun w M=>by
 obtain⟨S,_,h2⟩:=M.get (R.h e).same;exact k (h S w h2) w M
/-! one of many -/
theorem sep_open:∀ {E:List Ent} {i:Nat} {S:Nat→Prop},E[i]? =some e→Sep E S w→∃S1 S2:Nat→Prop,(∀b,S1 b→S b)∧(∀b,S2 b→S b)∧(∀b,S1 b→S2 b→False)∧Sep (E.eraseIdx i) S1 w∧e.ok S2 w
 |[],_,_,h,_=>by simp at h
 |x::E,0,S,h,⟨A,B,h1,h2,h3,h4,h5⟩=>by
  obtain rfl:x=e:=by simpa using h
  exact⟨B,A,h2,h1,fun b hb hc=>h3 b hc hb,h5,h4⟩
 |x::E,i+1,S,h,⟨A,B,h1,h2,h3,h4,h5⟩=>by
  obtain⟨S1,S2,g1,g2,g3,g4,g5⟩:=sep_open (E:=E) (i:=i) (by simpa using h) h5;exact⟨fun b=>A b∨S1 b,S2,fun b hb=>hb.elim (h1 b) (fun k=>h2 b (g1 b k)),fun b hb=>h2 b (g2 b hb),fun b hb hc=>hb.elim (fun k=>h3 b k (g2 b hc)) (fun k=>g3 b k hc),⟨A,S1,fun b hb=> .inl hb,fun b hb=> .inr hb,fun b hb hc=>h3 b hb (g1 b hc),h4,g4⟩,g5⟩
theorem sep_shut:∀ {E:List Ent} {i:Nat} {S1 S2:Nat→Prop},i<E.length→Sep (E.eraseIdx i) S1 w→e.ok S2 w→(∀b,S2 b→S1 b→False)→Sep (E.set i e) (fun b=>S2 b∨S1 b) w
 |[],_,_,_,h,_,_,_=>by simp at h
 |x::E,0,S1,S2,h,hE,he,hd=>⟨S2,S1,fun b hb=> .inl hb,fun b hb=> .inr hb,hd,he,hE⟩
 |x::E,i+1,S1,S2,h,⟨A,B,h1,h2,h3,h4,h5⟩,he,hd=>
  ⟨A,fun b=>S2 b∨B b,fun b hb=> .inr (h1 b hb),fun b hb=>hb.imp_right (h2 b),fun b hb hc=>hc.elim (fun k=>hd b k (h1 b hb)) (h3 b hb),h4,sep_shut (by simpa using h) h5 he fun b hb hc=>hd b hb (h2 b hc)⟩
theorem J.openA{F:Ent→List Ent}(E:List Ent)(i:Nat)[R:RE L (.all E) F](hi:E[i]? =some e)(k:J S0 w0 (e::F (.all (E.eraseIdx i))) X):J S0 w0 L X:=
 J.part (.all E) (.all (E.eraseIdx i)) e (fun S w h=>sep_open hi h) k
theorem J.shutA{F1 F2:Ent→List Ent}(E:List Ent)(i:Nat)(e:Ent)[R:RE L e F1][R2:RE (F1 .emp) (.all (E.eraseIdx i)) F2](hi:i<E.length)(k:J S0 w0 (F2 (.all (E.set i e))) X):J S0 w0 L X:=
 J.merge e (.all (E.eraseIdx i)) (.all (E.set i e)) (fun S1 S2 w hd h1 h2=>sep_shut hi h2 h1 hd) k
theorem J.newA(E:List Ent)(k:J S0 w0 (.all E::L) X)(h:∀w,Sep E no w):J S0 w0 L X:=J.add0 (.all E) h k
end
def pcE(e:TypeId)(k:IntKind)(q:Pc):Ent:= .iown e k q.a q.n q.c q.xs
theorem sep_at{e:Ent}{w:World}:∀ {E:List Ent} {i:Nat} {S:Nat→Prop},E[i]? =some e→Sep E S w→∃S',e.ok S' w:=fun h hs=>let ⟨_,S2,_,_,_,_,h5⟩:=sep_open h hs;⟨S2,h5⟩
theorem RI.all{S0:Nat→Prop}{w0:World}{L:List Ent}{e:TypeId}{k:IntKind}{qs:List Pc}{q:Pc}{i:Nat}{F:Ent→List Ent}[R:RE L (.all (qs.map (pcE e k))) F](hq:qs[i]? =some q):RI S0 w0 L k q.a q.n q.xs:=fun w M=>by
 obtain⟨S,_,h2⟩:=M.get (R.h (.all (qs.map (pcE e k)))).same;obtain⟨S',h3⟩:=sep_at (i:=i) (e:=pcE e k q) (by rw[List.getElem?_map,hq];rfl) h2;exact⟨_,h3.1.row⟩
theorem J.nilW{S0:Nat→Prop}{w0:World}{L:List Ent}{X:World→Prop}(k:IntKind)(sz:Nat)(kk:J S0 w0 (.wrow k sz none 0 []::L) X):J S0 w0 L X:=J.add0 (.wrow k sz none 0 []) (fun w=>WRow.nil) kk
theorem J.nilR{S0:Nat→Prop}{w0:World}{L:List Ent}{X:World→Prop}(k:IntKind)(kk:J S0 w0 (.irow k none 0 []::L) X):J S0 w0 L X:=J.add0 (.irow k none 0 []) (fun w=>IRow.nil) kk
/-! records with rows inside -/
section
variable{S0:Nat→Prop}{w0 w:World}{L:List Ent}{X:World→Prop}{α:Type}{g:α→List Inn}{l1 l2:List α}
theorem wown_wrow{e:TypeId}{k:IntKind}{sz:Nat}{a:Option Addr}{n c:Nat}{xs:List Int}{S:Nat→Prop}(h:(Ent.wown e k sz a n c xs).ok S w):(Ent.wrow k sz a n xs).ok S w:=⟨h.1.rowO.row.weaken fun b _ hb=>h.2 b hb,h.1.len,h.1.bd⟩
theorem iown_irow{e:TypeId}{k:IntKind}{a:Option Addr}{n c:Nat}{xs:List Int}{S:Nat→Prop}(h:(Ent.iown e k a n c xs).ok S w):(Ent.irow k a n xs).ok S w:=⟨h.1.rowO.row.weaken fun b _ hb=>h.2 b hb,h.1.len,h.1.bd⟩
end
end G
namespace S
theorem getD_mem{l:List Nat}{d:Nat}(h:d<l.length):l.getD d 0∈l:=by
 rw[List.getD_eq_getElem?_getD,List.getElem?_eq_getElem h];exact List.getElem_mem h
end S
namespace S
open G
theorem cmpS_trans:∀ {a b c:List Int},cmpS a b<0→cmpS b c<0→cmpS a c<0
 |[],[],_,h,_=>by simp[cmpS]at h
 |[],_::_,[],_,h=>by simp[cmpS]at h
 |[],_::_,_::_,_,_=>by simp[cmpS]
 |_::_,[],_,h,_=>by simp[cmpS]at h
 |_::_,_::_,[],_,h=>by simp[cmpS]at h
 |x::xs,y::ys,z::zs,h1,h2=>by
  have ih:= @cmpS_trans xs ys zs;simp only[cmpS]at h1 h2⊢;by_cases a1:x<y<;>by_cases a2:y<x<;>by_cases b1:y<z<;>by_cases b2:z<y<;>simp only[a1,a2,b1,b2,if_true,if_false]at h1 h2
  all_goals first|omega|(rw[if_pos (by omega)];decide)|(rw[if_neg (by omega),if_neg (by omega)];exact ih h1 h2)
theorem rising_lt{m:Nat}{ids:List Int}(h:Rising m ids)(i:Nat):∀j,i<j→j<m→cmpS (idAt ids i) (idAt ids j)<0
 |0,hi,_=>by omega
 |j+1,hi,hj=>by
  have h1:=h j (by omega);by_cases e:i=j
  ·subst e;exact h1
  ·exact cmpS_trans (rising_lt h i j (by omega) (by omega)) h1
theorem cmpS_self(a:List Int):cmpS a a=0:=(cmpS_eq a a).2 rfl
theorem rising_inj{m:Nat}{ids:List Int}(h:Rising m ids){i j:Nat}(hi:i<m)(hj:j<m)(e:idAt ids i=idAt ids j):i=j:=by
 rcases Nat.lt_trichotomy i j with h1|h1|h1
 ·have:=rising_lt h i j h1 hj;rw[e,cmpS_self]at this;omega
 ·exact h1
 ·have:=rising_lt h j i h1 hi;rw[e,cmpS_self]at this;omega
def inS(m:Nat)(ids x:List Int):Prop:=∃i,i<m∧idAt ids i=x
def ixS(m:Nat)(ids x:List Int):Nat:=((List.range m).find? fun i=>decide (idAt ids i=x)).getD 0
theorem ix_in{m:Nat}{ids x:List Int}(h:inS m ids x):ixS m ids x<m∧idAt ids (ixS m ids x)=x:=by
 obtain⟨i,hi,e⟩:=h;unfold ixS;cases hf:(List.range m).find? fun i=>decide (idAt ids i=x)with
 |none=>rw[List.find?_eq_none]at hf;exact absurd (decide_eq_true e) (hf i (List.mem_range.2 hi))
 |some j=>
  have h1:=List.find?_some hf;exact⟨List.mem_range.1 (List.mem_of_find?_eq_some hf),of_decide_eq_true h1⟩
theorem ix_eq{m:Nat}{ids:List Int}(h:Rising m ids){i:Nat}(hi:i<m):ixS m ids (idAt ids i)=i:=by
 have:=ix_in (m:=m) (ids:=ids) (x:=idAt ids i) ⟨i,hi,rfl⟩;exact rising_inj h this.1 hi this.2
def allI(m:Nat)(ids:List Int)(n:Nat)(ps:List Int):Prop:=∀j,j<n→inS m ids (idAt ps j)
def prS(m:Nat)(ids:List Int)(ops:List OpV)(i:Nat):List Nat:=(List.range (ops.getD i OpV.zero).n).map fun j=>ixS m ids (idAt (ops.getD i OpV.zero).ids j)
theorem verE_check{o:OpV}(h:verE o=0):checkE o=0:=by
 unfold verE at h;split at h
 ·assumption
 ·exact h
def spotC(m:Nat)(c:Nat→Int):Nat:=((List.range m).find? fun i=>decide (0≤c i)).getD m
theorem spotC_eq{m:Nat}{c:Nat→Int}{p:Nat}(h1:p≤m)(h2:∀i,i<p→c i<0)(h3:p<m→0≤c p):spotC m c=p:=by
 unfold spotC;cases hf:(List.range m).find? fun i=>decide (0≤c i)with
 |none=>
  rw[List.find?_eq_none]at hf;simp only[Option.getD_none];apply Classical.byContradiction;intro hn;have:=hf p (List.mem_range.2 (by omega));simp only[decide_eq_true_eq]at this;exact this (h3 (by omega))
 |some j=>
  simp only[Option.getD_some];have hj:=List.find?_some hf;simp only[decide_eq_true_eq]at hj;have hm:=List.mem_range.1 (List.mem_of_find?_eq_some hf);rcases Nat.lt_trichotomy j p with h|h|h
  ·have:=h2 j h;omega
  ·exact h
  ·rw[List.find?_range_eq_some]at hf;have:=hf.2.2 p h;have h4:=h3 (by omega);simp[h4]at this
theorem spotC_le(m:Nat)(c:Nat→Int):spotC m c≤m:=by
 unfold spotC;cases hf:(List.range m).find? fun i=>decide (0≤c i)with
 |none=>exact Nat.le_refl _
 |some j=>exact Nat.le_of_lt (List.mem_range.1 (List.mem_of_find?_eq_some hf))
theorem spotC_lt{m:Nat}{c:Nat→Int}{i:Nat}(h:i<spotC m c):c i<0:=by
 have hl:=spotC_le m c;unfold spotC at h hl;cases hf:(List.range m).find? fun i=>decide (0≤c i)with
 |none=>
  rw[hf]at h hl;rw[List.find?_eq_none]at hf;have:=hf i (List.mem_range.2 (by simp at h;omega));simp only[decide_eq_true_eq]at this;omega
 |some j=>
  rw[hf]at h;rw[List.find?_range_eq_some]at hf;have:=hf.2.2 i (by simpa using h);simpa using this
theorem spotC_ge{m:Nat}{c:Nat→Int}(h:spotC m c<m):0≤c (spotC m c):=by
 unfold spotC at h⊢;cases hf:(List.range m).find? fun i=>decide (0≤c i)with
 |none=>rw[hf]at h;simp at h
 |some j=>simpa using List.find?_some hf
def MonoC(m:Nat)(c:Nat→Int):Prop:=∀i j,i<j→j<m→c j<0→c i<0
structure HalfC(m:Nat)(c:Nat→Int)(i j:Int):Prop where
 r:0≤i∧i≤j∧j≤m
 lo:∀k,k<i.toNat→c k<0
 hi:∀k,j.toNat≤k→k<m→0≤c k
theorem HalfC.first(m:Nat)(c:Nat→Int):HalfC m c 0 m:=⟨by omega,fun k h=>by omega,fun k h h2=>by omega⟩
theorem HalfC.up{m:Nat}{c:Nat→Int}{i j h:Int}(H:HalfC m c i j)(hm:MonoC m c)(h1:i≤h)(h2:h<j)(hc:c h.toNat<0):HalfC m c (h+1) j:=by
 have:=H.r;refine⟨by omega,fun k hk=>?_,H.hi⟩;by_cases e:k=h.toNat
 ·subst e;exact hc
 ·exact hm k h.toNat (by omega) (by omega) hc
theorem HalfC.down{m:Nat}{c:Nat→Int}{i j h:Int}(H:HalfC m c i j)(hm:MonoC m c)(h1:i≤h)(h2:h<j)(hc:¬c h.toNat<0):HalfC m c i h:=by
 have:=H.r;refine⟨by omega,H.lo,fun k hk hm2=>?_⟩;by_cases e:k=h.toNat
 ·subst e;omega
 ·apply Classical.byContradiction;intro hn;exact hc (hm h.toNat k (by omega) hm2 (by omega))
theorem HalfC.spot{m:Nat}{c:Nat→Int}{i j:Int}(H:HalfC m c i j)(h:¬i<j):i=(spotC m c:Nat):=by
 have:=H.r;have e:spotC m c=i.toNat:=spotC_eq (by omega) H.lo fun hl=>H.hi _ (by omega) hl;omega
end S
namespace S
open G
def kc(a b:ByteArray):Int:=cmpS (bys a) (bys b)
structure RgV where
 (key:ByteArray)(vk num bits:Int)(t:ByteArray)(st:Int)(id:List Int)(h32:id.length=32)
def RgV.zero:RgV:=⟨.empty,0,0,0, .empty,0,List.replicate 32 0,rfl⟩
@[reducible] def rg(l:List RgV)(i:Nat):RgV:=l.getD i RgV.zero
theorem rg_some{l:List RgV}{i:Nat}{x:RgV}(h:l[i]? =some x):rg l i=x:=by unfold rg;rw[List.getD_eq_getElem?_getD,h];rfl
def SortK(l:List RgV):Prop:=l.Pairwise fun a b=>kc a.key b.key<0
theorem SortK.lt{l:List RgV}(h:SortK l){i j:Nat}(hij:i<j)(hj:j<l.length):kc (rg l i).key (rg l j).key<0:=by
 have:=List.pairwise_iff_getElem.1 h i j (by omega) hj hij;rw[rg_some (List.getElem?_eq_getElem (by omega:i<l.length)),rg_some (List.getElem?_eq_getElem hj)];exact this
/-! places -/
def cK(l:List RgV)(k:ByteArray)(i:Nat):Int:=kc (rg l i).key k
end S
end Go.Proofs.YtjjbdaiioociaaaGreatDoor
