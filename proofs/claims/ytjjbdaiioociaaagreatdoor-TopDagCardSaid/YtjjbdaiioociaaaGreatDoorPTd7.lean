/-
  Part 7 of the lemmas of these laws: TopDag.
-/
import Derived.Test.YtjjbdaiioociaaaGreatDoorPTd6
set_option linter.unusedVariables false
set_option linter.unusedSimpArgs false
open Go.Proofs.Tryz
namespace Go.Proofs.YtjjbdaiioociaaaGreatDoor
namespace G
open Go.RowKit
theorem Pr.mono{S T:Nat→Prop}{w w':World}(h:Pr S w w')(k:∀b,S b→T b):Pr T w w':=⟨h.os,h.tape,h.output,h.size,fun b hb hn=>h.block b hb fun hs=>hn (k b hs)⟩
section
variable{P:Program}{w w':World}
theorem append_at{t ty e:TypeId}{sz by_:Nat}{z:List Value}{a a2:Option Addr}{n c m c2:Nat}{cs ds:List Value}{S:Nat→Prop}(hu:P.underlying t=some (.slice e))(ht:TI P e sz by_ z)(hz:z.length=sz)(hsz:0<sz)
  (hO:Own 0 w e sz a n c cs)(hR:Row S w a2 ds)(hd:ds.length=m*sz)(h1:∀u∈ds,u.oneCell'=true)(hm:0<m)(hb:(n+m)*by_≤140737488355328)(hb':n+m≤140737488355328):
  ∃a' c' w',(Builtin.append_ #[t,t] ty #[.slice a n c, .slice a2 m c2]).run P w= .ok (.slice a' (n+m) c') w'∧Own 0 w' e sz a' (n+m) c' (cs++ds)∧Pr (fun b=>obk a=some b) w w'∧∀b,obk a'=some b→obk a=some b∨w.heap.size≤b:=by
 obtain⟨i,zv,i1,i2,i3,i4,i5⟩:=ht;have hzs:zv.cells.size=sz:=by rw[i5];simpa using hz
 have hlen:0<ds.length:=by rw[hd];exact Nat.mul_pos hm hsz
 obtain⟨b,o,ha,_,_⟩:=hR.at_ 0 hlen;subst ha;subst i2 i3;have h63:n+m≤maxLen:=by simp only[maxLen];omega
 obtain⟨v',w',hr,ho,hg,_⟩:=run_append_own (P:=P) w 0 t ty e i zv i.size i.bytes hu i1 i4 rfl rfl hzs hsz (.slice a n c) n cs hO ⟨b,o,none⟩ m c2 ds hd (hR.news rfl) h1 h63 hb (Nat.zero_le _);obtain⟨a',c',rfl⟩:=Own.form ho;have hp:=grown_pr hg;rw[ownBlock_slice]at hp;refine⟨a',c',w',hr,ho,hp,?_⟩;rcases hO.2 with⟨hv,hn⟩|⟨g,cap,cur,hv,_,hgb,hnc,hcm,hcs,htake⟩
 ·obtain⟨rfl,rfl,rfl⟩:a=none∧n=0∧c=0:=by simpa using hv
  have hr2:=run_append_nil (P:=P) w t ty e i zv hu i1 i4 ⟨b,o,none⟩ m c2 ds hd (hR.news rfl) hm (by simp only[maxLen]at h63;omega) (by rw[Nat.zero_add]at hb;omega);rw[hr]at hr2;injection hr2 with e1 e2;injection e1 with e3;subst e3;intro q hq;right;simp[obk]at hq;omega
 ·obtain⟨rfl,rfl⟩:a=some ⟨g,0,none⟩∧c=cap:=by simpa using hv
  by_cases hroom:n+m≤c
  ·have hfit:n*i.size+ds.length≤cur.size:=by rw[hd,hcs,←Nat.add_mul];exact Nat.mul_le_mul_right _ hroom
   have hr2:=run_append_room (P:=P) w t ty e i hu i1 g n c cur hgb ⟨b,o,none⟩ m c2 ds hd (hR.news rfl) h1 hroom hfit;rw[hr]at hr2;injection hr2 with e1 e2;injection e1 with e3;subst e3;exact fun q hq=> .inl hq
  ·have hr2:=run_append_grow (P:=P) w t ty e i zv hu i1 i4 ⟨g,0,none⟩ n c cs hO.1 (World.ownsRow.cells hO (g:=g) rfl) ⟨b,o,none⟩ m c2 ds hd (hR.news rfl) (by omega) (by simp only[maxLen]at h63;omega) (growslice_fits (by omega) hb);rw[hr]at hr2;injection hr2 with e1 e2;injection e1 with e3;subst e3;intro q hq;right;simp[obk]at hq;omega
end
section
variable{S0:Nat→Prop}{w0:World}{L L':List Ent}{P:Program}{ops:Array Oper}{l:List Value}{d:Tmp}{ty:TypeId}{pos:String}{af:Array Edge}{x y:Operand}{t e:TypeId}{sz by_:Nat}{z:List Value}{a a2:Option Addr}{n c m c2:Nat}{cs ds:List Value}{K':List Value→World→Prop}
theorem app_core{w:World}(M:Mem S0 w0 L w){E:Ent}{E':Option Addr→Nat→Ent}{F:Option Addr→Nat→List Ent}(R:∀a' c',Rpl L E (E' a' c') (F a' c'))(hE:∀S,E.ok S w→Own 0 w e sz a n c cs∧∀b,obk a=some b→S b)
  (hx:ev l x= .slice a n c)(hy:ev l y= .slice a2 m c2)(hu:P.underlying t=some (.slice e))(ht:TI P e sz by_ z)(hz:z.length=sz)(hsz:0<sz)(hR:∃S,Row S w a2 ds)(hd:ds.length=m*sz)(h1:∀u∈ds,u.oneCell'=true)(hb:(n+m)*by_≤140737488355328)(hb':n+m≤140737488355328)
  (hE':∀a' c' w',Own 0 w' e sz a' (n+m) c' (cs++ds)→(E' a' c').ok (fun b=>obk a'=some b) w')
  (k:∀a' c' w',Mem S0 w0 (F a' c') w'→K' (l.set d (.slice a' (n+m) c')) w'):
  RS P ops K' [⟨some d, .call {callee:= .builtin .append,args:= #[x,y],argTypes:= #[t,t]},ty,pos,af,none⟩] l w:=by
 have hrun:∀v w',(Builtin.append_ #[t,t] ty #[.slice a n c, .slice a2 m c2]).run P w= .ok v w'→(execOp (ev l) ⟨some d, .call {callee:= .builtin .append,args:= #[x,y],argTypes:= #[t,t]},ty,pos,af,none⟩).run P w= .ok (.value v) w':=by
  intro v w' h;simp[execOp,resolve,hx,hy,invoke,builtin,h]
 obtain⟨S1,_,q1,_⟩:=M.foc (R a c);obtain⟨hO,_⟩:=hE S1 q1;obtain⟨S,hR⟩:=hR;by_cases hm:m=0
 ·subst hm;obtain rfl:ds=[]:=List.length_eq_zero_iff.1 (by omega);have hcs:P.cellsOf e=sz:=by obtain⟨i,_,i1,i2,_⟩:=ht;simp[Program.cellsOf,i1,i2]
  have:=append_zero_run (P:=P) (w:=w) (ty:=ty) (a:=a) (a2:=a2) (c2:=c2) hu hcs (by omega) hO.cap.1;refine RS.o (hrun _ _ this) (RS.nil (k a c w ?_)) rfl;obtain⟨S2,_,p2,p3⟩:=M.foc (R a c);exact p3 w _ (Pr.refl _ _) (hE' a c w (by simpa using hO)) fun b hb=> .inl ((hE S2 p2).2 b hb)
 ·obtain⟨a',c',w',hr,ho,hp,hat⟩:=append_at (P:=P) (ty:=ty) (c2:=c2) hu ht hz hsz hO hR hd h1 (by omega) hb hb';refine RS.o (hrun _ _ hr) (RS.nil (k a' c' w' ?_)) rfl;obtain⟨S2,_,p2,p3⟩:=M.foc (R a' c');have h2:=(hE S2 p2).2;exact p3 w' _ (hp.mono h2) (hE' a' c' w' ho) fun b hb=>(hat b hb).imp_left (h2 b)
end
/-! numbers that are owned -/
class RO(L:List Ent)(a:Option Addr)(e:outParam TypeId)(k:outParam IntKind)(n c:outParam Nat)(xs:outParam (List Int))(F:outParam (Option Addr→Nat→Nat→List Int→List Ent)):Prop where h:∀a' n' c' xs',Rpl L (.iown e k a n c xs) (.iown e k a' n' c' xs') (F a' n' c' xs')
section
variable{L:List Ent}{a:Option Addr}{e:TypeId}{k:IntKind}{n c:Nat}{xs:List Int}{x:Ent}{F:Option Addr→Nat→Nat→List Int→List Ent}
instance RO.here:RO (.iown e k a n c xs::L) a e k n c xs (fun a' n' c' xs'=> .iown e k a' n' c' xs'::L):=⟨fun _ _ _ _=> .here⟩
instance(priority:=low) RO.there[R:RO L a e k n c xs F]:RO (x::L) a e k n c xs (fun a' n' c' xs'=>x::F a' n' c' xs'):=⟨fun a' n' c' xs'=> .there (R.h a' n' c' xs')⟩
end
/-! a part of a list -/
class RE(L:List Ent)(e:Ent)(F:outParam (Ent→List Ent)):Prop where h:∀e',Rpl L e e' (F e')
instance RE.here{L:List Ent}{e:Ent}:RE (e::L) e (fun e'=>e'::L):=⟨fun _=> .here⟩
instance(priority:=low) RE.there{L:List Ent}{e x:Ent}{F:Ent→List Ent}[R:RE L e F]:RE (x::L) e (fun e'=>x::F e'):=⟨fun e'=> .there (R.h e')⟩
section
variable{S0:Nat→Prop}{w0 w:World}{L L' E:List Ent}{P:Program}{l0:List Oper}{ops:Array Oper}{K:List Value→World→Prop}{rest:List (Oper×Kd)}{l l':List Value}{m:Md}{d:Tmp}{op:Op}{ty:TypeId}{pos:String}{af:Array Edge}{kd:Kd}{v:Value}{x y z:Operand}{t xt yt e T:TypeId}{b o n c n2 c2 sz by_:Nat}{cs cs' vs zs:List Value}{X:World→Prop}
 {k ki:IntKind}{a a2:Option Addr}{xs ys:List Int}{i q:Int}{α:Type}{f:α→List Value}{lst:List α}{e1 e2:Ent}
theorem RI.own'{F:Option Addr→Nat→Nat→List Int→List Ent}[R:RO L a e k n c xs F]:RI S0 w0 L k a n xs:= .own (R.h a n c xs).same
theorem J.re{F:Ent→List Ent}(e1 e2:Ent)[R:RE L e1 F](h:∀S w,e1.ok S w→e2.ok S w)(k:J S0 w0 (F e2) X):J S0 w0 L X:=fun w M=>by
 obtain⟨S,h1,h2,h3⟩:=M.foc (R.h e2);exact k w (h3 w S (Pr.refl _ _) (h S w h2) fun _ hb=> .inl hb)
theorem J.add0(e1:Ent)(h:∀w,e1.ok no w)(k:J S0 w0 (e1::L) X):J S0 w0 L X:=fun w M=>k w (M.new (Ext.refl w) (e1.mono (h w) fun _ _ hb=>hb.elim))
theorem J.nilI(e:TypeId)(k:IntKind)(kk:J S0 w0 (.iown e k none 0 0 []::L) X):J S0 w0 L X:=J.add0 (.iown e k none 0 0 []) (fun w=>⟨IOwn.nil 0 w e k,fun b hb=>by cases hb⟩) kk
theorem own_blk(h:(Ent.blk b (ints k xs) e).ok S0 w)(hn:xs.length=n)(hd:Bd k xs)(hm:n≤9223372036854775807):(Ent.iown e k (some ⟨b,0,none⟩) n n xs).ok S0 w:=⟨IOwn.of_blk h.2 rfl hn (Nat.zero_le _) hd hm,fun q hq=>by simp[obk]at hq;subst hq;exact h.1⟩
theorem J.mkI[U:Und P t (.slice e)][I:Inf P e 1 by_ [.int k 0]]{l':Nat→List Value}(hk:okE m kd=true)(hx:ev l x= .int ki (n:Nat))(hy:ev l y= .int ki (n:Nat))(kk:∀b,J S0 w0 (.iown e k (some ⟨b,0,none⟩) n n (List.replicate n 0)::L) (RY S0 w0 m P ops K rest (l' b)))
  (hb:(by_:Int)*(n:Nat)≤281474976710656:=by omega)(hl:∀b,l.set d (.slice (some ⟨b,0,none⟩) n n)=l' b:=by intro b;dsimp only[List.set])(hi:n≤9223372036854775807:=by omega):J S0 w0 L (RY S0 w0 m P ops K ((⟨some d, .makeSlice t x y,ty,pos,af,none⟩,kd)::rest) l):=
 J.eff hk fun w M K' hK => RS.make hx hy U.h I.h (Int.natCast_nonneg n) hb (by omega) fun b w' e1 s1 x1 B => RS.nil (hK _ w' x1 (by
  rw [Int.toNat_natCast] at B ⊢
  rw [hl]
  refine kk b w' (M.new x1 (own_blk ⟨by subst e1; exact Nat.le_refl _, ?_⟩ (by simp) (Bd.zeros _ _) (by omega)))
  have e2 : (madeCells [Value.int k 0].toArray (n * 1)).toList = ints k (List.replicate n 0) := by
   rw [Nat.mul_one]
   apply List.ext_getElem
   ·simp [madeCells, ints]
   intro j h1 h2
   simp [madeCells, ints, Nat.mod_one]
  rwa [e2] at B))
theorem J.b1[U:Und P t (.slice e)][I:Inf P e 1 by_ zs]{l':Nat→List Value}(hk:okE m kd=true)(hx:ev l x= .int k q)(kk:∀b,J S0 w0 (.iown e k (some ⟨b,0,none⟩) 1 1 [q]::L) (RY S0 w0 m P ops K rest (l' b)))
  (hq:0≤q∧q<lim k:=by simp only[lim];omega)(hl:∀b,l.set d (.slice (some ⟨b,0,none⟩) 1 1)=l' b:=by intro b;dsimp only[List.set]):J S0 w0 L (RY S0 w0 m P ops K ((⟨some d, .buildSlice t 1 #[(0,x)],ty,pos,af,none⟩,kd)::rest) l):=
 J.eff hk fun w M K' hK => RS.buildSlice (xs := [x]) (vs := [.int k q]) (cs := [.int k q]) U.h I.h (by decide) rfl rfl rfl (by simp [hx]) rfl rfl (by intro v hv; simp only [List.mem_cons, List.not_mem_nil, or_false] at hv; subst hv; rfl) rfl fun b w' e1 s1 x1 B => RS.nil (hK _ w' x1 (by
  rw [hl]
  exact kk b w' (M.new x1 (own_blk (xs := [q]) ⟨by subst e1; exact Nat.le_refl _, B⟩ rfl (.cons hq (.nil _)) (by decide)))))
theorem J.apI{F:Option Addr→Nat→Nat→List Int→List Ent}{l':Option Addr→Nat→List Value}[U:Und P t (.slice e)][I:Inf P e 1 by_ zs](hx:ev l x= .slice a n c)(hy:ev l y= .slice a2 n2 c2)[R:RO L a e k n c xs F](hR:RI S0 w0 L k a2 n2 ys)
  (kk:∀a' c',J S0 w0 (F a' (n+n2) c' (xs++ys)) (RY S0 w0 m P ops K rest (l' a' c')))(hby:by_≤8:=by decide)(hb:n+n2≤17592186044416:=by omega)(hz:zs.length=1:=by rfl)(hl:∀a' c',l.set d (.slice a' (n+n2) c')=l' a' c':=by intro a' c';dsimp only[List.set])(hk:∀a' c',okG m kd (F a' (n+n2) c' (xs++ys)):=by first|exact fun _ _=>trivial|(intro _ _;repeat(first|exact List.Sublist.refl _|refine List.Sublist.cons_cons _ ?_|refine List.Sublist.cons _ ?_))):
  J S0 w0 L (RY S0 w0 m P ops K ((⟨some d, .call {callee:= .builtin .append,args:= #[x,y],argTypes:= #[t,t]},ty,pos,af,none⟩,kd)::rest) l):=
 J.bigs (ι:=Option Addr×Nat) (Ls:=fun i=>F i.1 (n+n2) i.2 (xs++ys)) (none,0) (fun i=>hk i.1 i.2) fun w M K' hK=>by
  obtain⟨S,hr⟩:=hR w M;have h8:(n+n2)*by_≤(n+n2)*8:=Nat.mul_le_mul_left _ hby;obtain⟨S1,_,q1⟩:=M.get (R.h a n c xs).same;refine app_core (cs:=ints k xs) (ds:=ints k ys) M (fun a' c'=>R.h a' (n+n2) c' (xs++ys)) (fun S h=>⟨h.1.own,h.2⟩) hx hy U.h I.h hz (by decide) ⟨S,hr.row⟩ (by rw[ints_length,hr.len,Nat.mul_one]) (ints_one _ _) (by omega) (by omega) (fun a' c' w' ho=>⟨⟨by rw[ints_append];exact ho,q1.1.bd.append hr.bd⟩,fun _ hb=>hb⟩) fun a' c' w' M'=>hK _ w' (a',c') M' ?_;rw[hl];exact kk a' c' w' M'
theorem J.stI{F:Option Addr→Nat→Nat→List Int→List Ent}[Z:Siz P xt 1](hx:ev l x=pt a (i.toNat*1))(hy:ev l y= .int k q)[R:RO L a e k n c xs F](kk:J S0 w0 (F a n c (xs.set i.toNat q)) (RY S0 w0 m P ops K rest l))(hi:0≤i∧i<n:=by omega)(hq:0≤q∧q<lim k:=by simp only[lim];omega)(hk:okG m kd (F a n c (xs.set i.toNat q)):=by first|exact trivial|(repeat(first|exact List.Sublist.refl _|refine List.Sublist.cons_cons _ ?_|refine List.Sublist.cons _ ?_))):
  J S0 w0 L (RY S0 w0 m P ops K ((⟨none, .store xt x y,ty,pos,af,none⟩,kd)::rest) l):=
 J.big hk fun w M K' hK=>by
  obtain⟨S,h1,h2,h3⟩:=M.foc (R.h a n c (xs.set i.toNat q));obtain⟨g,hg⟩:=h2.1.some (by omega);subst hg;refine RS.storeI h2.1 (by rw[hx];rfl) hy Z.h hi hq fun w' x1 N=>have M':=h3 w' S ⟨x1.os,x1.tape,x1.output,by rw[x1.size];exact Nat.le_refl _,fun b _ hb=>x1.block b fun e=>hb (e▸h2.2 g rfl)⟩ ⟨N,h2.2⟩ fun _ hb=> .inl hb;RS.nil (hK _ w' M' (kk w' M'))
end
end G
namespace G
open Go.RowKit
def Ent.gown{α:Type}(f:α→List Value)(sz:Nat)(e:TypeId)(a:Option Addr)(n c:Nat)(lst:List α):Ent:=
 ⟨fun S w=>GOwn f sz 0 w e a n c lst∧∀b,obk a=some b→S b,fun h x=>⟨⟨h.1.own.step fun b hb=>x b (h.2 b hb),h.1.szf,h.1.len⟩,h.2⟩,fun h x=>⟨h.1,fun b hb=>x b (h.1.own.lo b hb).2 (h.2 b hb)⟩⟩
class GO{α:outParam Type}(L:List Ent)(a:Option Addr)(f:outParam (α→List Value))(sz:outParam Nat)(e:outParam TypeId)(n c:outParam Nat)(lst:outParam (List α))(F:outParam (Option Addr→Nat→Nat→List α→List Ent)):Prop where
 h:∀a' n' c' lst',Rpl L (.gown f sz e a n c lst) (.gown f sz e a' n' c' lst') (F a' n' c' lst')
section
variable{α:Type}{L:List Ent}{a:Option Addr}{f:α→List Value}{sz:Nat}{e:TypeId}{n c:Nat}{lst:List α}{x:Ent}{F:Option Addr→Nat→Nat→List α→List Ent}
instance GO.here:GO (.gown f sz e a n c lst::L) a f sz e n c lst (fun a' n' c' lst'=> .gown f sz e a' n' c' lst'::L):=⟨fun _ _ _ _=> .here⟩
instance(priority:=low) GO.there[R:GO L a f sz e n c lst F]:GO (x::L) a f sz e n c lst (fun a' n' c' lst'=>x::F a' n' c' lst'):=⟨fun a' n' c' lst'=> .there (R.h a' n' c' lst')⟩
end
/-! rows that are read, by their address -/
class RRW(L:List Ent)(a:Option Addr)(k:outParam IntKind)(sz n:outParam Nat)(xs:outParam (List Int)):Prop where h:Rpl L (.wrow k sz a n xs) (.wrow k sz a n xs) L
instance RRW.here{L:List Ent}{a:Option Addr}{k:IntKind}{sz n:Nat}{xs:List Int}:RRW (.wrow k sz a n xs::L) a k sz n xs:=⟨.here⟩
instance(priority:=low) RRW.there{L:List Ent}{a:Option Addr}{k:IntKind}{sz n:Nat}{xs:List Int}{x:Ent}[R:RRW L a k sz n xs]:RRW (x::L) a k sz n xs:=⟨.there R.h⟩
class RWO(L:List Ent)(a:Option Addr)(e:outParam TypeId)(k:outParam IntKind)(sz n c:outParam Nat)(xs:outParam (List Int))(F:outParam (Option Addr→Nat→Nat→List Int→List Ent)):Prop where h:∀a' n' c' xs',Rpl L (.wown e k sz a n c xs) (.wown e k sz a' n' c' xs') (F a' n' c' xs')
instance RWO.here{L:List Ent}{a:Option Addr}{e:TypeId}{k:IntKind}{sz n c:Nat}{xs:List Int}:RWO (.wown e k sz a n c xs::L) a e k sz n c xs (fun a' n' c' xs'=> .wown e k sz a' n' c' xs'::L):=⟨fun _ _ _ _=> .here⟩
instance(priority:=low) RWO.there{L:List Ent}{a:Option Addr}{e:TypeId}{k:IntKind}{sz n c:Nat}{xs:List Int}{x:Ent}{F:Option Addr→Nat→Nat→List Int→List Ent}[R:RWO L a e k sz n c xs F]:RWO (x::L) a e k sz n c xs (fun a' n' c' xs'=>x::F a' n' c' xs'):=⟨fun a' n' c' xs'=> .there (R.h a' n' c' xs')⟩
/-! cells of single values -/
@[reducible] def pcC(q:Pc):List Value:=[.slice q.a q.n q.c]
@[reducible] def boC(b:Bool):List Value:=[.bool b]
theorem flat_set{α:Type}(f:α→List Value)(sz:Nat)(hf:∀x,(f x).length=sz):∀(l:List α) (i:Nat) (q:α),i<l.length→(l.set i q).flatMap f=(l.flatMap f).take (sz*i)++f q++(l.flatMap f).drop (sz*i+sz)
 |[],i,q,h=>by simp at h
 |x::l,0,q,_=>by simp[List.drop_append,List.drop_of_length_le,hf]
 |x::l,i+1,q,h=>by
  have ih:=flat_set f sz hf l i q (by simpa using h);have e1:(f x).length≤sz*i+sz:=by rw[hf];omega
  have e2:(f x).length≤sz*i+sz+sz:=by rw[hf];omega
  rw[List.set_cons_succ,List.flatMap_cons,List.flatMap_cons,ih,Nat.mul_add,Nat.mul_one];rw[List.take_append,List.take_of_length_le e1,List.drop_append,List.drop_of_length_le e2,hf];rw[show sz*i+sz - sz=sz*i by omega,show sz*i+sz+sz - sz=sz*i+sz by omega];simp[List.append_assoc]
theorem splice_mid:∀(vs cs:List Value) (o:Nat),o+vs.length≤cs.length→splice cs o vs=cs.take o++vs++cs.drop (o+vs.length)
 |vs,cs,o,h=>by
  apply List.ext_getElem?;intro i;rw[splice_get vs cs o i h];by_cases h1:i<o
  ·rw[if_neg (by omega),List.append_assoc,List.getElem?_append_left (by simp;omega),List.getElem?_take,if_pos h1]
  ·by_cases h2:i<o+vs.length
   ·rw[if_pos (by omega),List.append_assoc,List.getElem?_append_right (by simp;omega),List.getElem?_append_left (by simp;omega)];congr 1;simp;omega
   ·rw[if_neg (by omega),List.getElem?_append_right (by simp;omega),List.getElem?_drop];congr 1;simp;omega
section
variable{S0:Nat→Prop}{w0 w:World}{L L' E:List Ent}{P:Program}{l0:List Oper}{ops:Array Oper}{K:List Value→World→Prop}{rest:List (Oper×Kd)}{l l':List Value}{m:Md}{d:Tmp}{op:Op}{ty:TypeId}{pos:String}{af:Array Edge}{kd:Kd}{v:Value}{x y z:Operand}{t xt yt e T:TypeId}{b o n c n2 c2 sz by_:Nat}{cs cs' vs zs:List Value}{X:World→Prop}
 {k ki:IntKind}{a a2:Option Addr}{xs ys:List Int}{i:Int}{α:Type}{f:α→List Value}{lst lst2:List α}{q:α}{F:Option Addr→Nat→Nat→List α→List Ent}
theorem RW.row'[R:RRW L a k sz n xs]:RW S0 w0 L k sz a n xs:= .row R.h
theorem RW.own'{F:Option Addr→Nat→Nat→List Int→List Ent}[R:RWO L a e k sz n c xs F]:RW S0 w0 L k sz a n xs:= .own (R.h a n c xs).same
theorem RG.own'[R:GO L a f sz e n c lst F]:RG S0 w0 L f sz a n lst:=fun w M=>let ⟨S,_,h⟩:=M.get (R.h a n c lst).same;⟨_,h.1.row⟩
theorem gown_blk(h:(Ent.blk b cs e).ok S0 w)(hf:∀x,(f x).length=sz)(hc:cs=lst.flatMap f)(hn:lst.length=n)(hm:n≤9223372036854775807):(Ent.gown f sz e (some ⟨b,0,none⟩) n n lst).ok S0 w:=⟨GOwn.of_blk h.2 hf hc hn (Nat.zero_le _) hm,fun q hq=>by simp[obk]at hq;subst hq;exact h.1⟩
theorem J.nilG(f:α→List Value)(sz:Nat)(e:TypeId)(hf:∀x,(f x).length=sz)(kk:J S0 w0 (.gown f sz e none 0 0 []::L) X):J S0 w0 L X:=J.add0 (.gown f sz e none 0 0 []) (fun w=>⟨GOwn.nil 0 w e hf,fun b hb=>by cases hb⟩) kk
theorem made_rep(f:α→List Value)(hf:∀x,(f x).length=sz)(hz:0<sz)(q:α):∀n,(madeCells (f q).toArray (n*sz)).toList=(List.replicate n q).flatMap f:=by
 intro n;apply List.ext_getElem
 ·rw[flat_len f sz hf];simp[madeCells,Nat.mul_comm]
 intro j h1 h2;rw[flat_len f sz hf,List.length_replicate]at h2;have hj:j / sz<n:=Nat.div_lt_of_lt_mul h2;have hg:=flat_get f sz hf q (List.replicate n q) (j / sz) (by simpa using hj);rw[List.getD_eq_getElem?_getD,List.getElem?_replicate,if_pos hj,Option.getD_some]at hg;have hm:=Nat.mod_lt j hz;have e1:(((List.replicate n q).flatMap f).drop (sz*(j / sz))).take sz=f q:=hg;have e2:=congrArg (fun t=>t[j % sz]?) e1;simp only[List.getElem?_take,if_pos hm,List.getElem?_drop,Nat.div_add_mod]at e2;have hl:j % sz<(f q).length:=by rw[hf];exact hm
 rw[List.getElem?_eq_getElem (by rw[flat_len f sz hf,List.length_replicate];exact h2),List.getElem?_eq_getElem hl]at e2;rw[Option.some.inj e2];simp only[madeCells,List.size_toArray,hf,Array.toList_map,List.getElem_map,Array.toList_range,List.getElem_range];rw[getElem!_pos _ _ (by simpa using hl)];simp
theorem J.mkG(f:α→List Value)(q:α)(hf:∀x,(f x).length=sz)[U:Und P t (.slice e)][I:Inf P e sz by_ zs]{l':Nat→List Value}(hk:okE m kd=true)(hx:ev l x= .int ki (n:Nat))(hy:ev l y= .int ki (n:Nat))(hz:zs=f q)(kk:∀b,J S0 w0 (.gown f sz e (some ⟨b,0,none⟩) n n (List.replicate n q)::L) (RY S0 w0 m P ops K rest (l' b)))
  (hb:(by_:Int)*(n:Nat)≤281474976710656:=by omega)(hsz:0<sz:=by decide)(hl:∀b,l.set d (.slice (some ⟨b,0,none⟩) n n)=l' b:=by intro b;dsimp only[List.set])(hi:n≤9223372036854775807:=by omega):J S0 w0 L (RY S0 w0 m P ops K ((⟨some d, .makeSlice t x y,ty,pos,af,none⟩,kd)::rest) l):=
 J.eff hk fun w M K' hK => RS.make hx hy U.h I.h (Int.natCast_nonneg n) hb (by omega) fun b w' e1 s1 x1 B => RS.nil (hK _ w' x1 (by
  rw [Int.toNat_natCast] at B ⊢
  rw [hl]
  refine kk b w' (M.new x1 (gown_blk ⟨by subst e1; exact Nat.le_refl _, B⟩ hf ?_ (by simp) (by omega)))
  rw [hz, made_rep f hf hsz]))
theorem J.b1G(f:α→List Value)(q:α)(hf:∀x,(f x).length=sz)[U:Und P t (.slice e)][I:Inf P e sz by_ zs]{l':Nat→List Value}(hk:okE m kd=true)(hx:ev l x= .agg vs.toArray)(hq:vs=f q)(kk:∀b,J S0 w0 (.gown f sz e (some ⟨b,0,none⟩) 1 1 [q]::L) (RY S0 w0 m P ops K rest (l' b)))
  (hsz:0<sz:=by decide)(hsz':Nat.ble sz 1000=true:=by decide)(hl:∀b,l.set d (.slice (some ⟨b,0,none⟩) 1 1)=l' b:=by intro b;dsimp only[List.set]):J S0 w0 L (RY S0 w0 m P ops K ((⟨some d, .buildSlice t 1 #[(0,x)],ty,pos,af,none⟩,kd)::rest) l):=
 J.eff hk fun w M K' hK => RS.buildSlice (xs := [x]) (vs := [.agg vs.toArray]) (cs := vs) U.h I.h hsz rfl hsz' rfl (by simp [hx]) rfl (by simp [Value.cells]) (by intro v hv; simp only [List.mem_cons, List.not_mem_nil, or_false] at hv; subst hv; simp [Value.cells, hq, hf]) rfl fun b w' e1 s1 x1 B => RS.nil (hK _ w' x1 (by
  rw [hl]
  exact kk b w' (M.new x1 (gown_blk (lst := [q]) ⟨by subst e1; exact Nat.le_refl _, B⟩ hf (by simp [hq]) rfl (by decide)))))
/-! wide elements that are owned -/
theorem J.nilWo(e:TypeId)(k:IntKind)(sz:Nat)(kk:J S0 w0 (.wown e k sz none 0 0 []::L) X):J S0 w0 L X:=J.add0 (.wown e k sz none 0 0 []) (fun w=>⟨WOwn.nil 0 w e k sz,fun b hb=>by cases hb⟩) kk
theorem J.b1W[U:Und P t (.slice e)][I:Inf P e sz by_ zs]{l':Nat→List Value}(hk:okE m kd=true)(hx:ev l x= .agg (ints k xs).toArray)(hA:Arr k sz xs)(kk:∀b,J S0 w0 (.wown e k sz (some ⟨b,0,none⟩) 1 1 xs::L) (RY S0 w0 m P ops K rest (l' b)))
  (hsz:0<sz:=by decide)(hsz':Nat.ble sz 1000=true:=by decide)(hl:∀b,l.set d (.slice (some ⟨b,0,none⟩) 1 1)=l' b:=by intro b;dsimp only[List.set]):J S0 w0 L (RY S0 w0 m P ops K ((⟨some d, .buildSlice t 1 #[(0,x)],ty,pos,af,none⟩,kd)::rest) l):=
 J.eff hk fun w M K' hK => RS.buildSlice (xs := [x]) (vs := [.agg (ints k xs).toArray]) (cs := ints k xs) U.h I.h hsz rfl hsz' rfl (by simp [hx]) rfl (by simp [Value.cells]) (by intro v hv; simp only [List.mem_cons, List.not_mem_nil, or_false] at hv; subst hv; simp [Value.cells, hA.1, ints_length]) rfl fun b w' e1 s1 x1 B => RS.nil (hK _ w' x1 (by
  rw [hl]
  exact kk b w' (M.new x1 ⟨(WOwn.of_blk B rfl (by rw [hA.1, Nat.mul_one]) (Nat.zero_le _) hA.2 (by decide)), fun q hq => by simp [obk] at hq; subst hq; subst e1; exact Nat.le_refl _⟩)))
theorem J.apW{F:Option Addr→Nat→Nat→List Int→List Ent}{l':Option Addr→Nat→List Value}[U:Und P t (.slice e)][I:Inf P e sz by_ zs](hx:ev l x= .slice a n c)(hy:ev l y= .slice a2 n2 c2)[R:RWO L a e k sz n c xs F](hR:RW S0 w0 L k sz a2 n2 ys)
  (kk:∀a' c',J S0 w0 (F a' (n+n2) c' (xs++ys)) (RY S0 w0 m P ops K rest (l' a' c')))(hsz:0<sz:=by decide)(hby:by_≤1000:=by decide)(hb:n+n2≤100000000:=by omega)(hz:zs.length=sz:=by first|rfl|simp[ints])(hl:∀a' c',l.set d (.slice a' (n+n2) c')=l' a' c':=by intro a' c';dsimp only[List.set])(hk:∀a' c',okG m kd (F a' (n+n2) c' (xs++ys)):=by first|exact fun _ _=>trivial|(intro _ _;repeat(first|exact List.Sublist.refl _|refine List.Sublist.cons_cons _ ?_|refine List.Sublist.cons _ ?_))):
  J S0 w0 L (RY S0 w0 m P ops K ((⟨some d, .call {callee:= .builtin .append,args:= #[x,y],argTypes:= #[t,t]},ty,pos,af,none⟩,kd)::rest) l):=
 J.bigs (ι:=Option Addr×Nat) (Ls:=fun i=>F i.1 (n+n2) i.2 (xs++ys)) (none,0) (fun i=>hk i.1 i.2) fun w M K' hK=>by
  obtain⟨S,hr⟩:=hR w M;have h8:(n+n2)*by_≤(n+n2)*1000:=Nat.mul_le_mul_left _ hby;obtain⟨S1,_,q1⟩:=M.get (R.h a n c xs).same;refine app_core (cs:=ints k xs) (ds:=ints k ys) M (fun a' c'=>R.h a' (n+n2) c' (xs++ys)) (fun S h=>⟨h.1.own,h.2⟩) hx hy U.h I.h hz hsz ⟨S,hr.row⟩ (by rw[ints_length,hr.len,Nat.mul_comm]) (ints_one _ _) (by omega) (by omega) (fun a' c' w' ho=>⟨⟨by rw[ints_append];exact ho,q1.1.bd.append hr.bd⟩,fun _ hb=>hb⟩) fun a' c' w' M'=>hK _ w' (a',c') M' ?_;rw[hl];exact kk a' c' w' M'
theorem J.apG{l':Option Addr→Nat→List Value}[U:Und P t (.slice e)][I:Inf P e sz by_ zs](hx:ev l x= .slice a n c)(hy:ev l y= .slice a2 n2 c2)[R:GO L a f sz e n c lst F](hR:RG S0 w0 L f sz a2 n2 lst2)(h1:∀x,∀u∈f x,u.oneCell'=true)
  (kk:∀a' c',J S0 w0 (F a' (n+n2) c' (lst++lst2)) (RY S0 w0 m P ops K rest (l' a' c')))(hsz:0<sz:=by decide)(hby:by_≤1000:=by decide)(hb:n+n2≤100000000:=by omega)(hz:zs.length=sz:=by first|rfl|simp[ints])(hl:∀a' c',l.set d (.slice a' (n+n2) c')=l' a' c':=by intro a' c';dsimp only[List.set])(hk:∀a' c',okG m kd (F a' (n+n2) c' (lst++lst2)):=by first|exact fun _ _=>trivial|(intro _ _;repeat(first|exact List.Sublist.refl _|refine List.Sublist.cons_cons _ ?_|refine List.Sublist.cons _ ?_))):
  J S0 w0 L (RY S0 w0 m P ops K ((⟨some d, .call {callee:= .builtin .append,args:= #[x,y],argTypes:= #[t,t]},ty,pos,af,none⟩,kd)::rest) l):=
 J.bigs (ι:=Option Addr×Nat) (Ls:=fun i=>F i.1 (n+n2) i.2 (lst++lst2)) (none,0) (fun i=>hk i.1 i.2) fun w M K' hK=>by
  obtain⟨S,hr⟩:=hR w M;have h8:(n+n2)*by_≤(n+n2)*1000:=Nat.mul_le_mul_left _ hby;obtain⟨S1,_,q1⟩:=M.get (R.h a n c lst).same;refine app_core (cs:=lst.flatMap f) (ds:=lst2.flatMap f) M (fun a' c'=>R.h a' (n+n2) c' (lst++lst2)) (fun S h=>⟨h.1.own,h.2⟩) hx hy U.h I.h hz hsz ⟨S,hr.row⟩ (by rw[flat_len f sz hr.szf,hr.len,Nat.mul_comm]) (fun u hu=>by obtain⟨x,_,hx⟩:=List.mem_flatMap.1 hu;exact h1 x u hx) (by omega) (by omega)
   (fun a' c' w' ho=>⟨⟨by rw[List.flatMap_append];exact ho,q1.1.szf,by rw[List.length_append,q1.1.len,hr.len]⟩,fun _ hb=>hb⟩) fun a' c' w' M'=>hK _ w' (a',c') M' ?_
  rw[hl];exact kk a' c' w' M'
theorem GOwn.blk{lo:Nat}(h:GOwn f sz lo w e (Option.some ⟨b,0,none⟩) n c lst):∃cur:List Value,Blk w b cur e∧n≤c∧c≤maxLen∧cur.length=c*sz∧cur.take (n*sz)=lst.flatMap f∧lo≤b:=by
 rcases h.own.2 with⟨hv,_⟩|⟨g,cap,cur,hv,hb,hg,hnc,hcm,hcs,ht⟩
 ·simp at hv
 ·obtain⟨rfl,rfl⟩:b=g∧c=cap:=by simpa using hv
  exact⟨cur.toList,hg,hnc,hcm,by simpa using hcs,ht,hb⟩
theorem GOwn.of_cur{lo:Nat}{cur:List Value}(B:Blk w b cur e)(hf:∀x,(f x).length=sz)(hnc:n≤c)(hcm:c≤maxLen)(hl:cur.length=c*sz)(ht:cur.take (n*sz)=lst.flatMap f)(hn:lst.length=n)(hb:lo≤b):GOwn f sz lo w e (Option.some ⟨b,0,none⟩) n c lst:=
 ⟨⟨by rw[flat_len f sz hf,hn,Nat.mul_comm], .inr ⟨b,c,cur.toArray,rfl,hb,B,hnc,hcm,by simpa using hl,by simpa using ht⟩⟩,hf,hn⟩
theorem GOwn.over{lo o:Nat}{w':World}(h:GOwn f sz lo w e (Option.some ⟨b,0,none⟩) n c lst)(hi:0≤i∧i<n)(hq:splice (lst.flatMap f) (i.toNat*sz+o) vs=(lst.set i.toNat q).flatMap f)(ho:o+vs.length≤sz)(hB:∀cur,Blk w b cur e→i.toNat*sz+o+vs.length≤cur.length→Blk w' b (splice cur (i.toNat*sz+o) vs) e):GOwn f sz lo w' e (Option.some ⟨b,0,none⟩) n c (lst.set i.toNat q):=by
 obtain⟨cur,B,h1,h2,h3,h4,h5⟩:=h.blk;have h6:(i.toNat+1)*sz≤n*sz:=Nat.mul_le_mul_right _ (by omega);have h7:n*sz≤c*sz:=Nat.mul_le_mul_right _ h1;rw[Nat.add_mul,Nat.one_mul]at h6;have hlen:(lst.flatMap f).length=n*sz:=by rw[flat_len f sz h.szf,h.len,Nat.mul_comm]
 refine GOwn.of_cur (hB cur B (by omega)) h.szf h1 h2 (by rw[splice_length];exact h3) ?_ (by rw[List.length_set];exact h.len) h5;rw[←hq];apply List.ext_getElem?;intro j;rw[List.getElem?_take,splice_get _ _ _ _ (by omega),splice_get _ _ _ _ (by omega),←h4,List.getElem?_take];by_cases hj:j<n*sz
 ·rw[if_pos hj,if_pos hj]
 ·rw[if_neg hj,if_neg (by omega),if_neg hj]
theorem over_all(hf:∀x,(f x).length=sz){j:Nat}(hj:j<lst.length):splice (lst.flatMap f) (j*sz+0) (f q)=(lst.set j q).flatMap f:=by
 have h2:sz*(j+1)≤sz*lst.length:=Nat.mul_le_mul_left _ hj;rw[Nat.mul_add,Nat.mul_one]at h2;rw[splice_mid _ _ _ (by rw[flat_len f sz hf,hf,Nat.mul_comm j sz];omega),flat_set f sz hf _ _ _ hj,hf,Nat.add_zero,Nat.mul_comm j sz]
theorem over_one(hf:∀x,(f x).length=sz){j o:Nat}{u:Value}{q0:α}(hj:lst[j]? =some q0)(hq:f q=(f q0).set o u)(ho:o<sz):splice (lst.flatMap f) (j*sz+o) [u]=(lst.set j q).flatMap f:=by
 have hl:j<lst.length:=(List.getElem?_eq_some_iff.1 hj).1;have h2:sz*(j+1)≤sz*lst.length:=Nat.mul_le_mul_left _ hl;rw[Nat.mul_add,Nat.mul_one]at h2;have hg:=flat_get f sz hf q0 lst j hl;rw[List.getD_eq_getElem?_getD,hj,Option.getD_some]at hg;have hfl:=flat_len f sz hf lst;rw[flat_set f sz hf _ _ _ hl,hq,←hg];generalize lst.flatMap f=FF at hfl⊢;apply List.ext_getElem?;intro i;rw[splice_get _ _ _ _ (by rw[hfl,List.length_singleton,Nat.mul_comm j sz];omega),List.length_singleton,Nat.mul_comm j sz];by_cases h1:i<sz*j
 ·rw[if_neg (by omega),List.append_assoc,List.getElem?_append_left (by simp;omega),List.getElem?_take,if_pos h1]
 ·by_cases h3:i<sz*j+sz
  ·rw[List.append_assoc,List.getElem?_append_right (by simp;omega),List.length_take,hfl,Nat.min_eq_left (by omega),List.getElem?_append_left (by simp;omega),List.getElem?_set,List.getElem?_take,List.getElem?_drop];by_cases h4:i=sz*j+o
   ·rw[if_pos (by omega),if_pos (by omega),if_pos (by simp;omega)];subst h4;simp
   ·rw[if_neg (by omega),if_neg (by omega),if_pos (by omega)];congr 1;omega
  ·rw[if_neg (by omega),List.getElem?_append_right (by simp;omega),List.getElem?_drop];congr 1;simp;omega
theorem gown_st{S:Nat→Prop}{w w':World}{g:Nat}(x1:St g w w')(hs:S g):Pr S w w':=⟨x1.os,x1.tape,x1.output,by rw[x1.size];exact Nat.le_refl _,fun b _ hb=>x1.block b fun e=>hb (e▸hs)⟩
theorem J.stG[Z:Siz P xt sz](hx:ev l x=pt a (i.toNat*sz))(hy:ev l y= .agg vs.toArray)[R:GO L a f sz e n c lst F](hq:vs=f q)(kk:J S0 w0 (F a n c (lst.set i.toNat q)) (RY S0 w0 m P ops K rest l))(hz:sz≠0:=by decide)(hi:0≤i∧i<n:=by omega)(hv:vs.all cellB=true:=by rfl)(hk:okG m kd (F a n c (lst.set i.toNat q)):=by first|exact trivial|(repeat(first|exact List.Sublist.refl _|refine List.Sublist.cons_cons _ ?_|refine List.Sublist.cons _ ?_))):
  J S0 w0 L (RY S0 w0 m P ops K ((⟨none, .store xt x y,ty,pos,af,none⟩,kd)::rest) l):=
 J.big hk fun w M K' hK=>by
  obtain⟨S,h1,h2,h3⟩:=M.foc (R.h a n c (lst.set i.toNat q));obtain⟨g,hg⟩:=h2.1.some (by omega);subst hg;obtain⟨cur,B,b1,b2,b3,b4,b5⟩:=h2.1.blk;have h6:(i.toNat+1)*sz≤n*sz:=Nat.mul_le_mul_right _ (by omega);have h7:n*sz≤c*sz:=Nat.mul_le_mul_right _ b1;rw[Nat.add_mul,Nat.one_mul]at h6;have hvl:vs.length=sz:=by rw[hq];exact h2.1.szf q
  refine RS.storeAgg (o:=0+i.toNat*sz) (by rw[hx];rfl) hy Z.h hz hvl (List.all_eq_true.1 hv) B (by omega) fun w' x1 N=>RS.nil (have M':=h3 w' S (gown_st x1 (h2.2 g rfl)) ⟨?_,h2.2⟩ fun _ hb=> .inl hb;hK _ w' M' (kk w' M'));subst hq;rw[Nat.zero_add]at N;exact h2.1.over (o:=0) hi (over_all h2.1.szf (by have:=h2.1.len;omega)) (by omega) fun cur' B' _=>by
   rw[show cur'=cur from by unfold Blk at B B';rw[B]at B';simpa using B'.symm];exact N
theorem J.ldG1[U:Sca P xt](hx:ev l x=pt a (i.toNat*1))(hR:RG S0 w0 (Lv m L) f 1 a n lst)(kk:J S0 w0 L (RY S0 w0 m P ops K rest l')){q:α}(hq:lst[i.toNat]? =some q:=by assumption)(hf:f q=[v]:=by rfl)(hi:0≤i∧i<n:=by omega)(hl:l.set d v=l':=by dsimp only[List.set]):
  J S0 w0 L (RY S0 w0 m P ops K ((⟨some d, .load xt x,ty,pos,af,none⟩, .q)::rest) l):=
 J.val (fun w M => by
  obtain ⟨S, h⟩ := hR w M
  obtain ⟨b, o', ha, _, hc⟩ := h.get (by decide) hq hi
  have : w.cell? ⟨b, o' + i.toNat * 1, Option.none⟩ = Option.some v := by have := hc 0 (by rw [hf]; exact Nat.zero_lt_one); rw [hf] at this; exact this
  obtain ⟨_, u1, u2⟩ := U.h
  exact D.load (by rw [hx, pt_some ha]) u1 u2 this) kk hl
theorem J.stG1[Z:Siz P xt 1](hx:ev l x=pt a (i.toNat*1))(hy:ev l y=v)[R:GO L a f 1 e n c lst F](hq:f q=[v])(kk:J S0 w0 (F a n c (lst.set i.toNat q)) (RY S0 w0 m P ops K rest l))(hi:0≤i∧i<n:=by omega)(hv:cellB v=true:=by rfl)(hk:okG m kd (F a n c (lst.set i.toNat q)):=by first|exact trivial|(repeat(first|exact List.Sublist.refl _|refine List.Sublist.cons_cons _ ?_|refine List.Sublist.cons _ ?_))):
  J S0 w0 L (RY S0 w0 m P ops K ((⟨none, .store xt x y,ty,pos,af,none⟩,kd)::rest) l):=
 J.big hk fun w M K' hK=>by
  obtain⟨S,h1,h2,h3⟩:=M.foc (R.h a n c (lst.set i.toNat q));obtain⟨g,hg⟩:=h2.1.some (by omega);subst hg;obtain⟨cur,B,b1,b2,b3,b4,b5⟩:=h2.1.blk;refine RS.store (o:=0+i.toNat*1) (by rw[hx];rfl) hy Z.h hv B (by rw[Nat.ble_eq];omega) fun w' x1 N=>RS.nil (have M':=h3 w' S (gown_st x1 (h2.2 g rfl)) ⟨?_,h2.2⟩ fun _ hb=> .inl hb;hK _ w' M' (kk w' M'));rw[Nat.zero_add]at N;exact h2.1.over (o:=0) (vs:=[v]) hi (by rw[←hq];exact over_all h2.1.szf (by have:=h2.1.len;omega)) (by simp) fun cur' B' _=>by
   rw[show cur'=cur from by unfold Blk at B B';rw[B]at B';simpa using B'.symm];exact N
theorem J.stGf{o:Nat}{q0:α}[Z:Siz P xt 1](hx:ev l x=pt a (i.toNat*sz+o))(hy:ev l y=v)[R:GO L a f sz e n c lst F](hj:lst[i.toNat]? =some q0)(hq:f q=(f q0).set o v)(kk:J S0 w0 (F a n c (lst.set i.toNat q)) (RY S0 w0 m P ops K rest l))(ho:Nat.ble (o+1) sz=true:=by rfl)(hi:0≤i∧i<n:=by omega)(hv:cellB v=true:=by rfl)(hk:okG m kd (F a n c (lst.set i.toNat q)):=by first|exact trivial|(repeat(first|exact List.Sublist.refl _|refine List.Sublist.cons_cons _ ?_|refine List.Sublist.cons _ ?_))):
  J S0 w0 L (RY S0 w0 m P ops K ((⟨none, .store xt x y,ty,pos,af,none⟩,kd)::rest) l):=
 J.big hk fun w M K' hK=>by
  have ho:=Nat.le_of_ble_eq_true ho;obtain⟨S,h1,h2,h3⟩:=M.foc (R.h a n c (lst.set i.toNat q));obtain⟨g,hg⟩:=h2.1.some (by omega);subst hg;obtain⟨cur,B,b1,b2,b3,b4,b5⟩:=h2.1.blk;have h6:(i.toNat+1)*sz≤n*sz:=Nat.mul_le_mul_right _ (by omega);have h7:n*sz≤c*sz:=Nat.mul_le_mul_right _ b1;rw[Nat.add_mul,Nat.one_mul]at h6;refine RS.store (o:=0+(i.toNat*sz+o)) (by rw[hx];rfl) hy Z.h hv B (by rw[Nat.ble_eq];omega) fun w' x1 N=>RS.nil (have M':=h3 w' S (gown_st x1 (h2.2 g rfl)) ⟨?_,h2.2⟩ fun _ hb=> .inl hb;hK _ w' M' (kk w' M'));rw[Nat.zero_add]at N;exact h2.1.over (o:=o) (vs:=[v]) hi (over_one h2.1.szf hj hq ho) (by simp;omega) fun cur' B' _=>by
   rw[show cur'=cur from by unfold Blk at B B';rw[B]at B';simpa using B'.symm];exact N
end
end G
namespace G
open Go.RowKit
def Ent.emp:Ent:=⟨fun _ _=>True,fun _ _=>trivial,fun _ _=>trivial⟩
def Ent.all(E:List Ent):Ent:=⟨Sep E,Sep.step,Sep.mono⟩
section
variable{S0:Nat→Prop}{w0 w:World}{L L1 L2 E:List Ent}{e e1 e2 e3:Ent}{X:World→Prop}
theorem Mem.split(M:Mem S0 w0 L w)(r:Rpl L e e1 L1)(h:∀S,e.ok S w→∃S1 S2:Nat→Prop,(∀b,S1 b→S b)∧(∀b,S2 b→S b)∧(∀b,S1 b→S2 b→False)∧e1.ok S1 w∧e2.ok S2 w):Mem S0 w0 (e2::L1) w:=by
 obtain⟨S,T,h1,h2,h3,h4,h5⟩:=r.foc M.sep;obtain⟨S1,S2,g1,g2,g3,g4,g5⟩:=h S h4
 exact ⟨M.pr, S2, fun b => S1 b ∨ T b, fun b hb => h1 b (g2 b hb), fun b hb => hb.elim (fun k => h1 b (g1 b k)) (h2 b), fun b hb hc => hc.elim (fun k => g3 b k hb) (fun k => h3 b (g2 b hb) k), g5,
  h5 (fun b hb => .inl hb) (fun b hb => .inr hb) (fun b hb hc => h3 b (g1 b hb) hc) (fun _ _ _ => rfl) g4⟩
theorem Mem.merge(M:Mem S0 w0 L w)(r1:Rpl L e1 .emp L1)(r2:Rpl L1 e2 e3 L2)(h:∀S1 S2:Nat→Prop,(∀b,S1 b→S2 b→False)→e1.ok S1 w→e2.ok S2 w→e3.ok (fun b=>S1 b∨S2 b) w):Mem S0 w0 L2 w:=by
 obtain⟨S,T,h1,h2,h3,h4,h5⟩:=r1.foc M.sep;have hs:Sep L1 T w:=h5 (U':=T) (S':=no) (fun b hb=>hb.elim) (fun b hb=>hb) (fun b hb=>hb.elim) (fun _ _ _=>rfl) trivial;obtain⟨S2,T2,g1,g2,g3,g4,g5⟩:=r2.foc hs;exact⟨M.pr,g5 (fun b hb=>hb.elim (h1 b) (fun k=>h2 b (g1 b k))) (fun b hb=>h2 b (g2 b hb)) (fun b hb hc=>hb.elim (fun k=>h3 b k (g2 b hc)) (fun k=>g3 b k hc)) (fun _ _ _=>rfl) (h S S2 (fun b hb hc=>h3 b hb (g1 b hc)) h4 g4)⟩
theorem J.part{F:Ent→List Ent}(e e1 e2:Ent)[R:RE L e F](h:∀S w,e.ok S w→∃S1 S2:Nat→Prop,(∀b,S1 b→S b)∧(∀b,S2 b→S b)∧(∀b,S1 b→S2 b→False)∧e1.ok S1 w∧e2.ok S2 w)(k:J S0 w0 (e2::F e1) X):J S0 w0 L X:=
 fun w M=>k w (M.split (R.h e1) fun S=>h S w)
theorem J.merge{F1 F2:Ent→List Ent}(e1 e2 e3:Ent)[R:RE L e1 F1][R2:RE (F1 .emp) e2 F2](h:∀(S1 S2:Nat→Prop) w,(∀b,S1 b→S2 b→False)→e1.ok S1 w→e2.ok S2 w→e3.ok (fun b=>S1 b∨S2 b) w)(k:J S0 w0 (F2 e3) X):J S0 w0 L X:=
 fun w M=>k w (M.merge (R.h .emp) (R2.h e3) fun S1 S2=>h S1 S2 w)
theorem J.fact{p:Prop}{F:Ent→List Ent}(e:Ent)[R:RE L e F](h:∀S w,e.ok S w→p)(k:p→J S0 w0 L X):J S0 w0 L X:=fun w M=>by
 obtain⟨S,_,h2⟩:=M.get (R.h e).same;exact k (h S w h2) w M
/-! one of many -/
theorem sep_open:∀ {E:List Ent} {i:Nat} {S:Nat→Prop},E[i]? =some e→Sep E S w→∃S1 S2:Nat→Prop,(∀b,S1 b→S b)∧(∀b,S2 b→S b)∧(∀b,S1 b→S2 b→False)∧Sep (E.eraseIdx i) S1 w∧e.ok S2 w
 |[],_,_,h,_=>by simp at h
 |x::E,0,S,h,⟨A,B,h1,h2,h3,h4,h5⟩=>by
  obtain rfl:x=e:=by simpa using h
  exact⟨B,A,h2,h1,fun b hb hc=>h3 b hc hb,h5,h4⟩
 |x::E,i+1,S,h,⟨A,B,h1,h2,h3,h4,h5⟩=>by
  obtain⟨S1,S2,g1,g2,g3,g4,g5⟩:=sep_open (E:=E) (i:=i) (by simpa using h) h5;exact⟨fun b=>A b∨S1 b,S2,fun b hb=>hb.elim (h1 b) (fun k=>h2 b (g1 b k)),fun b hb=>h2 b (g2 b hb),fun b hb hc=>hb.elim (fun k=>h3 b k (g2 b hc)) (fun k=>g3 b k hc),⟨A,S1,fun b hb=> .inl hb,fun b hb=> .inr hb,fun b hb hc=>h3 b hb (g1 b hc),h4,g4⟩,g5⟩
theorem sep_shut:∀ {E:List Ent} {i:Nat} {S1 S2:Nat→Prop},i<E.length→Sep (E.eraseIdx i) S1 w→e.ok S2 w→(∀b,S2 b→S1 b→False)→Sep (E.set i e) (fun b=>S2 b∨S1 b) w
 |[],_,_,_,h,_,_,_=>by simp at h
 |x::E,0,S1,S2,h,hE,he,hd=>⟨S2,S1,fun b hb=> .inl hb,fun b hb=> .inr hb,hd,he,hE⟩
 |x::E,i+1,S1,S2,h,⟨A,B,h1,h2,h3,h4,h5⟩,he,hd=>
  ⟨A,fun b=>S2 b∨B b,fun b hb=> .inr (h1 b hb),fun b hb=>hb.imp_right (h2 b),fun b hb hc=>hc.elim (fun k=>hd b k (h1 b hb)) (h3 b hb),h4,sep_shut (by simpa using h) h5 he fun b hb hc=>hd b hb (h2 b hc)⟩
theorem J.openA{F:Ent→List Ent}(E:List Ent)(i:Nat)[R:RE L (.all E) F](hi:E[i]? =some e)(k:J S0 w0 (e::F (.all (E.eraseIdx i))) X):J S0 w0 L X:=
 J.part (.all E) (.all (E.eraseIdx i)) e (fun S w h=>sep_open hi h) k
theorem J.shutA{F1 F2:Ent→List Ent}(E:List Ent)(i:Nat)(e:Ent)[R:RE L e F1][R2:RE (F1 .emp) (.all (E.eraseIdx i)) F2](hi:i<E.length)(k:J S0 w0 (F2 (.all (E.set i e))) X):J S0 w0 L X:=
 J.merge e (.all (E.eraseIdx i)) (.all (E.set i e)) (fun S1 S2 w hd h1 h2=>sep_shut hi h2 h1 hd) k
theorem J.newA(E:List Ent)(k:J S0 w0 (.all E::L) X)(h:∀w,Sep E no w):J S0 w0 L X:=J.add0 (.all E) h k
end
def pcE(e:TypeId)(k:IntKind)(q:Pc):Ent:= .iown e k q.a q.n q.c q.xs
theorem sep_nils(e:TypeId)(k:IntKind)(w:World):∀n,Sep ((List.replicate n (default:Pc)).map (pcE e k)) no w
 |0=>trivial
 |n+1=>⟨no,no,fun _ h=>h,fun _ h=>h,fun _ h=>h.elim,⟨IOwn.nil 0 w e k,fun b hb=>by cases hb⟩,sep_nils e k w n⟩
theorem sep_at{e:Ent}{w:World}:∀ {E:List Ent} {i:Nat} {S:Nat→Prop},E[i]? =some e→Sep E S w→∃S',e.ok S' w:=fun h hs=>let ⟨_,S2,_,_,_,_,h5⟩:=sep_open h hs;⟨S2,h5⟩
theorem RI.all{S0:Nat→Prop}{w0:World}{L:List Ent}{e:TypeId}{k:IntKind}{qs:List Pc}{q:Pc}{i:Nat}{F:Ent→List Ent}[R:RE L (.all (qs.map (pcE e k))) F](hq:qs[i]? =some q):RI S0 w0 L k q.a q.n q.xs:=fun w M=>by
 obtain⟨S,_,h2⟩:=M.get (R.h (.all (qs.map (pcE e k)))).same;obtain⟨S',h3⟩:=sep_at (i:=i) (e:=pcE e k q) (by rw[List.getElem?_map,hq];rfl) h2;exact⟨_,h3.1.row⟩
theorem J.openP{S0:Nat→Prop}{w0:World}{L:List Ent}{X:World→Prop}{F:Ent→List Ent}(e:TypeId)(k:IntKind)(qs:List Pc){i:Nat}{q:Pc}[R:RE L (.all (qs.map (pcE e k))) F](hq:qs[i]? =some q)(kk:J S0 w0 (.iown e k q.a q.n q.c q.xs::F (.all ((qs.map (pcE e k)).eraseIdx i))) X):J S0 w0 L X:=
 J.openA (qs.map (pcE e k)) i (by rw[List.getElem?_map,hq];rfl) kk
theorem J.shutP{S0:Nat→Prop}{w0:World}{L:List Ent}{X:World→Prop}{F1 F2:Ent→List Ent}(e:TypeId)(k:IntKind)(qs:List Pc)(i:Nat)(q':Pc)[R:RE L (.iown e k q'.a q'.n q'.c q'.xs) F1][R2:RE (F1 .emp) (.all ((qs.map (pcE e k)).eraseIdx i)) F2](hi:i<qs.length)(kk:J S0 w0 (F2 (.all ((qs.set i q').map (pcE e k)))) X):J S0 w0 L X:=
 J.shutA (qs.map (pcE e k)) i (pcE e k q') (R:=R) (R2:=R2) (by rw[List.length_map];exact hi) (by rw[←List.map_set];exact kk)
theorem J.nilW{S0:Nat→Prop}{w0:World}{L:List Ent}{X:World→Prop}(k:IntKind)(sz:Nat)(kk:J S0 w0 (.wrow k sz none 0 []::L) X):J S0 w0 L X:=J.add0 (.wrow k sz none 0 []) (fun w=>WRow.nil) kk
/-! records with rows inside -/
section
variable{S0:Nat→Prop}{w0 w:World}{L:List Ent}{X:World→Prop}{α:Type}{g:α→List Inn}{l1 l2:List α}
theorem wown_wrow{e:TypeId}{k:IntKind}{sz:Nat}{a:Option Addr}{n c:Nat}{xs:List Int}{S:Nat→Prop}(h:(Ent.wown e k sz a n c xs).ok S w):(Ent.wrow k sz a n xs).ok S w:=⟨h.1.rowO.row.weaken fun b _ hb=>h.2 b hb,h.1.len,h.1.bd⟩
theorem iown_bd{e:TypeId}{k:IntKind}{a:Option Addr}{n c:Nat}{xs:List Int}{S:Nat→Prop}(h:(Ent.iown e k a n c xs).ok S w):Bd k xs:=h.1.bd
theorem wown_len{e:TypeId}{k:IntKind}{sz:Nat}{a:Option Addr}{n c:Nat}{xs:List Int}{S:Nat→Prop}(h:(Ent.wown e k sz a n c xs).ok S w):xs.length=sz*n∧n≤c:=⟨h.1.len,h.1.own.cap.1⟩
end
end G
namespace S
theorem nodup_len:∀ {l m:List Nat},l.Nodup→(∀x∈l,x∈m)→l.length≤m.length
 |[],_,_,_=>Nat.zero_le _
 |x::l,m,hn,hs=>by
  have hx:x∈m:=hs x (List.mem_cons_self ..);have h1:=List.nodup_cons.1 hn;have h2:l.length≤(m.erase x).length:=nodup_len h1.2 (fun y hy=>(List.mem_erase_of_ne (fun e=>by subst e;exact h1.1 hy)).2 (hs y (List.mem_cons_of_mem _ hy)));rw[List.length_erase_of_mem hx]at h2;have:=List.length_pos_of_mem hx;simp only[List.length_cons];omega
theorem nodup_all{l:List Nat}{N:Nat}(hn:l.Nodup)(hb:∀x∈l,x<N)(hl:N≤l.length){i:Nat}(hi:i<N):i∈l:=by
 apply Classical.byContradiction;intro h
 have := nodup_len (l := i :: l) (m := List.range N) (List.nodup_cons.2 ⟨h, hn⟩) (by
  intro x hx
  rcases List.mem_cons.1 hx with e | e
  ·subst e; exact List.mem_range.2 hi
  ·exact List.mem_range.2 (hb x e))
 simp only[List.length_cons,List.length_range]at this;omega
def Seqd(P:Nat→List Nat)(l:List Nat):Prop:=∀i,i<l.length→∀p∈P (l.getD i 0),p∈l.take i
def Clsd(P:Nat→List Nat)(N:Nat)(l:List Nat):Prop:=∀i,i<N→(∀p∈P i,p∈l)→i∈l
def Found(P:Nat→List Nat)(N:Nat):Prop:=∃l:List Nat,l.Nodup∧(∀x∈l,x<N)∧N≤l.length∧Seqd P l
theorem seqd_sub{P:Nat→List Nat}{N:Nat}{l m:List Nat}(hl:∀x∈l,x<N)(hs:Seqd P l)(hc:Clsd P N m):∀i,i≤l.length→∀x∈l.take i,x∈m:=by
 intro i
 induction i with
 |zero=>intro _ x hx;simp at hx
 |succ i ih=>
  intro hi x hx;rw[←List.take_append_getElem (by omega:i<l.length)]at hx;rcases List.mem_append.1 hx with h|h
  ·exact ih (by omega) x h
  ·have e:x=l.getD i 0:=by rw[List.getD_eq_getElem?_getD,List.getElem?_eq_getElem (by omega)];simpa using h
   subst e;refine hc _ (hl _ ?_) (fun p hp=>ih (by omega) p (hs i (by omega) p hp));rw[List.getD_eq_getElem?_getD,List.getElem?_eq_getElem (by omega)];exact List.getElem_mem (by omega)
theorem found_iff{P:Nat→List Nat}{N:Nat}{l:List Nat}(hn:l.Nodup)(hb:∀x∈l,x<N)(hs:Seqd P l)(hc:Clsd P N l):Found P N↔¬l.length<N:=by
 constructor
 ·rintro⟨m,m1,m2,m3,m4⟩ h;have h1:=seqd_sub m2 m4 hc m.length (Nat.le_refl _);rw[List.take_length]at h1;have:=nodup_len m1 h1;omega
 ·intro h;exact⟨l,hn,hb,by omega,hs⟩
theorem getD_snoc(l:List Nat)(x i:Nat):(l++[x]).getD i 0=if i<l.length then l.getD i 0 else if i=l.length then x else 0:=by
 by_cases h:i<l.length
 ·rw[if_pos h,List.getD_eq_getElem?_getD,List.getD_eq_getElem?_getD,List.getElem?_append_left h]
 ·rw[if_neg h];by_cases e:i=l.length
  ·subst e;simp
  ·rw[if_neg e,List.getD_eq_getElem?_getD,List.getElem?_eq_none (by simp;omega)];rfl
theorem Seqd.snoc{P:Nat→List Nat}{l:List Nat}{x d:Nat}(hs:Seqd P l)(hx:∀p∈P x,p∈l.take d):Seqd P (l++[x]):=by
 intro i hi p hp;rw[getD_snoc]at hp;rw[List.length_append,List.length_singleton]at hi;by_cases h:i<l.length
 ·rw[if_pos h]at hp;rw[List.take_append_of_le_length (by omega)];exact hs i h p hp
 ·rw[if_neg h,if_pos (by omega)]at hp;have:=hx p hp;rw[show i=l.length by omega,List.take_left];exact List.mem_of_mem_take this
def behS(P:Nat→List Nat)(k a:Nat):List Nat:=(List.range k).flatMap fun i=>List.replicate ((P i).count a) i
theorem behS_succ(P:Nat→List Nat)(k a:Nat):behS P (k+1) a=behS P k a++List.replicate ((P k).count a) k:=by
 unfold behS;rw[List.range_succ,List.flatMap_append];simp
theorem behS_count(P:Nat→List Nat)(a i:Nat):∀k,(behS P k a).count i=if i<k then(P i).count a else 0
 |0=>by simp[behS]
 |k+1=>by
  rw[behS_succ,List.count_append,behS_count P a i k,List.count_replicate];by_cases h:i<k
  ·rw[if_pos h,if_pos (by omega:i<k+1),if_neg (by simp;omega),Nat.add_zero]
  ·by_cases e:i=k
   ·subst e;simp
   ·rw[if_neg h,if_neg (by omega:¬i<k+1),if_neg (by simp;omega)]
theorem behS_lt(P:Nat→List Nat)(k a:Nat):∀x∈behS P k a,x<k:=by
 intro x hx;obtain⟨i,hi,hx⟩:=List.mem_flatMap.1 hx;have:=List.mem_range.1 hi;have:=(List.mem_replicate.1 hx).2;omega
def leftS(D ps:List Nat):Nat:=ps.countP (fun p=>decide (p∉D))
theorem leftS_nil(ps:List Nat):leftS [] ps=ps.length:=by
 unfold leftS;rw[List.countP_eq_length];intro a _;simp
theorem leftS_snoc(D:List Nat)(a:Nat)(ha:a∉D):∀ps:List Nat,leftS D ps=leftS (D++[a]) ps+ps.count a
 |[]=>by simp[leftS]
 |p::ps=>by
  have ih:=leftS_snoc D a ha ps;unfold leftS at ih⊢;rw[List.countP_cons,List.countP_cons,List.count_cons];by_cases e:p=a
  ·subst e;rw[if_pos (decide_eq_true ha),if_neg (by simp),if_pos (by simp)];omega
  ·rw[if_neg (by simpa using e) (c:=(p==a)=true)];by_cases h:p∈D
   ·rw[if_neg (by simp[h]),if_neg (by simp[h])];omega
   ·rw[if_pos (decide_eq_true h),if_pos (by simp[h,e])];omega
theorem leftS_zero{D ps:List Nat}:leftS D ps=0↔∀p∈ps,p∈D:=by
 unfold leftS;rw[List.countP_eq_zero];simp
structure Kahn(P:Nat→List Nat)(N:Nat)(wt:Nat→Nat)(ready:List Nat)(d:Nat):Prop where
 nd:ready.Nodup
 lt:∀x∈ready,x<N
 sq:Seqd P ready
 dl:d≤ready.length
 w:∀k,k<N→wt k=leftS (ready.take d) (P k)
 z:∀k,k<N→(k∈ready↔wt k=0)
structure KahnI(P:Nat→List Nat)(N:Nat)(wt:Nat→Nat)(ready:List Nat)(d q:Nat):Prop where
 nd:ready.Nodup
 lt:∀x∈ready,x<N
 sq:Seqd P ready
 dl:d<ready.length
 w:∀k,k<N→wt k=leftS (ready.take (d+1)) (P k)+((behS P N (ready.getD d 0)).drop q).count k
 z:∀k,k<N→(k∈ready↔wt k=0)
theorem getD_mem{l:List Nat}{d:Nat}(h:d<l.length):l.getD d 0∈l:=by
 rw[List.getD_eq_getElem?_getD,List.getElem?_eq_getElem h];exact List.getElem_mem h
theorem take_snoc_get(l:List Nat)(d:Nat)(h:d<l.length):l.take (d+1)=l.take d++[l.getD d 0]:=by
 rw[←List.take_append_getElem h,List.getD_eq_getElem?_getD,List.getElem?_eq_getElem h];rfl
theorem getD_notin{l:List Nat}(hn:l.Nodup){d:Nat}(h:d<l.length):l.getD d 0∉l.take d:=by
 have h1:(l.take (d+1)).Nodup:=hn.sublist (List.take_sublist _ _);rw[take_snoc_get l d h,List.nodup_append]at h1;intro hm;exact h1.2.2 _ hm _ (List.mem_singleton.2 rfl) rfl
variable{P:Nat→List Nat}{N:Nat}{wt:Nat→Nat}{ready:List Nat}{d q:Nat}
theorem Kahn.first(P:Nat→List Nat)(N:Nat)(hw:∀k,k<N→wt k=(P k).length)(hr:ready=(List.range N).filter fun k=>(P k).length=0):Kahn P N wt ready 0:=by
 subst hr;refine⟨List.nodup_range.sublist List.filter_sublist,fun x hx=>List.mem_range.1 (List.mem_filter.1 hx).1,?_,Nat.zero_le _,fun k hk=>by rw[List.take_zero,leftS_nil,hw k hk],fun k hk=>?_⟩
 ·intro i hi p hp;have hm:((List.range N).filter fun k=>(P k).length=0).getD i 0∈(List.range N).filter fun k=>(P k).length=0:=by
   rw[List.getD_eq_getElem?_getD,List.getElem?_eq_getElem hi];exact List.getElem_mem hi
  have h0:=(List.mem_filter.1 hm).2;rw[decide_eq_true_iff,List.length_eq_zero_iff]at h0;rw[h0]at hp;cases hp
 ·rw[hw k hk,List.mem_filter,decide_eq_true_iff];exact⟨fun h=>h.2,fun h=>⟨List.mem_range.2 hk,h⟩⟩
theorem Kahn.enter(h:Kahn P N wt ready d)(hd:d<ready.length):KahnI P N wt ready d 0:=by
 refine⟨h.nd,h.lt,h.sq,hd,fun k hk=>?_,h.z⟩;rw[h.w k hk,leftS_snoc _ _ (getD_notin h.nd hd),take_snoc_get _ _ hd,List.drop_zero,behS_count,if_pos hk]
theorem KahnI.leave(h:KahnI P N wt ready d q)(hq:(behS P N (ready.getD d 0)).length≤q):Kahn P N wt ready (d+1):=by
 refine⟨h.nd,h.lt,h.sq,h.dl,fun k hk=>?_,h.z⟩;rw[h.w k hk,List.drop_of_length_le hq];rfl
theorem drop_at(l:List Nat)(q:Nat)(hq:q<l.length):l.drop q=l.getD q 0::l.drop (q+1):=by
 rw[List.drop_eq_getElem_cons hq,List.getD_eq_getElem?_getD,List.getElem?_eq_getElem hq];rfl
theorem KahnI.told(h:KahnI P N wt ready d q)(hq:q<(behS P N (ready.getD d 0)).length){k:Nat}(hk:k=(behS P N (ready.getD d 0)).getD q 0):k<N∧0<wt k:=by
 have hm:k∈behS P N (ready.getD d 0):=by
  rw[hk];exact getD_mem hq
 have hN:=behS_lt P N _ k hm;refine⟨hN,?_⟩;rw[h.w k hN,drop_at _ q hq,←hk,List.count_cons_self];omega
theorem KahnI.step(h:KahnI P N wt ready d q)(hq:q<(behS P N (ready.getD d 0)).length){k:Nat}(hk:k=(behS P N (ready.getD d 0)).getD q 0){wt':Nat→Nat}(h1:wt' k=wt k - 1)(h2:∀i,i≠k→wt' i=wt i):
  KahnI P N wt' (if wt' k=0 then ready++[k]else ready) d (q+1):=by
 obtain⟨hN,hp⟩:=h.told hq hk;have hnr:k∉ready:=fun hm=>by have:=(h.z k hN).1 hm;omega
 have hw:∀i,i<N→wt' i=leftS (ready.take (d+1)) (P i)+((behS P N (ready.getD d 0)).drop (q+1)).count i:=by
  intro i hi;have h3:=h.w i hi;rw[drop_at _ q hq,←hk,List.count_cons]at h3;by_cases e:i=k
  ·subst e;rw[h1,h3];simp
  ·rw[h2 i e,h3];have:(k==i)=false:=by simp;omega
   rw[this];simp
 split
 ·rename_i h0;have hg:(ready++[k]).getD d 0=ready.getD d 0:=by rw[getD_snoc,if_pos h.dl]
  have ht:(ready++[k]).take (d+1)=ready.take (d+1):=List.take_append_of_le_length h.dl;refine⟨?_,?_,?_,?_,?_,?_⟩
  ·rw[List.nodup_append];refine⟨h.nd,by simp,fun a ha b hb=>?_⟩;rw[List.mem_singleton]at hb;subst hb;intro e;subst e;exact hnr ha
  ·intro x hx;rcases List.mem_append.1 hx with e|e
   ·exact h.lt x e
   ·rw[List.mem_singleton]at e;subst e;exact hN
  ·refine h.sq.snoc (d:=d+1) (fun p hp=>?_);have h4:=hw k hN;rw[h0]at h4;exact leftS_zero.1 (by omega) p hp
  ·rw[List.length_append];exact Nat.lt_add_right _ h.dl
  ·intro i hi;rw[hg,ht];exact hw i hi
  ·intro i hi;rw[List.mem_append,List.mem_singleton];by_cases e:i=k
   ·subst e;simp[h0]
   ·rw[h2 i e,←h.z i hi];simp[e]
 ·rename_i h0;refine⟨h.nd,h.lt,h.sq,h.dl,hw,fun i hi=>?_⟩;by_cases e:i=k
  ·subst e;simp[h0,hnr]
  ·rw[h2 i e];exact h.z i hi
theorem Kahn.last(h:Kahn P N wt ready d)(hd:d=ready.length):Found P N↔¬d<N:=by
 rw[hd];refine found_iff h.nd h.lt h.sq (fun i hi hp=>?_);rw[h.z i hi,h.w i hi,hd,List.take_length];exact leftS_zero.2 hp
end S
namespace S
open G
theorem cmpS_trans:∀ {a b c:List Int},cmpS a b<0→cmpS b c<0→cmpS a c<0
 |[],[],_,h,_=>by simp[cmpS]at h
 |[],_::_,[],_,h=>by simp[cmpS]at h
 |[],_::_,_::_,_,_=>by simp[cmpS]
 |_::_,[],_,h,_=>by simp[cmpS]at h
 |_::_,_::_,[],_,h=>by simp[cmpS]at h
 |x::xs,y::ys,z::zs,h1,h2=>by
  have ih:= @cmpS_trans xs ys zs;simp only[cmpS]at h1 h2⊢;by_cases a1:x<y<;>by_cases a2:y<x<;>by_cases b1:y<z<;>by_cases b2:z<y<;>simp only[a1,a2,b1,b2,if_true,if_false]at h1 h2
  all_goals first|omega|(rw[if_pos (by omega)];decide)|(rw[if_neg (by omega),if_neg (by omega)];exact ih h1 h2)
theorem rising_lt{m:Nat}{ids:List Int}(h:Rising m ids)(i:Nat):∀j,i<j→j<m→cmpS (idAt ids i) (idAt ids j)<0
 |0,hi,_=>by omega
 |j+1,hi,hj=>by
  have h1:=h j (by omega);by_cases e:i=j
  ·subst e;exact h1
  ·exact cmpS_trans (rising_lt h i j (by omega) (by omega)) h1
theorem cmpS_self(a:List Int):cmpS a a=0:=(cmpS_eq a a).2 rfl
theorem rising_inj{m:Nat}{ids:List Int}(h:Rising m ids){i j:Nat}(hi:i<m)(hj:j<m)(e:idAt ids i=idAt ids j):i=j:=by
 rcases Nat.lt_trichotomy i j with h1|h1|h1
 ·have:=rising_lt h i j h1 hj;rw[e,cmpS_self]at this;omega
 ·exact h1
 ·have:=rising_lt h j i h1 hi;rw[e,cmpS_self]at this;omega
def inS(m:Nat)(ids x:List Int):Prop:=∃i,i<m∧idAt ids i=x
def ixS(m:Nat)(ids x:List Int):Nat:=((List.range m).find? fun i=>decide (idAt ids i=x)).getD 0
theorem ix_in{m:Nat}{ids x:List Int}(h:inS m ids x):ixS m ids x<m∧idAt ids (ixS m ids x)=x:=by
 obtain⟨i,hi,e⟩:=h;unfold ixS;cases hf:(List.range m).find? fun i=>decide (idAt ids i=x)with
 |none=>rw[List.find?_eq_none]at hf;exact absurd (decide_eq_true e) (hf i (List.mem_range.2 hi))
 |some j=>
  have h1:=List.find?_some hf;exact⟨List.mem_range.1 (List.mem_of_find?_eq_some hf),of_decide_eq_true h1⟩
theorem ix_eq{m:Nat}{ids:List Int}(h:Rising m ids){i:Nat}(hi:i<m):ixS m ids (idAt ids i)=i:=by
 have:=ix_in (m:=m) (ids:=ids) (x:=idAt ids i) ⟨i,hi,rfl⟩;exact rising_inj h this.1 hi this.2
theorem ix_first{m:Nat}{ids x:List Int}{i:Nat}(hi:i<m)(e:idAt ids i=x)(hf:∀j,j<i→idAt ids j≠x):ixS m ids x=i:=by
 have h1:=ix_in ⟨i,hi,e⟩;unfold ixS at*;cases hq:(List.range m).find? fun i=>decide (idAt ids i=x)with
 |none=>rw[List.find?_eq_none]at hq;exact absurd (decide_eq_true e) (hq i (List.mem_range.2 hi))
 |some j=>
  rw[hq]at h1;simp only[Option.getD_some]at h1⊢;rcases Nat.lt_trichotomy i j with h|h|h
  ·rw[List.find?_range_eq_some]at hq;have:=hq.2.2 i h;simp[e]at this
  ·exact h.symm
  ·exact absurd h1.2 (hf j h)
instance(m:Nat)(ids x:List Int):Decidable (inS m ids x):=decidable_of_iff (∃i∈List.range m,idAt ids i=x) ⟨fun⟨i,h,e⟩=>⟨i,List.mem_range.1 h,e⟩,fun⟨i,h,e⟩=>⟨i,List.mem_range.2 h,e⟩⟩
def allI(m:Nat)(ids:List Int)(n:Nat)(ps:List Int):Prop:=∀j,j<n→inS m ids (idAt ps j)
instance(m:Nat)(ids:List Int)(n:Nat)(ps:List Int):Decidable (allI m ids n ps):=by unfold allI;infer_instance
def Spot(m:Nat)(ids x:List Int)(at_:Nat):Prop:=at_≤m∧(∀i,i<at_→cmpS (idAt ids i) x<0)∧(∀i,at_≤i→i<m→0≤cmpS (idAt ids i) x)
theorem Spot.has{m:Nat}{ids x:List Int}{p:Nat}(h:Spot m ids x p)(hr:Rising m ids):inS m ids x↔p<m∧cmpS (idAt ids p) x=0:=by
 constructor
 ·rintro⟨i,hi,e⟩;have hz:cmpS (idAt ids i) x=0:=(cmpS_eq _ _).2 e;have hp:p≤i:=by
   apply Classical.byContradiction;intro hn;have:=h.2.1 i (by omega);omega
  rcases Nat.lt_or_eq_of_le hp with h1|h1
  ·have h2:=rising_lt hr p i h1 hi;have h3:=h.2.2 p (Nat.le_refl _) (by omega);rw[e]at h2;omega
  ·subst h1;exact⟨hi,hz⟩
 ·rintro⟨h1,h2⟩;exact⟨p,h1,(cmpS_eq _ _).1 h2⟩
def prS(m:Nat)(ids:List Int)(ops:List OpV)(i:Nat):List Nat:=(List.range (ops.getD i OpV.zero).n).map fun j=>ixS m ids (idAt (ops.getD i OpV.zero).ids j)
def opensS(m:Nat)(ids:List Int)(ops:List OpV):Prop:=∀i,i<ops.length→allI m ids (ops.getD i OpV.zero).n (ops.getD i OpV.zero).ids
instance(m:Nat)(ids:List Int)(ops:List OpV):Decidable (opensS m ids ops):=by unfold opensS;infer_instance
noncomputable instance(P:Nat→List Nat)(N:Nat):Decidable (Found P N):=Classical.propDecidable _
noncomputable def shapeS(m:Nat)(ids:List Int)(ops:List OpV):Int:=if ¬Rising m ids then 32 else if ¬opensS m ids ops then 40 else if Found (prS m ids ops) ops.length then 0 else 36
def ownS(o:OpV)(x:List Int):Prop:=verE o=0∧sha (encS o)=x
instance(o:OpV)(x:List Int):Decidable (ownS o x):=by unfold ownS;infer_instance
def ownsS(ids:List Int)(ops:List OpV):Prop:=∀i,i<ops.length→ownS (ops.getD i OpV.zero) (idAt ids i)
instance(ids:List Int)(ops:List OpV):Decidable (ownsS ids ops):=by unfold ownsS;infer_instance
noncomputable def chkG(m:Nat)(ids:List Int)(ops:List OpV):Int:=if 60<ops.length then 4 else if m≠ops.length then 8 else if ¬ownsS ids ops then 8 else shapeS m ids ops
theorem verE_check{o:OpV}(h:verE o=0):checkE o=0:=by
 unfold verE at h;split at h
 ·assumption
 ·exact h
theorem chkG_zero{m:Nat}{ids:List Int}{ops:List OpV}:chkG m ids ops=0↔ops.length≤60∧m=ops.length∧ownsS ids ops∧Rising m ids∧opensS m ids ops∧Found (prS m ids ops) ops.length:=by
 unfold chkG shapeS;constructor
 ·intro h
  repeat' (first|(split at h))
  all_goals first|(exact absurd h (by decide))|skip
  rename_i a1 a2 a3 a4 a5 a6;exact⟨by omega,Decidable.not_not.1 a2,Decidable.not_not.1 a3,Decidable.not_not.1 a4,Decidable.not_not.1 a5,a6⟩
 ·rintro⟨a1,a2,a3,a4,a5,a6⟩;rw[if_neg (by omega),if_neg (by omega),if_neg (not_not_intro a3),if_neg (not_not_intro a4),if_neg (not_not_intro a5),if_pos a6]
def spotC(m:Nat)(c:Nat→Int):Nat:=((List.range m).find? fun i=>decide (0≤c i)).getD m
theorem spotC_eq{m:Nat}{c:Nat→Int}{p:Nat}(h1:p≤m)(h2:∀i,i<p→c i<0)(h3:p<m→0≤c p):spotC m c=p:=by
 unfold spotC;cases hf:(List.range m).find? fun i=>decide (0≤c i)with
 |none=>
  rw[List.find?_eq_none]at hf;simp only[Option.getD_none];apply Classical.byContradiction;intro hn;have:=hf p (List.mem_range.2 (by omega));simp only[decide_eq_true_eq]at this;exact this (h3 (by omega))
 |some j=>
  simp only[Option.getD_some];have hj:=List.find?_some hf;simp only[decide_eq_true_eq]at hj;have hm:=List.mem_range.1 (List.mem_of_find?_eq_some hf);rcases Nat.lt_trichotomy j p with h|h|h
  ·have:=h2 j h;omega
  ·exact h
  ·rw[List.find?_range_eq_some]at hf;have:=hf.2.2 p h;have h4:=h3 (by omega);simp[h4]at this
theorem spotC_le(m:Nat)(c:Nat→Int):spotC m c≤m:=by
 unfold spotC;cases hf:(List.range m).find? fun i=>decide (0≤c i)with
 |none=>exact Nat.le_refl _
 |some j=>exact Nat.le_of_lt (List.mem_range.1 (List.mem_of_find?_eq_some hf))
theorem spotC_lt{m:Nat}{c:Nat→Int}{i:Nat}(h:i<spotC m c):c i<0:=by
 have hl:=spotC_le m c;unfold spotC at h hl;cases hf:(List.range m).find? fun i=>decide (0≤c i)with
 |none=>
  rw[hf]at h hl;rw[List.find?_eq_none]at hf;have:=hf i (List.mem_range.2 (by simp at h;omega));simp only[decide_eq_true_eq]at this;omega
 |some j=>
  rw[hf]at h;rw[List.find?_range_eq_some]at hf;have:=hf.2.2 i (by simpa using h);simpa using this
theorem spotC_ge{m:Nat}{c:Nat→Int}(h:spotC m c<m):0≤c (spotC m c):=by
 unfold spotC at h⊢;cases hf:(List.range m).find? fun i=>decide (0≤c i)with
 |none=>rw[hf]at h;simp at h
 |some j=>simpa using List.find?_some hf
def MonoC(m:Nat)(c:Nat→Int):Prop:=∀i j,i<j→j<m→c j<0→c i<0
structure HalfC(m:Nat)(c:Nat→Int)(i j:Int):Prop where
 r:0≤i∧i≤j∧j≤m
 lo:∀k,k<i.toNat→c k<0
 hi:∀k,j.toNat≤k→k<m→0≤c k
theorem HalfC.first(m:Nat)(c:Nat→Int):HalfC m c 0 m:=⟨by omega,fun k h=>by omega,fun k h h2=>by omega⟩
theorem HalfC.up{m:Nat}{c:Nat→Int}{i j h:Int}(H:HalfC m c i j)(hm:MonoC m c)(h1:i≤h)(h2:h<j)(hc:c h.toNat<0):HalfC m c (h+1) j:=by
 have:=H.r;refine⟨by omega,fun k hk=>?_,H.hi⟩;by_cases e:k=h.toNat
 ·subst e;exact hc
 ·exact hm k h.toNat (by omega) (by omega) hc
theorem HalfC.down{m:Nat}{c:Nat→Int}{i j h:Int}(H:HalfC m c i j)(hm:MonoC m c)(h1:i≤h)(h2:h<j)(hc:¬c h.toNat<0):HalfC m c i h:=by
 have:=H.r;refine⟨by omega,H.lo,fun k hk hm2=>?_⟩;by_cases e:k=h.toNat
 ·subst e;omega
 ·apply Classical.byContradiction;intro hn;exact hc (hm h.toNat k (by omega) hm2 (by omega))
theorem HalfC.spot{m:Nat}{c:Nat→Int}{i j:Int}(H:HalfC m c i j)(h:¬i<j):i=(spotC m c:Nat):=by
 have:=H.r;have e:spotC m c=i.toNat:=spotC_eq (by omega) H.lo fun hl=>H.hi _ (by omega) hl;omega
def spotS(m:Nat)(ids x:List Int):Nat:=spotC m fun i=>cmpS (idAt ids i) x
theorem mono_ids{m:Nat}{ids x:List Int}(hr:Rising m ids):MonoC m fun i=>cmpS (idAt ids i) x:=fun i j hij hj hc=>cmpS_trans (rising_lt hr i j hij hj) hc
theorem spotS_has{m:Nat}{ids x:List Int}(hr:Rising m ids):inS m ids x↔spotS m ids x<m∧cmpS (idAt ids (spotS m ids x)) x=0:=by
 refine Spot.has ⟨spotC_le _ _,fun i hi=>spotC_lt hi,fun i h1 h2=>?_⟩ hr;have h3:0≤cmpS (idAt ids (spotS m ids x)) x:=spotC_ge (c:=fun i=>cmpS (idAt ids i) x) (Nat.lt_of_le_of_lt h1 h2);apply Classical.byContradiction;intro hn;have hn:cmpS (idAt ids i) x<0:=by omega
 rcases Nat.lt_or_eq_of_le h1 with h|h
 ·have h4:cmpS (idAt ids (spotS m ids x)) x<0:=mono_ids (x:=x) hr _ _ h h2 hn;omega
 ·have e:i=spotS m ids x:=h.symm;rw[e]at hn;omega
theorem spotS_ix{m:Nat}{ids x:List Int}(hr:Rising m ids)(h:inS m ids x):spotS m ids x=ixS m ids x:=by
 obtain⟨h1,h2⟩:=(spotS_has hr).1 h;have h3:=ix_in h;exact rising_inj hr h1 h3.1 (by rw[h3.2];exact(cmpS_eq _ _).1 h2)
noncomputable def getE(m:Nat)(ids:List Int)(ops:List OpV)(x:List Int):Int:=if chkG m ids ops≠0 then chkG m ids ops else if inS m ids x then 0 else 6
noncomputable def getO(m:Nat)(ids:List Int)(ops:List OpV)(x:List Int):OpV:=if chkG m ids ops≠0 then OpV.zero else if inS m ids x then ops.getD (ixS m ids x) OpV.zero else OpV.zero
def castL(l:List Nat):List Int:=l.map fun n:Nat=>(n:Int)
theorem castL_len(l:List Nat):(castL l).length=l.length:=List.length_map _
theorem castL_get(l:List Nat)(i:Nat):(castL l).getD i 0=(l.getD i 0:Nat):=by
 unfold castL;rw[List.getD_eq_getElem?_getD,List.getD_eq_getElem?_getD,List.getElem?_map];cases l[i]? <;>simp
theorem castL_snoc(l:List Nat)(x:Nat):castL (l++[x])=castL l++[(x:Int)]:=by simp[castL]
def behJ(P:Nat→List Nat)(i j a:Nat):List Nat:=behS P i a++List.replicate (((P i).take j).count a) i
theorem behJ_zero(P:Nat→List Nat)(i a:Nat):behJ P i 0 a=behS P i a:=by simp[behJ]
theorem behJ_full(P:Nat→List Nat)(i j a:Nat)(h:(P i).length≤j):behJ P i j a=behS P (i+1) a:=by
 rw[behJ,behS_succ,List.take_of_length_le h]
theorem behJ_succ(P:Nat→List Nat)(i j a:Nat)(h:j<(P i).length):behJ P i (j+1) a=if a=(P i).getD j 0 then behJ P i j a++[i]else behJ P i j a:=by
 unfold behJ;rw[take_snoc_get _ _ h,List.count_append,List.count_singleton];by_cases e:a=(P i).getD j 0
 ·rw[if_pos e,←e];simp[List.replicate_succ']
 ·rw[if_neg e,if_neg (by simpa using fun h=>e h.symm),Nat.add_zero]
theorem flatMap_le{α:Type}(f:Nat→List α)(k:Nat):∀n,(∀i,i<n→(f i).length≤k)→((List.range n).flatMap f).length≤k*n
 |0,_=>by simp
 |n+1,h=>by
  rw[List.range_succ,List.flatMap_append,List.length_append,Nat.mul_add];have:=flatMap_le f k n fun i hi=>h i (by omega);have:=h n (by omega);rw[List.flatMap_cons,List.flatMap_nil,List.append_nil,Nat.mul_one];omega
theorem behJ_len(P:Nat→List Nat)(i j a k:Nat)(h:∀i,(P i).length≤k):(behJ P i j a).length≤k*(i+1):=by
 unfold behJ behS;rw[List.length_append,List.length_replicate,Nat.mul_add,Nat.mul_one];have h1:=flatMap_le (fun i'=>List.replicate ((P i').count a) i') k i fun i' _=>by rw[List.length_replicate];exact Nat.le_trans List.count_le_length (h i')
 have h2:=Nat.le_trans (List.count_le_length (l:=(P i).take j) (a:=a)) (List.length_take_le _ _);have h3:((P i).take j).count a≤(P i).length:=Nat.le_trans List.count_le_length (by rw[List.length_take];omega);have:=h i;omega
structure ShQ(P:Nat→List Nat)(N i j:Nat)(qs:List Pc):Prop where
 len:qs.length=N
 xs:∀(a:Nat) (q:Pc),qs[a]? =some q→q.xs=castL (behJ P i j a)∧q.n=q.xs.length
theorem ShQ.first (P : Nat → List Nat) (N : Nat) : ShQ P N 0 0 (List.replicate N default) := ⟨by simp, fun a q h => by
 obtain rfl := (List.mem_replicate.1 (List.mem_of_getElem? h)).2
 exact ⟨by simp only [behJ, behS, castL, List.range_zero, List.flatMap_nil, List.take_zero, List.count_nil, List.replicate_zero, List.append_nil, List.map_nil]; rfl, rfl⟩⟩
theorem ShQ.step{P:Nat→List Nat}{N i j:Nat}{qs:List Pc}(h:ShQ P N i j qs)(hj:j<(P i).length){at_:Nat}{q:Pc}(hq:qs[at_]? =some q)(ha:at_=(P i).getD j 0)(a':Option Addr)(c':Nat):ShQ P N i (j+1) (qs.set at_ ⟨a',q.n+1,c',q.xs++[(i:Int)]⟩):=by
 have h0:=h.xs _ _ hq;refine⟨by rw[List.length_set];exact h.len,fun a q' h'=>?_⟩;rw[List.getElem?_set]at h';rw[behJ_succ P i j a hj,←ha];split at h'
 ·rename_i e;subst e;split at h'
  ·obtain rfl:=Option.some.inj h';rw[if_pos rfl,castL_snoc,←h0.1];exact⟨rfl,by simp[h0.2]⟩
  ·cases h'
 ·rename_i e;rw[if_neg (fun e2=>e e2.symm)];exact h.xs a q' h'
theorem ShQ.next{P:Nat→List Nat}{N i j:Nat}{qs:List Pc}(h:ShQ P N i j qs)(hj:(P i).length≤j):ShQ P N (i+1) 0 qs:=⟨h.len,fun a q hq=>by rw[behJ_zero,←behJ_full P i j a hj];exact h.xs a q hq⟩
theorem ShQ.get{P:Nat→List Nat}{N i j a:Nat}{qs:List Pc}(h:ShQ P N i j qs)(ha:a<N):∃q,qs[a]? =some q:=⟨_,List.getElem?_eq_getElem (by rw[h.len];exact ha)⟩
theorem set_get(ws:List Int)(i k:Nat)(v:Int)(h:i<ws.length):(ws.set i v).getD k 0=if k=i then v else ws.getD k 0:=by
 rw[List.getD_eq_getElem?_getD,List.getD_eq_getElem?_getD,List.getElem?_set];by_cases e:i=k
 ·subst e;simp[h]
 ·rw[if_neg e,if_neg (fun e2=>e e2.symm)]
structure ShW(P:Nat→List Nat)(N i:Nat)(ws:List Int):Prop where
 len:ws.length=N
 w:∀k,k<N→ws.getD k 0=if k<i then((P k).length:Int)else 0
theorem ShW.first(P:Nat→List Nat)(N:Nat):ShW P N 0 (List.replicate N 0):=⟨by simp,fun k hk=>by rw[List.getD_eq_getElem?_getD,List.getElem?_replicate,if_pos hk];rfl⟩
theorem ShW.step {P : Nat → List Nat} {N i : Nat} {ws : List Int} (h : ShW P N i ws) (hi : i < N) : ShW P N (i + 1) (ws.set i ((P i).length : Int)) := ⟨by rw [List.length_set]; exact h.len, fun k hk => by
 rw [set_get _ _ _ _ (by rw [h.len]; exact hi), h.w k hk]
 by_cases e : k = i
 ·subst e; simp
 ·rw [if_neg e]
  by_cases h2 : k < i
  ·rw [if_pos h2, if_pos (by omega)]
  ·rw [if_neg h2, if_neg (by omega)]⟩
def zeroP(P:Nat→List Nat)(i:Nat):List Nat:=(List.range i).filter fun k=>(P k).length=0
theorem zeroP_succ(P:Nat→List Nat)(i:Nat):zeroP P (i+1)=if(P i).length=0 then zeroP P i++[i]else zeroP P i:=by
 unfold zeroP;rw[List.range_succ,List.filter_append];by_cases h:(P i).length=0
 ·rw[if_pos h,List.filter_cons,if_pos (by simpa using h)];rfl
 ·rw[if_neg h,List.filter_cons,if_neg (by simpa using h)];simp
def wtS(ws:List Int)(k:Nat):Nat:=(ws.getD k 0).toNat
theorem ShW.kahn{P:Nat→List Nat}{N:Nat}{ws:List Int}(h:ShW P N N ws):Kahn P N (wtS ws) (zeroP P N) 0:=Kahn.first P N (fun k hk=>by unfold wtS;rw[h.w k hk,if_pos hk];rfl) rfl
theorem Kahn.le{P:Nat→List Nat}{N d:Nat}{wt:Nat→Nat}{rd:List Nat}(h:Kahn P N wt rd d):rd.length≤N:=by
 have:=nodup_len (l:=rd) (m:=List.range N) h.nd fun x hx=>List.mem_range.2 (h.lt x hx);simpa using this
theorem KahnI.le{P:Nat→List Nat}{N d q:Nat}{wt:Nat→Nat}{rd:List Nat}(h:KahnI P N wt rd d q):rd.length≤N:=by
 have:=nodup_len (l:=rd) (m:=List.range N) h.nd fun x hx=>List.mem_range.2 (h.lt x hx);simpa using this
theorem KahnI.down{P:Nat→List Nat}{N d q:Nat}{ws:List Int}{rd:List Nat}(h:KahnI P N (wtS ws) rd d q)(hl:ws.length=N)(hq:q<(behS P N (rd.getD d 0)).length){k:Nat}(hk:k=(behS P N (rd.getD d 0)).getD q 0):
  KahnI P N (wtS (ws.set k (ws.getD k 0 - 1))) (if ws.getD k 0 - 1=0 then rd++[k]else rd) d (q+1):=by
 obtain⟨h1,h2⟩:=h.told hq hk;have hw:wtS ws k=(ws.getD k 0).toNat:=rfl;have e1:wtS (ws.set k (ws.getD k 0 - 1)) k=wtS ws k - 1:=by
  unfold wtS;rw[set_get _ _ _ _ (by rw[hl];exact h1),if_pos rfl];omega
 have:=h.step hq hk (wt':=wtS (ws.set k (ws.getD k 0 - 1))) e1 fun i hi=>by unfold wtS;rw[set_get _ _ _ _ (by rw[hl];exact h1),if_neg hi]
 rw[e1]at this;by_cases hz:ws.getD k 0 - 1=0
 ·rw[if_pos hz];rw[if_pos (by omega)]at this;exact this
 ·rw[if_neg hz];rw[if_neg (by omega)]at this;exact this
def RisS(ids:List Int)(i:Nat):Prop:=∀k,k+1<i→cmpS (idAt ids k) (idAt ids (k+1))<0
theorem shape_32{m:Nat}{ids:List Int}{ops:List OpV}{i:Nat}(hi:i+1<m)(h:0≤cmpS (idAt ids i) (idAt ids (i+1))):shapeS m ids ops=32:=by
 unfold shapeS;rw[if_pos fun hr=>?_];have:=hr i (by omega);omega
theorem shape_40{m:Nat}{ids:List Int}{ops:List OpV}{i j:Nat}(hr:Rising m ids)(hi:i<ops.length)(hj:j<(ops.getD i OpV.zero).n)(h:¬inS m ids (idAt (ops.getD i OpV.zero).ids j)):shapeS m ids ops=40:=by
 unfold shapeS;rw[if_neg (not_not_intro hr),if_pos fun ho=>h (ho i hi j hj)]
theorem shape_end{m d:Nat}{ids:List Int}{ops:List OpV}(hr:Rising m ids)(ho:opensS m ids ops)(hf:Found (prS m ids ops) ops.length↔¬d<ops.length):shapeS m ids ops=if d<ops.length then 36 else 0:=by
 unfold shapeS;rw[if_neg (not_not_intro hr),if_neg (not_not_intro ho)];by_cases h:d<ops.length
 ·rw[if_neg (fun e=>hf.1 e h),if_pos h]
 ·rw[if_pos (hf.2 h),if_neg h]
theorem prS_len(m:Nat)(ids:List Int)(ops:List OpV)(i:Nat):(prS m ids ops i).length=(ops.getD i OpV.zero).n:=by simp[prS]
theorem prS_get(m:Nat)(ids:List Int)(ops:List OpV)(i j:Nat)(h:j<(ops.getD i OpV.zero).n):(prS m ids ops i).getD j 0=ixS m ids (idAt (ops.getD i OpV.zero).ids j):=by
 unfold prS;rw[List.getD_eq_getElem?_getD,List.getElem?_map,List.getElem?_range h];rfl
end S
namespace S
open G
def kc(a b:ByteArray):Int:=cmpS (bys a) (bys b)
structure RgV where
 (key:ByteArray)(vk num bits:Int)(t:ByteArray)(st:Int)(id:List Int)(h32:id.length=32)
def RgV.zero:RgV:=⟨.empty,0,0,0, .empty,0,List.replicate 32 0,rfl⟩
@[reducible] def rg(l:List RgV)(i:Nat):RgV:=l.getD i RgV.zero
theorem rg_some{l:List RgV}{i:Nat}{x:RgV}(h:l[i]? =some x):rg l i=x:=by unfold rg;rw[List.getD_eq_getElem?_getD,h];rfl
def SortK(l:List RgV):Prop:=l.Pairwise fun a b=>kc a.key b.key<0
theorem SortK.lt{l:List RgV}(h:SortK l){i j:Nat}(hij:i<j)(hj:j<l.length):kc (rg l i).key (rg l j).key<0:=by
 have:=List.pairwise_iff_getElem.1 h i j (by omega) hj hij;rw[rg_some (List.getElem?_eq_getElem (by omega:i<l.length)),rg_some (List.getElem?_eq_getElem hj)];exact this
/-! places -/
def regO(o:OpV)(id:List Int)(h:id.length=32):RgV:=⟨o.key,o.vk,o.num,o.bits,o.t,o.st,id,h⟩
end S
namespace G
open Go.RowKit
section
end
/-! parts of rows -/
theorem flat_take{α:Type}(f:α→List Value)(sz:Nat)(hf:∀x,(f x).length=sz):∀(l:List α) (n:Nat),(l.flatMap f).take (n*sz)=(l.take n).flatMap f
 |[],n=>by simp
 |x::l,0=>by simp
 |x::l,n+1=>by
  rw[List.flatMap_cons,List.take_succ_cons,List.flatMap_cons,List.take_append,hf,List.take_of_length_le (by rw[hf,Nat.add_mul];omega),show(n+1)*sz - sz=n*sz by rw[Nat.add_mul];omega,flat_take f sz hf l n]
theorem flat_drop{α:Type}(f:α→List Value)(sz:Nat)(hf:∀x,(f x).length=sz):∀(l:List α) (n:Nat),(l.flatMap f).drop (n*sz)=(l.drop n).flatMap f
 |[],n=>by simp
 |x::l,0=>by simp
 |x::l,n+1=>by
  rw[List.flatMap_cons,List.drop_succ_cons,List.drop_append,hf,List.drop_of_length_le (by rw[hf,Nat.add_mul];omega),List.nil_append,show(n+1)*sz - sz=n*sz by rw[Nat.add_mul];omega,flat_drop f sz hf l n]
theorem GRow.sub{α:Type}{f:α→List Value}{sz n:Nat}{S:Nat→Prop}{w:World}{a:Option Addr}{lst:List α}(h:GRow f sz S w a n lst)(lo hi m:Nat)(hh:hi≤n)(hl:lo≤hi)(hm:hi≤m):GRow f sz S w (subA a lo sz m) (hi - lo) ((lst.drop lo).take (hi - lo)):=by
 have hln:=h.len;refine⟨?_,by rw[List.length_take,List.length_drop];omega,h.szf⟩;have:=h.row.sub lo hi sz m (by rw[flat_len f sz h.szf,hln,Nat.mul_comm];exact Nat.mul_le_mul_left _ hh) hl hm;rwa[flat_drop f sz h.szf,flat_take f sz h.szf]at this
section
variable{P:Program}{ops:Array Oper}{K:List Value→World→Prop}{rest:List Oper}{l:List Value}{w:World}{d:Tmp}{ty:TypeId}{pos:String}{af:Array Edge}
theorem RS.copyC{x y:Operand}{t t2 e T:TypeId}{b o n cp m c2 sz k:Nat}{a:Option Addr}{S:Nat→Prop}{cs ds:List Value}(hB:Blk w b cs T)(hR:Row S w a ds)(hd:ds.length=m*sz)(hk:min m n=k)(hm:0<k)(hsz:0<sz)(hv:∀u∈ds.take (k*sz),cellB u=true)
  (hx:ev l x= .slice (some ⟨b,o,none⟩) n cp)(hy:ev l y= .slice a m c2)(hu:P.underlying t=some (.slice e))(hs:P.cellsOf e=sz)(ho:o+k*sz≤cs.length)
  (h:∀w',St b w w'→Blk w' b (splice cs o (ds.take (k*sz))) T→RS P ops K rest (l.set d (.int .i64 k)) w'):
  RS P ops K (⟨some d, .call {callee:= .builtin .copy,args:= #[x,y],argTypes:= #[t,t2]},ty,pos,af,none⟩::rest) l w:=by
 have hrs:=size_run (P:=P) (w:=w) hs (by omega);have hp:0<k*sz:=Nat.mul_pos hm hsz;have hkm:k*sz≤m*sz:=Nat.mul_le_mul_right _ (by omega);rcases hR with he|⟨b2,o2,rfl,_,hc⟩
 ·rw[he]at hd;simp at hd;omega
 ·have hc2:Cells w b2 o2 (ds.take (k*sz)):=by
   intro j hj;rw[List.length_take]at hj;rw[hc j (by omega)];simp only[List.getD_eq_getElem?_getD,List.getElem?_take];rw[if_pos (by omega)]
  have h1:(loadCells ⟨b2,o2,none⟩ (k*sz)).run P w= .ok (ds.take (k*sz)).toArray w:=by
   have:=loadFrom_run (P:=P) _ hc2 (k*sz) 0 #[] (by rw[List.length_take];omega);simpa [loadCells]using this
  obtain⟨w1,h2,h3,h4⟩:=storeCells_blk (P:=P) (o:=o) (ds.take (k*sz)) 0 _ w hB (by rw[List.length_take];omega) hv;have hrun:(execOp (ev l) ⟨some d, .call {callee:= .builtin .copy,args:= #[x,y],argTypes:= #[t,t2]},ty,pos,af,none⟩).run P w= .ok (.value (.int .i64 k)) w1:=by
   have hmin:Nat.min m n=k:=hk;have hmin3:min n m=k:=by rw[Nat.min_comm];exact hk
   simp[execOp,resolve,hx,hy,invoke,builtin,Builtin.copy_,run_underlying hu,Builtin.lenOf,hrs,Builtin.firstCells,hk,hmin,hmin3,h1,h2,goInt]
  exact RS.o hrun (h w1 h3 (by rw[Nat.add_zero]at h4;exact h4)) rfl
end
section
variable{S0:Nat→Prop}{w0 w:World}{L L' E:List Ent}{P:Program}{l0:List Oper}{ops:Array Oper}{K:List Value→World→Prop}{rest:List (Oper×Kd)}{l l':List Value}{m:Md}{d:Tmp}{op:Op}{ty:TypeId}{pos:String}{af:Array Edge}{kd:Kd}{v:Value}{x y z:Operand}{t t2 ti xt yt e T T2:TypeId}{b b2 o n c n2 c2 sz by_:Nat}{cs cs' vs ws zs:List Value}{X:World→Prop}
 {k ki kn:IntKind}{a a2:Option Addr}{xs ys:List Int}{i:Int}{α:Type}{f:α→List Value}{lst lst2:List α}{q:α}{s u:ByteArray}
theorem J.rex{ι:Type}{p:ι→Prop}{F:Ent→List Ent}(e1:Ent)(e2:ι→Ent)[R:RE L e1 F](h:∀S w,e1.ok S w→∃i,p i∧∀S',e1.ok S' w→(e2 i).ok S' w)(kk:∀i,p i→J S0 w0 (F (e2 i)) X):J S0 w0 L X:=fun w M=>by
 obtain⟨S,_,h2⟩:=M.get (R.h e1).same;obtain⟨i,hp,hi⟩:=h S w h2;obtain⟨S',h1,h2,h3⟩:=M.foc (R.h (e2 i));exact kk i hp w (h3 w S' (Pr.refl _ _) (hi S' h2) fun _ hb=> .inl hb)
theorem J.cur{F:Ent→List Ent}(f:α→List Value)(sz:Nat)(e:TypeId)(b n c:Nat)(lst:List α)[R:RE L (.gown f sz e (some ⟨b,0,none⟩) n c lst) F](kk:∀cur:List Value,(cur.length=c*sz∧cur.take (n*sz)=lst.flatMap f∧n≤c∧c≤maxLen∧lst.length=n)→J S0 w0 (F (.blk b cur e)) X):J S0 w0 L X:=
 J.rex (.gown f sz e (some ⟨b, 0, none⟩) n c lst) (fun cur => .blk b cur e) (fun S w h => by
  obtain ⟨cur, B, h1, h2, h3, h4, h5⟩ := h.1.blk
  exact ⟨cur, ⟨h3, h4, h1, h2, h.1.len⟩, fun S' h' => ⟨h'.2 b rfl, B⟩⟩) kk
class RBE(L:List Ent)(b:Nat)(cs:outParam (List Value))(T:outParam TypeId)(F:outParam (Ent→List Ent)):Prop where h:∀e',Rpl L (.blk b cs T) e' (F e')
instance RBE.here{b:Nat}{cs:List Value}{T:TypeId}{L:List Ent}:RBE (.blk b cs T::L) b cs T (fun e'=>e'::L):=⟨fun _=> .here⟩
theorem J.ruc{cur:List Value}{F:Ent→List Ent}(f:α→List Value)(sz:Nat)(e:TypeId)(b n c:Nat)(lst:List α)[R:RBE L b cur e F](hf:∀x,(f x).length=sz)(h1:cur.length=c*sz)(h2:cur.take (n*sz)=lst.flatMap f)(h3:n≤c)(h4:c≤maxLen)(h5:lst.length=n)(kk:J S0 w0 (F (.gown f sz e (some ⟨b,0,none⟩) n c lst)) X):J S0 w0 L X:=fun w M=>by
 obtain⟨S,h1',h2',h3'⟩:=M.foc (R.h (.gown f sz e (some ⟨b,0,none⟩) n c lst));exact kk w (h3' w S (Pr.refl _ _) ⟨GOwn.of_cur h2'.2 hf h3 h4 h1 h2 h5 (Nat.zero_le _),fun q hq=>by simp[obk]at hq;subst hq;exact h2'.1⟩ fun _ hb=> .inl hb)
theorem RG.sub(h:RG S0 w0 L f sz a n lst)(lo hi m:Nat)(hh:hi≤n)(hl:lo≤hi)(hm:hi≤m):RG S0 w0 L f sz (subA a lo sz m) (hi - lo) ((lst.drop lo).take (hi - lo)):=fun w M=>let ⟨S,k⟩:=h w M;⟨S,k.sub lo hi m hh hl hm⟩
theorem Mem.part{F:List Value→List Ent}[R:RB L b cs T F]{ds:List Value}(M:Mem S0 w0 L w)(h:(cs.drop o).take ds.length=ds):Row (fun _=>True) w (some ⟨b,o,none⟩) ds:=
 .inr ⟨b,o,rfl,trivial,(M.blk (R.h cs).same).cells h⟩
theorem J.copyR{cp k:Nat}{ds:List Value}{F:List Value→List Ent}[U:Und P t (.slice e)][Z:Siz P e sz](hx:ev l x= .slice (some ⟨b,o,none⟩) n cp)(hy:ev l y= .slice a n2 c2)[R:RB L b cs T F](hR:∀w,Mem S0 w0 L w→∃S,Row S w a ds)(hd:ds.length=n2*sz)(h1:∀u∈ds.take (k*sz),cellB u=true)(hc:splice cs o (ds.take (k*sz))=cs')
  (kk:J S0 w0 (F cs') (RY S0 w0 m P ops K rest l'))(hk0:min n2 n=k:=by omega)(hm:0<k:=by omega)(ho:o+k*sz≤cs.length:=by omega)(hsz:0<sz:=by decide)(hl:l.set d (.int .i64 k)=l':=by dsimp only[List.set])(hk:okG m kd (F cs'):=by first|exact trivial|(repeat(first|exact List.Sublist.refl _|refine List.Sublist.cons_cons _ ?_|refine List.Sublist.cons _ ?_))):
  J S0 w0 L (RY S0 w0 m P ops K ((⟨some d, .call {callee:= .builtin .copy,args:= #[x,y],argTypes:= #[t,t2]},ty,pos,af,none⟩,kd)::rest) l):=
 J.big hk fun w M K' hK=>by
  obtain⟨S,h⟩:=hR w M;refine RS.copyC (M.blk (R.h cs).same) h hd hk0 hm hsz h1 hx hy U.h Z.h ho fun w' x1 B=>RS.nil ?_;rw[hc]at B;rw[hl];exact hK _ w' (M.store (R.h _) x1 B) (kk w' (M.store (R.h _) x1 B))
theorem RG.cells(h:RG S0 w0 L f sz a n lst)(w:World)(M:Mem S0 w0 L w):∃S,Row S w a (lst.flatMap f):=let ⟨S,k⟩:=h w M;⟨S,k.row⟩
theorem RG.tail{p:Nat}(h:RG S0 w0 L f sz (some ⟨b,0,none⟩) n lst)(hp:p<n):RG S0 w0 L f sz (some ⟨b,p*sz,none⟩) (n - p) (lst.drop p):=fun w M=>by
 obtain⟨S,k⟩:=h w M;have:=k.sub p n n (Nat.le_refl _) (by omega) (Nat.le_refl _);rw[List.take_of_length_le (by rw[List.length_drop,k.len];exact Nat.le_refl _)]at this;unfold subA at this;rw[if_neg (by omega)]at this;simp only[Option.map_some,add_mk,Nat.zero_add]at this;exact⟨S,this⟩
/-! slices of slices that lie in a block -/
theorem J.slT{o' n' c':Nat}{lo:Operand}[U:Und P xt (.slice e)][Z:Siz P e sz](hk:pureK kd=true)(hx:ev l x= .slice (some ⟨b,o,none⟩) n c)(h1:ev l lo= .int .i64 i)(kk:J S0 w0 L (RY S0 w0 m P ops K rest l'))(hz:sz≠0:=by decide)(hb:0≤i∧i≤n:=by omega)(hn:n≤c:=by omega)(hc:i<c:=by omega)
  (ho:o+i.toNat*sz=o':=by rfl)(hn':n - i.toNat=n':=by rfl)(hc':c - i.toNat=c':=by rfl)(hl:l.set d (.slice (some ⟨b,o',none⟩) n' c')=l':=by dsimp only[List.set]):
  J S0 w0 L (RY S0 w0 m P ops K ((⟨some d, .slice xt x (some lo) none none,ty,pos,af,none⟩,kd)::rest) l):=J.sl hk hx h1 rfl kk hz (by omega) hn (by unfold subA;rw[if_neg (by omega)];simp only[Option.map_some,add_mk];rw[ho]) (by rw[←hn'];rfl) hc' hl
theorem J.slP{n':Nat}{hi:Operand}[U:Und P xt (.slice e)][Z:Siz P e sz](hk:pureK kd=true)(hx:ev l x= .slice (some ⟨b,o,none⟩) n c)(h1:ev l hi= .int .i64 i)(kk:J S0 w0 L (RY S0 w0 m P ops K rest l'))(hz:sz≠0:=by decide)(hb:0≤i∧i≤c:=by omega)(hn:n≤c:=by omega)
  (hn':i.toNat=n':=by rfl)(hl:l.set d (.slice (some ⟨b,o,none⟩) n' c)=l':=by dsimp only[List.set]):
  J S0 w0 L (RY S0 w0 m P ops K ((⟨some d, .slice xt x none (some hi) none,ty,pos,af,none⟩,kd)::rest) l):=J.sl hk hx rfl h1 kk hz (by omega) hn (by unfold subA;split<;>simp[add_mk]) (by rw[←hn'];rfl) rfl hl
theorem sl3{o o' n n' c c':Nat}(h1:o=o')(h2:n=n')(h3:c=c'):Value.slice (some ⟨b,o,none⟩) n c= .slice (some ⟨b,o',none⟩) n' c':=by subst h1 h2 h3;rfl
theorem ins_cells{A C R B X:List Value}{p s:Nat}(hA:A.length=p)(hC:C.length=s)(hX:X.length=s)(hB:B.length≤R.length):
  splice (splice (A++C++R) (p+s) B) p X=A++X++B++R.drop B.length∧splice (splice (A++C++R) p X) (p+s) B=A++X++B++R.drop B.length:=by
 have h1:∀(A C R V:List Value),C.length=V.length→splice (A++C++R) A.length V=A++V++R:=fun A C R V h=>by
  rw[splice_eq _ _ _ (by simp[h]),List.append_assoc A C R,List.take_left,←List.append_assoc,←h,←List.length_append,List.drop_left]
 have h2:∀(A R V:List Value),V.length≤R.length→splice (A++R) A.length V=A++V++R.drop V.length:=fun A R V h=>by
  have:=h1 A (R.take V.length) (R.drop V.length) V (by rw[List.length_take];omega);rwa[List.append_assoc,List.take_append_drop]at this
 constructor
 ·have e1:=h2 (A++C) R B hB;rw[List.length_append,hA,hC]at e1;rw[e1,List.append_assoc,List.append_assoc A,←hA];have e2:=h1 A C (B++R.drop B.length) X (by omega);rw[List.append_assoc]at e2;rw[e2];simp
 ·have e1:=h1 A C R X (by omega);rw[hA]at e1;rw[e1];have e2:=h2 (A++X) R B hB;rw[List.length_append,hA,hX]at e2;exact e2
theorem ins_flat{cs:List Value}{p n:Nat}{z:α}(hf:∀x,(f x).length=sz)(hl:lst.length=n)(hp:p<n)(hn:(n+1)*sz≤cs.length)(hc:cs.take (p*sz)=(lst.take p).flatMap f):
  (splice (splice cs ((p+1)*sz) ((lst.drop p).flatMap f)) (p*sz) (f z)).take ((n+1)*sz)=(lst.take p++z::lst.drop p).flatMap f∧
  (splice (splice cs (p*sz) (f z)) ((p+1)*sz) ((lst.drop p).flatMap f)).take ((n+1)*sz)=(lst.take p++z::lst.drop p).flatMap f:=by
 have e1:(p+1)*sz=p*sz+sz:=by rw[Nat.add_mul];omega
 have e2:(n+1)*sz=p*sz+sz+(n - p)*sz:=by rw[←e1,←Nat.add_mul];congr 1;omega
 have hB:((lst.drop p).flatMap f).length=(n - p)*sz:=by rw[flat_len f sz hf,List.length_drop,hl,Nat.mul_comm]
 have hA:(cs.take (p*sz)).length=p*sz:=by rw[List.length_take];omega
 have hsp:cs=cs.take (p*sz)++(cs.drop (p*sz)).take sz++cs.drop (p*sz+sz):=by
  rw[List.append_assoc,←List.drop_drop,List.take_append_drop,List.take_append_drop]
 have h:=ins_cells (A:=cs.take (p*sz)) (C:=(cs.drop (p*sz)).take sz) (R:=cs.drop (p*sz+sz)) (B:=(lst.drop p).flatMap f) (X:=f z) hA (by rw[List.length_take,List.length_drop];omega) (hf z) (by rw[hB,List.length_drop];omega);rw[←hsp]at h;have ht:∀R:List Value,(cs.take (p*sz)++f z++(lst.drop p).flatMap f++R).take ((n+1)*sz)=(lst.take p++z::lst.drop p).flatMap f:=fun R=>by
  rw[List.take_append_of_le_length (by simp only[List.length_append,hA,hf,hB];omega),List.take_of_length_le (by simp only[List.length_append,hA,hf,hB];omega),hc,List.flatMap_append,List.flatMap_cons,List.append_assoc]
 rw[e1,h.1,h.2];exact⟨ht _,ht _⟩
theorem J.apZ{F:Ent→List Ent}{p k0:Nat}{l':Nat→Nat→List Value}(f:α→List Value)(n:Nat)(lst:List α)[U:Und P t (.slice e)][U2:Und P ti (.int kn)][I:Inf P e sz by_ zs](hk:okE m kd=true)(hx:ev l x= .slice (some ⟨b,0,none⟩) p c)(hy:ev l y= .int ki (k0:Nat))[R:RE L (.gown f sz e (some ⟨b,0,none⟩) n c lst) F]
  (kk:∀b' c' cs',(cs'.length=c'*sz∧cs'.take (p*sz)=(lst.take p).flatMap f∧p+k0≤c'∧c'≤maxLen)→J S0 w0 (.blk b' cs' e::L) (RY S0 w0 m P ops K rest (l' b' c')))(hz:zs.length=sz:=by rfl)(hk0:0<k0:=by omega)(hp:p≤n:=by omega)(hpc:p≤c:=by omega)(hg:c<p+k0:=by omega)(hby:by_≤1000:=by decide)(hb:p+k0≤100000000:=by omega)(hsz:0<sz:=by decide)
  (hl:∀b' c',l.set d (.slice (some ⟨b',0,none⟩) (p+k0) c')=l' b' c':=by intro b' c';dsimp only[List.set]):
  J S0 w0 L (RY S0 w0 m P ops K ((⟨some d, .call {callee:= .builtin .append,args:= #[x,y],argTypes:= #[t,ti]},ty,pos,af,none⟩,kd)::rest) l):=
 J.eff hk fun w M K' hK=>by
  obtain⟨i,zv,i1,i2,i3,i4,i5⟩:=I.h;obtain⟨S,_,q1⟩:=M.get (R.h (.gown f sz e (some ⟨b,0,none⟩) n c lst)).same;obtain⟨cur,B,g1,g2,g3,g4,g5⟩:=q1.1.blk;have hf:=q1.1.szf;have h8:(p+k0)*by_≤(p+k0)*1000:=Nat.mul_le_mul_left _ hby;have h9:k0*by_≤k0*1000:=Nat.mul_le_mul_left _ hby;have hpl:p*sz≤n*sz:=Nat.mul_le_mul_right _ hp;have hnl:n*sz≤c*sz:=Nat.mul_le_mul_right _ g1;have hcp:cur.take (p*sz)=(lst.take p).flatMap f:=by
   rw[←flat_take f sz hf,←g4,List.take_take,Nat.min_eq_left hpl]
  have hold:(Builtin.firstCells i.size p (.slice (some ⟨b,0,none⟩) p c)).run P w.drew= .ok (cur.take (p*sz)).toArray w.drew:=by
   rw[i2];refine run_firstCells_some w.drew sz p ⟨b,0,none⟩ p c _ (by rw[List.length_take];omega) fun j v hj=>?_
   rw[List.getElem?_take]at hj;split at hj
   ·rw[add_mk,Nat.zero_add];exact B.cell hj
   ·cases hj
  have hrun:=Lib.run_append_grow_zeros (P:=P) w t ti ty e i zv ki kn U.h U2.h i1 i4 (some ⟨b,0,none⟩) p c _ hold k0 hk0 (by omega) hg (by omega) (by rw[i3];omega) (by rw[i3];exact growslice_fits hg (by omega));have hge:=grownCap_ge w (p+k0) c e;have hcm:=grownCap_le_maxLen w (p+k0) c e (by simp only[maxLen];omega);have hgen:∀v w',(Builtin.append_ #[t,ti] ty #[.slice (some ⟨b,0,none⟩) p c, .int ki k0]).run P w= .ok v w'→(execOp (ev l) ⟨some d, .call {callee:= .builtin .append,args:= #[x,y],argTypes:= #[t,ti]},ty,pos,af,none⟩).run P w= .ok (.value v) w':=by
   intro v w' h;simp[execOp,resolve,hx,hy,invoke,builtin,h]
  have hrun2:=hgen _ _ hrun;have nf:=new_facts w.drew (cur.take (p*sz)++(Builtin.zeroCells zv.cells k0++Builtin.zeroCells zv.cells (grownCap w (p+k0) c e - (p+k0))).toList) e;have hx1:Ext w (w.drew.alloc (.cells (cur.take (p*sz)++(Builtin.zeroCells zv.cells k0++Builtin.zeroCells zv.cells (grownCap w (p+k0) c e - (p+k0))).toList).toArray e)):=((Below.refl _ _).drew).alloc (Nat.le_refl _) (.cells (cur.take (p*sz)++(Builtin.zeroCells zv.cells k0++Builtin.zeroCells zv.cells (grownCap w (p+k0) c e - (p+k0))).toList).toArray e);have he:((cur.take (p*sz)).toArray++Builtin.zeroCells zv.cells k0++Builtin.zeroCells zv.cells (grownCap w (p+k0) c e - (p+k0)))=(cur.take (p*sz)++(Builtin.zeroCells zv.cells k0++Builtin.zeroCells zv.cells (grownCap w (p+k0) c e - (p+k0))).toList).toArray:=by
   apply Array.ext';simp
  rw[he]at hrun2;have hzc:∀q,(Builtin.zeroCells zv.cells q).toList.length=q*sz:=fun q=>by
   unfold Builtin.zeroCells;rw[i5];simp[hz]
  refine RS.o hrun2 (RS.nil (hK _ _ hx1 ?_)) rfl;rw[hl];refine kk _ _ _ ⟨?_,?_,hge,hcm⟩ _ (M.new hx1 ⟨Nat.le_refl _,nf.2.1⟩)
  ·rw[List.length_append,List.length_take,g3,Nat.min_eq_left (by omega),Array.toList_append,List.length_append,hzc,hzc,←Nat.add_mul,←Nat.add_mul];congr 1;omega
  ·rw[List.take_append_of_le_length (by rw[List.length_take,g3];omega),List.take_take,Nat.min_self,hcp]
theorem J.nilS[U:Und P xt (.slice e)](hk:pureK kd=true)(hx:ev l x= .slice a n c)(hy:ev l y= .slice none 0 0)(kk:J S0 w0 L (RY S0 w0 m P ops K rest l'))(hl:l.set d (.bool a.isNone)=l':=by dsimp only[List.set]):J S0 w0 L (RY S0 w0 m P ops K ((⟨some d, .binOp .eql xt x y yt,ty,pos,af,none⟩,kd)::rest) l):=J.pur hk (fun _=>D.nilS hx hy U.h) kk hl
theorem J.fn{fn:Fn}{first captured:Array Operand}{fs us:List Value}(hk:pureK kd=true)(hf:first.toList.map (ev l)=fs)(hc:captured.toList.map (ev l)=us)(kk:J S0 w0 L (RY S0 w0 m P ops K rest l'))(hl:l.set d (.func fn fs.toArray us.toArray)=l':=by dsimp only[List.set]):J S0 w0 L (RY S0 w0 m P ops K ((⟨some d, .makeFunc fn first captured,ty,pos,af,none⟩,kd)::rest) l):=J.pur hk (fun _=>D.func hf hc) kk hl
theorem J.b0G(f:α→List Value)(hf:∀x,(f x).length=sz)[U:Und P t (.slice e)][I:Inf P e sz by_ zs]{l':Nat→List Value}(hk:okE m kd=true)(kk:∀b,J S0 w0 (.gown f sz e (some ⟨b,0,none⟩) 0 0 []::L) (RY S0 w0 m P ops K rest (l' b)))(hl:∀b,l.set d (.slice (some ⟨b,0,none⟩) 0 0)=l' b:=by intro b;dsimp only[List.set]):
  J S0 w0 L (RY S0 w0 m P ops K ((⟨some d, .buildSlice t 0 #[],ty,pos,af,none⟩,kd)::rest) l):=
 J.eff hk fun w M K' hK => RS.buildNone U.h I.h fun b w' e1 s1 x1 B => RS.nil (hK _ w' x1 (by
  rw [hl]
  exact kk b w' (M.new x1 (gown_blk (lst := []) ⟨by subst e1; exact Nat.le_refl _, B⟩ hf rfl rfl (by decide)))))
theorem GRow.none{S:Nat→Prop}{w:World}(h:GRow f sz S w a n lst)(hz:0<sz)(ha:a.isNone=true):n=0∧lst=[]:=by
 have hn:n=0:=by
  apply Classical.byContradiction;intro hn;obtain⟨q,hq⟩:=h.ex (i:=0) (by omega);obtain⟨b,o,h1,_⟩:=h.get (i:=0) hz hq (by omega);rw[h1]at ha;cases ha
 exact⟨hn,List.eq_nil_of_length_eq_zero (by rw[h.len,hn])⟩
theorem J.ldGa{off s1:Nat}[U:Agg P xt s1](hx:ev l x=pt a (i.toNat*sz+off))(hR:RG S0 w0 (Lv m L) f sz a n lst)(kk:J S0 w0 L (RY S0 w0 m P ops K rest l')){q:α}(hq:lst[i.toNat]? =some q:=by assumption)(hf:((f q).drop off).take s1=vs:=by dsimp only[List.drop,List.take])(hn:vs.length=s1:=by rfl)(ho:Nat.ble (off+s1) sz=true:=by rfl)(hs1:s1≠0:=by decide)(hi:0≤i∧i<n:=by omega)(hl:l.set d (.agg vs.toArray)=l':=by dsimp only[List.set]):
  J S0 w0 L (RY S0 w0 m P ops K ((⟨some d, .load xt x,ty,pos,af,none⟩, .q)::rest) l):=
 J.val (fun w M => by
  obtain ⟨S, h⟩ := hR w M
  have ho := Nat.le_of_ble_eq_true ho
  obtain ⟨b, o', ha, _, hc⟩ := h.get (by omega) hq hi
  obtain ⟨_, u1, u2, u3⟩ := U.h
  refine D.loadAgg (by rw [hx, pt_some ha]) u1 u2 u3 hs1 hn ?_
  intro j hj
  have h1 := hc (off + j) (by rw [h.szf]; omega)
  rw [show o' + i.toNat * sz + (off + j) = o' + (i.toNat * sz + off) + j by omega] at h1
  rw [h1, ← hf]
  simp only [List.getD_eq_getElem?_getD, List.getElem?_take, List.getElem?_drop]
  rw [if_pos (by omega)]) kk hl
theorem J.extv{fi:FuncId}{fn:Func}{args:Array Operand}{av:List Value}{ts:Array TypeId}{E:Array Value→Sem Value}(hf:P.funcs[fi]? =some fn)(hn:(fn.name== "runtime.NumGoroutine")=false)(hb:fn.body.isNone=true)(hnx:Extern.findNext fn=none)(he:Extern.find fn=some E)
  (ha:args.toList.map (ev l)=av)(hr:∀w,Mem S0 w0 (Lv m L) w→(E av.toArray).run P w= .ok v w)(kk:J S0 w0 L (RY S0 w0 m P ops K rest l'))(hl:l.set d v=l':=by dsimp only[List.set]):
  J S0 w0 L (RY S0 w0 m P ops K ((⟨some d, .call {callee:= .value (.func fi),args:=args,argTypes:=ts},ty,pos,af,none⟩, .q)::rest) l):=
 J.val (fun w M=>D.ext hf hn hb hnx he ha (hr w M)) kk hl
theorem RG.blkO(hB:Blk w0 b (f q) T)(hn:¬S0 b)(hf:∀x,(f x).length=sz):RG S0 w0 L f sz (some ⟨b,0,none⟩) 1 [q]:=fun w M=>
 ⟨fun _=>True,GRow.of_blk (hB.pr M.pr hn) trivial (by simp) rfl hf⟩
theorem Mem.two{F1 F2:Ent→List Ent}(M:Mem S0 w0 L w)(e1 e2:Ent)[R:RE L e1 F1][R2:RE (F1 .emp) e2 F2]:∃S1 S2:Nat→Prop,(∀b,S1 b→S2 b→False)∧e1.ok S1 w∧e2.ok S2 w:=by
 obtain⟨S,T,h1,h2,h3,h4,h5⟩:=(R.h .emp).foc M.sep;have hs:Sep (F1 .emp) T w:=h5 (U':=T) (S':=no) (fun b hb=>hb.elim) (fun b hb=>hb) (fun b hb=>hb.elim) (fun _ _ _=>rfl) trivial;obtain⟨S2,T2,g1,g2,g3,g4,g5⟩:=(R2.h e2).foc hs;exact⟨S,S2,fun b hb hc=>h3 b hb (g1 b hc),h4,g4⟩
end
/-! records that are built, part by part -/
inductive EvP(l:List Value):List (Nat×Operand)→List (Nat×Value)→List (Nat×List Value)→Prop
 |nil:EvP l [] [] []
 |cons {i:Nat} {x:Operand} {v:Value} {vs:List Value} {r:List (Nat×Operand)} {ps:List (Nat×Value)} {qs:List (Nat×List Value)} (h:ev l x=v) (hc:v.cells=vs.toArray) (t:EvP l r ps qs):EvP l ((i,x)::r) ((i,v)::ps) ((i,vs)::qs)
def ofS:List (Nat×Nat)→Nat→Nat
 |[],_=>0
 |x::_,0=>x.1
 |_::r,n+1=>ofS r n
theorem ofS_eq:∀(pl:List (Nat×Nat)) (i:Nat),ofS pl i=(pl.getD i (0,0)).1
 |[],_=>by simp[ofS]
 |_::_,0=>rfl
 |_::r,n+1=>by rw[ofS,ofS_eq r n];simp[List.getD_eq_getElem?_getD]
def fillS(pl:List (Nat×Nat))(cs:List Value):List (Nat×List Value)→List Value
 |[]=>cs
 |(i,vs)::r=>fillS pl (splice cs (ofS pl i) vs) r
def fillO(pl:List (Nat×Nat))(n:Nat):List (Nat×List Value)→Bool
 |[]=>true
 |(i,vs)::r=>(Nat.blt i pl.length&&(Nat.beq vs.length (pl.getD i (0,0)).2&&Nat.ble ((pl.getD i (0,0)).1+vs.length) n))&&fillO pl n r
theorem EvP.fill{l:List Value}{pl:List (Nat×Nat)}{r:List (Nat×Operand)}{ps:List (Nat×Value)}{qs:List (Nat×List Value)}(h:EvP l r ps qs):r.map (fun p=>(p.1,ev l p.2))=ps∧∀cs:List Value,fillO pl cs.length qs=true→fillL pl cs ps=some (fillS pl cs qs):=by
 induction h with
 |nil=>exact⟨rfl,fun cs _=>rfl⟩
 | @cons i x v vs r ps qs h hc _ ih=>
  refine⟨by rw[List.map_cons,ih.1,h],fun cs ho=>?_⟩;unfold fillO at ho;rw[Bool.and_eq_true,Bool.and_eq_true,Bool.and_eq_true]at ho;obtain⟨⟨h1,h2,h3⟩,h4⟩:=ho;have hi:i<pl.length:=by rw[Nat.blt_eq]at h1;exact h1
  have hg:pl[i]? =some (pl.getD i (0,0)):=by rw[List.getD_eq_getElem?_getD,List.getElem?_eq_getElem hi];rfl
  unfold fillL fillS;rw[hg,ofS_eq];have hsz:v.cells.size=vs.length:=by rw[hc];simp
  simp only[hsz];rw[if_pos (by rw[h2,h3];rfl),show v.cells.toList=vs by rw[hc]];exact ih.2 _ (by rw[splice_length];exact h4)
theorem J.bd{S0:Nat→Prop}{w0:World}{L:List Ent}{P:Program}{ops:Array Oper}{K:List Value→World→Prop}{rest:List (Oper×Kd)}{l l':List Value}{m:Md}{d:Tmp}{ty xt:TypeId}{pos:String}{af:Array Edge}{kd:Kd}
  {parts:Array (Nat×Operand)}{pl:List (Nat×Nat)}{sz by_:Nat}{zs cs:List Value}{ps:List (Nat×Value)}{qs:List (Nat×List Value)}[I:Inf P xt sz by_ zs][I2:SInf P xt pl](hk:pureK kd=true)(kk:J S0 w0 L (RY S0 w0 m P ops K rest l'))
  (hv:EvP l parts.toList ps qs:=by repeat(first|exact EvP.nil|(apply EvP.cons;(· ((conv=>lhs;whnf)<;>rfl));(· rfl))))(ho:fillO pl zs.length qs=true:=by rfl)(hf:fillS pl zs qs=cs:=by dsimp only[fillS,ofS,splice,List.set,Nat.reduceAdd])(hl:l.set d (.agg cs.toArray)=l':=by dsimp only[List.set]):
  J S0 w0 L (RY S0 w0 m P ops K ((⟨some d, .build xt parts,ty,pos,af,none⟩,kd)::rest) l):=
 J.bs hk (hv.fill (pl:=pl)).1 kk (by rw[←hf];exact(hv.fill (pl:=pl)).2 zs ho) hl
def Gw{β:Type}(w:World)(f:β→List Value)(sz:Nat)(e:TypeId)(a:Option Addr)(lst:List β)(nd:Ending)(w':World):Prop:=
 ∃a' c',nd= .returned (.slice a' lst.length c')∧Pr (fun b=>obk a=some b) w w'∧GOwn f sz 0 w' e a' lst.length c' lst∧∀b,obk a'=some b→obk a=some b∨w.heap.size≤b
section
variable{S0:Nat→Prop}{w0 w:World}{L:List Ent}{P:Program}{ops:Array Oper}{K:List Value→World→Prop}{rest:List (Oper×Kd)}{l:List Value}{m:Md}{d:Tmp}{ty:TypeId}{pos:String}{af:Array Edge}{kd:Kd}{β:Type}{f:β→List Value}{sz n c:Nat}{e:TypeId}{a:Option Addr}{lst lst':List β}{F:Option Addr→Nat→Nat→List β→List Ent}{fi:FuncId}{args:Array Operand}{av:List Value}{ts:Array TypeId}
theorem J.callG{l':Option Addr→Nat→List Value}[E:Ents P fi](ha:args.toList.map (ev l)=av)[R:GO L a f sz e n c lst F](h:∀w,Mem S0 w0 L w→GOwn f sz 0 w e a n c lst→Calls P fi av.toArray w (Gw w f sz e a lst'))
  (k:∀a' c',J S0 w0 (F a' lst'.length c' lst') (RY S0 w0 m P ops K rest (l' a' c')))(hl:∀a' c',l.set d (.slice a' lst'.length c')=l' a' c':=by intro a' c';dsimp only[List.set])(hk:∀a' c',okG m kd (F a' lst'.length c' lst'):=by first|exact fun _ _=>trivial|(intro _ _;repeat(first|exact List.Sublist.refl _|refine List.Sublist.cons_cons _ ?_|refine List.Sublist.cons _ ?_))):
  J S0 w0 L (RY S0 w0 m P ops K ((⟨some d, .call {callee:= .value (.func fi),args:=args,argTypes:=ts},ty,pos,af,none⟩,kd)::rest) l):=
 J.bigs (ι:=Option Addr×Nat) (Ls:=fun i=>F i.1 lst'.length i.2 lst') (none,0) (fun i=>hk i.1 i.2) fun w M K' hK=>by
  obtain⟨S,_,q1⟩:=M.get (R.h a n c lst).same;refine RS.callx E.h (h w M q1.1) ha fun nd w' hR=>?_
  obtain⟨a',c',h1,h2,h3,h4⟩:=hR;refine⟨_,h1,RS.nil ?_⟩;obtain⟨S2,g1,g2,g3⟩:=M.foc (R.h a' lst'.length c' lst');have M':=g3 w' (fun b=>obk a'=some b) (h2.mono fun b hb=>g2.2 b hb) ⟨h3,fun b hb=>hb⟩ fun b hb=>(h4 b hb).imp_left (g2.2 b);refine hK _ w' (a',c') M' ?_;rw[hl];exact k a' c' w' M'
theorem J.enterG{fn:Func}{c0:Code}{R:Ending→World→Prop}(u:Nat)(hO:GOwn f sz 0 w0 e a n c lst)(hf:P.funcs[fi]? =some fn)(hb:fn.body=some c0)(hu:fn.ntmps - av.length=u)(h:J (fun b=>obk a=some b) w0 [.gown f sz e a n c lst] (c0.wp P (bodyPost P fn R) (fr l)))(hl:av++List.replicate u undef=l:=by dsimp only[List.reduceReplicate,List.cons_append,List.nil_append]):Calls P fi av.toArray w0 R:=
 enterU u hf hb hu (h w0 ⟨Pr.refl _ _,_,no,fun b hb=> .inl hb,fun b hb=>hb.elim,fun b _ hb=>hb,⟨hO,fun b hb=>hb⟩,trivial⟩) hl
theorem J.finW{a':Option Addr}{n' c':Nat}{v:Value}[R:GO L a' f sz e n' c' lst' F](hv:v= .slice a' n' c'):J (fun b=>obk a=some b) w0 L (Gw w0 f sz e a lst' (.returned v)):=fun w M=>by
 obtain⟨S,h1,h2⟩:=M.get (R.h a' n' c' lst').same;obtain rfl:=h2.1.len;exact⟨a',c',by rw[hv],M.pr,h2.1,fun b hb=>(h1 b (h2.2 b hb)).1⟩
end
end G
namespace G
open Go.RowKit
section
variable{S0:Nat→Prop}{w0:World}{L:List Ent}{X:World→Prop}
variable{m:Md}{P:Program}{ops:Array Oper}{K:List Value→World→Prop}{rest:List (Oper×Kd)}{l:List Value}{dd:Option Tmp}{ty:TypeId}{pos:String}{af:Array Edge}{kd:Kd}{g:Option (Nat×Bool)}
theorem J.tm{x:Operand}(h:J S0 w0 L (RY S0 w0 m P ops K ((⟨dd, .move x,ty,pos,af,none⟩,kd)::rest) l)):J S0 w0 L (RY S0 w0 m P ops K ((⟨dd, .move x,ty,pos,af,none⟩,kd)::rest) l):=h
theorem J.ta{x:Operand}(h:J S0 w0 L (RY S0 w0 m P ops K ((⟨dd, .assign x,ty,pos,af,none⟩,kd)::rest) l)):J S0 w0 L (RY S0 w0 m P ops K ((⟨dd, .assign x,ty,pos,af,none⟩,kd)::rest) l):=h
theorem J.tb(b:BinOp){xt yt:TypeId}{x y:Operand}(h:J S0 w0 L (RY S0 w0 m P ops K ((⟨dd, .binOp b xt x y yt,ty,pos,af,none⟩,kd)::rest) l)):J S0 w0 L (RY S0 w0 m P ops K ((⟨dd, .binOp b xt x y yt,ty,pos,af,none⟩,kd)::rest) l):=h
theorem J.tl{xt:TypeId}{x:Operand}(h:J S0 w0 L (RY S0 w0 m P ops K ((⟨dd, .load xt x,ty,pos,af,none⟩,kd)::rest) l)):J S0 w0 L (RY S0 w0 m P ops K ((⟨dd, .load xt x,ty,pos,af,none⟩,kd)::rest) l):=h
theorem J.ts{xt:TypeId}{x y:Operand}(h:J S0 w0 L (RY S0 w0 m P ops K ((⟨dd, .store xt x y,ty,pos,af,none⟩,kd)::rest) l)):J S0 w0 L (RY S0 w0 m P ops K ((⟨dd, .store xt x y,ty,pos,af,none⟩,kd)::rest) l):=h
theorem J.tf{xt:TypeId}{x:Operand}{i:Nat}(h:J S0 w0 L (RY S0 w0 m P ops K ((⟨dd, .fieldAddr xt x i,ty,pos,af,none⟩,kd)::rest) l)):J S0 w0 L (RY S0 w0 m P ops K ((⟨dd, .fieldAddr xt x i,ty,pos,af,none⟩,kd)::rest) l):=h
theorem J.tx{x:Operand}{i:Nat}(h:J S0 w0 L (RY S0 w0 m P ops K ((⟨dd, .extract x i,ty,pos,af,none⟩,kd)::rest) l)):J S0 w0 L (RY S0 w0 m P ops K ((⟨dd, .extract x i,ty,pos,af,none⟩,kd)::rest) l):=h
theorem J.tc(bi:Builtin){args:Array Operand}{ts:Array TypeId}(h:J S0 w0 L (RY S0 w0 m P ops K ((⟨dd, .call {callee:= .builtin bi,args:=args,argTypes:=ts},ty,pos,af,none⟩,kd)::rest) l)):J S0 w0 L (RY S0 w0 m P ops K ((⟨dd, .call {callee:= .builtin bi,args:=args,argTypes:=ts},ty,pos,af,none⟩,kd)::rest) l):=h
theorem J.ti{xt:TypeId}{x y:Operand}(h:J S0 w0 L (RY S0 w0 m P ops K ((⟨dd, .indexAddr xt x y,ty,pos,af,none⟩,kd)::rest) l)):J S0 w0 L (RY S0 w0 m P ops K ((⟨dd, .indexAddr xt x y,ty,pos,af,none⟩,kd)::rest) l):=h
theorem J.tu{b:UnOp}{xt:TypeId}{x:Operand}(h:J S0 w0 L (RY S0 w0 m P ops K ((⟨dd, .unOp b xt x,ty,pos,af,none⟩,kd)::rest) l)):J S0 w0 L (RY S0 w0 m P ops K ((⟨dd, .unOp b xt x,ty,pos,af,none⟩,kd)::rest) l):=h
theorem J.tp{x y z:Operand}(h:J S0 w0 L (RY S0 w0 m P ops K ((⟨dd, .pick x y z,ty,pos,af,none⟩,kd)::rest) l)):J S0 w0 L (RY S0 w0 m P ops K ((⟨dd, .pick x y z,ty,pos,af,none⟩,kd)::rest) l):=h
theorem J.tv{xt yt:TypeId}{x:Operand}(h:J S0 w0 L (RY S0 w0 m P ops K ((⟨dd, .convert xt yt x,ty,pos,af,none⟩,kd)::rest) l)):J S0 w0 L (RY S0 w0 m P ops K ((⟨dd, .convert xt yt x,ty,pos,af,none⟩,kd)::rest) l):=h
theorem J.tq{xt:TypeId}{x:Operand}{lo hi:Option Operand}(h:J S0 w0 L (RY S0 w0 m P ops K ((⟨dd, .slice xt x lo hi none,ty,pos,af,none⟩,kd)::rest) l)):J S0 w0 L (RY S0 w0 m P ops K ((⟨dd, .slice xt x lo hi none,ty,pos,af,none⟩,kd)::rest) l):=h
theorem J.td{xt:TypeId}{ps:Array (Nat×Operand)}(h:J S0 w0 L (RY S0 w0 m P ops K ((⟨dd, .build xt ps,ty,pos,af,none⟩,kd)::rest) l)):J S0 w0 L (RY S0 w0 m P ops K ((⟨dd, .build xt ps,ty,pos,af,none⟩,kd)::rest) l):=h
theorem J.tg{op:Op}{j:Nat}{t:Bool}(h:J S0 w0 L (RY S0 w0 m P ops K ((⟨dd,op,ty,pos,af,some (j,t)⟩,kd)::rest) l)):J S0 w0 L (RY S0 w0 m P ops K ((⟨dd,op,ty,pos,af,some (j,t)⟩,kd)::rest) l):=h
theorem J.tr{op:Oper}(h:J S0 w0 L (RY S0 w0 m P ops K ((op,kd)::rest) l)):J S0 w0 L (RY S0 w0 m P ops K ((op,kd)::rest) l):=h
theorem ex{α:Type}(a:α):∃z,z=a:=⟨a,rfl⟩
structure Hold(q:Prop):Prop where out:q
theorem run {q : Prop} (k : q) (h : Hold q → J S0 w0 L X := by
 intro k
 repeat (first
  | (refine J.tr ?_; first
   | (refine J.tm ?_; refine J.mv rfl ?_)
   | (refine J.ta ?_; refine J.as rfl ?_)
   | (refine J.tf ?_; first | refine J.fl rfl rfl ?_ | refine J.flG rfl (by first | exact RG.own' | exact RG.arg (by assumption) | exact RG.row') ?_ | refine J.flGG rfl (by first | exact RG.own' | exact RG.arg (by assumption) | exact RG.row') ?_)
   | (refine J.tl ?_; first | refine J.ld rfl ?_ | refine J.lda rfl ?_ | refine J.ldI rfl (by first | exact RI.own' | exact RI.arg (by assumption) | exact RI.row') ?_ | refine J.ldW rfl (by first | exact RW.own' | exact RW.arg (by assumption) | exact RW.row') ?_ | refine J.ldG rfl (by first | exact RG.own' | exact RG.arg (by assumption) | exact RG.row') ?_ | refine J.ldGf rfl (by first | exact RG.own' | exact RG.arg (by assumption) | exact RG.row') ?_ | refine J.ldG1 rfl (by first | exact RG.own' | exact RG.arg (by assumption) | exact RG.row') ?_ | refine J.ldGa rfl (by first | exact RG.own' | exact RG.arg (by assumption) | exact RG.row') ?_ | refine J.ldp rfl ?_)
   | (refine J.tb .lss ?_; first | refine J.lt rfl rfl rfl ?_ | refine J.slt rfl rfl rfl ?_)
   | (refine J.tb .eql ?_; first | refine J.eq rfl rfl rfl ?_ | refine J.seq rfl rfl rfl ?_ | refine J.eqb rfl rfl rfl ?_ | refine J.eqI rfl rfl rfl ?_ | refine J.nilS rfl rfl rfl ?_)
   | (refine J.tb .neq ?_; first | refine J.ne rfl rfl rfl ?_ | refine J.sne rfl rfl rfl ?_ | refine J.neb rfl rfl rfl ?_ | refine J.neI rfl rfl rfl ?_)
   | (refine J.tb .add ?_; refine J.add rfl rfl rfl ?_)
   | (refine J.tb .geq ?_; first | refine J.ge rfl rfl rfl ?_ | refine J.sge rfl rfl rfl ?_)
   | (refine J.tb .gtr ?_; first | refine J.gt rfl rfl rfl ?_ | refine J.sgt rfl rfl rfl ?_)
   | (refine J.tb .leq ?_; first | refine J.le rfl rfl rfl ?_ | refine J.sle rfl rfl rfl ?_)
   | (refine J.tb .sub ?_; refine J.sub rfl rfl rfl ?_)
   | (refine J.tx ?_; refine J.ex rfl rfl ?_)
   | (refine J.tc .len ?_; first | refine J.ln rfl rfl ?_ | refine J.lns rfl rfl ?_)
   | (refine J.ti ?_; first | refine J.idxI rfl rfl (by first | exact RI.own' | exact RI.arg (by assumption) | exact RI.row') ?_ | refine J.idxW rfl rfl (by first | exact RW.own' | exact RW.arg (by assumption) | exact RW.row') ?_ | refine J.idxG rfl rfl (by first | exact RG.own' | exact RG.arg (by assumption) | exact RG.row') ?_ | refine J.idxS rfl rfl rfl ?_)
   | (refine J.ts ?_; first | refine J.st rfl ?_ | refine J.staw rfl rfl ?_ | refine J.sta rfl rfl ?_ | refine J.stI rfl rfl ?_)
   | (refine J.tg ?_; first | refine J.want rfl rfl rfl ?_ | refine J.skipg rfl rfl rfl rfl ?_ | refine J.skipu rfl rfl rfl ?_)
   | (refine J.tk ?_; refine J.nc rfl rfl ?_)
   | (refine J.tu ?_; refine J.not rfl rfl ?_)
   | (refine J.tp ?_; refine J.pk rfl rfl ?_)
   | (refine J.tv ?_; refine J.cv rfl rfl ?_)
   | (refine J.td ?_; first | refine J.bd rfl ?_ | refine J.bs rfl rfl ?_)
   | (refine J.tq ?_; first | refine J.slT rfl rfl rfl ?_ | refine J.slP rfl rfl rfl ?_ | refine J.sl rfl rfl rfl rfl ?_ | refine J.slA rfl rfl ?_)
   | (refine J.tc .cap ?_; refine J.cp rfl rfl ?_)
   | (refine J.tz ?_; refine J.fz rfl rfl ?_)
   | (refine J.tc .max ?_; refine J.mx rfl rfl rfl ?_)
   | (refine J.tb .shr ?_; refine J.shr rfl rfl rfl ?_)
   | (refine J.tb .mul ?_; refine J.mul rfl rfl rfl ?_)
   | (refine J.tb .quo ?_; refine J.quo rfl rfl rfl ?_)
   | (refine J.tb .rem ?_; refine J.rem rfl rfl rfl ?_))
  | refine J.nilN ?_
  | refine J.thn ?_
  | refine J.sq ?_
  | refine J.region ?_
  | refine J.ift rfl ?_
  | refine J.iff rfl ?_
  | refine J.block ?_
  | refine J.skip ?_
  | refine J.exit ?_
  | refine J.the ?_
  | refine J.ibe ?_
  | refine J.ibn ?_
  | refine J.ibx rfl ?_
  | refine J.retc ?_
  | refine J.thr ?_
  | refine J.ibr ?_
  | refine J.retN ?_
  | (refine J.tret ?_; first | refine J.ret1 rfl ?_ | refine J.ret2 rfl ?_ | refine J.ret3 rfl ?_ | refine J.ret4 rfl ?_ | refine J.ret0 rfl ?_)
  | refine J.tfin ?_
  | refine J.tbr ?_
  | (refine J.nil ?_; refine J.kr ?_))
 exact k.out) : J S0 w0 L X := h ⟨k⟩
end
end G
namespace W
open Go.RowKit G
theorem tup2{a a' b b':Value}(h:a=a')(k:b=b'):Value.tuple #[a,b]= .tuple #[a',b']:=by rw[h,k]
theorem beq_dec{a b:Int}{p:Prop}[Decidable p](h:a=b↔p):(a==b)=decide p:=by rw[Bool.eq_iff_iff];simpa using h
structure OpA where
 (o:S.OpV)(pa:Option Addr)(pc:Nat)
@[reducible] def opC(z:OpA):List Value:=[.int .u32 z.o.au, .slice z.pa z.o.n z.pc, .int .u64 z.o.st, .int .u8 z.o.k, .string z.o.key, .int .u8 z.o.vk, .int .i64 z.o.num, .int .u64 z.o.bits, .string z.o.t, .int .u32 z.o.e, .int .u32 z.o.s]
@[reducible] def opI(z:OpA):List Inn:=[⟨.u8,32,z.pa,z.o.n,z.pc,z.o.ids⟩]
structure OpR(S0:Nat→Prop)(w:World)(z:OpA):Prop where
 ok:z.o.ok
 row:WRow .u8 32 S0 w z.pa z.o.n z.o.ids
 cap:z.o.n≤z.pc
structure GrA where
 (ia oa:Option Addr)(m n ic oc:Nat)(ids:List Int)(zs:List OpA)
@[reducible] def grC(g:GrA):List Value:=[.slice g.ia g.m g.ic, .slice g.oa g.n g.oc]
def GrA.ops(g:GrA):List S.OpV:=g.zs.map OpA.o
structure GrR(S0:Nat→Prop)(w:World)(g:GrA):Prop where
 ids:WRow .u8 32 S0 w g.ia g.m g.ids
 ops:GRow opC 11 S0 w g.oa g.n g.zs
 inn:Inns opI S0 w g.zs
 ok:∀z∈g.zs,z.o.ok
 cap:g.m≤g.ic∧g.n≤g.oc∧g.m≤70∧g.n≤70
section
variable{S0:Nat→Prop}{w w':World}{z:OpA}{g:GrA}
theorem OpR.ext(h:OpR S0 w z)(x:Ext w w'):OpR S0 w' z:=⟨h.ok,h.row.ext x,h.cap⟩
theorem GrR.ext(h:GrR S0 w g)(x:Ext w w'):GrR S0 w' g:=⟨h.ids.ext x,h.ops.ext x,h.inn.ext x,h.ok,h.cap⟩
theorem GrR.op(h:GrR S0 w g){i:Nat}(hz:g.zs[i]? =some z):OpR S0 w z:=
 have hm:=List.mem_of_getElem? hz;have h1:=h.inn z hm ⟨.u8,32,z.pa,z.o.n,z.pc,z.o.ids⟩ (List.mem_singleton.2 rfl)
 ⟨h.ok z hm,h1.1,h1.2⟩
theorem GrR.len(h:GrR S0 w g):g.ops.length=g.n:=(List.length_map _).trans h.ops.len
theorem GrA.opAt{i:Nat}(hz:g.zs[i]? =some z):g.ops.getD i S.OpV.zero=z.o:=by
 unfold GrA.ops;rw[List.getD_eq_getElem?_getD,List.getElem?_map,hz];rfl
end
end W
namespace W
open Go.RowKit G
set_option maxRecDepth 20000
set_option maxHeartbeats 8000000
attribute [local irreducible] RS RX RY Code.wp bodyPost J Ent.blk Ent.iown Ent.wrow Ent.wown Ent.gown Ent.all Ent.emp
instance:Und prog 25 (.slice 23):=⟨underlying25⟩
instance:Und prog 3 (.int .i64):=⟨underlying3⟩
instance:Und prog 137 (.int .u64):=⟨underlying137⟩
instance:Siz prog 23 32:=⟨by kernel_rfl⟩
instance:Agg prog 23 32:=⟨_,underlying23,rfl,by kernel_rfl⟩
instance:Und prog 23 (.array 32 5):=⟨underlying23⟩
instance:Ents prog 89:=⟨.mk func89 (by kernel_rfl) rfl⟩
instance:Fld prog 65 0 0:=⟨_,_,1,underlying65,rfl,by kernel_rfl,by decide,rfl⟩
instance:Sca prog 25:=⟨_,underlying25,rfl⟩
instance:Ents prog 102:=⟨.mk func102 (by kernel_rfl) rfl⟩
theorem bsID{S0:Nat→Prop}(a:Option Addr)(n c:Nat)(ids x:List Int)(w:World)(D0:WRow .u8 32 S0 w a n ids)(hx:Arr .u8 32 x)(hr:S.Rising n ids)(hn:n≤70):
  Calls prog 102 #[.slice a n c, .agg (ints .u8 x).toArray, .func (.func 89) #[] #[]] w (Ret w fun v _=>v= .tuple #[.int .i64 (S.spotS n ids x:Nat), .bool (decide (S.inS n ids x))]):=by
 refine J.enter 46 func102 rfl rfl ?_;refine run ?_;refine J.box rfl rfl rfl fun b1=>?_
 refine run ?_;refine J.loopS (A:=Int×Int) (fun p=>[(9, .int .i64 p.1),(10, .int .i64 p.2)]) [11,15,16,17,18,19,20,21,22,23,24,25,26,27,28,29,30,31,32,33,34] (fun p=>S.HalfC n (fun i=>S.cmpS (S.idAt ids i) x) p.1 p.2) (fun p=>(p.2 - p.1).toNat) (0,n) (by kernel_rfl) (S.HalfC.first _ _) (fun p j hI=>?_);have hh:=hI.r;refine run ?_;refine J.ifd rfl (fun c1=>?_) (fun c1=>?_)
 ·refine run ?_;refine J.regionX [(0, .q),(1, .q),(2, .q),(3, .q),(4, .q),(5, .q),(6, .e),(7, .q)] mixed (by kernel_rfl) ?_;refine run ?_;refine J.callvp rfl rfl rfl (fun w' M=>dcmp _ _ (D0.elt_arr (by omega)) hx w') ?_;refine run ?_;refine J.ifd rfl (fun c2=>?_) (fun c2=>?_)
  ·refine run ?_;exact J.nextS ((p.1+p.2) / 2+1,p.2) ⟨rfl,rfl,trivial⟩ (by kernel_rfl) (hI.up (S.mono_ids hr) (by omega) (by omega) c2) (by dsimp only;omega)
  refine run ?_;exact J.nextS (p.1,(p.1+p.2) / 2) ⟨rfl,rfl,trivial⟩ (by kernel_rfl) (hI.down (S.mono_ids hr) (by omega) (by omega) c2) (by dsimp only;omega)
 have he:p.1=(S.spotS n ids x:Nat):=hI.spot c1;have hs:=S.spotS_has (x:=x) hr;refine run ?_;refine J.regionX [(0, .q),(1, .q),(2, .q),(3, .q),(4, .q),(5, .q),(6, .q),(7, .q),(8, .q),(9, .q),(10, .q),(11, .e),(12, .q),(13, .q),(14, .q),(15, .q)] mixed (by kernel_rfl) ?_;refine run ?_;refine J.spd rfl rfl rfl (fun c2=>?_) (fun c2=>?_)
 ·refine run ?_;refine J.callvp rfl rfl rfl (fun w' M=>dcmp _ _ (D0.elt_arr (by omega)) hx w') ?_;refine run ?_;refine J.fin ?_;rw[he];exact tup2 rfl (congrArg _ (beq_dec ⟨fun h=>hs.2 ⟨by omega,h⟩,fun h=>(hs.1 h).2⟩))
 refine run ?_;refine J.fin ?_;rw[he];exact tup2 rfl (congrArg _ (decide_eq_false fun h=>by have:=(hs.1 h).1;omega).symm)
theorem dagFind{S0:Nat→Prop}(g:GrA)(x:List Int)(w:World)(D0:WRow .u8 32 S0 w g.ia g.m g.ids)(hx:Arr .u8 32 x)(hr:S.Rising g.m g.ids)(hn:g.m≤70):
  Calls prog 86 #[.agg (grC g).toArray, .agg (ints .u8 x).toArray] w (Ret w fun v _=>v= .tuple #[.int .i64 (S.spotS g.m g.ids x:Nat), .bool (decide (S.inS g.m g.ids x))]):=by
 refine J.enter 10 func86 rfl rfl ?_;refine run ?_;refine J.box rfl rfl rfl fun b1=>?_
 refine run ?_;refine J.box rfl rfl rfl fun b2=>?_
 refine run ?_;refine J.callp rfl rfl (fun w' M=>bsID _ _ _ _ _ _ (D0.ext M.ext) hx hr hn) ?_;refine run ?_;exact J.fin rfl
end W
end Go.Proofs.YtjjbdaiioociaaaGreatDoor
