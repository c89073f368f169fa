/-
  Part 11 of the lemmas of these laws: LwwNames.
-/
import Derived.Test.YtkibkhgcbepolaaGreatDoorPLn10
set_option linter.unusedVariables false
set_option linter.unusedSimpArgs false
open Go.Proofs.Tryz
namespace Go.Proofs.YtkibkhgcbepolaaGreatDoor
namespace G
open Go.RowKit
class LenC(vs:List Value)(n:outParam Nat):Prop where
 h:vs.length=n
 c:vs.all cellB=true
def Ent.blk(b:Nat)(cs:List Value)(T:TypeId):Ent:=
 ⟨fun S w=>S b∧Blk w b cs T,fun {S w w'} h k=>⟨h.1,by unfold Blk;rw[k b h.1 h.2.lt];exact h.2⟩,fun {S T w} h k=>⟨k b h.2.lt h.1,h.2⟩⟩
theorem Rpl.same{L L':List Ent}{e e':Ent}(h:Rpl L e e' L'):Rpl L e e L:=by
 induction h with
 |here=>exact .here
 |there _ ih=>exact .there ih
class RB(L:List Ent)(b:Nat)(cs:outParam (List Value))(T:outParam TypeId)(F:outParam (List Value→List Ent)):Prop where h:∀cs',Rpl L (.blk b cs T) (.blk b cs' T) (F cs')
instance RB.here{b:Nat}{cs:List Value}{T:TypeId}{L:List Ent}:RB (.blk b cs T::L) b cs T (fun cs'=> .blk b cs' T::L):=⟨fun _=> .here⟩
instance(priority:=low) RB.there{b:Nat}{cs:List Value}{T:TypeId}{L:List Ent}{x:Ent}{F:List Value→List Ent}[R:RB L b cs T F]:RB (x::L) b cs T (fun cs'=>x::F cs'):=⟨fun cs'=> .there (R.h cs')⟩
def Ent.iown(e:TypeId)(k:IntKind)(a:Option Addr)(n c:Nat)(xs:List Int):Ent:=
 ⟨fun S w=>IOwn 0 w e k a n c xs∧∀b,obk a=some b→S b,fun h x=>⟨⟨h.1.own.step fun b hb=>x b (h.2 b hb),h.1.bd⟩,h.2⟩,fun h x=>⟨h.1,fun b hb=>x b (h.1.own.lo b hb).2 (h.2 b hb)⟩⟩
def Ent.wrow(k:IntKind)(sz:Nat)(a:Option Addr)(n:Nat)(xs:List Int):Ent:=
 ⟨fun S w=>WRow k sz S w a n xs,fun h x=>⟨h.row.step x,h.len,h.bd⟩,fun h x=>h.weaken x⟩
def Ent.wown(e:TypeId)(k:IntKind)(sz:Nat)(a:Option Addr)(n c:Nat)(xs:List Int):Ent:=
 ⟨fun S w=>WOwn 0 w e k sz a n c xs∧∀b,obk a=some b→S b,fun h x=>⟨⟨h.1.own.step fun b hb=>x b (h.2 b hb),h.1.bd⟩,h.2⟩,fun h x=>⟨h.1,fun b hb=>x b (h.1.own.lo b hb).2 (h.2 b hb)⟩⟩
section
variable{S0 S:Nat→Prop}{w0 w:World}{L L':List Ent}{b n c sz:Nat}{cs:List Value}{T e:TypeId}{k:IntKind}{a:Option Addr}{xs:List Int}{α:Type}{f:α→List Value}{g:α→List Inn}{lst:List α}
theorem Mem.blk(M:Mem S0 w0 L w)(r:Rpl L (.blk b cs T) (.blk b cs T) L):Blk w b cs T:=let ⟨_,_,h⟩:=M.get r;h.2
/-! rows that can be read -/
def RI(S0:Nat→Prop)(w0:World)(L:List Ent)(k:IntKind)(a:Option Addr)(n:Nat)(xs:List Int):Prop:=∀w,Mem S0 w0 L w→∃S,IRow k S w a n xs
def RW(S0:Nat→Prop)(w0:World)(L:List Ent)(k:IntKind)(sz:Nat)(a:Option Addr)(n:Nat)(xs:List Int):Prop:=∀w,Mem S0 w0 L w→∃S,WRow k sz S w a n xs
def RG{α:Type}(S0:Nat→Prop)(w0:World)(L:List Ent)(f:α→List Value)(sz:Nat)(a:Option Addr)(n:Nat)(lst:List α):Prop:=∀w,Mem S0 w0 L w→∃S,GRow f sz S w a n lst
theorem RI.own(r:Rpl L (.iown e k a n c xs) (.iown e k a n c xs) L):RI S0 w0 L k a n xs:=fun w M=>let ⟨S,_,h⟩:=M.get r;⟨_,h.1.row⟩
theorem RW.arg(h:WRow k sz S w0 a n xs):RW no w0 L k sz a n xs:=fun w M=>⟨S,h.ext M.ext⟩
theorem RW.row(r:Rpl L (.wrow k sz a n xs) (.wrow k sz a n xs) L):RW S0 w0 L k sz a n xs:=fun w M=>let ⟨S,_,h⟩:=M.get r;⟨S,h⟩
theorem RW.own(r:Rpl L (.wown e k sz a n c xs) (.wown e k sz a n c xs) L):RW S0 w0 L k sz a n xs:=fun w M=>let ⟨S,_,h⟩:=M.get r;⟨_,h.1.row⟩
theorem RG.arg(h:GRow f sz S w0 a n lst):RG no w0 L f sz a n lst:=fun w M=>⟨S,h.ext M.ext⟩
end
section
variable{S0:Nat→Prop}{w0:World}{L L' E:List Ent}{P:Program}{l0:List Oper}{ops:Array Oper}{K:List Value→World→Prop}{rest:List (Oper×Kd)}{l l':List Value}{m:Md}{d:Tmp}{op:Op}{ty:TypeId}{pos:String}{af:Array Edge}{kd:Kd}{v:Value}{x y z:Operand}{xt yt e T:TypeId}{b o n c sz by_:Nat}{cs cs' vs zs:List Value}{ed:TypeDesc}
 {k ki:IntKind}{a:Option Addr}{xs:List Int}{i:Int}{α:Type}{f:α→List Value}{lst:List α}
theorem J.alloc[I:Inf P e sz by_ zs]{l':Nat→List Value}(hk:okE m kd=true)(k:∀b,J S0 w0 (.blk b zs e::L) (RY S0 w0 m P ops K rest (l' b)))(hl:∀b,l.set d (.pointer (some ⟨b,0,none⟩))=l' b:=by intro b;dsimp only[List.set]):
  J S0 w0 L (RY S0 w0 m P ops K ((⟨some d, .alloc e,ty,pos,af,none⟩,kd)::rest) l):=J.eff hk fun w M K' hK=>RS.alloc I.h fun b w' e1 s1 x1 B=>RS.nil (hK _ w' x1 (by rw[hl];exact k b w' (M.new x1 ⟨by subst e1;exact Nat.le_refl _,B⟩)))
theorem J.box{l':Nat→List Value}(hk:okE m kd=true)(hx:ev l x=v)(hc:v.cells=cs.toArray)(k:∀b,J S0 w0 (.blk b cs e::L) (RY S0 w0 m P ops K rest (l' b)))(hl:∀b,l.set d (.pointer (some ⟨b,0,none⟩))=l' b:=by intro b;dsimp only[List.set]):
  J S0 w0 L (RY S0 w0 m P ops K ((⟨some d, .box e x,ty,pos,af,none⟩,kd)::rest) l):=J.eff hk fun w M K' hK=>RS.box hx hc fun b w' e1 s1 x1 B=>RS.nil (hK _ w' x1 (by rw[hl];exact k b w' (M.new x1 ⟨by subst e1;exact Nat.le_refl _,B⟩)))
theorem Mem.store{w w':World}(M:Mem S0 w0 L w)(r:Rpl L (.blk b cs T) (.blk b cs' T) L')(x:St b w w')(B:Blk w' b cs' T):Mem S0 w0 L' w':=by
 obtain⟨S,h1,h2,h3⟩:=M.foc r;exact h3 w' S ⟨x.os,x.tape,x.output,by rw[x.size];exact Nat.le_refl _,fun q _ hq=>x.block q fun e=>hq (e▸h2.1)⟩ ⟨h2.1,B⟩ fun _ hb=> .inl hb
theorem J.st[Z:Siz P xt 1]{F:List Value→List Ent}(hx:ev l x= .pointer (some ⟨b,o,none⟩))[R:RB L b cs T F](k:J S0 w0 (F cs') (RY S0 w0 m P ops K rest l))(hy:ev l y=v:=by((conv=>lhs;whnf)<;>rfl))(hv:cellB v=true:=by rfl)
  (ho:Nat.ble (o+1) cs.length=true:=by rfl)(hc:cs.set o v=cs':=by dsimp only[List.set])(hk:okG m kd (F cs'):=by first|exact trivial|(repeat(first|exact List.Sublist.refl _|refine List.Sublist.cons_cons _ ?_|refine List.Sublist.cons _ ?_))):J S0 w0 L (RY S0 w0 m P ops K ((⟨none, .store xt x y,ty,pos,af,none⟩,kd)::rest) l):=
 J.big hk fun w M K' hK=>RS.store hx hy Z.h hv (M.blk (R.h cs).same) ho fun w' x1 B=>RS.nil (hK _ w' (M.store (R.h _) x1 (by rw[←hc];exact B)) (k w' (M.store (R.h _) x1 (by rw[←hc];exact B))))
theorem splice_get:∀(vs cs:List Value) (o i:Nat),o+vs.length≤cs.length→(splice cs o vs)[i]? =if o≤i∧i<o+vs.length then vs[i - o]? else cs[i]?
 |[],cs,o,i,_=>by simp only[splice,List.length_nil,Nat.add_zero];rw[if_neg (by omega)]
 |v::vs,cs,o,i,h=>by
  simp only[List.length_cons]at h;rw[splice,splice_get vs (cs.set o v) (o+1) i (by simp;omega)];by_cases h1:o+1≤i∧i<o+1+vs.length
  ·rw[if_pos h1,if_pos (by simp only[List.length_cons];omega),show i - o=(i - (o+1))+1 by omega,List.getElem?_cons_succ]
  ·rw[if_neg h1];by_cases h2:i=o
   ·subst h2;rw[if_pos (by simp only[List.length_cons];omega),Nat.sub_self,List.getElem?_cons_zero,List.getElem?_set_self (by omega)]
   ·rw[if_neg (by simp only[List.length_cons];omega),List.getElem?_set_ne (by omega)]
theorem splice_all{cs vs:List Value}(h:cs.length=vs.length):splice cs 0 vs=vs:=by
 apply List.ext_getElem?;intro i;rw[splice_get vs cs 0 i (by omega)];by_cases hi:i<vs.length
 ·rw[if_pos (by omega)];rfl
 ·rw[if_neg (by omega),List.getElem?_eq_none (by omega),List.getElem?_eq_none (by omega)]
theorem ints_cellB(k:IntKind)(xs:List Int):(ints k xs).all cellB=true:=by
 rw[List.all_eq_true];intro v hv;obtain⟨x,_,rfl⟩:=List.mem_map.1 hv;rfl
theorem J.staw[Z:Siz P xt sz]{F:List Value→List Ent}(hx:ev l x= .pointer (some ⟨b,0,none⟩))(hy:ev l y= .agg vs.toArray)[R:RB L b cs T F](k:J S0 w0 (F vs) (RY S0 w0 m P ops K rest l))(hk:okG m kd (F vs):=by first|exact trivial|(repeat(first|exact List.Sublist.refl _|refine List.Sublist.cons_cons _ ?_|refine List.Sublist.cons _ ?_)))(hz:sz≠0:=by decide)(hn:vs.length=sz:=by first|exact LenC.h|rfl|assumption|exact And.left (by assumption)|(rw[ints_length];first|rfl|assumption|exact And.left (by assumption)|exact WRow.elt_len (by assumption) (by omega)|(subst_vars;exact WRow.elt_len (by assumption) (by omega))))(hc:cs.length=sz:=by first|exact LenC.h|rfl|assumption|exact And.left (by assumption)|(rw[ints_length];first|rfl|assumption|exact And.left (by assumption)|exact WRow.elt_len (by assumption) (by omega)|(subst_vars;exact WRow.elt_len (by assumption) (by omega))))
  (hv:vs.all cellB=true:=by first|exact LenC.c|rfl|exact ints_cellB _ _):J S0 w0 L (RY S0 w0 m P ops K ((⟨none, .store xt x y,ty,pos,af,none⟩,kd)::rest) l):=
 J.big hk fun w M K' hK=>RS.storeAggB hx hy Z.h hz hn hv (M.blk (R.h cs).same) (by rw[Nat.ble_eq];omega) fun w' x1 B=>RS.nil (hK _ w' (M.store (R.h _) x1 (by rw[splice_all (by omega)]at B;exact B)) (k w' (M.store (R.h _) x1 (by rw[splice_all (by omega)]at B;exact B))))
theorem J.ld[U:Sca P xt]{F:List Value→List Ent}(hx:ev l x= .pointer (some ⟨b,o,none⟩))[R:RB (Lv m L) b cs T F](k:J S0 w0 L (RY S0 w0 m P ops K rest l'))(ho:Nat.ble (o+1) cs.length=true:=by rfl)(hv:cs.getD o undef=v:=by((conv=>lhs;whnf)<;>rfl))(hl:l.set d v=l':=by dsimp only[List.set]):
  J S0 w0 L (RY S0 w0 m P ops K ((⟨some d, .load xt x,ty,pos,af,none⟩, .q)::rest) l):=
 let ⟨_,u1,u2⟩:=U.h
 J.val (fun w M=>D.load hx u1 u2 ((M.blk (R.h cs).same).cell (by have:=Nat.le_of_ble_eq_true ho;rw[List.getD_eq_getElem?_getD,List.getElem?_eq_getElem this]at hv;rw[List.getElem?_eq_getElem this,←hv];rfl))) k hl
theorem J.lda[U:Agg P xt sz]{F:List Value→List Ent}(hx:ev l x= .pointer (some ⟨b,0,none⟩))[R:RB (Lv m L) b cs T F](k:J S0 w0 L (RY S0 w0 m P ops K rest l'))(hz:sz≠0:=by decide)(hn:cs.length=sz:=by first|exact LenC.h|rfl|assumption|exact And.left (by assumption)|(rw[ints_length];first|rfl|assumption|exact And.left (by assumption)|exact WRow.elt_len (by assumption) (by omega)|(subst_vars;exact WRow.elt_len (by assumption) (by omega))))(hl:l.set d (.agg cs.toArray)=l':=by dsimp only[List.set]):
  J S0 w0 L (RY S0 w0 m P ops K ((⟨some d, .load xt x,ty,pos,af,none⟩, .q)::rest) l):=
 let ⟨_,u1,u2,u3⟩:=U.h
 J.val (fun w M=>D.loadAgg hx u1 u2 u3 hz hn ((M.blk (R.h cs).same).cells (by rw[List.drop_zero,List.take_length]))) k hl
theorem J.ldp[U:Agg P xt sz]{F:List Value→List Ent}(hx:ev l x= .pointer (some ⟨b,o,none⟩))[R:RB (Lv m L) b cs T F](k:J S0 w0 L (RY S0 w0 m P ops K rest l'))(hz:sz≠0:=by decide)(hv:(cs.drop o).take sz=vs:=by dsimp only[List.drop,List.take])(hn:vs.length=sz:=by rfl)(hl:l.set d (.agg vs.toArray)=l':=by dsimp only[List.set]):
  J S0 w0 L (RY S0 w0 m P ops K ((⟨some d, .load xt x,ty,pos,af,none⟩, .q)::rest) l):=
 let ⟨_,u1,u2,u3⟩:=U.h
 J.val (fun w M=>D.loadAgg hx u1 u2 u3 hz hn ((M.blk (R.h cs).same).cellsN sz hv)) k hl
/-! rows -/
def pt(a:Option Addr)(k:Nat):Value:= .pointer (a.map fun p=>⟨p.block,p.off+k,none⟩)
theorem pt_some{b o:Nat}(ha:a=some ⟨b,o,none⟩)(k:Nat):pt a k= .pointer (some ⟨b,o+k,none⟩):=by subst ha;rfl
theorem J.idxS[U:Und P xt (.slice e)][Z:Siz P e sz](hk:pureK kd=true)(hx:ev l x= .slice (some ⟨b,o,none⟩) n c)(hy:ev l y= .int ki i)(kk:J S0 w0 L (RY S0 w0 m P ops K rest l'))(hz:0<sz:=by decide)(hi:0≤i∧i<n:=by omega)(hl:l.set d (pt (some ⟨b,o,none⟩) (i.toNat*sz))=l':=by dsimp only[List.set]):
  J S0 w0 L (RY S0 w0 m P ops K ((⟨some d, .indexAddr xt x y,ty,pos,af,none⟩,kd)::rest) l):=
 J.pur hk (fun w=>by rw[pt_some rfl];exact D.indexAddr hx hy U.h Z.h (by omega) rfl hi) kk hl
theorem J.idxI[U:Und P xt (.slice e)][Z:Siz P e 1](hx:ev l x= .slice a n c)(hy:ev l y= .int ki i)(hR:RI S0 w0 (Lv m L) k a n xs)(kk:J S0 w0 L (RY S0 w0 m P ops K rest l'))(hi:0≤i∧i<n:=by omega)(hl:l.set d (pt a (i.toNat*1))=l':=by dsimp only[List.set]):
  J S0 w0 L (RY S0 w0 m P ops K ((⟨some d, .indexAddr xt x y,ty,pos,af,none⟩, .q)::rest) l):=
 J.val (fun w M => by
  obtain ⟨S, h⟩ := hR w M
  obtain ⟨b, o, ha, _, hc⟩ := h.at_ hi
  rw [pt_some ha]
  exact D.indexAddr hx hy U.h Z.h (by decide) ha hi) kk hl
theorem J.ldI[U:Und P xt (.int k)](hx:ev l x=pt a (i.toNat*1))(hR:RI S0 w0 (Lv m L) k a n xs)(kk:J S0 w0 L (RY S0 w0 m P ops K rest l'))(hi:0≤i∧i<n:=by omega){q:Int}(hq:q=xs.getD i.toNat 0:=by first|assumption|exact rfl)(hl:l.set d (.int k q)=l':=by dsimp only[List.set]):
  J S0 w0 L (RY S0 w0 m P ops K ((⟨some d, .load xt x,ty,pos,af,none⟩, .q)::rest) l):=
 J.val (fun w M => by
  obtain ⟨S, h⟩ := hR w M
  obtain ⟨b, o, ha, _, hc⟩ := h.at_ hi
  exact D.load (by rw [hx, pt_some ha]) U.h rfl (by rw [hq]; exact hc)) kk hl
theorem J.idxW[U:Und P xt (.slice e)][Z:Siz P e sz](hx:ev l x= .slice a n c)(hy:ev l y= .int ki i)(hR:RW S0 w0 (Lv m L) k sz a n xs)(kk:J S0 w0 L (RY S0 w0 m P ops K rest l'))(hz:0<sz:=by decide)(hi:0≤i∧i<n:=by omega)(hl:l.set d (pt a (i.toNat*sz))=l':=by dsimp only[List.set]):
  J S0 w0 L (RY S0 w0 m P ops K ((⟨some d, .indexAddr xt x y,ty,pos,af,none⟩, .q)::rest) l):=
 J.val (fun w M => by
  obtain ⟨S, h⟩ := hR w M
  obtain ⟨b, o, ha, _, hc⟩ := h.at_ hz hi
  rw [pt_some ha]
  exact D.indexAddr hx hy U.h Z.h (by omega) ha hi) kk hl
theorem J.ldW[U:Agg P xt sz](hx:ev l x=pt a (i.toNat*sz))(hR:RW S0 w0 (Lv m L) k sz a n xs)(kk:J S0 w0 L (RY S0 w0 m P ops K rest l'))(hz:0<sz:=by decide)(hi:0≤i∧i<n:=by omega){q:List Int}(hq:q=elt sz xs i.toNat:=by first|assumption|exact rfl)(hl:l.set d (.agg (ints k q).toArray)=l':=by dsimp only[List.set]):
  J S0 w0 L (RY S0 w0 m P ops K ((⟨some d, .load xt x,ty,pos,af,none⟩, .q)::rest) l):=
 J.val (fun w M => by
  obtain ⟨S, h⟩ := hR w M
  obtain ⟨b, o, ha, _, hc⟩ := h.at_ hz hi
  obtain ⟨_, u1, u2, u3⟩ := U.h
  exact D.loadAgg (by rw [hx, pt_some ha]) u1 u2 u3 (by omega) (by rw [hq, ints_length]; exact h.elt_len (by omega)) (by rw [hq]; exact hc)) kk hl
theorem GRow.get{S:Nat→Prop}{w:World}{q:α}(h:GRow f sz S w a n lst)(hz:0<sz)(hq:lst[i.toNat]? =some q)(hi:0≤i∧i<n):∃b o,a=some ⟨b,o,none⟩∧S b∧Cells w b (o+i.toNat*sz) (f q):=by
 obtain⟨b,o,h1,h2,h3,_⟩:=h.at_ hz q hi;rw[List.getD_eq_getElem?_getD,hq]at h3;exact⟨b,o,h1,h2,h3⟩
theorem GRow.ex{S:Nat→Prop}{w:World}(h:GRow f sz S w a n lst)(hi:0≤i∧i<n):∃q,lst[i.toNat]? =some q:=⟨_,List.getElem?_eq_getElem (by have:=h.len;omega)⟩
theorem J.idxG[U:Und P xt (.slice e)][Z:Siz P e sz](hx:ev l x= .slice a n c)(hy:ev l y= .int ki i)(hR:RG S0 w0 (Lv m L) f sz a n lst)(kk:J S0 w0 L (RY S0 w0 m P ops K rest l'))(hz:0<sz:=by decide)(hi:0≤i∧i<n:=by omega)(hl:l.set d (pt a (i.toNat*sz))=l':=by dsimp only[List.set]):
  J S0 w0 L (RY S0 w0 m P ops K ((⟨some d, .indexAddr xt x y,ty,pos,af,none⟩, .q)::rest) l):=
 J.val (fun w M => by
  obtain ⟨S, h⟩ := hR w M
  obtain ⟨q, hq⟩ := h.ex hi
  obtain ⟨b, o, ha, _, hc⟩ := h.get hz hq hi
  rw [pt_some ha]
  exact D.indexAddr hx hy U.h Z.h (by omega) ha hi) kk hl
theorem J.ldG[U:Agg P xt sz](hx:ev l x=pt a (i.toNat*sz))(hR:RG S0 w0 (Lv m L) f sz a n lst)(kk:J S0 w0 L (RY S0 w0 m P ops K rest l')){q:α}(hq:lst[i.toNat]? =some q:=by assumption)(hf:f q=v::vs:=by rfl)(hz:0<sz:=by decide)(hi:0≤i∧i<n:=by omega)(hl:l.set d (.agg (v::vs).toArray)=l':=by dsimp only[List.set]):
  J S0 w0 L (RY S0 w0 m P ops K ((⟨some d, .load xt x,ty,pos,af,none⟩, .q)::rest) l):=
 J.val (fun w M => by
  obtain ⟨S, h⟩ := hR w M
  obtain ⟨b, o, ha, _, hc⟩ := h.get hz hq hi
  rw [hf] at hc
  obtain ⟨_, u1, u2, u3⟩ := U.h
  exact D.loadAgg (by rw [hx, pt_some ha]) u1 u2 u3 (by omega) (by rw [← hf]; exact h.szf _) hc) kk hl
theorem J.flG{off:Nat}[F:Fld P xt o off][Z:Siz P xt sz](hx:ev l x=pt a (i.toNat*sz))(hR:RG S0 w0 (Lv m L) f sz a n lst)(kk:J S0 w0 L (RY S0 w0 m P ops K rest l'))(hz:0<sz:=by decide)(hi:0≤i∧i<n:=by omega)(hl:l.set d (pt a (i.toNat*sz+off))=l':=by dsimp only[List.set]):
  J S0 w0 L (RY S0 w0 m P ops K ((⟨some d, .fieldAddr xt x o,ty,pos,af,none⟩, .q)::rest) l):=
 J.val (fun w M => by
  obtain ⟨S, h⟩ := hR w M
  obtain ⟨q, hq⟩ := h.ex hi
  obtain ⟨b, o', ha, _, hc⟩ := h.get hz hq hi
  obtain ⟨fs, f, sz', h1, h2, h3, h4, rfl⟩ := F.h
  rw [pt_some ha] at hx
  rw [pt_some ha, ← Nat.add_assoc]
  exact D.fieldAddr hx h1 h2 h3 h4) kk hl
theorem J.ldGf{off:Nat}[U:Sca P xt](hx:ev l x=pt a (i.toNat*sz+off))(hR:RG S0 w0 (Lv m L) f sz a n lst)(kk:J S0 w0 L (RY S0 w0 m P ops K rest l')){q:α}(hq:lst[i.toNat]? =some q:=by assumption)(hf:(f q).getD off undef=v:=by((conv=>lhs;whnf)<;>rfl))(ho:Nat.ble (off+1) sz=true:=by rfl)(hi:0≤i∧i<n:=by omega)(hl:l.set d v=l':=by dsimp only[List.set]):
  J S0 w0 L (RY S0 w0 m P ops K ((⟨some d, .load xt x,ty,pos,af,none⟩, .q)::rest) l):=
 J.val (fun w M => by
  obtain ⟨S, h⟩ := hR w M
  have ho := Nat.le_of_ble_eq_true ho
  obtain ⟨b, o', ha, _, hc⟩ := h.get (by omega) hq hi
  have := hc off (by rw [h.szf]; omega)
  rw [hf, Nat.add_assoc] at this
  obtain ⟨_, u1, u2⟩ := U.h
  exact D.load (by rw [hx, pt_some ha]) u1 u2 this) kk hl
end
def Gv{α:Type}(w:World)(g:α→Value)(E:α→List Ent)(p:α→Prop)(e:Ending)(w':World):Prop:=∃x,e= .returned (g x)∧p x∧Ext w w'∧Sep (E x) (fun b=>w.heap.size≤b) w'
theorem sep1{e:Ent}{S:Nat→Prop}{w:World}(h:e.ok S w):Sep [e] S w:=⟨S,no,fun _ h=>h,fun _ h=>h.elim,fun _ _ h=>h.elim,h,trivial⟩
theorem Gv.of{α:Type}{P:Program}{f:FuncId}{av:Array Value}{w:World}{A:Value→World→Prop}{g:α→Value}{E:α→List Ent}{p:α→Prop}(h:Calls P f av w (Ret w A))(k:∀v w',Ext w w'→A v w'→∃x,v=g x∧p x∧Sep (E x) (fun b=>w.heap.size≤b) w'):Calls P f av w (Gv w g E p):=
 h.mono fun _ w' ⟨v,h1,h2,h3⟩=>let ⟨x,k1,k2,k3⟩:=k v w' h2 h3;⟨x,k1▸h1,k2,h2,k3⟩
section
variable{S0:Nat→Prop}{w0:World}{L L' E:List Ent}{P:Program}{l0:List Oper}{ops:Array Oper}{K:List Value→World→Prop}{rest:List (Oper×Kd)}{l l':List Value}{m:Md}{d:Tmp}{op:Op}{ty:TypeId}{pos:String}{af:Array Edge}{kd:Kd}{v:Value}{x y z:Operand}{f:FuncId}{args:Array Operand}{av:List Value}{ts:Array TypeId}
theorem J.callp{g:Value}[E:Ents P f](hk:okE m kd=true)(ha:args.toList.map (ev l)=av)(h:∀w,Mem S0 w0 L w→Calls P f av.toArray w (Ret w fun v _=>v=g))(k:J S0 w0 L (RY S0 w0 m P ops K rest l'))(hl:l.set d g=l':=by dsimp only[List.set]):
  J S0 w0 L (RY S0 w0 m P ops K ((⟨some d, .call {callee:= .value (.func f),args:=args,argTypes:=ts},ty,pos,af,none⟩,kd)::rest) l):=
 J.eff hk fun w M K' hK=>RS.call E.h (h w M) ha fun v w' x1 hv=>RS.nil (hK _ w' x1 (by subst hv;rw[hl];exact k w' (M.grow x1)))
theorem J.callvp{g:Value}{cap:List Value}[E:Ents P f](hk:okE m kd=true)(hx:ev l x= .func (.func f) #[] cap.toArray)(ha:args.toList.map (ev l)++cap=av)(h:∀w,Mem S0 w0 L w→Calls P f av.toArray w (Ret w fun v _=>v=g))(k:J S0 w0 L (RY S0 w0 m P ops K rest l'))(hl:l.set d g=l':=by dsimp only[List.set]):
  J S0 w0 L (RY S0 w0 m P ops K ((⟨some d, .call {callee:= .value x,args:=args,argTypes:=ts},ty,pos,af,none⟩,kd)::rest) l):=
 J.eff hk fun w M K' hK=>RS.callv E.h (h w M) hx ha fun e w' ⟨v,hv,x1,h1⟩=>⟨v,hv,RS.nil (hK _ w' x1 (by subst h1;rw[hl];exact k w' (M.grow x1)))⟩
theorem J.call{α:Type}{g:α→Value}{Ex E':α→List Ent}{p:α→Prop}{l':α→List Value}[E:Ents P f](hk:okE m kd=true)(ha:args.toList.map (ev l)=av)(h:∀w,Mem S0 w0 L w→Calls P f av.toArray w (Gv w g Ex p))(k:∀x,p x→J S0 w0 (E' x) (RY S0 w0 m P ops K rest (l' x)))
  (hE:∀x,Ex x++L=E' x:=by intro x;dsimp only[List.cons_append,List.nil_append])(hl:∀x,l.set d (g x)=l' x:=by intro x;dsimp only[List.set]):
  J S0 w0 L (RY S0 w0 m P ops K ((⟨some d, .call {callee:= .value (.func f),args:=args,argTypes:=ts},ty,pos,af,none⟩,kd)::rest) l):=
 J.eff hk fun w M K' hK=>RS.callx E.h (h w M) ha fun e w' ⟨q,h1,h2,h3,h4⟩=>⟨_,h1,RS.nil (hK _ w' h3 (by rw[hl];exact k q h2 w' (by rw[←hE];exact M.more h3 h4)))⟩
inductive Re(P:Program)(L:List Ent)(l:List Value):ResultVar→Value→Prop
 |tmp {t:Tmp} {v:Value} (hv:l.getD t undef=v):Re P L l (.tmp t) v
 |agg {s:Tmp} {t T:TypeId} {b sz:Nat} {cs:List Value} {F:List Value→List Ent} [U:Agg P t sz] (hp:l.getD s undef= .pointer (some ⟨b,0,none⟩)) [R:RB L b cs T F] (hz:sz≠0) (hn:cs.length=sz):Re P L l (.cell s t) (.agg cs.toArray)
 |one {s:Tmp} {t T:TypeId} {b:Nat} {v:Value} {cs:List Value} {F:List Value→List Ent} [U:Sca P t] (hp:l.getD s undef= .pointer (some ⟨b,0,none⟩)) [R:RB L b cs T F] (ho:Nat.ble 1 cs.length=true) (hv:cs.getD 0 undef=v):Re P L l (.cell s t) v
theorem Re.ok{r:ResultVar}{rs:List ResultVar}{v:Value}{vs:List Value}(h:Re P L l r v){w:World}(M:Mem S0 w0 L w)(k:resOk P l w rs vs):resOk P l w (r::rs) (v::vs):=by
 cases h with
 |tmp hv=>exact⟨hv,k⟩
 | @agg s t T b sz cs F U hp R hz hn=>
  obtain⟨_,u1,u2,u3⟩:=U.h;exact⟨⟨_,hp,loadVar_agg u1 u2 u3 hz hn ((M.blk (R.h cs).same).cells (by rw[List.drop_zero,List.take_length]))⟩,k⟩
 | @one s t T b v cs F U hp R ho hv=>
  obtain⟨_,u1,u2⟩:=U.h;exact⟨⟨_,hp,loadVar_one u1 u2 ((M.blk (R.h cs).same).cell (by have:=Nat.le_of_ble_eq_true ho;rw[List.getD_eq_getElem?_getD,List.getElem?_eq_getElem this]at hv;rw[List.getElem?_eq_getElem this,←hv];rfl))⟩,k⟩
theorem J.tret{fn:Func}{R:Ending→World→Prop}(k:J S0 w0 L (bodyPost P fn R .ret (fr l))):J S0 w0 L (bodyPost P fn R .ret (fr l)):=k
theorem J.ret1{fn:Func}{R:Ending→World→Prop}{r1:ResultVar}{v1:Value}(hr:fn.results= #[r1])(k:J S0 w0 L (R (.returned (v1))))(h1:Re P L l r1 v1:=by first|exact Re.tmp (by((conv=>lhs;whnf)<;>rfl))|exact Re.agg rfl (by decide) (by first|rfl|assumption|exact And.left (by assumption)|(rw[ints_length];first|rfl|assumption|exact And.left (by assumption)|exact WRow.elt_len (by assumption) (by omega)|(subst_vars;exact WRow.elt_len (by assumption) (by omega))))|exact Re.one rfl (by rfl) (by((conv=>lhs;whnf)<;>rfl))):J S0 w0 L (bodyPost P fn R .ret (fr l)):=fun w M=>G.ret (rs:=[r1]) (vs:=[v1]) hr (h1.ok M trivial) rfl (k w M)
theorem J.ret2{fn:Func}{R:Ending→World→Prop}{r1 r2:ResultVar}{v1 v2:Value}(hr:fn.results= #[r1,r2])(k:J S0 w0 L (R (.returned (.tuple #[v1,v2]))))(h1:Re P L l r1 v1:=by first|exact Re.tmp (by((conv=>lhs;whnf)<;>rfl))|exact Re.agg rfl (by decide) (by first|rfl|assumption|exact And.left (by assumption)|(rw[ints_length];first|rfl|assumption|exact And.left (by assumption)|exact WRow.elt_len (by assumption) (by omega)|(subst_vars;exact WRow.elt_len (by assumption) (by omega))))|exact Re.one rfl (by rfl) (by((conv=>lhs;whnf)<;>rfl)))(h2:Re P L l r2 v2:=by first|exact Re.tmp (by((conv=>lhs;whnf)<;>rfl))|exact Re.agg rfl (by decide) (by first|rfl|assumption|exact And.left (by assumption)|(rw[ints_length];first|rfl|assumption|exact And.left (by assumption)|exact WRow.elt_len (by assumption) (by omega)|(subst_vars;exact WRow.elt_len (by assumption) (by omega))))|exact Re.one rfl (by rfl) (by((conv=>lhs;whnf)<;>rfl))):J S0 w0 L (bodyPost P fn R .ret (fr l)):=fun w M=>G.ret (rs:=[r1,r2]) (vs:=[v1,v2]) hr (h1.ok M (h2.ok M trivial)) rfl (k w M)
theorem J.fin{g:Value}(h:v=g):J no w0 L (Ret w0 (fun v _=>v=g) (.returned v)):=fun w M=>⟨v,rfl,M.ext,h⟩
theorem J.finG{α:Type}{g:α→Value}{Ex:α→List Ent}{p:α→Prop}(x:α)(h:v=g x)(hp:p x)(hs:(Ex x).Sublist L):J no w0 L (Gv w0 g Ex p (.returned v)):=fun w M=>⟨x,by rw[h],hp,M.ext,(M.sep.sub hs).mono fun b _ hb=>hb.elim (fun k=>k.elim) fun k=>k⟩
/-! ### loops, joins -/
variable{Q:Exit→Act→World→Prop}{c y:Code}
theorem J.loop{A:Type}(M:A→List (Nat×Value))(Jk:List Nat)(Lp:A→List Ent)(I:A→Prop)(μ:A→Nat)(p0:A){l':A→(Nat→Value)→List Value}
  (h0:upd (upd l (M p0)) (junk Jk (fun s=>l.getD s undef))=l)(i0:I p0)(round:∀p j,I p→J S0 w0 (Lp p) (c.wp P (Exit.then (Nx l M Jk (fun p w=>Mem S0 w0 (Lp p) w∧I p) μ p) Q) (fr (l' p j))))
  (hL:(Lp p0).Sublist L:=by exact List.Sublist.refl _)(hl:∀p j,upd (upd l (M p)) (junk Jk j)=l' p j:=by intro p j;simp only[upd,junk,List.map_cons,List.map_nil,List.set_cons_succ,List.set_cons_zero];exact rfl):J S0 w0 L ((Code.loop c).wp P Q (fr l)):=fun w Mm=>by
 refine C.loop M Jk (fun p w=>Mem S0 w0 (Lp p) w∧I p) μ p0 h0 ⟨Mm.sub hL,i0⟩ fun p j w hI=>?_
 rw[hl];exact round p j hI.2 w hI.1
theorem J.loopS{A:Type}(M:A→List (Nat×Value))(Jk:List Nat)(I:A→Prop)(μ:A→Nat)(p0:A){l':A→(Nat→Value)→List Value}
  (h0:upd (upd l (M p0)) (junk Jk (fun s=>l.getD s undef))=l)(i0:I p0)(round:∀p j,I p→J S0 w0 L (c.wp P (Exit.then (Nx l M Jk (fun p w=>Mem S0 w0 L w∧I p) μ p) Q) (fr (l' p j))))
  (hl:∀p j,upd (upd l (M p)) (junk Jk j)=l' p j:=by intro p j;simp only[upd,junk,List.map_cons,List.map_nil,List.set_cons_succ,List.set_cons_zero];exact rfl):J S0 w0 L ((Code.loop c).wp P Q (fr l)):=J.loop M Jk (fun _=>L) I μ p0 h0 i0 round (List.Sublist.refl _) hl
theorem J.next{A:Type}{M:A→List (Nat×Value)}{Jk:List Nat}{Lp:A→List Ent}{I:A→Prop}{μ:A→Nat}{p:A}{l le:List Value}(p':A)(hs:slotsOk le (M p'))(h:upd (upd l (M p')) (junk Jk (fun s=>le.getD s undef))=le)(hi:I p')(hm:μ p'<μ p)
  (hL:(Lp p').Sublist L:=by repeat(first|exact List.Sublist.refl _|refine List.Sublist.cons_cons _ ?_|refine List.Sublist.cons _ ?_)):J S0 w0 L (Nx l M Jk (fun p w=>Mem S0 w0 (Lp p) w∧I p) μ p (fr le)):=fun w Mm=>C.next p' hs h ⟨Mm.sub hL,hi⟩ hm
theorem J.nextS{A:Type}{M:A→List (Nat×Value)}{Jk:List Nat}{L':List Ent}{I:A→Prop}{μ:A→Nat}{p:A}{l le:List Value}(p':A)(hs:slotsOk le (M p'))(h:upd (upd l (M p')) (junk Jk (fun s=>le.getD s undef))=le)(hi:I p')(hm:μ p'<μ p)
  (hL:L'.Sublist L:=by repeat(first|exact List.Sublist.refl _|refine List.Sublist.cons_cons _ ?_|refine List.Sublist.cons _ ?_)):J S0 w0 L (Nx l M Jk (fun p w=>Mem S0 w0 L' w∧I p) μ p (fr le)):=fun w Mm=>C.next p' hs h ⟨Mm.sub hL,hi⟩ hm
@[irreducible] def Cut{A:Type}(l:List Value)(M:A→List (Nat×Value))(Jk:List Nat)(I:A→World→Prop)(a':Act)(w':World):Prop:=∃p' j',a'=fr (upd (upd l (M p')) (junk Jk j'))∧I p' w'
theorem J.cut{A:Type}{M:A→List (Nat×Value)}{Jk:List Nat}{Lp:A→List Ent}{I:A→Prop}{le:List Value}(p':A)(hs:slotsOk le (M p'))(h:upd (upd l (M p')) (junk Jk (fun s=>le.getD s undef))=le)(hi:I p')
  (hL:(Lp p').Sublist L:=by repeat(first|exact List.Sublist.refl _|refine List.Sublist.cons_cons _ ?_|refine List.Sublist.cons _ ?_)):J S0 w0 L (Cut l M Jk (fun p w=>Mem S0 w0 (Lp p) w∧I p) (fr le)):=fun w Mm=>by
 unfold Cut;exact⟨p',_,by rw[h],Mm.sub hL,hi⟩
theorem J.enter{fn:Func}{R:Ending→World→Prop}(u:Nat)(hf:P.funcs[f]? =some fn)(hb:fn.body=some c)(hu:fn.ntmps - av.length=u)(h:J no w0 [] (c.wp P (bodyPost P fn R) (fr l)))(hl:av++List.replicate u undef=l:=by dsimp only[List.reduceReplicate,List.cons_append,List.nil_append]):Calls P f av.toArray w0 R:=
 enterU u hf hb hu (h w0 (Mem.first w0)) hl
end
theorem Pr.mono{S T:Nat→Prop}{w w':World}(h:Pr S w w')(k:∀b,S b→T b):Pr T w w':=⟨h.os,h.tape,h.output,h.size,fun b hb hn=>h.block b hb fun hs=>hn (k b hs)⟩
section
variable{P:Program}{w w':World}
theorem append_at{t ty e:TypeId}{sz by_:Nat}{z:List Value}{a a2:Option Addr}{n c m c2:Nat}{cs ds:List Value}{S:Nat→Prop}(hu:P.underlying t=some (.slice e))(ht:TI P e sz by_ z)(hz:z.length=sz)(hsz:0<sz)
  (hO:Own 0 w e sz a n c cs)(hR:Row S w a2 ds)(hd:ds.length=m*sz)(h1:∀u∈ds,u.oneCell'=true)(hm:0<m)(hb:(n+m)*by_≤140737488355328)(hb':n+m≤140737488355328):
  ∃a' c' w',(Builtin.append_ #[t,t] ty #[.slice a n c, .slice a2 m c2]).run P w= .ok (.slice a' (n+m) c') w'∧Own 0 w' e sz a' (n+m) c' (cs++ds)∧Pr (fun b=>obk a=some b) w w'∧∀b,obk a'=some b→obk a=some b∨w.heap.size≤b:=by
 obtain⟨i,zv,i1,i2,i3,i4,i5⟩:=ht;have hzs:zv.cells.size=sz:=by rw[i5];simpa using hz
 have hlen:0<ds.length:=by rw[hd];exact Nat.mul_pos hm hsz
 obtain⟨b,o,ha,_,_⟩:=hR.at_ 0 hlen;subst ha;subst i2 i3;have h63:n+m≤maxLen:=by simp only[maxLen];omega
 obtain⟨v',w',hr,ho,hg,_⟩:=run_append_own (P:=P) w 0 t ty e i zv i.size i.bytes hu i1 i4 rfl rfl hzs hsz (.slice a n c) n cs hO ⟨b,o,none⟩ m c2 ds hd (hR.news rfl) h1 h63 hb (Nat.zero_le _);obtain⟨a',c',rfl⟩:=Own.form ho;have hp:=grown_pr hg;rw[ownBlock_slice]at hp;refine⟨a',c',w',hr,ho,hp,?_⟩;rcases hO.2 with⟨hv,hn⟩|⟨g,cap,cur,hv,_,hgb,hnc,hcm,hcs,htake⟩
 ·obtain⟨rfl,rfl,rfl⟩:a=none∧n=0∧c=0:=by simpa using hv
  have hr2:=run_append_nil (P:=P) w t ty e i zv hu i1 i4 ⟨b,o,none⟩ m c2 ds hd (hR.news rfl) hm (by simp only[maxLen]at h63;omega) (by rw[Nat.zero_add]at hb;omega);rw[hr]at hr2;injection hr2 with e1 e2;injection e1 with e3;subst e3;intro q hq;right;simp[obk]at hq;omega
 ·obtain⟨rfl,rfl⟩:a=some ⟨g,0,none⟩∧c=cap:=by simpa using hv
  by_cases hroom:n+m≤c
  ·have hfit:n*i.size+ds.length≤cur.size:=by rw[hd,hcs,←Nat.add_mul];exact Nat.mul_le_mul_right _ hroom
   have hr2:=run_append_room (P:=P) w t ty e i hu i1 g n c cur hgb ⟨b,o,none⟩ m c2 ds hd (hR.news rfl) h1 hroom hfit;rw[hr]at hr2;injection hr2 with e1 e2;injection e1 with e3;subst e3;exact fun q hq=> .inl hq
  ·have hr2:=run_append_grow (P:=P) w t ty e i zv hu i1 i4 ⟨g,0,none⟩ n c cs hO.1 (World.ownsRow.cells hO (g:=g) rfl) ⟨b,o,none⟩ m c2 ds hd (hR.news rfl) (by omega) (by simp only[maxLen]at h63;omega) (growslice_fits (by omega) hb);rw[hr]at hr2;injection hr2 with e1 e2;injection e1 with e3;subst e3;intro q hq;right;simp[obk]at hq;omega
end
section
variable{S0:Nat→Prop}{w0:World}{L L':List Ent}{P:Program}{ops:Array Oper}{l:List Value}{d:Tmp}{ty:TypeId}{pos:String}{af:Array Edge}{x y:Operand}{t e:TypeId}{sz by_:Nat}{z:List Value}{a a2:Option Addr}{n c m c2:Nat}{cs ds:List Value}{K':List Value→World→Prop}
theorem app_core{w:World}(M:Mem S0 w0 L w){E:Ent}{E':Option Addr→Nat→Ent}{F:Option Addr→Nat→List Ent}(R:∀a' c',Rpl L E (E' a' c') (F a' c'))(hE:∀S,E.ok S w→Own 0 w e sz a n c cs∧∀b,obk a=some b→S b)
  (hx:ev l x= .slice a n c)(hy:ev l y= .slice a2 m c2)(hu:P.underlying t=some (.slice e))(ht:TI P e sz by_ z)(hz:z.length=sz)(hsz:0<sz)(hR:∃S,Row S w a2 ds)(hd:ds.length=m*sz)(h1:∀u∈ds,u.oneCell'=true)(hb:(n+m)*by_≤140737488355328)(hb':n+m≤140737488355328)
  (hE':∀a' c' w',Own 0 w' e sz a' (n+m) c' (cs++ds)→(E' a' c').ok (fun b=>obk a'=some b) w')
  (k:∀a' c' w',Mem S0 w0 (F a' c') w'→K' (l.set d (.slice a' (n+m) c')) w'):
  RS P ops K' [⟨some d, .call {callee:= .builtin .append,args:= #[x,y],argTypes:= #[t,t]},ty,pos,af,none⟩] l w:=by
 have hrun:∀v w',(Builtin.append_ #[t,t] ty #[.slice a n c, .slice a2 m c2]).run P w= .ok v w'→(execOp (ev l) ⟨some d, .call {callee:= .builtin .append,args:= #[x,y],argTypes:= #[t,t]},ty,pos,af,none⟩).run P w= .ok (.value v) w':=by
  intro v w' h;simp[execOp,resolve,hx,hy,invoke,builtin,h]
 obtain⟨S1,_,q1,_⟩:=M.foc (R a c);obtain⟨hO,_⟩:=hE S1 q1;obtain⟨S,hR⟩:=hR;by_cases hm:m=0
 ·subst hm;obtain rfl:ds=[]:=List.length_eq_zero_iff.1 (by omega);have hcs:P.cellsOf e=sz:=by obtain⟨i,_,i1,i2,_⟩:=ht;simp[Program.cellsOf,i1,i2]
  have:=append_zero_run (P:=P) (w:=w) (ty:=ty) (a:=a) (a2:=a2) (c2:=c2) hu hcs (by omega) hO.cap.1;refine RS.o (hrun _ _ this) (RS.nil (k a c w ?_)) rfl;obtain⟨S2,_,p2,p3⟩:=M.foc (R a c);exact p3 w _ (Pr.refl _ _) (hE' a c w (by simpa using hO)) fun b hb=> .inl ((hE S2 p2).2 b hb)
 ·obtain⟨a',c',w',hr,ho,hp,hat⟩:=append_at (P:=P) (ty:=ty) (c2:=c2) hu ht hz hsz hO hR hd h1 (by omega) hb hb';refine RS.o (hrun _ _ hr) (RS.nil (k a' c' w' ?_)) rfl;obtain⟨S2,_,p2,p3⟩:=M.foc (R a' c');have h2:=(hE S2 p2).2;exact p3 w' _ (hp.mono h2) (hE' a' c' w' ho) fun b hb=>(hat b hb).imp_left (h2 b)
end
/-! numbers that are owned -/
class RO(L:List Ent)(a:Option Addr)(e:outParam TypeId)(k:outParam IntKind)(n c:outParam Nat)(xs:outParam (List Int))(F:outParam (Option Addr→Nat→Nat→List Int→List Ent)):Prop where h:∀a' n' c' xs',Rpl L (.iown e k a n c xs) (.iown e k a' n' c' xs') (F a' n' c' xs')
section
variable{L:List Ent}{a:Option Addr}{e:TypeId}{k:IntKind}{n c:Nat}{xs:List Int}{x:Ent}{F:Option Addr→Nat→Nat→List Int→List Ent}
instance RO.here:RO (.iown e k a n c xs::L) a e k n c xs (fun a' n' c' xs'=> .iown e k a' n' c' xs'::L):=⟨fun _ _ _ _=> .here⟩
instance(priority:=low) RO.there[R:RO L a e k n c xs F]:RO (x::L) a e k n c xs (fun a' n' c' xs'=>x::F a' n' c' xs'):=⟨fun a' n' c' xs'=> .there (R.h a' n' c' xs')⟩
end
/-! a part of a list -/
class RE(L:List Ent)(e:Ent)(F:outParam (Ent→List Ent)):Prop where h:∀e',Rpl L e e' (F e')
instance RE.here{L:List Ent}{e:Ent}:RE (e::L) e (fun e'=>e'::L):=⟨fun _=> .here⟩
instance(priority:=low) RE.there{L:List Ent}{e x:Ent}{F:Ent→List Ent}[R:RE L e F]:RE (x::L) e (fun e'=>x::F e'):=⟨fun e'=> .there (R.h e')⟩
section
variable{S0:Nat→Prop}{w0 w:World}{L L' E:List Ent}{P:Program}{l0:List Oper}{ops:Array Oper}{K:List Value→World→Prop}{rest:List (Oper×Kd)}{l l':List Value}{m:Md}{d:Tmp}{op:Op}{ty:TypeId}{pos:String}{af:Array Edge}{kd:Kd}{v:Value}{x y z:Operand}{t xt yt e T:TypeId}{b o n c n2 c2 sz by_:Nat}{cs cs' vs zs:List Value}{X:World→Prop}
 {k ki:IntKind}{a a2:Option Addr}{xs ys:List Int}{i q:Int}{α:Type}{f:α→List Value}{lst:List α}{e1 e2:Ent}
theorem RI.own'{F:Option Addr→Nat→Nat→List Int→List Ent}[R:RO L a e k n c xs F]:RI S0 w0 L k a n xs:= .own (R.h a n c xs).same
theorem J.re{F:Ent→List Ent}(e1 e2:Ent)[R:RE L e1 F](h:∀S w,e1.ok S w→e2.ok S w)(k:J S0 w0 (F e2) X):J S0 w0 L X:=fun w M=>by
 obtain⟨S,h1,h2,h3⟩:=M.foc (R.h e2);exact k w (h3 w S (Pr.refl _ _) (h S w h2) fun _ hb=> .inl hb)
theorem J.add0(e1:Ent)(h:∀w,e1.ok no w)(k:J S0 w0 (e1::L) X):J S0 w0 L X:=fun w M=>k w (M.new (Ext.refl w) (e1.mono (h w) fun _ _ hb=>hb.elim))
theorem J.nilI(e:TypeId)(k:IntKind)(kk:J S0 w0 (.iown e k none 0 0 []::L) X):J S0 w0 L X:=J.add0 (.iown e k none 0 0 []) (fun w=>⟨IOwn.nil 0 w e k,fun b hb=>by cases hb⟩) kk
theorem own_blk(h:(Ent.blk b (ints k xs) e).ok S0 w)(hn:xs.length=n)(hd:Bd k xs)(hm:n≤9223372036854775807):(Ent.iown e k (some ⟨b,0,none⟩) n n xs).ok S0 w:=⟨IOwn.of_blk h.2 rfl hn (Nat.zero_le _) hd hm,fun q hq=>by simp[obk]at hq;subst hq;exact h.1⟩
theorem J.mkI[U:Und P t (.slice e)][I:Inf P e 1 by_ [.int k 0]]{l':Nat→List Value}(hk:okE m kd=true)(hx:ev l x= .int ki (n:Nat))(hy:ev l y= .int ki (n:Nat))(kk:∀b,J S0 w0 (.iown e k (some ⟨b,0,none⟩) n n (List.replicate n 0)::L) (RY S0 w0 m P ops K rest (l' b)))
  (hb:(by_:Int)*(n:Nat)≤281474976710656:=by omega)(hl:∀b,l.set d (.slice (some ⟨b,0,none⟩) n n)=l' b:=by intro b;dsimp only[List.set])(hi:n≤9223372036854775807:=by omega):J S0 w0 L (RY S0 w0 m P ops K ((⟨some d, .makeSlice t x y,ty,pos,af,none⟩,kd)::rest) l):=
 J.eff hk fun w M K' hK => RS.make hx hy U.h I.h (Int.natCast_nonneg n) hb (by omega) fun b w' e1 s1 x1 B => RS.nil (hK _ w' x1 (by
  rw [Int.toNat_natCast] at B ⊢
  rw [hl]
  refine kk b w' (M.new x1 (own_blk ⟨by subst e1; exact Nat.le_refl _, ?_⟩ (by simp) (Bd.zeros _ _) (by omega)))
  have e2 : (madeCells [Value.int k 0].toArray (n * 1)).toList = ints k (List.replicate n 0) := by
   rw [Nat.mul_one]
   apply List.ext_getElem
   ·simp [madeCells, ints]
   intro j h1 h2
   simp [madeCells, ints, Nat.mod_one]
  rwa [e2] at B))
theorem J.b1[U:Und P t (.slice e)][I:Inf P e 1 by_ zs]{l':Nat→List Value}(hk:okE m kd=true)(hx:ev l x= .int k q)(kk:∀b,J S0 w0 (.iown e k (some ⟨b,0,none⟩) 1 1 [q]::L) (RY S0 w0 m P ops K rest (l' b)))
  (hq:0≤q∧q<lim k:=by simp only[lim];omega)(hl:∀b,l.set d (.slice (some ⟨b,0,none⟩) 1 1)=l' b:=by intro b;dsimp only[List.set]):J S0 w0 L (RY S0 w0 m P ops K ((⟨some d, .buildSlice t 1 #[(0,x)],ty,pos,af,none⟩,kd)::rest) l):=
 J.eff hk fun w M K' hK => RS.buildSlice (xs := [x]) (vs := [.int k q]) (cs := [.int k q]) U.h I.h (by decide) rfl rfl rfl (by simp [hx]) rfl rfl (by intro v hv; simp only [List.mem_cons, List.not_mem_nil, or_false] at hv; subst hv; rfl) rfl fun b w' e1 s1 x1 B => RS.nil (hK _ w' x1 (by
  rw [hl]
  exact kk b w' (M.new x1 (own_blk (xs := [q]) ⟨by subst e1; exact Nat.le_refl _, B⟩ rfl (.cons hq (.nil _)) (by decide)))))
theorem J.apI{F:Option Addr→Nat→Nat→List Int→List Ent}{l':Option Addr→Nat→List Value}[U:Und P t (.slice e)][I:Inf P e 1 by_ zs](hx:ev l x= .slice a n c)(hy:ev l y= .slice a2 n2 c2)[R:RO L a e k n c xs F](hR:RI S0 w0 L k a2 n2 ys)
  (kk:∀a' c',J S0 w0 (F a' (n+n2) c' (xs++ys)) (RY S0 w0 m P ops K rest (l' a' c')))(hby:by_≤8:=by decide)(hb:n+n2≤17592186044416:=by omega)(hz:zs.length=1:=by rfl)(hl:∀a' c',l.set d (.slice a' (n+n2) c')=l' a' c':=by intro a' c';dsimp only[List.set])(hk:∀a' c',okG m kd (F a' (n+n2) c' (xs++ys)):=by first|exact fun _ _=>trivial|(intro _ _;repeat(first|exact List.Sublist.refl _|refine List.Sublist.cons_cons _ ?_|refine List.Sublist.cons _ ?_))):
  J S0 w0 L (RY S0 w0 m P ops K ((⟨some d, .call {callee:= .builtin .append,args:= #[x,y],argTypes:= #[t,t]},ty,pos,af,none⟩,kd)::rest) l):=
 J.bigs (ι:=Option Addr×Nat) (Ls:=fun i=>F i.1 (n+n2) i.2 (xs++ys)) (none,0) (fun i=>hk i.1 i.2) fun w M K' hK=>by
  obtain⟨S,hr⟩:=hR w M;have h8:(n+n2)*by_≤(n+n2)*8:=Nat.mul_le_mul_left _ hby;obtain⟨S1,_,q1⟩:=M.get (R.h a n c xs).same;refine app_core (cs:=ints k xs) (ds:=ints k ys) M (fun a' c'=>R.h a' (n+n2) c' (xs++ys)) (fun S h=>⟨h.1.own,h.2⟩) hx hy U.h I.h hz (by decide) ⟨S,hr.row⟩ (by rw[ints_length,hr.len,Nat.mul_one]) (ints_one _ _) (by omega) (by omega) (fun a' c' w' ho=>⟨⟨by rw[ints_append];exact ho,q1.1.bd.append hr.bd⟩,fun _ hb=>hb⟩) fun a' c' w' M'=>hK _ w' (a',c') M' ?_;rw[hl];exact kk a' c' w' M'
theorem J.stI{F:Option Addr→Nat→Nat→List Int→List Ent}[Z:Siz P xt 1](hx:ev l x=pt a (i.toNat*1))(hy:ev l y= .int k q)[R:RO L a e k n c xs F](kk:J S0 w0 (F a n c (xs.set i.toNat q)) (RY S0 w0 m P ops K rest l))(hi:0≤i∧i<n:=by omega)(hq:0≤q∧q<lim k:=by simp only[lim];omega)(hk:okG m kd (F a n c (xs.set i.toNat q)):=by first|exact trivial|(repeat(first|exact List.Sublist.refl _|refine List.Sublist.cons_cons _ ?_|refine List.Sublist.cons _ ?_))):
  J S0 w0 L (RY S0 w0 m P ops K ((⟨none, .store xt x y,ty,pos,af,none⟩,kd)::rest) l):=
 J.big hk fun w M K' hK=>by
  obtain⟨S,h1,h2,h3⟩:=M.foc (R.h a n c (xs.set i.toNat q));obtain⟨g,hg⟩:=h2.1.some (by omega);subst hg;refine RS.storeI h2.1 (by rw[hx];rfl) hy Z.h hi hq fun w' x1 N=>have M':=h3 w' S ⟨x1.os,x1.tape,x1.output,by rw[x1.size];exact Nat.le_refl _,fun b _ hb=>x1.block b fun e=>hb (e▸h2.2 g rfl)⟩ ⟨N,h2.2⟩ fun _ hb=> .inl hb;RS.nil (hK _ w' M' (kk w' M'))
end
end G
namespace G
open Go.RowKit
def Ent.gown{α:Type}(f:α→List Value)(sz:Nat)(e:TypeId)(a:Option Addr)(n c:Nat)(lst:List α):Ent:=
 ⟨fun S w=>GOwn f sz 0 w e a n c lst∧∀b,obk a=some b→S b,fun h x=>⟨⟨h.1.own.step fun b hb=>x b (h.2 b hb),h.1.szf,h.1.len⟩,h.2⟩,fun h x=>⟨h.1,fun b hb=>x b (h.1.own.lo b hb).2 (h.2 b hb)⟩⟩
class GO{α:outParam Type}(L:List Ent)(a:Option Addr)(f:outParam (α→List Value))(sz:outParam Nat)(e:outParam TypeId)(n c:outParam Nat)(lst:outParam (List α))(F:outParam (Option Addr→Nat→Nat→List α→List Ent)):Prop where
 h:∀a' n' c' lst',Rpl L (.gown f sz e a n c lst) (.gown f sz e a' n' c' lst') (F a' n' c' lst')
section
variable{α:Type}{L:List Ent}{a:Option Addr}{f:α→List Value}{sz:Nat}{e:TypeId}{n c:Nat}{lst:List α}{x:Ent}{F:Option Addr→Nat→Nat→List α→List Ent}
instance GO.here:GO (.gown f sz e a n c lst::L) a f sz e n c lst (fun a' n' c' lst'=> .gown f sz e a' n' c' lst'::L):=⟨fun _ _ _ _=> .here⟩
instance(priority:=low) GO.there[R:GO L a f sz e n c lst F]:GO (x::L) a f sz e n c lst (fun a' n' c' lst'=>x::F a' n' c' lst'):=⟨fun a' n' c' lst'=> .there (R.h a' n' c' lst')⟩
end
/-! rows that are read, by their address -/
class RRW(L:List Ent)(a:Option Addr)(k:outParam IntKind)(sz n:outParam Nat)(xs:outParam (List Int)):Prop where h:Rpl L (.wrow k sz a n xs) (.wrow k sz a n xs) L
instance RRW.here{L:List Ent}{a:Option Addr}{k:IntKind}{sz n:Nat}{xs:List Int}:RRW (.wrow k sz a n xs::L) a k sz n xs:=⟨.here⟩
instance(priority:=low) RRW.there{L:List Ent}{a:Option Addr}{k:IntKind}{sz n:Nat}{xs:List Int}{x:Ent}[R:RRW L a k sz n xs]:RRW (x::L) a k sz n xs:=⟨.there R.h⟩
class RWO(L:List Ent)(a:Option Addr)(e:outParam TypeId)(k:outParam IntKind)(sz n c:outParam Nat)(xs:outParam (List Int))(F:outParam (Option Addr→Nat→Nat→List Int→List Ent)):Prop where h:∀a' n' c' xs',Rpl L (.wown e k sz a n c xs) (.wown e k sz a' n' c' xs') (F a' n' c' xs')
instance RWO.here{L:List Ent}{a:Option Addr}{e:TypeId}{k:IntKind}{sz n c:Nat}{xs:List Int}:RWO (.wown e k sz a n c xs::L) a e k sz n c xs (fun a' n' c' xs'=> .wown e k sz a' n' c' xs'::L):=⟨fun _ _ _ _=> .here⟩
/-! cells of single values -/
@[reducible] def pcC(q:Pc):List Value:=[.slice q.a q.n q.c]
theorem flat_set{α:Type}(f:α→List Value)(sz:Nat)(hf:∀x,(f x).length=sz):∀(l:List α) (i:Nat) (q:α),i<l.length→(l.set i q).flatMap f=(l.flatMap f).take (sz*i)++f q++(l.flatMap f).drop (sz*i+sz)
 |[],i,q,h=>by simp at h
 |x::l,0,q,_=>by simp[List.drop_append,List.drop_of_length_le,hf]
 |x::l,i+1,q,h=>by
  have ih:=flat_set f sz hf l i q (by simpa using h);have e1:(f x).length≤sz*i+sz:=by rw[hf];omega
  have e2:(f x).length≤sz*i+sz+sz:=by rw[hf];omega
  rw[List.set_cons_succ,List.flatMap_cons,List.flatMap_cons,ih,Nat.mul_add,Nat.mul_one];rw[List.take_append,List.take_of_length_le e1,List.drop_append,List.drop_of_length_le e2,hf];rw[show sz*i+sz - sz=sz*i by omega,show sz*i+sz+sz - sz=sz*i+sz by omega];simp[List.append_assoc]
theorem splice_mid:∀(vs cs:List Value) (o:Nat),o+vs.length≤cs.length→splice cs o vs=cs.take o++vs++cs.drop (o+vs.length)
 |vs,cs,o,h=>by
  apply List.ext_getElem?;intro i;rw[splice_get vs cs o i h];by_cases h1:i<o
  ·rw[if_neg (by omega),List.append_assoc,List.getElem?_append_left (by simp;omega),List.getElem?_take,if_pos h1]
  ·by_cases h2:i<o+vs.length
   ·rw[if_pos (by omega),List.append_assoc,List.getElem?_append_right (by simp;omega),List.getElem?_append_left (by simp;omega)];congr 1;simp;omega
   ·rw[if_neg (by omega),List.getElem?_append_right (by simp;omega),List.getElem?_drop];congr 1;simp;omega
section
variable{S0:Nat→Prop}{w0 w:World}{L L' E:List Ent}{P:Program}{l0:List Oper}{ops:Array Oper}{K:List Value→World→Prop}{rest:List (Oper×Kd)}{l l':List Value}{m:Md}{d:Tmp}{op:Op}{ty:TypeId}{pos:String}{af:Array Edge}{kd:Kd}{v:Value}{x y z:Operand}{t xt yt e T:TypeId}{b o n c n2 c2 sz by_:Nat}{cs cs' vs zs:List Value}{X:World→Prop}
 {k ki:IntKind}{a a2:Option Addr}{xs ys:List Int}{i:Int}{α:Type}{f:α→List Value}{lst lst2:List α}{q:α}{F:Option Addr→Nat→Nat→List α→List Ent}
theorem RW.row'[R:RRW L a k sz n xs]:RW S0 w0 L k sz a n xs:= .row R.h
theorem RW.own'{F:Option Addr→Nat→Nat→List Int→List Ent}[R:RWO L a e k sz n c xs F]:RW S0 w0 L k sz a n xs:= .own (R.h a n c xs).same
theorem RG.own'[R:GO L a f sz e n c lst F]:RG S0 w0 L f sz a n lst:=fun w M=>let ⟨S,_,h⟩:=M.get (R.h a n c lst).same;⟨_,h.1.row⟩
theorem gown_blk(h:(Ent.blk b cs e).ok S0 w)(hf:∀x,(f x).length=sz)(hc:cs=lst.flatMap f)(hn:lst.length=n)(hm:n≤9223372036854775807):(Ent.gown f sz e (some ⟨b,0,none⟩) n n lst).ok S0 w:=⟨GOwn.of_blk h.2 hf hc hn (Nat.zero_le _) hm,fun q hq=>by simp[obk]at hq;subst hq;exact h.1⟩
theorem J.nilG(f:α→List Value)(sz:Nat)(e:TypeId)(hf:∀x,(f x).length=sz)(kk:J S0 w0 (.gown f sz e none 0 0 []::L) X):J S0 w0 L X:=J.add0 (.gown f sz e none 0 0 []) (fun w=>⟨GOwn.nil 0 w e hf,fun b hb=>by cases hb⟩) kk
theorem made_rep(f:α→List Value)(hf:∀x,(f x).length=sz)(hz:0<sz)(q:α):∀n,(madeCells (f q).toArray (n*sz)).toList=(List.replicate n q).flatMap f:=by
 intro n;apply List.ext_getElem
 ·rw[flat_len f sz hf];simp[madeCells,Nat.mul_comm]
 intro j h1 h2;rw[flat_len f sz hf,List.length_replicate]at h2;have hj:j / sz<n:=Nat.div_lt_of_lt_mul h2;have hg:=flat_get f sz hf q (List.replicate n q) (j / sz) (by simpa using hj);rw[List.getD_eq_getElem?_getD,List.getElem?_replicate,if_pos hj,Option.getD_some]at hg;have hm:=Nat.mod_lt j hz;have e1:(((List.replicate n q).flatMap f).drop (sz*(j / sz))).take sz=f q:=hg;have e2:=congrArg (fun t=>t[j % sz]?) e1;simp only[List.getElem?_take,if_pos hm,List.getElem?_drop,Nat.div_add_mod]at e2;have hl:j % sz<(f q).length:=by rw[hf];exact hm
 rw[List.getElem?_eq_getElem (by rw[flat_len f sz hf,List.length_replicate];exact h2),List.getElem?_eq_getElem hl]at e2;rw[Option.some.inj e2];simp only[madeCells,List.size_toArray,hf,Array.toList_map,List.getElem_map,Array.toList_range,List.getElem_range];rw[getElem!_pos _ _ (by simpa using hl)];simp
theorem J.mkG(f:α→List Value)(q:α)(hf:∀x,(f x).length=sz)[U:Und P t (.slice e)][I:Inf P e sz by_ zs]{l':Nat→List Value}(hk:okE m kd=true)(hx:ev l x= .int ki (n:Nat))(hy:ev l y= .int ki (n:Nat))(hz:zs=f q)(kk:∀b,J S0 w0 (.gown f sz e (some ⟨b,0,none⟩) n n (List.replicate n q)::L) (RY S0 w0 m P ops K rest (l' b)))
  (hb:(by_:Int)*(n:Nat)≤281474976710656:=by omega)(hsz:0<sz:=by decide)(hl:∀b,l.set d (.slice (some ⟨b,0,none⟩) n n)=l' b:=by intro b;dsimp only[List.set])(hi:n≤9223372036854775807:=by omega):J S0 w0 L (RY S0 w0 m P ops K ((⟨some d, .makeSlice t x y,ty,pos,af,none⟩,kd)::rest) l):=
 J.eff hk fun w M K' hK => RS.make hx hy U.h I.h (Int.natCast_nonneg n) hb (by omega) fun b w' e1 s1 x1 B => RS.nil (hK _ w' x1 (by
  rw [Int.toNat_natCast] at B ⊢
  rw [hl]
  refine kk b w' (M.new x1 (gown_blk ⟨by subst e1; exact Nat.le_refl _, B⟩ hf ?_ (by simp) (by omega)))
  rw [hz, made_rep f hf hsz]))
theorem J.b1G(f:α→List Value)(q:α)(hf:∀x,(f x).length=sz)[U:Und P t (.slice e)][I:Inf P e sz by_ zs]{l':Nat→List Value}(hk:okE m kd=true)(hx:ev l x= .agg vs.toArray)(hq:vs=f q)(kk:∀b,J S0 w0 (.gown f sz e (some ⟨b,0,none⟩) 1 1 [q]::L) (RY S0 w0 m P ops K rest (l' b)))
  (hsz:0<sz:=by decide)(hsz':Nat.ble sz 1000=true:=by decide)(hl:∀b,l.set d (.slice (some ⟨b,0,none⟩) 1 1)=l' b:=by intro b;dsimp only[List.set]):J S0 w0 L (RY S0 w0 m P ops K ((⟨some d, .buildSlice t 1 #[(0,x)],ty,pos,af,none⟩,kd)::rest) l):=
 J.eff hk fun w M K' hK => RS.buildSlice (xs := [x]) (vs := [.agg vs.toArray]) (cs := vs) U.h I.h hsz rfl hsz' rfl (by simp [hx]) rfl (by simp [Value.cells]) (by intro v hv; simp only [List.mem_cons, List.not_mem_nil, or_false] at hv; subst hv; simp [Value.cells, hq, hf]) rfl fun b w' e1 s1 x1 B => RS.nil (hK _ w' x1 (by
  rw [hl]
  exact kk b w' (M.new x1 (gown_blk (lst := [q]) ⟨by subst e1; exact Nat.le_refl _, B⟩ hf (by simp [hq]) rfl (by decide)))))
/-! wide elements that are owned -/
theorem J.apW{F:Option Addr→Nat→Nat→List Int→List Ent}{l':Option Addr→Nat→List Value}[U:Und P t (.slice e)][I:Inf P e sz by_ zs](hx:ev l x= .slice a n c)(hy:ev l y= .slice a2 n2 c2)[R:RWO L a e k sz n c xs F](hR:RW S0 w0 L k sz a2 n2 ys)
  (kk:∀a' c',J S0 w0 (F a' (n+n2) c' (xs++ys)) (RY S0 w0 m P ops K rest (l' a' c')))(hsz:0<sz:=by decide)(hby:by_≤1000:=by decide)(hb:n+n2≤100000000:=by omega)(hz:zs.length=sz:=by first|rfl|simp[ints])(hl:∀a' c',l.set d (.slice a' (n+n2) c')=l' a' c':=by intro a' c';dsimp only[List.set])(hk:∀a' c',okG m kd (F a' (n+n2) c' (xs++ys)):=by first|exact fun _ _=>trivial|(intro _ _;repeat(first|exact List.Sublist.refl _|refine List.Sublist.cons_cons _ ?_|refine List.Sublist.cons _ ?_))):
  J S0 w0 L (RY S0 w0 m P ops K ((⟨some d, .call {callee:= .builtin .append,args:= #[x,y],argTypes:= #[t,t]},ty,pos,af,none⟩,kd)::rest) l):=
 J.bigs (ι:=Option Addr×Nat) (Ls:=fun i=>F i.1 (n+n2) i.2 (xs++ys)) (none,0) (fun i=>hk i.1 i.2) fun w M K' hK=>by
  obtain⟨S,hr⟩:=hR w M;have h8:(n+n2)*by_≤(n+n2)*1000:=Nat.mul_le_mul_left _ hby;obtain⟨S1,_,q1⟩:=M.get (R.h a n c xs).same;refine app_core (cs:=ints k xs) (ds:=ints k ys) M (fun a' c'=>R.h a' (n+n2) c' (xs++ys)) (fun S h=>⟨h.1.own,h.2⟩) hx hy U.h I.h hz hsz ⟨S,hr.row⟩ (by rw[ints_length,hr.len,Nat.mul_comm]) (ints_one _ _) (by omega) (by omega) (fun a' c' w' ho=>⟨⟨by rw[ints_append];exact ho,q1.1.bd.append hr.bd⟩,fun _ hb=>hb⟩) fun a' c' w' M'=>hK _ w' (a',c') M' ?_;rw[hl];exact kk a' c' w' M'
theorem J.apG{l':Option Addr→Nat→List Value}[U:Und P t (.slice e)][I:Inf P e sz by_ zs](hx:ev l x= .slice a n c)(hy:ev l y= .slice a2 n2 c2)[R:GO L a f sz e n c lst F](hR:RG S0 w0 L f sz a2 n2 lst2)(h1:∀x,∀u∈f x,u.oneCell'=true)
  (kk:∀a' c',J S0 w0 (F a' (n+n2) c' (lst++lst2)) (RY S0 w0 m P ops K rest (l' a' c')))(hsz:0<sz:=by decide)(hby:by_≤1000:=by decide)(hb:n+n2≤100000000:=by omega)(hz:zs.length=sz:=by first|rfl|simp[ints])(hl:∀a' c',l.set d (.slice a' (n+n2) c')=l' a' c':=by intro a' c';dsimp only[List.set])(hk:∀a' c',okG m kd (F a' (n+n2) c' (lst++lst2)):=by first|exact fun _ _=>trivial|(intro _ _;repeat(first|exact List.Sublist.refl _|refine List.Sublist.cons_cons _ ?_|refine List.Sublist.cons _ ?_))):
  J S0 w0 L (RY S0 w0 m P ops K ((⟨some d, .call {callee:= .builtin .append,args:= #[x,y],argTypes:= #[t,t]},ty,pos,af,none⟩,kd)::rest) l):=
 J.bigs (ι:=Option Addr×Nat) (Ls:=fun i=>F i.1 (n+n2) i.2 (lst++lst2)) (none,0) (fun i=>hk i.1 i.2) fun w M K' hK=>by
  obtain⟨S,hr⟩:=hR w M;have h8:(n+n2)*by_≤(n+n2)*1000:=Nat.mul_le_mul_left _ hby;obtain⟨S1,_,q1⟩:=M.get (R.h a n c lst).same;refine app_core (cs:=lst.flatMap f) (ds:=lst2.flatMap f) M (fun a' c'=>R.h a' (n+n2) c' (lst++lst2)) (fun S h=>⟨h.1.own,h.2⟩) hx hy U.h I.h hz hsz ⟨S,hr.row⟩ (by rw[flat_len f sz hr.szf,hr.len,Nat.mul_comm]) (fun u hu=>by obtain⟨x,_,hx⟩:=List.mem_flatMap.1 hu;exact h1 x u hx) (by omega) (by omega)
   (fun a' c' w' ho=>⟨⟨by rw[List.flatMap_append];exact ho,q1.1.szf,by rw[List.length_append,q1.1.len,hr.len]⟩,fun _ hb=>hb⟩) fun a' c' w' M'=>hK _ w' (a',c') M' ?_
  rw[hl];exact kk a' c' w' M'
theorem GOwn.blk{lo:Nat}(h:GOwn f sz lo w e (Option.some ⟨b,0,none⟩) n c lst):∃cur:List Value,Blk w b cur e∧n≤c∧c≤maxLen∧cur.length=c*sz∧cur.take (n*sz)=lst.flatMap f∧lo≤b:=by
 rcases h.own.2 with⟨hv,_⟩|⟨g,cap,cur,hv,hb,hg,hnc,hcm,hcs,ht⟩
 ·simp at hv
 ·obtain⟨rfl,rfl⟩:b=g∧c=cap:=by simpa using hv
  exact⟨cur.toList,hg,hnc,hcm,by simpa using hcs,ht,hb⟩
theorem GOwn.of_cur{lo:Nat}{cur:List Value}(B:Blk w b cur e)(hf:∀x,(f x).length=sz)(hnc:n≤c)(hcm:c≤maxLen)(hl:cur.length=c*sz)(ht:cur.take (n*sz)=lst.flatMap f)(hn:lst.length=n)(hb:lo≤b):GOwn f sz lo w e (Option.some ⟨b,0,none⟩) n c lst:=
 ⟨⟨by rw[flat_len f sz hf,hn,Nat.mul_comm], .inr ⟨b,c,cur.toArray,rfl,hb,B,hnc,hcm,by simpa using hl,by simpa using ht⟩⟩,hf,hn⟩
theorem GOwn.over{lo o:Nat}{w':World}(h:GOwn f sz lo w e (Option.some ⟨b,0,none⟩) n c lst)(hi:0≤i∧i<n)(hq:splice (lst.flatMap f) (i.toNat*sz+o) vs=(lst.set i.toNat q).flatMap f)(ho:o+vs.length≤sz)(hB:∀cur,Blk w b cur e→i.toNat*sz+o+vs.length≤cur.length→Blk w' b (splice cur (i.toNat*sz+o) vs) e):GOwn f sz lo w' e (Option.some ⟨b,0,none⟩) n c (lst.set i.toNat q):=by
 obtain⟨cur,B,h1,h2,h3,h4,h5⟩:=h.blk;have h6:(i.toNat+1)*sz≤n*sz:=Nat.mul_le_mul_right _ (by omega);have h7:n*sz≤c*sz:=Nat.mul_le_mul_right _ h1;rw[Nat.add_mul,Nat.one_mul]at h6;have hlen:(lst.flatMap f).length=n*sz:=by rw[flat_len f sz h.szf,h.len,Nat.mul_comm]
 refine GOwn.of_cur (hB cur B (by omega)) h.szf h1 h2 (by rw[splice_length];exact h3) ?_ (by rw[List.length_set];exact h.len) h5;rw[←hq];apply List.ext_getElem?;intro j;rw[List.getElem?_take,splice_get _ _ _ _ (by omega),splice_get _ _ _ _ (by omega),←h4,List.getElem?_take];by_cases hj:j<n*sz
 ·rw[if_pos hj,if_pos hj]
 ·rw[if_neg hj,if_neg (by omega),if_neg hj]
theorem over_all(hf:∀x,(f x).length=sz){j:Nat}(hj:j<lst.length):splice (lst.flatMap f) (j*sz+0) (f q)=(lst.set j q).flatMap f:=by
 have h2:sz*(j+1)≤sz*lst.length:=Nat.mul_le_mul_left _ hj;rw[Nat.mul_add,Nat.mul_one]at h2;rw[splice_mid _ _ _ (by rw[flat_len f sz hf,hf,Nat.mul_comm j sz];omega),flat_set f sz hf _ _ _ hj,hf,Nat.add_zero,Nat.mul_comm j sz]
theorem gown_st{S:Nat→Prop}{w w':World}{g:Nat}(x1:St g w w')(hs:S g):Pr S w w':=⟨x1.os,x1.tape,x1.output,by rw[x1.size];exact Nat.le_refl _,fun b _ hb=>x1.block b fun e=>hb (e▸hs)⟩
theorem J.stG[Z:Siz P xt sz](hx:ev l x=pt a (i.toNat*sz))(hy:ev l y= .agg vs.toArray)[R:GO L a f sz e n c lst F](hq:vs=f q)(kk:J S0 w0 (F a n c (lst.set i.toNat q)) (RY S0 w0 m P ops K rest l))(hz:sz≠0:=by decide)(hi:0≤i∧i<n:=by omega)(hv:vs.all cellB=true:=by rfl)(hk:okG m kd (F a n c (lst.set i.toNat q)):=by first|exact trivial|(repeat(first|exact List.Sublist.refl _|refine List.Sublist.cons_cons _ ?_|refine List.Sublist.cons _ ?_))):
  J S0 w0 L (RY S0 w0 m P ops K ((⟨none, .store xt x y,ty,pos,af,none⟩,kd)::rest) l):=
 J.big hk fun w M K' hK=>by
  obtain⟨S,h1,h2,h3⟩:=M.foc (R.h a n c (lst.set i.toNat q));obtain⟨g,hg⟩:=h2.1.some (by omega);subst hg;obtain⟨cur,B,b1,b2,b3,b4,b5⟩:=h2.1.blk;have h6:(i.toNat+1)*sz≤n*sz:=Nat.mul_le_mul_right _ (by omega);have h7:n*sz≤c*sz:=Nat.mul_le_mul_right _ b1;rw[Nat.add_mul,Nat.one_mul]at h6;have hvl:vs.length=sz:=by rw[hq];exact h2.1.szf q
  refine RS.storeAgg (o:=0+i.toNat*sz) (by rw[hx];rfl) hy Z.h hz hvl (List.all_eq_true.1 hv) B (by omega) fun w' x1 N=>RS.nil (have M':=h3 w' S (gown_st x1 (h2.2 g rfl)) ⟨?_,h2.2⟩ fun _ hb=> .inl hb;hK _ w' M' (kk w' M'));subst hq;rw[Nat.zero_add]at N;exact h2.1.over (o:=0) hi (over_all h2.1.szf (by have:=h2.1.len;omega)) (by omega) fun cur' B' _=>by
   rw[show cur'=cur from by unfold Blk at B B';rw[B]at B';simpa using B'.symm];exact N
theorem J.ldG1[U:Sca P xt](hx:ev l x=pt a (i.toNat*1))(hR:RG S0 w0 (Lv m L) f 1 a n lst)(kk:J S0 w0 L (RY S0 w0 m P ops K rest l')){q:α}(hq:lst[i.toNat]? =some q:=by assumption)(hf:f q=[v]:=by rfl)(hi:0≤i∧i<n:=by omega)(hl:l.set d v=l':=by dsimp only[List.set]):
  J S0 w0 L (RY S0 w0 m P ops K ((⟨some d, .load xt x,ty,pos,af,none⟩, .q)::rest) l):=
 J.val (fun w M => by
  obtain ⟨S, h⟩ := hR w M
  obtain ⟨b, o', ha, _, hc⟩ := h.get (by decide) hq hi
  have : w.cell? ⟨b, o' + i.toNat * 1, Option.none⟩ = Option.some v := by have := hc 0 (by rw [hf]; exact Nat.zero_lt_one); rw [hf] at this; exact this
  obtain ⟨_, u1, u2⟩ := U.h
  exact D.load (by rw [hx, pt_some ha]) u1 u2 this) kk hl
theorem J.stG1[Z:Siz P xt 1](hx:ev l x=pt a (i.toNat*1))(hy:ev l y=v)[R:GO L a f 1 e n c lst F](hq:f q=[v])(kk:J S0 w0 (F a n c (lst.set i.toNat q)) (RY S0 w0 m P ops K rest l))(hi:0≤i∧i<n:=by omega)(hv:cellB v=true:=by rfl)(hk:okG m kd (F a n c (lst.set i.toNat q)):=by first|exact trivial|(repeat(first|exact List.Sublist.refl _|refine List.Sublist.cons_cons _ ?_|refine List.Sublist.cons _ ?_))):
  J S0 w0 L (RY S0 w0 m P ops K ((⟨none, .store xt x y,ty,pos,af,none⟩,kd)::rest) l):=
 J.big hk fun w M K' hK=>by
  obtain⟨S,h1,h2,h3⟩:=M.foc (R.h a n c (lst.set i.toNat q));obtain⟨g,hg⟩:=h2.1.some (by omega);subst hg;obtain⟨cur,B,b1,b2,b3,b4,b5⟩:=h2.1.blk;refine RS.store (o:=0+i.toNat*1) (by rw[hx];rfl) hy Z.h hv B (by rw[Nat.ble_eq];omega) fun w' x1 N=>RS.nil (have M':=h3 w' S (gown_st x1 (h2.2 g rfl)) ⟨?_,h2.2⟩ fun _ hb=> .inl hb;hK _ w' M' (kk w' M'));rw[Nat.zero_add]at N;exact h2.1.over (o:=0) (vs:=[v]) hi (by rw[←hq];exact over_all h2.1.szf (by have:=h2.1.len;omega)) (by simp) fun cur' B' _=>by
   rw[show cur'=cur from by unfold Blk at B B';rw[B]at B';simpa using B'.symm];exact N
end
end G
namespace G
open Go.RowKit
def Ent.emp:Ent:=⟨fun _ _=>True,fun _ _=>trivial,fun _ _=>trivial⟩
def Ent.all(E:List Ent):Ent:=⟨Sep E,Sep.step,Sep.mono⟩
section
variable{S0:Nat→Prop}{w0 w:World}{L L1 L2 E:List Ent}{e e1 e2 e3:Ent}{X:World→Prop}
theorem Mem.split(M:Mem S0 w0 L w)(r:Rpl L e e1 L1)(h:∀S,e.ok S w→∃S1 S2:Nat→Prop,(∀b,S1 b→S b)∧(∀b,S2 b→S b)∧(∀b,S1 b→S2 b→False)∧e1.ok S1 w∧e2.ok S2 w):Mem S0 w0 (e2::L1) w:=by
 obtain⟨S,T,h1,h2,h3,h4,h5⟩:=r.foc M.sep;obtain⟨S1,S2,g1,g2,g3,g4,g5⟩:=h S h4
 exact ⟨M.pr, S2, fun b => S1 b ∨ T b, fun b hb => h1 b (g2 b hb), fun b hb => hb.elim (fun k => h1 b (g1 b k)) (h2 b), fun b hb hc => hc.elim (fun k => g3 b k hb) (fun k => h3 b (g2 b hb) k), g5,
  h5 (fun b hb => .inl hb) (fun b hb => .inr hb) (fun b hb hc => h3 b (g1 b hb) hc) (fun _ _ _ => rfl) g4⟩
theorem Mem.merge(M:Mem S0 w0 L w)(r1:Rpl L e1 .emp L1)(r2:Rpl L1 e2 e3 L2)(h:∀S1 S2:Nat→Prop,(∀b,S1 b→S2 b→False)→e1.ok S1 w→e2.ok S2 w→e3.ok (fun b=>S1 b∨S2 b) w):Mem S0 w0 L2 w:=by
 obtain⟨S,T,h1,h2,h3,h4,h5⟩:=r1.foc M.sep;have hs:Sep L1 T w:=h5 (U':=T) (S':=no) (fun b hb=>hb.elim) (fun b hb=>hb) (fun b hb=>hb.elim) (fun _ _ _=>rfl) trivial;obtain⟨S2,T2,g1,g2,g3,g4,g5⟩:=r2.foc hs;exact⟨M.pr,g5 (fun b hb=>hb.elim (h1 b) (fun k=>h2 b (g1 b k))) (fun b hb=>h2 b (g2 b hb)) (fun b hb hc=>hb.elim (fun k=>h3 b k (g2 b hc)) (fun k=>g3 b k hc)) (fun _ _ _=>rfl) (h S S2 (fun b hb hc=>h3 b hb (g1 b hc)) h4 g4)⟩
theorem J.part{F:Ent→List Ent}(e e1 e2:Ent)[R:RE L e F](h:∀S w,e.ok S w→∃S1 S2:Nat→Prop,(∀b,S1 b→S b)∧(∀b,S2 b→S b)∧(∀b,S1 b→S2 b→False)∧e1.ok S1 w∧e2.ok S2 w)(k:J S0 w0 (e2::F e1) X):J S0 w0 L X:=
 fun w M=>k w (M.split (R.h e1) fun S=>h S w)
theorem J.merge{F1 F2:Ent→List Ent}(e1 e2 e3:Ent)[R:RE L e1 F1][R2:RE (F1 .emp) e2 F2](h:∀(S1 S2:Nat→Prop) w,(∀b,S1 b→S2 b→False)→e1.ok S1 w→e2.ok S2 w→e3.ok (fun b=>S1 b∨S2 b) w)(k:J S0 w0 (F2 e3) X):J S0 w0 L X:=
 fun w M=>k w (M.merge (R.h .emp) (R2.h e3) fun S1 S2=>h S1 S2 w)
theorem J.fact{p:Prop}{F:Ent→List Ent}(e:Ent)[R:RE L e F](h:∀S w,e.ok S w→p)(k:p→J S0 w0 L X):J S0 w0 L X:=fun w M=>by
 obtain⟨S,_,h2⟩:=M.get (R.h e).same;exact k (h S w h2) w M
/-! one of many -/
theorem sep_open:∀ {E:List Ent} {i:Nat} {S:Nat→Prop},E[i]? =some e→Sep E S w→∃S1 S2:Nat→Prop,(∀b,S1 b→S b)∧(∀b,S2 b→S b)∧(∀b,S1 b→S2 b→False)∧Sep (E.eraseIdx i) S1 w∧e.ok S2 w
 |[],_,_,h,_=>by simp at h
 |x::E,0,S,h,⟨A,B,h1,h2,h3,h4,h5⟩=>by
  obtain rfl:x=e:=by simpa using h
  exact⟨B,A,h2,h1,fun b hb hc=>h3 b hc hb,h5,h4⟩
 |x::E,i+1,S,h,⟨A,B,h1,h2,h3,h4,h5⟩=>by
  obtain⟨S1,S2,g1,g2,g3,g4,g5⟩:=sep_open (E:=E) (i:=i) (by simpa using h) h5;exact⟨fun b=>A b∨S1 b,S2,fun b hb=>hb.elim (h1 b) (fun k=>h2 b (g1 b k)),fun b hb=>h2 b (g2 b hb),fun b hb hc=>hb.elim (fun k=>h3 b k (g2 b hc)) (fun k=>g3 b k hc),⟨A,S1,fun b hb=> .inl hb,fun b hb=> .inr hb,fun b hb hc=>h3 b hb (g1 b hc),h4,g4⟩,g5⟩
theorem sep_shut:∀ {E:List Ent} {i:Nat} {S1 S2:Nat→Prop},i<E.length→Sep (E.eraseIdx i) S1 w→e.ok S2 w→(∀b,S2 b→S1 b→False)→Sep (E.set i e) (fun b=>S2 b∨S1 b) w
 |[],_,_,_,h,_,_,_=>by simp at h
 |x::E,0,S1,S2,h,hE,he,hd=>⟨S2,S1,fun b hb=> .inl hb,fun b hb=> .inr hb,hd,he,hE⟩
 |x::E,i+1,S1,S2,h,⟨A,B,h1,h2,h3,h4,h5⟩,he,hd=>
  ⟨A,fun b=>S2 b∨B b,fun b hb=> .inr (h1 b hb),fun b hb=>hb.imp_right (h2 b),fun b hb hc=>hc.elim (fun k=>hd b k (h1 b hb)) (h3 b hb),h4,sep_shut (by simpa using h) h5 he fun b hb hc=>hd b hb (h2 b hc)⟩
theorem J.openA{F:Ent→List Ent}(E:List Ent)(i:Nat)[R:RE L (.all E) F](hi:E[i]? =some e)(k:J S0 w0 (e::F (.all (E.eraseIdx i))) X):J S0 w0 L X:=
 J.part (.all E) (.all (E.eraseIdx i)) e (fun S w h=>sep_open hi h) k
theorem J.shutA{F1 F2:Ent→List Ent}(E:List Ent)(i:Nat)(e:Ent)[R:RE L e F1][R2:RE (F1 .emp) (.all (E.eraseIdx i)) F2](hi:i<E.length)(k:J S0 w0 (F2 (.all (E.set i e))) X):J S0 w0 L X:=
 J.merge e (.all (E.eraseIdx i)) (.all (E.set i e)) (fun S1 S2 w hd h1 h2=>sep_shut hi h2 h1 hd) k
theorem J.newA(E:List Ent)(k:J S0 w0 (.all E::L) X)(h:∀w,Sep E no w):J S0 w0 L X:=J.add0 (.all E) h k
end
def pcE(e:TypeId)(k:IntKind)(q:Pc):Ent:= .iown e k q.a q.n q.c q.xs
theorem sep_nils(e:TypeId)(k:IntKind)(w:World):∀n,Sep ((List.replicate n (default:Pc)).map (pcE e k)) no w
 |0=>trivial
 |n+1=>⟨no,no,fun _ h=>h,fun _ h=>h,fun _ h=>h.elim,⟨IOwn.nil 0 w e k,fun b hb=>by cases hb⟩,sep_nils e k w n⟩
theorem sep_at{e:Ent}{w:World}:∀ {E:List Ent} {i:Nat} {S:Nat→Prop},E[i]? =some e→Sep E S w→∃S',e.ok S' w:=fun h hs=>let ⟨_,S2,_,_,_,_,h5⟩:=sep_open h hs;⟨S2,h5⟩
theorem RI.all{S0:Nat→Prop}{w0:World}{L:List Ent}{e:TypeId}{k:IntKind}{qs:List Pc}{q:Pc}{i:Nat}{F:Ent→List Ent}[R:RE L (.all (qs.map (pcE e k))) F](hq:qs[i]? =some q):RI S0 w0 L k q.a q.n q.xs:=fun w M=>by
 obtain⟨S,_,h2⟩:=M.get (R.h (.all (qs.map (pcE e k)))).same;obtain⟨S',h3⟩:=sep_at (i:=i) (e:=pcE e k q) (by rw[List.getElem?_map,hq];rfl) h2;exact⟨_,h3.1.row⟩
theorem J.openP{S0:Nat→Prop}{w0:World}{L:List Ent}{X:World→Prop}{F:Ent→List Ent}(e:TypeId)(k:IntKind)(qs:List Pc){i:Nat}{q:Pc}[R:RE L (.all (qs.map (pcE e k))) F](hq:qs[i]? =some q)(kk:J S0 w0 (.iown e k q.a q.n q.c q.xs::F (.all ((qs.map (pcE e k)).eraseIdx i))) X):J S0 w0 L X:=
 J.openA (qs.map (pcE e k)) i (by rw[List.getElem?_map,hq];rfl) kk
theorem J.shutP{S0:Nat→Prop}{w0:World}{L:List Ent}{X:World→Prop}{F1 F2:Ent→List Ent}(e:TypeId)(k:IntKind)(qs:List Pc)(i:Nat)(q':Pc)[R:RE L (.iown e k q'.a q'.n q'.c q'.xs) F1][R2:RE (F1 .emp) (.all ((qs.map (pcE e k)).eraseIdx i)) F2](hi:i<qs.length)(kk:J S0 w0 (F2 (.all ((qs.set i q').map (pcE e k)))) X):J S0 w0 L X:=
 J.shutA (qs.map (pcE e k)) i (pcE e k q') (R:=R) (R2:=R2) (by rw[List.length_map];exact hi) (by rw[←List.map_set];exact kk)
/-! records with rows inside -/
section
variable{S0:Nat→Prop}{w0 w:World}{L:List Ent}{X:World→Prop}{α:Type}{g:α→List Inn}{l1 l2:List α}
theorem iown_bd{e:TypeId}{k:IntKind}{a:Option Addr}{n c:Nat}{xs:List Int}{S:Nat→Prop}(h:(Ent.iown e k a n c xs).ok S w):Bd k xs:=h.1.bd
end
end G
namespace S
theorem nodup_len:∀ {l m:List Nat},l.Nodup→(∀x∈l,x∈m)→l.length≤m.length
 |[],_,_,_=>Nat.zero_le _
 |x::l,m,hn,hs=>by
  have hx:x∈m:=hs x (List.mem_cons_self ..);have h1:=List.nodup_cons.1 hn;have h2:l.length≤(m.erase x).length:=nodup_len h1.2 (fun y hy=>(List.mem_erase_of_ne (fun e=>by subst e;exact h1.1 hy)).2 (hs y (List.mem_cons_of_mem _ hy)));rw[List.length_erase_of_mem hx]at h2;have:=List.length_pos_of_mem hx;simp only[List.length_cons];omega
def Seqd(P:Nat→List Nat)(l:List Nat):Prop:=∀i,i<l.length→∀p∈P (l.getD i 0),p∈l.take i
def Clsd(P:Nat→List Nat)(N:Nat)(l:List Nat):Prop:=∀i,i<N→(∀p∈P i,p∈l)→i∈l
def Found(P:Nat→List Nat)(N:Nat):Prop:=∃l:List Nat,l.Nodup∧(∀x∈l,x<N)∧N≤l.length∧Seqd P l
theorem seqd_sub{P:Nat→List Nat}{N:Nat}{l m:List Nat}(hl:∀x∈l,x<N)(hs:Seqd P l)(hc:Clsd P N m):∀i,i≤l.length→∀x∈l.take i,x∈m:=by
 intro i
 induction i with
 |zero=>intro _ x hx;simp at hx
 |succ i ih=>
  intro hi x hx;rw[←List.take_append_getElem (by omega:i<l.length)]at hx;rcases List.mem_append.1 hx with h|h
  ·exact ih (by omega) x h
  ·have e:x=l.getD i 0:=by rw[List.getD_eq_getElem?_getD,List.getElem?_eq_getElem (by omega)];simpa using h
   subst e;refine hc _ (hl _ ?_) (fun p hp=>ih (by omega) p (hs i (by omega) p hp));rw[List.getD_eq_getElem?_getD,List.getElem?_eq_getElem (by omega)];exact List.getElem_mem (by omega)
theorem found_iff{P:Nat→List Nat}{N:Nat}{l:List Nat}(hn:l.Nodup)(hb:∀x∈l,x<N)(hs:Seqd P l)(hc:Clsd P N l):Found P N↔¬l.length<N:=by
 constructor
 ·rintro⟨m,m1,m2,m3,m4⟩ h;have h1:=seqd_sub m2 m4 hc m.length (Nat.le_refl _);rw[List.take_length]at h1;have:=nodup_len m1 h1;omega
 ·intro h;exact⟨l,hn,hb,by omega,hs⟩
theorem getD_snoc(l:List Nat)(x i:Nat):(l++[x]).getD i 0=if i<l.length then l.getD i 0 else if i=l.length then x else 0:=by
 by_cases h:i<l.length
 ·rw[if_pos h,List.getD_eq_getElem?_getD,List.getD_eq_getElem?_getD,List.getElem?_append_left h]
 ·rw[if_neg h];by_cases e:i=l.length
  ·subst e;simp
  ·rw[if_neg e,List.getD_eq_getElem?_getD,List.getElem?_eq_none (by simp;omega)];rfl
theorem Seqd.snoc{P:Nat→List Nat}{l:List Nat}{x d:Nat}(hs:Seqd P l)(hx:∀p∈P x,p∈l.take d):Seqd P (l++[x]):=by
 intro i hi p hp;rw[getD_snoc]at hp;rw[List.length_append,List.length_singleton]at hi;by_cases h:i<l.length
 ·rw[if_pos h]at hp;rw[List.take_append_of_le_length (by omega)];exact hs i h p hp
 ·rw[if_neg h,if_pos (by omega)]at hp;have:=hx p hp;rw[show i=l.length by omega,List.take_left];exact List.mem_of_mem_take this
def behS(P:Nat→List Nat)(k a:Nat):List Nat:=(List.range k).flatMap fun i=>List.replicate ((P i).count a) i
theorem behS_succ(P:Nat→List Nat)(k a:Nat):behS P (k+1) a=behS P k a++List.replicate ((P k).count a) k:=by
 unfold behS;rw[List.range_succ,List.flatMap_append];simp
theorem behS_count(P:Nat→List Nat)(a i:Nat):∀k,(behS P k a).count i=if i<k then(P i).count a else 0
 |0=>by simp[behS]
 |k+1=>by
  rw[behS_succ,List.count_append,behS_count P a i k,List.count_replicate];by_cases h:i<k
  ·rw[if_pos h,if_pos (by omega:i<k+1),if_neg (by simp;omega),Nat.add_zero]
  ·by_cases e:i=k
   ·subst e;simp
   ·rw[if_neg h,if_neg (by omega:¬i<k+1),if_neg (by simp;omega)]
theorem behS_lt(P:Nat→List Nat)(k a:Nat):∀x∈behS P k a,x<k:=by
 intro x hx;obtain⟨i,hi,hx⟩:=List.mem_flatMap.1 hx;have:=List.mem_range.1 hi;have:=(List.mem_replicate.1 hx).2;omega
def leftS(D ps:List Nat):Nat:=ps.countP (fun p=>decide (p∉D))
theorem leftS_nil(ps:List Nat):leftS [] ps=ps.length:=by
 unfold leftS;rw[List.countP_eq_length];intro a _;simp
theorem leftS_snoc(D:List Nat)(a:Nat)(ha:a∉D):∀ps:List Nat,leftS D ps=leftS (D++[a]) ps+ps.count a
 |[]=>by simp[leftS]
 |p::ps=>by
  have ih:=leftS_snoc D a ha ps;unfold leftS at ih⊢;rw[List.countP_cons,List.countP_cons,List.count_cons];by_cases e:p=a
  ·subst e;rw[if_pos (decide_eq_true ha),if_neg (by simp),if_pos (by simp)];omega
  ·rw[if_neg (by simpa using e) (c:=(p==a)=true)];by_cases h:p∈D
   ·rw[if_neg (by simp[h]),if_neg (by simp[h])];omega
   ·rw[if_pos (decide_eq_true h),if_pos (by simp[h,e])];omega
theorem leftS_zero{D ps:List Nat}:leftS D ps=0↔∀p∈ps,p∈D:=by
 unfold leftS;rw[List.countP_eq_zero];simp
structure Kahn(P:Nat→List Nat)(N:Nat)(wt:Nat→Nat)(ready:List Nat)(d:Nat):Prop where
 nd:ready.Nodup
 lt:∀x∈ready,x<N
 sq:Seqd P ready
 dl:d≤ready.length
 w:∀k,k<N→wt k=leftS (ready.take d) (P k)
 z:∀k,k<N→(k∈ready↔wt k=0)
structure KahnI(P:Nat→List Nat)(N:Nat)(wt:Nat→Nat)(ready:List Nat)(d q:Nat):Prop where
 nd:ready.Nodup
 lt:∀x∈ready,x<N
 sq:Seqd P ready
 dl:d<ready.length
 w:∀k,k<N→wt k=leftS (ready.take (d+1)) (P k)+((behS P N (ready.getD d 0)).drop q).count k
 z:∀k,k<N→(k∈ready↔wt k=0)
theorem getD_mem{l:List Nat}{d:Nat}(h:d<l.length):l.getD d 0∈l:=by
 rw[List.getD_eq_getElem?_getD,List.getElem?_eq_getElem h];exact List.getElem_mem h
theorem take_snoc_get(l:List Nat)(d:Nat)(h:d<l.length):l.take (d+1)=l.take d++[l.getD d 0]:=by
 rw[←List.take_append_getElem h,List.getD_eq_getElem?_getD,List.getElem?_eq_getElem h];rfl
theorem getD_notin{l:List Nat}(hn:l.Nodup){d:Nat}(h:d<l.length):l.getD d 0∉l.take d:=by
 have h1:(l.take (d+1)).Nodup:=hn.sublist (List.take_sublist _ _);rw[take_snoc_get l d h,List.nodup_append]at h1;intro hm;exact h1.2.2 _ hm _ (List.mem_singleton.2 rfl) rfl
variable{P:Nat→List Nat}{N:Nat}{wt:Nat→Nat}{ready:List Nat}{d q:Nat}
theorem Kahn.first(P:Nat→List Nat)(N:Nat)(hw:∀k,k<N→wt k=(P k).length)(hr:ready=(List.range N).filter fun k=>(P k).length=0):Kahn P N wt ready 0:=by
 subst hr;refine⟨List.nodup_range.sublist List.filter_sublist,fun x hx=>List.mem_range.1 (List.mem_filter.1 hx).1,?_,Nat.zero_le _,fun k hk=>by rw[List.take_zero,leftS_nil,hw k hk],fun k hk=>?_⟩
 ·intro i hi p hp;have hm:((List.range N).filter fun k=>(P k).length=0).getD i 0∈(List.range N).filter fun k=>(P k).length=0:=by
   rw[List.getD_eq_getElem?_getD,List.getElem?_eq_getElem hi];exact List.getElem_mem hi
  have h0:=(List.mem_filter.1 hm).2;rw[decide_eq_true_iff,List.length_eq_zero_iff]at h0;rw[h0]at hp;cases hp
 ·rw[hw k hk,List.mem_filter,decide_eq_true_iff];exact⟨fun h=>h.2,fun h=>⟨List.mem_range.2 hk,h⟩⟩
theorem Kahn.enter(h:Kahn P N wt ready d)(hd:d<ready.length):KahnI P N wt ready d 0:=by
 refine⟨h.nd,h.lt,h.sq,hd,fun k hk=>?_,h.z⟩;rw[h.w k hk,leftS_snoc _ _ (getD_notin h.nd hd),take_snoc_get _ _ hd,List.drop_zero,behS_count,if_pos hk]
theorem KahnI.leave(h:KahnI P N wt ready d q)(hq:(behS P N (ready.getD d 0)).length≤q):Kahn P N wt ready (d+1):=by
 refine⟨h.nd,h.lt,h.sq,h.dl,fun k hk=>?_,h.z⟩;rw[h.w k hk,List.drop_of_length_le hq];rfl
theorem drop_at(l:List Nat)(q:Nat)(hq:q<l.length):l.drop q=l.getD q 0::l.drop (q+1):=by
 rw[List.drop_eq_getElem_cons hq,List.getD_eq_getElem?_getD,List.getElem?_eq_getElem hq];rfl
theorem KahnI.told(h:KahnI P N wt ready d q)(hq:q<(behS P N (ready.getD d 0)).length){k:Nat}(hk:k=(behS P N (ready.getD d 0)).getD q 0):k<N∧0<wt k:=by
 have hm:k∈behS P N (ready.getD d 0):=by
  rw[hk];exact getD_mem hq
 have hN:=behS_lt P N _ k hm;refine⟨hN,?_⟩;rw[h.w k hN,drop_at _ q hq,←hk,List.count_cons_self];omega
theorem KahnI.step(h:KahnI P N wt ready d q)(hq:q<(behS P N (ready.getD d 0)).length){k:Nat}(hk:k=(behS P N (ready.getD d 0)).getD q 0){wt':Nat→Nat}(h1:wt' k=wt k - 1)(h2:∀i,i≠k→wt' i=wt i):
  KahnI P N wt' (if wt' k=0 then ready++[k]else ready) d (q+1):=by
 obtain⟨hN,hp⟩:=h.told hq hk;have hnr:k∉ready:=fun hm=>by have:=(h.z k hN).1 hm;omega
 have hw:∀i,i<N→wt' i=leftS (ready.take (d+1)) (P i)+((behS P N (ready.getD d 0)).drop (q+1)).count i:=by
  intro i hi;have h3:=h.w i hi;rw[drop_at _ q hq,←hk,List.count_cons]at h3;by_cases e:i=k
  ·subst e;rw[h1,h3];simp
  ·rw[h2 i e,h3];have:(k==i)=false:=by simp;omega
   rw[this];simp
 split
 ·rename_i h0;have hg:(ready++[k]).getD d 0=ready.getD d 0:=by rw[getD_snoc,if_pos h.dl]
  have ht:(ready++[k]).take (d+1)=ready.take (d+1):=List.take_append_of_le_length h.dl;refine⟨?_,?_,?_,?_,?_,?_⟩
  ·rw[List.nodup_append];refine⟨h.nd,by simp,fun a ha b hb=>?_⟩;rw[List.mem_singleton]at hb;subst hb;intro e;subst e;exact hnr ha
  ·intro x hx;rcases List.mem_append.1 hx with e|e
   ·exact h.lt x e
   ·rw[List.mem_singleton]at e;subst e;exact hN
  ·refine h.sq.snoc (d:=d+1) (fun p hp=>?_);have h4:=hw k hN;rw[h0]at h4;exact leftS_zero.1 (by omega) p hp
  ·rw[List.length_append];exact Nat.lt_add_right _ h.dl
  ·intro i hi;rw[hg,ht];exact hw i hi
  ·intro i hi;rw[List.mem_append,List.mem_singleton];by_cases e:i=k
   ·subst e;simp[h0]
   ·rw[h2 i e,←h.z i hi];simp[e]
 ·rename_i h0;refine⟨h.nd,h.lt,h.sq,h.dl,hw,fun i hi=>?_⟩;by_cases e:i=k
  ·subst e;simp[h0,hnr]
  ·rw[h2 i e];exact h.z i hi
theorem Kahn.last(h:Kahn P N wt ready d)(hd:d=ready.length):Found P N↔¬d<N:=by
 rw[hd];refine found_iff h.nd h.lt h.sq (fun i hi hp=>?_);rw[h.z i hi,h.w i hi,hd,List.take_length];exact leftS_zero.2 hp
end S
namespace S
open G
theorem cmpS_trans:∀ {a b c:List Int},cmpS a b<0→cmpS b c<0→cmpS a c<0
 |[],[],_,h,_=>by simp[cmpS]at h
 |[],_::_,[],_,h=>by simp[cmpS]at h
 |[],_::_,_::_,_,_=>by simp[cmpS]
 |_::_,[],_,h,_=>by simp[cmpS]at h
 |_::_,_::_,[],_,h=>by simp[cmpS]at h
 |x::xs,y::ys,z::zs,h1,h2=>by
  have ih:= @cmpS_trans xs ys zs;simp only[cmpS]at h1 h2⊢;by_cases a1:x<y<;>by_cases a2:y<x<;>by_cases b1:y<z<;>by_cases b2:z<y<;>simp only[a1,a2,b1,b2,if_true,if_false]at h1 h2
  all_goals first|omega|(rw[if_pos (by omega)];decide)|(rw[if_neg (by omega),if_neg (by omega)];exact ih h1 h2)
theorem rising_lt{m:Nat}{ids:List Int}(h:Rising m ids)(i:Nat):∀j,i<j→j<m→cmpS (idAt ids i) (idAt ids j)<0
 |0,hi,_=>by omega
 |j+1,hi,hj=>by
  have h1:=h j (by omega);by_cases e:i=j
  ·subst e;exact h1
  ·exact cmpS_trans (rising_lt h i j (by omega) (by omega)) h1
theorem cmpS_self(a:List Int):cmpS a a=0:=(cmpS_eq a a).2 rfl
theorem rising_inj{m:Nat}{ids:List Int}(h:Rising m ids){i j:Nat}(hi:i<m)(hj:j<m)(e:idAt ids i=idAt ids j):i=j:=by
 rcases Nat.lt_trichotomy i j with h1|h1|h1
 ·have:=rising_lt h i j h1 hj;rw[e,cmpS_self]at this;omega
 ·exact h1
 ·have:=rising_lt h j i h1 hi;rw[e,cmpS_self]at this;omega
def inS(m:Nat)(ids x:List Int):Prop:=∃i,i<m∧idAt ids i=x
def ixS(m:Nat)(ids x:List Int):Nat:=((List.range m).find? fun i=>decide (idAt ids i=x)).getD 0
theorem ix_in{m:Nat}{ids x:List Int}(h:inS m ids x):ixS m ids x<m∧idAt ids (ixS m ids x)=x:=by
 obtain⟨i,hi,e⟩:=h;unfold ixS;cases hf:(List.range m).find? fun i=>decide (idAt ids i=x)with
 |none=>rw[List.find?_eq_none]at hf;exact absurd (decide_eq_true e) (hf i (List.mem_range.2 hi))
 |some j=>
  have h1:=List.find?_some hf;exact⟨List.mem_range.1 (List.mem_of_find?_eq_some hf),of_decide_eq_true h1⟩
theorem ix_eq{m:Nat}{ids:List Int}(h:Rising m ids){i:Nat}(hi:i<m):ixS m ids (idAt ids i)=i:=by
 have:=ix_in (m:=m) (ids:=ids) (x:=idAt ids i) ⟨i,hi,rfl⟩;exact rising_inj h this.1 hi this.2
instance(m:Nat)(ids x:List Int):Decidable (inS m ids x):=decidable_of_iff (∃i∈List.range m,idAt ids i=x) ⟨fun⟨i,h,e⟩=>⟨i,List.mem_range.1 h,e⟩,fun⟨i,h,e⟩=>⟨i,List.mem_range.2 h,e⟩⟩
def allI(m:Nat)(ids:List Int)(n:Nat)(ps:List Int):Prop:=∀j,j<n→inS m ids (idAt ps j)
instance(m:Nat)(ids:List Int)(n:Nat)(ps:List Int):Decidable (allI m ids n ps):=by unfold allI;infer_instance
def Spot(m:Nat)(ids x:List Int)(at_:Nat):Prop:=at_≤m∧(∀i,i<at_→cmpS (idAt ids i) x<0)∧(∀i,at_≤i→i<m→0≤cmpS (idAt ids i) x)
theorem Spot.has{m:Nat}{ids x:List Int}{p:Nat}(h:Spot m ids x p)(hr:Rising m ids):inS m ids x↔p<m∧cmpS (idAt ids p) x=0:=by
 constructor
 ·rintro⟨i,hi,e⟩;have hz:cmpS (idAt ids i) x=0:=(cmpS_eq _ _).2 e;have hp:p≤i:=by
   apply Classical.byContradiction;intro hn;have:=h.2.1 i (by omega);omega
  rcases Nat.lt_or_eq_of_le hp with h1|h1
  ·have h2:=rising_lt hr p i h1 hi;have h3:=h.2.2 p (Nat.le_refl _) (by omega);rw[e]at h2;omega
  ·subst h1;exact⟨hi,hz⟩
 ·rintro⟨h1,h2⟩;exact⟨p,h1,(cmpS_eq _ _).1 h2⟩
def prS(m:Nat)(ids:List Int)(ops:List OpV)(i:Nat):List Nat:=(List.range (ops.getD i OpV.zero).n).map fun j=>ixS m ids (idAt (ops.getD i OpV.zero).ids j)
def opensS(m:Nat)(ids:List Int)(ops:List OpV):Prop:=∀i,i<ops.length→allI m ids (ops.getD i OpV.zero).n (ops.getD i OpV.zero).ids
instance(m:Nat)(ids:List Int)(ops:List OpV):Decidable (opensS m ids ops):=by unfold opensS;infer_instance
noncomputable instance(P:Nat→List Nat)(N:Nat):Decidable (Found P N):=Classical.propDecidable _
noncomputable def shapeS(m:Nat)(ids:List Int)(ops:List OpV):Int:=if ¬Rising m ids then 32 else if ¬opensS m ids ops then 40 else if Found (prS m ids ops) ops.length then 0 else 36
def ownS(o:OpV)(x:List Int):Prop:=verE o=0∧sha (encS o)=x
instance(o:OpV)(x:List Int):Decidable (ownS o x):=by unfold ownS;infer_instance
def ownsS(ids:List Int)(ops:List OpV):Prop:=∀i,i<ops.length→ownS (ops.getD i OpV.zero) (idAt ids i)
instance(ids:List Int)(ops:List OpV):Decidable (ownsS ids ops):=by unfold ownsS;infer_instance
noncomputable def chkG(m:Nat)(ids:List Int)(ops:List OpV):Int:=if 60<ops.length then 4 else if m≠ops.length then 8 else if ¬ownsS ids ops then 8 else shapeS m ids ops
theorem verE_check{o:OpV}(h:verE o=0):checkE o=0:=by
 unfold verE at h;split at h
 ·assumption
 ·exact h
theorem chkG_zero{m:Nat}{ids:List Int}{ops:List OpV}:chkG m ids ops=0↔ops.length≤60∧m=ops.length∧ownsS ids ops∧Rising m ids∧opensS m ids ops∧Found (prS m ids ops) ops.length:=by
 unfold chkG shapeS;constructor
 ·intro h
  repeat' (first|(split at h))
  all_goals first|(exact absurd h (by decide))|skip
  rename_i a1 a2 a3 a4 a5 a6;exact⟨by omega,Decidable.not_not.1 a2,Decidable.not_not.1 a3,Decidable.not_not.1 a4,Decidable.not_not.1 a5,a6⟩
 ·rintro⟨a1,a2,a3,a4,a5,a6⟩;rw[if_neg (by omega),if_neg (by omega),if_neg (not_not_intro a3),if_neg (not_not_intro a4),if_neg (not_not_intro a5),if_pos a6]
def spotC(m:Nat)(c:Nat→Int):Nat:=((List.range m).find? fun i=>decide (0≤c i)).getD m
theorem spotC_eq{m:Nat}{c:Nat→Int}{p:Nat}(h1:p≤m)(h2:∀i,i<p→c i<0)(h3:p<m→0≤c p):spotC m c=p:=by
 unfold spotC;cases hf:(List.range m).find? fun i=>decide (0≤c i)with
 |none=>
  rw[List.find?_eq_none]at hf;simp only[Option.getD_none];apply Classical.byContradiction;intro hn;have:=hf p (List.mem_range.2 (by omega));simp only[decide_eq_true_eq]at this;exact this (h3 (by omega))
 |some j=>
  simp only[Option.getD_some];have hj:=List.find?_some hf;simp only[decide_eq_true_eq]at hj;have hm:=List.mem_range.1 (List.mem_of_find?_eq_some hf);rcases Nat.lt_trichotomy j p with h|h|h
  ·have:=h2 j h;omega
  ·exact h
  ·rw[List.find?_range_eq_some]at hf;have:=hf.2.2 p h;have h4:=h3 (by omega);simp[h4]at this
theorem spotC_le(m:Nat)(c:Nat→Int):spotC m c≤m:=by
 unfold spotC;cases hf:(List.range m).find? fun i=>decide (0≤c i)with
 |none=>exact Nat.le_refl _
 |some j=>exact Nat.le_of_lt (List.mem_range.1 (List.mem_of_find?_eq_some hf))
theorem spotC_lt{m:Nat}{c:Nat→Int}{i:Nat}(h:i<spotC m c):c i<0:=by
 have hl:=spotC_le m c;unfold spotC at h hl;cases hf:(List.range m).find? fun i=>decide (0≤c i)with
 |none=>
  rw[hf]at h hl;rw[List.find?_eq_none]at hf;have:=hf i (List.mem_range.2 (by simp at h;omega));simp only[decide_eq_true_eq]at this;omega
 |some j=>
  rw[hf]at h;rw[List.find?_range_eq_some]at hf;have:=hf.2.2 i (by simpa using h);simpa using this
theorem spotC_ge{m:Nat}{c:Nat→Int}(h:spotC m c<m):0≤c (spotC m c):=by
 unfold spotC at h⊢;cases hf:(List.range m).find? fun i=>decide (0≤c i)with
 |none=>rw[hf]at h;simp at h
 |some j=>simpa using List.find?_some hf
def MonoC(m:Nat)(c:Nat→Int):Prop:=∀i j,i<j→j<m→c j<0→c i<0
structure HalfC(m:Nat)(c:Nat→Int)(i j:Int):Prop where
 r:0≤i∧i≤j∧j≤m
 lo:∀k,k<i.toNat→c k<0
 hi:∀k,j.toNat≤k→k<m→0≤c k
theorem HalfC.first(m:Nat)(c:Nat→Int):HalfC m c 0 m:=⟨by omega,fun k h=>by omega,fun k h h2=>by omega⟩
theorem HalfC.up{m:Nat}{c:Nat→Int}{i j h:Int}(H:HalfC m c i j)(hm:MonoC m c)(h1:i≤h)(h2:h<j)(hc:c h.toNat<0):HalfC m c (h+1) j:=by
 have:=H.r;refine⟨by omega,fun k hk=>?_,H.hi⟩;by_cases e:k=h.toNat
 ·subst e;exact hc
 ·exact hm k h.toNat (by omega) (by omega) hc
theorem HalfC.down{m:Nat}{c:Nat→Int}{i j h:Int}(H:HalfC m c i j)(hm:MonoC m c)(h1:i≤h)(h2:h<j)(hc:¬c h.toNat<0):HalfC m c i h:=by
 have:=H.r;refine⟨by omega,H.lo,fun k hk hm2=>?_⟩;by_cases e:k=h.toNat
 ·subst e;omega
 ·apply Classical.byContradiction;intro hn;exact hc (hm h.toNat k (by omega) hm2 (by omega))
theorem HalfC.spot{m:Nat}{c:Nat→Int}{i j:Int}(H:HalfC m c i j)(h:¬i<j):i=(spotC m c:Nat):=by
 have:=H.r;have e:spotC m c=i.toNat:=spotC_eq (by omega) H.lo fun hl=>H.hi _ (by omega) hl;omega
def spotS(m:Nat)(ids x:List Int):Nat:=spotC m fun i=>cmpS (idAt ids i) x
theorem mono_ids{m:Nat}{ids x:List Int}(hr:Rising m ids):MonoC m fun i=>cmpS (idAt ids i) x:=fun i j hij hj hc=>cmpS_trans (rising_lt hr i j hij hj) hc
theorem spotS_has{m:Nat}{ids x:List Int}(hr:Rising m ids):inS m ids x↔spotS m ids x<m∧cmpS (idAt ids (spotS m ids x)) x=0:=by
 refine Spot.has ⟨spotC_le _ _,fun i hi=>spotC_lt hi,fun i h1 h2=>?_⟩ hr;have h3:0≤cmpS (idAt ids (spotS m ids x)) x:=spotC_ge (c:=fun i=>cmpS (idAt ids i) x) (Nat.lt_of_le_of_lt h1 h2);apply Classical.byContradiction;intro hn;have hn:cmpS (idAt ids i) x<0:=by omega
 rcases Nat.lt_or_eq_of_le h1 with h|h
 ·have h4:cmpS (idAt ids (spotS m ids x)) x<0:=mono_ids (x:=x) hr _ _ h h2 hn;omega
 ·have e:i=spotS m ids x:=h.symm;rw[e]at hn;omega
theorem spotS_ix{m:Nat}{ids x:List Int}(hr:Rising m ids)(h:inS m ids x):spotS m ids x=ixS m ids x:=by
 obtain⟨h1,h2⟩:=(spotS_has hr).1 h;have h3:=ix_in h;exact rising_inj hr h1 h3.1 (by rw[h3.2];exact(cmpS_eq _ _).1 h2)
def castL(l:List Nat):List Int:=l.map fun n:Nat=>(n:Int)
theorem castL_len(l:List Nat):(castL l).length=l.length:=List.length_map _
theorem castL_get(l:List Nat)(i:Nat):(castL l).getD i 0=(l.getD i 0:Nat):=by
 unfold castL;rw[List.getD_eq_getElem?_getD,List.getD_eq_getElem?_getD,List.getElem?_map];cases l[i]? <;>simp
theorem castL_snoc(l:List Nat)(x:Nat):castL (l++[x])=castL l++[(x:Int)]:=by simp[castL]
def behJ(P:Nat→List Nat)(i j a:Nat):List Nat:=behS P i a++List.replicate (((P i).take j).count a) i
theorem behJ_zero(P:Nat→List Nat)(i a:Nat):behJ P i 0 a=behS P i a:=by simp[behJ]
theorem behJ_full(P:Nat→List Nat)(i j a:Nat)(h:(P i).length≤j):behJ P i j a=behS P (i+1) a:=by
 rw[behJ,behS_succ,List.take_of_length_le h]
theorem behJ_succ(P:Nat→List Nat)(i j a:Nat)(h:j<(P i).length):behJ P i (j+1) a=if a=(P i).getD j 0 then behJ P i j a++[i]else behJ P i j a:=by
 unfold behJ;rw[take_snoc_get _ _ h,List.count_append,List.count_singleton];by_cases e:a=(P i).getD j 0
 ·rw[if_pos e,←e];simp[List.replicate_succ']
 ·rw[if_neg e,if_neg (by simpa using fun h=>e h.symm),Nat.add_zero]
theorem flatMap_le{α:Type}(f:Nat→List α)(k:Nat):∀n,(∀i,i<n→(f i).length≤k)→((List.range n).flatMap f).length≤k*n
 |0,_=>by simp
 |n+1,h=>by
  rw[List.range_succ,List.flatMap_append,List.length_append,Nat.mul_add];have:=flatMap_le f k n fun i hi=>h i (by omega);have:=h n (by omega);rw[List.flatMap_cons,List.flatMap_nil,List.append_nil,Nat.mul_one];omega
theorem behJ_len(P:Nat→List Nat)(i j a k:Nat)(h:∀i,(P i).length≤k):(behJ P i j a).length≤k*(i+1):=by
 unfold behJ behS;rw[List.length_append,List.length_replicate,Nat.mul_add,Nat.mul_one];have h1:=flatMap_le (fun i'=>List.replicate ((P i').count a) i') k i fun i' _=>by rw[List.length_replicate];exact Nat.le_trans List.count_le_length (h i')
 have h2:=Nat.le_trans (List.count_le_length (l:=(P i).take j) (a:=a)) (List.length_take_le _ _);have h3:((P i).take j).count a≤(P i).length:=Nat.le_trans List.count_le_length (by rw[List.length_take];omega);have:=h i;omega
structure ShQ(P:Nat→List Nat)(N i j:Nat)(qs:List Pc):Prop where
 len:qs.length=N
 xs:∀(a:Nat) (q:Pc),qs[a]? =some q→q.xs=castL (behJ P i j a)∧q.n=q.xs.length
theorem ShQ.first (P : Nat → List Nat) (N : Nat) : ShQ P N 0 0 (List.replicate N default) := ⟨by simp, fun a q h => by
 obtain rfl := (List.mem_replicate.1 (List.mem_of_getElem? h)).2
 exact ⟨by simp only [behJ, behS, castL, List.range_zero, List.flatMap_nil, List.take_zero, List.count_nil, List.replicate_zero, List.append_nil, List.map_nil]; rfl, rfl⟩⟩
theorem ShQ.step{P:Nat→List Nat}{N i j:Nat}{qs:List Pc}(h:ShQ P N i j qs)(hj:j<(P i).length){at_:Nat}{q:Pc}(hq:qs[at_]? =some q)(ha:at_=(P i).getD j 0)(a':Option Addr)(c':Nat):ShQ P N i (j+1) (qs.set at_ ⟨a',q.n+1,c',q.xs++[(i:Int)]⟩):=by
 have h0:=h.xs _ _ hq;refine⟨by rw[List.length_set];exact h.len,fun a q' h'=>?_⟩;rw[List.getElem?_set]at h';rw[behJ_succ P i j a hj,←ha];split at h'
 ·rename_i e;subst e;split at h'
  ·obtain rfl:=Option.some.inj h';rw[if_pos rfl,castL_snoc,←h0.1];exact⟨rfl,by simp[h0.2]⟩
  ·cases h'
 ·rename_i e;rw[if_neg (fun e2=>e e2.symm)];exact h.xs a q' h'
theorem ShQ.next{P:Nat→List Nat}{N i j:Nat}{qs:List Pc}(h:ShQ P N i j qs)(hj:(P i).length≤j):ShQ P N (i+1) 0 qs:=⟨h.len,fun a q hq=>by rw[behJ_zero,←behJ_full P i j a hj];exact h.xs a q hq⟩
theorem ShQ.get{P:Nat→List Nat}{N i j a:Nat}{qs:List Pc}(h:ShQ P N i j qs)(ha:a<N):∃q,qs[a]? =some q:=⟨_,List.getElem?_eq_getElem (by rw[h.len];exact ha)⟩
theorem set_get(ws:List Int)(i k:Nat)(v:Int)(h:i<ws.length):(ws.set i v).getD k 0=if k=i then v else ws.getD k 0:=by
 rw[List.getD_eq_getElem?_getD,List.getD_eq_getElem?_getD,List.getElem?_set];by_cases e:i=k
 ·subst e;simp[h]
 ·rw[if_neg e,if_neg (fun e2=>e e2.symm)]
structure ShW(P:Nat→List Nat)(N i:Nat)(ws:List Int):Prop where
 len:ws.length=N
 w:∀k,k<N→ws.getD k 0=if k<i then((P k).length:Int)else 0
theorem ShW.first(P:Nat→List Nat)(N:Nat):ShW P N 0 (List.replicate N 0):=⟨by simp,fun k hk=>by rw[List.getD_eq_getElem?_getD,List.getElem?_replicate,if_pos hk];rfl⟩
theorem ShW.step {P : Nat → List Nat} {N i : Nat} {ws : List Int} (h : ShW P N i ws) (hi : i < N) : ShW P N (i + 1) (ws.set i ((P i).length : Int)) := ⟨by rw [List.length_set]; exact h.len, fun k hk => by
 rw [set_get _ _ _ _ (by rw [h.len]; exact hi), h.w k hk]
 by_cases e : k = i
 ·subst e; simp
 ·rw [if_neg e]
  by_cases h2 : k < i
  ·rw [if_pos h2, if_pos (by omega)]
  ·rw [if_neg h2, if_neg (by omega)]⟩
def zeroP(P:Nat→List Nat)(i:Nat):List Nat:=(List.range i).filter fun k=>(P k).length=0
theorem zeroP_succ(P:Nat→List Nat)(i:Nat):zeroP P (i+1)=if(P i).length=0 then zeroP P i++[i]else zeroP P i:=by
 unfold zeroP;rw[List.range_succ,List.filter_append];by_cases h:(P i).length=0
 ·rw[if_pos h,List.filter_cons,if_pos (by simpa using h)];rfl
 ·rw[if_neg h,List.filter_cons,if_neg (by simpa using h)];simp
def wtS(ws:List Int)(k:Nat):Nat:=(ws.getD k 0).toNat
theorem ShW.kahn{P:Nat→List Nat}{N:Nat}{ws:List Int}(h:ShW P N N ws):Kahn P N (wtS ws) (zeroP P N) 0:=Kahn.first P N (fun k hk=>by unfold wtS;rw[h.w k hk,if_pos hk];rfl) rfl
theorem Kahn.le{P:Nat→List Nat}{N d:Nat}{wt:Nat→Nat}{rd:List Nat}(h:Kahn P N wt rd d):rd.length≤N:=by
 have:=nodup_len (l:=rd) (m:=List.range N) h.nd fun x hx=>List.mem_range.2 (h.lt x hx);simpa using this
theorem KahnI.le{P:Nat→List Nat}{N d q:Nat}{wt:Nat→Nat}{rd:List Nat}(h:KahnI P N wt rd d q):rd.length≤N:=by
 have:=nodup_len (l:=rd) (m:=List.range N) h.nd fun x hx=>List.mem_range.2 (h.lt x hx);simpa using this
theorem KahnI.down{P:Nat→List Nat}{N d q:Nat}{ws:List Int}{rd:List Nat}(h:KahnI P N (wtS ws) rd d q)(hl:ws.length=N)(hq:q<(behS P N (rd.getD d 0)).length){k:Nat}(hk:k=(behS P N (rd.getD d 0)).getD q 0):
  KahnI P N (wtS (ws.set k (ws.getD k 0 - 1))) (if ws.getD k 0 - 1=0 then rd++[k]else rd) d (q+1):=by
 obtain⟨h1,h2⟩:=h.told hq hk;have hw:wtS ws k=(ws.getD k 0).toNat:=rfl;have e1:wtS (ws.set k (ws.getD k 0 - 1)) k=wtS ws k - 1:=by
  unfold wtS;rw[set_get _ _ _ _ (by rw[hl];exact h1),if_pos rfl];omega
 have:=h.step hq hk (wt':=wtS (ws.set k (ws.getD k 0 - 1))) e1 fun i hi=>by unfold wtS;rw[set_get _ _ _ _ (by rw[hl];exact h1),if_neg hi]
 rw[e1]at this;by_cases hz:ws.getD k 0 - 1=0
 ·rw[if_pos hz];rw[if_pos (by omega)]at this;exact this
 ·rw[if_neg hz];rw[if_neg (by omega)]at this;exact this
def RisS(ids:List Int)(i:Nat):Prop:=∀k,k+1<i→cmpS (idAt ids k) (idAt ids (k+1))<0
theorem shape_32{m:Nat}{ids:List Int}{ops:List OpV}{i:Nat}(hi:i+1<m)(h:0≤cmpS (idAt ids i) (idAt ids (i+1))):shapeS m ids ops=32:=by
 unfold shapeS;rw[if_pos fun hr=>?_];have:=hr i (by omega);omega
theorem shape_40{m:Nat}{ids:List Int}{ops:List OpV}{i j:Nat}(hr:Rising m ids)(hi:i<ops.length)(hj:j<(ops.getD i OpV.zero).n)(h:¬inS m ids (idAt (ops.getD i OpV.zero).ids j)):shapeS m ids ops=40:=by
 unfold shapeS;rw[if_neg (not_not_intro hr),if_pos fun ho=>h (ho i hi j hj)]
theorem shape_end{m d:Nat}{ids:List Int}{ops:List OpV}(hr:Rising m ids)(ho:opensS m ids ops)(hf:Found (prS m ids ops) ops.length↔¬d<ops.length):shapeS m ids ops=if d<ops.length then 36 else 0:=by
 unfold shapeS;rw[if_neg (not_not_intro hr),if_neg (not_not_intro ho)];by_cases h:d<ops.length
 ·rw[if_neg (fun e=>hf.1 e h),if_pos h]
 ·rw[if_pos (hf.2 h),if_neg h]
theorem prS_len(m:Nat)(ids:List Int)(ops:List OpV)(i:Nat):(prS m ids ops i).length=(ops.getD i OpV.zero).n:=by simp[prS]
theorem prS_get(m:Nat)(ids:List Int)(ops:List OpV)(i j:Nat)(h:j<(ops.getD i OpV.zero).n):(prS m ids ops i).getD j 0=ixS m ids (idAt (ops.getD i OpV.zero).ids j):=by
 unfold prS;rw[List.getD_eq_getElem?_getD,List.getElem?_map,List.getElem?_range h];rfl
end S
namespace S
open G
def kc(a b:ByteArray):Int:=cmpS (bys a) (bys b)
theorem kc_self(a:ByteArray):kc a a=0:=cmpS_self _
theorem kc_swap(a b:ByteArray):kc b a= - kc a b:=cmpS_swap _ _
theorem kc_eq{a b:ByteArray}:kc a b=0↔a=b:=⟨fun h=>bys_inj ((cmpS_eq _ _).1 h),fun h=>by subst h;exact kc_self a⟩
theorem kc_trans{a b c:ByteArray}(h:kc a b<0)(k:kc b c<0):kc a c<0:=cmpS_trans h k
theorem less_go:∀x y:List UInt8,Op.bytesLess x y=decide (cmpS (x.map fun b=>(b.toNat:Int)) (y.map fun b=>(b.toNat:Int))<0)
 |[],[]=>by simp[Op.bytesLess,cmpS]
 |_::_,[]=>by simp[Op.bytesLess,cmpS]
 |[],_::_=>by simp[Op.bytesLess,cmpS]
 |a::x,b::y=>by
  have ih:=less_go x y;simp only[Op.bytesLess,List.map_cons,cmpS,ih];by_cases h:a<b
  ·have:=UInt8.lt_iff_toNat_lt.1 h;rw[if_pos (by omega)];simp[h]
  ·have h1:¬a.toNat<b.toNat:=fun e=>h (UInt8.lt_iff_toNat_lt.2 e);rw[if_neg (by omega)];by_cases h2:a=b
   ·subst h2;rw[if_neg (by omega)];simp[h]
   ·have h3:a.toNat≠b.toNat:=fun e=>h2 (UInt8.toNat_inj.1 e);rw[if_pos (by omega)];simp[h,h2]
theorem less_kc(a b:ByteArray):Op.bytesLess a.toList b.toList=decide (kc a b<0):=by
 rw[ByteArray.toList_eq,ByteArray.toList_eq];exact less_go _ _
structure RgV where
 (key:ByteArray)(vk num bits:Int)(t:ByteArray)(st:Int)(id:List Int)(h32:id.length=32)
def RgV.zero:RgV:=⟨.empty,0,0,0, .empty,0,List.replicate 32 0,rfl⟩
structure RgV.rng(x:RgV):Prop where
 vk:0≤x.vk∧x.vk<256
 num: -9223372036854775808≤x.num∧x.num≤9223372036854775807
 bits:0≤x.bits∧x.bits<18446744073709551616
 st:0≤x.st∧x.st<18446744073709551616
 id:Bd .u8 x.id
structure RgV.ok(x:RgV):Prop extends RgV.rng x where
 key:x.key.size≤100
 t:x.t.size≤100
theorem RgV.ok.arr{x:RgV}(h:x.ok):Arr .u8 32 x.id:=⟨x.h32,h.id⟩
theorem RgV.ext{x y:RgV}(h1:x.key=y.key)(h2:x.vk=y.vk)(h3:x.num=y.num)(h4:x.bits=y.bits)(h5:x.t=y.t)(h6:x.st=y.st)(h7:x.id=y.id):x=y:=by
 cases x;cases y;simp only at h1 h2 h3 h4 h5 h6 h7;subst h1 h2 h3 h4 h5 h6 h7;rfl
instance:DecidableEq RgV:=fun x y=>decidable_of_iff (x.key=y.key∧x.vk=y.vk∧x.num=y.num∧x.bits=y.bits∧x.t=y.t∧x.st=y.st∧x.id=y.id) ⟨fun⟨h1,h2,h3,h4,h5,h6,h7⟩=>RgV.ext h1 h2 h3 h4 h5 h6 h7,fun h=>by subst h;exact⟨rfl,rfl,rfl,rfl,rfl,rfl,rfl⟩⟩
def RgV.fine(x:RgV):Prop:=KeyOk x.key∧FineV x.vk x.num x.bits x.t∧x.st≤1000000000000
@[reducible] def rg(l:List RgV)(i:Nat):RgV:=l.getD i RgV.zero
theorem rg_some{l:List RgV}{i:Nat}{x:RgV}(h:l[i]? =some x):rg l i=x:=by unfold rg;rw[List.getD_eq_getElem?_getD,h];rfl
theorem rg_mem{l:List RgV}{i:Nat}(h:i<l.length):rg l i∈l:=by
 unfold rg;rw[List.getD_eq_getElem?_getD,List.getElem?_eq_getElem h];exact List.getElem_mem h
theorem rg_at{l:List RgV}{i:Nat}(h:i<l.length):l[i]? =some (rg l i):=by unfold rg;rw[List.getD_eq_getElem?_getD,List.getElem?_eq_getElem h];rfl
theorem mem_rg{l:List RgV}{x:RgV}(h:x∈l):∃i,i<l.length∧rg l i=x:=by
 obtain⟨i,hi,rfl⟩:=List.getElem_of_mem h;exact⟨i,hi,rg_some (List.getElem?_eq_getElem hi)⟩
def rowOk(l:List RgV)(i:Nat):Prop:=(rg l i).fine∧(0<i→kc (rg l (i - 1)).key (rg l i).key<0)
def SortK(l:List RgV):Prop:=l.Pairwise fun a b=>kc a.key b.key<0
theorem SortK.lt{l:List RgV}(h:SortK l){i j:Nat}(hij:i<j)(hj:j<l.length):kc (rg l i).key (rg l j).key<0:=by
 have:=List.pairwise_iff_getElem.1 h i j (by omega) hj hij;rw[rg_some (List.getElem?_eq_getElem (by omega:i<l.length)),rg_some (List.getElem?_eq_getElem hj)];exact this
theorem sort_of{l:List RgV}(h:∀i,i+1<l.length→kc (rg l i).key (rg l (i+1)).key<0):SortK l:=by
 have h2:∀j,j<l.length→∀i,i<j→kc (rg l i).key (rg l j).key<0:=by
  intro j
  induction j with
  |zero=>intro _ i hi;omega
  |succ j ih=>
   intro hj i hi;rcases Nat.lt_or_ge i j with e|e
   ·exact kc_trans (ih (by omega) i e) (h j hj)
   ·obtain rfl:i=j:=by omega
    exact h i hj
 refine List.pairwise_iff_getElem.2 fun i j hi hj hij=>?_
 have:=h2 j hj i hij;rwa[rg_some (List.getElem?_eq_getElem hi),rg_some (List.getElem?_eq_getElem hj)]at this
def goodR(l:List RgV):Prop:=l.length≤60∧(∀x∈l,x.fine)∧SortK l
open Classical in
noncomputable def chkR(l:List RgV):Int:=if 60<l.length then 4 else if(∀x∈l,x.fine)∧SortK l then 0 else 8
theorem chkR_4{l:List RgV}(h:60<l.length):(4:Int)=chkR l:=by unfold chkR;rw[if_pos h]
theorem chkR_8{l:List RgV}{i:Nat}(h:¬60<l.length)(hi:i<l.length)(hn:¬rowOk l i):(8:Int)=chkR l:=by
 unfold chkR;rw[if_neg h,if_neg];exact fun⟨h1,h2⟩=>hn ⟨h1 _ (rg_mem hi),fun h0=>h2.lt (by omega) hi⟩
theorem chkR_0{l:List RgV}(h:¬60<l.length)(hr:∀i,i<l.length→rowOk l i):(0:Int)=chkR l:=by
 unfold chkR;rw[if_neg h];refine(if_pos ⟨fun x hx=>?_,sort_of fun i hi=>(hr (i+1) hi).2 (by omega)⟩).symm;obtain⟨i,hi,rfl⟩:=mem_rg hx;exact(hr i hi).1
theorem chkR_good{l:List RgV}:chkR l=0↔goodR l:=by
 unfold chkR goodR;split
 ·exact⟨fun h=>(by cases h),fun h=>(by omega)⟩
 ·split
  ·exact⟨fun _=>⟨by omega,by assumption⟩,fun _=>rfl⟩
  ·exact⟨fun h=>(by cases h),fun h=>by rename_i h2;exact absurd h.2 h2⟩
/-! places -/
def cK(l:List RgV)(k:ByteArray)(i:Nat):Int:=kc (rg l i).key k
def spK(l:List RgV)(k:ByteArray):Nat:=spotC l.length (cK l k)
def hasK(l:List RgV)(k:ByteArray):Prop:=∃x∈l,x.key=k
theorem mono_key{l:List RgV}(h:SortK l)(k:ByteArray):MonoC l.length (cK l k):=fun i j hij hj hc=>kc_trans (h.lt hij hj) hc
theorem spK_le(l:List RgV)(k:ByteArray):spK l k≤l.length:=spotC_le _ _
theorem spK_lo{l:List RgV}{k:ByteArray}{i:Nat}(h:i<spK l k):kc (rg l i).key k<0:=spotC_lt (c:=cK l k) h
theorem spK_hi{l:List RgV}(hs:SortK l){k:ByteArray}{i:Nat}(h:spK l k≤i)(hi:i<l.length):0≤kc (rg l i).key k:=by
 have h1:0≤cK l k (spK l k):=spotC_ge (c:=cK l k) (Nat.lt_of_le_of_lt h hi);rcases Nat.lt_or_eq_of_le h with e|e
 ·apply Classical.byContradiction;intro hn;have:=mono_key hs k _ _ e hi (show cK l k i<0 by unfold cK;omega);unfold spK at h1;unfold spK at this;omega
 ·rw[←e];exact h1
theorem has_spK{l:List RgV}(hs:SortK l){k:ByteArray}:hasK l k↔spK l k<l.length∧(rg l (spK l k)).key=k:=by
 constructor
 ·rintro⟨x,hx,rfl⟩;obtain⟨i,hi,rfl⟩:=mem_rg hx;have h1:spK l (rg l i).key=i:=spotC_eq (by omega) (fun j hj=>hs.lt hj hi) fun _=>by unfold cK;rw[kc_self];exact Int.le_refl _
  rw[h1];exact⟨hi,rfl⟩
 ·exact fun⟨h1,h2⟩=>⟨_,rg_mem h1,h2⟩
theorem spK_eq{l:List RgV}{k:ByteArray}{p:Nat}(h1:p≤l.length)(h2:∀i,i<p→kc (rg l i).key k<0)(h3:p<l.length→0≤kc (rg l p).key k):spK l k=p:=spotC_eq h1 h2 h3
instance(l:List RgV)(k:ByteArray):Decidable (hasK l k):=by unfold hasK;infer_instance
def lateR(st:Int)(id:List Int)(y:RgV):Prop:=y.st<st∨(st=y.st∧0<cmpS id y.id)
instance(st:Int)(id:List Int)(y:RgV):Decidable (lateR st id y):=by unfold lateR;infer_instance
def putR(l:List RgV)(x:RgV):List RgV:=
 if hasK l x.key then(if lateR x.st x.id (rg l (spK l x.key))then l.set (spK l x.key) x else l)else l.take (spK l x.key)++x::l.drop (spK l x.key)
def cmpN(a b:Int):Int:=if a<b then -1 else if b<a then 1 else 0
theorem cmpN_1{a b:Int}(h:a<b):(-1:Int)=cmpN a b:=by unfold cmpN;rw[if_pos h]
theorem cmpN_2{a b:Int}(h:¬a<b)(h2:b<a):(1:Int)=cmpN a b:=by unfold cmpN;rw[if_neg h,if_pos h2]
theorem cmpN_3{a b:Int}(h:¬a<b)(h2:¬b<a):(0:Int)=cmpN a b:=by unfold cmpN;rw[if_neg h,if_neg h2]
def orN(x y:Int):Int:=if x≠0 then x else y
theorem or_hit{x y p:Int}(hp:0≤p∧p<2)(h:∀k,k<p.toNat→[x,y].getD k 0=0)(hn:[x,y].getD p.toNat 0≠0):[x,y].getD p.toNat 0=orN x y:=by
 rcases(by omega:p=0∨p=1)with rfl|rfl
 ·have hn:x≠0:=hn;unfold orN;rw[if_pos hn];rfl
 ·have h0:x=0:=h 0 (by decide);unfold orN;rw[if_neg (not_not_intro h0)];rfl
theorem or_miss{x y:Int}(h:∀k,k<2→[x,y].getD k 0=0):0=orN x y:=by
 have h0:x=0:=h 0 (by decide);have h1:y=0:=h 1 (by decide);unfold orN;rw[if_neg (not_not_intro h0),h1]
theorem get2{x y p:Int}(hp:0≤p∧p<2):[x,y][p.toNat]? =some ([x,y].getD p.toNat 0):=by
 rcases(by omega:p=0∨p=1)with rfl|rfl<;>rfl
theorem late_or{a:Int}{x:List Int}{y:RgV}:0<orN (cmpN a y.st) (cmpS x y.id)↔lateR a x y:=by
 unfold orN cmpN lateR;by_cases h1:a<y.st
 ·rw[if_pos h1];simp;omega
 ·rw[if_neg h1];by_cases h2:y.st<a
  ·rw[if_pos h2];simp[h2]
  ·rw[if_neg h2];have:a=y.st:=by omega
   simp[this]
def regO(o:OpV)(id:List Int)(h:id.length=32):RgV:=⟨o.key,o.vk,o.num,o.bits,o.t,o.st,id,h⟩
def applR(l:List RgV)(o:OpV)(id:List Int)(h:id.length=32):List RgV:=if o.k=4 then putR l (regO o id h)else l
end S
end Go.Proofs.YtkibkhgcbepolaaGreatDoor
