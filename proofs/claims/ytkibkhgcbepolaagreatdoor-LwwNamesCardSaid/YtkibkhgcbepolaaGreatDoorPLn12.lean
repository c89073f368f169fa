/-
  Part 12 of the lemmas of these laws: LwwNames.
-/
import Derived.Test.YtkibkhgcbepolaaGreatDoorPLn11
set_option linter.unusedVariables false
set_option linter.unusedSimpArgs false
open Go.Proofs.Tryz
namespace Go.Proofs.YtkibkhgcbepolaaGreatDoor
namespace G
open Go.RowKit
section
variable{P:Program}{l:List Value}{w:World}{d:Option Tmp}{ty xt yt:TypeId}{pos:String}{af:Array Edge}{g:Option (Nat×Bool)}{x y:Operand}{s t:ByteArray}
theorem D.slt(hx:ev l x= .string s)(hy:ev l y= .string t):(execOp (ev l) ⟨d, .binOp .lss xt x y yt,ty,pos,af,g⟩).run P w= .ok (.value (.bool (decide (S.kc s t<0)))) w:=by
 rw[bin_run_str _ hx hy];simp[binOp,Op.stringOp,S.less_kc]
theorem D.sge(hx:ev l x= .string s)(hy:ev l y= .string t):(execOp (ev l) ⟨d, .binOp .geq xt x y yt,ty,pos,af,g⟩).run P w= .ok (.value (.bool (decide (0≤S.kc s t)))) w:=by
 rw[bin_run_str _ hx hy];have:decide (0≤S.kc s t)= !(decide (S.kc s t<0)):=by by_cases h:S.kc s t<0<;>simp[h]<;>omega
 rw[this];simp[binOp,Op.stringOp,S.less_kc]
theorem D.sgt(hx:ev l x= .string s)(hy:ev l y= .string t):(execOp (ev l) ⟨d, .binOp .gtr xt x y yt,ty,pos,af,g⟩).run P w= .ok (.value (.bool (decide (0<S.kc s t)))) w:=by
 rw[bin_run_str _ hx hy];have:decide (0<S.kc s t)= !(decide (S.kc s t<0)||decide (s=t)):=by
  by_cases h:s=t
  ·subst h;rw[S.kc_self];simp
  ·have h2:S.kc s t≠0:=fun e=>h (S.kc_eq.1 e);by_cases h3:S.kc s t<0<;>simp[h,h3]<;>omega
 rw[this];simp[binOp,Op.stringOp,S.less_kc,strEq]
end
/-! parts of rows -/
theorem flat_take{α:Type}(f:α→List Value)(sz:Nat)(hf:∀x,(f x).length=sz):∀(l:List α) (n:Nat),(l.flatMap f).take (n*sz)=(l.take n).flatMap f
 |[],n=>by simp
 |x::l,0=>by simp
 |x::l,n+1=>by
  rw[List.flatMap_cons,List.take_succ_cons,List.flatMap_cons,List.take_append,hf,List.take_of_length_le (by rw[hf,Nat.add_mul];omega),show(n+1)*sz - sz=n*sz by rw[Nat.add_mul];omega,flat_take f sz hf l n]
theorem flat_drop{α:Type}(f:α→List Value)(sz:Nat)(hf:∀x,(f x).length=sz):∀(l:List α) (n:Nat),(l.flatMap f).drop (n*sz)=(l.drop n).flatMap f
 |[],n=>by simp
 |x::l,0=>by simp
 |x::l,n+1=>by
  rw[List.flatMap_cons,List.drop_succ_cons,List.drop_append,hf,List.drop_of_length_le (by rw[hf,Nat.add_mul];omega),List.nil_append,show(n+1)*sz - sz=n*sz by rw[Nat.add_mul];omega,flat_drop f sz hf l n]
theorem GRow.sub{α:Type}{f:α→List Value}{sz n:Nat}{S:Nat→Prop}{w:World}{a:Option Addr}{lst:List α}(h:GRow f sz S w a n lst)(lo hi m:Nat)(hh:hi≤n)(hl:lo≤hi)(hm:hi≤m):GRow f sz S w (subA a lo sz m) (hi - lo) ((lst.drop lo).take (hi - lo)):=by
 have hln:=h.len;refine⟨?_,by rw[List.length_take,List.length_drop];omega,h.szf⟩;have:=h.row.sub lo hi sz m (by rw[flat_len f sz h.szf,hln,Nat.mul_comm];exact Nat.mul_le_mul_left _ hh) hl hm;rwa[flat_drop f sz h.szf,flat_take f sz h.szf]at this
section
variable{P:Program}{ops:Array Oper}{K:List Value→World→Prop}{rest:List Oper}{l:List Value}{w:World}{d:Tmp}{ty:TypeId}{pos:String}{af:Array Edge}
theorem RS.copyC{x y:Operand}{t t2 e T:TypeId}{b o n cp m c2 sz k:Nat}{a:Option Addr}{S:Nat→Prop}{cs ds:List Value}(hB:Blk w b cs T)(hR:Row S w a ds)(hd:ds.length=m*sz)(hk:min m n=k)(hm:0<k)(hsz:0<sz)(hv:∀u∈ds.take (k*sz),cellB u=true)
  (hx:ev l x= .slice (some ⟨b,o,none⟩) n cp)(hy:ev l y= .slice a m c2)(hu:P.underlying t=some (.slice e))(hs:P.cellsOf e=sz)(ho:o+k*sz≤cs.length)
  (h:∀w',St b w w'→Blk w' b (splice cs o (ds.take (k*sz))) T→RS P ops K rest (l.set d (.int .i64 k)) w'):
  RS P ops K (⟨some d, .call {callee:= .builtin .copy,args:= #[x,y],argTypes:= #[t,t2]},ty,pos,af,none⟩::rest) l w:=by
 have hrs:=size_run (P:=P) (w:=w) hs (by omega);have hp:0<k*sz:=Nat.mul_pos hm hsz;have hkm:k*sz≤m*sz:=Nat.mul_le_mul_right _ (by omega);rcases hR with he|⟨b2,o2,rfl,_,hc⟩
 ·rw[he]at hd;simp at hd;omega
 ·have hc2:Cells w b2 o2 (ds.take (k*sz)):=by
   intro j hj;rw[List.length_take]at hj;rw[hc j (by omega)];simp only[List.getD_eq_getElem?_getD,List.getElem?_take];rw[if_pos (by omega)]
  have h1:(loadCells ⟨b2,o2,none⟩ (k*sz)).run P w= .ok (ds.take (k*sz)).toArray w:=by
   have:=loadFrom_run (P:=P) _ hc2 (k*sz) 0 #[] (by rw[List.length_take];omega);simpa [loadCells]using this
  obtain⟨w1,h2,h3,h4⟩:=storeCells_blk (P:=P) (o:=o) (ds.take (k*sz)) 0 _ w hB (by rw[List.length_take];omega) hv;have hrun:(execOp (ev l) ⟨some d, .call {callee:= .builtin .copy,args:= #[x,y],argTypes:= #[t,t2]},ty,pos,af,none⟩).run P w= .ok (.value (.int .i64 k)) w1:=by
   have hmin:Nat.min m n=k:=hk;have hmin3:min n m=k:=by rw[Nat.min_comm];exact hk
   simp[execOp,resolve,hx,hy,invoke,builtin,Builtin.copy_,run_underlying hu,Builtin.lenOf,hrs,Builtin.firstCells,hk,hmin,hmin3,h1,h2,goInt]
  exact RS.o hrun (h w1 h3 (by rw[Nat.add_zero]at h4;exact h4)) rfl
end
section
variable{S0:Nat→Prop}{w0 w:World}{L L' E:List Ent}{P:Program}{l0:List Oper}{ops:Array Oper}{K:List Value→World→Prop}{rest:List (Oper×Kd)}{l l':List Value}{m:Md}{d:Tmp}{op:Op}{ty:TypeId}{pos:String}{af:Array Edge}{kd:Kd}{v:Value}{x y z:Operand}{t t2 ti xt yt e T T2:TypeId}{b b2 o n c n2 c2 sz by_:Nat}{cs cs' vs ws zs:List Value}{X:World→Prop}
 {k ki kn:IntKind}{a a2:Option Addr}{xs ys:List Int}{i:Int}{α:Type}{f:α→List Value}{lst lst2:List α}{q:α}{s u:ByteArray}
theorem J.slt(hk:pureK kd=true)(hx:ev l x= .string s)(hy:ev l y= .string u)(kk:J S0 w0 L (RY S0 w0 m P ops K rest l'))(hl:l.set d (.bool (decide (S.kc s u<0)))=l':=by dsimp only[List.set]):J S0 w0 L (RY S0 w0 m P ops K ((⟨some d, .binOp .lss xt x y yt,ty,pos,af,none⟩,kd)::rest) l):=J.pur hk (fun _=>D.slt hx hy) kk hl
theorem J.sge(hk:pureK kd=true)(hx:ev l x= .string s)(hy:ev l y= .string u)(kk:J S0 w0 L (RY S0 w0 m P ops K rest l'))(hl:l.set d (.bool (decide (0≤S.kc s u)))=l':=by dsimp only[List.set]):J S0 w0 L (RY S0 w0 m P ops K ((⟨some d, .binOp .geq xt x y yt,ty,pos,af,none⟩,kd)::rest) l):=J.pur hk (fun _=>D.sge hx hy) kk hl
theorem J.sgt(hk:pureK kd=true)(hx:ev l x= .string s)(hy:ev l y= .string u)(kk:J S0 w0 L (RY S0 w0 m P ops K rest l'))(hl:l.set d (.bool (decide (0<S.kc s u)))=l':=by dsimp only[List.set]):J S0 w0 L (RY S0 w0 m P ops K ((⟨some d, .binOp .gtr xt x y yt,ty,pos,af,none⟩,kd)::rest) l):=J.pur hk (fun _=>D.sgt hx hy) kk hl
theorem J.eqR{sz:Nat}{p:Prop}[Decidable p][U:Agg P xt sz](hk:pureK kd=true)(hx:ev l x= .agg vs.toArray)(hy:ev l y= .agg ws.toArray)(fx:FitsT P 9 xt vs=true)(fy:FitsT P 9 xt ws=true)(he:eqC vs ws=decide p)(kk:J S0 w0 L (RY S0 w0 m P ops K rest l'))(hg:P.eqGuardType P.depth xt=false:=by kernel_rfl)(hl:l.set d (.bool (decide p))=l':=by dsimp only[List.set]):J S0 w0 L (RY S0 w0 m P ops K ((⟨some d, .binOp .eql xt x y yt,ty,pos,af,none⟩,kd)::rest) l):=
 let ⟨_,u1,u2,_⟩:=U.h
 J.pur hk (fun _=>by rw[←he];exact D.eqA hx hy u1 u2 hg fx fy) kk hl
theorem J.neR{sz:Nat}{p:Prop}[Decidable p][U:Agg P xt sz](hk:pureK kd=true)(hx:ev l x= .agg vs.toArray)(hy:ev l y= .agg ws.toArray)(fx:FitsT P 9 xt vs=true)(fy:FitsT P 9 xt ws=true)(he:eqC vs ws=decide p)(kk:J S0 w0 L (RY S0 w0 m P ops K rest l'))(hg:P.eqGuardType P.depth xt=false:=by kernel_rfl)(hl:l.set d (.bool (decide ¬p))=l':=by dsimp only[List.set]):J S0 w0 L (RY S0 w0 m P ops K ((⟨some d, .binOp .neq xt x y yt,ty,pos,af,none⟩,kd)::rest) l):=
 let ⟨_,u1,u2,_⟩:=U.h
 J.pur hk (fun w => by
  have := D.neA (dd := some d) (yt := yt) (ty := ty) (pos := pos) (af := af) (g := none) (w := w) hx hy u1 u2 hg fx fy
  rw [he] at this
  rw [this]
  congr 3
  by_cases h : p <;> simp [h]) kk hl
theorem J.rex{ι:Type}{p:ι→Prop}{F:Ent→List Ent}(e1:Ent)(e2:ι→Ent)[R:RE L e1 F](h:∀S w,e1.ok S w→∃i,p i∧∀S',e1.ok S' w→(e2 i).ok S' w)(kk:∀i,p i→J S0 w0 (F (e2 i)) X):J S0 w0 L X:=fun w M=>by
 obtain⟨S,_,h2⟩:=M.get (R.h e1).same;obtain⟨i,hp,hi⟩:=h S w h2;obtain⟨S',h1,h2,h3⟩:=M.foc (R.h (e2 i));exact kk i hp w (h3 w S' (Pr.refl _ _) (hi S' h2) fun _ hb=> .inl hb)
theorem J.cur{F:Ent→List Ent}(f:α→List Value)(sz:Nat)(e:TypeId)(b n c:Nat)(lst:List α)[R:RE L (.gown f sz e (some ⟨b,0,none⟩) n c lst) F](kk:∀cur:List Value,(cur.length=c*sz∧cur.take (n*sz)=lst.flatMap f∧n≤c∧c≤maxLen∧lst.length=n)→J S0 w0 (F (.blk b cur e)) X):J S0 w0 L X:=
 J.rex (.gown f sz e (some ⟨b, 0, none⟩) n c lst) (fun cur => .blk b cur e) (fun S w h => by
  obtain ⟨cur, B, h1, h2, h3, h4, h5⟩ := h.1.blk
  exact ⟨cur, ⟨h3, h4, h1, h2, h.1.len⟩, fun S' h' => ⟨h'.2 b rfl, B⟩⟩) kk
class RBE(L:List Ent)(b:Nat)(cs:outParam (List Value))(T:outParam TypeId)(F:outParam (Ent→List Ent)):Prop where h:∀e',Rpl L (.blk b cs T) e' (F e')
instance RBE.here{b:Nat}{cs:List Value}{T:TypeId}{L:List Ent}:RBE (.blk b cs T::L) b cs T (fun e'=>e'::L):=⟨fun _=> .here⟩
theorem J.ruc{cur:List Value}{F:Ent→List Ent}(f:α→List Value)(sz:Nat)(e:TypeId)(b n c:Nat)(lst:List α)[R:RBE L b cur e F](hf:∀x,(f x).length=sz)(h1:cur.length=c*sz)(h2:cur.take (n*sz)=lst.flatMap f)(h3:n≤c)(h4:c≤maxLen)(h5:lst.length=n)(kk:J S0 w0 (F (.gown f sz e (some ⟨b,0,none⟩) n c lst)) X):J S0 w0 L X:=fun w M=>by
 obtain⟨S,h1',h2',h3'⟩:=M.foc (R.h (.gown f sz e (some ⟨b,0,none⟩) n c lst));exact kk w (h3' w S (Pr.refl _ _) ⟨GOwn.of_cur h2'.2 hf h3 h4 h1 h2 h5 (Nat.zero_le _),fun q hq=>by simp[obk]at hq;subst hq;exact h2'.1⟩ fun _ hb=> .inl hb)
theorem RG.sub(h:RG S0 w0 L f sz a n lst)(lo hi m:Nat)(hh:hi≤n)(hl:lo≤hi)(hm:hi≤m):RG S0 w0 L f sz (subA a lo sz m) (hi - lo) ((lst.drop lo).take (hi - lo)):=fun w M=>let ⟨S,k⟩:=h w M;⟨S,k.sub lo hi m hh hl hm⟩
theorem Mem.part{F:List Value→List Ent}[R:RB L b cs T F]{ds:List Value}(M:Mem S0 w0 L w)(h:(cs.drop o).take ds.length=ds):Row (fun _=>True) w (some ⟨b,o,none⟩) ds:=
 .inr ⟨b,o,rfl,trivial,(M.blk (R.h cs).same).cells h⟩
theorem J.copyR{cp k:Nat}{ds:List Value}{F:List Value→List Ent}[U:Und P t (.slice e)][Z:Siz P e sz](hx:ev l x= .slice (some ⟨b,o,none⟩) n cp)(hy:ev l y= .slice a n2 c2)[R:RB L b cs T F](hR:∀w,Mem S0 w0 L w→∃S,Row S w a ds)(hd:ds.length=n2*sz)(h1:∀u∈ds.take (k*sz),cellB u=true)(hc:splice cs o (ds.take (k*sz))=cs')
  (kk:J S0 w0 (F cs') (RY S0 w0 m P ops K rest l'))(hk0:min n2 n=k:=by omega)(hm:0<k:=by omega)(ho:o+k*sz≤cs.length:=by omega)(hsz:0<sz:=by decide)(hl:l.set d (.int .i64 k)=l':=by dsimp only[List.set])(hk:okG m kd (F cs'):=by first|exact trivial|(repeat(first|exact List.Sublist.refl _|refine List.Sublist.cons_cons _ ?_|refine List.Sublist.cons _ ?_))):
  J S0 w0 L (RY S0 w0 m P ops K ((⟨some d, .call {callee:= .builtin .copy,args:= #[x,y],argTypes:= #[t,t2]},ty,pos,af,none⟩,kd)::rest) l):=
 J.big hk fun w M K' hK=>by
  obtain⟨S,h⟩:=hR w M;refine RS.copyC (M.blk (R.h cs).same) h hd hk0 hm hsz h1 hx hy U.h Z.h ho fun w' x1 B=>RS.nil ?_;rw[hc]at B;rw[hl];exact hK _ w' (M.store (R.h _) x1 B) (kk w' (M.store (R.h _) x1 B))
theorem RG.cells(h:RG S0 w0 L f sz a n lst)(w:World)(M:Mem S0 w0 L w):∃S,Row S w a (lst.flatMap f):=let ⟨S,k⟩:=h w M;⟨S,k.row⟩
theorem RG.tail{p:Nat}(h:RG S0 w0 L f sz (some ⟨b,0,none⟩) n lst)(hp:p<n):RG S0 w0 L f sz (some ⟨b,p*sz,none⟩) (n - p) (lst.drop p):=fun w M=>by
 obtain⟨S,k⟩:=h w M;have:=k.sub p n n (Nat.le_refl _) (by omega) (Nat.le_refl _);rw[List.take_of_length_le (by rw[List.length_drop,k.len];exact Nat.le_refl _)]at this;unfold subA at this;rw[if_neg (by omega)]at this;simp only[Option.map_some,add_mk,Nat.zero_add]at this;exact⟨S,this⟩
/-! slices of slices that lie in a block -/
theorem J.slT{o' n' c':Nat}{lo:Operand}[U:Und P xt (.slice e)][Z:Siz P e sz](hk:pureK kd=true)(hx:ev l x= .slice (some ⟨b,o,none⟩) n c)(h1:ev l lo= .int .i64 i)(kk:J S0 w0 L (RY S0 w0 m P ops K rest l'))(hz:sz≠0:=by decide)(hb:0≤i∧i≤n:=by omega)(hn:n≤c:=by omega)(hc:i<c:=by omega)
  (ho:o+i.toNat*sz=o':=by rfl)(hn':n - i.toNat=n':=by rfl)(hc':c - i.toNat=c':=by rfl)(hl:l.set d (.slice (some ⟨b,o',none⟩) n' c')=l':=by dsimp only[List.set]):
  J S0 w0 L (RY S0 w0 m P ops K ((⟨some d, .slice xt x (some lo) none none,ty,pos,af,none⟩,kd)::rest) l):=J.sl hk hx h1 rfl kk hz (by omega) hn (by unfold subA;rw[if_neg (by omega)];simp only[Option.map_some,add_mk];rw[ho]) (by rw[←hn'];rfl) hc' hl
theorem J.slP{n':Nat}{hi:Operand}[U:Und P xt (.slice e)][Z:Siz P e sz](hk:pureK kd=true)(hx:ev l x= .slice (some ⟨b,o,none⟩) n c)(h1:ev l hi= .int .i64 i)(kk:J S0 w0 L (RY S0 w0 m P ops K rest l'))(hz:sz≠0:=by decide)(hb:0≤i∧i≤c:=by omega)(hn:n≤c:=by omega)
  (hn':i.toNat=n':=by rfl)(hl:l.set d (.slice (some ⟨b,o,none⟩) n' c)=l':=by dsimp only[List.set]):
  J S0 w0 L (RY S0 w0 m P ops K ((⟨some d, .slice xt x none (some hi) none,ty,pos,af,none⟩,kd)::rest) l):=J.sl hk hx rfl h1 kk hz (by omega) hn (by unfold subA;split<;>simp[add_mk]) (by rw[←hn'];rfl) rfl hl
theorem sl3{o o' n n' c c':Nat}(h1:o=o')(h2:n=n')(h3:c=c'):Value.slice (some ⟨b,o,none⟩) n c= .slice (some ⟨b,o',none⟩) n' c':=by subst h1 h2 h3;rfl
theorem ins_cells{A C R B X:List Value}{p s:Nat}(hA:A.length=p)(hC:C.length=s)(hX:X.length=s)(hB:B.length≤R.length):
  splice (splice (A++C++R) (p+s) B) p X=A++X++B++R.drop B.length∧splice (splice (A++C++R) p X) (p+s) B=A++X++B++R.drop B.length:=by
 have h1:∀(A C R V:List Value),C.length=V.length→splice (A++C++R) A.length V=A++V++R:=fun A C R V h=>by
  rw[splice_eq _ _ _ (by simp[h]),List.append_assoc A C R,List.take_left,←List.append_assoc,←h,←List.length_append,List.drop_left]
 have h2:∀(A R V:List Value),V.length≤R.length→splice (A++R) A.length V=A++V++R.drop V.length:=fun A R V h=>by
  have:=h1 A (R.take V.length) (R.drop V.length) V (by rw[List.length_take];omega);rwa[List.append_assoc,List.take_append_drop]at this
 constructor
 ·have e1:=h2 (A++C) R B hB;rw[List.length_append,hA,hC]at e1;rw[e1,List.append_assoc,List.append_assoc A,←hA];have e2:=h1 A C (B++R.drop B.length) X (by omega);rw[List.append_assoc]at e2;rw[e2];simp
 ·have e1:=h1 A C R X (by omega);rw[hA]at e1;rw[e1];have e2:=h2 (A++X) R B hB;rw[List.length_append,hA,hX]at e2;exact e2
theorem ins_flat{cs:List Value}{p n:Nat}{z:α}(hf:∀x,(f x).length=sz)(hl:lst.length=n)(hp:p<n)(hn:(n+1)*sz≤cs.length)(hc:cs.take (p*sz)=(lst.take p).flatMap f):
  (splice (splice cs ((p+1)*sz) ((lst.drop p).flatMap f)) (p*sz) (f z)).take ((n+1)*sz)=(lst.take p++z::lst.drop p).flatMap f∧
  (splice (splice cs (p*sz) (f z)) ((p+1)*sz) ((lst.drop p).flatMap f)).take ((n+1)*sz)=(lst.take p++z::lst.drop p).flatMap f:=by
 have e1:(p+1)*sz=p*sz+sz:=by rw[Nat.add_mul];omega
 have e2:(n+1)*sz=p*sz+sz+(n - p)*sz:=by rw[←e1,←Nat.add_mul];congr 1;omega
 have hB:((lst.drop p).flatMap f).length=(n - p)*sz:=by rw[flat_len f sz hf,List.length_drop,hl,Nat.mul_comm]
 have hA:(cs.take (p*sz)).length=p*sz:=by rw[List.length_take];omega
 have hsp:cs=cs.take (p*sz)++(cs.drop (p*sz)).take sz++cs.drop (p*sz+sz):=by
  rw[List.append_assoc,←List.drop_drop,List.take_append_drop,List.take_append_drop]
 have h:=ins_cells (A:=cs.take (p*sz)) (C:=(cs.drop (p*sz)).take sz) (R:=cs.drop (p*sz+sz)) (B:=(lst.drop p).flatMap f) (X:=f z) hA (by rw[List.length_take,List.length_drop];omega) (hf z) (by rw[hB,List.length_drop];omega);rw[←hsp]at h;have ht:∀R:List Value,(cs.take (p*sz)++f z++(lst.drop p).flatMap f++R).take ((n+1)*sz)=(lst.take p++z::lst.drop p).flatMap f:=fun R=>by
  rw[List.take_append_of_le_length (by simp only[List.length_append,hA,hf,hB];omega),List.take_of_length_le (by simp only[List.length_append,hA,hf,hB];omega),hc,List.flatMap_append,List.flatMap_cons,List.append_assoc]
 rw[e1,h.1,h.2];exact⟨ht _,ht _⟩
theorem J.apZ{F:Ent→List Ent}{p k0:Nat}{l':Nat→Nat→List Value}(f:α→List Value)(n:Nat)(lst:List α)[U:Und P t (.slice e)][U2:Und P ti (.int kn)][I:Inf P e sz by_ zs](hk:okE m kd=true)(hx:ev l x= .slice (some ⟨b,0,none⟩) p c)(hy:ev l y= .int ki (k0:Nat))[R:RE L (.gown f sz e (some ⟨b,0,none⟩) n c lst) F]
  (kk:∀b' c' cs',(cs'.length=c'*sz∧cs'.take (p*sz)=(lst.take p).flatMap f∧p+k0≤c'∧c'≤maxLen)→J S0 w0 (.blk b' cs' e::L) (RY S0 w0 m P ops K rest (l' b' c')))(hz:zs.length=sz:=by rfl)(hk0:0<k0:=by omega)(hp:p≤n:=by omega)(hpc:p≤c:=by omega)(hg:c<p+k0:=by omega)(hby:by_≤1000:=by decide)(hb:p+k0≤100000000:=by omega)(hsz:0<sz:=by decide)
  (hl:∀b' c',l.set d (.slice (some ⟨b',0,none⟩) (p+k0) c')=l' b' c':=by intro b' c';dsimp only[List.set]):
  J S0 w0 L (RY S0 w0 m P ops K ((⟨some d, .call {callee:= .builtin .append,args:= #[x,y],argTypes:= #[t,ti]},ty,pos,af,none⟩,kd)::rest) l):=
 J.eff hk fun w M K' hK=>by
  obtain⟨i,zv,i1,i2,i3,i4,i5⟩:=I.h;obtain⟨S,_,q1⟩:=M.get (R.h (.gown f sz e (some ⟨b,0,none⟩) n c lst)).same;obtain⟨cur,B,g1,g2,g3,g4,g5⟩:=q1.1.blk;have hf:=q1.1.szf;have h8:(p+k0)*by_≤(p+k0)*1000:=Nat.mul_le_mul_left _ hby;have h9:k0*by_≤k0*1000:=Nat.mul_le_mul_left _ hby;have hpl:p*sz≤n*sz:=Nat.mul_le_mul_right _ hp;have hnl:n*sz≤c*sz:=Nat.mul_le_mul_right _ g1;have hcp:cur.take (p*sz)=(lst.take p).flatMap f:=by
   rw[←flat_take f sz hf,←g4,List.take_take,Nat.min_eq_left hpl]
  have hold:(Builtin.firstCells i.size p (.slice (some ⟨b,0,none⟩) p c)).run P w.drew= .ok (cur.take (p*sz)).toArray w.drew:=by
   rw[i2];refine run_firstCells_some w.drew sz p ⟨b,0,none⟩ p c _ (by rw[List.length_take];omega) fun j v hj=>?_
   rw[List.getElem?_take]at hj;split at hj
   ·rw[add_mk,Nat.zero_add];exact B.cell hj
   ·cases hj
  have hrun:=Lib.run_append_grow_zeros (P:=P) w t ti ty e i zv ki kn U.h U2.h i1 i4 (some ⟨b,0,none⟩) p c _ hold k0 hk0 (by omega) hg (by omega) (by rw[i3];omega) (by rw[i3];exact growslice_fits hg (by omega));have hge:=grownCap_ge w (p+k0) c e;have hcm:=grownCap_le_maxLen w (p+k0) c e (by simp only[maxLen];omega);have hgen:∀v w',(Builtin.append_ #[t,ti] ty #[.slice (some ⟨b,0,none⟩) p c, .int ki k0]).run P w= .ok v w'→(execOp (ev l) ⟨some d, .call {callee:= .builtin .append,args:= #[x,y],argTypes:= #[t,ti]},ty,pos,af,none⟩).run P w= .ok (.value v) w':=by
   intro v w' h;simp[execOp,resolve,hx,hy,invoke,builtin,h]
  have hrun2:=hgen _ _ hrun;have nf:=new_facts w.drew (cur.take (p*sz)++(Builtin.zeroCells zv.cells k0++Builtin.zeroCells zv.cells (grownCap w (p+k0) c e - (p+k0))).toList) e;have hx1:Ext w (w.drew.alloc (.cells (cur.take (p*sz)++(Builtin.zeroCells zv.cells k0++Builtin.zeroCells zv.cells (grownCap w (p+k0) c e - (p+k0))).toList).toArray e)):=((Below.refl _ _).drew).alloc (Nat.le_refl _) (.cells (cur.take (p*sz)++(Builtin.zeroCells zv.cells k0++Builtin.zeroCells zv.cells (grownCap w (p+k0) c e - (p+k0))).toList).toArray e);have he:((cur.take (p*sz)).toArray++Builtin.zeroCells zv.cells k0++Builtin.zeroCells zv.cells (grownCap w (p+k0) c e - (p+k0)))=(cur.take (p*sz)++(Builtin.zeroCells zv.cells k0++Builtin.zeroCells zv.cells (grownCap w (p+k0) c e - (p+k0))).toList).toArray:=by
   apply Array.ext';simp
  rw[he]at hrun2;have hzc:∀q,(Builtin.zeroCells zv.cells q).toList.length=q*sz:=fun q=>by
   unfold Builtin.zeroCells;rw[i5];simp[hz]
  refine RS.o hrun2 (RS.nil (hK _ _ hx1 ?_)) rfl;rw[hl];refine kk _ _ _ ⟨?_,?_,hge,hcm⟩ _ (M.new hx1 ⟨Nat.le_refl _,nf.2.1⟩)
  ·rw[List.length_append,List.length_take,g3,Nat.min_eq_left (by omega),Array.toList_append,List.length_append,hzc,hzc,←Nat.add_mul,←Nat.add_mul];congr 1;omega
  ·rw[List.take_append_of_le_length (by rw[List.length_take,g3];omega),List.take_take,Nat.min_self,hcp]
theorem J.nilS[U:Und P xt (.slice e)](hk:pureK kd=true)(hx:ev l x= .slice a n c)(hy:ev l y= .slice none 0 0)(kk:J S0 w0 L (RY S0 w0 m P ops K rest l'))(hl:l.set d (.bool a.isNone)=l':=by dsimp only[List.set]):J S0 w0 L (RY S0 w0 m P ops K ((⟨some d, .binOp .eql xt x y yt,ty,pos,af,none⟩,kd)::rest) l):=J.pur hk (fun _=>D.nilS hx hy U.h) kk hl
theorem J.slA[U:Und P xt (.array n e)][Z:Siz P e 1](hk:pureK kd=true)(hx:ev l x= .pointer (some ⟨b,o,none⟩))(kk:J S0 w0 L (RY S0 w0 m P ops K rest l'))(hn:0<n:=by decide)(hl:l.set d (.slice (some ⟨b,o,none⟩) n n)=l':=by dsimp only[List.set]):J S0 w0 L (RY S0 w0 m P ops K ((⟨some d, .slice xt x none none none,ty,pos,af,none⟩,kd)::rest) l):=J.pur hk (fun _=>D.sliceAt hx U.h Z.h hn) kk hl
theorem J.fn{fn:Fn}{first captured:Array Operand}{fs us:List Value}(hk:pureK kd=true)(hf:first.toList.map (ev l)=fs)(hc:captured.toList.map (ev l)=us)(kk:J S0 w0 L (RY S0 w0 m P ops K rest l'))(hl:l.set d (.func fn fs.toArray us.toArray)=l':=by dsimp only[List.set]):J S0 w0 L (RY S0 w0 m P ops K ((⟨some d, .makeFunc fn first captured,ty,pos,af,none⟩,kd)::rest) l):=J.pur hk (fun _=>D.func hf hc) kk hl
theorem J.b0G(f:α→List Value)(hf:∀x,(f x).length=sz)[U:Und P t (.slice e)][I:Inf P e sz by_ zs]{l':Nat→List Value}(hk:okE m kd=true)(kk:∀b,J S0 w0 (.gown f sz e (some ⟨b,0,none⟩) 0 0 []::L) (RY S0 w0 m P ops K rest (l' b)))(hl:∀b,l.set d (.slice (some ⟨b,0,none⟩) 0 0)=l' b:=by intro b;dsimp only[List.set]):
  J S0 w0 L (RY S0 w0 m P ops K ((⟨some d, .buildSlice t 0 #[],ty,pos,af,none⟩,kd)::rest) l):=
 J.eff hk fun w M K' hK => RS.buildNone U.h I.h fun b w' e1 s1 x1 B => RS.nil (hK _ w' x1 (by
  rw [hl]
  exact kk b w' (M.new x1 (gown_blk (lst := []) ⟨by subst e1; exact Nat.le_refl _, B⟩ hf rfl rfl (by decide)))))
theorem J.b1V(f:α→List Value)(q:α)(hf:∀x,(f x).length=1)[U:Und P t (.slice e)][I:Inf P e 1 by_ zs]{l':Nat→List Value}(hk:okE m kd=true)(hx:ev l x=v)(hq:f q=[v])(hv:v.cells= #[v])(kk:∀b,J S0 w0 (.gown f 1 e (some ⟨b,0,none⟩) 1 1 [q]::L) (RY S0 w0 m P ops K rest (l' b)))
  (hl:∀b,l.set d (.slice (some ⟨b,0,none⟩) 1 1)=l' b:=by intro b;dsimp only[List.set]):J S0 w0 L (RY S0 w0 m P ops K ((⟨some d, .buildSlice t 1 #[(0,x)],ty,pos,af,none⟩,kd)::rest) l):=
 J.eff hk fun w M K' hK => RS.buildSlice (xs := [x]) (vs := [v]) (cs := [v]) U.h I.h (by decide) rfl rfl rfl (by simp [hx]) rfl (by simp [hv]) (by intro u hu; simp only [List.mem_cons, List.not_mem_nil, or_false] at hu; subst hu; simp [hv]) rfl fun b w' e1 s1 x1 B => RS.nil (hK _ w' x1 (by
  rw [hl]
  exact kk b w' (M.new x1 (gown_blk (lst := [q]) ⟨by subst e1; exact Nat.le_refl _, B⟩ hf (by simp [hq]) rfl (by decide)))))
theorem J.b2V{p q:α}{v2:Value}(f:α→List Value)(hf:∀x,(f x).length=1)[U:Und P t (.slice e)][I:Inf P e 1 by_ zs]{l':Nat→List Value}(hk:okE m kd=true)(hx:ev l x=v)(hy:ev l y=v2)(hp:f p=[v])(hq:f q=[v2])(hv:v.cells= #[v])(hv2:v2.cells= #[v2])(kk:∀b,J S0 w0 (.gown f 1 e (some ⟨b,0,none⟩) 2 2 [p,q]::L) (RY S0 w0 m P ops K rest (l' b)))
  (hl:∀b,l.set d (.slice (some ⟨b,0,none⟩) 2 2)=l' b:=by intro b;dsimp only[List.set]):J S0 w0 L (RY S0 w0 m P ops K ((⟨some d, .buildSlice t 2 #[(0,x),(1,y)],ty,pos,af,none⟩,kd)::rest) l):=
 J.eff hk fun w M K' hK => RS.buildSlice (xs := [x, y]) (vs := [v, v2]) (cs := [v, v2]) U.h I.h (by decide) rfl rfl rfl (by simp [hx, hy]) rfl (by simp [hv, hv2]) (by intro u hu; simp only [List.mem_cons, List.not_mem_nil, or_false] at hu; rcases hu with rfl | rfl <;> simp [hv, hv2]) rfl fun b w' e1 s1 x1 B => RS.nil (hK _ w' x1 (by
  rw [hl]
  exact kk b w' (M.new x1 (gown_blk (lst := [p, q]) ⟨by subst e1; exact Nat.le_refl _, B⟩ hf (by simp [hp, hq]) rfl (by decide)))))
theorem GRow.none{S:Nat→Prop}{w:World}(h:GRow f sz S w a n lst)(hz:0<sz)(ha:a.isNone=true):n=0∧lst=[]:=by
 have hn:n=0:=by
  apply Classical.byContradiction;intro hn;obtain⟨q,hq⟩:=h.ex (i:=0) (by omega);obtain⟨b,o,h1,_⟩:=h.get (i:=0) hz hq (by omega);rw[h1]at ha;cases ha
 exact⟨hn,List.eq_nil_of_length_eq_zero (by rw[h.len,hn])⟩
theorem J.ldGa{off s1:Nat}[U:Agg P xt s1](hx:ev l x=pt a (i.toNat*sz+off))(hR:RG S0 w0 (Lv m L) f sz a n lst)(kk:J S0 w0 L (RY S0 w0 m P ops K rest l')){q:α}(hq:lst[i.toNat]? =some q:=by assumption)(hf:((f q).drop off).take s1=vs:=by dsimp only[List.drop,List.take])(hn:vs.length=s1:=by rfl)(ho:Nat.ble (off+s1) sz=true:=by rfl)(hs1:s1≠0:=by decide)(hi:0≤i∧i<n:=by omega)(hl:l.set d (.agg vs.toArray)=l':=by dsimp only[List.set]):
  J S0 w0 L (RY S0 w0 m P ops K ((⟨some d, .load xt x,ty,pos,af,none⟩, .q)::rest) l):=
 J.val (fun w M => by
  obtain ⟨S, h⟩ := hR w M
  have ho := Nat.le_of_ble_eq_true ho
  obtain ⟨b, o', ha, _, hc⟩ := h.get (by omega) hq hi
  obtain ⟨_, u1, u2, u3⟩ := U.h
  refine D.loadAgg (by rw [hx, pt_some ha]) u1 u2 u3 hs1 hn ?_
  intro j hj
  have h1 := hc (off + j) (by rw [h.szf]; omega)
  rw [show o' + i.toNat * sz + (off + j) = o' + (i.toNat * sz + off) + j by omega] at h1
  rw [h1, ← hf]
  simp only [List.getD_eq_getElem?_getD, List.getElem?_take, List.getElem?_drop]
  rw [if_pos (by omega)]) kk hl
theorem RI.part{F:List Value→List Ent}[R:RB L b cs T F](h:(cs.drop o).take n=ints k xs)(hl:xs.length=n)(hb:Bd k xs):RI S0 w0 L k (some ⟨b,o,none⟩) n xs:=fun w M=>
 ⟨fun _=>True, .inr ⟨b,o,rfl,trivial,(M.blk (R.h cs).same).cellsN _ h⟩,hl,hb⟩
theorem J.extv{fi:FuncId}{fn:Func}{args:Array Operand}{av:List Value}{ts:Array TypeId}{E:Array Value→Sem Value}(hf:P.funcs[fi]? =some fn)(hn:(fn.name== "runtime.NumGoroutine")=false)(hb:fn.body.isNone=true)(hnx:Extern.findNext fn=none)(he:Extern.find fn=some E)
  (ha:args.toList.map (ev l)=av)(hr:∀w,Mem S0 w0 (Lv m L) w→(E av.toArray).run P w= .ok v w)(kk:J S0 w0 L (RY S0 w0 m P ops K rest l'))(hl:l.set d v=l':=by dsimp only[List.set]):
  J S0 w0 L (RY S0 w0 m P ops K ((⟨some d, .call {callee:= .value (.func fi),args:=args,argTypes:=ts},ty,pos,af,none⟩, .q)::rest) l):=
 J.val (fun w M=>D.ext hf hn hb hnx he ha (hr w M)) kk hl
theorem J.ldO[U:Sca P xt](hB:Blk w0 b cs T)(hn:¬S0 b)(hx:ev l x= .pointer (some ⟨b,o,none⟩))(k:J S0 w0 L (RY S0 w0 .s P ops K rest l'))(hv:cs[o]? =some v:=by rfl)(hl:l.set d v=l':=by dsimp only[List.set]):
  J S0 w0 L (RY S0 w0 .s P ops K ((⟨some d, .load xt x,ty,pos,af,none⟩, .q)::rest) l):=
 let ⟨_,u1,u2⟩:=U.h
 J.val (fun w M=>D.load hx u1 u2 ((hB.pr M.pr hn).cell hv)) k hl
theorem RG.blkO(hB:Blk w0 b (f q) T)(hn:¬S0 b)(hf:∀x,(f x).length=sz):RG S0 w0 L f sz (some ⟨b,0,none⟩) 1 [q]:=fun w M=>
 ⟨fun _=>True,GRow.of_blk (hB.pr M.pr hn) trivial (by simp) rfl hf⟩
theorem Mem.two{F1 F2:Ent→List Ent}(M:Mem S0 w0 L w)(e1 e2:Ent)[R:RE L e1 F1][R2:RE (F1 .emp) e2 F2]:∃S1 S2:Nat→Prop,(∀b,S1 b→S2 b→False)∧e1.ok S1 w∧e2.ok S2 w:=by
 obtain⟨S,T,h1,h2,h3,h4,h5⟩:=(R.h .emp).foc M.sep;have hs:Sep (F1 .emp) T w:=h5 (U':=T) (S':=no) (fun b hb=>hb.elim) (fun b hb=>hb) (fun b hb=>hb.elim) (fun _ _ _=>rfl) trivial;obtain⟨S2,T2,g1,g2,g3,g4,g5⟩:=(R2.h e2).foc hs;exact⟨S,S2,fun b hb hc=>h3 b hb (g1 b hc),h4,g4⟩
end
/-! records that are built, part by part -/
inductive EvP(l:List Value):List (Nat×Operand)→List (Nat×Value)→List (Nat×List Value)→Prop
 |nil:EvP l [] [] []
 |cons {i:Nat} {x:Operand} {v:Value} {vs:List Value} {r:List (Nat×Operand)} {ps:List (Nat×Value)} {qs:List (Nat×List Value)} (h:ev l x=v) (hc:v.cells=vs.toArray) (t:EvP l r ps qs):EvP l ((i,x)::r) ((i,v)::ps) ((i,vs)::qs)
def ofS:List (Nat×Nat)→Nat→Nat
 |[],_=>0
 |x::_,0=>x.1
 |_::r,n+1=>ofS r n
theorem ofS_eq:∀(pl:List (Nat×Nat)) (i:Nat),ofS pl i=(pl.getD i (0,0)).1
 |[],_=>by simp[ofS]
 |_::_,0=>rfl
 |_::r,n+1=>by rw[ofS,ofS_eq r n];simp[List.getD_eq_getElem?_getD]
def fillS(pl:List (Nat×Nat))(cs:List Value):List (Nat×List Value)→List Value
 |[]=>cs
 |(i,vs)::r=>fillS pl (splice cs (ofS pl i) vs) r
def fillO(pl:List (Nat×Nat))(n:Nat):List (Nat×List Value)→Bool
 |[]=>true
 |(i,vs)::r=>(Nat.blt i pl.length&&(Nat.beq vs.length (pl.getD i (0,0)).2&&Nat.ble ((pl.getD i (0,0)).1+vs.length) n))&&fillO pl n r
theorem EvP.fill{l:List Value}{pl:List (Nat×Nat)}{r:List (Nat×Operand)}{ps:List (Nat×Value)}{qs:List (Nat×List Value)}(h:EvP l r ps qs):r.map (fun p=>(p.1,ev l p.2))=ps∧∀cs:List Value,fillO pl cs.length qs=true→fillL pl cs ps=some (fillS pl cs qs):=by
 induction h with
 |nil=>exact⟨rfl,fun cs _=>rfl⟩
 | @cons i x v vs r ps qs h hc _ ih=>
  refine⟨by rw[List.map_cons,ih.1,h],fun cs ho=>?_⟩;unfold fillO at ho;rw[Bool.and_eq_true,Bool.and_eq_true,Bool.and_eq_true]at ho;obtain⟨⟨h1,h2,h3⟩,h4⟩:=ho;have hi:i<pl.length:=by rw[Nat.blt_eq]at h1;exact h1
  have hg:pl[i]? =some (pl.getD i (0,0)):=by rw[List.getD_eq_getElem?_getD,List.getElem?_eq_getElem hi];rfl
  unfold fillL fillS;rw[hg,ofS_eq];have hsz:v.cells.size=vs.length:=by rw[hc];simp
  simp only[hsz];rw[if_pos (by rw[h2,h3];rfl),show v.cells.toList=vs by rw[hc]];exact ih.2 _ (by rw[splice_length];exact h4)
theorem J.bd{S0:Nat→Prop}{w0:World}{L:List Ent}{P:Program}{ops:Array Oper}{K:List Value→World→Prop}{rest:List (Oper×Kd)}{l l':List Value}{m:Md}{d:Tmp}{ty xt:TypeId}{pos:String}{af:Array Edge}{kd:Kd}
  {parts:Array (Nat×Operand)}{pl:List (Nat×Nat)}{sz by_:Nat}{zs cs:List Value}{ps:List (Nat×Value)}{qs:List (Nat×List Value)}[I:Inf P xt sz by_ zs][I2:SInf P xt pl](hk:pureK kd=true)(kk:J S0 w0 L (RY S0 w0 m P ops K rest l'))
  (hv:EvP l parts.toList ps qs:=by repeat(first|exact EvP.nil|(apply EvP.cons;(· ((conv=>lhs;whnf)<;>rfl));(· rfl))))(ho:fillO pl zs.length qs=true:=by rfl)(hf:fillS pl zs qs=cs:=by dsimp only[fillS,ofS,splice,List.set,Nat.reduceAdd])(hl:l.set d (.agg cs.toArray)=l':=by dsimp only[List.set]):
  J S0 w0 L (RY S0 w0 m P ops K ((⟨some d, .build xt parts,ty,pos,af,none⟩,kd)::rest) l):=
 J.bs hk (hv.fill (pl:=pl)).1 kk (by rw[←hf];exact(hv.fill (pl:=pl)).2 zs ho) hl
def Gw{β:Type}(w:World)(f:β→List Value)(sz:Nat)(e:TypeId)(a:Option Addr)(lst:List β)(nd:Ending)(w':World):Prop:=
 ∃a' c',nd= .returned (.slice a' lst.length c')∧Pr (fun b=>obk a=some b) w w'∧GOwn f sz 0 w' e a' lst.length c' lst∧∀b,obk a'=some b→obk a=some b∨w.heap.size≤b
section
variable{S0:Nat→Prop}{w0 w:World}{L:List Ent}{P:Program}{ops:Array Oper}{K:List Value→World→Prop}{rest:List (Oper×Kd)}{l:List Value}{m:Md}{d:Tmp}{ty:TypeId}{pos:String}{af:Array Edge}{kd:Kd}{β:Type}{f:β→List Value}{sz n c:Nat}{e:TypeId}{a:Option Addr}{lst lst':List β}{F:Option Addr→Nat→Nat→List β→List Ent}{fi:FuncId}{args:Array Operand}{av:List Value}{ts:Array TypeId}
theorem J.callG{l':Option Addr→Nat→List Value}[E:Ents P fi](ha:args.toList.map (ev l)=av)[R:GO L a f sz e n c lst F](h:∀w,Mem S0 w0 L w→GOwn f sz 0 w e a n c lst→Calls P fi av.toArray w (Gw w f sz e a lst'))
  (k:∀a' c',J S0 w0 (F a' lst'.length c' lst') (RY S0 w0 m P ops K rest (l' a' c')))(hl:∀a' c',l.set d (.slice a' lst'.length c')=l' a' c':=by intro a' c';dsimp only[List.set])(hk:∀a' c',okG m kd (F a' lst'.length c' lst'):=by first|exact fun _ _=>trivial|(intro _ _;repeat(first|exact List.Sublist.refl _|refine List.Sublist.cons_cons _ ?_|refine List.Sublist.cons _ ?_))):
  J S0 w0 L (RY S0 w0 m P ops K ((⟨some d, .call {callee:= .value (.func fi),args:=args,argTypes:=ts},ty,pos,af,none⟩,kd)::rest) l):=
 J.bigs (ι:=Option Addr×Nat) (Ls:=fun i=>F i.1 lst'.length i.2 lst') (none,0) (fun i=>hk i.1 i.2) fun w M K' hK=>by
  obtain⟨S,_,q1⟩:=M.get (R.h a n c lst).same;refine RS.callx E.h (h w M q1.1) ha fun nd w' hR=>?_
  obtain⟨a',c',h1,h2,h3,h4⟩:=hR;refine⟨_,h1,RS.nil ?_⟩;obtain⟨S2,g1,g2,g3⟩:=M.foc (R.h a' lst'.length c' lst');have M':=g3 w' (fun b=>obk a'=some b) (h2.mono fun b hb=>g2.2 b hb) ⟨h3,fun b hb=>hb⟩ fun b hb=>(h4 b hb).imp_left (g2.2 b);refine hK _ w' (a',c') M' ?_;rw[hl];exact k a' c' w' M'
theorem J.enterG{fn:Func}{c0:Code}{R:Ending→World→Prop}(u:Nat)(hO:GOwn f sz 0 w0 e a n c lst)(hf:P.funcs[fi]? =some fn)(hb:fn.body=some c0)(hu:fn.ntmps - av.length=u)(h:J (fun b=>obk a=some b) w0 [.gown f sz e a n c lst] (c0.wp P (bodyPost P fn R) (fr l)))(hl:av++List.replicate u undef=l:=by dsimp only[List.reduceReplicate,List.cons_append,List.nil_append]):Calls P fi av.toArray w0 R:=
 enterU u hf hb hu (h w0 ⟨Pr.refl _ _,_,no,fun b hb=> .inl hb,fun b hb=>hb.elim,fun b _ hb=>hb,⟨hO,fun b hb=>hb⟩,trivial⟩) hl
theorem J.finW{a':Option Addr}{n' c':Nat}{v:Value}[R:GO L a' f sz e n' c' lst' F](hv:v= .slice a' n' c'):J (fun b=>obk a=some b) w0 L (Gw w0 f sz e a lst' (.returned v)):=fun w M=>by
 obtain⟨S,h1,h2⟩:=M.get (R.h a' n' c' lst').same;obtain rfl:=h2.1.len;exact⟨a',c',by rw[hv],M.pr,h2.1,fun b hb=>(h1 b (h2.2 b hb)).1⟩
end
end G
namespace G
open Go.RowKit
section
variable{S0:Nat→Prop}{w0:World}{L:List Ent}{X:World→Prop}
variable{m:Md}{P:Program}{ops:Array Oper}{K:List Value→World→Prop}{rest:List (Oper×Kd)}{l:List Value}{dd:Option Tmp}{ty:TypeId}{pos:String}{af:Array Edge}{kd:Kd}{g:Option (Nat×Bool)}
theorem J.tm{x:Operand}(h:J S0 w0 L (RY S0 w0 m P ops K ((⟨dd, .move x,ty,pos,af,none⟩,kd)::rest) l)):J S0 w0 L (RY S0 w0 m P ops K ((⟨dd, .move x,ty,pos,af,none⟩,kd)::rest) l):=h
theorem J.ta{x:Operand}(h:J S0 w0 L (RY S0 w0 m P ops K ((⟨dd, .assign x,ty,pos,af,none⟩,kd)::rest) l)):J S0 w0 L (RY S0 w0 m P ops K ((⟨dd, .assign x,ty,pos,af,none⟩,kd)::rest) l):=h
theorem J.tb(b:BinOp){xt yt:TypeId}{x y:Operand}(h:J S0 w0 L (RY S0 w0 m P ops K ((⟨dd, .binOp b xt x y yt,ty,pos,af,none⟩,kd)::rest) l)):J S0 w0 L (RY S0 w0 m P ops K ((⟨dd, .binOp b xt x y yt,ty,pos,af,none⟩,kd)::rest) l):=h
theorem J.tl{xt:TypeId}{x:Operand}(h:J S0 w0 L (RY S0 w0 m P ops K ((⟨dd, .load xt x,ty,pos,af,none⟩,kd)::rest) l)):J S0 w0 L (RY S0 w0 m P ops K ((⟨dd, .load xt x,ty,pos,af,none⟩,kd)::rest) l):=h
theorem J.ts{xt:TypeId}{x y:Operand}(h:J S0 w0 L (RY S0 w0 m P ops K ((⟨dd, .store xt x y,ty,pos,af,none⟩,kd)::rest) l)):J S0 w0 L (RY S0 w0 m P ops K ((⟨dd, .store xt x y,ty,pos,af,none⟩,kd)::rest) l):=h
theorem J.tf{xt:TypeId}{x:Operand}{i:Nat}(h:J S0 w0 L (RY S0 w0 m P ops K ((⟨dd, .fieldAddr xt x i,ty,pos,af,none⟩,kd)::rest) l)):J S0 w0 L (RY S0 w0 m P ops K ((⟨dd, .fieldAddr xt x i,ty,pos,af,none⟩,kd)::rest) l):=h
theorem J.tx{x:Operand}{i:Nat}(h:J S0 w0 L (RY S0 w0 m P ops K ((⟨dd, .extract x i,ty,pos,af,none⟩,kd)::rest) l)):J S0 w0 L (RY S0 w0 m P ops K ((⟨dd, .extract x i,ty,pos,af,none⟩,kd)::rest) l):=h
theorem J.tc(bi:Builtin){args:Array Operand}{ts:Array TypeId}(h:J S0 w0 L (RY S0 w0 m P ops K ((⟨dd, .call {callee:= .builtin bi,args:=args,argTypes:=ts},ty,pos,af,none⟩,kd)::rest) l)):J S0 w0 L (RY S0 w0 m P ops K ((⟨dd, .call {callee:= .builtin bi,args:=args,argTypes:=ts},ty,pos,af,none⟩,kd)::rest) l):=h
theorem J.ti{xt:TypeId}{x y:Operand}(h:J S0 w0 L (RY S0 w0 m P ops K ((⟨dd, .indexAddr xt x y,ty,pos,af,none⟩,kd)::rest) l)):J S0 w0 L (RY S0 w0 m P ops K ((⟨dd, .indexAddr xt x y,ty,pos,af,none⟩,kd)::rest) l):=h
theorem J.tu{b:UnOp}{xt:TypeId}{x:Operand}(h:J S0 w0 L (RY S0 w0 m P ops K ((⟨dd, .unOp b xt x,ty,pos,af,none⟩,kd)::rest) l)):J S0 w0 L (RY S0 w0 m P ops K ((⟨dd, .unOp b xt x,ty,pos,af,none⟩,kd)::rest) l):=h
theorem J.tp{x y z:Operand}(h:J S0 w0 L (RY S0 w0 m P ops K ((⟨dd, .pick x y z,ty,pos,af,none⟩,kd)::rest) l)):J S0 w0 L (RY S0 w0 m P ops K ((⟨dd, .pick x y z,ty,pos,af,none⟩,kd)::rest) l):=h
theorem J.tv{xt yt:TypeId}{x:Operand}(h:J S0 w0 L (RY S0 w0 m P ops K ((⟨dd, .convert xt yt x,ty,pos,af,none⟩,kd)::rest) l)):J S0 w0 L (RY S0 w0 m P ops K ((⟨dd, .convert xt yt x,ty,pos,af,none⟩,kd)::rest) l):=h
theorem J.tq{xt:TypeId}{x:Operand}{lo hi:Option Operand}(h:J S0 w0 L (RY S0 w0 m P ops K ((⟨dd, .slice xt x lo hi none,ty,pos,af,none⟩,kd)::rest) l)):J S0 w0 L (RY S0 w0 m P ops K ((⟨dd, .slice xt x lo hi none,ty,pos,af,none⟩,kd)::rest) l):=h
theorem J.td{xt:TypeId}{ps:Array (Nat×Operand)}(h:J S0 w0 L (RY S0 w0 m P ops K ((⟨dd, .build xt ps,ty,pos,af,none⟩,kd)::rest) l)):J S0 w0 L (RY S0 w0 m P ops K ((⟨dd, .build xt ps,ty,pos,af,none⟩,kd)::rest) l):=h
theorem J.tg{op:Op}{j:Nat}{t:Bool}(h:J S0 w0 L (RY S0 w0 m P ops K ((⟨dd,op,ty,pos,af,some (j,t)⟩,kd)::rest) l)):J S0 w0 L (RY S0 w0 m P ops K ((⟨dd,op,ty,pos,af,some (j,t)⟩,kd)::rest) l):=h
theorem J.tr{op:Oper}(h:J S0 w0 L (RY S0 w0 m P ops K ((op,kd)::rest) l)):J S0 w0 L (RY S0 w0 m P ops K ((op,kd)::rest) l):=h
theorem ex{α:Type}(a:α):∃z,z=a:=⟨a,rfl⟩
structure Hold(q:Prop):Prop where out:q
theorem run {q : Prop} (k : q) (h : Hold q → J S0 w0 L X := by
 intro k
 repeat (first
  | (refine J.tr ?_; first
   | (refine J.tm ?_; refine J.mv rfl ?_)
   | (refine J.ta ?_; refine J.as rfl ?_)
   | (refine J.tf ?_; first | refine J.fl rfl rfl ?_ | refine J.flG rfl (by first | exact RG.own' | exact RG.arg (by assumption) | exact RG.row') ?_ | refine J.flGG rfl (by first | exact RG.own' | exact RG.arg (by assumption) | exact RG.row') ?_)
   | (refine J.tl ?_; first | refine J.ld rfl ?_ | refine J.lda rfl ?_ | refine J.ldI rfl (by first | exact RI.own' | exact RI.arg (by assumption) | exact RI.row') ?_ | refine J.ldW rfl (by first | exact RW.own' | exact RW.arg (by assumption) | exact RW.row') ?_ | refine J.ldG rfl (by first | exact RG.own' | exact RG.arg (by assumption) | exact RG.row') ?_ | refine J.ldGf rfl (by first | exact RG.own' | exact RG.arg (by assumption) | exact RG.row') ?_ | refine J.ldG1 rfl (by first | exact RG.own' | exact RG.arg (by assumption) | exact RG.row') ?_ | refine J.ldGa rfl (by first | exact RG.own' | exact RG.arg (by assumption) | exact RG.row') ?_ | refine J.ldp rfl ?_)
   | (refine J.tb .lss ?_; first | refine J.lt rfl rfl rfl ?_ | refine J.slt rfl rfl rfl ?_)
   | (refine J.tb .eql ?_; first | refine J.eq rfl rfl rfl ?_ | refine J.seq rfl rfl rfl ?_ | refine J.eqb rfl rfl rfl ?_ | refine J.eqI rfl rfl rfl ?_ | refine J.nilS rfl rfl rfl ?_)
   | (refine J.tb .neq ?_; first | refine J.ne rfl rfl rfl ?_ | refine J.sne rfl rfl rfl ?_ | refine J.neb rfl rfl rfl ?_ | refine J.neI rfl rfl rfl ?_)
   | (refine J.tb .add ?_; refine J.add rfl rfl rfl ?_)
   | (refine J.tb .geq ?_; first | refine J.ge rfl rfl rfl ?_ | refine J.sge rfl rfl rfl ?_)
   | (refine J.tb .gtr ?_; first | refine J.gt rfl rfl rfl ?_ | refine J.sgt rfl rfl rfl ?_)
   | (refine J.tb .leq ?_; first | refine J.le rfl rfl rfl ?_ | refine J.sle rfl rfl rfl ?_)
   | (refine J.tb .sub ?_; refine J.sub rfl rfl rfl ?_)
   | (refine J.tx ?_; refine J.ex rfl rfl ?_)
   | (refine J.tc .len ?_; first | refine J.ln rfl rfl ?_ | refine J.lns rfl rfl ?_)
   | (refine J.ti ?_; first | refine J.idxI rfl rfl (by first | exact RI.own' | exact RI.arg (by assumption) | exact RI.row') ?_ | refine J.idxW rfl rfl (by first | exact RW.own' | exact RW.arg (by assumption) | exact RW.row') ?_ | refine J.idxG rfl rfl (by first | exact RG.own' | exact RG.arg (by assumption) | exact RG.row') ?_ | refine J.idxS rfl rfl rfl ?_)
   | (refine J.ts ?_; first | refine J.st rfl ?_ | refine J.staw rfl rfl ?_ | refine J.sta rfl rfl ?_ | refine J.stI rfl rfl ?_)
   | (refine J.tg ?_; first | refine J.want rfl rfl rfl ?_ | refine J.skipg rfl rfl rfl rfl ?_ | refine J.skipu rfl rfl rfl ?_)
   | (refine J.tk ?_; refine J.nc rfl rfl ?_)
   | (refine J.tu ?_; refine J.not rfl rfl ?_)
   | (refine J.tp ?_; refine J.pk rfl rfl ?_)
   | (refine J.tv ?_; refine J.cv rfl rfl ?_)
   | (refine J.td ?_; first | refine J.bd rfl ?_ | refine J.bs rfl rfl ?_)
   | (refine J.tq ?_; first | refine J.slT rfl rfl rfl ?_ | refine J.slP rfl rfl rfl ?_ | refine J.sl rfl rfl rfl rfl ?_ | refine J.slA rfl rfl ?_)
   | (refine J.tc .cap ?_; refine J.cp rfl rfl ?_)
   | (refine J.tz ?_; refine J.fz rfl rfl ?_)
   | (refine J.tc .max ?_; refine J.mx rfl rfl rfl ?_)
   | (refine J.tb .shr ?_; refine J.shr rfl rfl rfl ?_)
   | (refine J.tb .mul ?_; refine J.mul rfl rfl rfl ?_)
   | (refine J.tb .quo ?_; refine J.quo rfl rfl rfl ?_)
   | (refine J.tb .rem ?_; refine J.rem rfl rfl rfl ?_))
  | refine J.nilN ?_
  | refine J.thn ?_
  | refine J.sq ?_
  | refine J.region ?_
  | refine J.ift rfl ?_
  | refine J.iff rfl ?_
  | refine J.block ?_
  | refine J.skip ?_
  | refine J.exit ?_
  | refine J.the ?_
  | refine J.ibe ?_
  | refine J.ibn ?_
  | refine J.ibx rfl ?_
  | refine J.retc ?_
  | refine J.thr ?_
  | refine J.ibr ?_
  | refine J.retN ?_
  | (refine J.tret ?_; first | refine J.ret1 rfl ?_ | refine J.ret2 rfl ?_ | refine J.ret3 rfl ?_ | refine J.ret4 rfl ?_ | refine J.ret0 rfl ?_)
  | refine J.tfin ?_
  | refine J.tbr ?_
  | (refine J.nil ?_; refine J.kr ?_))
 exact k.out) : J S0 w0 L X := h ⟨k⟩
end
end G
namespace W
open Go.RowKit G
theorem tup2{a a' b b':Value}(h:a=a')(k:b=b'):Value.tuple #[a,b]= .tuple #[a',b']:=by rw[h,k]
theorem beq_dec{a b:Int}{p:Prop}[Decidable p](h:a=b↔p):(a==b)=decide p:=by rw[Bool.eq_iff_iff];simpa using h
structure OpA where
 (o:S.OpV)(pa:Option Addr)(pc:Nat)
@[reducible] def opC(z:OpA):List Value:=[.int .u32 z.o.au, .slice z.pa z.o.n z.pc, .int .u64 z.o.st, .int .u8 z.o.k, .string z.o.key, .int .u8 z.o.vk, .int .i64 z.o.num, .int .u64 z.o.bits, .string z.o.t, .int .u32 z.o.e, .int .u32 z.o.s]
@[reducible] def opI(z:OpA):List Inn:=[⟨.u8,32,z.pa,z.o.n,z.pc,z.o.ids⟩]
structure OpR(S0:Nat→Prop)(w:World)(z:OpA):Prop where
 ok:z.o.ok
 row:WRow .u8 32 S0 w z.pa z.o.n z.o.ids
 cap:z.o.n≤z.pc
structure GrA where
 (ia oa:Option Addr)(m n ic oc:Nat)(ids:List Int)(zs:List OpA)
@[reducible] def grC(g:GrA):List Value:=[.slice g.ia g.m g.ic, .slice g.oa g.n g.oc]
def GrA.ops(g:GrA):List S.OpV:=g.zs.map OpA.o
structure GrR(S0:Nat→Prop)(w:World)(g:GrA):Prop where
 ids:WRow .u8 32 S0 w g.ia g.m g.ids
 ops:GRow opC 11 S0 w g.oa g.n g.zs
 inn:Inns opI S0 w g.zs
 ok:∀z∈g.zs,z.o.ok
 cap:g.m≤g.ic∧g.n≤g.oc∧g.m≤70∧g.n≤70
section
variable{S0:Nat→Prop}{w w':World}{z:OpA}{g:GrA}
theorem GrR.ext(h:GrR S0 w g)(x:Ext w w'):GrR S0 w' g:=⟨h.ids.ext x,h.ops.ext x,h.inn.ext x,h.ok,h.cap⟩
theorem GrR.op(h:GrR S0 w g){i:Nat}(hz:g.zs[i]? =some z):OpR S0 w z:=
 have hm:=List.mem_of_getElem? hz;have h1:=h.inn z hm ⟨.u8,32,z.pa,z.o.n,z.pc,z.o.ids⟩ (List.mem_singleton.2 rfl)
 ⟨h.ok z hm,h1.1,h1.2⟩
theorem GrR.len(h:GrR S0 w g):g.ops.length=g.n:=(List.length_map _).trans h.ops.len
theorem GrA.opAt{i:Nat}(hz:g.zs[i]? =some z):g.ops.getD i S.OpV.zero=z.o:=by
 unfold GrA.ops;rw[List.getD_eq_getElem?_getD,List.getElem?_map,hz];rfl
end
end W
namespace W
open Go.RowKit G
set_option maxRecDepth 20000
set_option maxHeartbeats 8000000
attribute [local irreducible] RS RX RY Code.wp bodyPost J Ent.blk Ent.iown Ent.wrow Ent.wown Ent.gown Ent.all Ent.emp
instance:Und prog 22 (.slice 24):=⟨underlying22⟩
instance:Und prog 3 (.int .i64):=⟨underlying3⟩
instance:Und prog 288 (.int .u64):=⟨underlying288⟩
instance:Siz prog 24 32:=⟨by kernel_rfl⟩
instance:Agg prog 24 32:=⟨_,underlying24,rfl,by kernel_rfl⟩
instance:Und prog 24 (.array 32 5):=⟨underlying24⟩
instance:Ents prog 156:=⟨.mk func156 (by kernel_rfl) rfl⟩
instance:Fld prog 43 0 0:=⟨_,_,1,underlying43,rfl,by kernel_rfl,by decide,rfl⟩
instance:Sca prog 22:=⟨_,underlying22,rfl⟩
instance:Ents prog 155:=⟨.mk func155 (by kernel_rfl) rfl⟩
theorem bsID{S0:Nat→Prop}(a:Option Addr)(n c:Nat)(ids x:List Int)(w:World)(D0:WRow .u8 32 S0 w a n ids)(hx:Arr .u8 32 x)(hr:S.Rising n ids)(hn:n≤70):
  Calls prog 155 #[.slice a n c, .agg (ints .u8 x).toArray, .func (.func 156) #[] #[]] w (Ret w fun v _=>v= .tuple #[.int .i64 (S.spotS n ids x:Nat), .bool (decide (S.inS n ids x))]):=by
 refine J.enter 46 func155 rfl rfl ?_;refine run ?_;refine J.box rfl rfl rfl fun b1=>?_
 refine run ?_;refine J.loopS (A:=Int×Int) (fun p=>[(9, .int .i64 p.1),(10, .int .i64 p.2)]) [11,15,16,17,18,19,20,21,22,23,24,25,26,27,28,29,30,31,32,33,34] (fun p=>S.HalfC n (fun i=>S.cmpS (S.idAt ids i) x) p.1 p.2) (fun p=>(p.2 - p.1).toNat) (0,n) (by kernel_rfl) (S.HalfC.first _ _) (fun p j hI=>?_);have hh:=hI.r;refine run ?_;refine J.ifd rfl (fun c1=>?_) (fun c1=>?_)
 ·refine run ?_;refine J.regionX [(0, .q),(1, .q),(2, .q),(3, .q),(4, .q),(5, .q),(6, .e),(7, .q)] mixed (by kernel_rfl) ?_;refine run ?_;refine J.callvp rfl rfl rfl (fun w' M=>dcmp _ _ (D0.elt_arr (by omega)) hx w') ?_;refine run ?_;refine J.ifd rfl (fun c2=>?_) (fun c2=>?_)
  ·refine run ?_;exact J.nextS ((p.1+p.2) / 2+1,p.2) ⟨rfl,rfl,trivial⟩ (by kernel_rfl) (hI.up (S.mono_ids hr) (by omega) (by omega) c2) (by dsimp only;omega)
  refine run ?_;exact J.nextS (p.1,(p.1+p.2) / 2) ⟨rfl,rfl,trivial⟩ (by kernel_rfl) (hI.down (S.mono_ids hr) (by omega) (by omega) c2) (by dsimp only;omega)
 have he:p.1=(S.spotS n ids x:Nat):=hI.spot c1;have hs:=S.spotS_has (x:=x) hr;refine run ?_;refine J.regionX [(0, .q),(1, .q),(2, .q),(3, .q),(4, .q),(5, .q),(6, .q),(7, .q),(8, .q),(9, .q),(10, .q),(11, .e),(12, .q),(13, .q),(14, .q),(15, .q)] mixed (by kernel_rfl) ?_;refine run ?_;refine J.spd rfl rfl rfl (fun c2=>?_) (fun c2=>?_)
 ·refine run ?_;refine J.callvp rfl rfl rfl (fun w' M=>dcmp _ _ (D0.elt_arr (by omega)) hx w') ?_;refine run ?_;refine J.fin ?_;rw[he];exact tup2 rfl (congrArg _ (beq_dec ⟨fun h=>hs.2 ⟨by omega,h⟩,fun h=>(hs.1 h).2⟩))
 refine run ?_;refine J.fin ?_;rw[he];exact tup2 rfl (congrArg _ (decide_eq_false fun h=>by have:=(hs.1 h).1;omega).symm)
theorem dagFind{S0:Nat→Prop}(g:GrA)(x:List Int)(w:World)(D0:WRow .u8 32 S0 w g.ia g.m g.ids)(hx:Arr .u8 32 x)(hr:S.Rising g.m g.ids)(hn:g.m≤70):
  Calls prog 241 #[.agg (grC g).toArray, .agg (ints .u8 x).toArray] w (Ret w fun v _=>v= .tuple #[.int .i64 (S.spotS g.m g.ids x:Nat), .bool (decide (S.inS g.m g.ids x))]):=by
 refine J.enter 10 func241 rfl rfl ?_;refine run ?_;refine J.box rfl rfl rfl fun b1=>?_
 refine run ?_;refine J.box rfl rfl rfl fun b2=>?_
 refine run ?_;refine J.callp rfl rfl (fun w' M=>bsID _ _ _ _ _ _ (D0.ext M.ext) hx hr hn) ?_;refine run ?_;exact J.fin rfl
instance:Fld prog 43 1 1:=⟨_,_,1,underlying43,rfl,by kernel_rfl,by decide,rfl⟩
instance:Sca prog 41:=⟨_,underlying41,rfl⟩
instance:Und prog 41 (.slice 37):=⟨underlying41⟩
instance:Und prog 114 (.slice 3):=⟨underlying114⟩
instance:Inf prog 3 1 8 [.int .i64 0]:=⟨TI.of (v:= .int .i64 0) (by kernel_rfl) rfl⟩
instance:Siz prog 3 1:=⟨by kernel_rfl⟩
instance:Und prog 310 (.slice 114):=⟨underlying310⟩
instance:Inf prog 114 1 24 [.slice none 0 0]:=⟨TI.of (v:= .slice none 0 0) (by kernel_rfl) rfl⟩
instance:Siz prog 114 1:=⟨by kernel_rfl⟩
instance:Siz prog 37 11:=⟨by kernel_rfl⟩
instance:Agg prog 37 11:=⟨_,underlying37,rfl,by kernel_rfl⟩
instance:Inf prog 37 11 112 [.int .u32 0, .slice none 0 0, .int .u64 0, .int .u8 0, .string .empty, .int .u8 0, .int .i64 0, .int .u64 0, .string .empty, .int .u32 0, .int .u32 0]:=⟨TI.of (v:= .agg #[.int .u32 0, .slice none 0 0, .int .u64 0, .int .u8 0, .string .empty, .int .u8 0, .int .i64 0, .int .u64 0, .string .empty, .int .u32 0, .int .u32 0]) (by kernel_rfl) rfl⟩
instance:Fld prog 37 1 1:=⟨_,_,1,underlying37,rfl,by kernel_rfl,by decide,rfl⟩
instance:Inf prog 24 32 32 (ints .u8 (List.replicate 32 0)):=⟨TI.of (v:= .agg ((ints .u8 (List.replicate 32 0))).toArray) (by kernel_rfl) rfl⟩
instance:Agg prog 43 2:=⟨_,underlying43,rfl,by kernel_rfl⟩
instance:Ents prog 241:=⟨.mk func241 (by kernel_rfl) rfl⟩
instance:Sca prog 114:=⟨_,underlying114,rfl⟩
instance:Sca prog 3:=⟨_,underlying3,rfl⟩
structure ShP where
 (i:Int)(ws rs:List Int)(qs:List Pc)(a:Option Addr)(n c:Nat)
theorem dagShape{S0:Nat→Prop}(g:GrA)(w:World)(G:GrR S0 w g)(he:g.m=g.n)(hn:g.n≤60):
  Calls prog 163 #[.agg (grC g).toArray] w (Ret w fun v _=>v= .int .i64 (S.shapeS g.m g.ids g.ops)):=by
 have D0:=G.ids;have G0:=G.ops;have hl:=G.len;obtain⟨P,hP⟩:=ex (S.prS g.m g.ids g.ops);have hPl:∀i,(P i).length=(g.ops.getD i S.OpV.zero).n:=fun i=>by rw[hP,S.prS_len]
 have hPg:∀i j,j<(g.ops.getD i S.OpV.zero).n→(P i).getD j 0=S.ixS g.m g.ids (S.idAt (g.ops.getD i S.OpV.zero).ids j):=fun i j h=>by rw[hP,S.prS_get _ _ _ _ _ h]
 have hn20:∀i,(g.ops.getD i S.OpV.zero).n≤40:=fun i=>by
  rw[List.getD_eq_getElem?_getD];cases h:g.ops[i]? with
  |none=>exact Nat.zero_le _
  |some o=>
   unfold GrA.ops at h;rw[List.getElem?_map]at h;obtain⟨z,hz,rfl⟩:=Option.map_eq_some_iff.1 h;exact(G.ok z (List.mem_of_getElem? hz)).n
 refine J.enter 132 func163 rfl rfl ?_;refine run ?_;refine J.box rfl rfl rfl fun b1=>?_
 refine run ?_;refine J.loopS (A:=Int) (fun p=>[(3, .int .i64 p)]) [2,16,17,18,19,20,21,22,23,24,25,26,27,28,29,30,31,32,33,34,35] (fun p=>1≤p∧(p≤g.m∨p=1)∧S.RisS g.ids p.toNat) (fun p=>(g.m+1 - p).toNat) 1 (by kernel_rfl) ⟨by decide, .inr rfl,fun k hk=>by omega⟩ (fun p j hI=>?_);obtain⟨h1,h2,h3⟩:=hI;refine run ?_;refine J.ifd rfl (fun c1=>?_) (fun c1=>?_)
 ·refine run ?_;refine J.regionX [(0, .q),(1, .q),(2, .q),(3, .q),(4, .q),(5, .q),(6, .q),(7, .q),(8, .q),(9, .q),(10, .q),(11, .e),(12, .q)] mixed (by kernel_rfl) ?_;refine run ?_;refine J.callp rfl rfl (fun w' M=>dcmp _ _ (D0.elt_arr (by omega)) (D0.elt_arr (by omega)) w') ?_;refine run ?_;have e:p.toNat=(p - 1).toNat+1:=by omega
  refine J.ifd rfl (fun c2=>?_) (fun c2=>?_)
  ·refine run ?_;refine J.fin ?_;rw[S.shape_32 (i:=(p - 1).toNat) (by omega) (by rw[e]at c2;exact c2)]
  refine run ?_;refine J.nextS (p+1) ⟨rfl,trivial⟩ (by kernel_rfl) ⟨by omega, .inl (by omega),fun k hk=>?_⟩ (by omega);by_cases hk2:k+1<p.toNat
  ·exact h3 k hk2
  obtain rfl:k=(p - 1).toNat:=by omega
  rw[e]at c2;exact Int.not_le.1 c2
 have hr:S.Rising g.m g.ids:=fun i hi=>h3 i (by omega);refine run ?_;refine J.mkI rfl rfl rfl fun bw=>?_
 refine run ?_;refine J.mkG pcC default (fun _=>rfl) rfl rfl rfl rfl fun bb=>?_
 refine run ?_;refine J.nilI 3 .i64 ?_;refine J.newA ((List.replicate g.n default).map (pcE 3 .i64)) ?_ fun w=>sep_nils _ _ _ _;refine J.loop (A:=ShP) (fun p=>[(6, .slice p.a p.n p.c),(47, .int .i64 p.i)]) [2,7,8,10,11,12,48,49,50,51,52,53,54,55,56,57,58,59,60,61,62,63,64,65,66,67,68,69,70,71,72,73,74,75,76,77,78,79,80,81,82,83,84,85,86,87,88,89,90,91,92,93] (fun p=>[.all (p.qs.map (pcE 3 .i64)), .iown 3 .i64 p.a p.n p.c p.rs, .gown pcC 1 114 (some ⟨bb,0,none⟩) g.n g.n p.qs, .iown 3 .i64 (some ⟨bw,0,none⟩) g.n g.n p.ws, .blk b1 (grC g) 43])
  (fun p=>(0≤p.i∧p.i≤g.n)∧S.ShQ P g.n p.i.toNat 0 p.qs∧S.ShW P g.n p.i.toNat p.ws∧p.rs=S.castL (S.zeroP P p.i.toNat)∧p.n=p.rs.length∧∀k,k<p.i.toNat→S.allI g.m g.ids (g.ops.getD k S.OpV.zero).n (g.ops.getD k S.OpV.zero).ids)
  (fun p=>g.n - p.i.toNat) ⟨0,List.replicate g.n 0,[],List.replicate g.n default,none,0,0⟩ (by kernel_rfl) ⟨by dsimp only;omega,S.ShQ.first _ _,S.ShW.first _ _,rfl,rfl,fun k hk=>by simp at hk⟩ (fun p j hI=>?_)
 obtain⟨i1,iq,iw,ir,il,io⟩:=hI;refine run ?_;refine J.ifd rfl (fun c2=>?_) (fun c2=>?_)
 ·obtain⟨z,hz⟩:=G0.ex (i:=p.i) (by omega);have R:=G.op hz;have hzo:=GrA.opAt hz;have h20:=R.ok.n;have hPz:=hPl p.i.toNat;rw[hzo]at hPz;refine run ?_;refine J.alloc rfl fun b2=>?_
  refine run ?_;refine J.loop (A:=Int×List Pc) (fun p2=>[(55, .int .i64 p2.1)]) [2,10,11,12,56,57,58,59,60,61,62,63,64,65,66,67,68,69,70,71,72,73,74,75,76,77] (fun p2=>[.blk b2 (opC z) 37, .all (p2.2.map (pcE 3 .i64)), .iown 3 .i64 p.a p.n p.c p.rs, .gown pcC 1 114 (some ⟨bb,0,none⟩) g.n g.n p2.2, .iown 3 .i64 (some ⟨bw,0,none⟩) g.n g.n p.ws, .blk b1 (grC g) 43])
   (fun p2=>(0≤p2.1∧p2.1≤z.o.n)∧S.ShQ P g.n p.i.toNat p2.1.toNat p2.2∧∀k,k<p2.1.toNat→S.inS g.m g.ids (S.idAt z.o.ids k)) (fun p2=>z.o.n - p2.1.toNat) (0,p.qs) (by kernel_rfl) ⟨by dsimp only;omega,iq,fun k hk=>by simp at hk⟩ (fun p2 j2 hI2=>?_)
  obtain⟨k1,kq,ki⟩:=hI2;have D1:=R.row;refine run ?_;refine J.ifd rfl (fun c3=>?_) (fun c3=>?_)
  ·refine run ?_;refine J.alloc rfl fun b3=>?_
   have hx:=D1.elt_arr (i:=p2.1.toNat) (by omega);refine run ?_;refine J.callp rfl rfl (fun w' M=>dagFind g _ w' (D0.ext M.ext) hx hr (by omega)) ?_;refine run ?_;refine J.ifnot rfl (fun c4=>?_) (fun c4=>?_)
   ·refine run ?_;refine J.fin ?_;rw[S.shape_40 (i:=p.i.toNat) (j:=p2.1.toNat) hr (by omega) (by rw[hzo];omega) (by rw[hzo];exact of_decide_eq_false c4)]
   have hin:=of_decide_eq_true c4;have hlt:=((S.spotS_has hr).1 hin).1;have hat:=S.spotS_ix hr hin;obtain⟨q,hq⟩:=kq.get (a:=S.spotS g.m g.ids (elt 32 z.o.ids p2.1.toNat)) (by omega);refine run ?_;refine J.b1 rfl rfl fun b4=>?_
   refine J.openP 3 .i64 p2.2 hq ?_;have hbl:=S.behJ_len P p.i.toNat p2.1.toNat (S.spotS g.m g.ids (elt 32 z.o.ids p2.1.toNat)) 40 (fun i=>by rw[hPl];exact hn20 i);have hqx:=kq.xs _ _ hq;have hqn:q.n≤40*61:=by
    rw[hqx.2,hqx.1,S.castL_len];have:p.i.toNat+1≤61:=by omega
    omega
   refine J.apI rfl rfl RI.own' fun a' c'=>?_
   refine run ?_;refine J.stG1 rfl rfl (q:=⟨a',q.n+1,c',q.xs++[p.i]⟩) rfl ?_;refine J.shutP 3 .i64 p2.2 (S.spotS g.m g.ids (elt 32 z.o.ids p2.1.toNat)) ⟨a',q.n+1,c',q.xs++[p.i]⟩ (by rw[kq.len];omega) ?_;refine run ?_;refine J.next (p2.1+1,p2.2.set (S.spotS g.m g.ids (elt 32 z.o.ids p2.1.toNat)) ⟨a',q.n+1,c',q.xs++[p.i]⟩) ⟨rfl,trivial⟩ (by kernel_rfl) ?_ (by dsimp only;omega);have e1:(p2.1+1).toNat=p2.1.toNat+1:=by omega
   have e2:p.i=(p.i.toNat:Nat):=by omega
   refine⟨by dsimp only;omega,?_,fun k hk=>?_⟩
   ·dsimp only;rw[e1,e2];exact kq.step (by omega) hq (by rw[hPg _ _ (by rw[hzo];omega),hzo];exact hat) a' c'
   dsimp only at hk;rcases Nat.lt_or_ge k p2.1.toNat with h|h
   ·exact ki k h
   obtain rfl:k=p2.1.toNat:=by omega
   exact hin
  have hj:(P p.i.toNat).length≤p2.1.toNat:=by omega
  have e1:(p.i+1).toNat=p.i.toNat+1:=by omega
  have e2:((P p.i.toNat).length:Int)=z.o.n:=by omega
  have hws:=iw.step (by omega);rw[e2]at hws;have hzs:=S.zeroP_succ P p.i.toNat;have hop:∀k,k<p.i.toNat+1→S.allI g.m g.ids (g.ops.getD k S.OpV.zero).n (g.ops.getD k S.OpV.zero).ids:=fun k hk=>by
   rcases Nat.lt_or_ge k p.i.toNat with h|h
   ·exact io k h
   obtain rfl:k=p.i.toNat:=by omega
   rw[hzo];exact fun j hj=>ki j (by omega)
  refine run ?_;have hg:=S.set_get p.ws p.i.toNat p.i.toNat (z.o.n:Int) (by rw[iw.len];omega);rw[if_pos rfl]at hg;have hzl:(S.zeroP P p.i.toNat).length≤p.i.toNat:=by
   have:=List.length_filter_le (fun k=>decide ((P k).length=0)) (List.range p.i.toNat);rw[List.length_range]at this;exact this
  have hpl:p.n≤60:=by rw[il,ir,S.castL_len];omega
  refine J.ife rfl (fun c4=>?_) (fun c4=>?_)
  ·rw[hg]at c4;refine run ?_;refine J.b1 rfl rfl fun b4=>?_
   refine J.apI rfl rfl RI.own' fun a' c'=>?_
   refine run ?_;refine J.next ⟨p.i+1,p.ws.set p.i.toNat z.o.n,p.rs++[p.i],p2.2,a',p.n+1,c'⟩ ⟨rfl,rfl,trivial⟩ (by kernel_rfl) ?_ (by dsimp only;omega);dsimp only;rw[e1];refine⟨by omega,kq.next hj,hws,?_,by rw[il];simp,hop⟩;rw[hzs,if_pos (by omega),S.castL_snoc,ir];congr 2;omega
  rw[hg]at c4;refine run ?_;refine J.next ⟨p.i+1,p.ws.set p.i.toNat z.o.n,p.rs,p2.2,p.a,p.n,p.c⟩ ⟨rfl,rfl,trivial⟩ (by kernel_rfl) ?_ (by dsimp only;omega);dsimp only;rw[e1];exact⟨by omega,kq.next hj,hws,by rw[hzs,if_neg (by omega),ir],il,hop⟩
 have ei:p.i.toNat=g.n:=by omega
 rw[ei]at iq iw ir io;have K0:=iw.kahn;have hop:S.opensS g.m g.ids g.ops:=fun k hk=>io k (by omega);refine run ?_;refine J.loop (A:=ShP) (fun p=>[(6, .slice p.a p.n p.c),(13, .int .i64 p.i)]) [15,94,95,96,97,98,99,100,101,102,103,104,105,106,107,108,109,110,111,112,113,114,115,116,117,118,119,120,121,122,123,124,125,126,127] (fun p'=>[.all (p.qs.map (pcE 3 .i64)), .iown 3 .i64 p'.a p'.n p'.c p'.rs, .gown pcC 1 114 (some ⟨bb,0,none⟩) g.n g.n p.qs, .iown 3 .i64 (some ⟨bw,0,none⟩) g.n g.n p'.ws, .blk b1 (grC g) 43])
  (fun p'=>0≤p'.i∧p'.ws.length=g.n∧∃rd,p'.rs=S.castL rd∧p'.n=rd.length∧S.Kahn P g.n (S.wtS p'.ws) rd p'.i.toNat) (fun p'=>g.n - p'.i.toNat) ⟨0,p.ws,p.rs,[],p.a,p.n,p.c⟩ (by kernel_rfl) ⟨Int.le_refl _,iw.len,_,ir,by rw[il,ir,S.castL_len],K0⟩ (fun p3 j3 hI3=>?_)
 obtain⟨m1,m2,rd,m3,m4,m5⟩:=hI3;have m6:=m5.le;have m7:=m5.dl;refine run ?_;refine J.ifd rfl (fun c3=>?_) (fun c3=>?_)
 ·have hd:p3.i.toNat<rd.length:=by omega
  obtain⟨r0,hr0⟩:=ex (p3.rs.getD p3.i.toNat 0);obtain⟨kk,hkk⟩:=ex (rd.getD p3.i.toNat 0);have hv:r0=kk:=by rw[hr0,m3,S.castL_get,hkk]
  have hkn:kk<g.n:=by rw[hkk];exact m5.lt _ (S.getD_mem hd)
  have hrk:r0.toNat=kk:=by omega
  obtain⟨q,hq⟩:=iq.get hkn;have hqx:=iq.xs _ _ hq;rw[S.behJ_zero]at hqx;have hql:q.n=(S.behS P g.n kk).length:=by rw[hqx.2,hqx.1,S.castL_len]
  have hqb:=S.behJ_len P g.n 0 kk 40 (fun i=>by rw[hPl];exact hn20 i);rw[S.behJ_zero]at hqb;have hq':p.qs[r0.toNat]? =some q:=by rw[hrk];exact hq
  have hr1:0≤r0∧r0<g.n:=by omega
  refine run ?_;refine J.loop (A:=ShP) (fun p=>[(6, .slice p.a p.n p.c),(108, .int .i64 p.i)]) [15,109,110,111,112,113,114,115,116,117,118,119,120,121,122,123,124,125,126,127] (fun p'=>[.all (p.qs.map (pcE 3 .i64)), .iown 3 .i64 p'.a p'.n p'.c p'.rs, .gown pcC 1 114 (some ⟨bb,0,none⟩) g.n g.n p.qs, .iown 3 .i64 (some ⟨bw,0,none⟩) g.n g.n p'.ws, .blk b1 (grC g) 43])
   (fun p'=>(0≤p'.i∧p'.i≤q.n)∧p'.ws.length=g.n∧∃rd,p'.rs=S.castL rd∧p'.n=rd.length∧S.KahnI P g.n (S.wtS p'.ws) rd p3.i.toNat p'.i.toNat∧kk=rd.getD p3.i.toNat 0) (fun p'=>q.n - p'.i.toNat) ⟨0,p3.ws,p3.rs,[],p3.a,p3.n,p3.c⟩ (by kernel_rfl) ⟨by dsimp only;omega,m2,rd,m3,m4,m5.enter hd,hkk⟩ (fun p4 j4 hI4=>?_)
  obtain⟨n1,n2,rd4,n3,n4,n5,n6⟩:=hI4;have n7:=n5.le;refine run ?_;refine J.ifd rfl (fun c4=>?_) (fun c4=>?_)
  ·obtain⟨x,hx⟩:=ex (q.xs.getD p4.i.toNat 0);have hxk:x=((S.behS P g.n kk).getD p4.i.toNat 0:Nat):=by rw[hx,hqx.1,S.castL_get]
   have ht:p4.i.toNat<(S.behS P g.n (rd4.getD p3.i.toNat 0)).length:=by rw[←n6];omega
   have hk0:x.toNat=(S.behS P g.n (rd4.getD p3.i.toNat 0)).getD p4.i.toNat 0:=by rw[←n6];omega
   obtain⟨o1,o2⟩:=n5.told ht hk0;have o3:=n5.down n2 ht hk0;obtain⟨wv,hwv⟩:=ex (p4.ws.getD x.toNat 0);have hwt:S.wtS p4.ws x.toNat=wv.toNat:=by rw[hwv];rfl
   have hx0:0≤x∧x<g.n:=by omega
   refine run ?_;refine J.idxI rfl rfl (RI.all (e:=3) (k:= .i64) hq) ?_;refine J.ldI rfl (RI.all (e:=3) (k:= .i64) hq) ?_;refine J.fact (.iown 3 .i64 (some ⟨bw,0,none⟩) g.n g.n p4.ws) (fun S w=>iown_bd) fun hbd=>?_
   have hwb:=hbd.get x.toNat;simp only[lim]at hwb;have hg:=S.set_get p4.ws x.toNat x.toNat (wv - 1) (by omega);rw[if_pos rfl]at hg;rw[←hwv]at hwb o3;have hdl:=n5.dl;refine run ?_;refine J.ife rfl (fun c5=>?_) (fun c5=>?_)
   ·rw[hg]at c5;rw[if_pos c5]at o3;refine run ?_;refine J.b1 rfl rfl fun b4=>?_
    refine J.apI rfl rfl RI.own' fun a' c'=>?_
    refine run ?_;refine J.next ⟨p4.i+1,p4.ws.set x.toNat (wv - 1),p4.rs++[x],[],a',p4.n+1,c'⟩ ⟨rfl,rfl,trivial⟩ (by kernel_rfl) ?_ (by dsimp only;omega);dsimp only;rw[show(p4.i+1).toNat=p4.i.toNat+1 by omega];refine⟨by omega,by rw[List.length_set];exact n2,rd4++[x.toNat],?_,by simp;exact n4,o3,?_⟩
    ·rw[S.castL_snoc,n3,show((x.toNat:Nat):Int)=x by omega]
    rw[S.getD_snoc,if_pos hdl];exact n6
   rw[hg]at c5;rw[if_neg c5]at o3;refine run ?_;refine J.next ⟨p4.i+1,p4.ws.set x.toNat (wv - 1),p4.rs,[],p4.a,p4.n,p4.c⟩ ⟨rfl,rfl,trivial⟩ (by kernel_rfl) ?_ (by dsimp only;omega);dsimp only;rw[show(p4.i+1).toNat=p4.i.toNat+1 by omega];exact⟨by omega,by rw[List.length_set];exact n2,rd4,n3,n4,o3,n6⟩
  have hlv:=n5.leave (by rw[←n6];omega);refine run ?_;refine J.next ⟨p3.i+1,p4.ws,p4.rs,[],p4.a,p4.n,p4.c⟩ ⟨rfl,rfl,trivial⟩ (by kernel_rfl) ?_ (by dsimp only;omega);dsimp only;rw[show(p3.i+1).toNat=p3.i.toNat+1 by omega];exact⟨by omega,n2,rd4,n3,n4,hlv⟩
 have hf:=m5.last (by omega);rw[hP,←hl]at hf;have hse:=S.shape_end hr hop hf;refine run ?_;refine J.ifd rfl (fun c4=>?_) (fun c4=>?_)
 ·refine run ?_;refine J.fin ?_;rw[hse,if_pos (by omega)]
 refine run ?_;refine J.fin ?_;rw[hse,if_neg (by omega)]
instance:Ents prog 98:=⟨.mk func98 (by kernel_rfl) rfl⟩
instance:Und prog 5 (.int .u8):=⟨underlying5⟩
instance:Siz prog 5 1:=⟨by kernel_rfl⟩
instance:Ents prog 105:=⟨.mk func105 (by kernel_rfl) rfl⟩
instance:Ents prog 163:=⟨.mk func163 (by kernel_rfl) rfl⟩
instance:Ents prog 95:=⟨.mk func95 (by kernel_rfl) rfl⟩
instance:SInf prog 37 [(0,1),(1,1),(2,1),(3,6),(9,2)]:=⟨_,underlying37,by kernel_rfl,by kernel_rfl⟩
theorem dagCheck{S0:Nat→Prop}(g:GrA)(TK:TypeId)(w:World)(K0:Kst w TK)(G:GrR S0 w g):
  Calls prog 95 #[.agg (grC g).toArray] w (Ret w fun v _=>v= .int .i64 (S.chkG g.m g.ids g.ops)):=by
 have D0:=G.ids;have G0:=G.ops;have hl:=G.len;have hcp:=G.cap;refine J.enter 49 func95 rfl rfl ?_;refine run ?_;refine J.box rfl rfl rfl fun b1=>?_
 refine run ?_;refine J.ifd rfl (fun c=>?_) (fun c=>?_)
 ·refine run ?_;refine J.fin ?_;unfold S.chkG;rw[if_pos (by omega)]
 refine run ?_;refine J.ifn rfl (fun c2=>?_) (fun c2=>?_)
 ·refine run ?_;refine J.fin ?_;unfold S.chkG;rw[if_neg (by omega),if_pos (by omega)]
 refine run ?_;have h8:∀i,i<g.n→¬S.ownS (g.ops.getD i S.OpV.zero) (S.idAt g.ids i)→(8:Int)=S.chkG g.m g.ids g.ops:=fun i hi h=>by
  unfold S.chkG;rw[if_neg (by omega),if_neg (by omega),if_pos fun ho=>h (ho i (by omega))]
 refine J.loopS (A:=Int) (fun p=>[(21, .int .i64 p)]) [2,3,4,5,6,22,23,24,25,26,27,28,29,30,31,32,33,34,35,36,37,38,39,40,41,42,43,44,45,46,47] (fun p=>(0≤p∧p≤g.n)∧∀i,i<p.toNat→S.ownS (g.ops.getD i S.OpV.zero) (S.idAt g.ids i)) (fun p=>g.n - p.toNat) 0 (by kernel_rfl) ⟨by omega,fun i hi=>by omega⟩ (fun p j hI=>?_);obtain⟨h1,hI⟩:=hI;refine run ?_;refine J.ifd rfl (fun c3=>?_) (fun c3=>?_)
 ·obtain⟨z,hz⟩:=G0.ex (i:=p) (by omega);have R:=G.op hz;have hzo:=GrA.opAt hz;have hsa:=S.idX_arr z.o;refine run ?_;refine J.alloc rfl fun b2=>?_
  refine run ?_;refine J.callp rfl rfl (fun w' M=>idO z.o R.ok _ _ _ _ (K0.ext M.ext) (R.row.ext M.ext) R.cap) ?_;refine run ?_;refine J.alloc rfl fun b3=>?_
  refine run ?_;refine J.regionX [(0, .q),(1, .q),(2, .q),(3, .q),(4, .q),(5, .q),(6, .q),(7, .q),(8, .q),(9, .q),(10, .q),(11, .q),(12, .q),(13, .e),(14, .q),(15, .q)] mixed (by kernel_rfl) ?_;refine run ?_;have h9:¬S.ownS z.o (S.idAt g.ids p.toNat)→(8:Int)=S.chkG g.m g.ids g.ops:=fun h=>h8 p.toNat (by omega) (by rw[hzo];exact h);refine J.spn rfl rfl rfl (fun c4=>?_) (fun c4=>?_)
  ·refine run ?_;refine J.fin (congrArg _ (h9 fun h=>c4 (S.verE_check h.1)))
  refine run ?_;refine J.spd rfl rfl rfl (fun c5=>?_) (fun c5=>?_)
  ·refine run ?_;refine J.fin (congrArg _ (h9 fun h=>c5 ?_));rw[if_pos c4];exact h.2
  rw[if_pos c4]at c5;refine run ?_;refine J.callp rfl rfl (fun w' M=>verifyO z.o R.ok _ _ _ _ (K0.ext M.ext) (R.row.ext M.ext) R.cap) ?_;refine run ?_;refine J.ifn rfl (fun c6=>?_) (fun c6=>?_)
  ·refine run ?_;exact J.fin (congrArg _ (h9 fun h=>c6 h.1))
  refine run ?_;refine J.nextS (p+1) ⟨rfl,trivial⟩ (by kernel_rfl) ⟨by omega,fun i hi=>?_⟩ (by omega);rcases Nat.lt_or_ge i p.toNat with h|h
  ·exact hI i h
  obtain rfl:i=p.toNat:=by omega
  rw[hzo];exact⟨c6,Decidable.not_not.1 c5⟩
 refine run ?_;refine J.callp rfl rfl (fun w' M=>dagShape g w' (G.ext M.ext) (by omega) (by omega)) ?_;refine run ?_;refine J.fin ?_;unfold S.chkG;rw[if_neg (by omega),if_neg (by omega),if_neg (not_not_intro (show S.ownsS g.ids g.ops from fun i hi=>hI i (by omega)))]
end W
namespace S
open G
structure HvS(ids:List Int)(rd:List Nat)(hv:List Int):Prop where
 len:hv.length=32*rd.length
 at_:∀k,k<rd.length→idAt hv k=idAt ids (rd.getD k 0)
theorem HvS.all{m:Nat}{ids hv:List Int}{ops:List OpV}{rd:List Nat}(h:HvS ids rd hv)(hr:Rising m ids)(hb:∀x∈rd,x<m){i:Nat}(ho:allI m ids (ops.getD i OpV.zero).n (ops.getD i OpV.zero).ids):
  allI rd.length hv (ops.getD i OpV.zero).n (ops.getD i OpV.zero).ids↔∀p∈prS m ids ops i,p∈rd:=by
 constructor
 ·intro ha p hp;unfold prS at hp;obtain⟨j,hj,rfl⟩:=List.mem_map.1 hp;obtain⟨k,hk,e⟩:=ha j (List.mem_range.1 hj);rw[h.at_ k hk]at e;have hm:=getD_mem hk;rw[←e,ix_eq hr (hb _ hm)];exact hm
 ·intro ha j hj;have hp:ixS m ids (idAt (ops.getD i OpV.zero).ids j)∈rd:=ha _ (by unfold prS;exact List.mem_map.2 ⟨j,List.mem_range.2 hj,rfl⟩);obtain⟨k,hk,e⟩:=List.getElem_of_mem hp;refine⟨k,hk,?_⟩;rw[h.at_ k hk,List.getD_eq_getElem?_getD,List.getElem?_eq_getElem hk,Option.getD_some,e];exact(ix_in (ho j hj)).2
end S
namespace W
open Go.RowKit G
set_option maxRecDepth 20000
set_option maxHeartbeats 8000000
attribute [local irreducible] RS RX RY Code.wp bodyPost J Ent.blk Ent.iown Ent.wrow Ent.wown Ent.gown Ent.all Ent.emp
instance:Und prog 4 .bool:=⟨underlying4⟩
instance:Ents prog 30:=⟨.mk func30 (by kernel_rfl) rfl⟩
end W
namespace W
open Go.RowKit G
@[reducible] def rgC(x:S.RgV):List Value:= .string x.key:: .int .u8 x.vk:: .int .i64 x.num:: .int .u64 x.bits:: .string x.t:: .int .u64 x.st::ints .u8 x.id
theorem rgC_len(x:S.RgV):(rgC x).length=38:=by simp[rgC,ints_length,x.h32]
theorem rgC_cell(x:S.RgV):∀u∈rgC x,cellB u=true:=by
 intro u hu;simp only[rgC,List.mem_cons]at hu;rcases hu with rfl|rfl|rfl|rfl|rfl|rfl|hu<;>first|rfl|exact List.all_eq_true.1 (ints_cellB _ _) u hu
instance(x:S.RgV):LenC (rgC x) 38:=⟨rgC_len x,List.all_eq_true.2 (rgC_cell x)⟩
theorem rgC_id(x:S.RgV):((rgC x).drop 6).take 32=ints .u8 x.id:=by
 show(ints .u8 x.id).take 32=_;rw[List.take_of_length_le (by rw[ints_length,x.h32];exact Nat.le_refl _)]
theorem rgC_one(x:S.RgV):∀u∈rgC x,u.oneCell'=true:=by
 intro u hu;simp only[rgC,List.mem_cons]at hu;rcases hu with rfl|rfl|rfl|rfl|rfl|rfl|hu<;>first|rfl|exact ints_one _ _ u hu
theorem eq_rg(x y:S.RgV):eqC (rgC x) (rgC y)=decide (x=y):=by
 rw[Bool.eq_iff_iff];simp only[eqC,strEq,eqC_ints,Bool.and_eq_true,decide_eq_true_eq,beq_iff_eq];constructor
 ·rintro⟨h1,h2,h3,h4,h5,h6,h7⟩;exact S.RgV.ext h1 h2 h3 h4 h5 h6 h7
 ·rintro rfl;simp
@[reducible] def stC(s:ByteArray):List Value:=[.string s]
@[reducible] def inC(q:Int):List Value:=[.int .i64 q]
theorem gown_e{α:Type}{f:α→List Value}{sz:Nat}{e:TypeId}{a:Option Addr}{n c:Nat}{lst:List α}{S:Nat→Prop}{w:World}(h:(Ent.gown f sz e a n c lst).ok S w):GOwn f sz 0 w e a n c lst∧∀b,obk a=some b→S b:=h
section
end
structure RsR(S0:Nat→Prop)(w:World)(a:Option Addr)(n c:Nat)(l:List S.RgV):Prop where
 row:GRow rgC 38 S0 w a n l
 ok:∀x∈l,x.ok
 cap:n≤c
 n:n≤100
section
variable{S0:Nat→Prop}{w w':World}{a:Option Addr}{n c:Nat}{l:List S.RgV}
theorem RsR.ext(h:RsR S0 w a n c l)(x:Ext w w'):RsR S0 w' a n c l:=⟨h.row.ext x,h.ok,h.cap,h.n⟩
theorem RsR.len(h:RsR S0 w a n c l):l.length=n:=h.row.len
theorem RsR.okAt(h:RsR S0 w a n c l){i:Nat}(hi:i<n):(S.rg l i).ok:=h.ok _ (S.rg_mem (by rw[h.len];exact hi))
end
end W
namespace S
open G
noncomputable def getR(l:List RgV)(k:ByteArray):RgV:=if chkR l≠0 then RgV.zero else if hasK l k then rg l (spK l k)else RgV.zero
noncomputable def getRE(l:List RgV)(k:ByteArray):Int:=if chkR l≠0 then chkR l else if hasK l k then 0 else 6
noncomputable def keysR(l:List RgV):List ByteArray:=if chkR l=0 then l.map RgV.key else []
noncomputable def appE(l:List RgV)(o:OpV):Int:=if chkR l≠0 then chkR l else if checkE o≠0 then 8 else if o.k=4∧¬hasK l o.key∧l.length=60 then 18 else 0
@[reducible] def idX(o:OpV):List Int:=if checkE o=0 then sha (encS o)else List.replicate 32 0
def opR(o:OpV):RgV:=regO o (idX o) (idX_arr o).1
noncomputable def appL(l:List RgV)(o:OpV):List RgV:=if appE l o≠0 then []else if o.k=4 then putR l (opR o)else l
theorem act_add{k:ByteArray}(h:KeyOk k){t:ByteArray}(ht:t=ByteArray.empty):actE 2 k 0 0 0 t=0:=actE_zero.2 (.inr (.inl ⟨.inl rfl,h,rfl,rfl,rfl,ht⟩))
theorem act_key{k t:ByteArray}(h:actE 2 k 0 0 0 t=0):KeyOk k:=by
 rcases actE_zero.1 h with h|h|h
 ·exact absurd h.1 (by decide)
 ·exact h.2.1
 ·exact absurd h.1 (by decide)
theorem put_len(l:List RgV)(x:RgV):(putR l x).length=if hasK l x.key then l.length else l.length+1:=by
 unfold putR;have:=spK_le l x.key;split
 ·split<;>simp
 ·simp only[List.length_append,List.length_cons,List.length_take,List.length_drop];omega
theorem late_irr(x:RgV):¬lateR x.st x.id x:=by
 unfold lateR;rw[cmpS_self];omega
def bestR(l:List RgV)(x:RgV):RgV:=if hasK l x.key∧¬lateR x.st x.id (rg l (spK l x.key))then rg l (spK l x.key)else x
theorem sp_mem{l:List RgV}(hs:SortK l){y:RgV}(hy:y∈l):rg l (spK l y.key)=y:=by
 obtain⟨i,hi,rfl⟩:=mem_rg hy;have h1:spK l (rg l i).key=i:=spK_eq (by omega) (fun j hj=>hs.lt hj hi) fun _=>by rw[kc_self];exact Int.le_refl _
 rw[h1]
theorem key_inj{l:List RgV}(hs:SortK l){x y:RgV}(hx:x∈l)(hy:y∈l)(h:x.key=y.key):x=y:=by rw[←sp_mem hs hx,←sp_mem hs hy,h]
theorem split_sp(l:List RgV)(k:ByteArray):l=l.take (spK l k)++l.drop (spK l k):=(List.take_append_drop _ _).symm
theorem lo_mem{l:List RgV}{k:ByteArray}{y:RgV}(h:y∈l.take (spK l k)):kc y.key k<0:=by
 obtain⟨i,hi,rfl⟩:=List.getElem_of_mem h;rw[List.length_take]at hi;rw[List.getElem_take];have:=spK_lo (l:=l) (k:=k) (i:=i) (by omega);rwa[rg_some (List.getElem?_eq_getElem (by omega:i<l.length))]at this
theorem hi_mem{l:List RgV}(hs:SortK l){k:ByteArray}{y:RgV}(h:y∈l.drop (spK l k)):0≤kc y.key k:=by
 obtain⟨i,hi,rfl⟩:=List.getElem_of_mem h;rw[List.length_drop]at hi;rw[List.getElem_drop];have:=spK_hi hs (k:=k) (i:=spK l k+i) (by omega) (by omega);rwa[rg_some (List.getElem?_eq_getElem (by omega:spK l k+i<l.length))]at this
theorem best_key{l:List RgV}(hs:SortK l)(x:RgV):(bestR l x).key=x.key:=by
 unfold bestR;split
 ·rename_i h;exact((has_spK hs).1 h.1).2
 ·rfl
theorem put_set{l:List RgV}{x:RgV}(hs:SortK l)(h:hasK l x.key):putR l x=l.set (spK l x.key) (bestR l x):=by
 unfold putR bestR;rw[if_pos h];by_cases h2:lateR x.st x.id (rg l (spK l x.key))
 ·rw[if_pos h2,if_neg (fun h3=>h3.2 h2)]
 ·rw[if_neg h2,if_pos ⟨h,h2⟩];have h3:=((has_spK hs).1 h).1;apply List.ext_getElem?;intro i;rw[List.getElem?_set];split
  ·rename_i e;subst e;exact rg_at h3
  ·rfl
theorem put_ins{l:List RgV}{x:RgV}(h:¬hasK l x.key):putR l x=l.take (spK l x.key)++x::l.drop (spK l x.key):=by unfold putR;rw[if_neg h]
theorem put_sort{l:List RgV}(hs:SortK l)(x:RgV):SortK (putR l x):=by
 by_cases h:hasK l x.key
 ·rw[put_set hs h];have h3:=(has_spK hs).1 h;have hm:(l.set (spK l x.key) (bestR l x)).map RgV.key=l.map RgV.key:=by
   rw[List.map_set,best_key hs];apply List.ext_getElem?;intro i;rw[List.getElem?_set];split
   ·rename_i e;subst e;rw[List.length_map,if_pos h3.1,List.getElem?_map,rg_at h3.1,Option.map_some,h3.2]
   ·rfl
  have h4:∀m:List RgV,SortK m↔(m.map RgV.key).Pairwise fun a b=>kc a b<0:=fun m=>by unfold SortK;rw[List.pairwise_map]
  rw[h4,hm,←h4];exact hs
 ·rw[put_ins h];have h1:SortK (l.take (spK l x.key)++l.drop (spK l x.key)):=by rw[List.take_append_drop];exact hs
  unfold SortK at h1⊢;rw[List.pairwise_append]at h1⊢;refine⟨h1.1,List.pairwise_cons.2 ⟨fun y hy=>?_,h1.2.1⟩,fun y hy z hz=>?_⟩
  ·have h2:=hi_mem hs hy;have h3:kc y.key x.key≠0:=fun e=>h ⟨y,List.mem_of_mem_drop hy,kc_eq.1 e⟩;have h4:=kc_swap y.key x.key;omega
  ·rcases List.mem_cons.1 hz with rfl|hz
   ·exact lo_mem hy
   ·exact h1.2.2 y hy z hz
theorem mem_put{l:List RgV}(hs:SortK l)(x y:RgV):y∈putR l x↔(y∈l∧y.key≠x.key)∨y=bestR l x:=by
 by_cases h:hasK l x.key
 ·have h3:=(has_spK hs).1 h;rw[put_set hs h];constructor
  ·intro hy;by_cases hk:y.key=x.key
   ·right;have hs2:=put_sort hs x;rw[put_set hs h]at hs2;refine key_inj hs2 hy ?_ (hk.trans (best_key hs x).symm);exact List.mem_iff_getElem?.2 ⟨spK l x.key,by rw[List.getElem?_set,if_pos rfl,if_pos h3.1]⟩
   ·rcases List.mem_or_eq_of_mem_set hy with h1|h1
    ·exact .inl ⟨h1,hk⟩
    ·exact .inr h1
  ·rintro(⟨hy,hk⟩|rfl)
   ·obtain⟨i,hi,rfl⟩:=mem_rg hy;refine List.mem_iff_getElem?.2 ⟨i,?_⟩;rw[List.getElem?_set,if_neg (fun e=>hk (by rw[←e];exact h3.2)),rg_at hi]
   ·exact List.mem_iff_getElem?.2 ⟨spK l x.key,by rw[List.getElem?_set,if_pos rfl,if_pos h3.1]⟩
 ·have hb:bestR l x=x:=by unfold bestR;rw[if_neg (fun h2=>h h2.1)]
  rw[put_ins h,hb,List.mem_append,List.mem_cons];constructor
  ·rintro(h1|rfl|h1)
   ·have:=List.mem_of_mem_take h1;exact .inl ⟨this,fun e=>h ⟨y,this,e⟩⟩
   ·exact .inr rfl
   ·have:=List.mem_of_mem_drop h1;exact .inl ⟨this,fun e=>h ⟨y,this,e⟩⟩
  ·rintro(⟨h1,_⟩|rfl)
   ·rw[split_sp l x.key,List.mem_append]at h1;exact h1.elim .inl fun h2=> .inr (.inr h2)
   ·exact .inr (.inl rfl)
theorem has_put{l:List RgV}(hs:SortK l)(x:RgV)(k:ByteArray):hasK (putR l x) k↔hasK l k∨k=x.key:=by
 unfold hasK;constructor
 ·rintro⟨y,hy,rfl⟩;rcases(mem_put hs x y).1 hy with h|rfl
  ·exact .inl ⟨y,h.1,rfl⟩
  ·exact .inr (best_key hs x)
 ·by_cases hk:k=x.key
  ·exact fun _=>⟨bestR l x,(mem_put hs x _).2 (.inr rfl),(best_key hs x).trans hk.symm⟩
  ·rintro(⟨y,hy,rfl⟩|h)
   ·exact⟨y,(mem_put hs x y).2 (.inl ⟨hy,hk⟩),rfl⟩
   ·exact absurd h hk
/-! what is put -/
theorem goodR_put{l:List RgV}(h:goodR l){x:RgV}(hx:x.fine)(hn:hasK l x.key∨l.length<60):goodR (putR l x):=by
 refine⟨?_,fun y hy=>?_,put_sort h.2.2 x⟩
 ·rw[put_len];have:=h.1;split
  ·omega
  ·rename_i h2;rcases hn with h3|h3
   ·exact absurd h3 h2
   ·omega
 ·rcases(mem_put h.2.2 x y).1 hy with h1|rfl
  ·exact h.2.1 y h1.1
  ·unfold bestR;split
   ·rename_i h3;exact h.2.1 _ (rg_mem ((has_spK h.2.2).1 h3.1).1)
   ·exact hx
theorem put_ok{l:List RgV}(h:∀x∈l,x.ok)(hs:SortK l){x:RgV}(hx:x.ok):∀y∈putR l x,y.ok:=fun y hy=>by
 rcases(mem_put hs x y).1 hy with h1|rfl
 ·exact h y h1.1
 ·unfold bestR;split
  ·rename_i h3;exact h _ (rg_mem ((has_spK hs).1 h3.1).1)
  ·exact hx
theorem late_trans{x y z:RgV}(h:lateR x.st x.id y)(k:lateR y.st y.id z):lateR x.st x.id z:=by
 unfold lateR at*;rcases h with h|⟨h1,h2⟩
 ·rcases k with k|⟨k1,k2⟩
  ·exact .inl (by omega)
  ·exact .inl (by omega)
 ·rcases k with k|⟨k1,k2⟩
  ·exact .inl (by omega)
  ·refine .inr ⟨by omega,?_⟩;have e1:=cmpS_swap x.id y.id;have e2:=cmpS_swap y.id z.id;have e3:=cmpS_swap x.id z.id;have:=cmpS_trans (a:=z.id) (b:=y.id) (c:=x.id) (by omega) (by omega);omega
theorem late_total{x y:RgV}(h:¬lateR x.st x.id y)(k:¬lateR y.st y.id x):x.id=y.id:=by
 unfold lateR at*;have e1:=cmpS_swap x.id y.id;refine(cmpS_eq _ _).1 ?_;by_cases hs:x.st=y.st
 ·have h1:¬0<cmpS x.id y.id:=fun e=>h (.inr ⟨hs,e⟩);have h2:¬0<cmpS y.id x.id:=fun e=>k (.inr ⟨hs.symm,e⟩);omega
 ·by_cases h3:y.st<x.st
  ·exact absurd (.inl h3) h
  ·exact absurd (.inl (by omega)) k
/-! operations of a graph -/
def regI(ids:List Int)(ops:List OpV)(i:Nat):RgV:=if h:(idAt ids i).length=32 then regO (ops.getD i OpV.zero) (idAt ids i) h else RgV.zero
def setI(ops:List OpV)(i:Nat):Prop:=(ops.getD i OpV.zero).k=4
instance(ops:List OpV)(i:Nat):Decidable (setI ops i):=by unfold setI;infer_instance
def stepI(ids:List Int)(ops:List OpV)(l:List RgV)(i:Nat):List RgV:=if setI ops i then putR l (regI ids ops i)else l
def ofL(ids:List Int)(ops:List OpV)(js:List Nat):List RgV:=js.foldl (stepI ids ops) []
theorem ofL_snoc(ids:List Int)(ops:List OpV)(js:List Nat)(i:Nat):ofL ids ops (js++[i])=stepI ids ops (ofL ids ops js) i:=by simp[ofL,List.foldl_append]
def topI(ids:List Int)(ops:List OpV)(js:List Nat)(i:Nat):Prop:=i∈js∧setI ops i∧∀j∈js,setI ops j→(regI ids ops j).key=(regI ids ops i).key→¬lateR (regI ids ops j).st (regI ids ops j).id (regI ids ops i)
def OneI(ids:List Int)(ops:List OpV)(js:List Nat):Prop:=∀i∈js,∀j∈js,(regI ids ops i).id=(regI ids ops j).id→i=j
theorem ofL_all(ids:List Int)(ops:List OpV)(js:List Nat):SortK (ofL ids ops js)∧(∀k,hasK (ofL ids ops js) k↔∃i∈js,setI ops i∧(regI ids ops i).key=k)∧(OneI ids ops js→∀y,y∈ofL ids ops js↔∃i,topI ids ops js i∧y=regI ids ops i):=by
 suffices H:∀n,n≤js.length→SortK (ofL ids ops (js.take n))∧(∀k,hasK (ofL ids ops (js.take n)) k↔∃i∈js.take n,setI ops i∧(regI ids ops i).key=k)∧(OneI ids ops (js.take n)→∀y,y∈ofL ids ops (js.take n)↔∃i,topI ids ops (js.take n) i∧y=regI ids ops i)by
  have:=H js.length (Nat.le_refl _);rwa[List.take_length]at this
 intro n
 induction n with
 |zero=>
  intro _;refine⟨List.Pairwise.nil,fun k=>?_,fun _ y=>?_⟩
  ·simp[ofL,hasK]
  ·simp[ofL,topI]
 |succ n ih=>
  intro hn;obtain⟨h1,h2,h3⟩:=ih (by omega);rw[take_snoc_get _ _ (by omega:n<js.length)];generalize js.take n=ks at h1 h2 h3⊢;generalize js.getD n 0=i;rw[ofL_snoc];by_cases hs:setI ops i
  ·have e:stepI ids ops (ofL ids ops ks) i=putR (ofL ids ops ks) (regI ids ops i):=if_pos hs;rw[e];refine⟨put_sort h1 _,fun k=>?_,fun ho y=>?_⟩
   ·rw[has_put h1,h2];constructor
    ·rintro(⟨j,hj,hk⟩|hk)
     ·exact⟨j,List.mem_append_left _ hj,hk⟩
     ·exact⟨i,by simp,hs,hk.symm⟩
    ·rintro⟨j,hj,hk⟩;rcases List.mem_append.1 hj with hj|hj
     ·exact .inl ⟨j,hj,hk⟩
     ·rw[List.mem_singleton]at hj;subst hj;exact .inr hk.2.symm
   ·have ho':OneI ids ops ks:=fun a ha b hb e=>ho a (List.mem_append_left _ ha) b (List.mem_append_left _ hb) e;have h4:=h3 ho';have hz:hasK (ofL ids ops ks) (regI ids ops i).key→∃j,topI ids ops ks j∧rg (ofL ids ops ks) (spK (ofL ids ops ks) (regI ids ops i).key)=regI ids ops j∧(regI ids ops j).key=(regI ids ops i).key:=fun hh=>by
     have h5:=(has_spK h1).1 hh;obtain⟨j,h6,h7⟩:=(h4 _).1 (rg_mem h5.1);exact⟨j,h6,h7,by rw[←h7];exact h5.2⟩
    rw[mem_put h1];constructor
    ·rintro(⟨hy,hk⟩|rfl)
     ·obtain⟨j,h6,rfl⟩:=(h4 y).1 hy;refine⟨j,⟨List.mem_append_left _ h6.1,h6.2.1,fun j' hj' hs' hk'=>?_⟩,rfl⟩;rcases List.mem_append.1 hj' with hj'|hj'
      ·exact h6.2.2 j' hj' hs' hk'
      ·rw[List.mem_singleton]at hj';subst hj';exact absurd hk'.symm hk
     ·by_cases hh:hasK (ofL ids ops ks) (regI ids ops i).key
      ·obtain⟨j,h6,h7,h8⟩:=hz hh;unfold bestR;by_cases hl:lateR (regI ids ops i).st (regI ids ops i).id (rg (ofL ids ops ks) (spK (ofL ids ops ks) (regI ids ops i).key))
       ·rw[if_neg (fun h9=>h9.2 hl)];refine⟨i,⟨by simp,hs,fun j' hj' hs' hk' hl'=>?_⟩,rfl⟩;rcases List.mem_append.1 hj' with hj'|hj'
        ·rw[h7]at hl;exact h6.2.2 j' hj' hs' (hk'.trans h8.symm) (late_trans hl' hl)
        ·rw[List.mem_singleton]at hj';subst hj';exact late_irr _ hl'
       ·rw[if_pos ⟨hh,hl⟩];refine⟨j,⟨List.mem_append_left _ h6.1,h6.2.1,fun j' hj' hs' hk'=>?_⟩,h7⟩;rcases List.mem_append.1 hj' with hj'|hj'
        ·exact h6.2.2 j' hj' hs' hk'
        ·rw[List.mem_singleton]at hj';subst hj';rw[←h7];exact hl
      ·have hb:bestR (ofL ids ops ks) (regI ids ops i)=regI ids ops i:=by unfold bestR;rw[if_neg (fun h9=>hh h9.1)]
       rw[hb];refine⟨i,⟨by simp,hs,fun j' hj' hs' hk' hl'=>?_⟩,rfl⟩;rcases List.mem_append.1 hj' with hj'|hj'
       ·exact hh ((h2 _).2 ⟨j',hj',hs',hk'⟩)
       ·rw[List.mem_singleton]at hj';subst hj';exact late_irr _ hl'
    ·rintro⟨j,ht,rfl⟩;by_cases hk:(regI ids ops j).key=(regI ids ops i).key
     ·right;by_cases hh:hasK (ofL ids ops ks) (regI ids ops i).key
      ·obtain⟨j2,h6,h7,h8⟩:=hz hh;unfold bestR;have hi2:i∈ks++[i]:=by simp
       have hj2:j2∈ks++[i]:=List.mem_append_left _ h6.1;by_cases hl:lateR (regI ids ops i).st (regI ids ops i).id (rg (ofL ids ops ks) (spK (ofL ids ops ks) (regI ids ops i).key))
       ·rw[if_neg (fun h9=>h9.2 hl)];rw[h7]at hl;have hx:=ht.2.2 i hi2 hs hk.symm;have hji:j=i:=by
         rcases List.mem_append.1 ht.1 with hj'|hj'
         ·have hjj:¬lateR (regI ids ops j2).st (regI ids ops j2).id (regI ids ops j):=ht.2.2 j2 hj2 h6.2.1 (h8.trans hk.symm);have hjj2:¬lateR (regI ids ops j).st (regI ids ops j).id (regI ids ops j2):=h6.2.2 j hj' ht.2.1 (hk.trans h8.symm);have e2:=ho j ht.1 j2 hj2 (late_total hjj2 hjj);subst e2;exact absurd hl hx
         ·exact List.mem_singleton.1 hj'
        rw[hji]
       ·rw[if_pos ⟨hh,hl⟩,h7];rw[h7]at hl;rcases List.mem_append.1 ht.1 with hj'|hj'
        ·have hjj:¬lateR (regI ids ops j2).st (regI ids ops j2).id (regI ids ops j):=ht.2.2 j2 hj2 h6.2.1 (h8.trans hk.symm);have hjj2:¬lateR (regI ids ops j).st (regI ids ops j).id (regI ids ops j2):=h6.2.2 j hj' ht.2.1 (hk.trans h8.symm);rw[ho j ht.1 j2 hj2 (late_total hjj2 hjj)]
        ·rw[List.mem_singleton]at hj';subst hj';have hjj:¬lateR (regI ids ops j2).st (regI ids ops j2).id (regI ids ops j):=ht.2.2 j2 hj2 h6.2.1 h8;rw[ho j hi2 j2 hj2 (late_total hl hjj)]
      ·have hb:bestR (ofL ids ops ks) (regI ids ops i)=regI ids ops i:=by unfold bestR;rw[if_neg (fun h9=>hh h9.1)]
       rw[hb];rcases List.mem_append.1 ht.1 with hj'|hj'
       ·exact absurd ((h2 _).2 ⟨j,hj',ht.2.1,hk⟩) hh
       ·rw[List.mem_singleton.1 hj']
     ·left;refine⟨(h4 _).2 ⟨j,⟨?_,ht.2.1,fun j' hj'=>ht.2.2 j' (List.mem_append_left _ hj')⟩,rfl⟩,hk⟩;rcases List.mem_append.1 ht.1 with hj'|hj'
      ·exact hj'
      ·rw[List.mem_singleton]at hj';subst hj';exact absurd rfl hk
  ·have e:stepI ids ops (ofL ids ops ks) i=ofL ids ops ks:=if_neg hs;rw[e];refine⟨h1,fun k=>?_,fun ho y=>?_⟩
   ·rw[h2];constructor
    ·rintro⟨j,hj,hk⟩;exact⟨j,List.mem_append_left _ hj,hk⟩
    ·rintro⟨j,hj,hk⟩;rcases List.mem_append.1 hj with hj|hj
     ·exact⟨j,hj,hk⟩
     ·rw[List.mem_singleton]at hj;subst hj;exact absurd hk.1 hs
   ·rw[h3 (fun a ha b hb e=>ho a (List.mem_append_left _ ha) b (List.mem_append_left _ hb) e)];constructor
    ·rintro⟨j,ht,rfl⟩;refine⟨j,⟨List.mem_append_left _ ht.1,ht.2.1,fun j' hj' hs'=>?_⟩,rfl⟩;rcases List.mem_append.1 hj' with hj'|hj'
     ·exact ht.2.2 j' hj' hs'
     ·rw[List.mem_singleton]at hj';subst hj';exact absurd hs' hs
    ·rintro⟨j,ht,rfl⟩;refine⟨j,⟨?_,ht.2.1,fun j' hj'=>ht.2.2 j' (List.mem_append_left _ hj')⟩,rfl⟩;rcases List.mem_append.1 ht.1 with hj'|hj'
     ·exact hj'
     ·rw[List.mem_singleton]at hj';subst hj';exact absurd ht.2.1 hs
theorem ofL_sort(ids:List Int)(ops:List OpV)(js:List Nat):SortK (ofL ids ops js):=(ofL_all ids ops js).1
theorem ofL_len(ids:List Int)(ops:List OpV)(js:List Nat):(ofL ids ops js).length≤js.length:=by
 suffices H:∀l:List RgV,(js.foldl (stepI ids ops) l).length≤l.length+js.length by
  have:=H [];simpa [ofL]using this
 induction js with
 |nil=>intro l;simp
 |cons j js ih=>
  intro l;have h1:=ih (stepI ids ops l j);have h2:(stepI ids ops l j).length≤l.length+1:=by
   unfold stepI;split
   ·rw[put_len];split<;>omega
   ·omega
  simp only[List.foldl_cons,List.length_cons];omega
theorem regI_eq{ids:List Int}{ops:List OpV}{i:Nat}(h:(idAt ids i).length=32):regI ids ops i=regO (ops.getD i OpV.zero) (idAt ids i) h:=by unfold regI;rw[dif_pos h]
/-! an operation that is applied -/
theorem opR_fine{o:OpV}(h:checkE o=0)(h4:o.k=4):(opR o).fine:=by
 obtain⟨_,_,c⟩:=check_zero.1 h;have hk:KeyOk o.key:=by
  rcases c.2.2.2.2 with e|e|e
  ·omega
  ·exact e.2.1
  ·exact e.2.1
 exact⟨hk,fine4 c.2.2.2.2 h4,c.2.1⟩
theorem appE_cases{l:List RgV}{o:OpV}(h1:chkR l=0)(h2:checkE o=0):appE l o=if o.k=4∧¬hasK l o.key∧l.length=60 then 18 else 0:=by
 unfold appE;rw[if_neg (not_not_intro h1),if_neg (not_not_intro h2)]
theorem appE_zero{l:List RgV}{o:OpV}:appE l o=0↔chkR l=0∧checkE o=0∧¬(o.k=4∧¬hasK l o.key∧l.length=60):=by
 constructor
 ·intro h;have h1:chkR l=0:=by
   unfold appE at h;split at h
   ·rename_i c;exact absurd h c
   ·rename_i c;exact Decidable.not_not.1 c
  have h2:checkE o=0:=by
   unfold appE at h;rw[if_neg (not_not_intro h1)]at h;split at h
   ·exact absurd h (by decide)
   ·rename_i c;exact Decidable.not_not.1 c
  refine⟨h1,h2,fun c=>?_⟩;rw[appE_cases h1 h2,if_pos c]at h;exact absurd h (by decide)
 ·rintro⟨h1,h2,h3⟩;rw[appE_cases h1 h2,if_neg h3]
theorem appL_zero{l:List RgV}{o:OpV}(h:appE l o=0):appL l o=if o.k=4 then putR l (opR o)else l:=by unfold appL;rw[if_neg (not_not_intro h)]
/-! sizes of what is applied -/
theorem appl_18{l:List RgV}{o:OpV}(h:goodR l):60<(if o.k=4 then putR l (opR o)else l).length↔o.k=4∧¬hasK l o.key∧l.length=60:=by
 have h1:=h.1;by_cases h4:o.k=4
 ·rw[if_pos h4,put_len];by_cases hh:hasK l o.key
  ·rw[if_pos (show hasK l (opR o).key from hh)];constructor
   ·omega
   ·exact fun h2=>absurd hh h2.2.1
  ·rw[if_neg (show ¬hasK l (opR o).key from hh)];constructor
   ·exact fun h2=>⟨h4,hh,by omega⟩
   ·omega
 ·rw[if_neg h4];constructor
  ·omega
  ·exact fun h2=>absurd h2.1 h4
theorem appE_chk{l:List RgV}{o:OpV}(h:chkR l≠0):appE l o=chkR l∧appL l o=[]:=by
 have e:appE l o=chkR l:=by unfold appE;rw[if_pos h]
 exact⟨e,by unfold appL;rw[if_pos (by rw[e];exact h)]⟩
theorem appE_bad{l:List RgV}{o:OpV}(h:chkR l=0)(h2:checkE o≠0):appE l o=8∧appL l o=[]:=by
 have e:appE l o=8:=by unfold appE;rw[if_neg (not_not_intro h),if_pos h2]
 exact⟨e,by unfold appL;rw[if_pos (by rw[e];decide)]⟩
theorem appE_full{l:List RgV}{o:OpV}(h:chkR l=0)(h2:checkE o=0)(h3:o.k=4∧¬hasK l o.key∧l.length=60):appE l o=18∧appL l o=[]:=by
 have e:appE l o=18:=by rw[appE_cases h h2,if_pos h3]
 exact⟨e,by unfold appL;rw[if_pos (by rw[e];decide)]⟩
theorem appE_ok{l:List RgV}{o:OpV}(h:chkR l=0)(h2:checkE o=0)(h3:¬(o.k=4∧¬hasK l o.key∧l.length=60)):appE l o=0∧appL l o=if o.k=4 then putR l (opR o)else l:=by
 have e:appE l o=0:=appE_zero.2 ⟨h,h2,h3⟩;exact⟨e,appL_zero e⟩
theorem appL_ok{l:List RgV}{o:OpV}(h:∀x∈l,x.ok)(ho:o.ok):∀y∈appL l o,y.ok:=by
 intro y hy;unfold appL at hy;split at hy
 ·cases hy
 ·rename_i h0;have hz:=appE_zero.1 (Decidable.not_not.1 h0);split at hy
  ·refine put_ok h (chkR_good.1 hz.1).2.2 ?_ y hy;exact⟨⟨ho.vk,ho.num,ho.bits,ho.st,(idX_arr o).2⟩,ho.key,ho.t⟩
  ·exact h y hy
def mkO(st n:Int):OpV:=⟨0,st,4,1,n,0,0,0,0,[],⟨#[107]⟩, .empty⟩
theorem mkO_ok{st n:Int}(hs:0≤st∧st<18446744073709551616)(hn: -9223372036854775808≤n∧n≤9223372036854775807):(mkO st n).ok:=
 ⟨(by decide:(0:Int)≤0∧(0:Int)<4294967296),hs,(by decide:(0:Int)≤4∧(4:Int)<256),(by decide:(0:Int)≤1∧(1:Int)<256),hn,(by decide:(0:Int)≤0∧(0:Int)<18446744073709551616),(by decide:(0:Int)≤0∧(0:Int)<4294967296),(by decide:(0:Int)≤0∧(0:Int)<4294967296),(by decide:(0:Nat)≤40),(by decide:(ByteArray.mk #[107]).size≤100),(by decide:ByteArray.empty.size≤100)⟩
theorem key_k:KeyOk ⟨#[107]⟩:=by decide+kernel
theorem mkO_sign{st n:Int}(hs:st≤1000000000000):signE 5 (mkO st n)=0:=
 signE_zero.2 ⟨by decide,check_zero.2 ⟨(by decide:(0:Nat)≤4),rising_nil,isG_pub 5 (by decide),hs,(by decide:(0:Int)<500000003),(by decide:(0:Int)<500000003), .inr (.inr ⟨rfl,key_k, .inl ⟨rfl,rfl,rfl⟩⟩)⟩⟩
def mdO(st n:Int):OpV:=signS 5 (mkO st n)
theorem mdO_all{st n:Int}(h0:0≤st)(hs:st≤1000000000000)(hn: -9223372036854775808≤n∧n≤9223372036854775807):
  (mdO st n).ok∧checkE (mdO st n)=0∧(mdO st n).k=4∧(mdO st n).key=⟨#[107]⟩∧(mdO st n).vk=1∧(mdO st n).num=n∧(mdO st n).bits=0∧(mdO st n).t= .empty∧(mdO st n).st=st∧(mdO st n).n=0∧(mdO st n).ids=[]:=by
 have ho:=mkO_ok (st:=st) (n:=n) ⟨h0,by omega⟩ hn;have hz:=mkO_sign (st:=st) (n:=n) hs;have e:=signS_eq hz;refine⟨signS_ok _ _ ho,(sign_good ho rfl hz).2.2.1,?_⟩;unfold mdO;rw[e];exact⟨rfl,rfl,rfl,rfl,rfl,rfl,rfl,rfl,rfl⟩
theorem put_nil(x:RgV):putR [] x=[x]:=by
 rw[put_ins (by rintro⟨_,h,_⟩;cases h)];simp
theorem has_one{y:RgV}{k:ByteArray}:hasK [y] k↔y.key=k:=⟨fun⟨x,h,e⟩=>by rw[List.mem_singleton]at h;subst h;exact e,fun h=>⟨y,List.mem_singleton.2 rfl,h⟩⟩
theorem sp_one(y:RgV):spK [y] y.key=0:=spK_eq (Nat.zero_le _) (fun i hi=>by omega) fun _=>by show 0≤kc y.key y.key;rw[kc_self];exact Int.le_refl _
theorem put_one{x y:RgV}(h:y.key=x.key):putR [y] x=if lateR x.st x.id y then [x]else [y]:=by
 unfold putR;rw[if_pos (has_one.2 h),←h,sp_one];rfl
theorem get_one{y:RgV}(hg:goodR [y]):getR [y] y.key=y∧getRE [y] y.key=0:=by
 unfold getR getRE;rw[if_neg (not_not_intro (chkR_good.2 hg)),if_pos (has_one.2 rfl),if_neg (not_not_intro (chkR_good.2 hg)),if_pos (has_one.2 rfl),sp_one];exact⟨rfl,rfl⟩
theorem get_none{y:RgV}{k:ByteArray}(hg:goodR [y])(hk:y.key≠k):getRE [y] k=6:=by
 unfold getRE;rw[if_neg (not_not_intro (chkR_good.2 hg)),if_neg (fun h=>hk (has_one.1 h))]
theorem goodR_nil:goodR []:=⟨by decide,fun x h=>(by cases h),List.Pairwise.nil⟩
theorem goodR_one{x:RgV}(h:x.fine):goodR [x]:=by
 have:=goodR_put goodR_nil h (.inr (by decide));rwa[put_nil]at this
theorem app_nil{o:OpV}(h:checkE o=0)(h4:o.k=4):appE [] o=0∧appL [] o=[opR o]:=by
 have e:appE [] o=0:=appE_zero.2 ⟨chkR_good.2 goodR_nil,h,fun hh=>absurd hh.2.2 (by decide)⟩;exact⟨e,by rw[appL_zero e,if_pos h4,put_nil]⟩
theorem app_one{o p:OpV}(h:checkE o=0)(h4:o.k=4)(hp:checkE p=0)(p4:p.k=4)(hk:p.key=o.key):appE [opR p] o=0∧appL [opR p] o=if lateR o.st (idX o) (opR p)then [opR o]else [opR p]:=by
 have e:appE [opR p] o=0:=appE_zero.2 ⟨chkR_good.2 (goodR_one (opR_fine hp p4)),h,fun hh=>absurd hh.2.2 (by simp)⟩;exact⟨e,by rw[appL_zero e,if_pos h4,put_one (show(opR p).key=(opR o).key from hk)];rfl⟩
end S
namespace W
open Go.RowKit G
section
variable{S0:Nat→Prop}{w0:World}{L:List Ent}{P:Program}{Q:Exit→Act→World→Prop}{c y:Code}{l:List Value}{X:World→Prop}{e1 e2:Ent}
theorem J.joinX{A:Type}(M:A→List (Nat×Value))(Jk:List Nat)(Lp:A→List Ent)(I:A→Prop){l':A→(Nat→Value)→List Value}(h:J S0 w0 L (c.wp P (Exit.then (Cut l M Jk (fun p w=>Mem S0 w0 (Lp p) w∧I p)) Q) (fr l)))
  (k:∀p j,I p→J S0 w0 (Lp p) (y.wp P Q (fr (l' p j))))(hl:∀p j,upd (upd l (M p)) (junk Jk j)=l' p j:=by intro p j;simp only[upd,junk,List.map_cons,List.map_nil,List.set_cons_succ,List.set_cons_zero];exact rfl):J S0 w0 L (c.wp P (Exit.then (y.wp P Q) Q) (fr l)):=fun w Mm=>by
 refine wp_mono (h w Mm) fun e a w hq=>?_
 cases e with
 |normal=>
  have hq:Cut l M Jk (fun p w=>Mem S0 w0 (Lp p) w∧I p) a w:=hq;unfold Cut at hq;obtain⟨p',j',rfl,h1,h2⟩:=hq;show y.wp P Q _ w;rw[hl];exact k p' j' h2 w h1
 |_=>exact hq
theorem J.swap (h : J S0 w0 (e2 :: e1 :: L) X) : J S0 w0 (e1 :: e2 :: L) X := fun w M => h w ⟨M.pr, by
 obtain ⟨S1, T1, a1, a2, a3, a4, S2, T2, b1, b2, b3, b4, b5⟩ := M.sep
 exact ⟨S2, fun b => S1 b ∨ T2 b, fun b hb => a2 b (b1 b hb), fun b hb => hb.elim (a1 b) (fun k => a2 b (b2 b k)), fun b hb hc => hc.elim (fun k => a3 b k (b1 b hb)) (b3 b hb), b4, S1, T2, fun b hb => .inl hb, fun b hb => .inr hb, fun b hb hc => a3 b hb (b2 b hc), a4, b5⟩⟩
end
theorem GRow.nil'{α:Type}{f:α→List Value}{sz:Nat}{S:Nat→Prop}{w:World}(hf:∀x,(f x).length=sz):GRow f sz S w none 0 []:=⟨.inl rfl,rfl,hf⟩
end W
namespace S
open G
noncomputable def ofG(m:Nat)(ids:List Int)(ops:List OpV):List RgV:=if chkG m ids ops≠0 then []else ofL ids ops (List.range ops.length)
theorem ofG_ok{m:Nat}{ids:List Int}{ops:List OpV}(h:chkG m ids ops=0):ofG m ids ops=ofL ids ops (List.range ops.length):=if_neg (not_not_intro h)
theorem ofG_bad{m:Nat}{ids:List Int}{ops:List OpV}(h:chkG m ids ops≠0):ofG m ids ops=[]:=if_pos h
theorem ofL_range(ids:List Int)(ops:List OpV)(i:Nat):ofL ids ops (List.range (i+1))=stepI ids ops (ofL ids ops (List.range i)) i:=by rw[List.range_succ,ofL_snoc]
theorem step_app{ids:List Int}{ops:List OpV}{l:List RgV}{i:Nat}{o:OpV}(ho:ops.getD i OpV.zero=o)(h:(idAt ids i).length=32):applR l o (idAt ids i) h=stepI ids ops l i:=by
 subst ho;unfold applR stepI;rw[regI_eq h];rfl
theorem ofL_range_len(ids:List Int)(ops:List OpV)(i:Nat):(ofL ids ops (List.range i)).length≤i:=by
 have:=ofL_len ids ops (List.range i);rwa[List.length_range]at this
open Classical in
theorem ofL_ok{ids:List Int}{ops:List OpV}{js:List Nat}(ho:∀i∈js,(regI ids ops i).ok):∀x∈ofL ids ops js,x.ok:=by
 suffices H:∀(js:List Nat) (l:List RgV),SortK l→(∀i∈js,(regI ids ops i).ok)→(∀x∈l,x.ok)→∀x∈js.foldl (stepI ids ops) l,x.ok from H js [] List.Pairwise.nil ho fun x h=>by cases h
 intro js
 induction js with
 |nil=>intro l _ _ h;exact h
 |cons j js ih=>
  intro l hs ho h;refine ih _ ?_ (fun i hi=>ho i (List.mem_cons_of_mem _ hi)) ?_
  ·unfold stepI;split
   ·exact put_sort hs _
   ·exact hs
  ·unfold stepI;split
   ·exact put_ok h hs (ho j (List.mem_cons_self ..))
   ·exact h
theorem regI_ok{ids:List Int}{ops:List OpV}{m i:Nat}(ho:(ops.getD i OpV.zero).ok)(hb:Bd .u8 ids)(hl:ids.length=32*m)(hi:i<m):(regI ids ops i).ok:=by
 have h:=idAt_len ids i m hl hi;rw[regI_eq h];exact⟨⟨ho.vk,ho.num,ho.bits,ho.st,fun x hx=>hb x (List.mem_of_mem_drop (List.mem_of_mem_take hx))⟩,ho.key,ho.t⟩
end S
namespace W
open Go.RowKit G
theorem opC_len(z:OpA):(opC z).length=11:=rfl
instance(z:OpA):LenC (opC z) 11:=⟨rfl,rfl⟩
section
end
section
end
theorem gown_one{α:Type}{f:α→List Value}{sz:Nat}{w:World}{b:Nat}{x:α}{T:TypeId}(h:GOwn f sz 0 w T (some ⟨b,0,none⟩) 1 1 [x]):Blk w b (f x) T:=by
 obtain⟨cur,B,_,_,h3,h4,_⟩:=h.blk;rw[List.take_of_length_le (by omega)]at h4;rw[h4]at B;simpa using B
theorem blk_free{w:World}{b o:Nat}{cs:List Value}{T:TypeId}(h:Blk w b cs T):w.frozen? ⟨b,o,none⟩=false:=by
 unfold Blk at h;unfold World.frozen?;rw[h];simp
theorem blk_shape{w:World}{b:Nat}{cs:List Value}{T:TypeId}(h:Blk w b cs T):w.shape? b=some (T,cs.length):=by
 unfold Blk at h;unfold World.shape?;rw[h];simp
structure IdV where
 (xs:List Int)(h:xs.length=32)
@[reducible] def idC(x:IdV):List Value:=ints .u8 x.xs
theorem idC_len(x:IdV):(idC x).length=32:=by rw[ints_length,x.h]
def flatI(l:List IdV):List Int:=l.flatMap IdV.xs
theorem flatI_cells:∀l:List IdV,l.flatMap idC=ints .u8 (flatI l)
 |[]=>rfl
 |x::l=>by
  rw[List.flatMap_cons,flatI_cells l];unfold flatI;rw[List.flatMap_cons,ints_append]
section
variable{S:Nat→Prop}{w:World}{T:TypeId}{a:Option Addr}{n c:Nat}{l:List IdV}{xs:List Int}
theorem gown_wown(hb:Bd .u8 (flatI l))(h:(Ent.gown idC 32 T a n c l).ok S w):(Ent.wown T .u8 32 a n c (flatI l)).ok S w:=by
 obtain⟨h1,h2⟩:=gown_e h;have:=h1.own;rw[flatI_cells]at this;exact⟨⟨this,hb⟩,h2⟩
end
section
end
end W
namespace W
open Go.RowKit G
set_option maxRecDepth 20000
set_option maxHeartbeats 8000000
attribute [local irreducible] RS RX RY Code.wp bodyPost J Ent.blk Ent.iown Ent.wrow Ent.wown Ent.gown Ent.all Ent.emp
instance:Inf prog 43 2 48 [.slice none 0 0, .slice none 0 0]:=⟨TI.of (v:= .agg #[.slice none 0 0, .slice none 0 0]) (by kernel_rfl) rfl⟩
instance:SInf prog 43 [(0,1),(1,1)]:=⟨_,underlying43,by kernel_rfl,by kernel_rfl⟩
structure GtA where
 (n:Nat)(a:Option Addr)(c:Nat)(zs:List OpA)
theorem GrR.zok{S0:Nat→Prop}{w:World}{g:GrA}(h:GrR S0 w g)(i:Nat):(g.ops.getD i S.OpV.zero).ok:=by
 rw[List.getD_eq_getElem?_getD];cases h1:g.ops[i]? with
 |none=>constructor<;>decide
 |some o=>
  unfold GrA.ops at h1;rw[List.getElem?_map]at h1;obtain⟨z,hz,rfl⟩:=Option.map_eq_some_iff.1 h1;exact h.ok z (List.mem_of_getElem? hz)
instance:Und prog 9 .string:=⟨underlying9⟩
instance:Ents prog 285:=⟨.mk func285 (by kernel_rfl) rfl⟩
instance:Ents prog 313:=⟨.mk func313 (by kernel_rfl) rfl⟩
instance:Fld prog 118 0 0:=⟨_,_,1,underlying118,rfl,by kernel_rfl,by decide,rfl⟩
instance:Sca prog 9:=⟨_,underlying9,rfl⟩
instance:Ents prog 142:=⟨.mk func142 (by kernel_rfl) rfl⟩
instance:Sca prog 221:=⟨_,underlying221,rfl⟩
instance:Agg prog 118 38:=⟨_,underlying118,rfl,by kernel_rfl⟩
instance:Ents prog 225:=⟨.mk func225 (by kernel_rfl) rfl⟩
instance:Ents prog 224:=⟨.mk func224 (by kernel_rfl) rfl⟩
instance:Und prog 119 (.slice 118):=⟨underlying119⟩
instance:Siz prog 118 38:=⟨by kernel_rfl⟩
instance:Ents prog 223:=⟨.mk func223 (by kernel_rfl) rfl⟩
instance:Fld prog 118 2 5:=⟨_,_,1,underlying118,rfl,by kernel_rfl,by decide,rfl⟩
instance:Sca prog 29:=⟨_,underlying29,rfl⟩
instance:Ents prog 284:=⟨.mk func284 (by kernel_rfl) rfl⟩
instance:Fld prog 118 3 6:=⟨_,_,32,underlying118,rfl,by kernel_rfl,by decide,rfl⟩
instance:Ents prog 84:=⟨.mk func84 (by kernel_rfl) rfl⟩
instance:Ents prog 283:=⟨.mk func283 (by kernel_rfl) rfl⟩
instance:Inf prog 118 38 96 [.string .empty, .int .u8 0, .int .i64 0, .int .u64 0, .string .empty, .int .u64 0, .int .u8 0, .int .u8 0, .int .u8 0, .int .u8 0, .int .u8 0, .int .u8 0, .int .u8 0, .int .u8 0, .int .u8 0, .int .u8 0, .int .u8 0, .int .u8 0, .int .u8 0, .int .u8 0, .int .u8 0, .int .u8 0, .int .u8 0, .int .u8 0, .int .u8 0, .int .u8 0, .int .u8 0, .int .u8 0, .int .u8 0, .int .u8 0, .int .u8 0, .int .u8 0, .int .u8 0, .int .u8 0, .int .u8 0, .int .u8 0, .int .u8 0, .int .u8 0]:=⟨TI.of (v:= .agg #[.string .empty, .int .u8 0, .int .i64 0, .int .u64 0, .string .empty, .int .u64 0, .int .u8 0, .int .u8 0, .int .u8 0, .int .u8 0, .int .u8 0, .int .u8 0, .int .u8 0, .int .u8 0, .int .u8 0, .int .u8 0, .int .u8 0, .int .u8 0, .int .u8 0, .int .u8 0, .int .u8 0, .int .u8 0, .int .u8 0, .int .u8 0, .int .u8 0, .int .u8 0, .int .u8 0, .int .u8 0, .int .u8 0, .int .u8 0, .int .u8 0, .int .u8 0, .int .u8 0, .int .u8 0, .int .u8 0, .int .u8 0, .int .u8 0, .int .u8 0]) (by kernel_rfl) rfl⟩
theorem fits_rg0(key t:ByteArray)(vk num bits st a0 a1 a2 a3 a4 a5 a6 a7 a8 a9 a10 a11 a12 a13 a14 a15 a16 a17 a18 a19 a20 a21 a22 a23 a24 a25 a26 a27 a28 a29 a30 a31:Int)(h:[a0,a1,a2,a3,a4,a5,a6,a7,a8,a9,a10,a11,a12,a13,a14,a15,a16,a17,a18,a19,a20,a21,a22,a23,a24,a25,a26,a27,a28,a29,a30,a31].length=32):FitsT prog 9 118 (rgC ⟨key,vk,num,bits,t,st,[a0,a1,a2,a3,a4,a5,a6,a7,a8,a9,a10,a11,a12,a13,a14,a15,a16,a17,a18,a19,a20,a21,a22,a23,a24,a25,a26,a27,a28,a29,a30,a31],h⟩)=true:=by kernel_rfl
theorem fits_rg(x:S.RgV):FitsT prog 9 118 (rgC x)=true:=by
 obtain⟨key,vk,num,bits,t,st,id,h⟩:=x
 match id,h with
 |[a0,a1,a2,a3,a4,a5,a6,a7,a8,a9,a10,a11,a12,a13,a14,a15,a16,a17,a18,a19,a20,a21,a22,a23,a24,a25,a26,a27,a28,a29,a30,a31],h=>exact fits_rg0 ..
theorem fill_rg0(o:S.OpV)(a0 a1 a2 a3 a4 a5 a6 a7 a8 a9 a10 a11 a12 a13 a14 a15 a16 a17 a18 a19 a20 a21 a22 a23 a24 a25 a26 a27 a28 a29 a30 a31:Int)(h:[a0,a1,a2,a3,a4,a5,a6,a7,a8,a9,a10,a11,a12,a13,a14,a15,a16,a17,a18,a19,a20,a21,a22,a23,a24,a25,a26,a27,a28,a29,a30,a31].length=32):fillL [(0,1),(1,4),(5,1),(6,32)] (rgC S.RgV.zero) [(0, .string o.key),(1, .agg ([.int .u8 o.vk, .int .i64 o.num, .int .u64 o.bits, .string o.t]:List Value).toArray),(2, .int .u64 o.st),(3, .agg (ints .u8 [a0,a1,a2,a3,a4,a5,a6,a7,a8,a9,a10,a11,a12,a13,a14,a15,a16,a17,a18,a19,a20,a21,a22,a23,a24,a25,a26,a27,a28,a29,a30,a31]).toArray)]=some (rgC (S.regO o [a0,a1,a2,a3,a4,a5,a6,a7,a8,a9,a10,a11,a12,a13,a14,a15,a16,a17,a18,a19,a20,a21,a22,a23,a24,a25,a26,a27,a28,a29,a30,a31] h)):=by kernel_rfl
theorem fill_rg(o:S.OpV)(id:List Int)(h:id.length=32):fillL [(0,1),(1,4),(5,1),(6,32)] (rgC S.RgV.zero) [(0, .string o.key),(1, .agg ([.int .u8 o.vk, .int .i64 o.num, .int .u64 o.bits, .string o.t]:List Value).toArray),(2, .int .u64 o.st),(3, .agg (ints .u8 id).toArray)]=some (rgC (S.regO o id h)):=by
 match id,h with
 |[a0,a1,a2,a3,a4,a5,a6,a7,a8,a9,a10,a11,a12,a13,a14,a15,a16,a17,a18,a19,a20,a21,a22,a23,a24,a25,a26,a27,a28,a29,a30,a31],h=>exact fill_rg0 ..
theorem nanS(s:ByteArray)(w:World):Calls prog 285 #[.string s] w (Ret w fun v _=>v= .bool false):=by
 refine J.enter 5 func285 rfl rfl ?_;refine run ?_;exact J.fin (congrArg Value.bool (by simp))
theorem nanU(s:Int)(w:World):Calls prog 313 #[.int .u64 s] w (Ret w fun v _=>v= .bool false):=by
 refine J.enter 5 func313 rfl rfl ?_;refine run ?_;exact J.fin (congrArg Value.bool (by simp))
theorem cmpStr(s t:ByteArray)(w:World):Calls prog 225 #[.string s, .string t] w (Ret w fun v _=>v= .int .i64 (S.kc s t)):=by
 have hr:S.kc s t= -1∨S.kc s t=0∨S.kc s t=1:=S.cmpS_rng _ _;refine J.enter 18 func225 rfl rfl ?_;refine run ?_;refine J.callp rfl rfl (fun w' M=>nanS _ w') ?_;refine run ?_;refine J.callp rfl rfl (fun w' M=>nanS _ w') ?_;refine run ?_;refine J.ifd rfl (fun c=>?_) (fun c=>?_)
 ·refine run ?_;exact J.fin (congrArg _ (by omega))
 refine run ?_;refine J.ifd rfl (fun c2=>?_) (fun c2=>?_)
 ·refine run ?_;exact J.fin (congrArg _ (by omega))
 refine run ?_;exact J.fin (congrArg _ (by omega))
theorem cmpU(s t:Int)(w:World):Calls prog 284 #[.int .u64 s, .int .u64 t] w (Ret w fun v _=>v= .int .i64 (S.cmpN s t)):=by
 refine J.enter 18 func284 rfl rfl ?_;refine run ?_;refine J.callp rfl rfl (fun w' M=>nanU _ w') ?_;refine run ?_;refine J.callp rfl rfl (fun w' M=>nanU _ w') ?_;refine run ?_;refine J.ifd rfl (fun c=>?_) (fun c=>?_)
 ·refine run ?_;exact J.fin (congrArg _ ((S.cmpN_1 c)))
 refine run ?_;refine J.ifd rfl (fun c2=>?_) (fun c2=>?_)
 ·refine run ?_;exact J.fin (congrArg _ ((S.cmpN_2 c c2)))
 refine run ?_;exact J.fin (congrArg _ ((S.cmpN_3 c c2)))
theorem cmpOr{S0:Nat→Prop}(a:Option Addr)(x y:Int)(w:World)(D0:GRow inC 1 S0 w a 2 [x,y]):Calls prog 283 #[.slice a 2 2] w (Ret w fun v _=>v= .int .i64 (S.orN x y)):=by
 refine J.enter 17 func283 rfl rfl ?_;refine run ?_;refine J.loopS (A:=Int) (fun p=>[(8, .int .i64 p)]) [2,5,9,10,11,12,13,14,15,16] (fun p=>(0≤p∧p≤2)∧∀k,k<p.toNat→[x,y].getD k 0=0) (fun p=>2 - p.toNat) 0 (by kernel_rfl) ⟨by omega,fun k hk=>by omega⟩ (fun p j hI=>?_);obtain⟨h1,hI⟩:=hI;refine run ?_;refine J.ifd rfl (fun c=>?_) (fun c=>?_)
 ·obtain⟨q,hq⟩:=ex ([x,y].getD p.toNat 0);have hq0:=S.get2 (x:=x) (y:=y) (p:=p) (by omega);rw[←hq]at hq0;refine run ?_;refine J.ifn rfl (fun c2=>?_) (fun c2=>?_)
  ·refine run ?_;exact J.fin (congrArg _ (by rw[hq];rw[hq]at c2;exact S.or_hit (by omega) hI c2))
  refine run ?_;refine J.nextS (p+1) ⟨rfl,trivial⟩ (by kernel_rfl) ⟨by omega,fun k hk=>?_⟩ (by omega);rcases Nat.lt_or_ge k p.toNat with h|h
  ·exact hI k h
  obtain rfl:k=p.toNat:=by omega
  rw[←hq];exact c2
 refine run ?_;exact J.fin (congrArg _ (S.or_miss fun k hk=>hI k (by omega)))
theorem regKey(x:S.RgV)(w:World):Calls prog 142 #[.agg (rgC x).toArray] w (Ret w fun v _=>v= .string x.key):=by
 refine J.enter 4 func142 rfl rfl ?_;refine run ?_;refine J.box rfl rfl rfl fun b1=>?_
 refine run ?_;exact J.fin rfl
theorem findCmp(x:S.RgV)(k:ByteArray)(b:Nat)(T:TypeId)(w:World)(hB:Blk w b [.func (.func 142) #[] #[]] T):
  Calls prog 224 #[.agg (rgC x).toArray, .string k, .pointer (some ⟨b,0,none⟩)] w (Ret w fun v _=>v= .int .i64 (S.kc x.key k)):=by
 refine J.enter 8 func224 rfl rfl ?_;refine run ?_;refine J.box rfl rfl rfl fun b1=>?_
 refine run ?_;refine J.ldO hB (fun h=>h) rfl ?_;refine run ?_;refine J.callvp rfl rfl rfl (fun w' M=>regKey x w') ?_;refine run ?_;refine J.callp rfl rfl (fun w' M=>cmpStr _ _ w') ?_;refine run ?_;exact J.fin rfl
theorem bsReg{S0:Nat→Prop}(a:Option Addr)(n c:Nat)(l:List S.RgV)(k:ByteArray)(b:Nat)(T:TypeId)(w:World)(D0:GRow rgC 38 S0 w a n l)(hs:S.SortK l)(hn:n≤100)(hB:Blk w b [.func (.func 142) #[] #[]] T):
  Calls prog 223 #[.slice a n c, .string k, .func (.func 224) #[] #[.pointer (some ⟨b,0,none⟩)]] w (Ret w fun v _=>v= .tuple #[.int .i64 (S.spK l k:Nat), .bool (decide (S.hasK l k))]):=by
 have hl:=D0.len;have hm:=S.mono_key hs k;rw[hl]at hm;refine J.enter 46 func223 rfl rfl ?_;refine run ?_;refine J.loopS (A:=Int×Int) (fun p=>[(9, .int .i64 p.1),(10, .int .i64 p.2)]) [11,15,16,17,18,19,20,21,22,23,24,25,26,27,28,29,30,31,32,33,34] (fun p=>S.HalfC n (S.cK l k) p.1 p.2) (fun p=>(p.2 - p.1).toNat) (0,n) (by kernel_rfl) (S.HalfC.first _ _) (fun p j hI=>?_);have hh:=hI.r;refine run ?_;refine J.ifd rfl (fun c1=>?_) (fun c1=>?_)
 ·have hq:=S.rg_at (l:=l) (i:=((p.1+p.2) / 2).toNat) (by omega);refine run ?_;refine J.callvp rfl rfl rfl (fun w' M=>findCmp _ _ _ _ w' (hB.ext M.ext)) ?_;refine run ?_;refine J.ifd rfl (fun c2=>?_) (fun c2=>?_)
  ·refine run ?_;exact J.nextS ((p.1+p.2) / 2+1,p.2) ⟨rfl,rfl,trivial⟩ (by kernel_rfl) (hI.up hm (by omega) (by omega) c2) (by dsimp only;omega)
  refine run ?_;exact J.nextS (p.1,(p.1+p.2) / 2) ⟨rfl,rfl,trivial⟩ (by kernel_rfl) (hI.down hm (by omega) (by omega) c2) (by dsimp only;omega)
 have he:p.1=(S.spK l k:Nat):=by unfold S.spK;rw[hl];exact hI.spot c1
 have hsp:=S.has_spK hs (k:=k);rw[hl]at hsp;refine run ?_;refine J.spd rfl rfl rfl (fun c2=>?_) (fun c2=>?_)
 ·have hq:=S.rg_at (l:=l) (i:=p.1.toNat) (by omega);refine run ?_;refine J.callvp rfl rfl rfl (fun w' M=>findCmp _ _ _ _ w' (hB.ext M.ext)) ?_;refine run ?_;refine J.fin ?_;rw[he,Int.toNat_natCast];exact tup2 rfl (congrArg _ (beq_dec ⟨fun h=>hsp.2 ⟨by omega,S.kc_eq.1 h⟩,fun h=>S.kc_eq.2 (hsp.1 h).2⟩))
 refine run ?_;refine J.fin ?_;rw[he];exact tup2 rfl (congrArg _ (decide_eq_false fun h=>by have:=(hsp.1 h).1;omega).symm)
theorem findReg{S0:Nat→Prop}(a:Option Addr)(n c:Nat)(l:List S.RgV)(k:ByteArray)(w:World)(D0:GRow rgC 38 S0 w a n l)(hs:S.SortK l)(hn:n≤100):
  Calls prog 141 #[.slice a n c, .func (.func 142) #[] #[], .string k] w (Ret w fun v _=>v= .tuple #[.int .i64 (S.spK l k:Nat), .bool (decide (S.hasK l k))]):=by
 refine J.enter 11 func141 rfl rfl ?_;refine run ?_;refine J.box rfl rfl rfl fun b1=>?_
 refine run ?_;refine J.fn rfl rfl rfl ?_;refine J.callp rfl rfl (fun w' M=>bsReg _ _ _ _ _ _ _ w' (D0.ext M.ext) hs hn (M.blk .here)) ?_;refine run ?_;exact J.fin rfl
theorem later(x y:S.RgV)(hx:x.ok)(hy:y.ok)(w:World):Calls prog 222 #[.agg (rgC x).toArray, .agg (rgC y).toArray] w (Ret w fun v _=>v= .bool (decide (S.lateR x.st x.id y))):=by
 refine J.enter 16 func222 rfl rfl ?_;refine run ?_;refine J.box rfl rfl rfl fun b1=>?_
 refine J.box rfl rfl rfl fun b2=>?_
 refine run ?_;refine J.regionX [(0, .q),(1, .q),(2, .q),(3, .q),(5, .q),(6, .q),(7, .q),(8, .q),(4, .e),(9, .e),(10, .e),(11, .e),(12, .q),(13, .q)] mixed (by kernel_rfl) ?_;refine run ?_;refine J.callp rfl rfl (fun w' M=>cmpU _ _ w') ?_;refine run ?_;refine J.callp rfl rfl (fun w' M=>(RI.part (b:=b1) (rgC_id x) x.h32 hx.id w' M).elim fun _ k1=>(RI.part (b:=b2) (rgC_id y) y.h32 hy.id w' M).elim fun _ k2=>bcompare _ _ _ _ _ _ _ _ w' k1 k2) ?_;refine J.b2V inC (fun _=>rfl) rfl rfl rfl rfl rfl rfl rfl fun b3=>?_
 refine J.callp rfl rfl (fun w' M=>(RG.own' (a:=some ⟨b3,0,none⟩) w' M).elim fun _ k1=>cmpOr _ _ _ w' k1) ?_;refine run ?_;exact J.fin (congrArg _ (decide_eq_decide.2 S.late_or))
theorem cloneG{S0:Nat→Prop}(a:Option Addr)(n c:Nat)(l:List S.RgV)(w:World)(D0:GRow rgC 38 S0 w a n l)(hn:n≤1000):
  Calls prog 140 #[.slice a n c] w (Gv w (fun q:Option Addr×Nat=> .slice q.1 n q.2) (fun q=>[.gown rgC 38 118 q.1 n q.2 l]) fun _=>True):=by
 refine J.enter 7 func140 rfl rfl ?_;refine run ?_;refine J.ifb rfl (fun c1=>?_) (fun c1=>?_)
 ·obtain⟨rfl,rfl⟩:=D0.none (by decide) c1;refine run ?_;refine J.nilG rgC 38 118 rgC_len ?_;exact J.finG (none,0) rfl trivial (.cons_cons _ (List.nil_sublist _))
 refine run ?_;refine J.b0G rgC rgC_len rfl fun b=>?_
 refine run ?_;refine J.apG rfl rfl (RG.arg D0) rgC_one fun a' c'=>?_
 refine run ?_;refine J.re (.gown rgC 38 118 a' (0+n) c' ([]++l)) (.gown rgC 38 118 a' n c' l) (fun S w h=>by rw[Nat.zero_add]at h;exact h) ?_;exact J.finG (a',c') (by rw[Nat.zero_add]) trivial (.cons_cons _ (List.nil_sublist _))
theorem insReg(a:Option Addr)(n c:Nat)(l:List S.RgV)(i:Nat)(x:S.RgV)(b2:Nat)(w:World)(hO:GOwn rgC 38 0 w 118 a n c l)(hi:i≤n)(hn:n≤1000)(hB:Blk w b2 (rgC x) 118)(hne:¬obk a=some b2):
  Calls prog 221 #[.slice a n c, .int .i64 i, .slice (some ⟨b2,0,none⟩) 1 1] w (Gw w rgC 38 118 a (l.take i++x::l.drop i)):=by
 have hlen:=hO.len;have hcn:=hO.capn;have hcm:=hO.own.cap.2;refine J.enterG 92 hO func221 rfl rfl ?_;refine run ?_;refine J.ife rfl (fun h=>?_) (fun h=>?_)
 ·obtain rfl:i=n:=by omega
  refine run ?_;refine J.apG rfl rfl (RG.blkO hB hne rgC_len) rgC_one fun a' c'=>?_
  refine run ?_;have e:l.take i++x::l.drop i=l++[x]:=by rw[List.take_of_length_le (by omega),List.drop_of_length_le (by omega)]
  rw[e];exact J.finW rfl
 have hin:i<n:=by omega
 obtain⟨g,rfl⟩:=hO.some (by omega);have hlt:(l.take i++x::l.drop i).length=n+1:=by simp;omega
 refine run ?_;refine J.ifd rfl (fun h2=>?_) (fun h2=>?_)
 ·refine run ?_;refine J.apZ (p:=i) (k0:=n+1 - i) rgC n l rfl (by(conv=>lhs;whnf)<;>exact sl3 (by omega) (by omega) rfl) (by(conv=>lhs;whnf)<;>exact congrArg _ (by omega)) fun b' c' cs' hcs=>?_
  obtain⟨k1,k2,k3,k4⟩:=hcs;refine run ?_;refine J.copyR (b:=b') (o:=i*38) (n:=n+1 - i) (k:=1) (by(conv=>lhs;whnf)<;>exact sl3 (by omega) (by omega) rfl) rfl (RG.cells (RG.blkO hB hne rgC_len)) (by rw[List.flatMap_cons,List.flatMap_nil,List.append_nil,rgC_len]) (fun u hu=>rgC_cell x u (by simpa using List.mem_of_mem_take hu)) rfl ?_;refine run ?_;refine J.regionX [(0, .q),(1, .q),(2, .q),(3, .q),(4, .q),(5, .q),(6, .q),(7, .q),(8, .g)] mixed (by kernel_rfl) ?_;refine run ?_;refine J.copyR (b:=b') (o:=(i+1)*38) (n:=n - i) (n2:=n - i) (k:=n - i) (a:=some ⟨g,i*38,none⟩) (by(conv=>lhs;whnf)<;>exact sl3 (by omega) (by omega) rfl) (by(conv=>lhs;whnf)<;>exact sl3 (by omega) (by omega) rfl) (RG.cells (RG.tail RG.own' hin)) (by rw[flat_len rgC 38 rgC_len,List.length_drop,hlen,Nat.mul_comm]) (fun u hu=>by obtain⟨y,_,hy⟩:=List.mem_flatMap.1 (List.mem_of_mem_take hu);exact rgC_cell y u hy) rfl ?_ (ho:=by simp only[splice_length];omega);refine run ?_;have hz:=(ins_flat (f:=rgC) (sz:=38) (z:=x) rgC_len hlen hin (by omega) k2).2
  refine J.ruc rgC 38 118 b' (n + 1) c' (l.take i ++ x :: l.drop i) rgC_len (by simp only [splice_length]; exact k1) (by
   rw [← hz]
   congr 2
   ·congr 1
    rw [List.take_of_length_le (by rw [List.flatMap_cons, List.flatMap_nil, List.append_nil, rgC_len]; decide)]
    simp
   rw [List.take_of_length_le (by rw [flat_len rgC 38 rgC_len, List.length_drop, hlen]; omega)]) (by omega) k4 hlt ?_
  exact J.finW (a':=some ⟨b',0,none⟩) (n':=n+1) (c':=c') (by(conv=>lhs;whnf)<;>exact sl3 (by omega) (by omega) rfl)
 refine run ?_;refine J.cur rgC 38 118 g n c l fun cur hcur=>?_
 obtain⟨k1,k2,k3,k4,k5⟩:=hcur;have hcl:(n+1)*38≤cur.length:=by omega
 refine J.extv (E := Extern.SlicesOverlaps.overlaps #[119, 119] #[4]) (v := .bool false) func281 (by kernel_rfl) (by kernel_rfl) (by kernel_rfl) (by kernel_rfl) rfl (fun w' M => by
  have B1 := hB.pr M.pr hne
  have B2 : Blk w' g cur 118 := M.blk .here
  exact Lib.run_overlaps_apart w' _ _ 118 Und.h 38 (fun w => size_run Siz.h (by decide)) ⟨b2, 0, none⟩ ⟨g, _, none⟩ 1 1 _ _ (fun e => hne (show some g = some b2 from congrArg some (show g = b2 from e.symm))) _ _ _ _ (blk_shape B1) (blk_shape B2) (by omega) (blk_free B1) (blk_free B1)) ?_
 refine run ?_;refine J.regionX [(0, .q),(1, .q),(2, .q),(3, .q),(4, .q),(5, .q),(6, .q),(7, .q),(8, .g)] mixed (by kernel_rfl) ?_;refine run ?_;refine J.copyR (b:=g) (o:=(i+1)*38) (n:=n - i) (k:=n - i) (n2:=n+1 - i) (ds:=(cur.drop (i*38)).take ((n+1 - i)*38)) (by(conv=>lhs;whnf)<;>exact sl3 (by omega) (by omega) rfl) (by(conv=>lhs;whnf)<;>exact sl3 (by omega) (by omega) rfl) (fun w' M=>⟨_,M.part (o:=i*38) (b:=g) (by rw[List.length_take,List.length_drop,Nat.min_eq_left (by omega)])⟩) (by rw[List.length_take,List.length_drop];omega) (fun u hu=>?_) rfl ?_
 ·rw[List.take_take,Nat.min_eq_left (by omega)]at hu;have h5:=flat_drop rgC 38 rgC_len l i;rw[←k2,List.drop_take,show n*38 - i*38=(n - i)*38 by omega]at h5;rw[h5]at hu;obtain⟨y,_,hy⟩:=List.mem_flatMap.1 hu;exact rgC_cell y u hy
 refine run ?_;refine J.copyR (b:=g) (o:=i*38) (n:=n+1 - i) (k:=1) (by(conv=>lhs;whnf)<;>exact sl3 (by omega) (by omega) rfl) rfl (RG.cells (RG.blkO hB hne rgC_len)) (by rw[List.flatMap_cons,List.flatMap_nil,List.append_nil,rgC_len]) (fun u hu=>rgC_cell x u (by simpa using List.mem_of_mem_take hu)) rfl ?_ (ho:=by simp only[splice_length];omega);refine run ?_;have hz:=(ins_flat (f:=rgC) (sz:=38) (z:=x) (cs:=cur) rgC_len hlen hin hcl (by rw[←flat_take rgC 38 rgC_len,←k2,List.take_take,Nat.min_eq_left (by omega)])).1
 refine J.ruc rgC 38 118 g (n + 1) c (l.take i ++ x :: l.drop i) rgC_len (by simp only [splice_length]; exact k1) (by
  rw [← hz]
  congr 2
  ·congr 1
   rw [List.take_take, Nat.min_eq_left (by omega), ← flat_drop rgC 38 rgC_len, ← k2, List.drop_take, show n * 38 - i * 38 = (n - i) * 38 by omega]
  rw [List.take_of_length_le (by rw [List.flatMap_cons, List.flatMap_nil, List.append_nil, rgC_len]; decide)]
  simp) (by omega) k4 hlt ?_
 exact J.finW (by(conv=>lhs;whnf)<;>exact sl3 (by omega) (by omega) rfl)
end W
end Go.Proofs.YtkibkhgcbepolaaGreatDoor
