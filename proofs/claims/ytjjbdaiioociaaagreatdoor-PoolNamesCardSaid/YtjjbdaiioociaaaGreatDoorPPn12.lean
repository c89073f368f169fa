/-
  Part 12 of the lemmas of these laws: PoolNames.
-/
import Derived.Test.YtjjbdaiioociaaaGreatDoorPPn11
set_option linter.unusedVariables false
set_option linter.unusedSimpArgs false
open Go.Proofs.Tryz
namespace Go.Proofs.YtjjbdaiioociaaaGreatDoor
namespace G
open Go.RowKit
section
end
/-! parts of rows -/
theorem flat_take{α:Type}(f:α→List Value)(sz:Nat)(hf:∀x,(f x).length=sz):∀(l:List α) (n:Nat),(l.flatMap f).take (n*sz)=(l.take n).flatMap f
 |[],n=>by simp
 |x::l,0=>by simp
 |x::l,n+1=>by
  rw[List.flatMap_cons,List.take_succ_cons,List.flatMap_cons,List.take_append,hf,List.take_of_length_le (by rw[hf,Nat.add_mul];omega),show(n+1)*sz - sz=n*sz by rw[Nat.add_mul];omega,flat_take f sz hf l n]
theorem flat_drop{α:Type}(f:α→List Value)(sz:Nat)(hf:∀x,(f x).length=sz):∀(l:List α) (n:Nat),(l.flatMap f).drop (n*sz)=(l.drop n).flatMap f
 |[],n=>by simp
 |x::l,0=>by simp
 |x::l,n+1=>by
  rw[List.flatMap_cons,List.drop_succ_cons,List.drop_append,hf,List.drop_of_length_le (by rw[hf,Nat.add_mul];omega),List.nil_append,show(n+1)*sz - sz=n*sz by rw[Nat.add_mul];omega,flat_drop f sz hf l n]
theorem GRow.sub{α:Type}{f:α→List Value}{sz n:Nat}{S:Nat→Prop}{w:World}{a:Option Addr}{lst:List α}(h:GRow f sz S w a n lst)(lo hi m:Nat)(hh:hi≤n)(hl:lo≤hi)(hm:hi≤m):GRow f sz S w (subA a lo sz m) (hi - lo) ((lst.drop lo).take (hi - lo)):=by
 have hln:=h.len;refine⟨?_,by rw[List.length_take,List.length_drop];omega,h.szf⟩;have:=h.row.sub lo hi sz m (by rw[flat_len f sz h.szf,hln,Nat.mul_comm];exact Nat.mul_le_mul_left _ hh) hl hm;rwa[flat_drop f sz h.szf,flat_take f sz h.szf]at this
section
variable{P:Program}{ops:Array Oper}{K:List Value→World→Prop}{rest:List Oper}{l:List Value}{w:World}{d:Tmp}{ty:TypeId}{pos:String}{af:Array Edge}
theorem RS.copyC{x y:Operand}{t t2 e T:TypeId}{b o n cp m c2 sz k:Nat}{a:Option Addr}{S:Nat→Prop}{cs ds:List Value}(hB:Blk w b cs T)(hR:Row S w a ds)(hd:ds.length=m*sz)(hk:min m n=k)(hm:0<k)(hsz:0<sz)(hv:∀u∈ds.take (k*sz),cellB u=true)
  (hx:ev l x= .slice (some ⟨b,o,none⟩) n cp)(hy:ev l y= .slice a m c2)(hu:P.underlying t=some (.slice e))(hs:P.cellsOf e=sz)(ho:o+k*sz≤cs.length)
  (h:∀w',St b w w'→Blk w' b (splice cs o (ds.take (k*sz))) T→RS P ops K rest (l.set d (.int .i64 k)) w'):
  RS P ops K (⟨some d, .call {callee:= .builtin .copy,args:= #[x,y],argTypes:= #[t,t2]},ty,pos,af,none⟩::rest) l w:=by
 have hrs:=size_run (P:=P) (w:=w) hs (by omega);have hp:0<k*sz:=Nat.mul_pos hm hsz;have hkm:k*sz≤m*sz:=Nat.mul_le_mul_right _ (by omega);rcases hR with he|⟨b2,o2,rfl,_,hc⟩
 ·rw[he]at hd;simp at hd;omega
 ·have hc2:Cells w b2 o2 (ds.take (k*sz)):=by
   intro j hj;rw[List.length_take]at hj;rw[hc j (by omega)];simp only[List.getD_eq_getElem?_getD,List.getElem?_take];rw[if_pos (by omega)]
  have h1:(loadCells ⟨b2,o2,none⟩ (k*sz)).run P w= .ok (ds.take (k*sz)).toArray w:=by
   have:=loadFrom_run (P:=P) _ hc2 (k*sz) 0 #[] (by rw[List.length_take];omega);simpa [loadCells]using this
  obtain⟨w1,h2,h3,h4⟩:=storeCells_blk (P:=P) (o:=o) (ds.take (k*sz)) 0 _ w hB (by rw[List.length_take];omega) hv;have hrun:(execOp (ev l) ⟨some d, .call {callee:= .builtin .copy,args:= #[x,y],argTypes:= #[t,t2]},ty,pos,af,none⟩).run P w= .ok (.value (.int .i64 k)) w1:=by
   have hmin:Nat.min m n=k:=hk;have hmin3:min n m=k:=by rw[Nat.min_comm];exact hk
   simp[execOp,resolve,hx,hy,invoke,builtin,Builtin.copy_,run_underlying hu,Builtin.lenOf,hrs,Builtin.firstCells,hk,hmin,hmin3,h1,h2,goInt]
  exact RS.o hrun (h w1 h3 (by rw[Nat.add_zero]at h4;exact h4)) rfl
end
section
variable{S0:Nat→Prop}{w0 w:World}{L L' E:List Ent}{P:Program}{l0:List Oper}{ops:Array Oper}{K:List Value→World→Prop}{rest:List (Oper×Kd)}{l l':List Value}{m:Md}{d:Tmp}{op:Op}{ty:TypeId}{pos:String}{af:Array Edge}{kd:Kd}{v:Value}{x y z:Operand}{t t2 ti xt yt e T T2:TypeId}{b b2 o n c n2 c2 sz by_:Nat}{cs cs' vs ws zs:List Value}{X:World→Prop}
 {k ki kn:IntKind}{a a2:Option Addr}{xs ys:List Int}{i:Int}{α:Type}{f:α→List Value}{lst lst2:List α}{q:α}{s u:ByteArray}
theorem J.eqR{sz:Nat}{p:Prop}[Decidable p][U:Agg P xt sz](hk:pureK kd=true)(hx:ev l x= .agg vs.toArray)(hy:ev l y= .agg ws.toArray)(fx:FitsT P 9 xt vs=true)(fy:FitsT P 9 xt ws=true)(he:eqC vs ws=decide p)(kk:J S0 w0 L (RY S0 w0 m P ops K rest l'))(hg:P.eqGuardType P.depth xt=false:=by kernel_rfl)(hl:l.set d (.bool (decide p))=l':=by dsimp only[List.set]):J S0 w0 L (RY S0 w0 m P ops K ((⟨some d, .binOp .eql xt x y yt,ty,pos,af,none⟩,kd)::rest) l):=
 let ⟨_,u1,u2,_⟩:=U.h
 J.pur hk (fun _=>by rw[←he];exact D.eqA hx hy u1 u2 hg fx fy) kk hl
theorem J.rex{ι:Type}{p:ι→Prop}{F:Ent→List Ent}(e1:Ent)(e2:ι→Ent)[R:RE L e1 F](h:∀S w,e1.ok S w→∃i,p i∧∀S',e1.ok S' w→(e2 i).ok S' w)(kk:∀i,p i→J S0 w0 (F (e2 i)) X):J S0 w0 L X:=fun w M=>by
 obtain⟨S,_,h2⟩:=M.get (R.h e1).same;obtain⟨i,hp,hi⟩:=h S w h2;obtain⟨S',h1,h2,h3⟩:=M.foc (R.h (e2 i));exact kk i hp w (h3 w S' (Pr.refl _ _) (hi S' h2) fun _ hb=> .inl hb)
theorem J.cur{F:Ent→List Ent}(f:α→List Value)(sz:Nat)(e:TypeId)(b n c:Nat)(lst:List α)[R:RE L (.gown f sz e (some ⟨b,0,none⟩) n c lst) F](kk:∀cur:List Value,(cur.length=c*sz∧cur.take (n*sz)=lst.flatMap f∧n≤c∧c≤maxLen∧lst.length=n)→J S0 w0 (F (.blk b cur e)) X):J S0 w0 L X:=
 J.rex (.gown f sz e (some ⟨b, 0, none⟩) n c lst) (fun cur => .blk b cur e) (fun S w h => by
  obtain ⟨cur, B, h1, h2, h3, h4, h5⟩ := h.1.blk
  exact ⟨cur, ⟨h3, h4, h1, h2, h.1.len⟩, fun S' h' => ⟨h'.2 b rfl, B⟩⟩) kk
class RBE(L:List Ent)(b:Nat)(cs:outParam (List Value))(T:outParam TypeId)(F:outParam (Ent→List Ent)):Prop where h:∀e',Rpl L (.blk b cs T) e' (F e')
instance RBE.here{b:Nat}{cs:List Value}{T:TypeId}{L:List Ent}:RBE (.blk b cs T::L) b cs T (fun e'=>e'::L):=⟨fun _=> .here⟩
theorem J.ruc{cur:List Value}{F:Ent→List Ent}(f:α→List Value)(sz:Nat)(e:TypeId)(b n c:Nat)(lst:List α)[R:RBE L b cur e F](hf:∀x,(f x).length=sz)(h1:cur.length=c*sz)(h2:cur.take (n*sz)=lst.flatMap f)(h3:n≤c)(h4:c≤maxLen)(h5:lst.length=n)(kk:J S0 w0 (F (.gown f sz e (some ⟨b,0,none⟩) n c lst)) X):J S0 w0 L X:=fun w M=>by
 obtain⟨S,h1',h2',h3'⟩:=M.foc (R.h (.gown f sz e (some ⟨b,0,none⟩) n c lst));exact kk w (h3' w S (Pr.refl _ _) ⟨GOwn.of_cur h2'.2 hf h3 h4 h1 h2 h5 (Nat.zero_le _),fun q hq=>by simp[obk]at hq;subst hq;exact h2'.1⟩ fun _ hb=> .inl hb)
theorem RG.sub(h:RG S0 w0 L f sz a n lst)(lo hi m:Nat)(hh:hi≤n)(hl:lo≤hi)(hm:hi≤m):RG S0 w0 L f sz (subA a lo sz m) (hi - lo) ((lst.drop lo).take (hi - lo)):=fun w M=>let ⟨S,k⟩:=h w M;⟨S,k.sub lo hi m hh hl hm⟩
theorem Mem.part{F:List Value→List Ent}[R:RB L b cs T F]{ds:List Value}(M:Mem S0 w0 L w)(h:(cs.drop o).take ds.length=ds):Row (fun _=>True) w (some ⟨b,o,none⟩) ds:=
 .inr ⟨b,o,rfl,trivial,(M.blk (R.h cs).same).cells h⟩
theorem J.copyR{cp k:Nat}{ds:List Value}{F:List Value→List Ent}[U:Und P t (.slice e)][Z:Siz P e sz](hx:ev l x= .slice (some ⟨b,o,none⟩) n cp)(hy:ev l y= .slice a n2 c2)[R:RB L b cs T F](hR:∀w,Mem S0 w0 L w→∃S,Row S w a ds)(hd:ds.length=n2*sz)(h1:∀u∈ds.take (k*sz),cellB u=true)(hc:splice cs o (ds.take (k*sz))=cs')
  (kk:J S0 w0 (F cs') (RY S0 w0 m P ops K rest l'))(hk0:min n2 n=k:=by omega)(hm:0<k:=by omega)(ho:o+k*sz≤cs.length:=by omega)(hsz:0<sz:=by decide)(hl:l.set d (.int .i64 k)=l':=by dsimp only[List.set])(hk:okG m kd (F cs'):=by first|exact trivial|(repeat(first|exact List.Sublist.refl _|refine List.Sublist.cons_cons _ ?_|refine List.Sublist.cons _ ?_))):
  J S0 w0 L (RY S0 w0 m P ops K ((⟨some d, .call {callee:= .builtin .copy,args:= #[x,y],argTypes:= #[t,t2]},ty,pos,af,none⟩,kd)::rest) l):=
 J.big hk fun w M K' hK=>by
  obtain⟨S,h⟩:=hR w M;refine RS.copyC (M.blk (R.h cs).same) h hd hk0 hm hsz h1 hx hy U.h Z.h ho fun w' x1 B=>RS.nil ?_;rw[hc]at B;rw[hl];exact hK _ w' (M.store (R.h _) x1 B) (kk w' (M.store (R.h _) x1 B))
theorem RG.cells(h:RG S0 w0 L f sz a n lst)(w:World)(M:Mem S0 w0 L w):∃S,Row S w a (lst.flatMap f):=let ⟨S,k⟩:=h w M;⟨S,k.row⟩
theorem RG.tail{p:Nat}(h:RG S0 w0 L f sz (some ⟨b,0,none⟩) n lst)(hp:p<n):RG S0 w0 L f sz (some ⟨b,p*sz,none⟩) (n - p) (lst.drop p):=fun w M=>by
 obtain⟨S,k⟩:=h w M;have:=k.sub p n n (Nat.le_refl _) (by omega) (Nat.le_refl _);rw[List.take_of_length_le (by rw[List.length_drop,k.len];exact Nat.le_refl _)]at this;unfold subA at this;rw[if_neg (by omega)]at this;simp only[Option.map_some,add_mk,Nat.zero_add]at this;exact⟨S,this⟩
/-! slices of slices that lie in a block -/
theorem J.slT{o' n' c':Nat}{lo:Operand}[U:Und P xt (.slice e)][Z:Siz P e sz](hk:pureK kd=true)(hx:ev l x= .slice (some ⟨b,o,none⟩) n c)(h1:ev l lo= .int .i64 i)(kk:J S0 w0 L (RY S0 w0 m P ops K rest l'))(hz:sz≠0:=by decide)(hb:0≤i∧i≤n:=by omega)(hn:n≤c:=by omega)(hc:i<c:=by omega)
  (ho:o+i.toNat*sz=o':=by rfl)(hn':n - i.toNat=n':=by rfl)(hc':c - i.toNat=c':=by rfl)(hl:l.set d (.slice (some ⟨b,o',none⟩) n' c')=l':=by dsimp only[List.set]):
  J S0 w0 L (RY S0 w0 m P ops K ((⟨some d, .slice xt x (some lo) none none,ty,pos,af,none⟩,kd)::rest) l):=J.sl hk hx h1 rfl kk hz (by omega) hn (by unfold subA;rw[if_neg (by omega)];simp only[Option.map_some,add_mk];rw[ho]) (by rw[←hn'];rfl) hc' hl
theorem J.slP{n':Nat}{hi:Operand}[U:Und P xt (.slice e)][Z:Siz P e sz](hk:pureK kd=true)(hx:ev l x= .slice (some ⟨b,o,none⟩) n c)(h1:ev l hi= .int .i64 i)(kk:J S0 w0 L (RY S0 w0 m P ops K rest l'))(hz:sz≠0:=by decide)(hb:0≤i∧i≤c:=by omega)(hn:n≤c:=by omega)
  (hn':i.toNat=n':=by rfl)(hl:l.set d (.slice (some ⟨b,o,none⟩) n' c)=l':=by dsimp only[List.set]):
  J S0 w0 L (RY S0 w0 m P ops K ((⟨some d, .slice xt x none (some hi) none,ty,pos,af,none⟩,kd)::rest) l):=J.sl hk hx rfl h1 kk hz (by omega) hn (by unfold subA;split<;>simp[add_mk]) (by rw[←hn'];rfl) rfl hl
theorem sl3{o o' n n' c c':Nat}(h1:o=o')(h2:n=n')(h3:c=c'):Value.slice (some ⟨b,o,none⟩) n c= .slice (some ⟨b,o',none⟩) n' c':=by subst h1 h2 h3;rfl
theorem ins_cells{A C R B X:List Value}{p s:Nat}(hA:A.length=p)(hC:C.length=s)(hX:X.length=s)(hB:B.length≤R.length):
  splice (splice (A++C++R) (p+s) B) p X=A++X++B++R.drop B.length∧splice (splice (A++C++R) p X) (p+s) B=A++X++B++R.drop B.length:=by
 have h1:∀(A C R V:List Value),C.length=V.length→splice (A++C++R) A.length V=A++V++R:=fun A C R V h=>by
  rw[splice_eq _ _ _ (by simp[h]),List.append_assoc A C R,List.take_left,←List.append_assoc,←h,←List.length_append,List.drop_left]
 have h2:∀(A R V:List Value),V.length≤R.length→splice (A++R) A.length V=A++V++R.drop V.length:=fun A R V h=>by
  have:=h1 A (R.take V.length) (R.drop V.length) V (by rw[List.length_take];omega);rwa[List.append_assoc,List.take_append_drop]at this
 constructor
 ·have e1:=h2 (A++C) R B hB;rw[List.length_append,hA,hC]at e1;rw[e1,List.append_assoc,List.append_assoc A,←hA];have e2:=h1 A C (B++R.drop B.length) X (by omega);rw[List.append_assoc]at e2;rw[e2];simp
 ·have e1:=h1 A C R X (by omega);rw[hA]at e1;rw[e1];have e2:=h2 (A++X) R B hB;rw[List.length_append,hA,hX]at e2;exact e2
theorem ins_flat{cs:List Value}{p n:Nat}{z:α}(hf:∀x,(f x).length=sz)(hl:lst.length=n)(hp:p<n)(hn:(n+1)*sz≤cs.length)(hc:cs.take (p*sz)=(lst.take p).flatMap f):
  (splice (splice cs ((p+1)*sz) ((lst.drop p).flatMap f)) (p*sz) (f z)).take ((n+1)*sz)=(lst.take p++z::lst.drop p).flatMap f∧
  (splice (splice cs (p*sz) (f z)) ((p+1)*sz) ((lst.drop p).flatMap f)).take ((n+1)*sz)=(lst.take p++z::lst.drop p).flatMap f:=by
 have e1:(p+1)*sz=p*sz+sz:=by rw[Nat.add_mul];omega
 have e2:(n+1)*sz=p*sz+sz+(n - p)*sz:=by rw[←e1,←Nat.add_mul];congr 1;omega
 have hB:((lst.drop p).flatMap f).length=(n - p)*sz:=by rw[flat_len f sz hf,List.length_drop,hl,Nat.mul_comm]
 have hA:(cs.take (p*sz)).length=p*sz:=by rw[List.length_take];omega
 have hsp:cs=cs.take (p*sz)++(cs.drop (p*sz)).take sz++cs.drop (p*sz+sz):=by
  rw[List.append_assoc,←List.drop_drop,List.take_append_drop,List.take_append_drop]
 have h:=ins_cells (A:=cs.take (p*sz)) (C:=(cs.drop (p*sz)).take sz) (R:=cs.drop (p*sz+sz)) (B:=(lst.drop p).flatMap f) (X:=f z) hA (by rw[List.length_take,List.length_drop];omega) (hf z) (by rw[hB,List.length_drop];omega);rw[←hsp]at h;have ht:∀R:List Value,(cs.take (p*sz)++f z++(lst.drop p).flatMap f++R).take ((n+1)*sz)=(lst.take p++z::lst.drop p).flatMap f:=fun R=>by
  rw[List.take_append_of_le_length (by simp only[List.length_append,hA,hf,hB];omega),List.take_of_length_le (by simp only[List.length_append,hA,hf,hB];omega),hc,List.flatMap_append,List.flatMap_cons,List.append_assoc]
 rw[e1,h.1,h.2];exact⟨ht _,ht _⟩
theorem J.apZ{F:Ent→List Ent}{p k0:Nat}{l':Nat→Nat→List Value}(f:α→List Value)(n:Nat)(lst:List α)[U:Und P t (.slice e)][U2:Und P ti (.int kn)][I:Inf P e sz by_ zs](hk:okE m kd=true)(hx:ev l x= .slice (some ⟨b,0,none⟩) p c)(hy:ev l y= .int ki (k0:Nat))[R:RE L (.gown f sz e (some ⟨b,0,none⟩) n c lst) F]
  (kk:∀b' c' cs',(cs'.length=c'*sz∧cs'.take (p*sz)=(lst.take p).flatMap f∧p+k0≤c'∧c'≤maxLen)→J S0 w0 (.blk b' cs' e::L) (RY S0 w0 m P ops K rest (l' b' c')))(hz:zs.length=sz:=by rfl)(hk0:0<k0:=by omega)(hp:p≤n:=by omega)(hpc:p≤c:=by omega)(hg:c<p+k0:=by omega)(hby:by_≤1000:=by decide)(hb:p+k0≤100000000:=by omega)(hsz:0<sz:=by decide)
  (hl:∀b' c',l.set d (.slice (some ⟨b',0,none⟩) (p+k0) c')=l' b' c':=by intro b' c';dsimp only[List.set]):
  J S0 w0 L (RY S0 w0 m P ops K ((⟨some d, .call {callee:= .builtin .append,args:= #[x,y],argTypes:= #[t,ti]},ty,pos,af,none⟩,kd)::rest) l):=
 J.eff hk fun w M K' hK=>by
  obtain⟨i,zv,i1,i2,i3,i4,i5⟩:=I.h;obtain⟨S,_,q1⟩:=M.get (R.h (.gown f sz e (some ⟨b,0,none⟩) n c lst)).same;obtain⟨cur,B,g1,g2,g3,g4,g5⟩:=q1.1.blk;have hf:=q1.1.szf;have h8:(p+k0)*by_≤(p+k0)*1000:=Nat.mul_le_mul_left _ hby;have h9:k0*by_≤k0*1000:=Nat.mul_le_mul_left _ hby;have hpl:p*sz≤n*sz:=Nat.mul_le_mul_right _ hp;have hnl:n*sz≤c*sz:=Nat.mul_le_mul_right _ g1;have hcp:cur.take (p*sz)=(lst.take p).flatMap f:=by
   rw[←flat_take f sz hf,←g4,List.take_take,Nat.min_eq_left hpl]
  have hold:(Builtin.firstCells i.size p (.slice (some ⟨b,0,none⟩) p c)).run P w.drew= .ok (cur.take (p*sz)).toArray w.drew:=by
   rw[i2];refine run_firstCells_some w.drew sz p ⟨b,0,none⟩ p c _ (by rw[List.length_take];omega) fun j v hj=>?_
   rw[List.getElem?_take]at hj;split at hj
   ·rw[add_mk,Nat.zero_add];exact B.cell hj
   ·cases hj
  have hrun:=Lib.run_append_grow_zeros (P:=P) w t ti ty e i zv ki kn U.h U2.h i1 i4 (some ⟨b,0,none⟩) p c _ hold k0 hk0 (by omega) hg (by omega) (by rw[i3];omega) (by rw[i3];exact growslice_fits hg (by omega));have hge:=grownCap_ge w (p+k0) c e;have hcm:=grownCap_le_maxLen w (p+k0) c e (by simp only[maxLen];omega);have hgen:∀v w',(Builtin.append_ #[t,ti] ty #[.slice (some ⟨b,0,none⟩) p c, .int ki k0]).run P w= .ok v w'→(execOp (ev l) ⟨some d, .call {callee:= .builtin .append,args:= #[x,y],argTypes:= #[t,ti]},ty,pos,af,none⟩).run P w= .ok (.value v) w':=by
   intro v w' h;simp[execOp,resolve,hx,hy,invoke,builtin,h]
  have hrun2:=hgen _ _ hrun;have nf:=new_facts w.drew (cur.take (p*sz)++(Builtin.zeroCells zv.cells k0++Builtin.zeroCells zv.cells (grownCap w (p+k0) c e - (p+k0))).toList) e;have hx1:Ext w (w.drew.alloc (.cells (cur.take (p*sz)++(Builtin.zeroCells zv.cells k0++Builtin.zeroCells zv.cells (grownCap w (p+k0) c e - (p+k0))).toList).toArray e)):=((Below.refl _ _).drew).alloc (Nat.le_refl _) (.cells (cur.take (p*sz)++(Builtin.zeroCells zv.cells k0++Builtin.zeroCells zv.cells (grownCap w (p+k0) c e - (p+k0))).toList).toArray e);have he:((cur.take (p*sz)).toArray++Builtin.zeroCells zv.cells k0++Builtin.zeroCells zv.cells (grownCap w (p+k0) c e - (p+k0)))=(cur.take (p*sz)++(Builtin.zeroCells zv.cells k0++Builtin.zeroCells zv.cells (grownCap w (p+k0) c e - (p+k0))).toList).toArray:=by
   apply Array.ext';simp
  rw[he]at hrun2;have hzc:∀q,(Builtin.zeroCells zv.cells q).toList.length=q*sz:=fun q=>by
   unfold Builtin.zeroCells;rw[i5];simp[hz]
  refine RS.o hrun2 (RS.nil (hK _ _ hx1 ?_)) rfl;rw[hl];refine kk _ _ _ ⟨?_,?_,hge,hcm⟩ _ (M.new hx1 ⟨Nat.le_refl _,nf.2.1⟩)
  ·rw[List.length_append,List.length_take,g3,Nat.min_eq_left (by omega),Array.toList_append,List.length_append,hzc,hzc,←Nat.add_mul,←Nat.add_mul];congr 1;omega
  ·rw[List.take_append_of_le_length (by rw[List.length_take,g3];omega),List.take_take,Nat.min_self,hcp]
theorem J.fn{fn:Fn}{first captured:Array Operand}{fs us:List Value}(hk:pureK kd=true)(hf:first.toList.map (ev l)=fs)(hc:captured.toList.map (ev l)=us)(kk:J S0 w0 L (RY S0 w0 m P ops K rest l'))(hl:l.set d (.func fn fs.toArray us.toArray)=l':=by dsimp only[List.set]):J S0 w0 L (RY S0 w0 m P ops K ((⟨some d, .makeFunc fn first captured,ty,pos,af,none⟩,kd)::rest) l):=J.pur hk (fun _=>D.func hf hc) kk hl
theorem J.b1V(f:α→List Value)(q:α)(hf:∀x,(f x).length=1)[U:Und P t (.slice e)][I:Inf P e 1 by_ zs]{l':Nat→List Value}(hk:okE m kd=true)(hx:ev l x=v)(hq:f q=[v])(hv:v.cells= #[v])(kk:∀b,J S0 w0 (.gown f 1 e (some ⟨b,0,none⟩) 1 1 [q]::L) (RY S0 w0 m P ops K rest (l' b)))
  (hl:∀b,l.set d (.slice (some ⟨b,0,none⟩) 1 1)=l' b:=by intro b;dsimp only[List.set]):J S0 w0 L (RY S0 w0 m P ops K ((⟨some d, .buildSlice t 1 #[(0,x)],ty,pos,af,none⟩,kd)::rest) l):=
 J.eff hk fun w M K' hK => RS.buildSlice (xs := [x]) (vs := [v]) (cs := [v]) U.h I.h (by decide) rfl rfl rfl (by simp [hx]) rfl (by simp [hv]) (by intro u hu; simp only [List.mem_cons, List.not_mem_nil, or_false] at hu; subst hu; simp [hv]) rfl fun b w' e1 s1 x1 B => RS.nil (hK _ w' x1 (by
  rw [hl]
  exact kk b w' (M.new x1 (gown_blk (lst := [q]) ⟨by subst e1; exact Nat.le_refl _, B⟩ hf (by simp [hq]) rfl (by decide)))))
theorem J.ldGa{off s1:Nat}[U:Agg P xt s1](hx:ev l x=pt a (i.toNat*sz+off))(hR:RG S0 w0 (Lv m L) f sz a n lst)(kk:J S0 w0 L (RY S0 w0 m P ops K rest l')){q:α}(hq:lst[i.toNat]? =some q:=by assumption)(hf:((f q).drop off).take s1=vs:=by dsimp only[List.drop,List.take])(hn:vs.length=s1:=by rfl)(ho:Nat.ble (off+s1) sz=true:=by rfl)(hs1:s1≠0:=by decide)(hi:0≤i∧i<n:=by omega)(hl:l.set d (.agg vs.toArray)=l':=by dsimp only[List.set]):
  J S0 w0 L (RY S0 w0 m P ops K ((⟨some d, .load xt x,ty,pos,af,none⟩, .q)::rest) l):=
 J.val (fun w M => by
  obtain ⟨S, h⟩ := hR w M
  have ho := Nat.le_of_ble_eq_true ho
  obtain ⟨b, o', ha, _, hc⟩ := h.get (by omega) hq hi
  obtain ⟨_, u1, u2, u3⟩ := U.h
  refine D.loadAgg (by rw [hx, pt_some ha]) u1 u2 u3 hs1 hn ?_
  intro j hj
  have h1 := hc (off + j) (by rw [h.szf]; omega)
  rw [show o' + i.toNat * sz + (off + j) = o' + (i.toNat * sz + off) + j by omega] at h1
  rw [h1, ← hf]
  simp only [List.getD_eq_getElem?_getD, List.getElem?_take, List.getElem?_drop]
  rw [if_pos (by omega)]) kk hl
theorem J.extv{fi:FuncId}{fn:Func}{args:Array Operand}{av:List Value}{ts:Array TypeId}{E:Array Value→Sem Value}(hf:P.funcs[fi]? =some fn)(hn:(fn.name== "runtime.NumGoroutine")=false)(hb:fn.body.isNone=true)(hnx:Extern.findNext fn=none)(he:Extern.find fn=some E)
  (ha:args.toList.map (ev l)=av)(hr:∀w,Mem S0 w0 (Lv m L) w→(E av.toArray).run P w= .ok v w)(kk:J S0 w0 L (RY S0 w0 m P ops K rest l'))(hl:l.set d v=l':=by dsimp only[List.set]):
  J S0 w0 L (RY S0 w0 m P ops K ((⟨some d, .call {callee:= .value (.func fi),args:=args,argTypes:=ts},ty,pos,af,none⟩, .q)::rest) l):=
 J.val (fun w M=>D.ext hf hn hb hnx he ha (hr w M)) kk hl
theorem J.ldO[U:Sca P xt](hB:Blk w0 b cs T)(hn:¬S0 b)(hx:ev l x= .pointer (some ⟨b,o,none⟩))(k:J S0 w0 L (RY S0 w0 .s P ops K rest l'))(hv:cs[o]? =some v:=by rfl)(hl:l.set d v=l':=by dsimp only[List.set]):
  J S0 w0 L (RY S0 w0 .s P ops K ((⟨some d, .load xt x,ty,pos,af,none⟩, .q)::rest) l):=
 let ⟨_,u1,u2⟩:=U.h
 J.val (fun w M=>D.load hx u1 u2 ((hB.pr M.pr hn).cell hv)) k hl
theorem RG.blkO(hB:Blk w0 b (f q) T)(hn:¬S0 b)(hf:∀x,(f x).length=sz):RG S0 w0 L f sz (some ⟨b,0,none⟩) 1 [q]:=fun w M=>
 ⟨fun _=>True,GRow.of_blk (hB.pr M.pr hn) trivial (by simp) rfl hf⟩
theorem Mem.two{F1 F2:Ent→List Ent}(M:Mem S0 w0 L w)(e1 e2:Ent)[R:RE L e1 F1][R2:RE (F1 .emp) e2 F2]:∃S1 S2:Nat→Prop,(∀b,S1 b→S2 b→False)∧e1.ok S1 w∧e2.ok S2 w:=by
 obtain⟨S,T,h1,h2,h3,h4,h5⟩:=(R.h .emp).foc M.sep;have hs:Sep (F1 .emp) T w:=h5 (U':=T) (S':=no) (fun b hb=>hb.elim) (fun b hb=>hb) (fun b hb=>hb.elim) (fun _ _ _=>rfl) trivial;obtain⟨S2,T2,g1,g2,g3,g4,g5⟩:=(R2.h e2).foc hs;exact⟨S,S2,fun b hb hc=>h3 b hb (g1 b hc),h4,g4⟩
end
/-! records that are built, part by part -/
inductive EvP(l:List Value):List (Nat×Operand)→List (Nat×Value)→List (Nat×List Value)→Prop
 |nil:EvP l [] [] []
 |cons {i:Nat} {x:Operand} {v:Value} {vs:List Value} {r:List (Nat×Operand)} {ps:List (Nat×Value)} {qs:List (Nat×List Value)} (h:ev l x=v) (hc:v.cells=vs.toArray) (t:EvP l r ps qs):EvP l ((i,x)::r) ((i,v)::ps) ((i,vs)::qs)
def ofS:List (Nat×Nat)→Nat→Nat
 |[],_=>0
 |x::_,0=>x.1
 |_::r,n+1=>ofS r n
theorem ofS_eq:∀(pl:List (Nat×Nat)) (i:Nat),ofS pl i=(pl.getD i (0,0)).1
 |[],_=>by simp[ofS]
 |_::_,0=>rfl
 |_::r,n+1=>by rw[ofS,ofS_eq r n];simp[List.getD_eq_getElem?_getD]
def fillS(pl:List (Nat×Nat))(cs:List Value):List (Nat×List Value)→List Value
 |[]=>cs
 |(i,vs)::r=>fillS pl (splice cs (ofS pl i) vs) r
def fillO(pl:List (Nat×Nat))(n:Nat):List (Nat×List Value)→Bool
 |[]=>true
 |(i,vs)::r=>(Nat.blt i pl.length&&(Nat.beq vs.length (pl.getD i (0,0)).2&&Nat.ble ((pl.getD i (0,0)).1+vs.length) n))&&fillO pl n r
theorem EvP.fill{l:List Value}{pl:List (Nat×Nat)}{r:List (Nat×Operand)}{ps:List (Nat×Value)}{qs:List (Nat×List Value)}(h:EvP l r ps qs):r.map (fun p=>(p.1,ev l p.2))=ps∧∀cs:List Value,fillO pl cs.length qs=true→fillL pl cs ps=some (fillS pl cs qs):=by
 induction h with
 |nil=>exact⟨rfl,fun cs _=>rfl⟩
 | @cons i x v vs r ps qs h hc _ ih=>
  refine⟨by rw[List.map_cons,ih.1,h],fun cs ho=>?_⟩;unfold fillO at ho;rw[Bool.and_eq_true,Bool.and_eq_true,Bool.and_eq_true]at ho;obtain⟨⟨h1,h2,h3⟩,h4⟩:=ho;have hi:i<pl.length:=by rw[Nat.blt_eq]at h1;exact h1
  have hg:pl[i]? =some (pl.getD i (0,0)):=by rw[List.getD_eq_getElem?_getD,List.getElem?_eq_getElem hi];rfl
  unfold fillL fillS;rw[hg,ofS_eq];have hsz:v.cells.size=vs.length:=by rw[hc];simp
  simp only[hsz];rw[if_pos (by rw[h2,h3];rfl),show v.cells.toList=vs by rw[hc]];exact ih.2 _ (by rw[splice_length];exact h4)
theorem J.bd{S0:Nat→Prop}{w0:World}{L:List Ent}{P:Program}{ops:Array Oper}{K:List Value→World→Prop}{rest:List (Oper×Kd)}{l l':List Value}{m:Md}{d:Tmp}{ty xt:TypeId}{pos:String}{af:Array Edge}{kd:Kd}
  {parts:Array (Nat×Operand)}{pl:List (Nat×Nat)}{sz by_:Nat}{zs cs:List Value}{ps:List (Nat×Value)}{qs:List (Nat×List Value)}[I:Inf P xt sz by_ zs][I2:SInf P xt pl](hk:pureK kd=true)(kk:J S0 w0 L (RY S0 w0 m P ops K rest l'))
  (hv:EvP l parts.toList ps qs:=by repeat(first|exact EvP.nil|(apply EvP.cons;(· ((conv=>lhs;whnf)<;>rfl));(· rfl))))(ho:fillO pl zs.length qs=true:=by rfl)(hf:fillS pl zs qs=cs:=by dsimp only[fillS,ofS,splice,List.set,Nat.reduceAdd])(hl:l.set d (.agg cs.toArray)=l':=by dsimp only[List.set]):
  J S0 w0 L (RY S0 w0 m P ops K ((⟨some d, .build xt parts,ty,pos,af,none⟩,kd)::rest) l):=
 J.bs hk (hv.fill (pl:=pl)).1 kk (by rw[←hf];exact(hv.fill (pl:=pl)).2 zs ho) hl
def Gw{β:Type}(w:World)(f:β→List Value)(sz:Nat)(e:TypeId)(a:Option Addr)(lst:List β)(nd:Ending)(w':World):Prop:=
 ∃a' c',nd= .returned (.slice a' lst.length c')∧Pr (fun b=>obk a=some b) w w'∧GOwn f sz 0 w' e a' lst.length c' lst∧∀b,obk a'=some b→obk a=some b∨w.heap.size≤b
section
variable{S0:Nat→Prop}{w0 w:World}{L:List Ent}{P:Program}{ops:Array Oper}{K:List Value→World→Prop}{rest:List (Oper×Kd)}{l:List Value}{m:Md}{d:Tmp}{ty:TypeId}{pos:String}{af:Array Edge}{kd:Kd}{β:Type}{f:β→List Value}{sz n c:Nat}{e:TypeId}{a:Option Addr}{lst lst':List β}{F:Option Addr→Nat→Nat→List β→List Ent}{fi:FuncId}{args:Array Operand}{av:List Value}{ts:Array TypeId}
theorem J.callG{l':Option Addr→Nat→List Value}[E:Ents P fi](ha:args.toList.map (ev l)=av)[R:GO L a f sz e n c lst F](h:∀w,Mem S0 w0 L w→GOwn f sz 0 w e a n c lst→Calls P fi av.toArray w (Gw w f sz e a lst'))
  (k:∀a' c',J S0 w0 (F a' lst'.length c' lst') (RY S0 w0 m P ops K rest (l' a' c')))(hl:∀a' c',l.set d (.slice a' lst'.length c')=l' a' c':=by intro a' c';dsimp only[List.set])(hk:∀a' c',okG m kd (F a' lst'.length c' lst'):=by first|exact fun _ _=>trivial|(intro _ _;repeat(first|exact List.Sublist.refl _|refine List.Sublist.cons_cons _ ?_|refine List.Sublist.cons _ ?_))):
  J S0 w0 L (RY S0 w0 m P ops K ((⟨some d, .call {callee:= .value (.func fi),args:=args,argTypes:=ts},ty,pos,af,none⟩,kd)::rest) l):=
 J.bigs (ι:=Option Addr×Nat) (Ls:=fun i=>F i.1 lst'.length i.2 lst') (none,0) (fun i=>hk i.1 i.2) fun w M K' hK=>by
  obtain⟨S,_,q1⟩:=M.get (R.h a n c lst).same;refine RS.callx E.h (h w M q1.1) ha fun nd w' hR=>?_
  obtain⟨a',c',h1,h2,h3,h4⟩:=hR;refine⟨_,h1,RS.nil ?_⟩;obtain⟨S2,g1,g2,g3⟩:=M.foc (R.h a' lst'.length c' lst');have M':=g3 w' (fun b=>obk a'=some b) (h2.mono fun b hb=>g2.2 b hb) ⟨h3,fun b hb=>hb⟩ fun b hb=>(h4 b hb).imp_left (g2.2 b);refine hK _ w' (a',c') M' ?_;rw[hl];exact k a' c' w' M'
theorem J.enterG{fn:Func}{c0:Code}{R:Ending→World→Prop}(u:Nat)(hO:GOwn f sz 0 w0 e a n c lst)(hf:P.funcs[fi]? =some fn)(hb:fn.body=some c0)(hu:fn.ntmps - av.length=u)(h:J (fun b=>obk a=some b) w0 [.gown f sz e a n c lst] (c0.wp P (bodyPost P fn R) (fr l)))(hl:av++List.replicate u undef=l:=by dsimp only[List.reduceReplicate,List.cons_append,List.nil_append]):Calls P fi av.toArray w0 R:=
 enterU u hf hb hu (h w0 ⟨Pr.refl _ _,_,no,fun b hb=> .inl hb,fun b hb=>hb.elim,fun b _ hb=>hb,⟨hO,fun b hb=>hb⟩,trivial⟩) hl
theorem J.finW{a':Option Addr}{n' c':Nat}{v:Value}[R:GO L a' f sz e n' c' lst' F](hv:v= .slice a' n' c'):J (fun b=>obk a=some b) w0 L (Gw w0 f sz e a lst' (.returned v)):=fun w M=>by
 obtain⟨S,h1,h2⟩:=M.get (R.h a' n' c' lst').same;obtain rfl:=h2.1.len;exact⟨a',c',by rw[hv],M.pr,h2.1,fun b hb=>(h1 b (h2.2 b hb)).1⟩
end
end G
namespace G
open Go.RowKit
section
variable{S0:Nat→Prop}{w0:World}{L:List Ent}{X:World→Prop}
variable{m:Md}{P:Program}{ops:Array Oper}{K:List Value→World→Prop}{rest:List (Oper×Kd)}{l:List Value}{dd:Option Tmp}{ty:TypeId}{pos:String}{af:Array Edge}{kd:Kd}{g:Option (Nat×Bool)}
theorem J.tm{x:Operand}(h:J S0 w0 L (RY S0 w0 m P ops K ((⟨dd, .move x,ty,pos,af,none⟩,kd)::rest) l)):J S0 w0 L (RY S0 w0 m P ops K ((⟨dd, .move x,ty,pos,af,none⟩,kd)::rest) l):=h
theorem J.ta{x:Operand}(h:J S0 w0 L (RY S0 w0 m P ops K ((⟨dd, .assign x,ty,pos,af,none⟩,kd)::rest) l)):J S0 w0 L (RY S0 w0 m P ops K ((⟨dd, .assign x,ty,pos,af,none⟩,kd)::rest) l):=h
theorem J.tb(b:BinOp){xt yt:TypeId}{x y:Operand}(h:J S0 w0 L (RY S0 w0 m P ops K ((⟨dd, .binOp b xt x y yt,ty,pos,af,none⟩,kd)::rest) l)):J S0 w0 L (RY S0 w0 m P ops K ((⟨dd, .binOp b xt x y yt,ty,pos,af,none⟩,kd)::rest) l):=h
theorem J.tl{xt:TypeId}{x:Operand}(h:J S0 w0 L (RY S0 w0 m P ops K ((⟨dd, .load xt x,ty,pos,af,none⟩,kd)::rest) l)):J S0 w0 L (RY S0 w0 m P ops K ((⟨dd, .load xt x,ty,pos,af,none⟩,kd)::rest) l):=h
theorem J.ts{xt:TypeId}{x y:Operand}(h:J S0 w0 L (RY S0 w0 m P ops K ((⟨dd, .store xt x y,ty,pos,af,none⟩,kd)::rest) l)):J S0 w0 L (RY S0 w0 m P ops K ((⟨dd, .store xt x y,ty,pos,af,none⟩,kd)::rest) l):=h
theorem J.tf{xt:TypeId}{x:Operand}{i:Nat}(h:J S0 w0 L (RY S0 w0 m P ops K ((⟨dd, .fieldAddr xt x i,ty,pos,af,none⟩,kd)::rest) l)):J S0 w0 L (RY S0 w0 m P ops K ((⟨dd, .fieldAddr xt x i,ty,pos,af,none⟩,kd)::rest) l):=h
theorem J.tx{x:Operand}{i:Nat}(h:J S0 w0 L (RY S0 w0 m P ops K ((⟨dd, .extract x i,ty,pos,af,none⟩,kd)::rest) l)):J S0 w0 L (RY S0 w0 m P ops K ((⟨dd, .extract x i,ty,pos,af,none⟩,kd)::rest) l):=h
theorem J.tc(bi:Builtin){args:Array Operand}{ts:Array TypeId}(h:J S0 w0 L (RY S0 w0 m P ops K ((⟨dd, .call {callee:= .builtin bi,args:=args,argTypes:=ts},ty,pos,af,none⟩,kd)::rest) l)):J S0 w0 L (RY S0 w0 m P ops K ((⟨dd, .call {callee:= .builtin bi,args:=args,argTypes:=ts},ty,pos,af,none⟩,kd)::rest) l):=h
theorem J.ti{xt:TypeId}{x y:Operand}(h:J S0 w0 L (RY S0 w0 m P ops K ((⟨dd, .indexAddr xt x y,ty,pos,af,none⟩,kd)::rest) l)):J S0 w0 L (RY S0 w0 m P ops K ((⟨dd, .indexAddr xt x y,ty,pos,af,none⟩,kd)::rest) l):=h
theorem J.tu{b:UnOp}{xt:TypeId}{x:Operand}(h:J S0 w0 L (RY S0 w0 m P ops K ((⟨dd, .unOp b xt x,ty,pos,af,none⟩,kd)::rest) l)):J S0 w0 L (RY S0 w0 m P ops K ((⟨dd, .unOp b xt x,ty,pos,af,none⟩,kd)::rest) l):=h
theorem J.tp{x y z:Operand}(h:J S0 w0 L (RY S0 w0 m P ops K ((⟨dd, .pick x y z,ty,pos,af,none⟩,kd)::rest) l)):J S0 w0 L (RY S0 w0 m P ops K ((⟨dd, .pick x y z,ty,pos,af,none⟩,kd)::rest) l):=h
theorem J.tv{xt yt:TypeId}{x:Operand}(h:J S0 w0 L (RY S0 w0 m P ops K ((⟨dd, .convert xt yt x,ty,pos,af,none⟩,kd)::rest) l)):J S0 w0 L (RY S0 w0 m P ops K ((⟨dd, .convert xt yt x,ty,pos,af,none⟩,kd)::rest) l):=h
theorem J.tk{x:Operand}(h:J S0 w0 L (RY S0 w0 m P ops K ((⟨dd, .nilCheck x,ty,pos,af,none⟩,kd)::rest) l)):J S0 w0 L (RY S0 w0 m P ops K ((⟨dd, .nilCheck x,ty,pos,af,none⟩,kd)::rest) l):=h
theorem J.tq{xt:TypeId}{x:Operand}{lo hi:Option Operand}(h:J S0 w0 L (RY S0 w0 m P ops K ((⟨dd, .slice xt x lo hi none,ty,pos,af,none⟩,kd)::rest) l)):J S0 w0 L (RY S0 w0 m P ops K ((⟨dd, .slice xt x lo hi none,ty,pos,af,none⟩,kd)::rest) l):=h
theorem J.td{xt:TypeId}{ps:Array (Nat×Operand)}(h:J S0 w0 L (RY S0 w0 m P ops K ((⟨dd, .build xt ps,ty,pos,af,none⟩,kd)::rest) l)):J S0 w0 L (RY S0 w0 m P ops K ((⟨dd, .build xt ps,ty,pos,af,none⟩,kd)::rest) l):=h
theorem J.tg{op:Op}{j:Nat}{t:Bool}(h:J S0 w0 L (RY S0 w0 m P ops K ((⟨dd,op,ty,pos,af,some (j,t)⟩,kd)::rest) l)):J S0 w0 L (RY S0 w0 m P ops K ((⟨dd,op,ty,pos,af,some (j,t)⟩,kd)::rest) l):=h
theorem J.tr{op:Oper}(h:J S0 w0 L (RY S0 w0 m P ops K ((op,kd)::rest) l)):J S0 w0 L (RY S0 w0 m P ops K ((op,kd)::rest) l):=h
theorem ex{α:Type}(a:α):∃z,z=a:=⟨a,rfl⟩
structure Hold(q:Prop):Prop where out:q
theorem run {q : Prop} (k : q) (h : Hold q → J S0 w0 L X := by
 intro k
 repeat (first
  | (refine J.tr ?_; first
   | (refine J.tm ?_; refine J.mv rfl ?_)
   | (refine J.ta ?_; refine J.as rfl ?_)
   | (refine J.tf ?_; first | refine J.fl rfl rfl ?_ | refine J.flG rfl (by first | exact RG.own' | exact RG.arg (by assumption) | exact RG.row') ?_ | refine J.flGG rfl (by first | exact RG.own' | exact RG.arg (by assumption) | exact RG.row') ?_)
   | (refine J.tl ?_; first | refine J.ld rfl ?_ | refine J.lda rfl ?_ | refine J.ldI rfl (by first | exact RI.own' | exact RI.arg (by assumption) | exact RI.row') ?_ | refine J.ldW rfl (by first | exact RW.own' | exact RW.arg (by assumption) | exact RW.row') ?_ | refine J.ldG rfl (by first | exact RG.own' | exact RG.arg (by assumption) | exact RG.row') ?_ | refine J.ldGf rfl (by first | exact RG.own' | exact RG.arg (by assumption) | exact RG.row') ?_ | refine J.ldG1 rfl (by first | exact RG.own' | exact RG.arg (by assumption) | exact RG.row') ?_ | refine J.ldGa rfl (by first | exact RG.own' | exact RG.arg (by assumption) | exact RG.row') ?_ | refine J.ldp rfl ?_)
   | (refine J.tb .lss ?_; first | refine J.lt rfl rfl rfl ?_ | refine J.slt rfl rfl rfl ?_)
   | (refine J.tb .eql ?_; first | refine J.eq rfl rfl rfl ?_ | refine J.seq rfl rfl rfl ?_ | refine J.eqb rfl rfl rfl ?_ | refine J.eqI rfl rfl rfl ?_ | refine J.nilS rfl rfl rfl ?_)
   | (refine J.tb .neq ?_; first | refine J.ne rfl rfl rfl ?_ | refine J.sne rfl rfl rfl ?_ | refine J.neb rfl rfl rfl ?_ | refine J.neI rfl rfl rfl ?_)
   | (refine J.tb .add ?_; refine J.add rfl rfl rfl ?_)
   | (refine J.tb .geq ?_; first | refine J.ge rfl rfl rfl ?_ | refine J.sge rfl rfl rfl ?_)
   | (refine J.tb .gtr ?_; first | refine J.gt rfl rfl rfl ?_ | refine J.sgt rfl rfl rfl ?_)
   | (refine J.tb .leq ?_; first | refine J.le rfl rfl rfl ?_ | refine J.sle rfl rfl rfl ?_)
   | (refine J.tb .sub ?_; refine J.sub rfl rfl rfl ?_)
   | (refine J.tx ?_; refine J.ex rfl rfl ?_)
   | (refine J.tc .len ?_; first | refine J.ln rfl rfl ?_ | refine J.lns rfl rfl ?_)
   | (refine J.ti ?_; first | refine J.idxI rfl rfl (by first | exact RI.own' | exact RI.arg (by assumption) | exact RI.row') ?_ | refine J.idxW rfl rfl (by first | exact RW.own' | exact RW.arg (by assumption) | exact RW.row') ?_ | refine J.idxG rfl rfl (by first | exact RG.own' | exact RG.arg (by assumption) | exact RG.row') ?_ | refine J.idxS rfl rfl rfl ?_)
   | (refine J.ts ?_; first | refine J.st rfl ?_ | refine J.staw rfl rfl ?_ | refine J.sta rfl rfl ?_ | refine J.stI rfl rfl ?_)
   | (refine J.tg ?_; first | refine J.want rfl rfl rfl ?_ | refine J.skipg rfl rfl rfl rfl ?_ | refine J.skipu rfl rfl rfl ?_)
   | (refine J.tk ?_; refine J.nc rfl rfl ?_)
   | (refine J.tu ?_; refine J.not rfl rfl ?_)
   | (refine J.tp ?_; refine J.pk rfl rfl ?_)
   | (refine J.tv ?_; refine J.cv rfl rfl ?_)
   | (refine J.td ?_; first | refine J.bd rfl ?_ | refine J.bs rfl rfl ?_)
   | (refine J.tq ?_; first | refine J.slT rfl rfl rfl ?_ | refine J.slP rfl rfl rfl ?_ | refine J.sl rfl rfl rfl rfl ?_ | refine J.slA rfl rfl ?_)
   | (refine J.tc .cap ?_; refine J.cp rfl rfl ?_)
   | (refine J.tz ?_; refine J.fz rfl rfl ?_)
   | (refine J.tc .max ?_; refine J.mx rfl rfl rfl ?_)
   | (refine J.tb .shr ?_; refine J.shr rfl rfl rfl ?_)
   | (refine J.tb .mul ?_; refine J.mul rfl rfl rfl ?_)
   | (refine J.tb .quo ?_; refine J.quo rfl rfl rfl ?_)
   | (refine J.tb .rem ?_; refine J.rem rfl rfl rfl ?_))
  | refine J.nilN ?_
  | refine J.thn ?_
  | refine J.sq ?_
  | refine J.region ?_
  | refine J.ift rfl ?_
  | refine J.iff rfl ?_
  | refine J.block ?_
  | refine J.skip ?_
  | refine J.exit ?_
  | refine J.the ?_
  | refine J.ibe ?_
  | refine J.ibn ?_
  | refine J.ibx rfl ?_
  | refine J.retc ?_
  | refine J.thr ?_
  | refine J.ibr ?_
  | refine J.retN ?_
  | (refine J.tret ?_; first | refine J.ret1 rfl ?_ | refine J.ret2 rfl ?_ | refine J.ret3 rfl ?_ | refine J.ret4 rfl ?_ | refine J.ret0 rfl ?_)
  | refine J.tfin ?_
  | refine J.tbr ?_
  | (refine J.nil ?_; refine J.kr ?_))
 exact k.out) : J S0 w0 L X := h ⟨k⟩
end
end G
namespace W
open Go.RowKit G
theorem tup2{a a' b b':Value}(h:a=a')(k:b=b'):Value.tuple #[a,b]= .tuple #[a',b']:=by rw[h,k]
theorem beq_dec{a b:Int}{p:Prop}[Decidable p](h:a=b↔p):(a==b)=decide p:=by rw[Bool.eq_iff_iff];simpa using h
structure OpA where
 (o:S.OpV)(pa:Option Addr)(pc:Nat)
@[reducible] def opC(z:OpA):List Value:=[.int .u32 z.o.au, .slice z.pa z.o.n z.pc, .int .u64 z.o.st, .int .u8 z.o.k, .string z.o.key, .int .u8 z.o.vk, .int .i64 z.o.num, .int .u64 z.o.bits, .string z.o.t, .int .u32 z.o.e, .int .u32 z.o.s]
structure OpR(S0:Nat→Prop)(w:World)(z:OpA):Prop where
 ok:z.o.ok
 row:WRow .u8 32 S0 w z.pa z.o.n z.o.ids
 cap:z.o.n≤z.pc
structure GrA where
 (ia oa:Option Addr)(m n ic oc:Nat)(ids:List Int)(zs:List OpA)
section
variable{S0:Nat→Prop}{w w':World}{z:OpA}{g:GrA}
theorem OpR.ext(h:OpR S0 w z)(x:Ext w w'):OpR S0 w' z:=⟨h.ok,h.row.ext x,h.cap⟩
end
end W
namespace W
open Go.RowKit G
set_option maxRecDepth 20000
set_option maxHeartbeats 8000000
attribute [local irreducible] RS RX RY Code.wp bodyPost J Ent.blk Ent.irow Ent.iown Ent.wrow Ent.wown Ent.grow Ent.gown Ent.all Ent.emp
instance:Und prog 25 (.slice 23):=⟨underlying25⟩
instance:Und prog 3 (.int .i64):=⟨underlying3⟩
instance:Und prog 137 (.int .u64):=⟨underlying137⟩
instance:Siz prog 23 32:=⟨by kernel_rfl⟩
instance:Agg prog 23 32:=⟨_,underlying23,rfl,by kernel_rfl⟩
instance:Und prog 23 (.array 32 5):=⟨underlying23⟩
instance:Sca prog 25:=⟨_,underlying25,rfl⟩
instance:Und prog 59 (.slice 3):=⟨underlying59⟩
instance:Inf prog 3 1 8 [.int .i64 0]:=⟨TI.of (v:= .int .i64 0) (by kernel_rfl) rfl⟩
instance:Siz prog 3 1:=⟨by kernel_rfl⟩
instance:Siz prog 34 11:=⟨by kernel_rfl⟩
instance:Agg prog 34 11:=⟨_,underlying34,rfl,by kernel_rfl⟩
instance:Inf prog 34 11 112 [.int .u32 0, .slice none 0 0, .int .u64 0, .int .u8 0, .string .empty, .int .u8 0, .int .i64 0, .int .u64 0, .string .empty, .int .u32 0, .int .u32 0]:=⟨TI.of (v:= .agg #[.int .u32 0, .slice none 0 0, .int .u64 0, .int .u8 0, .string .empty, .int .u8 0, .int .i64 0, .int .u64 0, .string .empty, .int .u32 0, .int .u32 0]) (by kernel_rfl) rfl⟩
instance:Fld prog 34 1 1:=⟨_,_,1,underlying34,rfl,by kernel_rfl,by decide,rfl⟩
instance:Inf prog 23 32 32 (ints .u8 (List.replicate 32 0)):=⟨TI.of (v:= .agg ((ints .u8 (List.replicate 32 0))).toArray) (by kernel_rfl) rfl⟩
instance:Sca prog 3:=⟨_,underlying3,rfl⟩
instance:Ents prog 44:=⟨.mk func44 (by kernel_rfl) rfl⟩
instance:Und prog 5 (.int .u8):=⟨underlying5⟩
instance:Siz prog 5 1:=⟨by kernel_rfl⟩
instance:Ents prog 43:=⟨.mk func43 (by kernel_rfl) rfl⟩
instance:Ents prog 78:=⟨.mk func78 (by kernel_rfl) rfl⟩
instance:Siz prog 25 1:=⟨by kernel_rfl⟩
theorem cloneW{S0:Nat→Prop}(a:Option Addr)(n c:Nat)(ids:List Int)(w:World)(D0:WRow .u8 32 S0 w a n ids)(hc:n≤c)(hn:n≤1000):
  Calls prog 78 #[.slice a n c] w (Gv w (fun q:Option Addr×Nat=> .slice q.1 n q.2) (fun q=>[.wown 23 .u8 32 q.1 n q.2 ids]) fun q=>n≤q.2):=
 Gv.of (cloneID a n c ids w D0 hc hn) fun v w' x ⟨a',n',c',hv,hn',O⟩=>⟨(a',c'),by rw[hv,hn'],by subst hn';exact O.own.cap.1,sep1 (by subst hn';exact wown_ok O)⟩
end W
namespace S
open G
structure HvS(ids:List Int)(rd:List Nat)(hv:List Int):Prop where
 len:hv.length=32*rd.length
 at_:∀k,k<rd.length→idAt hv k=idAt ids (rd.getD k 0)
theorem HvS.all{m:Nat}{ids hv:List Int}{ops:List OpV}{rd:List Nat}(h:HvS ids rd hv)(hr:Rising m ids)(hb:∀x∈rd,x<m){i:Nat}(ho:allI m ids (ops.getD i OpV.zero).n (ops.getD i OpV.zero).ids):
  allI rd.length hv (ops.getD i OpV.zero).n (ops.getD i OpV.zero).ids↔∀p∈prS m ids ops i,p∈rd:=by
 constructor
 ·intro ha p hp;unfold prS at hp;obtain⟨j,hj,rfl⟩:=List.mem_map.1 hp;obtain⟨k,hk,e⟩:=ha j (List.mem_range.1 hj);rw[h.at_ k hk]at e;have hm:=getD_mem hk;rw[←e,ix_eq hr (hb _ hm)];exact hm
 ·intro ha j hj;have hp:ixS m ids (idAt (ops.getD i OpV.zero).ids j)∈rd:=ha _ (by unfold prS;exact List.mem_map.2 ⟨j,List.mem_range.2 hj,rfl⟩);obtain⟨k,hk,e⟩:=List.getElem_of_mem hp;refine⟨k,hk,?_⟩;rw[h.at_ k hk,List.getD_eq_getElem?_getD,List.getElem?_eq_getElem hk,Option.getD_some,e];exact(ix_in (ho j hj)).2
end S
namespace W
open Go.RowKit G
@[reducible] def inC(q:Int):List Value:=[.int .i64 q]
theorem gown_e{α:Type}{f:α→List Value}{sz:Nat}{e:TypeId}{a:Option Addr}{n c:Nat}{lst:List α}{S:Nat→Prop}{w:World}(h:(Ent.gown f sz e a n c lst).ok S w):GOwn f sz 0 w e a n c lst∧∀b,obk a=some b→S b:=h
section
end
section
end
end W
namespace W
open Go.RowKit G
section
end
theorem GRow.nil'{α:Type}{f:α→List Value}{sz:Nat}{S:Nat→Prop}{w:World}(hf:∀x,(f x).length=sz):GRow f sz S w none 0 []:=⟨.inl rfl,rfl,hf⟩
end W
namespace S
open G
theorem OpV.ext'{a b:OpV}(h1:a.au=b.au)(h2:a.st=b.st)(h3:a.k=b.k)(h4:a.vk=b.vk)(h5:a.num=b.num)(h6:a.bits=b.bits)(h7:a.e=b.e)(h8:a.s=b.s)(h9:a.n=b.n)(h10:a.ids=b.ids)(h11:a.key=b.key)(h12:a.t=b.t):a=b:=by
 cases a;cases b;simp only at h1 h2 h3 h4 h5 h6 h7 h8 h9 h10 h11 h12;subst h1 h2 h3 h4 h5 h6 h7 h8 h9 h10 h11 h12;rfl
def OpV.wide(o:OpV):Prop:=o.ids.length=32*o.n
theorem sameO_eq{a b:OpV}(ha:a.wide)(hb:b.wide):SameO a b↔a=b:=by
 constructor
 ·rintro⟨h1,h2,h3,⟨h4,h5,h6,h7,h8,h9⟩,h10,h11⟩;unfold OpV.wide at ha hb;have hn:a.n=b.n:=by rw[h2]at ha;omega
  exact OpV.ext' h1 h3 h4 h6 h7 h8 h10 h11 hn h2 h5 h9
 ·rintro rfl;exact sameO_refl a
end S
namespace W
open Go.RowKit G
theorem opC_one(z:OpA):∀u∈opC z,u.oneCell'=true:=by
 intro u hu;simp only[opC,List.mem_cons,List.not_mem_nil,or_false]at hu;rcases hu with rfl|rfl|rfl|rfl|rfl|rfl|rfl|rfl|rfl|rfl|rfl<;>rfl
theorem all_e{E:List Ent}{S:Nat→Prop}{w:World}(h:(Ent.all E).ok S w):Sep E S w:=h
theorem all_i{E:List Ent}{S:Nat→Prop}{w:World}(h:Sep E S w):(Ent.all E).ok S w:=h
theorem sep_mem:∀ {E:List Ent} {S:Nat→Prop} {w:World} {e:Ent},e∈E→Sep E S w→∃S',(∀b,S' b→S b)∧e.ok S' w
 |_::_,_,_,_, .head _,⟨A,_,h1,_,_,h4,_⟩=>⟨A,h1,h4⟩
 |_::_,_,_,_, .tail _ h,⟨_,B,_,h2,_,_,h5⟩=>let ⟨S',k1,k2⟩:=sep_mem h h5;⟨S',fun b hb=>h2 b (k1 b hb),k2⟩
section
variable{S0:Nat→Prop}{w0:World}{L:List Ent}{X:World→Prop}{e:Ent}{E:List Ent}
theorem J.snocA{F1 F2:Ent→List Ent}(E:List Ent)(e:Ent)[R:RE L e F1][R2:RE (F1 .emp) (.all E) F2](k:J S0 w0 (F2 (.all (E++[e]))) X):J S0 w0 L X:=
 J.merge e (.all E) (.all (E++[e])) (fun S1 S2 w hd h1 h2=>all_i (Sep.app (all_e h2) (sep1 h1) (fun b hb=> .inr hb) (fun b hb=> .inl hb) fun b hb hc=>hd b hc hb)) k
theorem J.noA(k:J S0 w0 (.all []::L) X):J S0 w0 L X:=J.newA [] k fun _=>trivial
end
section
end
theorem gown_one{α:Type}{f:α→List Value}{sz:Nat}{w:World}{b:Nat}{x:α}{T:TypeId}(h:GOwn f sz 0 w T (some ⟨b,0,none⟩) 1 1 [x]):Blk w b (f x) T:=by
 obtain⟨cur,B,_,_,h3,h4,_⟩:=h.blk;rw[List.take_of_length_le (by omega)]at h4;rw[h4]at B;simpa using B
theorem blk_free{w:World}{b o:Nat}{cs:List Value}{T:TypeId}(h:Blk w b cs T):w.frozen? ⟨b,o,none⟩=false:=by
 unfold Blk at h;unfold World.frozen?;rw[h];simp
theorem blk_shape{w:World}{b:Nat}{cs:List Value}{T:TypeId}(h:Blk w b cs T):w.shape? b=some (T,cs.length):=by
 unfold Blk at h;unfold World.shape?;rw[h];simp
end W
namespace S
open G
@[reducible] def idOf(o:OpV):List Int:=sha (encS o)
/-! lists -/
/-! unions -/
/-! comparisons -/
end S
namespace W
open Go.RowKit G
set_option maxRecDepth 20000
set_option maxHeartbeats 8000000
attribute [local irreducible] RS RX RY Code.wp bodyPost J Ent.blk Ent.irow Ent.iown Ent.wrow Ent.wown Ent.grow Ent.gown Ent.all Ent.emp
instance:Ents prog 61:=⟨.mk func61 (by kernel_rfl) rfl⟩
structure GtA where
 (n:Nat)(a:Option Addr)(c:Nat)(zs:List OpA)
end W
namespace G
open Go.RowKit
section
variable{S0:Nat→Prop}{w0:World}{L Lq:List Ent}{P:Program}{Q:Exit→Act→World→Prop}{l:List Value}{id n n':Nat}{l0:List Oper}{K:List Value→World→Prop}{li:Array Bool}{rd:List Nat}
theorem J.front{X:World→Prop}{F:Ent→List Ent}(e:Ent)[R:RE L e F](k:J S0 w0 (e::F .emp) X):J S0 w0 L X:=fun w M=>by
 exact k w (M.split (R.h .emp) fun S h=>⟨no,S,fun _ h=>h.elim,fun _ h=>h,fun _ h=>h.elim,trivial,h⟩)
theorem D.buildA0{ev0:Operand→Value}{w:World}{dd:Option Tmp}{ty t e n by_:Nat}{pos:String}{af:Array Edge}{g:Option (Nat×Bool)}{z:List Value}(hu:P.underlying t=some (.array n e))(ht:TI P t n by_ z)(hs:P.cellsOf e=1):
  (execOp ev0 ⟨dd, .build t #[],ty,pos,af,g⟩).run P w= .ok (.value (.agg z.toArray)) w:=by
 obtain⟨i,v,i1,i2,i3,i4,i5⟩:=ht;have hz1:(zeroValue t).run P w= .ok v w:=by simp[zeroValue,typeInfo,i1,i4]
 have hsz:(sizeOf e).run P w= .ok 1 w:=size_run hs (by decide);simp[execOp,Instr.build,Sem.run_bind,hz1,Result.andThen,run_underlying hu,hsz,i5,Instr.fill]
theorem J.bz{ops:Array Oper}{rest:List (Oper×Kd)}{l':List Value}{m:Md}{kd:Kd}{d:Tmp}{ty xt e n by_:Nat}{pos:String}{af:Array Edge}{zs:List Value}[U:Und P xt (.array n e)][I:Inf P xt n by_ zs][Z:Siz P e 1](hk:pureK kd=true)(k:J S0 w0 L (RY S0 w0 m P ops K rest l'))(hl:l.set d (.agg zs.toArray)=l':=by dsimp only[List.set]):
  J S0 w0 L (RY S0 w0 m P ops K ((⟨some d, .build xt #[],ty,pos,af,none⟩,kd)::rest) l):=J.pur hk (fun _=>D.buildA0 U.h I.h Z.h) k hl
end
end G
namespace W
open Go.RowKit G
set_option maxRecDepth 20000
set_option maxHeartbeats 8000000
attribute [local irreducible] RS RX RY Code.wp bodyPost J Ent.blk Ent.irow Ent.iown Ent.wrow Ent.wown Ent.grow Ent.gown Ent.all Ent.emp
theorem blkC{S0:Nat→Prop}{w0 w:World}{L:List Ent}(b:Nat){cs:List Value}{T:TypeId}{F:List Value→List Ent}[R:RB L b cs T F](M:Mem S0 w0 L w):Blk w b cs T:=M.blk (R.h cs).same
theorem fits_actD(a b c d:Int)(x y:ByteArray):FitsT prog 9 30 [.int .u8 a, .string x, .int .u8 b, .int .i64 c, .int .u64 d, .string y]=true:=by kernel_rfl
theorem fits_sigD(a b:Int):FitsT prog 9 32 [.int .u32 a, .int .u32 b]=true:=by kernel_rfl
end W
namespace S
open G
def TickP(t:Int):Prop:=0≤t∧t≤1000000000
instance(t:Int):Decidable (TickP t):=by unfold TickP;infer_instance
def NoO(o:OpV)(id:List Int):Prop:=SameO o OpV.zero∧id=List.replicate 32 0
instance(o:OpV)(id:List Int):Decidable (NoO o id):=by unfold NoO;infer_instance
theorem noO_iff{o:OpV}{id:List Int}(hl:o.ids.length=32*o.n):NoO o id↔o.au=0∧o.n=0∧o.st=0∧(o.k=0∧o.key= .empty∧o.vk=0∧o.num=0∧o.bits=0∧o.t= .empty)∧(o.e=0∧o.s=0)∧id=List.replicate 32 0:=by
 unfold NoO SameO;constructor
 ·rintro⟨⟨h1,h2,h3,h4,h5⟩,h6⟩;refine⟨h1,?_,h3,h4,h5,h6⟩;have:=congrArg List.length h2;rw[hl]at this;have h0:OpV.zero.ids.length=0:=rfl;omega
 ·rintro⟨h1,h2,h3,h4,h5,h6⟩;exact⟨⟨h1,List.eq_nil_of_length_eq_zero (by omega),h3,h4,h5⟩,h6⟩
structure JdV where
 (t v:Int)(o:OpV)(id:List Int)
def FindP(j:JdV):Prop:=TickP j.t∧((j.v=0∧verE j.o=0∧idOf j.o=j.id)∨((j.v=2∨j.v=3∨j.v=4)∧NoO j.o j.id))
instance(j:JdV):Decidable (FindP j):=by unfold FindP;infer_instance
def SameJ(a b:JdV):Prop:=a.t=b.t∧a.v=b.v∧a.id=b.id∧SameO a.o b.o
instance(a b:JdV):Decidable (SameJ a b):=by unfold SameJ;infer_instance
theorem find_0{j:JdV}(h:TickP j.t)(hv:j.v=0):FindP j↔verE j.o=0∧idOf j.o=j.id:=by
 unfold FindP;rw[hv];constructor
 ·rintro⟨_,h|⟨h,_⟩⟩
  ·exact h.2
  ·omega
 ·exact fun k=>⟨h, .inl ⟨rfl,k⟩⟩
theorem find_n{j:JdV}(h:TickP j.t)(hv:j.v=2∨j.v=3∨j.v=4):FindP j↔NoO j.o j.id:=by
 unfold FindP;constructor
 ·rintro⟨_,h|h⟩
  ·omega
  ·exact h.2
 ·exact fun k=>⟨h, .inr ⟨hv,k⟩⟩
theorem find_x{j:JdV}(hv:j.v≠0)(hw:¬(j.v=2∨j.v=3∨j.v=4)):¬FindP j:=fun⟨_,h⟩=>h.elim (fun k=>hv k.1) fun k=>hw k.1
end S
namespace W
open Go.RowKit G
set_option maxRecDepth 20000
set_option maxHeartbeats 8000000
attribute [local irreducible] RS RX RY Code.wp bodyPost J Ent.blk Ent.irow Ent.iown Ent.wrow Ent.wown Ent.grow Ent.gown Ent.all Ent.emp
instance:Fld prog 36 2 2:=⟨_,_,11,underlying36,rfl,by kernel_rfl,by decide,rfl⟩
instance:Fld prog 34 0 0:=⟨_,_,1,underlying34,rfl,by kernel_rfl,by decide,rfl⟩
instance:Sca prog 24:=⟨_,underlying24,rfl⟩
instance:Fld prog 34 2 2:=⟨_,_,1,underlying34,rfl,by kernel_rfl,by decide,rfl⟩
instance:Sca prog 26:=⟨_,underlying26,rfl⟩
instance:Fld prog 34 3 3:=⟨_,_,6,underlying34,rfl,by kernel_rfl,by decide,rfl⟩
instance:Agg prog 30 6:=⟨_,underlying30,rfl,by kernel_rfl⟩
instance:SInf prog 30 [(0,1),(1,1),(2,4)]:=⟨_,underlying30,by kernel_rfl,by kernel_rfl⟩
instance:Inf prog 30 6 64 [.int .u8 0, .string .empty, .int .u8 0, .int .i64 0, .int .u64 0, .string .empty]:=⟨TI.of (v:= .agg #[.int .u8 0, .string .empty, .int .u8 0, .int .i64 0, .int .u64 0, .string .empty]) (by kernel_rfl) rfl⟩
instance:Fld prog 34 4 9:=⟨_,_,2,underlying34,rfl,by kernel_rfl,by decide,rfl⟩
instance:Agg prog 32 2:=⟨_,underlying32,rfl,by kernel_rfl⟩
instance:SInf prog 32 [(0,1),(1,1)]:=⟨_,underlying32,by kernel_rfl,by kernel_rfl⟩
instance:Inf prog 32 2 8 [.int .u32 0, .int .u32 0]:=⟨TI.of (v:= .agg #[.int .u32 0, .int .u32 0]) (by kernel_rfl) rfl⟩
instance:Fld prog 36 3 13:=⟨_,_,32,underlying36,rfl,by kernel_rfl,by decide,rfl⟩
instance:Fld prog 36 0 0:=⟨_,_,1,underlying36,rfl,by kernel_rfl,by decide,rfl⟩
instance:Ents prog 23:=⟨.mk func23 (by kernel_rfl) rfl⟩
instance:Fld prog 36 1 1:=⟨_,_,1,underlying36,rfl,by kernel_rfl,by decide,rfl⟩
instance:Sca prog 5:=⟨_,underlying5,rfl⟩
instance:Agg prog 36 45:=⟨_,underlying36,rfl,by kernel_rfl⟩
instance:Ents prog 69:=⟨.mk func69 (by kernel_rfl) rfl⟩
structure JdA where
 (t v:Int)(o:OpA)(id:List Int)(h:id.length=32)
@[reducible] def jdC(j:JdA):List Value:= .int .i64 j.t:: .int .u8 j.v::(opC j.o++ints .u8 j.id)
@[reducible] def JdA.V(j:JdA):S.JdV:=⟨j.t,j.v,j.o.o,j.id⟩
theorem jdC_len{j:JdA}(h:j.id.length=32):(jdC j).length=45:=by
 show(ints .u8 j.id).length+13=45;rw[ints_length,h]
theorem jdC_id{j:JdA}(h:j.id.length=32):((jdC j).drop 13).take 32=ints .u8 j.id:=by
 show(ints .u8 j.id).take 32=_;exact List.take_of_length_le (by rw[ints_length,h];exact Nat.le_refl _)
theorem jdC_all{j:JdA}(h:j.id.length=32):((jdC j).drop 0).take 45=jdC j:=List.take_of_length_le (by rw[List.drop_zero,jdC_len h];exact Nat.le_refl _)
structure JdR(S0:Nat→Prop)(w:World)(j:JdA):Prop where
 o:OpR S0 w j.o
 id:Arr .u8 32 j.id
theorem JdR.ext{S0:Nat→Prop}{w w':World}{j:JdA}(h:JdR S0 w j)(x:Ext w w'):JdR S0 w' j:=⟨h.o.ext x,h.id⟩
theorem poolTicket(t:Int)(w:World):Calls prog 23 #[.int .i64 t] w (Ret w fun v _=>v= .bool (decide (S.TickP t))):=by
 refine J.enter 8 func23 rfl rfl ?_;refine run ?_;refine J.spd rfl rfl rfl (fun c=>?_) (fun c=>?_)
 ·refine run ?_;exact J.fin (congrArg _ (decide_eq_decide.2 ⟨fun h=>⟨c,h⟩,fun h=>h.2⟩))
 refine run ?_;exact J.fin (congrArg _ (decide_eq_false fun h=>c h.1).symm)
theorem poolNone{S0:Nat→Prop}(j:JdA)(w:World)(R:JdR S0 w j):
  Calls prog 69 #[.agg (jdC j).toArray] w (Ret w fun v _=>v= .bool (decide (S.NoO j.o.o j.id))):=by
 have hid:=R.id;have hi:=S.noO_iff (o:=j.o.o) (id:=j.id) R.o.row.len;have no:¬(j.o.o.au=0∧j.o.o.n=0∧j.o.o.st=0∧(j.o.o.k=0∧j.o.o.key= .empty∧j.o.o.vk=0∧j.o.o.num=0∧j.o.o.bits=0∧j.o.o.t= .empty)∧(j.o.o.e=0∧j.o.o.s=0)∧j.id=List.replicate 32 0)→Value.bool false= .bool (decide (S.NoO j.o.o j.id)):=fun h=>congrArg _ (decide_eq_false fun k=>h (hi.1 k)).symm;refine J.enter 37 func69 rfl rfl ?_;refine run ?_;refine J.box rfl rfl rfl fun b1=>?_
 refine run ?_;refine J.alloc rfl fun b3=>?_
 refine run ?_;refine J.spe rfl rfl rfl (fun c1=>?_) (fun c1=>?_)
 rotate_left
 ·refine run ?_;exact J.fin (no fun h=>c1 h.1)
 refine run ?_;refine J.spe rfl rfl rfl (fun c2=>?_) (fun c2=>?_)
 rotate_left
 ·refine run ?_;exact J.fin (no fun h=>c2 (by have:=h.2.1;omega))
 refine run ?_;refine J.spe rfl rfl rfl (fun c3=>?_) (fun c3=>?_)
 rotate_left
 ·refine run ?_;exact J.fin (no fun h=>c3 h.2.2.1)
 refine run ?_;refine J.eqR rfl rfl rfl (fits_actD _ _ _ _ _ _) (fits_actD _ _ _ _ _ _) (S.eqA6 _ _ _ _ _ _ _ _ _ _ _ _) ?_;refine run ?_;refine J.spd rfl rfl rfl (fun c4=>?_) (fun c4=>?_)
 rotate_left
 ·refine run ?_;exact J.fin (no fun h=>c4 h.2.2.2.1)
 refine run ?_;refine J.eqR rfl rfl rfl (fits_sigD _ _) (fits_sigD _ _) (S.eqS2 _ _ _ _) ?_;refine run ?_;refine J.spd rfl rfl rfl (fun c5=>?_) (fun c5=>?_)
 rotate_left
 ·refine run ?_;exact J.fin (no fun h=>c5 h.2.2.2.2.1)
 refine run ?_;refine J.ldp rfl ?_ (hv:=jdC_id hid.1) (hn:=by rw[ints_length,hid.1]);refine run ?_;refine J.bz rfl ?_;refine run ?_;exact J.fin (congrArg _ (decide_eq_decide.2 ⟨fun h=>hi.2 ⟨c1,by omega,c3,c4,c5,h⟩,fun h=>(hi.1 h).2.2.2.2.2⟩))
theorem poolFinding{S0:Nat→Prop}(j:JdA)(TK:TypeId)(w:World)(K0:Kst w TK)(R:JdR S0 w j):
  Calls prog 30 #[.agg (jdC j).toArray] w (Ret w fun v _=>v= .bool (decide (S.FindP j.V))):=by
 have hid:=R.id;have RO:=R.o;have no:¬S.FindP j.V→Value.bool false= .bool (decide (S.FindP j.V)):=fun h=>congrArg _ (decide_eq_false h).symm;refine J.enter 38 func30 rfl rfl ?_;refine run ?_;refine J.box rfl rfl rfl fun b1=>?_
 refine run ?_;refine J.callp rfl rfl (fun w' M=>poolTicket j.t w') ?_;refine run ?_;refine J.ifnot rfl (fun c1=>?_) (fun c1=>?_)
 ·refine run ?_;exact J.fin (no fun h=>of_decide_eq_false c1 h.1)
 have ht:S.TickP j.V.t:=of_decide_eq_true c1;have en:(j.v=2∨j.v=3∨j.v=4)→decide (S.NoO j.o.o j.id)=decide (S.FindP j.V):=fun h=>decide_eq_decide.2 (S.find_n (j:=j.V) ht h).symm;refine run ?_;refine J.ife rfl (fun c2=>?_) (fun c2=>?_)
 ·have hf:=S.find_0 (j:=j.V) ht c2;have hA:Arr .u8 32 (if S.checkE j.o.o=0 then S.sha (S.encS j.o.o)else List.replicate 32 0):=by
   split
   ·exact S.sha_arr _
   exact⟨by simp,fun x hx=>by rw[List.mem_replicate]at hx;rw[hx.2];simp only[lim];omega⟩
  refine run ?_;refine J.callp rfl rfl (fun w' M=>idO j.o.o RO.ok _ _ _ w' (K0.ext M.ext) (RO.row.ext M.ext) RO.cap) ?_;refine run ?_;refine J.alloc rfl fun b3=>?_
  refine run ?_;refine J.spe rfl rfl rfl (fun c3=>?_) (fun c3=>?_)
  rotate_left
  ·refine run ?_;exact J.fin (no fun h=>c3 (S.verE_check (hf.1 h).1))
  refine run ?_;refine J.ldp rfl ?_ (hv:=jdC_id hid.1) (hn:=by rw[ints_length,hid.1]);refine run ?_;refine J.spd rfl rfl rfl (fun c4=>?_) (fun c4=>?_)
  rotate_left
  ·refine run ?_;exact J.fin (no fun h=>c4 (by rw[if_pos c3];exact(hf.1 h).2))
  rw[if_pos c3]at c4;refine run ?_;refine J.callp rfl rfl (fun w' M=>verifyO j.o.o RO.ok _ _ _ w' (K0.ext M.ext) (RO.row.ext M.ext) RO.cap) ?_;refine run ?_;refine J.fin (congrArg _ ?_);by_cases h:S.verE j.o.o=0
  ·rw[decide_eq_true (hf.2 ⟨h,c4⟩),h];rfl
  rw[decide_eq_false fun k=>h (hf.1 k).1];simpa using h
 refine run ?_;refine J.ife rfl (fun c3=>?_) (fun c3=>?_)
 ·refine run ?_;refine J.ife rfl (fun _=>?_) (fun c=>absurd c3 c);refine run ?_;refine J.ldp rfl ?_ (hv:=jdC_all hid.1) (hn:=jdC_len hid.1);refine J.callp rfl rfl (fun w' M=>poolNone j w' (R.ext M.ext)) ?_;refine run ?_;exact J.fin (congrArg Value.bool (en (.inl c3)))
 refine run ?_;refine J.ife rfl (fun c4=>?_) (fun c4=>?_)
 ·refine run ?_;refine J.ife rfl (fun _=>?_) (fun c=>absurd c4 c);refine run ?_;refine J.ldp rfl ?_ (hv:=jdC_all hid.1) (hn:=jdC_len hid.1);refine J.callp rfl rfl (fun w' M=>poolNone j w' (R.ext M.ext)) ?_;refine run ?_;exact J.fin (congrArg Value.bool (en (.inr (.inl c4))))
 refine run ?_;refine J.ife rfl (fun c5=>?_) (fun c5=>?_)
 ·skip
  refine run ?_;refine J.ldp rfl ?_ (hv:=jdC_all hid.1) (hn:=jdC_len hid.1);refine J.callp rfl rfl (fun w' M=>poolNone j w' (R.ext M.ext)) ?_;refine run ?_;exact J.fin (congrArg Value.bool (en (.inr (.inr c5))))
 refine run ?_;exact J.fin (no (S.find_x (j:=j.V) c2 (by show ¬(j.v=2∨j.v=3∨j.v=4);omega)))
theorem refSameJd{S0 S1:Nat→Prop}(j k:JdA)(w:World)(R:JdR S0 w j)(R2:JdR S1 w k):
  Calls prog 38 #[.agg (jdC j).toArray, .agg (jdC k).toArray] w (Ret w fun v _=>v= .bool (decide (S.SameJ j.V k.V))):=by
 have hid:=R.id;have hid2:=R2.id;have no:¬S.SameJ j.V k.V→Value.bool false= .bool (decide (S.SameJ j.V k.V)):=fun h=>congrArg _ (decide_eq_false h).symm;refine J.enter 29 func38 rfl rfl ?_;refine run ?_;refine J.box rfl rfl rfl fun b1=>?_
 refine J.box rfl rfl rfl fun b2=>?_
 refine run ?_;refine J.spe rfl rfl rfl (fun c1=>?_) (fun c1=>?_)
 rotate_left
 ·refine run ?_;exact J.fin (no fun h=>c1 h.1)
 refine run ?_;refine J.spe rfl rfl rfl (fun c2=>?_) (fun c2=>?_)
 rotate_left
 ·refine run ?_;exact J.fin (no fun h=>c2 h.2.1)
 refine run ?_;refine J.ldp rfl ?_ (hv:=jdC_id hid.1) (hn:=by rw[ints_length,hid.1]);refine run ?_;refine J.ldp rfl ?_ (hv:=jdC_id hid2.1) (hn:=by rw[ints_length,hid2.1]);refine run ?_;refine J.spd rfl rfl rfl (fun c3=>?_) (fun c3=>?_)
 rotate_left
 ·refine run ?_;exact J.fin (no fun h=>c3 h.2.2.1)
 refine run ?_;refine J.callp rfl rfl (fun w' M=>sameO j.o.o k.o.o R.o.ok R2.o.ok _ _ _ _ w' (R.o.row.ext M.ext) (R2.o.row.ext M.ext)) ?_;refine run ?_;exact J.fin (congrArg Value.bool (decide_eq_decide.2 ⟨fun h=>⟨c1,c2,c3,h⟩,fun h=>h.2.2.2⟩))
instance:Fld prog 46 1 1:=⟨_,_,2,underlying46,rfl,by kernel_rfl,by decide,rfl⟩
instance:Fld prog 44 0 0:=⟨_,_,1,underlying44,rfl,by kernel_rfl,by decide,rfl⟩
instance:Fld prog 44 1 1:=⟨_,_,1,underlying44,rfl,by kernel_rfl,by decide,rfl⟩
instance:Sca prog 42:=⟨_,underlying42,rfl⟩
instance:Und prog 42 (.slice 5):=⟨underlying42⟩
instance:Fld prog 46 2 3:=⟨_,_,45,underlying46,rfl,by kernel_rfl,by decide,rfl⟩
instance:Fld prog 46 0 0:=⟨_,_,1,underlying46,rfl,by kernel_rfl,by decide,rfl⟩
instance:Ents prog 30:=⟨.mk func30 (by kernel_rfl) rfl⟩
structure HdA where
 (s jt:Int)(ba:Option Addr)(bn bc:Nat)(bs:List Int)(j:JdA)
@[reducible] def hdC(h:HdA):List Value:= .int .u8 h.s:: .int .i64 h.jt:: .slice h.ba h.bn h.bc::jdC h.j
theorem hdC_len{h:HdA}(k:h.j.id.length=32):(hdC h).length=48:=by
 show(jdC h.j).length+3=48;rw[jdC_len k]
theorem hdC_jd{h:HdA}(k:h.j.id.length=32):((hdC h).drop 3).take 45=jdC h.j:=by
 show(jdC h.j).take 45=_;exact List.take_of_length_le (by rw[jdC_len k];exact Nat.le_refl _)
def JobZ(h:HdA):Prop:=h.jt=0∧h.bn=0
def JudZ(h:HdA):Prop:=S.NoO h.j.o.o h.j.id∧h.j.t=0∧h.j.v=0
instance(h:HdA):Decidable (JobZ h):=by unfold JobZ;infer_instance
instance(h:HdA):Decidable (JudZ h):=by unfold JudZ;infer_instance
def HandT(h:HdA):Int:=if h.s=1 then h.jt else if h.s=2 then h.j.t else -1
def HandP(h:HdA):Prop:=(h.s=0∧JobZ h∧JudZ h)∨(h.s=1∧JudZ h∧S.TickP h.jt)∨(h.s=2∧JobZ h∧S.FindP h.j.V)
instance(h:HdA):Decidable (HandP h):=by unfold HandP;infer_instance
theorem hand_0{h:HdA}(hs:h.s=0):HandT h= -1∧(HandP h↔JobZ h∧JudZ h):=by
 unfold HandT HandP;rw[hs];simp
theorem hand_1{h:HdA}(hs:h.s=1):HandT h=h.jt∧(HandP h↔JudZ h∧S.TickP h.jt):=by
 unfold HandT HandP;rw[hs];simp
theorem hand_2{h:HdA}(hs:h.s=2):HandT h=h.j.t∧(HandP h↔JobZ h∧S.FindP h.j.V):=by
 unfold HandT HandP;rw[hs];simp
theorem hand_x{h:HdA}(h0:h.s≠0)(h1:h.s≠1)(h2:h.s≠2):HandT h= -1∧¬HandP h:=by
 unfold HandT HandP;simp[h0,h1,h2]
theorem poolHand{S0:Nat→Prop}(h:HdA)(TK:TypeId)(w:World)(K0:Kst w TK)(R:JdR S0 w h.j):
  Calls prog 31 #[.agg (hdC h).toArray] w (Ret w fun v _=>v= .tuple #[.int .i64 (HandT h), .bool (decide (HandP h))]):=by
 have hid:=R.id;refine J.enter 62 func31 rfl rfl ?_;refine run ?_;refine J.box rfl rfl rfl fun b1=>?_
 refine run ?_;refine J.spe rfl rfl rfl (fun c1=>?_) (fun c1=>?_)
 ·skip
  refine run ?_;refine J.ldp rfl ?_ (hv:=hdC_jd hid.1) (hn:=jdC_len hid.1);refine J.callp rfl rfl (fun w' M=>poolNone h.j w' (R.ext M.ext)) ?_;refine run ?_;refine J.spd rfl rfl rfl (fun c2=>?_) (fun c2=>?_)
  ·refine run ?_;refine J.spe rfl rfl rfl (fun c3=>?_) (fun c3=>?_)
   ·skip
    refine run ?_;refine J.ife rfl (fun s0=>?_) (fun s0=>?_)
    ·refine run ?_;refine J.spe rfl rfl rfl (fun d1=>?_) (fun d1=>?_)
     ·have e9:h.bn=0:=by omega
      refine run ?_;refine J.fin (tup2 (congrArg _ (hand_0 s0).1.symm) (congrArg Value.bool ?_));rw[Bool.eq_iff_iff];simp[(hand_0 s0).2,JobZ,JudZ, *]
     have e9:h.bn≠0:=by omega
     refine run ?_;refine J.fin (tup2 (congrArg _ (hand_0 s0).1.symm) (congrArg Value.bool ?_));rw[Bool.eq_iff_iff];simp[(hand_0 s0).2,JobZ,JudZ, *]
    refine run ?_;refine J.ife rfl (fun s1=>?_) (fun s1=>?_)
    ·refine run ?_;refine J.regionX [(0, .q),(1, .q),(2, .q),(3, .q),(4, .q),(5, .q),(6, .q),(7, .q),(8, .e),(9, .q),(10, .q),(11, .q)] mixed (by kernel_rfl) ?_;refine run ?_;refine J.spe rfl rfl rfl (fun d2=>?_) (fun d2=>?_)
     ·refine run ?_;refine J.callp rfl rfl (fun w' M=>poolTicket h.jt w') ?_;refine run ?_;refine J.fin (tup2 (congrArg _ (hand_1 s1).1.symm) (congrArg Value.bool ?_));rw[Bool.eq_iff_iff];simp[(hand_1 s1).2,JobZ,JudZ, *]
     refine run ?_;refine J.fin (tup2 (congrArg _ (hand_1 s1).1.symm) (congrArg Value.bool ?_));rw[Bool.eq_iff_iff];simp[(hand_1 s1).2,JobZ,JudZ, *]
    refine run ?_;refine J.ife rfl (fun s2=>?_) (fun s2=>?_)
    ·refine run ?_;refine J.regionX [(0, .q),(1, .q),(2, .q),(3, .q),(4, .q),(5, .q),(6, .q),(7, .e),(8, .q),(9, .q),(10, .q)] mixed (by kernel_rfl) ?_;refine run ?_;refine J.spe rfl rfl rfl (fun d3=>?_) (fun d3=>?_)
     ·have e9:h.bn=0:=by omega
      refine run ?_;refine J.ldp rfl ?_ (hv:=hdC_jd hid.1) (hn:=jdC_len hid.1);refine run ?_;refine J.callp rfl rfl (fun w' M=>poolFinding h.j TK w' (K0.ext M.ext) (R.ext M.ext)) ?_;refine run ?_;refine J.fin (tup2 (congrArg _ (hand_2 s2).1.symm) (congrArg Value.bool ?_));rw[Bool.eq_iff_iff];simp[(hand_2 s2).2,JobZ,JudZ, *]
     have e9:h.bn≠0:=by omega
     refine run ?_;refine J.fin (tup2 (congrArg _ (hand_2 s2).1.symm) (congrArg Value.bool ?_));rw[Bool.eq_iff_iff];simp[(hand_2 s2).2,JobZ,JudZ, *]
    refine run ?_;refine J.fin (tup2 (congrArg _ (hand_x s0 s1 s2).1.symm) (congrArg Value.bool (decide_eq_false (hand_x s0 s1 s2).2).symm))
   skip
   refine run ?_;refine J.ife rfl (fun s0=>?_) (fun s0=>?_)
   ·refine run ?_;refine J.spe rfl rfl rfl (fun d1=>?_) (fun d1=>?_)
    ·have e9:h.bn=0:=by omega
     refine run ?_;refine J.fin (tup2 (congrArg _ (hand_0 s0).1.symm) (congrArg Value.bool ?_));rw[Bool.eq_iff_iff];simp[(hand_0 s0).2,JobZ,JudZ, *]
    have e9:h.bn≠0:=by omega
    refine run ?_;refine J.fin (tup2 (congrArg _ (hand_0 s0).1.symm) (congrArg Value.bool ?_));rw[Bool.eq_iff_iff];simp[(hand_0 s0).2,JobZ,JudZ, *]
   refine run ?_;refine J.ife rfl (fun s1=>?_) (fun s1=>?_)
   ·refine run ?_;refine J.regionX [(0, .q),(1, .q),(2, .q),(3, .q),(4, .q),(5, .q),(6, .q),(7, .q),(8, .e),(9, .q),(10, .q),(11, .q)] mixed (by kernel_rfl) ?_;refine run ?_;refine J.fin (tup2 (congrArg _ (hand_1 s1).1.symm) (congrArg Value.bool ?_));rw[Bool.eq_iff_iff];simp[(hand_1 s1).2,JobZ,JudZ, *]
   refine run ?_;refine J.ife rfl (fun s2=>?_) (fun s2=>?_)
   ·refine run ?_;refine J.regionX [(0, .q),(1, .q),(2, .q),(3, .q),(4, .q),(5, .q),(6, .q),(7, .e),(8, .q),(9, .q),(10, .q)] mixed (by kernel_rfl) ?_;refine run ?_;refine J.spe rfl rfl rfl (fun d3=>?_) (fun d3=>?_)
    ·have e9:h.bn=0:=by omega
     refine run ?_;refine J.ldp rfl ?_ (hv:=hdC_jd hid.1) (hn:=jdC_len hid.1);refine run ?_;refine J.callp rfl rfl (fun w' M=>poolFinding h.j TK w' (K0.ext M.ext) (R.ext M.ext)) ?_;refine run ?_;refine J.fin (tup2 (congrArg _ (hand_2 s2).1.symm) (congrArg Value.bool ?_));rw[Bool.eq_iff_iff];simp[(hand_2 s2).2,JobZ,JudZ, *]
    have e9:h.bn≠0:=by omega
    refine run ?_;refine J.fin (tup2 (congrArg _ (hand_2 s2).1.symm) (congrArg Value.bool ?_));rw[Bool.eq_iff_iff];simp[(hand_2 s2).2,JobZ,JudZ, *]
   refine run ?_;refine J.fin (tup2 (congrArg _ (hand_x s0 s1 s2).1.symm) (congrArg Value.bool (decide_eq_false (hand_x s0 s1 s2).2).symm))
  skip
  refine run ?_;refine J.ife rfl (fun s0=>?_) (fun s0=>?_)
  ·refine run ?_;refine J.spe rfl rfl rfl (fun d1=>?_) (fun d1=>?_)
   ·have e9:h.bn=0:=by omega
    refine run ?_;refine J.fin (tup2 (congrArg _ (hand_0 s0).1.symm) (congrArg Value.bool ?_));rw[Bool.eq_iff_iff];simp[(hand_0 s0).2,JobZ,JudZ, *]
   have e9:h.bn≠0:=by omega
   refine run ?_;refine J.fin (tup2 (congrArg _ (hand_0 s0).1.symm) (congrArg Value.bool ?_));rw[Bool.eq_iff_iff];simp[(hand_0 s0).2,JobZ,JudZ, *]
  refine run ?_;refine J.ife rfl (fun s1=>?_) (fun s1=>?_)
  ·refine run ?_;refine J.regionX [(0, .q),(1, .q),(2, .q),(3, .q),(4, .q),(5, .q),(6, .q),(7, .q),(8, .e),(9, .q),(10, .q),(11, .q)] mixed (by kernel_rfl) ?_;refine run ?_;refine J.fin (tup2 (congrArg _ (hand_1 s1).1.symm) (congrArg Value.bool ?_));rw[Bool.eq_iff_iff];simp[(hand_1 s1).2,JobZ,JudZ, *]
  refine run ?_;refine J.ife rfl (fun s2=>?_) (fun s2=>?_)
  ·refine run ?_;refine J.regionX [(0, .q),(1, .q),(2, .q),(3, .q),(4, .q),(5, .q),(6, .q),(7, .e),(8, .q),(9, .q),(10, .q)] mixed (by kernel_rfl) ?_;refine run ?_;refine J.spe rfl rfl rfl (fun d3=>?_) (fun d3=>?_)
   ·have e9:h.bn=0:=by omega
    refine run ?_;refine J.ldp rfl ?_ (hv:=hdC_jd hid.1) (hn:=jdC_len hid.1);refine run ?_;refine J.callp rfl rfl (fun w' M=>poolFinding h.j TK w' (K0.ext M.ext) (R.ext M.ext)) ?_;refine run ?_;refine J.fin (tup2 (congrArg _ (hand_2 s2).1.symm) (congrArg Value.bool ?_));rw[Bool.eq_iff_iff];simp[(hand_2 s2).2,JobZ,JudZ, *]
   have e9:h.bn≠0:=by omega
   refine run ?_;refine J.fin (tup2 (congrArg _ (hand_2 s2).1.symm) (congrArg Value.bool ?_));rw[Bool.eq_iff_iff];simp[(hand_2 s2).2,JobZ,JudZ, *]
  refine run ?_;refine J.fin (tup2 (congrArg _ (hand_x s0 s1 s2).1.symm) (congrArg Value.bool (decide_eq_false (hand_x s0 s1 s2).2).symm))
 skip
 refine run ?_;refine J.ldp rfl ?_ (hv:=hdC_jd hid.1) (hn:=jdC_len hid.1);refine J.callp rfl rfl (fun w' M=>poolNone h.j w' (R.ext M.ext)) ?_;refine run ?_;refine J.spd rfl rfl rfl (fun c2=>?_) (fun c2=>?_)
 ·refine run ?_;refine J.spe rfl rfl rfl (fun c3=>?_) (fun c3=>?_)
  ·skip
   refine run ?_;refine J.ife rfl (fun s0=>?_) (fun s0=>?_)
   ·refine run ?_;refine J.fin (tup2 (congrArg _ (hand_0 s0).1.symm) (congrArg Value.bool ?_));rw[Bool.eq_iff_iff];simp[(hand_0 s0).2,JobZ,JudZ, *]
   refine run ?_;refine J.ife rfl (fun s1=>?_) (fun s1=>?_)
   ·refine run ?_;refine J.regionX [(0, .q),(1, .q),(2, .q),(3, .q),(4, .q),(5, .q),(6, .q),(7, .q),(8, .e),(9, .q),(10, .q),(11, .q)] mixed (by kernel_rfl) ?_;refine run ?_;refine J.spe rfl rfl rfl (fun d2=>?_) (fun d2=>?_)
    ·refine run ?_;refine J.callp rfl rfl (fun w' M=>poolTicket h.jt w') ?_;refine run ?_;refine J.fin (tup2 (congrArg _ (hand_1 s1).1.symm) (congrArg Value.bool ?_));rw[Bool.eq_iff_iff];simp[(hand_1 s1).2,JobZ,JudZ, *]
    refine run ?_;refine J.fin (tup2 (congrArg _ (hand_1 s1).1.symm) (congrArg Value.bool ?_));rw[Bool.eq_iff_iff];simp[(hand_1 s1).2,JobZ,JudZ, *]
   refine run ?_;refine J.ife rfl (fun s2=>?_) (fun s2=>?_)
   ·refine run ?_;refine J.regionX [(0, .q),(1, .q),(2, .q),(3, .q),(4, .q),(5, .q),(6, .q),(7, .e),(8, .q),(9, .q),(10, .q)] mixed (by kernel_rfl) ?_;refine run ?_;refine J.fin (tup2 (congrArg _ (hand_2 s2).1.symm) (congrArg Value.bool ?_));rw[Bool.eq_iff_iff];simp[(hand_2 s2).2,JobZ,JudZ, *]
   refine run ?_;refine J.fin (tup2 (congrArg _ (hand_x s0 s1 s2).1.symm) (congrArg Value.bool (decide_eq_false (hand_x s0 s1 s2).2).symm))
  skip
  refine run ?_;refine J.ife rfl (fun s0=>?_) (fun s0=>?_)
  ·refine run ?_;refine J.fin (tup2 (congrArg _ (hand_0 s0).1.symm) (congrArg Value.bool ?_));rw[Bool.eq_iff_iff];simp[(hand_0 s0).2,JobZ,JudZ, *]
  refine run ?_;refine J.ife rfl (fun s1=>?_) (fun s1=>?_)
  ·refine run ?_;refine J.regionX [(0, .q),(1, .q),(2, .q),(3, .q),(4, .q),(5, .q),(6, .q),(7, .q),(8, .e),(9, .q),(10, .q),(11, .q)] mixed (by kernel_rfl) ?_;refine run ?_;refine J.fin (tup2 (congrArg _ (hand_1 s1).1.symm) (congrArg Value.bool ?_));rw[Bool.eq_iff_iff];simp[(hand_1 s1).2,JobZ,JudZ, *]
  refine run ?_;refine J.ife rfl (fun s2=>?_) (fun s2=>?_)
  ·refine run ?_;refine J.regionX [(0, .q),(1, .q),(2, .q),(3, .q),(4, .q),(5, .q),(6, .q),(7, .e),(8, .q),(9, .q),(10, .q)] mixed (by kernel_rfl) ?_;refine run ?_;refine J.fin (tup2 (congrArg _ (hand_2 s2).1.symm) (congrArg Value.bool ?_));rw[Bool.eq_iff_iff];simp[(hand_2 s2).2,JobZ,JudZ, *]
  refine run ?_;refine J.fin (tup2 (congrArg _ (hand_x s0 s1 s2).1.symm) (congrArg Value.bool (decide_eq_false (hand_x s0 s1 s2).2).symm))
 skip
 refine run ?_;refine J.ife rfl (fun s0=>?_) (fun s0=>?_)
 ·refine run ?_;refine J.fin (tup2 (congrArg _ (hand_0 s0).1.symm) (congrArg Value.bool ?_));rw[Bool.eq_iff_iff];simp[(hand_0 s0).2,JobZ,JudZ, *]
 refine run ?_;refine J.ife rfl (fun s1=>?_) (fun s1=>?_)
 ·refine run ?_;refine J.regionX [(0, .q),(1, .q),(2, .q),(3, .q),(4, .q),(5, .q),(6, .q),(7, .q),(8, .e),(9, .q),(10, .q),(11, .q)] mixed (by kernel_rfl) ?_;refine run ?_;refine J.fin (tup2 (congrArg _ (hand_1 s1).1.symm) (congrArg Value.bool ?_));rw[Bool.eq_iff_iff];simp[(hand_1 s1).2,JobZ,JudZ, *]
 refine run ?_;refine J.ife rfl (fun s2=>?_) (fun s2=>?_)
 ·refine run ?_;refine J.regionX [(0, .q),(1, .q),(2, .q),(3, .q),(4, .q),(5, .q),(6, .q),(7, .e),(8, .q),(9, .q),(10, .q)] mixed (by kernel_rfl) ?_;refine run ?_;refine J.fin (tup2 (congrArg _ (hand_2 s2).1.symm) (congrArg Value.bool ?_));rw[Bool.eq_iff_iff];simp[(hand_2 s2).2,JobZ,JudZ, *]
 refine run ?_;refine J.fin (tup2 (congrArg _ (hand_x s0 s1 s2).1.symm) (congrArg Value.bool (decide_eq_false (hand_x s0 s1 s2).2).symm))
end W
namespace W
open Go.RowKit G
theorem irow_e{k:IntKind}{a:Option Addr}{n:Nat}{xs:List Int}{S:Nat→Prop}{w:World}(h:(Ent.irow k a n xs).ok S w):IRow k S w a n xs:=h
theorem irow_i{k:IntKind}{a:Option Addr}{n:Nat}{xs:List Int}{S:Nat→Prop}{w:World}(h:IRow k S w a n xs):(Ent.irow k a n xs).ok S w:=h
theorem wrow_e{k:IntKind}{sz:Nat}{a:Option Addr}{n:Nat}{xs:List Int}{S:Nat→Prop}{w:World}(h:(Ent.wrow k sz a n xs).ok S w):WRow k sz S w a n xs:=h
theorem wrow_i{k:IntKind}{sz:Nat}{a:Option Addr}{n:Nat}{xs:List Int}{S:Nat→Prop}{w:World}(h:WRow k sz S w a n xs):(Ent.wrow k sz a n xs).ok S w:=h
theorem sep2{e1 e2:Ent}{S1 S2:Nat→Prop}{w:World}(hd:∀b,S1 b→S2 b→False)(h1:e1.ok S1 w)(h2:e2.ok S2 w):Sep [e1,e2] (fun b=>S1 b∨S2 b) w:=Sep.app (sep1 h1) (sep1 h2) (fun _ h=> .inl h) (fun _ h=> .inr h) hd
section
variable{S0:Nat→Prop}{w0:World}{L:List Ent}{X:World→Prop}
theorem J.pair{F1 F2:Ent→List Ent}(e1 e2:Ent)[R:RE L e1 F1][R2:RE (F1 .emp) e2 F2](k:J S0 w0 (F2 (.all [e1,e2])) X):J S0 w0 L X:=
 J.merge e1 e2 (.all [e1,e2]) (fun _ _ _ hd h1 h2=>all_i (sep2 hd h1 h2)) k
end
section
end
end W
namespace S
open G
structure JbV where
 (t:Int)(b:List Int)
structure HdV where
 (s jt:Int)(b:List Int)(j:JdV)
structure PlV where
 (cap:Int)(js:List JbV)(hs:List HdV)(ds:List JdV)
noncomputable instance:DecidableEq PlV:=fun _ _=>Classical.propDecidable _
def JdV.zero:JdV:=⟨0,0,OpV.zero,List.replicate 32 0⟩
def HdV.zero:HdV:=⟨0,0,[],JdV.zero⟩
def JbV.zero:JbV:=⟨0,[]⟩
def PlV.zero:PlV:=⟨0,[],[],[]⟩
theorem sameJ_eq{a b:JdV}(ha:a.o.wide)(hb:b.o.wide):SameJ a b↔a=b:=by
 unfold SameJ;constructor
 ·rintro⟨h1,h2,h3,h4⟩;have h5:=(sameO_eq ha hb).1 h4;cases a;cases b;simp only at h1 h2 h3 h5;subst h1 h2 h3 h5;rfl
 ·rintro rfl;exact⟨rfl,rfl,rfl,(sameO_eq ha hb).2 rfl⟩
def jobZ(h:HdV):Prop:=h.jt=0∧h.b.length=0
def judZ(h:HdV):Prop:=NoO h.j.o h.j.id∧h.j.t=0∧h.j.v=0
def handT(h:HdV):Int:=if h.s=1 then h.jt else if h.s=2 then h.j.t else -1
def handL(h:HdV):List Int:=if h.s=1 then [h.jt]else if h.s=2 then [h.j.t]else []
def handP(h:HdV):Prop:=(h.s=0∧jobZ h∧judZ h)∨(h.s=1∧judZ h∧TickP h.jt)∨(h.s=2∧jobZ h∧FindP h.j)
theorem handL_eq{h:HdV}(hp:handP h):handL h=if 0≤handT h then [handT h]else []:=by
 unfold handL handT;rcases hp with h1|h1|h1
 ·simp[h1.1]
 ·have:=h1.2.2.1;simp[h1.1,this]
 ·have:=h1.2.2.1.1;simp[h1.1,this]
@[reducible] def PlV.dT(v:PlV):List Int:=v.ds.map JdV.t
@[reducible] def PlV.hT(v:PlV):List Int:=v.hs.map handT
@[reducible] def PlV.jT(v:PlV):List Int:=v.js.map JbV.t
def PlV.tk(v:PlV):List Int:=v.dT++v.hs.flatMap handL
def maxL:List Int→Int
 |[]=>0
 |x::l=>l.foldl max x
theorem foldl_max:∀(l:List Int) (x k:Int),l.foldl max x<k↔x<k∧∀y∈l,y<k
 |[],x,k=>by simp
 |y::l,x,k=>by
  rw[List.foldl_cons,foldl_max l];simp only[List.mem_cons,forall_eq_or_imp];constructor
  ·rintro⟨h1,h2⟩;exact⟨by omega,by omega,h2⟩
  ·rintro⟨h1,h2,h3⟩;exact⟨by omega,h3⟩
theorem maxL_lt{l:List Int}(hl:l≠[]){k:Int}:maxL l<k↔∀y∈l,y<k:=by
 cases l with
 |nil=>exact absurd rfl hl
 |cons x l=>
  unfold maxL;rw[foldl_max];simp
def C1(v:PlV):Prop:=1≤v.cap∧v.cap≤8∧(v.js.length:Int)≤v.cap∧1≤v.hs.length∧v.hs.length≤3∧v.ds.length≤60
def dn1(v:PlV)(k:Nat):Prop:=FindP (v.ds.getD k JdV.zero)∧(0<k→v.dT.getD (k - 1) 0<v.dT.getD k 0)
def C2(v:PlV):Prop:=∀k,k<v.ds.length→dn1 v k
def hd1(v:PlV)(k:Nat):Prop:=handP (v.hs.getD k HdV.zero)∧(0≤v.hT.getD k 0→¬v.hT.getD k 0∈v.dT++v.hT.take k)
def C3(v:PlV):Prop:=∀k,k<v.hs.length→hd1 v k
def lastT(v:PlV)(k:Nat):Int:=if k=0 then maxL (v.dT++v.hT)else v.jT.getD (k - 1) 0
def jb1(v:PlV)(k:Nat):Prop:=TickP (v.jT.getD k 0)∧lastT v k<v.jT.getD k 0
def C4(v:PlV):Prop:=∀k,k<v.js.length→jb1 v k
def vldP(v:PlV):Prop:=C1 v∧C2 v∧C3 v∧C4 v
noncomputable instance(v:PlV):Decidable (vldP v):=Classical.propDecidable _
noncomputable def vldE(v:PlV):Int:=if vldP v then 0 else 8
def R3(v:PlV):Prop:=∀k,k<v.hs.length→handP (v.hs.getD k HdV.zero)
def jb2(v:PlV)(k:Nat):Prop:=TickP (v.jT.getD k 0)∧(0<k→v.jT.getD (k - 1) 0<v.jT.getD k 0)
def R4(v:PlV):Prop:=∀k,k<v.js.length→jb2 v k
def tk1(v:PlV)(i:Nat):Prop:=(∀k,k<i→v.tk.getD k 0≠v.tk.getD i 0)∧(0<v.js.length→v.tk.getD i 0<v.jT.getD 0 0)
def R5(v:PlV):Prop:=∀i,i<v.tk.length→tk1 v i
theorem nodup_of{l:List Int}:l.Nodup↔∀i,i<l.length→∀k,k<i→l.getD k 0≠l.getD i 0:=by
 unfold List.Nodup;rw[List.pairwise_iff_getElem];constructor
 ·intro h i hi k hk;have:=h k i (by omega) hi hk;rw[List.getD_eq_getElem?_getD,List.getD_eq_getElem?_getD,List.getElem?_eq_getElem hi,List.getElem?_eq_getElem (by omega:k<l.length)];exact this
 ·intro h k i hk hi hlt;have:=h i hi k hlt;rw[List.getD_eq_getElem?_getD,List.getD_eq_getElem?_getD,List.getElem?_eq_getElem hi,List.getElem?_eq_getElem hk]at this;exact this
theorem nodup_rising{l:List Int}(h:∀k,k<l.length→0<k→l.getD (k - 1) 0<l.getD k 0):l.Nodup:=by
 refine nodup_of.2 fun i hi k hk=>?_
 have:∀n,k+n+1<l.length→l.getD k 0<l.getD (k+n+1) 0:=by
  intro n
  induction n with
  |zero=>exact fun h1=>h (k+1) h1 (by omega)
  |succ n ih=>
   intro h1;have h2:=ih (by omega);have h3:=h (k+n+2) h1 (by omega);exact Int.lt_trans h2 h3
 have h1:=this (i - k - 1) (by omega);rw[show k+(i - k - 1)+1=i by omega]at h1;omega
theorem nodup_snoc{l:List Int}{x:Int}:(l++[x]).Nodup↔l.Nodup∧¬x∈l:=by
 rw[List.nodup_append];simp only[List.nodup_cons,List.not_mem_nil,not_false_eq_true,List.nodup_nil,and_self,true_and,List.mem_singleton];constructor
 ·rintro⟨h1,h2⟩;exact⟨h1,fun h=>h2 x h x rfl rfl⟩
 ·rintro⟨h1,h2⟩;exact⟨h1,fun a ha b hb he=>h2 (by rw[←hb,←he];exact ha)⟩
def pos(l:List Int):List Int:=l.filter fun x=>decide (0≤x)
theorem apart_iff:∀(H D:List Int),(D.Nodup∧∀k,k<H.length→0≤H.getD k 0→¬H.getD k 0∈D++H.take k)↔(D++pos H).Nodup
 |[],D=>by simp[pos]
 |h::H,D=>by
  by_cases h0:0≤h
  ·have ih:=apart_iff H (D++[h]);rw[List.append_assoc]at ih;rw[show D++pos (h::H)=D++([h]++pos H)by simp[pos,h0],←ih,nodup_snoc];constructor
   ·rintro⟨h1,h2⟩;refine⟨⟨h1,fun hm=>h2 0 (by simp) h0 (by simpa using hm)⟩,fun k hk hp hm=>h2 (k+1) (by simpa using hk) (by simpa using hp) (by simpa using hm)⟩
   ·rintro⟨⟨h1,h3⟩,h2⟩;refine⟨h1,fun k hk hp hm=>?_⟩;cases k with
    |zero=>exact h3 (by simpa using hm)
    |succ k=>exact h2 k (by simpa using hk) (by simpa using hp) (by simpa using hm)
  ·have ih:=apart_iff H D;rw[show D++pos (h::H)=D++pos H by simp[pos,h0],←ih];constructor
   ·rintro⟨h1,h2⟩;refine⟨h1,fun k hk hp hm=>h2 (k+1) (by simpa using hk) (by simpa using hp) ?_⟩;rcases List.mem_append.1 hm with h3|h3
    ·exact List.mem_append_left _ (by simpa using h3)
    ·exact List.mem_append_right _ (by simp only[List.take_succ_cons,List.getD_cons_succ];exact List.mem_cons_of_mem _ h3)
   ·rintro⟨h1,h2⟩;refine⟨h1,fun k hk hp hm=>?_⟩;cases k with
    |zero=>exact h0 (by simpa using hp)
    |succ k=>
     refine h2 k (by simpa using hk) (by simpa using hp) ?_;simp only[List.take_succ_cons,List.getD_cons_succ]at hm hp;rcases List.mem_append.1 hm with h3|h3
     ·exact List.mem_append_left _ h3
     ·rcases List.mem_cons.1 h3 with h4|h4
      ·exact absurd (h4▸hp) h0
      ·exact List.mem_append_right _ h4
theorem tk_pos{v:PlV}(h:R3 v):v.tk=v.dT++pos v.hT:=by
 unfold PlV.tk;congr 1;have:∀l:List HdV,(∀x∈l,handP x)→l.flatMap handL=pos (l.map handT):=by
  intro l
  induction l with
  |nil=>intro _;rfl
  |cons x l ih=>
   intro hl;rw[List.flatMap_cons,ih (fun y hy=>hl y (List.mem_cons_of_mem _ hy)),handL_eq (hl x (List.mem_cons_self)),List.map_cons];unfold pos;by_cases h0:0≤handT x
   ·simp[h0]
   ·simp[h0]
 refine this _ fun x hx=>?_
 obtain⟨i,hi,rfl⟩:=List.mem_iff_getElem.1 hx;have:=h i hi;rwa[List.getD_eq_getElem?_getD,List.getElem?_eq_getElem hi]at this
theorem mem_pos{l:List Int}{x:Int}:x∈pos l↔x∈l∧0≤x:=by simp[pos]
theorem mem_getD{l:List Int}{P:Int→Prop}:(∀x∈l,P x)↔∀i,i<l.length→P (l.getD i 0):=by
 constructor
 ·intro h i hi;rw[List.getD_eq_getElem?_getD,List.getElem?_eq_getElem hi];exact h _ (List.getElem_mem hi)
 ·intro h x hx;obtain⟨i,hi,rfl⟩:=List.mem_iff_getElem.1 hx;have:=h i hi;rwa[List.getD_eq_getElem?_getD,List.getElem?_eq_getElem hi]at this
theorem vldP_iff(v:PlV):vldP v↔C1 v∧C2 v∧R3 v∧R4 v∧R5 v:=by
 have hT:∀k,k<v.hs.length→v.hT.getD k 0=handT (v.hs.getD k HdV.zero):=fun k hk=>by
  rw[List.getD_eq_getElem?_getD,List.getD_eq_getElem?_getD,List.getElem?_map,List.getElem?_eq_getElem hk];rfl
 have hDn:C2 v→v.dT.Nodup:=fun h2=>nodup_rising fun k hk h0=>(h2 k (by simpa using hk)).2 h0;have key:C1 v→C2 v→R3 v→((C3 v∧C4 v)↔(R4 v∧R5 v)):=by
  intro h1 h2 h3;have hne:v.dT++v.hT≠[]:=fun h=>by
   have h5:=h1.2.2.2.1;have h6:v.hT.length=0:=by rw[(List.append_eq_nil_iff.1 h).2];rfl
   rw[List.length_map]at h6;omega
  have e3:C3 v↔∀k,k<v.hT.length→0≤v.hT.getD k 0→¬v.hT.getD k 0∈v.dT++v.hT.take k:=by
   unfold C3 hd1;simp only[List.length_map];exact⟨fun h k hk=>(h k hk).2,fun h k hk=>⟨h3 k hk,h k hk⟩⟩
  have e4:R5 v↔v.tk.Nodup∧(0<v.js.length→∀x∈v.tk,x<v.jT.getD 0 0):=by
   unfold R5 tk1;rw[nodup_of];constructor
   ·exact fun h=>⟨fun i hi=>(h i hi).1,fun h0=>mem_getD.2 fun i hi=>(h i hi).2 h0⟩
   ·exact fun h i hi=>⟨h.1 i hi,fun h0=>mem_getD.1 (h.2 h0) i hi⟩
  have ap:=apart_iff v.hT v.dT;rw[←tk_pos h3,←e3]at ap;have e5:(∀k,k<v.js.length→TickP (v.jT.getD k 0))→0<v.js.length→(maxL (v.dT++v.hT)<v.jT.getD 0 0↔∀x∈v.tk,x<v.jT.getD 0 0):=by
   intro ht h0;have hp:=(ht 0 h0).1;rw[maxL_lt hne,tk_pos h3];constructor
   ·intro h x hx;rcases List.mem_append.1 hx with k|k
    ·exact h x (List.mem_append_left _ k)
    ·exact h x (List.mem_append_right _ (mem_pos.1 k).1)
   ·intro h x hx;rcases List.mem_append.1 hx with k|k
    ·exact h x (List.mem_append_left _ k)
    ·by_cases hx0:0≤x
     ·exact h x (List.mem_append_right _ (mem_pos.2 ⟨k,hx0⟩))
     ·omega
  constructor
  ·rintro⟨h4,h5⟩;have ht:∀k,k<v.js.length→TickP (v.jT.getD k 0):=fun k hk=>(h5 k hk).1;refine⟨fun k hk=>⟨ht k hk,fun h0=>?_⟩,e4.2 ⟨ap.1 ⟨hDn h2,h4⟩,fun h0=>(e5 ht h0).1 ?_⟩⟩
   ·have:=(h5 k hk).2;unfold lastT at this;rwa[if_neg (by omega)]at this
   ·have:=(h5 0 h0).2;unfold lastT at this;rwa[if_pos rfl]at this
  ·rintro⟨h4,h5⟩;obtain⟨h5,h6⟩:=e4.1 h5;have ht:∀k,k<v.js.length→TickP (v.jT.getD k 0):=fun k hk=>(h4 k hk).1;refine⟨(ap.2 h5).2,fun k hk=>⟨ht k hk,?_⟩⟩;unfold lastT;by_cases h0:k=0
   ·subst h0;rw[if_pos rfl];exact(e5 ht hk).2 (h6 hk)
   ·rw[if_neg h0];exact(h4 k hk).2 (by omega)
 unfold vldP;constructor
 ·rintro⟨h1,h2,h3,h4⟩;have hr:R3 v:=fun k hk=>(h3 k hk).1;exact⟨h1,h2,hr,((key h1 h2 hr).1 ⟨h3,h4⟩).1,((key h1 h2 hr).1 ⟨h3,h4⟩).2⟩
 ·rintro⟨h1,h2,h3,h4,h5⟩;exact⟨h1,h2,(key h1 h2 h3).2 ⟨h4,h5⟩⟩
theorem rise_lt{l:List Int}(h:∀k,k<l.length→0<k→l.getD (k - 1) 0<l.getD k 0){i j:Nat}(hij:i<j)(hj:j<l.length):l.getD i 0<l.getD j 0:=by
 have:∀n,i+n+1<l.length→l.getD i 0<l.getD (i+n+1) 0:=by
  intro n
  induction n with
  |zero=>exact fun h1=>h (i+1) h1 (by omega)
  |succ n ih=>
   intro h1;have h2:=ih (by omega);have h3:=h (i+n+2) h1 (by omega);exact Int.lt_trans h2 h3
 have h1:=this (j - i - 1) (by omega);rwa[show i+(j - i - 1)+1=j by omega]at h1
theorem dT_at(v:PlV){i:Nat}(hi:i<v.ds.length):v.dT.getD i 0=(v.ds.getD i JdV.zero).t:=by
 rw[List.getD_eq_getElem?_getD,List.getD_eq_getElem?_getD,List.getElem?_map,List.getElem?_eq_getElem hi];rfl
theorem C2.rise{v:PlV}(h:C2 v):∀k,k<v.dT.length→0<k→v.dT.getD (k - 1) 0<v.dT.getD k 0:=fun k hk h0=>(h k (by simpa using hk)).2 h0
theorem maxL_step{l:List Int}{i:Nat}(h1:1≤i)(hi:i<l.length):maxL (l.take (i+1))=if maxL (l.take i)<l.getD i 0 then l.getD i 0 else maxL (l.take i):=by
 cases l with
 |nil=>simp at hi
 |cons x l=>
  obtain⟨k,rfl⟩:∃k,i=k+1:=⟨i - 1,by omega⟩
  have hk:k<l.length:=by simpa using hi
  rw[List.take_succ_cons,List.take_succ_cons];unfold maxL;dsimp only;rw[List.take_add_one,List.getElem?_eq_getElem hk,Option.toList_some,List.foldl_append,List.getD_cons_succ,List.getD_eq_getElem?_getD,List.getElem?_eq_getElem hk,Option.getD_some];simp only[List.foldl_cons,List.foldl_nil];show max _ _=_;rw[Int.max_def];split<;>split<;>omega
theorem max_step(x y:Int):(if x<y then y else x)=max x y:=by
 rw[Int.max_def];split<;>split<;>omega
theorem takeT_snoc{l:List Int}{i:Nat}(hi:i<l.length):l.take i++[l.getD i 0]=l.take (i+1):=by
 rw[List.take_add_one,List.getElem?_eq_getElem hi,Option.toList_some,List.getD_eq_getElem?_getD,List.getElem?_eq_getElem hi,Option.getD_some]
theorem not_mem_getD{l:List Int}{x:Int}:(∀i,i<l.length→l.getD i 0≠x)↔¬x∈l:=by
 have h:=mem_getD (l:=l) (P:=fun y=>y≠x);rw[←h];exact⟨fun k hx=>k x hx rfl,fun k y hy he=>k (he▸hy)⟩
def cmT(t n:Int):Int:=if t<n then -1 else if t>n then 1 else 0
theorem cmT_0{t n:Int}:cmT t n=0↔t=n:=by unfold cmT;split<;>(try split)<;>omega
theorem cmT_lt{t n:Int}:cmT t n<0↔t<n:=by unfold cmT;split<;>(try split)<;>omega
def cT(v:PlV)(n:Int)(i:Nat):Int:=cmT (v.ds.getD i JdV.zero).t n
def spT(v:PlV)(n:Int):Nat:=spotC v.ds.length (cT v n)
def hasT(v:PlV)(n:Int):Prop:=∃d∈v.ds,d.t=n
noncomputable instance(v:PlV)(n:Int):Decidable (hasT v n):=Classical.propDecidable _
theorem mono_T{v:PlV}(h:C2 v)(n:Int):MonoC v.ds.length (cT v n):=fun i j hij hj hc=>by
 unfold cT at hc⊢;rw[cmT_lt]at hc⊢;have:=rise_lt h.rise hij (by simpa using hj);rw[dT_at v (by omega),dT_at v hj]at this;omega
theorem spT_le(v:PlV)(n:Int):spT v n≤v.ds.length:=spotC_le _ _
theorem spT_lo{v:PlV}{n:Int}{i:Nat}(h:i<spT v n):(v.ds.getD i JdV.zero).t<n:=cmT_lt.1 (spotC_lt (c:=cT v n) h)
theorem hasT_sp{v:PlV}(h:C2 v){n:Int}:hasT v n↔spT v n<v.ds.length∧(v.ds.getD (spT v n) JdV.zero).t=n:=by
 constructor
 ·rintro⟨x,hx,rfl⟩;obtain⟨i,hi,rfl⟩:=List.mem_iff_getElem.1 hx;have e:(v.ds.getD i JdV.zero).t=v.ds[i].t:=by rw[List.getD_eq_getElem?_getD,List.getElem?_eq_getElem hi];rfl
  have h1 : spT v v.ds[i].t = i := spotC_eq (by omega) (fun j hj => by
   unfold cT
   rw [cmT_lt, ← e]
   have := rise_lt h.rise hj (by simpa using hi)
   rwa [dT_at v (by omega), dT_at v hi] at this) fun _ => by
   unfold cT;rw[e,cmT_0.2 rfl];exact Int.le_refl _
  rw[h1];exact⟨hi,e⟩
 ·rintro⟨h1,h2⟩;refine⟨v.ds[spT v n],List.getElem_mem h1,?_⟩;rw[List.getD_eq_getElem?_getD,List.getElem?_eq_getElem h1]at h2;exact h2
theorem first_sp{v:PlV}(h:C2 v){n:Int}{i:Nat}(hi:i<v.ds.length)(he:(v.ds.getD i JdV.zero).t=n):hasT v n∧spT v n=i:=by
 have hh:hasT v n:=⟨v.ds[i],List.getElem_mem hi,by rw[List.getD_eq_getElem?_getD,List.getElem?_eq_getElem hi]at he;exact he⟩
 obtain⟨h1,h2⟩:=(hasT_sp h).1 hh;refine⟨hh,?_⟩;rcases Nat.lt_trichotomy (spT v n) i with k|k|k
 ·have:=rise_lt h.rise k (by simpa using hi);rw[dT_at v h1,dT_at v hi]at this;omega
 ·exact k
 ·have:=spT_lo k;omega
noncomputable def takeE(v:PlV)(n:Int):Int:=if ¬vldP v then 8 else if hasT v n then 0 else 38
def cutD(v:PlV)(i:Nat):PlV:= {v with ds:=v.ds.take i++v.ds.drop (i+1)}
noncomputable def takeV(v:PlV)(n:Int):PlV:=if takeE v n=0 then cutD v (spT v n)else PlV.zero
noncomputable def takeJ(v:PlV)(n:Int):JdV:=if takeE v n=0 then v.ds.getD (spT v n) JdV.zero else JdV.zero
theorem takeE_8{v:PlV}{n:Int}(h:¬vldP v):takeE v n=8:=if_pos h
theorem takeE_38{v:PlV}{n:Int}(h:vldP v)(h2:¬hasT v n):takeE v n=38:=by unfold takeE;rw[if_neg (not_not_intro h),if_neg h2]
theorem takeE_0{v:PlV}{n:Int}(h:vldP v)(h2:hasT v n):takeE v n=0:=by unfold takeE;rw[if_neg (not_not_intro h),if_pos h2]
theorem take_no{v:PlV}{n:Int}(h:takeE v n≠0):takeV v n=PlV.zero∧takeJ v n=JdV.zero:=⟨if_neg h,if_neg h⟩
theorem take_yes{v:PlV}{n:Int}(h:takeE v n=0):takeV v n=cutD v (spT v n)∧takeJ v n=v.ds.getD (spT v n) JdV.zero:=⟨if_pos h,if_pos h⟩
def overT(v:PlV)(t:Int):Prop:=∃x∈v.tk++v.jT,t≤x
noncomputable instance(v:PlV)(t:Int):Decidable (overT v t):=Classical.propDecidable _
def grtT(v:PlV):Int:=(v.jT++v.hT++v.dT).foldl max (-1)
theorem grt_iff{v:PlV}(h:vldP v){t:Int}(ht:TickP t):t≤grtT v↔overT v t:=by
 have h3:=((vldP_iff v).1 h).2.2.1;have h0:=ht.1;have e:¬t≤grtT v↔¬overT v t:=by
  unfold overT grtT;rw[Int.not_le,foldl_max,tk_pos h3];constructor
  ·rintro⟨h1,h2⟩ ⟨x,hx,hl⟩;have:x<t:=by
    refine h2 x ?_;rcases List.mem_append.1 hx with k|k
    ·rcases List.mem_append.1 k with k|k
     ·exact List.mem_append_right _ k
     ·exact List.mem_append_left _ (List.mem_append_right _ (mem_pos.1 k).1)
    ·exact List.mem_append_left _ (List.mem_append_left _ k)
   omega
  ·intro h1;refine⟨by omega,fun x hx=>?_⟩;apply Classical.byContradiction;intro hn;refine h1 ⟨x,?_,by omega⟩;rcases List.mem_append.1 hx with k|k
   ·rcases List.mem_append.1 k with k|k
    ·exact List.mem_append_right _ k
    ·exact List.mem_append_left _ (List.mem_append_right _ (mem_pos.2 ⟨k,by omega⟩))
   ·exact List.mem_append_left _ (List.mem_append_left _ k)
 exact Decidable.not_iff_not.1 e
noncomputable def putE(v:PlV)(t:Int):Int:=if ¬vldP v then 8 else if ¬TickP t then 2 else if overT v t then 32 else if(v.js.length:Int)=v.cap then 38 else 0
def addJ(v:PlV)(t:Int)(b:List Int):PlV:= {v with js:=v.js++[⟨t,b⟩]}
noncomputable def putV(v:PlV)(t:Int)(b:List Int):PlV:=if putE v t=0 then addJ v t b else PlV.zero
section
variable{v:PlV}{t:Int}{b:List Int}
theorem putE_8(h:¬vldP v):putE v t=8:=if_pos h
theorem putE_2(h:vldP v)(h2:¬TickP t):putE v t=2:=by unfold putE;rw[if_neg (not_not_intro h),if_pos h2]
theorem putE_32(h:vldP v)(h2:TickP t)(h3:overT v t):putE v t=32:=by unfold putE;rw[if_neg (not_not_intro h),if_neg (not_not_intro h2),if_pos h3]
theorem putE_38(h:vldP v)(h2:TickP t)(h3:¬overT v t)(h4:(v.js.length:Int)=v.cap):putE v t=38:=by unfold putE;rw[if_neg (not_not_intro h),if_neg (not_not_intro h2),if_neg h3,if_pos h4]
theorem putE_0(h:vldP v)(h2:TickP t)(h3:¬overT v t)(h4:¬(v.js.length:Int)=v.cap):putE v t=0:=by unfold putE;rw[if_neg (not_not_intro h),if_neg (not_not_intro h2),if_neg h3,if_neg h4]
theorem put_no(h:putE v t≠0):putV v t b=PlV.zero:=if_neg h
theorem put_yes(h:putE v t=0):putV v t b=addJ v t b:=if_pos h
end
noncomputable def newE(n k:Int):Int:=if n<1∨n>8∨k<1∨k>3 then 2 else 0
noncomputable def newV(n k:Int):PlV:=if newE n k=0 then⟨n,[],List.replicate k.toNat HdV.zero,[]⟩else PlV.zero
theorem vldE_8{v:PlV}(h:¬vldP v):vldE v=8:=if_neg h
theorem vldE_0{v:PlV}(h:vldP v):vldE v=0:=if_pos h
theorem vldE_ok{v:PlV}:vldE v=0↔vldP v:=by unfold vldE;split<;>simp_all
end S
namespace W
open Go.RowKit G
set_option maxRecDepth 20000
set_option maxHeartbeats 8000000
attribute [local irreducible] RS RX RY Code.wp bodyPost J Ent.blk Ent.irow Ent.iown Ent.wrow Ent.wown Ent.grow Ent.gown Ent.all Ent.emp
structure JbA where
 (t:Int)(a:Option Addr)(n c:Nat)(bs:List Int)
@[reducible] def jbC(j:JbA):List Value:=[.int .i64 j.t, .slice j.a j.n j.c]
@[reducible] def JbA.V(j:JbA):S.JbV:=⟨j.t,j.bs⟩
@[reducible] def HdA.V(h:HdA):S.HdV:=⟨h.s,h.jt,h.bs,h.j.V⟩
def JdA.zero:JdA:=⟨0,0,⟨S.OpV.zero,none,0⟩,List.replicate 32 0,rfl⟩
def HdA.zero:HdA:=⟨0,0,none,0,0,[],JdA.zero⟩
structure PlA where
 (cap:Int)(ja:Option Addr)(jn jc:Nat)(js:List JbA)(ha:Option Addr)(hn hc:Nat)(hs:List HdA)(da:Option Addr)(dn dc:Nat)(ds:List JdA)
@[reducible] def plC(p:PlA):List Value:=[.int .i64 p.cap, .slice p.ja p.jn p.jc, .slice p.ha p.hn p.hc, .slice p.da p.dn p.dc]
def PlA.V(p:PlA):S.PlV:=⟨p.cap,p.js.map JbA.V,p.hs.map HdA.V,p.ds.map JdA.V⟩
def PlA.zero:PlA:=⟨0,none,0,0,[],none,0,0,[],none,0,0,[]⟩
theorem jbC_len(j:JbA):(jbC j).length=2:=rfl
theorem hdC_len'(h:HdA):(hdC h).length=48:=hdC_len h.j.h
theorem jdC_len'(d:JdA):(jdC d).length=45:=jdC_len d.h
theorem jbC_one(j:JbA):∀u∈jbC j,u.oneCell'=true:=by
 intro u hu;simp only[jbC,List.mem_cons,List.not_mem_nil,or_false]at hu;rcases hu with rfl|rfl<;>rfl
theorem jdC_one(d:JdA):∀u∈jdC d,u.oneCell'=true:=by
 intro u hu;simp only[jdC,List.mem_cons,List.mem_append]at hu;rcases hu with rfl|rfl|hu|hu
 ·rfl
 ·rfl
 ·exact opC_one d.o u (by simpa using hu)
 exact ints_one _ _ u hu
theorem hdC_one(h:HdA):∀u∈hdC h,u.oneCell'=true:=by
 intro u hu;rcases List.mem_cons.1 hu with rfl|hu
 ·rfl
 rcases List.mem_cons.1 hu with rfl|hu
 ·rfl
 rcases List.mem_cons.1 hu with rfl|hu
 ·rfl
 exact jdC_one h.j u hu
theorem jdC_cells(d:JdA):(jdC d).all cellB=true:=by
 show((.int .i64 d.t:: .int .u8 d.v::(opC d.o++ints .u8 d.id):List Value)).all cellB=true;rw[List.all_cons,List.all_cons,List.all_append,ints_cellB];rfl
theorem hdC_cells(h:HdA):(hdC h).all cellB=true:=by
 show((.int .u8 h.s:: .int .i64 h.jt:: .slice h.ba h.bn h.bc::jdC h.j:List Value)).all cellB=true;rw[List.all_cons,List.all_cons,List.all_cons,jdC_cells];rfl
instance(j:JbA):LenC (jbC j) 2:=⟨rfl,rfl⟩
instance(d:JdA):LenC (jdC d) 45:=⟨jdC_len' d,jdC_cells d⟩
instance(h:HdA):LenC (hdC h) 48:=⟨hdC_len' h,hdC_cells h⟩
structure JbK(j:JbA):Prop where
 cap:j.n≤j.c
 n:j.n≤600
structure JdK(d:JdA):Prop where
 ok:d.o.o.ok
 cap:d.o.o.n≤d.o.pc
 id:Arr .u8 32 d.id
structure HdK(h:HdA):Prop where
 j:JdK h.j
 cap:h.bn≤h.bc
 n:h.bn≤600
structure JbR(S0:Nat→Prop)(w:World)(j:JbA):Prop where
 k:JbK j
 row:IRow .u8 S0 w j.a j.n j.bs
structure HdR(S0:Nat→Prop)(w:World)(h:HdA):Prop where
 k:HdK h
 j:JdR S0 w h.j
 row:IRow .u8 S0 w h.ba h.bn h.bs
theorem JdR.k{S0:Nat→Prop}{w:World}{d:JdA}(h:JdR S0 w d):JdK d:=⟨h.o.ok,h.o.cap,h.id⟩
theorem JbR.ext{S0:Nat→Prop}{w w':World}{j:JbA}(h:JbR S0 w j)(x:Ext w w'):JbR S0 w' j:=⟨h.k,h.row.ext x⟩
theorem HdR.ext{S0:Nat→Prop}{w w':World}{j:HdA}(h:HdR S0 w j)(x:Ext w w'):HdR S0 w' j:=⟨h.k,h.j.ext x,h.row.ext x⟩
structure PlR(S0:Nat→Prop)(w:World)(p:PlA):Prop where
 jr:GRow jbC 2 S0 w p.ja p.jn p.js
 hr:GRow hdC 48 S0 w p.ha p.hn p.hs
 dr:GRow jdC 45 S0 w p.da p.dn p.ds
 ji:∀j∈p.js,JbR S0 w j
 hi:∀h∈p.hs,HdR S0 w h
 di:∀d∈p.ds,JdR S0 w d
 cap:p.jn≤p.jc∧p.hn≤p.hc∧p.dn≤p.dc∧p.jn≤100∧p.hn≤100∧p.dn≤200
section
variable{S0:Nat→Prop}{w w':World}{p:PlA}
theorem PlR.ext(h:PlR S0 w p)(x:Ext w w'):PlR S0 w' p:=⟨h.jr.ext x,h.hr.ext x,h.dr.ext x,fun j hj=>(h.ji j hj).ext x,fun j hj=>(h.hi j hj).ext x,fun j hj=>(h.di j hj).ext x,h.cap⟩
theorem PlR.j(h:PlR S0 w p){i:Nat}{j:JbA}(hj:p.js[i]? =some j):JbR S0 w j:=h.ji j (List.mem_of_getElem? hj)
theorem PlR.h(h:PlR S0 w p){i:Nat}{j:HdA}(hj:p.hs[i]? =some j):HdR S0 w j:=h.hi j (List.mem_of_getElem? hj)
theorem PlR.d(h:PlR S0 w p){i:Nat}{j:JdA}(hj:p.ds[i]? =some j):JdR S0 w j:=h.di j (List.mem_of_getElem? hj)
theorem PlR.jl(h:PlR S0 w p):p.V.js.length=p.jn:=(List.length_map _).trans h.jr.len
theorem PlR.hl(h:PlR S0 w p):p.V.hs.length=p.hn:=(List.length_map _).trans h.hr.len
theorem PlR.dl(h:PlR S0 w p):p.V.ds.length=p.dn:=(List.length_map _).trans h.dr.len
end
section
variable{p:PlA}{i:Nat}
theorem PlA.jAt{j:JbA}(hj:p.js[i]? =some j):p.V.js.getD i S.JbV.zero=j.V:=by
 unfold PlA.V;rw[List.getD_eq_getElem?_getD,List.getElem?_map,hj];rfl
theorem PlA.hAt{j:HdA}(hj:p.hs[i]? =some j):p.V.hs.getD i S.HdV.zero=j.V:=by
 unfold PlA.V;rw[List.getD_eq_getElem?_getD,List.getElem?_map,hj];rfl
theorem PlA.dAt{j:JdA}(hj:p.ds[i]? =some j):p.V.ds.getD i S.JdV.zero=j.V:=by
 unfold PlA.V;rw[List.getD_eq_getElem?_getD,List.getElem?_map,hj];rfl
theorem PlA.jtAt{j:JbA}(hj:p.js[i]? =some j):p.V.jT.getD i 0=j.t:=by
 unfold PlA.V S.PlV.jT;rw[List.getD_eq_getElem?_getD,List.getElem?_map,List.getElem?_map,hj];rfl
theorem PlA.htAt{j:HdA}(hj:p.hs[i]? =some j):p.V.hT.getD i 0=S.handT j.V:=by
 unfold PlA.V S.PlV.hT;rw[List.getD_eq_getElem?_getD,List.getElem?_map,List.getElem?_map,hj];rfl
theorem PlA.dtAt{j:JdA}(hj:p.ds[i]? =some j):p.V.dT.getD i 0=j.t:=by
 unfold PlA.V S.PlV.dT;rw[List.getD_eq_getElem?_getD,List.getElem?_map,List.getElem?_map,hj];rfl
end
theorem handP_V{h:HdA}(hl:h.bs.length=h.bn):HandP h↔S.handP h.V:=by
 unfold HandP S.handP JobZ JudZ S.jobZ S.judZ HdA.V;rw[hl]
def jbE(j:JbA):Ent:= .irow .u8 j.a j.n j.bs
def jdE(d:JdA):Ent:= .wrow .u8 32 d.o.pa d.o.o.n d.o.o.ids
def hdE(h:HdA):Ent:= .all [.irow .u8 h.ba h.bn h.bs, .wrow .u8 32 h.j.o.pa h.j.o.o.n h.j.o.o.ids]
@[reducible] def plE(p:PlA):List Ent:=[.gown jbC 2 44 p.ja p.jn p.jc p.js, .gown hdC 48 46 p.ha p.hn p.hc p.hs, .gown jdC 45 36 p.da p.dn p.dc p.ds, .all (p.js.map jbE), .all (p.hs.map hdE), .all (p.ds.map jdE)]
structure PlP(v:S.PlV)(p:PlA):Prop where
 V:p.V=v
 j:∀j∈p.js,JbK j
 h:∀h∈p.hs,HdK h
 d:∀d∈p.ds,JdK d
 n:p.jn≤100∧p.hn≤100∧p.dn≤200
theorem PlP.zero:PlP S.PlV.zero PlA.zero:=⟨rfl,fun _ h=>(by cases h),fun _ h=>(by cases h),fun _ h=>(by cases h),by decide⟩
theorem jdR_e{d:JdA}{S:Nat→Prop}{w:World}(k:JdK d)(h:(jdE d).ok S w):JdR S w d:=⟨⟨k.ok,wrow_e h,k.cap⟩,k.id⟩
theorem jbR_e{j:JbA}{S:Nat→Prop}{w:World}(k:JbK j)(h:(jbE j).ok S w):JbR S w j:=⟨k,irow_e h⟩
theorem hdR_e{d:HdA}{S:Nat→Prop}{w:World}(k:HdK d)(h:(hdE d).ok S w):HdR S w d:=by
 obtain⟨A,B,h1,h2,_,h4,C,D,h6,h7,_,h8,_⟩:=all_e h;exact⟨k,⟨⟨k.j.ok,(wrow_e h8).weaken fun b _ hb=>h2 b (h6 b hb),k.j.cap⟩,k.j.id⟩,(irow_e h4).weaken fun b _ hb=>h1 b hb⟩
theorem JdR.weak{S T:Nat→Prop}{w:World}{d:JdA}(h:JdR S w d)(k:∀b,S b→T b):JdR T w d:=⟨⟨h.o.ok,h.o.row.weaken fun b _ hb=>k b hb,h.o.cap⟩,h.id⟩
theorem HdR.weak{S T:Nat→Prop}{w:World}{d:HdA}(h:HdR S w d)(k:∀b,S b→T b):HdR T w d:=⟨h.k,h.j.weak k,h.row.weaken fun b _ hb=>k b hb⟩
theorem JbR.weak{S T:Nat→Prop}{w:World}{d:JbA}(h:JbR S w d)(k:∀b,S b→T b):JbR T w d:=⟨h.k,h.row.weaken fun b _ hb=>k b hb⟩
theorem PlR.own{S0:Nat→Prop}{w0:World}{L:List Ent}{p:PlA}{v:S.PlV}{F1:Option Addr→Nat→Nat→List JbA→List Ent}{F2:Option Addr→Nat→Nat→List HdA→List Ent}{F3:Option Addr→Nat→Nat→List JdA→List Ent}{F4 F5 F6:Ent→List Ent}
  [R1:GO L p.ja jbC 2 44 p.jn p.jc p.js F1][R2:GO L p.ha hdC 48 46 p.hn p.hc p.hs F2][R3:GO L p.da jdC 45 36 p.dn p.dc p.ds F3][R4:RE L (.all (p.js.map jbE)) F4][R5:RE L (.all (p.hs.map hdE)) F5][R6:RE L (.all (p.ds.map jdE)) F6](hp:PlP v p)(w:World)(M:Mem S0 w0 L w):PlR (fun _=>True) w p:=by
 obtain⟨A,_,a⟩:=M.get (R1.h p.ja p.jn p.jc p.js).same;obtain⟨B,_,b⟩:=M.get (R2.h p.ha p.hn p.hc p.hs).same;obtain⟨C,_,c⟩:=M.get (R3.h p.da p.dn p.dc p.ds).same;obtain⟨D,_,d⟩:=M.get (R4.h (.all (p.js.map jbE))).same;obtain⟨E,_,e⟩:=M.get (R5.h (.all (p.hs.map hdE))).same;obtain⟨F,_,f⟩:=M.get (R6.h (.all (p.ds.map jdE))).same;have a:=(gown_e a).1;have b:=(gown_e b).1;have c:=(gown_e c).1;refine⟨a.row.weaken fun _ _ _=>trivial,b.row.weaken fun _ _ _=>trivial,c.row.weaken fun _ _ _=>trivial,fun j hj=>?_,fun j hj=>?_,fun j hj=>?_,a.capn,b.capn,c.capn,hp.n⟩
 ·obtain⟨S',_,k⟩:=sep_mem (List.mem_map.2 ⟨j,hj,rfl⟩) (all_e d);exact(jbR_e (hp.j j hj) k).weak fun _ _=>trivial
 ·obtain⟨S',_,k⟩:=sep_mem (List.mem_map.2 ⟨j,hj,rfl⟩) (all_e e);exact(hdR_e (hp.h j hj) k).weak fun _ _=>trivial
 obtain⟨S',_,k⟩:=sep_mem (List.mem_map.2 ⟨j,hj,rfl⟩) (all_e f);exact(jdR_e (hp.d j hj) k).weak fun _ _=>trivial
end W
namespace G
open Go.RowKit
section
end
section
variable{S0:Nat→Prop}{w0:World}{L Lq:List Ent}{P:Program}{l:List Value}{l0:List Oper}{K:List Value→World→Prop}
def bs(k n:Nat):Array Bool:=((List.range k).map fun i=>n.testBit i).toArray
end
end G
end Go.Proofs.YtjjbdaiioociaaaGreatDoor
