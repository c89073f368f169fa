/-
  Part 13 of the lemmas of these laws: PoolNames.
-/
import Derived.Test.YtjjbdaiioociaaaGreatDoorPPn12
set_option linter.unusedVariables false
set_option linter.unusedSimpArgs false
open Go.Proofs.Tryz
namespace Go.Proofs.YtjjbdaiioociaaaGreatDoor
namespace W
open Go.RowKit G
set_option maxRecDepth 20000
set_option maxHeartbeats 8000000
attribute [local irreducible] RS RX RY Code.wp bodyPost J Ent.blk Ent.irow Ent.iown Ent.wrow Ent.wown Ent.grow Ent.gown Ent.all Ent.emp
instance:Inf prog 41 4 80 [.int .i64 0, .slice none 0 0, .slice none 0 0, .slice none 0 0]:=⟨TI.of (v:= .agg #[.int .i64 0, .slice none 0 0, .slice none 0 0, .slice none 0 0]) (by kernel_rfl) rfl⟩
instance:SInf prog 41 [(0,1),(1,1),(2,1),(3,1)]:=⟨_,underlying41,by kernel_rfl,by kernel_rfl⟩
instance:Siz prog 41 4:=⟨by kernel_rfl⟩
instance:Und prog 37 (.slice 46):=⟨underlying37⟩
instance:Inf prog 46 48 200 [.int .u8 0, .int .i64 0, .slice none 0 0, .int .i64 0, .int .u8 0, .int .u32 0, .slice none 0 0, .int .u64 0, .int .u8 0, .string .empty, .int .u8 0, .int .i64 0, .int .u64 0, .string .empty, .int .u32 0, .int .u32 0, .int .u8 0, .int .u8 0, .int .u8 0, .int .u8 0, .int .u8 0, .int .u8 0, .int .u8 0, .int .u8 0, .int .u8 0, .int .u8 0, .int .u8 0, .int .u8 0, .int .u8 0, .int .u8 0, .int .u8 0, .int .u8 0, .int .u8 0, .int .u8 0, .int .u8 0, .int .u8 0, .int .u8 0, .int .u8 0, .int .u8 0, .int .u8 0, .int .u8 0, .int .u8 0, .int .u8 0, .int .u8 0, .int .u8 0, .int .u8 0, .int .u8 0, .int .u8 0]:=⟨TI.of (v:= .agg #[.int .u8 0, .int .i64 0, .slice none 0 0, .int .i64 0, .int .u8 0, .int .u32 0, .slice none 0 0, .int .u64 0, .int .u8 0, .string .empty, .int .u8 0, .int .i64 0, .int .u64 0, .string .empty, .int .u32 0, .int .u32 0, .int .u8 0, .int .u8 0, .int .u8 0, .int .u8 0, .int .u8 0, .int .u8 0, .int .u8 0, .int .u8 0, .int .u8 0, .int .u8 0, .int .u8 0, .int .u8 0, .int .u8 0, .int .u8 0, .int .u8 0, .int .u8 0, .int .u8 0, .int .u8 0, .int .u8 0, .int .u8 0, .int .u8 0, .int .u8 0, .int .u8 0, .int .u8 0, .int .u8 0, .int .u8 0, .int .u8 0, .int .u8 0, .int .u8 0, .int .u8 0, .int .u8 0, .int .u8 0]) (by kernel_rfl) rfl⟩
instance:Siz prog 46 48:=⟨by kernel_rfl⟩
instance:Agg prog 41 4:=⟨_,underlying41,rfl,by kernel_rfl⟩
instance:Ents prog 70:=⟨.mk func70 (by kernel_rfl) rfl⟩
instance:Fld prog 41 0 0:=⟨_,_,1,underlying41,rfl,by kernel_rfl,by decide,rfl⟩
instance:Fld prog 41 1 1:=⟨_,_,1,underlying41,rfl,by kernel_rfl,by decide,rfl⟩
instance:Sca prog 38:=⟨_,underlying38,rfl⟩
instance:Und prog 38 (.slice 44):=⟨underlying38⟩
instance:Fld prog 41 2 2:=⟨_,_,1,underlying41,rfl,by kernel_rfl,by decide,rfl⟩
instance:Sca prog 37:=⟨_,underlying37,rfl⟩
instance:Fld prog 41 3 3:=⟨_,_,1,underlying41,rfl,by kernel_rfl,by decide,rfl⟩
instance:Sca prog 39:=⟨_,underlying39,rfl⟩
instance:Und prog 39 (.slice 36):=⟨underlying39⟩
instance:Siz prog 36 45:=⟨by kernel_rfl⟩
instance:Inf prog 36 45 160 [.int .i64 0, .int .u8 0, .int .u32 0, .slice none 0 0, .int .u64 0, .int .u8 0, .string .empty, .int .u8 0, .int .i64 0, .int .u64 0, .string .empty, .int .u32 0, .int .u32 0, .int .u8 0, .int .u8 0, .int .u8 0, .int .u8 0, .int .u8 0, .int .u8 0, .int .u8 0, .int .u8 0, .int .u8 0, .int .u8 0, .int .u8 0, .int .u8 0, .int .u8 0, .int .u8 0, .int .u8 0, .int .u8 0, .int .u8 0, .int .u8 0, .int .u8 0, .int .u8 0, .int .u8 0, .int .u8 0, .int .u8 0, .int .u8 0, .int .u8 0, .int .u8 0, .int .u8 0, .int .u8 0, .int .u8 0, .int .u8 0, .int .u8 0, .int .u8 0]:=⟨TI.of (v:= .agg #[.int .i64 0, .int .u8 0, .int .u32 0, .slice none 0 0, .int .u64 0, .int .u8 0, .string .empty, .int .u8 0, .int .i64 0, .int .u64 0, .string .empty, .int .u32 0, .int .u32 0, .int .u8 0, .int .u8 0, .int .u8 0, .int .u8 0, .int .u8 0, .int .u8 0, .int .u8 0, .int .u8 0, .int .u8 0, .int .u8 0, .int .u8 0, .int .u8 0, .int .u8 0, .int .u8 0, .int .u8 0, .int .u8 0, .int .u8 0, .int .u8 0, .int .u8 0, .int .u8 0, .int .u8 0, .int .u8 0, .int .u8 0, .int .u8 0, .int .u8 0, .int .u8 0, .int .u8 0, .int .u8 0, .int .u8 0, .int .u8 0, .int .u8 0, .int .u8 0]) (by kernel_rfl) rfl⟩
instance:Agg prog 46 48:=⟨_,underlying46,rfl,by kernel_rfl⟩
instance:Ents prog 31:=⟨.mk func31 (by kernel_rfl) rfl⟩
instance:Ents prog 32:=⟨.mk func32 (by kernel_rfl) rfl⟩
instance:Ents prog 33:=⟨.mk func33 (by kernel_rfl) rfl⟩
instance:Siz prog 44 2:=⟨by kernel_rfl⟩
instance:Agg prog 44 2:=⟨_,underlying44,rfl,by kernel_rfl⟩
instance:Inf prog 44 2 32 [.int .i64 0, .slice none 0 0]:=⟨TI.of (v:= .agg #[.int .i64 0, .slice none 0 0]) (by kernel_rfl) rfl⟩
theorem nil_hands(w:World):∀n,Sep ((List.replicate n HdA.zero).map hdE) no w
 |0=>trivial
 |n+1=>by
  rw[List.replicate_succ,List.map_cons];refine⟨no,no,fun _ h=>h.elim,fun _ h=>h.elim,fun _ h=>h.elim,?_,nil_hands w n⟩;exact all_i ⟨no,no,fun _ h=>h.elim,fun _ h=>h.elim,fun _ h=>h.elim,irow_i IRow.nil,no,no,fun _ h=>h.elim,fun _ h=>h.elim,fun _ h=>h.elim,wrow_i WRow.nil,trivial⟩
theorem zero_ids:Arr .u8 32 (List.replicate 32 (0:Int)):=⟨by simp,fun x hx=>by rw[List.mem_replicate]at hx;rw[hx.2];simp only[lim];omega⟩
theorem JdK.zero:JdK JdA.zero:=⟨S.OpV.zero_ok,Nat.le_refl _,zero_ids⟩
theorem HdK.zero:HdK HdA.zero:=⟨JdK.zero,Nat.le_refl _,Nat.zero_le _⟩
@[reducible] def plT(q:PlA×Int):Value:= .tuple #[.agg (plC q.1).toArray, .int .i64 q.2]
theorem inC_one(x:Int):∀u∈inC x,u.oneCell'=true:=fun u hu=>by rw[List.mem_singleton]at hu;subst hu;rfl
theorem inAt{l:List Int}{i:Nat}{x:Int}(h:l[i]? =some x):l.getD i 0=x:=by rw[List.getD_eq_getElem?_getD,h];rfl
theorem J.nilPl{S0:Nat→Prop}{w0:World}{L:List Ent}{X:World→Prop}(k:J S0 w0 (plE PlA.zero++L) X):J S0 w0 L X:=
 J.noA (J.noA (J.noA (J.nilG jdC 45 36 jdC_len' (J.nilG hdC 48 46 hdC_len' (J.nilG jbC 2 44 jbC_len k)))))
theorem newP(n:Int)(k:Nat)(h:S.newE n k=0)(b:Nat):PlP (S.newV n k) ⟨n,none,0,0,[],some ⟨b,0,none⟩,k,k,List.replicate k HdA.zero,none,0,0,[]⟩:=by
 have hk:k≤3:=by
  unfold S.newE at h;split at h
  ·cases h
  omega
 refine⟨?_,fun _ h=>(by cases h),fun j hj=>?_,fun _ h=>(by cases h),by dsimp only;omega⟩
 ·unfold S.newV;rw[if_pos h];unfold PlA.V;simp[HdA.V,HdA.zero,JdA.zero,S.HdV.zero,S.JdV.zero]
 rw[List.mem_replicate]at hj;rw[hj.2];exact HdK.zero
theorem newZ{n:Int}{k:Int}(h:S.newE n k=2):PlP (S.newV n k) PlA.zero:=by
 have:S.newV n k=S.PlV.zero:=by
  unfold S.newV;rw[h];rfl
 rw[this];exact PlP.zero
theorem poolNew(n k:Int)(w:World):
  Calls prog 9 #[.int .i64 n, .int .i64 k] w (Gv w plT (fun q=>plE q.1) fun q=>PlP (S.newV n k) q.1∧q.2=S.newE n k):=by
 have h2:n<1∨n>8∨k<1∨k>3→S.newE n k=2:=fun h=>by unfold S.newE;rw[if_pos h]
 have h0:¬(n<1∨n>8∨k<1∨k>3)→S.newE n k=0:=fun h=>by unfold S.newE;rw[if_neg h]
 refine J.enter 23 func9 rfl rfl ?_;refine run ?_;refine J.alloc rfl fun b1=>?_
 refine run ?_;refine J.spd rfl rfl rfl (fun c1=>?_) (fun c1=>?_)
 ·have he:=h2 (by omega);refine run ?_;refine J.nilPl ?_;exact J.finG (PlA.zero,S.newE n k) (by rw[he];rfl) ⟨newZ he,rfl⟩ sb
 refine run ?_;refine J.spd rfl rfl rfl (fun c2=>?_) (fun c2=>?_)
 ·have he:=h2 (by omega);refine run ?_;refine J.nilPl ?_;exact J.finG (PlA.zero,S.newE n k) (by rw[he];rfl) ⟨newZ he,rfl⟩ sb
 refine run ?_;refine J.spd rfl rfl rfl (fun c3=>?_) (fun c3=>?_)
 ·have he:=h2 (by omega);refine run ?_;refine J.nilPl ?_;exact J.finG (PlA.zero,S.newE n k) (by rw[he];rfl) ⟨newZ he,rfl⟩ sb
 refine run ?_;refine J.ifd rfl (fun c4=>?_) (fun c4=>?_)
 ·have he:=h2 (by omega);refine run ?_;refine J.nilPl ?_;exact J.finG (PlA.zero,S.newE n k) (by rw[he];rfl) ⟨newZ he,rfl⟩ sb
 have he:=h0 (by omega);obtain⟨m,rfl⟩:∃m:Nat,k=m:=⟨k.toNat,by omega⟩
 refine run ?_;refine J.mkG hdC HdA.zero hdC_len' rfl rfl rfl rfl fun b2=>?_
 refine run ?_;refine J.noA ?_;refine J.newA ((List.replicate m HdA.zero).map hdE) ?_ fun w=>nil_hands w m;refine J.noA ?_;refine J.nilG jdC 45 36 jdC_len' ?_;refine J.front (.gown hdC 48 46 (some ⟨b2,0,none⟩) m m (List.replicate m HdA.zero)) ?_;refine J.nilG jbC 2 44 jbC_len ?_;exact J.finG (⟨n,none,0,0,[],some ⟨b2,0,none⟩,m,m,List.replicate m HdA.zero,none,0,0,[]⟩,S.newE n m) (by rw[he]) ⟨newP n m he b2,rfl⟩ sb
theorem indexI{S0:Nat→Prop}(a:Option Addr)(n c:Nat)(xs:List Int)(x:Int)(w:World)(D0:GRow inC 1 S0 w a n xs)(hn:n≤100000):
  Calls prog 70 #[.slice a n c, .int .i64 x] w (Gv w (fun r:Int=> .int .i64 r) (fun _=>[]) fun r=>0≤r↔x∈xs):=by
 have hl:=D0.len;refine J.enter 17 func70 rfl rfl ?_;refine run ?_;refine J.loopS (A:=Int) (fun p=>[(8, .int .i64 p)]) [4,5,9,10,11,12,13,14,15,16,17,18] (fun p=>(0≤p∧p≤n)∧∀i,i<p.toNat→xs.getD i 0≠x) (fun p=>n - p.toNat) 0 (by kernel_rfl) ⟨by omega,fun i hi=>by omega⟩ (fun p j hI=>?_);obtain⟨h1,hI⟩:=hI;refine run ?_;refine J.ifd rfl (fun c1=>?_) (fun c1=>?_)
 ·obtain⟨y,hy⟩:=D0.ex (i:=p) (by omega);have ey:=inAt hy;refine run ?_;refine J.ife rfl (fun c2=>?_) (fun c2=>?_)
  ·refine run ?_;refine J.finG p rfl ⟨fun _=>?_,fun _=>by omega⟩ (List.nil_sublist _);exact Classical.byContradiction fun hn=>S.not_mem_getD.2 hn p.toNat (by omega) (ey.trans c2.symm)
  refine run ?_;refine J.nextS (p+1) ⟨rfl,trivial⟩ (by kernel_rfl) ⟨by omega,fun i hi=>?_⟩ (by omega);rcases Nat.lt_or_ge i p.toNat with e|e
  ·exact hI i e
  obtain rfl:i=p.toNat:=by omega
  exact fun h=>c2 (h.symm.trans ey)
 refine run ?_;exact J.finG (-1) rfl ⟨fun h=>by omega,fun h=>absurd h (S.not_mem_getD.1 fun i hi=>hI i (by omega))⟩ (List.nil_sublist _)
theorem hasI{S0:Nat→Prop}(a:Option Addr)(n c:Nat)(xs:List Int)(x:Int)(w:World)(D0:GRow inC 1 S0 w a n xs)(hn:n≤100000):
  Calls prog 32 #[.slice a n c, .int .i64 x] w (Ret w fun v _=>v= .bool (decide (x∈xs))):=by
 refine J.enter 7 func32 rfl rfl ?_;refine run ?_;refine J.call rfl rfl (fun w' M=>indexI a n c xs x w' (D0.ext M.ext) hn) fun r hr=>?_
 refine run ?_;exact J.fin (congrArg _ (decide_eq_decide.2 hr))
theorem maxI{S0:Nat→Prop}(a:Option Addr)(n c:Nat)(xs:List Int)(w:World)(D0:GRow inC 1 S0 w a n xs)(hn:n≤100000)(h0:1≤n):
  Calls prog 33 #[.slice a n c] w (Ret w fun v _=>v= .int .i64 (S.maxL xs)):=by
 have hl:=D0.len;refine J.enter 24 func33 rfl rfl ?_;refine run ?_;refine J.ifd rfl (fun c1=>absurd c1 (by omega)) (fun c1=>?_);obtain⟨x0,hx0⟩:=D0.ex (i:=0) (by omega);refine run ?_;refine J.loopS (A:=Int×Int) (fun p=>[(3, .int .i64 p.2),(4, .int .i64 p.1)]) [12,13,14,15,16,17,18,19,20,21,22,23] (fun p=>(1≤p.1∧p.1≤n)∧p.2=S.maxL (xs.take p.1.toNat)) (fun p=>n - p.1.toNat) (1,x0) (by kernel_rfl) ⟨by dsimp only;omega,?_⟩ (fun p j hI=>?_)
 ·cases xs with
  |nil=>cases hx0
  |cons x xs=>cases hx0;simp[S.maxL]
 obtain⟨p,m⟩:=p;obtain⟨h1,hI⟩:=hI;dsimp only at h1 hI⊢;refine run ?_;refine J.ifd rfl (fun c2=>?_) (fun c2=>?_)
 ·obtain⟨y,hy⟩:=D0.ex (i:=p) (by omega);have ey:=inAt hy;refine run ?_;refine J.nextS (p+1,if y>m then y else m) ⟨rfl,rfl,trivial⟩ (by kernel_rfl) ⟨by dsimp only;omega,?_⟩ (by dsimp only;omega);dsimp only;rw[show(p+1).toNat=p.toNat+1 by omega,S.maxL_step (by omega) (by omega),←hI,ey]
 refine run ?_;refine J.fin ?_;rw[hI,List.take_of_length_le (by omega)]
structure TkA where
 (n:Nat)(a:Option Addr)(c:Nat)
theorem poolCheck{S0:Nat→Prop}(p:PlA)(TK:TypeId)(w:World)(K0:Kst w TK)(R:PlR S0 w p):
  Calls prog 8 #[.agg (plC p).toArray] w (Ret w fun v _=>v= .int .i64 (S.vldE p.V)):=by
 have G1:=R.jr;have G2:=R.hr;have G3:=R.dr;have hjl:=R.jl;have hhl:=R.hl;have hdl:=R.dl;have hcp:=R.cap;have hcp2:=R.cap.2.2.2;have hdtl:p.V.dT.length=p.dn:=(List.length_map _).trans hdl;have hhtl:p.V.hT.length=p.hn:=(List.length_map _).trans hhl;have no:¬S.vldP p.V→Value.int .i64 8= .int .i64 (S.vldE p.V):=fun h=>congrArg _ (S.vldE_8 h).symm;have hc:S.vldP p.V→1≤p.cap∧p.cap≤8∧(p.jn:Int)≤p.cap∧1≤p.hn∧p.hn≤3∧p.dn≤60:=fun h=>by
  have h1:=h.1;unfold S.C1 at h1;rw[hjl,hhl,hdl]at h1;exact h1
 refine J.enter 129 func8 rfl rfl ?_;refine run ?_;refine J.box rfl rfl rfl fun b1=>?_
 refine run ?_;refine J.spd rfl rfl rfl (fun c1=>?_) (fun c1=>?_)
 ·refine run ?_;exact J.fin (no fun h=>by have:=hc h;omega)
 refine run ?_;refine J.spd rfl rfl rfl (fun c2=>?_) (fun c2=>?_)
 ·refine run ?_;exact J.fin (no fun h=>by have:=hc h;omega)
 refine run ?_;refine J.spd rfl rfl rfl (fun c3=>?_) (fun c3=>?_)
 ·refine run ?_;exact J.fin (no fun h=>by have:=hc h;omega)
 refine run ?_;refine J.spd rfl rfl rfl (fun c4=>?_) (fun c4=>?_)
 ·refine run ?_;exact J.fin (no fun h=>by have:=hc h;omega)
 refine run ?_;refine J.spd rfl rfl rfl (fun c5=>?_) (fun c5=>?_)
 ·refine run ?_;exact J.fin (no fun h=>by have:=hc h;omega)
 refine run ?_;refine J.ifd rfl (fun c6=>?_) (fun c6=>?_)
 ·refine run ?_;exact J.fin (no fun h=>by have:=hc h;omega)
 have h1:S.C1 p.V:=by
  unfold S.C1;rw[hjl,hhl,hdl];show 1≤p.cap∧p.cap≤8∧(p.jn:Int)≤p.cap∧1≤p.hn∧p.hn≤3∧p.dn≤60;omega
 refine run ?_;refine J.nilG inC 1 3 (fun _=>rfl) ?_;refine J.loop (A:=TkA) (fun q=>[(3, .slice q.a q.n q.c),(50, .int .i64 (q.n:Nat))]) [2,4,5,51,52,53,54,55,56,57,58,59,60,61,62,63,64,65,66,67,68,69,70,71,72,73,74,75,76,77,78,79] (fun q=>[.gown inC 1 3 q.a q.n q.c (p.V.dT.take q.n), .blk b1 (plC p) 41]) (fun q=>q.n≤p.dn∧∀k,k<q.n→S.dn1 p.V k) (fun q=>p.dn - q.n) ⟨0,none,0⟩ (by kernel_rfl) ⟨Nat.zero_le _,fun k hk=>by cases hk⟩ (fun q j hI=>?_);obtain⟨hq,hI⟩:=hI;refine run ?_;refine J.ifd rfl (fun d1=>?_) (fun d1=>?_)
 ·obtain⟨z,hz⟩:=G3.ex (i:=(q.n:Nat)) (by omega);have RD:=R.d hz;have hz':=hz;rw[Int.toNat_natCast]at hz';have ev:=PlA.dAt hz';have et0:=PlA.dtAt hz';have et:p.V.dT.take q.n++[z.t]=p.V.dT.take (q.n+1):=by rw[←S.takeT_snoc (by omega),et0]
  have hdn:S.vldP p.V→S.dn1 p.V q.n:=fun h=>h.2.1 q.n (by omega);refine run ?_;refine J.alloc rfl fun b2=>?_
  refine run ?_;refine J.regionX [(0, .q),(1, .e),(2, .q),(3, .q),(4, .q),(5, .q),(6, .q),(7, .q),(8, .q),(9, .q),(10, .q),(11, .q),(12, .q),(13, .q),(14, .q),(15, .q),(16, .q),(17, .q),(18, .q)] mixed (by kernel_rfl) ?_;refine run ?_;refine J.callp rfl rfl (fun w' M=>poolFinding z TK w' (K0.ext M.ext) (RD.ext M.ext)) ?_;refine run ?_;refine J.spt rfl rfl rfl (fun d2=>?_) (fun d2=>?_)
  ·refine run ?_;exact J.fin (no fun h=>of_decide_eq_false d2 (by have:=(hdn h).1;rwa[ev]at this))
  have d2:=of_decide_eq_true d2;refine run ?_;refine J.spd rfl rfl rfl (fun d3=>?_) (fun d3=>?_)
  ·obtain⟨y,hy⟩:=G3.ex (i:=(q.n:Nat) - 1) (by omega);have hy':=hy;rw[show(((q.n:Nat):Int) - 1).toNat=q.n - 1 by omega]at hy';have ey:=PlA.dtAt hy';refine run ?_;refine J.ifd rfl (fun d4=>?_) (fun d4=>?_)
   ·refine run ?_;exact J.fin (no fun h=>by have:=(hdn h).2 (by omega);rw[ey,et0]at this;omega)
   have hok:S.dn1 p.V q.n:=⟨by rw[ev];exact d2,fun _=>by rw[ey,et0];omega⟩
   refine run ?_;refine J.b1V inC z.t (fun _=>rfl) rfl rfl rfl rfl fun ba=>?_
   refine J.apG rfl rfl RG.own' inC_one fun a' c'=>?_
   rw[et];refine run ?_
   exact J.next ⟨q.n + 1, a', c'⟩ ⟨rfl, rfl, trivial⟩ (by kernel_rfl) ⟨by dsimp only; omega, fun k hk => by
    rcases Nat.lt_or_ge k q.n with e | e
    ·exact hI k e
    obtain rfl : k = q.n := by dsimp only at hk; omega
    exact hok⟩ (by dsimp only; omega)
  have hok:S.dn1 p.V q.n:=⟨by rw[ev];exact d2,fun h=>absurd h (by omega)⟩
  refine run ?_;refine J.b1V inC z.t (fun _=>rfl) rfl rfl rfl rfl fun ba=>?_
  refine J.apG rfl rfl RG.own' inC_one fun a' c'=>?_
  rw[et];refine run ?_
  exact J.next ⟨q.n + 1, a', c'⟩ ⟨rfl, rfl, trivial⟩ (by kernel_rfl) ⟨by dsimp only; omega, fun k hk => by
   rcases Nat.lt_or_ge k q.n with e | e
   ·exact hI k e
   obtain rfl : k = q.n := by dsimp only at hk; omega
   exact hok⟩ (by dsimp only; omega)
 have h2:S.C2 p.V:=fun k hk=>hI k (by omega);obtain⟨qn,qa,qc⟩:=q;dsimp only at hq hI d1⊢;obtain rfl:qn=p.dn:=by omega
 refine J.re (.gown inC 1 3 qa p.dn qc (p.V.dT.take p.dn)) (.gown inC 1 3 qa (p.dn+0) qc (p.V.dT++p.V.hT.take 0)) (fun _ _ h=>by rw[List.take_of_length_le (by omega)]at h;rw[List.take_zero,List.append_nil];exact h) ?_;clear hI;refine run ?_;refine J.loop (A:=TkA) (fun q=>[(3, .slice q.a (p.dn+q.n) q.c),(83, .int .i64 (q.n:Nat))]) [2,7,8,9,84,85,86,87,88,89,90,91,92,93,94,95,96,97,98,99,100,101,102,103,104,105,106,107] (fun q=>[.gown inC 1 3 q.a (p.dn+q.n) q.c (p.V.dT++p.V.hT.take q.n), .blk b1 (plC p) 41]) (fun q=>q.n≤p.hn∧∀k,k<q.n→S.hd1 p.V k) (fun q=>p.hn - q.n) ⟨0,qa,qc⟩ (by kernel_rfl) ⟨Nat.zero_le _,fun k hk=>by cases hk⟩ (fun q j hI=>?_);obtain⟨hq,hI⟩:=hI;refine run ?_;refine J.ifd rfl (fun d1=>?_) (fun d1=>?_)
 ·obtain⟨z,hz⟩:=G2.ex (i:=(q.n:Nat)) (by omega);have RH:=R.h hz;have hz':=hz;rw[Int.toNat_natCast]at hz';have ev:=PlA.hAt hz';have et0:=PlA.htAt hz';have et:(p.V.dT++p.V.hT.take q.n)++[HandT z]=p.V.dT++p.V.hT.take (q.n+1):=by rw[←S.takeT_snoc (by omega),et0,List.append_assoc];rfl
  have hdn:S.vldP p.V→S.hd1 p.V q.n:=fun h=>h.2.2.1 q.n (by omega);have hpv:=handP_V RH.row.len;refine run ?_;refine J.alloc rfl fun b2=>?_
  refine run ?_;refine J.callp rfl rfl (fun w' M=>poolHand z TK w' (K0.ext M.ext) (RH.j.ext M.ext)) ?_;refine run ?_;refine J.spt rfl rfl rfl (fun d2=>?_) (fun d2=>?_)
  ·refine run ?_;exact J.fin (no fun h=>of_decide_eq_false d2 (hpv.2 (by have:=(hdn h).1;rwa[ev]at this)))
  have d2:=of_decide_eq_true d2;refine run ?_;refine J.spd rfl rfl rfl (fun d3=>?_) (fun d3=>?_)
  ·refine run ?_;refine J.callp rfl rfl (fun w' M=>(RG.own' (a:=q.a) w' M).elim fun _ k0=>hasI _ _ _ _ _ w' k0 (by omega)) ?_;refine run ?_;refine J.ifd rfl (fun d4=>?_) (fun d4=>?_)
   ·refine run ?_;exact J.fin (no fun h=>(hdn h).2 (by rw[et0];exact d3) (by rw[et0];exact d4))
   have hok:S.hd1 p.V q.n:=⟨by rw[ev];exact hpv.1 d2,fun _=>by rw[et0];exact d4⟩
   refine run ?_;refine J.b1V inC (HandT z) (fun _=>rfl) rfl rfl rfl rfl fun ba=>?_
   refine J.apG rfl rfl RG.own' inC_one fun a' c'=>?_
   rw[et];refine run ?_
   exact J.next ⟨q.n + 1, a', c'⟩ ⟨rfl, rfl, trivial⟩ (by kernel_rfl) ⟨by dsimp only; omega, fun k hk => by
    rcases Nat.lt_or_ge k q.n with e | e
    ·exact hI k e
    obtain rfl : k = q.n := by dsimp only at hk; omega
    exact hok⟩ (by dsimp only; omega)
  have hok:S.hd1 p.V q.n:=⟨by rw[ev];exact hpv.1 d2,fun h=>absurd h (by rw[et0];exact d3)⟩
  refine run ?_;refine J.b1V inC (HandT z) (fun _=>rfl) rfl rfl rfl rfl fun ba=>?_
  refine J.apG rfl rfl RG.own' inC_one fun a' c'=>?_
  rw[et];refine run ?_
  exact J.next ⟨q.n + 1, a', c'⟩ ⟨rfl, rfl, trivial⟩ (by kernel_rfl) ⟨by dsimp only; omega, fun k hk => by
   rcases Nat.lt_or_ge k q.n with e | e
   ·exact hI k e
   obtain rfl : k = q.n := by dsimp only at hk; omega
   exact hok⟩ (by dsimp only; omega)
 have h3:S.C3 p.V:=fun k hk=>hI k (by omega);obtain⟨qn,qa,qc⟩:=q;dsimp only at hq hI d1⊢;obtain rfl:qn=p.hn:=by omega
 have eM:p.V.dT++p.V.hT.take p.hn=p.V.dT++p.V.hT:=by rw[List.take_of_length_le (by omega)]
 rw[eM];clear hI;refine run ?_;refine J.callp rfl rfl (fun w' M=>(RG.own' (a:=qa) w' M).elim fun _ k0=>maxI _ _ _ _ w' k0 (by omega) (by omega)) ?_;refine run ?_;refine J.loopS (A:=Int×Int) (fun q=>[(10, .int .i64 q.2),(113, .int .i64 q.1)]) [2,12,114,115,116,117,118,119,120,121,122,123,124,125,126,127,128,129] (fun q=>(0≤q.1∧q.1≤p.jn)∧q.2=S.lastT p.V q.1.toNat∧∀k,k<q.1.toNat→S.jb1 p.V k) (fun q=>p.jn - q.1.toNat) (0,S.maxL (p.V.dT++p.V.hT)) (by kernel_rfl) ⟨by dsimp only;omega,rfl,fun k hk=>by cases hk⟩ (fun q j hI=>?_);obtain⟨i,m⟩:=q;obtain⟨hq,hm,hI⟩:=hI;dsimp only at hq hm hI⊢;refine run ?_;refine J.ifd rfl (fun d1=>?_) (fun d1=>?_)
 ·obtain⟨z,hz⟩:=G1.ex (i:=i) (by omega);have et0:=PlA.jtAt hz;have hdn:S.vldP p.V→S.jb1 p.V i.toNat:=fun h=>h.2.2.2 i.toNat (by omega);refine run ?_;refine J.alloc rfl fun b2=>?_
  refine run ?_;refine J.spd rfl rfl rfl (fun d2=>?_) (fun d2=>?_)
  ·refine run ?_;exact J.fin (no fun h=>by have:=(hdn h).2;rw[et0,←hm]at this;omega)
  refine run ?_;refine J.callp rfl rfl (fun w' M=>poolTicket z.t w') ?_;refine run ?_;refine J.ifnot rfl (fun d3=>?_) (fun d3=>?_)
  ·refine run ?_;exact J.fin (no fun h=>of_decide_eq_false d3 (by have:=(hdn h).1;rwa[et0]at this))
  have d3:=of_decide_eq_true d3;refine run ?_;refine J.nextS (i+1,z.t) ⟨rfl,rfl,trivial⟩ (by kernel_rfl) ⟨by dsimp only;omega,?_,fun k hk=>?_⟩ (by dsimp only;omega)
  ·dsimp only;unfold S.lastT;rw[if_neg (by omega),show(i+1).toNat - 1=i.toNat by omega,et0]
  rcases Nat.lt_or_ge k i.toNat with e|e
  ·exact hI k e
  obtain rfl:k=i.toNat:=by dsimp only at hk;omega
  exact⟨by rw[et0];exact d3,by rw[et0,←hm];omega⟩
 refine run ?_;exact J.fin (congrArg _ (S.vldE_0 ⟨h1,h2,h3,fun k hk=>hI k (by omega)⟩).symm)
theorem spl_hd{cs:List Value}{h:HdA}(hc:cs.take 3=[.int .u8 h.s, .int .i64 h.jt, .slice h.ba h.bn h.bc])(hl:cs.length=48):splice cs 3 (jdC h.j)=hdC h:=by
 rw[splice_mid _ _ _ (by rw[jdC_len'];omega),jdC_len',List.drop_of_length_le (by omega),hc,List.append_nil];rfl
@[reducible] def jdN(d:JdA):List Value:= .int .i64 d.t:: .int .u8 d.v:: .int .u32 d.o.o.au:: .slice d.o.pa d.o.o.n d.o.pc:: .int .u64 d.o.o.st:: .int .u8 d.o.o.k:: .string d.o.o.key:: .int .u8 d.o.o.vk:: .int .i64 d.o.o.num:: .int .u64 d.o.o.bits:: .string d.o.o.t:: .int .u32 d.o.o.e:: .int .u32 d.o.o.s::ints .u8 d.id
theorem cloneBG{S0:Nat→Prop}(a:Option Addr)(n c:Nat)(xs:List Int)(w:World)(D0:IRow .u8 S0 w a n xs)(hn:n≤1000):
  Calls prog 26 #[.slice a n c] w (Gv w (fun q:Option Addr×Nat=> .slice q.1 n q.2) (fun q=>[.irow .u8 q.1 n xs]) fun q=>n≤q.2):=
 Gv.of (cloneB a n c xs w D0 (by omega)) fun v w' x ⟨a',n',c',hv,O⟩=>by
  have e:n'=n:=by
   have h1:=O.len;have h2:=D0.len;omega
  subst e;exact⟨(a',c'),hv,O.own.cap.1,sep1 (iown_irow (iown_ok O))⟩
@[reducible] def jdW(d:JdA)(q:Option Addr×Nat):JdA:=⟨d.t,d.v,⟨d.o.o,q.1,q.2⟩,d.id,d.h⟩
theorem poolCopied{S0:Nat→Prop}(d:JdA)(w:World)(R:JdR S0 w d):
  Calls prog 68 #[.agg (jdC d).toArray] w (Gv w (fun q:Option Addr×Nat=> .agg (jdC (jdW d q)).toArray) (fun q=>[.wrow .u8 32 q.1 d.o.o.n d.o.o.ids]) fun q=>d.o.o.n≤q.2):=by
 have hn:=R.o.ok.n;refine J.enter 9 func68 rfl rfl ?_;refine run ?_;refine J.box rfl rfl rfl fun b1=>?_
 refine J.alloc rfl fun b2=>?_
 refine J.re (.blk b1 (jdC d) 36) (.blk b1 (jdN d) 36) (fun _ _ h=>h) ?_;refine run ?_;refine J.call rfl rfl (fun w' M=>cloneW _ _ _ _ w' (R.o.row.ext M.ext) R.o.cap (by omega)) fun q hq=>?_
 have hl2:=jdC_len' (jdW d q);refine run ?_;refine J.re (.wown 23 .u8 32 q.1 d.o.o.n q.2 d.o.o.ids) (.wrow .u8 32 q.1 d.o.o.n d.o.o.ids) (fun _ _ h=>wown_wrow h) ?_;exact J.finG q rfl hq sb
structure TwJ where
 (n:Nat)(a:Option Addr)(c:Nat)(js:List JbA)
structure TwH where
 (n:Nat)(a:Option Addr)(c:Nat)(hs:List HdA)
structure TwD where
 (n:Nat)(a:Option Addr)(c:Nat)(ds:List JdA)
theorem mapJ{p:PlA}{i:Nat}{z:JbA}{js:List JbA}(h:js.map JbA.V=p.V.js.take i)(hz:p.js[i]? =some z)(y:JbA)(hy:y.V=z.V):(js++[y]).map JbA.V=p.V.js.take (i+1):=by
 have e:p.V.js[i]? =some z.V:=by unfold PlA.V;rw[List.getElem?_map,hz];rfl
 rw[List.map_append,h,List.take_add_one,e,Option.toList_some,List.map_cons,List.map_nil,hy]
theorem mapH{p:PlA}{i:Nat}{z:HdA}{hs:List HdA}(h:hs.map HdA.V=p.V.hs.take i)(hz:p.hs[i]? =some z)(y:HdA)(hy:y.V=z.V):(hs++[y]).map HdA.V=p.V.hs.take (i+1):=by
 have e:p.V.hs[i]? =some z.V:=by unfold PlA.V;rw[List.getElem?_map,hz];rfl
 rw[List.map_append,h,List.take_add_one,e,Option.toList_some,List.map_cons,List.map_nil,hy]
theorem mapD{p:PlA}{i:Nat}{z:JdA}{ds:List JdA}(h:ds.map JdA.V=p.V.ds.take i)(hz:p.ds[i]? =some z)(y:JdA)(hy:y.V=z.V):(ds++[y]).map JdA.V=p.V.ds.take (i+1):=by
 have e:p.V.ds[i]? =some z.V:=by unfold PlA.V;rw[List.getElem?_map,hz];rfl
 rw[List.map_append,h,List.take_add_one,e,Option.toList_some,List.map_cons,List.map_nil,hy]
theorem allC{α:Type}{Q:α→Prop}{l:List α}{x:α}(h:∀y∈l,Q y)(hx:Q x):∀y∈l++[x],Q y:=fun y hy=>by
 rcases List.mem_append.1 hy with k|k
 ·exact h y k
 rw[List.mem_singleton]at k;subst k;exact hx
@[reducible] def hdW(h:HdA)(q r:Option Addr×Nat):HdA:=⟨h.s,h.jt,q.1,h.bn,q.2,h.bs,jdW h.j r⟩
@[reducible] def jbW(j:JbA)(q:Option Addr×Nat):JbA:=⟨j.t,q.1,j.n,q.2,j.bs⟩
theorem twP{p:PlA}{S0:Nat→Prop}{w:World}(R:PlR S0 w p){ja ha da:Option Addr}{jc hc dc:Nat}{js:List JbA}{hs:List HdA}{ds:List JdA}(h1:js.map JbA.V=p.V.js)(h2:hs.map HdA.V=p.V.hs)(h3:ds.map JdA.V=p.V.ds)(k1:∀j∈js,JbK j)(k2:∀j∈hs,HdK j)(k3:∀j∈ds,JdK j):PlP p.V ⟨p.cap,ja,p.jn,jc,js,ha,p.hn,hc,hs,da,p.dn,dc,ds⟩:=
 ⟨by unfold PlA.V at h1 h2 h3⊢;dsimp only at h1 h2 h3⊢;rw[h1,h2,h3],k1,k2,k3,R.cap.2.2.2⟩
instance:Ents prog 26:=⟨.mk func26 (by kernel_rfl) rfl⟩
instance:SInf prog 44 [(0,1),(1,1)]:=⟨_,underlying44,by kernel_rfl,by kernel_rfl⟩
instance:Siz prog 38 1:=⟨by kernel_rfl⟩
instance:Siz prog 42 1:=⟨by kernel_rfl⟩
instance:Ents prog 68:=⟨.mk func68 (by kernel_rfl) rfl⟩
instance:Siz prog 37 1:=⟨by kernel_rfl⟩
instance:Siz prog 39 1:=⟨by kernel_rfl⟩
theorem poolTwin{S0:Nat→Prop}(p:PlA)(w:World)(R:PlR S0 w p):
  Calls prog 25 #[.agg (plC p).toArray] w (Gv w (fun q:PlA=> .agg (plC q).toArray) (fun q=>plE q) (PlP p.V)):=by
 have G1:=R.jr;have G2:=R.hr;have G3:=R.dr;have hjl:=R.jl;have hhl:=R.hl;have hdl:=R.dl;have hcp:=R.cap;have hcp2:=R.cap.2.2.2;refine J.enter 71 func25 rfl rfl ?_;refine run ?_;refine J.box rfl rfl rfl fun b1=>?_
 refine J.alloc rfl fun b2=>?_
 refine run ?_;refine J.alloc rfl fun b3=>?_
 refine run ?_;refine J.noA (J.nilG jbC 2 44 jbC_len ?_);refine J.loop (A:=TwJ) (fun q=>[(16, .int .i64 (q.n:Nat))]) [5,17,18,19,20,21,22,23,24,25,26,27,28,29,30,31] (fun q=>[.gown jbC 2 44 q.a q.n q.c q.js, .all (q.js.map jbE), .blk b3 [.int .i64 p.cap, .slice q.a q.n q.c, .slice none 0 0, .slice none 0 0] 41, .blk b2 [.int .i64 0, .slice none 0 0, .slice none 0 0, .slice none 0 0] 41, .blk b1 (plC p) 41]) (fun q=>q.n≤p.jn∧q.js.map JbA.V=p.V.js.take q.n∧∀j∈q.js,JbK j) (fun q=>p.jn - q.n) ⟨0,none,0,[]⟩ (by kernel_rfl) ⟨Nat.zero_le _,rfl,fun z hz=>(by cases hz)⟩ (fun q j hI=>?_);obtain⟨hI1,hI2,hI3⟩:=hI;refine run ?_;refine J.ifd rfl (fun c1=>?_) (fun c1=>?_)
 ·obtain⟨z,hz⟩:=G1.ex (i:=(q.n:Nat)) (by omega);have RJ:=R.j hz;have hjn:=RJ.k.n;have hz':=hz;rw[Int.toNat_natCast]at hz';refine run ?_;refine J.alloc rfl fun b4=>?_
  refine run ?_;refine J.regionX [(0, .q),(1, .q),(2, .q),(3, .q),(4, .q),(5, .q),(6, .e),(7, .q),(8, .e),(9, .g),(10, .q),(11, .g)] mixed (by kernel_rfl) ?_;refine run ?_;refine J.call rfl rfl (fun w' M=>cloneBG z.a z.n z.c z.bs w' (RJ.row.ext M.ext) (by omega)) fun q1 hq1=>?_
  refine run ?_;refine J.b1G jbC (jbW z q1) jbC_len rfl rfl rfl fun bb=>?_
  refine J.apG rfl rfl RG.own' jbC_one fun a' c'=>?_
  refine run ?_;refine J.re (.irow .u8 q1.1 z.n z.bs) (jbE (jbW z q1)) (fun _ _ h=>h) ?_;refine J.snocA (q.js.map jbE) (jbE (jbW z q1)) ?_;refine J.re (.all (q.js.map jbE++[jbE (jbW z q1)])) (.all ((q.js++[jbW z q1]).map jbE)) (fun _ _ h=>by rw[List.map_append];exact h) ?_;refine J.drop (E:=[.gown jbC 2 44 a' (q.n+1) c' (q.js++[jbW z q1]), .all ((q.js++[jbW z q1]).map jbE), .blk b3 [.int .i64 p.cap, .slice a' (q.n+1) c', .slice none 0 0, .slice none 0 0] 41, .blk b2 [.int .i64 0, .slice none 0 0, .slice none 0 0, .slice none 0 0] 41, .blk b1 (plC p) 41]) sb ?_;exact J.next ⟨q.n+1,a',c',q.js++[jbW z q1]⟩ ⟨rfl,trivial⟩ (by kernel_rfl) ⟨by dsimp only;omega,mapJ hI2 hz' (jbW z q1) rfl,allC hI3 ⟨hq1,RJ.k.n⟩⟩ (by dsimp only;omega)
 obtain⟨jn,ja,jc,js⟩:=q;dsimp only at hI1 hI2 hI3 c1⊢;obtain rfl:jn=p.jn:=by omega
 have ej:js.map JbA.V=p.V.js:=by rw[hI2,List.take_of_length_le (by omega)]
 have kj:=hI3;clear hI1 hI2 hI3 c1;refine run ?_;refine J.noA (J.nilG hdC 48 46 hdC_len' ?_);refine J.loop (A:=TwH) (fun q=>[(35, .int .i64 (q.n:Nat))]) [7,36,37,38,39,40,41,42,43,44,45,46,47,48,49,50,51,52,53,54,55] (fun q=>[.gown hdC 48 46 q.a q.n q.c q.hs, .all (q.hs.map hdE), .gown jbC 2 44 ja p.jn jc js, .all (js.map jbE), .blk b3 [.int .i64 p.cap, .slice ja p.jn jc, .slice q.a q.n q.c, .slice none 0 0] 41, .blk b2 [.int .i64 0, .slice none 0 0, .slice none 0 0, .slice none 0 0] 41, .blk b1 (plC p) 41]) (fun q=>q.n≤p.hn∧q.hs.map HdA.V=p.V.hs.take q.n∧∀j∈q.hs,HdK j) (fun q=>p.hn - q.n) ⟨0,none,0,[]⟩ (by kernel_rfl) ⟨Nat.zero_le _,rfl,fun z hz=>(by cases hz)⟩ (fun q j hI=>?_);obtain⟨hI1,hI2,hI3⟩:=hI;refine run ?_;refine J.ifd rfl (fun c1=>?_) (fun c1=>?_)
 ·obtain⟨z,hz⟩:=G2.ex (i:=(q.n:Nat)) (by omega);have RH:=R.h hz;have hbn:=RH.k.n;have hz':=hz;rw[Int.toNat_natCast]at hz';refine run ?_;refine J.alloc rfl fun b4=>?_
  refine run ?_;refine J.call rfl rfl (fun w' M=>cloneBG z.ba z.bn z.bc z.bs w' (RH.row.ext M.ext) (by omega)) fun q1 hq1=>?_
  refine run ?_;refine J.ldp rfl ?_ (hv:=hdC_jd (h:=⟨z.s,z.jt,q1.1,z.bn,q1.2,z.bs,z.j⟩) z.j.h) (hn:=jdC_len' z.j);refine J.call rfl rfl (fun w' M=>poolCopied z.j w' (RH.j.ext M.ext)) fun q2 hq2=>?_
  refine run ?_;have hl2:=hdC_len' (hdW z q1 q2);refine J.sta rfl rfl ?_ (hn:=jdC_len' (jdW z.j q2)) (hv:=jdC_cells _) (hc:=spl_hd (h:=hdW z q1 q2) rfl (hdC_len' ⟨z.s,z.jt,q1.1,z.bn,q1.2,z.bs,z.j⟩)) (ho:=by rw[Nat.ble_eq];exact Nat.le_of_eq (hdC_len' ⟨z.s,z.jt,q1.1,z.bn,q1.2,z.bs,z.j⟩).symm);refine run ?_;refine J.b1G hdC (hdW z q1 q2) hdC_len' rfl rfl rfl fun bb=>?_
  refine J.apG rfl rfl RG.own' hdC_one fun a' c'=>?_
  refine run ?_;refine J.pair (.irow .u8 q1.1 z.bn z.bs) (.wrow .u8 32 q2.1 z.j.o.o.n z.j.o.o.ids) ?_;refine J.re (.all [.irow .u8 q1.1 z.bn z.bs, .wrow .u8 32 q2.1 z.j.o.o.n z.j.o.o.ids]) (hdE (hdW z q1 q2)) (fun _ _ h=>h) ?_;refine J.snocA (q.hs.map hdE) (hdE (hdW z q1 q2)) ?_;refine J.re (.all (q.hs.map hdE++[hdE (hdW z q1 q2)])) (.all ((q.hs++[hdW z q1 q2]).map hdE)) (fun _ _ h=>by rw[List.map_append];exact h) ?_;refine J.drop (E:=[.gown hdC 48 46 a' (q.n+1) c' (q.hs++[hdW z q1 q2]), .all ((q.hs++[hdW z q1 q2]).map hdE), .gown jbC 2 44 ja p.jn jc js, .all (js.map jbE), .blk b3 [.int .i64 p.cap, .slice ja p.jn jc, .slice a' (q.n+1) c', .slice none 0 0] 41, .blk b2 [.int .i64 0, .slice none 0 0, .slice none 0 0, .slice none 0 0] 41, .blk b1 (plC p) 41]) sb ?_;exact J.next ⟨q.n+1,a',c',q.hs++[hdW z q1 q2]⟩ ⟨rfl,trivial⟩ (by kernel_rfl) ⟨by dsimp only;omega,mapH hI2 hz' (hdW z q1 q2) rfl,allC hI3 ⟨⟨RH.k.j.ok,hq2,RH.k.j.id⟩,hq1,RH.k.n⟩⟩ (by dsimp only;omega)
 obtain⟨hn,ha,hc,hs⟩:=q;dsimp only at hI1 hI2 hI3 c1⊢;obtain rfl:hn=p.hn:=by omega
 have eh:hs.map HdA.V=p.V.hs:=by rw[hI2,List.take_of_length_le (by omega)]
 have kh:=hI3;clear hI1 hI2 hI3 c1;refine run ?_;refine J.noA (J.nilG jdC 45 36 jdC_len' ?_);refine J.loop (A:=TwD) (fun q=>[(59, .int .i64 (q.n:Nat))]) [9,60,61,62,63,64,65,66,67,68,69,70] (fun q=>[.gown jdC 45 36 q.a q.n q.c q.ds, .all (q.ds.map jdE), .gown hdC 48 46 ha p.hn hc hs, .all (hs.map hdE), .gown jbC 2 44 ja p.jn jc js, .all (js.map jbE), .blk b3 [.int .i64 p.cap, .slice ja p.jn jc, .slice ha p.hn hc, .slice q.a q.n q.c] 41, .blk b2 [.int .i64 0, .slice none 0 0, .slice none 0 0, .slice none 0 0] 41, .blk b1 (plC p) 41]) (fun q=>q.n≤p.dn∧q.ds.map JdA.V=p.V.ds.take q.n∧∀j∈q.ds,JdK j) (fun q=>p.dn - q.n) ⟨0,none,0,[]⟩ (by kernel_rfl) ⟨Nat.zero_le _,rfl,fun z hz=>(by cases hz)⟩ (fun q j hI=>?_);obtain⟨hI1,hI2,hI3⟩:=hI;refine run ?_;refine J.ifd rfl (fun c1=>?_) (fun c1=>?_)
 ·obtain⟨z,hz⟩:=G3.ex (i:=(q.n:Nat)) (by omega);have RD:=R.d hz;have hz':=hz;rw[Int.toNat_natCast]at hz';refine run ?_;refine J.alloc rfl fun b4=>?_
  refine run ?_;refine J.regionX [(0, .q),(1, .q),(2, .q),(3, .e),(4, .e),(5, .g),(6, .q),(7, .g)] mixed (by kernel_rfl) ?_;refine run ?_;refine J.call rfl rfl (fun w' M=>poolCopied z w' (RD.ext M.ext)) fun q1 hq1=>?_
  refine run ?_;refine J.b1G jdC (jdW z q1) jdC_len' rfl rfl rfl fun bb=>?_
  refine J.apG rfl rfl RG.own' jdC_one fun a' c'=>?_
  refine run ?_;refine J.re (.wrow .u8 32 q1.1 z.o.o.n z.o.o.ids) (jdE (jdW z q1)) (fun _ _ h=>h) ?_;refine J.snocA (q.ds.map jdE) (jdE (jdW z q1)) ?_;refine J.re (.all (q.ds.map jdE++[jdE (jdW z q1)])) (.all ((q.ds++[jdW z q1]).map jdE)) (fun _ _ h=>by rw[List.map_append];exact h) ?_;refine J.drop (E:=[.gown jdC 45 36 a' (q.n+1) c' (q.ds++[jdW z q1]), .all ((q.ds++[jdW z q1]).map jdE), .gown hdC 48 46 ha p.hn hc hs, .all (hs.map hdE), .gown jbC 2 44 ja p.jn jc js, .all (js.map jbE), .blk b3 [.int .i64 p.cap, .slice ja p.jn jc, .slice ha p.hn hc, .slice a' (q.n+1) c'] 41, .blk b2 [.int .i64 0, .slice none 0 0, .slice none 0 0, .slice none 0 0] 41, .blk b1 (plC p) 41]) sb ?_;exact J.next ⟨q.n+1,a',c',q.ds++[jdW z q1]⟩ ⟨rfl,trivial⟩ (by kernel_rfl) ⟨by dsimp only;omega,mapD hI2 hz' (jdW z q1) rfl,allC hI3 ⟨RD.o.ok,hq1,RD.id⟩⟩ (by dsimp only;omega)
 obtain⟨dn,da,dc,ds⟩:=q;dsimp only at hI1 hI2 hI3 c1⊢;obtain rfl:dn=p.dn:=by omega
 have ed:ds.map JdA.V=p.V.ds:=by rw[hI2,List.take_of_length_le (by omega)]
 refine run ?_;refine J.front (.all (ds.map jdE)) ?_;refine J.front (.all (hs.map hdE)) ?_;refine J.front (.all (js.map jbE)) ?_;refine J.front (.gown jdC 45 36 da p.dn dc ds) ?_;refine J.front (.gown hdC 48 46 ha p.hn hc hs) ?_;refine J.front (.gown jbC 2 44 ja p.jn jc js) ?_;exact J.finG ⟨p.cap,ja,p.jn,jc,js,ha,p.hn,hc,hs,da,p.dn,dc,ds⟩ rfl (twP R ej eh ed kj kh hI3) sb
end W
namespace G
open Go.RowKit
section
variable{P:Program}{w:World}
theorem D.slice3{l:List Value}{x lo hi mx:Operand}{t e sz:Nat}{a:Option Addr}{n c:Nat}{i j k:Int}{dd:Option Tmp}{ty:TypeId}{pos:String}{af:Array Edge}{g:Option (Nat×Bool)}(hx:ev l x= .slice a n c)(h1:ev l lo= .int .i64 i)(h2:ev l hi= .int .i64 j)(h3:ev l mx= .int .i64 k)
  (hu:P.underlying t=some (.slice e))(hs:P.cellsOf e=sz)(hz:sz≠0)(hb:0≤i∧i≤j∧j≤k∧k≤c):
  (execOp (ev l) ⟨dd, .slice t x (some lo) (some hi) (some mx),ty,pos,af,g⟩).run P w= .ok (.value (.slice (subA a i.toNat sz k.toNat) (j.toNat - i.toNat) (k.toNat - i.toNat))) w:=by
 have h0:0≤j:=by omega
 have hk:0≤k:=by omega
 have e1:max k 0=k:=Int.max_eq_left hk;have e2:max j 0=j:=Int.max_eq_left h0;have hsz:=size_run (P:=P) (w:=w) hs hz;simp only[execOp];rw[hx];simp[Instr.sliceAt,Instr.slice,run_underlying hu,Instr.sliceBounds,Instr.sliceBound,h1,h2,h3,asIntOf,hb,h0,hk,e1,e2,hsz,subA]
theorem run_apS{t ty e sz by_:Nat}{z:List Value}{g p c k c2:Nat}{a2:Addr}{cs ds:List Value}(hu:P.underlying t=some (.slice e))(ht:TI P e sz by_ z)(B:Blk w g cs e)(hd:ds.length=k*sz)(hR:∀j u,ds[j]? =some u→w.cell? (a2.add j)=some u)(h1:∀u∈ds,cellB u=true)(hroom:p+k≤c)(hfit:p*sz+ds.length≤cs.length):
  ∃w',(Builtin.append_ #[t,t] ty #[.slice (some ⟨g,0,none⟩) p c, .slice (some a2) k c2]).run P w= .ok (.slice (some ⟨g,0,none⟩) (p+k) c) w'∧St g w w'∧Blk w' g (splice cs (p*sz) ds) e:=by
 obtain⟨i,zv,i1,i2,i3,i4,i5⟩:=ht;subst i2;have hf:=run_firstCells_some (P:=P) w i.size k a2 k c2 ds hd hR;obtain⟨w1,k1,k2,k3⟩:=storeCells_blk (P:=P) (b:=g) (o:=p*i.size) ds 0 cs w B (by omega) h1;refine⟨w1,?_,k2,by simpa using k3⟩;simp[Builtin.append_,run_underlying hu,sizeOf,typeInfo,i1,Builtin.lenOf,hroom,hf,Addr.add_lit,k1]
theorem zeros_all{zs:List Value}(q:Nat)(hz:zs.all cellB=true)(h0:0<zs.length):∀u∈(Builtin.zeroCells zs.toArray q).toList,cellB u=true:=by
 intro u hu;unfold Builtin.zeroCells at hu;simp only[Array.toList_map,List.mem_map,List.size_toArray]at hu;obtain⟨i,_,rfl⟩:=hu;have hm:i % zs.length<zs.length:=Nat.mod_lt _ h0;have:zs.toArray[i % zs.length]! =zs[i % zs.length]:=by simp[hm]
 rw[this];exact List.all_eq_true.1 hz _ (List.getElem_mem hm)
theorem run_clr{t ty e sz by_:Nat}{zs:List Value}{g o q c:Nat}{cs:List Value}(hu:P.underlying t=some (.slice e))(ht:TI P e sz by_ zs)(hl:zs.length=sz)(h0:0<sz)(hz:zs.all cellB=true)(B:Blk w g cs e)(hq:0<q)(hfit:o+q*sz≤cs.length):
  ∃w' cs',(Builtin.clear_ #[t] ty #[.slice (some ⟨g,o,none⟩) q c]).run P w= .ok (.tuple #[]) w'∧St g w w'∧Blk w' g cs' e∧cs'.length=cs.length∧cs'.take o=cs.take o:=by
 obtain⟨i,v,i1,i2,i3,i4,i5⟩:=ht;have hz1:(zeroValue e).run P w= .ok v w:=by simp[zeroValue,typeInfo,i1,i4]
 have hzl:(Builtin.zeroCells zs.toArray q).toList.length=q*sz:=by simp[Builtin.zeroCells,hl]
 obtain⟨w1,k1,k2,k3⟩:=storeCells_blk (P:=P) (b:=g) (o:=o) (Builtin.zeroCells zs.toArray q).toList 0 cs w B (by omega) (zeros_all q hz (by omega));rw[Nat.add_zero]at k3;refine⟨w1,_,?_,k2,k3,splice_length _ _ _,?_⟩
 ·obtain⟨q',rfl⟩:∃q',q=q'+1:=⟨q - 1,by omega⟩
  simp[Builtin.clear_,run_underlying hu,hz1,i5,k1]
 ·rw[splice_mid _ _ _ (by omega),List.append_assoc,List.take_append_of_le_length (by rw[List.length_take];omega),List.take_of_length_le (by rw[List.length_take];omega)]
end
section
variable{S0:Nat→Prop}{w0:World}{L:List Ent}{P:Program}{ops:Array Oper}{K:List Value→World→Prop}{rest:List (Oper×Kd)}{l l':List Value}{m:Md}{d:Tmp}{ty xt t e:TypeId}{pos:String}{af:Array Edge}{kd:Kd}{x y lo hi mx:Operand}{sz by_:Nat}{zs:List Value}
theorem J.sl3{a a':Option Addr}{n c n' c':Nat}{i j k:Int}[U:Und P xt (.slice e)][Z:Siz P e sz](hk:pureK kd=true)(hx:ev l x= .slice a n c)(h1:ev l lo= .int .i64 i)(h2:ev l hi= .int .i64 j)(h3:ev l mx= .int .i64 k)(kk:J S0 w0 L (RY S0 w0 m P ops K rest l'))(hz:sz≠0:=by decide)(hb:0≤i∧i≤j∧j≤k∧k≤c:=by omega)
  (ha:subA a i.toNat sz k.toNat=a':=by rfl)(hn':j.toNat - i.toNat=n':=by rfl)(hc':k.toNat - i.toNat=c':=by rfl)(hl:l.set d (.slice a' n' c')=l':=by dsimp only[List.set]):
  J S0 w0 L (RY S0 w0 m P ops K ((⟨some d, .slice xt x (some lo) (some hi) (some mx),ty,pos,af,none⟩,kd)::rest) l):=
 J.pur hk (fun _=>by rw[←ha,←hn',←hc'];exact D.slice3 hx h1 h2 h3 U.h Z.h hz hb) kk hl
theorem J.apS{g p c k c2:Nat}{a2:Addr}{cs cs' ds:List Value}{F:List Value→List Ent}[U:Und P t (.slice e)][I:Inf P e sz by_ zs](hx:ev l x= .slice (some ⟨g,0,none⟩) p c)(hy:ev l y= .slice (some a2) k c2)[R:RB L g cs e F](hR:∀w,Mem S0 w0 L w→∀j u,ds[j]? =some u→w.cell? (a2.add j)=some u)(hd:ds.length=k*sz)(h1:∀u∈ds,cellB u=true)(hc:splice cs (p*sz) ds=cs')
  (kk:J S0 w0 (F cs') (RY S0 w0 m P ops K rest l'))(hroom:p+k≤c:=by omega)(hfit:p*sz+ds.length≤cs.length:=by omega)(hl:l.set d (.slice (some ⟨g,0,none⟩) (p+k) c)=l':=by dsimp only[List.set])(hk:okG m kd (F cs'):=by first|exact trivial|(repeat(first|exact List.Sublist.refl _|refine List.Sublist.cons_cons _ ?_|refine List.Sublist.cons _ ?_))):
  J S0 w0 L (RY S0 w0 m P ops K ((⟨some d, .call {callee:= .builtin .append,args:= #[x,y],argTypes:= #[t,t]},ty,pos,af,none⟩,kd)::rest) l):=
 J.big hk fun w M K' hK=>by
  obtain⟨w1,h,x1,B⟩:=run_apS (ty:=ty) (c2:=c2) (c:=c) U.h I.h (M.blk (R.h cs).same) hd (hR w M) h1 hroom hfit;rw[hc]at B;refine RS.o (v:= .slice (some ⟨g,0,none⟩) (p+k) c) (w':=w1) (by simp[execOp,resolve,hx,hy,invoke,builtin,h]) (RS.nil (hK _ w1 (M.store (R.h _) x1 B) ?_)) rfl;rw[hl];exact kk w1 (M.store (R.h _) x1 B)
theorem J.clr{g o q c:Nat}{cs:List Value}{F:List Value→List Ent}[U:Und P t (.slice e)][I:Inf P e sz by_ zs](hx:ev l x= .slice (some ⟨g,o,none⟩) q c)[R:RB L g cs e F]
  (kk:∀cs',(cs'.length=cs.length∧cs'.take o=cs.take o)→J S0 w0 (F cs') (RY S0 w0 m P ops K rest l))(hq:0<q:=by omega)(hfit:o+q*sz≤cs.length:=by omega)(hl:zs.length=sz:=by rfl)(h0:0<sz:=by decide)(hz:zs.all cellB=true:=by rfl)(hk:∀cs',okG m kd (F cs'):=by first|exact fun _=>trivial|(intro _;repeat(first|exact List.Sublist.refl _|refine List.Sublist.cons_cons _ ?_|refine List.Sublist.cons _ ?_))):
  J S0 w0 L (RY S0 w0 m P ops K ((⟨none, .call {callee:= .builtin .clear,args:= #[x],argTypes:= #[t]},ty,pos,af,none⟩,kd)::rest) l):=
 J.bigs (ι:=List Value) (Ls:=fun cs'=>F cs') cs (fun cs'=>hk cs') fun w M K' hK=>by
  obtain⟨w1,cs',h,x1,B,e1,e2⟩:=run_clr (ty:=ty) (c:=c) U.h I.h hl h0 hz (M.blk (R.h cs).same) hq hfit;refine RS.v (v:= .tuple #[]) (w':=w1) rfl (by simp[execOp,resolve,hx,invoke,builtin,h]) (RS.nil (hK _ w1 cs' (M.store (R.h _) x1 B) ?_));exact kk cs' ⟨e1,e2⟩ w1 (M.store (R.h _) x1 B)
theorem J.last{Lq:List Ent}{dd:Option Tmp}{op:Op}(h:J S0 w0 L (RY S0 w0 .s P ops K [(⟨dd,op,ty,pos,af,none⟩, .g)] l)):J S0 w0 L (RY S0 w0 (.r Lq) P ops K [(⟨dd,op,ty,pos,af,none⟩, .g)] l):=fun w M _=>RX.big (h w M)
end
theorem del_flat{α:Type}{f:α→List Value}{sz:Nat}(hf:∀x,(f x).length=sz){lst:List α}{n i:Nat}{cs:List Value}(hl:lst.length=n)(hi:i<n)(hc:n*sz≤cs.length)(k2:cs.take (n*sz)=lst.flatMap f):
  (splice cs (i*sz) ((cs.drop ((i+1)*sz)).take ((n - i - 1)*sz))).take ((n - 1)*sz)=(lst.take i++lst.drop (i+1)).flatMap f:=by
 have e0:(i+1)*sz+(n - i - 1)*sz=n*sz:=by rw[←Nat.add_mul];congr 1;omega
 have e1:i*sz+(n - i - 1)*sz=(n - 1)*sz:=by rw[←Nat.add_mul];congr 1;omega
 have e2:i*sz≤n*sz:=Nat.mul_le_mul_right _ (by omega);have e3:(n - 1)*sz≤n*sz:=Nat.mul_le_mul_right _ (by omega);have hd:((cs.drop ((i+1)*sz)).take ((n - i - 1)*sz)).length=(n - i - 1)*sz:=by rw[List.length_take,List.length_drop];omega
 have ht:(cs.take (i*sz)).length=i*sz:=by rw[List.length_take];omega
 rw[splice_mid _ _ _ (by omega),hd,e1,List.take_left' (by rw[List.length_append,hd,ht,e1]),List.flatMap_append,←flat_take f sz hf,←flat_drop f sz hf,←k2,List.take_take,Nat.min_eq_left e2,List.drop_take];congr 2;omega
end G
namespace W
open Go.RowKit G
set_option maxRecDepth 20000
set_option maxHeartbeats 8000000
attribute [local irreducible] RS RX RY Code.wp bodyPost J Ent.blk Ent.irow Ent.iown Ent.wrow Ent.wown Ent.grow Ent.gown Ent.all Ent.emp
instance:Ents prog 8:=⟨.mk func8 (by kernel_rfl) rfl⟩
instance:Ents prog 24:=⟨.mk func24 (by kernel_rfl) rfl⟩
instance:Ents prog 25:=⟨.mk func25 (by kernel_rfl) rfl⟩
theorem max_snoc{l:List Int}{x m:Int}(h:m=l.foldl max (-1)):(if x>m then x else m)=(l++[x]).foldl max (-1):=by
 rw[List.foldl_append,←h];exact S.max_step m x
theorem poolGreatest{S0:Nat→Prop}(p:PlA)(TK:TypeId)(w:World)(K0:Kst w TK)(R:PlR S0 w p):
  Calls prog 24 #[.agg (plC p).toArray] w (Ret w fun v _=>v= .int .i64 (S.grtT p.V)):=by
 have G1:=R.jr;have G2:=R.hr;have G3:=R.dr;have hjl:=R.jl;have hhl:=R.hl;have hdl:=R.dl;have hcp:=R.cap;have hcp2:=R.cap.2.2.2;have hjtl:p.V.jT.length=p.jn:=(List.length_map _).trans hjl;have hhtl:p.V.hT.length=p.hn:=(List.length_map _).trans hhl;have hdtl:p.V.dT.length=p.dn:=(List.length_map _).trans hdl;refine J.enter 52 func24 rfl rfl ?_;refine run ?_;refine J.box rfl rfl rfl fun b1=>?_
 refine run ?_;refine J.loopS (A:=Int×Int) (fun q=>[(3, .int .i64 q.2),(15, .int .i64 q.1)]) [5,16,17,18,19,20,21,22,23] (fun q=>(0≤q.1∧q.1≤p.jn)∧q.2=(p.V.jT.take q.1.toNat).foldl max (-1)) (fun q=>p.jn - q.1.toNat) (0, -1) (by kernel_rfl) ⟨by dsimp only;omega,rfl⟩ (fun q j hI=>?_);obtain⟨i,m⟩:=q;obtain⟨hq,hm⟩:=hI;dsimp only at hq hm⊢;refine run ?_;refine J.ifd rfl (fun d1=>?_) (fun d1=>?_)
 ·obtain⟨z,hz⟩:=G1.ex (i:=i) (by omega);have et0:=PlA.jtAt hz;refine run ?_;refine J.alloc rfl fun b2=>?_
  refine run ?_;refine J.nextS (i+1,if z.t>m then z.t else m) ⟨rfl,rfl,trivial⟩ (by kernel_rfl) ⟨by dsimp only;omega,?_⟩ (by dsimp only;omega);dsimp only;rw[show(i+1).toNat=i.toNat+1 by omega,←S.takeT_snoc (by omega),et0];exact max_snoc hm
 have e1:m=(p.V.jT++p.V.hT.take 0).foldl max (-1):=by rw[hm,List.take_of_length_le (by omega),List.take_zero,List.append_nil]
 clear hm hq d1;refine run ?_;refine J.loopS (A:=Int×Int) (fun q=>[(3, .int .i64 q.2),(27, .int .i64 q.1)]) [7,8,9,28,29,30,31,32,33,34,35,36,37,38,39] (fun q=>(0≤q.1∧q.1≤p.hn)∧q.2=(p.V.jT++p.V.hT.take q.1.toNat).foldl max (-1)) (fun q=>p.hn - q.1.toNat) (0,m) (by kernel_rfl) ⟨by dsimp only;omega,e1⟩ (fun q j hI=>?_);obtain⟨i2,m2⟩:=q;obtain⟨hq,hm⟩:=hI;dsimp only at hq hm⊢;refine run ?_;refine J.ifd rfl (fun d1=>?_) (fun d1=>?_)
 ·obtain⟨z,hz⟩:=G2.ex (i:=i2) (by omega);have RH:=R.h hz;have et0:=PlA.htAt hz;refine run ?_;refine J.alloc rfl fun b2=>?_
  refine run ?_;refine J.callp rfl rfl (fun w' M=>poolHand z TK w' (K0.ext M.ext) (RH.j.ext M.ext)) ?_;refine run ?_;refine J.nextS (i2+1,if HandT z>m2 then HandT z else m2) ⟨rfl,rfl,trivial⟩ (by kernel_rfl) ⟨by dsimp only;omega,?_⟩ (by dsimp only;omega);dsimp only;rw[show(i2+1).toNat=i2.toNat+1 by omega,←S.takeT_snoc (by omega),et0,←List.append_assoc];exact max_snoc hm
 have e2:m2=(p.V.jT++p.V.hT++p.V.dT.take 0).foldl max (-1):=by rw[hm,List.take_of_length_le (l:=p.V.hT) (by omega),List.take_zero,List.append_nil]
 clear hm hq d1;refine run ?_;refine J.loopS (A:=Int×Int) (fun q=>[(3, .int .i64 q.2),(43, .int .i64 q.1)]) [11,44,45,46,47,48,49,50,51] (fun q=>(0≤q.1∧q.1≤p.dn)∧q.2=(p.V.jT++p.V.hT++p.V.dT.take q.1.toNat).foldl max (-1)) (fun q=>p.dn - q.1.toNat) (0,m2) (by kernel_rfl) ⟨by dsimp only;omega,e2⟩ (fun q j hI=>?_);obtain⟨i3,m3⟩:=q;obtain⟨hq,hm⟩:=hI;dsimp only at hq hm⊢;refine run ?_;refine J.ifd rfl (fun d1=>?_) (fun d1=>?_)
 ·obtain⟨z,hz⟩:=G3.ex (i:=i3) (by omega);have et0:=PlA.dtAt hz;refine run ?_;refine J.alloc rfl fun b2=>?_
  refine run ?_;refine J.nextS (i3+1,if z.t>m3 then z.t else m3) ⟨rfl,rfl,trivial⟩ (by kernel_rfl) ⟨by dsimp only;omega,?_⟩ (by dsimp only;omega);dsimp only;rw[show(i3+1).toNat=i3.toNat+1 by omega,←S.takeT_snoc (by omega),et0,←List.append_assoc];exact max_snoc hm
 refine run ?_;refine J.fin ?_;rw[hm,List.take_of_length_le (l:=p.V.dT) (by omega)];rfl
theorem addP{p q:PlA}{j:JbA}{q1:Option Addr×Nat}(hq:PlP p.V q)(hj:JbK j)(hc:j.n≤q1.2)(a':Option Addr)(c':Nat)(hn:q.jn+1≤100):PlP (S.addJ p.V j.t j.bs) ⟨q.cap,a',q.jn+1,c',q.js++[jbW j q1],q.ha,q.hn,q.hc,q.hs,q.da,q.dn,q.dc,q.ds⟩:=
 ⟨by rw[←hq.V];unfold PlA.V S.addJ;simp,allC hq.j ⟨hc,hj.n⟩,hq.h,hq.d,hn,hq.n.2⟩
theorem poolPut{S0 S1:Nat→Prop}(p:PlA)(j:JbA)(TK:TypeId)(w:World)(K0:Kst w TK)(R:PlR S0 w p)(RJ:JbR S1 w j):
  Calls prog 5 #[.agg (plC p).toArray, .agg (jbC j).toArray] w (Gv w plT (fun q=>plE q.1) fun q=>PlP (S.putV p.V j.t j.bs) q.1∧q.2=S.putE p.V j.t):=by
 have hjl:=R.jl;have hbn:=RJ.k.n;refine J.enter 48 func5 rfl rfl ?_;refine run ?_;refine J.box rfl rfl rfl fun b1=>?_
 refine J.box rfl rfl rfl fun b2=>?_
 refine J.alloc rfl fun b3=>?_
 refine run ?_;refine J.callp rfl rfl (fun w' M=>poolCheck p TK w' (K0.ext M.ext) (R.ext M.ext)) ?_;refine run ?_;refine J.ifn rfl (fun c1=>?_) (fun c1=>?_)
 ·have hv:¬S.vldP p.V:=fun h=>c1 (S.vldE_0 h);have he:=S.putE_8 (t:=j.t) hv;have hv8:=S.vldE_8 hv;refine run ?_;refine J.nilPl ?_;exact J.finG (PlA.zero,S.putE p.V j.t) (by rw[hv8];rw[he];first|done|rfl) ⟨by rw[S.put_no (by rw[he];decide)];exact PlP.zero,rfl⟩ sb
 have hv:=S.vldE_ok.1 c1;refine run ?_;refine J.callp rfl rfl (fun w' M=>poolTicket j.t w') ?_;refine run ?_;refine J.ifnot rfl (fun c2=>?_) (fun c2=>?_)
 ·have he:=S.putE_2 hv (of_decide_eq_false c2);refine run ?_;refine J.nilPl ?_;exact J.finG (PlA.zero,S.putE p.V j.t) (by skip;rw[he];first|done|rfl) ⟨by rw[S.put_no (by rw[he];decide)];exact PlP.zero,rfl⟩ sb
 have ht:=of_decide_eq_true c2;have hg:=S.grt_iff hv ht;refine run ?_;refine J.regionX [(0, .q),(1, .q),(2, .q),(3, .e),(4, .q),(5, .q)] mixed (by kernel_rfl) ?_;refine run ?_;refine J.callp rfl rfl (fun w' M=>poolGreatest p TK w' (K0.ext M.ext) (R.ext M.ext)) ?_;refine run ?_;refine J.ifd rfl (fun c3=>?_) (fun c3=>?_)
 ·have he:=S.putE_32 hv ht (hg.1 c3);refine run ?_;refine J.nilPl ?_;exact J.finG (PlA.zero,S.putE p.V j.t) (by skip;rw[he];first|done|rfl) ⟨by rw[S.put_no (by rw[he];decide)];exact PlP.zero,rfl⟩ sb
 have ho:¬S.overT p.V j.t:=fun h=>c3 (hg.2 h);refine run ?_;refine J.ife rfl (fun c4=>?_) (fun c4=>?_)
 ·have he:=S.putE_38 hv ht ho (by rw[hjl];exact c4);refine run ?_;refine J.nilPl ?_;exact J.finG (PlA.zero,S.putE p.V j.t) (by skip;rw[he];first|done|rfl) ⟨by rw[S.put_no (by rw[he];decide)];exact PlP.zero,rfl⟩ sb
 have he:=S.putE_0 hv ht ho (by rw[hjl];exact c4);have h8:=hv.1;unfold S.C1 at h8;refine run ?_;refine J.call rfl rfl (fun w' M=>poolTwin p w' (R.ext M.ext)) fun q hq=>?_
 refine run ?_;refine J.alloc rfl fun b4=>?_
 refine run ?_;refine J.fact (.gown jbC 2 44 q.ja q.jn q.jc q.js) (fun _ _ h=>(gown_e h).1.len) fun hlen=>?_
 have hql:q.js.length=p.V.js.length:=by rw[←hq.V];exact(List.length_map _).symm
 refine J.regionX [(0, .q),(1, .q),(2, .q),(3, .q),(4, .q),(5, .q),(6, .e),(7, .q),(8, .e),(9, .g),(10, .q),(11, .g)] mixed (by kernel_rfl) ?_;refine run ?_;refine J.call rfl rfl (fun w' M=>cloneBG j.a j.n j.c j.bs w' (RJ.row.ext M.ext) (by omega)) fun q1 hq1=>?_
 refine run ?_;refine J.b1G jbC (jbW j q1) jbC_len rfl rfl rfl fun bb=>?_
 refine J.apG rfl rfl RG.own' jbC_one fun a' c'=>?_
 refine run ?_;refine J.re (.irow .u8 q1.1 j.n j.bs) (jbE (jbW j q1)) (fun _ _ h=>h) ?_;refine J.snocA (q.js.map jbE) (jbE (jbW j q1)) ?_;refine J.re (.all (q.js.map jbE++[jbE (jbW j q1)])) (.all ((q.js++[jbW j q1]).map jbE)) (fun _ _ h=>by rw[List.map_append];exact h) ?_;exact J.finG (⟨q.cap,a',q.jn+1,c',q.js++[jbW j q1],q.ha,q.hn,q.hc,q.hs,q.da,q.dn,q.dc,q.ds⟩,S.putE p.V j.t) (by rw[he];first|done|rfl) ⟨by rw[S.put_yes he];exact addP hq RJ.k hq1 a' c' (by omega),rfl⟩ sb
instance:Ents prog 28:=⟨.mk func28 (by kernel_rfl) rfl⟩
instance:SInf prog 36 [(0,1),(1,1),(2,11),(13,32)]:=⟨_,underlying36,by kernel_rfl,by kernel_rfl⟩
instance:Ents prog 27:=⟨.mk func27 (by kernel_rfl) rfl⟩
instance:Ents prog 29:=⟨.mk func29 (by kernel_rfl) rfl⟩
theorem byTicket(d:JdA)(n:Int)(w:World):
  Calls prog 28 #[.agg (jdC d).toArray, .int .i64 n] w (Ret w fun v _=>v= .int .i64 (S.cmT d.t n)):=by
 refine J.enter 13 func28 rfl rfl ?_;refine run ?_;refine J.box rfl rfl rfl fun b1=>?_
 refine run ?_;refine J.ifd rfl (fun c1=>?_) (fun c1=>?_)
 ·refine run ?_;exact J.fin (by unfold S.cmT;rw[if_pos c1])
 refine run ?_;refine J.ifd rfl (fun c2=>?_) (fun c2=>?_)
 ·refine run ?_;exact J.fin (by unfold S.cmT;rw[if_neg c1,if_pos (by omega)])
 refine run ?_;exact J.fin (by unfold S.cmT;rw[if_neg c1,if_neg (by omega)])
theorem bsJd{S0:Nat→Prop}(p:PlA)(k:Int)(w:World)(D0:GRow jdC 45 S0 w p.da p.dn p.ds)(h2:S.C2 p.V)(hn:p.dn≤200):
  Calls prog 27 #[.slice p.da p.dn p.dc, .int .i64 k, .func (.func 28) #[] #[]] w (Ret w fun v _=>v= .tuple #[.int .i64 (S.spT p.V k:Nat), .bool (decide (S.hasT p.V k))]):=by
 have hdl:p.V.ds.length=p.dn:=(List.length_map _).trans D0.len;have hm:=S.mono_T h2 k;rw[hdl]at hm;refine J.enter 46 func27 rfl rfl ?_;refine run ?_;refine J.loopS (A:=Int×Int) (fun q=>[(9, .int .i64 q.1),(10, .int .i64 q.2)]) [11,15,16,17,18,19,20,21,22,23,24,25,26,27,28,29,30,31,32,33,34] (fun q=>S.HalfC p.dn (S.cT p.V k) q.1 q.2) (fun q=>(q.2 - q.1).toNat) (0,p.dn) (by kernel_rfl) (S.HalfC.first _ _) (fun q j hI=>?_);have hh:=hI.r;refine run ?_;refine J.ifd rfl (fun c1=>?_) (fun c1=>?_)
 ·obtain⟨z,hz⟩:=D0.ex (i:=(q.1+q.2) / 2) (by omega);have ecT:S.cT p.V k ((q.1+q.2) / 2).toNat=S.cmT z.t k:=by unfold S.cT;rw[PlA.dAt hz]
  refine run ?_;refine J.callvp (cap:=[]) rfl rfl rfl (fun w' M=>byTicket z k w') ?_;refine run ?_;refine J.ifd rfl (fun c2=>?_) (fun c2=>?_)
  ·refine run ?_;exact J.nextS ((q.1+q.2) / 2+1,q.2) ⟨rfl,rfl,trivial⟩ (by kernel_rfl) (hI.up hm (by omega) (by omega) (by rw[ecT];exact c2)) (by dsimp only;omega)
  refine run ?_;exact J.nextS (q.1,(q.1+q.2) / 2) ⟨rfl,rfl,trivial⟩ (by kernel_rfl) (hI.down hm (by omega) (by omega) (by rw[ecT];exact c2)) (by dsimp only;omega)
 have he:q.1=(S.spT p.V k:Nat):=by unfold S.spT;rw[hdl];exact hI.spot c1
 have hsp:=S.hasT_sp h2 (n:=k);rw[hdl]at hsp;refine run ?_;refine J.spd rfl rfl rfl (fun c2=>?_) (fun c2=>?_)
 ·obtain⟨z,hz⟩:=D0.ex (i:=q.1) (by omega);have ev:=PlA.dAt hz;rw[he,Int.toNat_natCast]at ev;refine run ?_;refine J.callvp (cap:=[]) rfl rfl rfl (fun w' M=>byTicket z k w') ?_;refine run ?_;refine J.fin ?_;rw[he];exact tup2 rfl (congrArg _ (beq_dec ⟨fun h=>hsp.2 ⟨by omega,by rw[ev];exact S.cmT_0.1 h⟩,fun h=>S.cmT_0.2 (by have:=(hsp.1 h).2;rwa[ev]at this)⟩))
 refine run ?_;refine J.fin ?_;rw[he];exact tup2 rfl (congrArg _ (decide_eq_false fun h=>by have:=(hsp.1 h).1;omega).symm)
theorem delJd(a:Option Addr)(n c:Nat)(l:List JdA)(i:Nat)(w:World)(hO:GOwn jdC 45 0 w 36 a n c l)(hi:i<n)(hn:n≤1000):
  Calls prog 29 #[.slice a n c, .int .i64 (i:Nat), .int .i64 ((i:Nat)+1:Int)] w (Gw w jdC 45 36 a (l.take i++l.drop (i+1))):=by
 have hlen:=hO.len;have hcn:=hO.capn;have hcm:=hO.own.cap.2;obtain⟨g,rfl⟩:=hO.some (by omega);have hlt:(l.take i++l.drop (i+1)).length=n - 1:=by simp;omega
 refine J.enterG 30 hO func29 rfl rfl ?_;refine run ?_;refine J.sl3 rfl rfl rfl rfl rfl ?_;refine run ?_;refine J.ife rfl (fun h=>absurd h (by omega)) (fun _=>?_);refine run ?_;refine J.cur jdC 45 36 g n c l fun cur hcur=>?_
 obtain⟨k1,k2,_,_,_⟩:=hcur;have hf:=del_flat (f:=jdC) (sz:=45) jdC_len' hlen hi (by rw[k1];exact Nat.mul_le_mul_right _ hcn) k2;have hdl:((cur.drop ((i+1)*45)).take ((n - i - 1)*45)).length=(n - i - 1)*45:=by rw[List.length_take,List.length_drop,k1];omega
 have hdc:∀u∈(cur.drop ((i+1)*45)).take ((n - i - 1)*45),cellB u=true:=fun u hu=>by
  have h5:=flat_drop jdC 45 jdC_len' l (i+1);rw[←k2,List.drop_take,show n*45 - (i+1)*45=(n - i - 1)*45 by omega]at h5;rw[h5]at hu;obtain⟨y,_,hy⟩:=List.mem_flatMap.1 hu;exact List.all_eq_true.1 (jdC_cells y) u hy
 obtain⟨a2,ha2,hR⟩:∃a2:Addr,subA (some ⟨g,0,none⟩) (i+1) 45 c=some a2∧∀w',Blk w' g cur 36→∀j u,((cur.drop ((i+1)*45)).take ((n - i - 1)*45))[j]? =some u→w'.cell? (a2.add j)=some u:=by
  by_cases hcc:c=i+1
  ·refine⟨⟨g,0,none⟩,by unfold subA;rw[if_pos hcc],fun w' B j u hj=>?_⟩;rw[show n - i - 1=0 by omega,Nat.zero_mul,List.take_zero]at hj;cases hj
  refine⟨⟨g,(i+1)*45,none⟩,by unfold subA;rw[if_neg hcc,Option.map_some,add_mk];congr 2;omega,fun w' B j u hj=>?_⟩;rw[List.getElem?_take]at hj;split at hj
  ·rw[add_mk];rw[List.getElem?_drop]at hj;exact B.cell hj
  cases hj
 obtain⟨cs1,hcs1⟩:=ex (splice cur (i*45) ((cur.drop ((i+1)*45)).take ((n - i - 1)*45)));have hl1:cs1.length=c*45:=by rw[hcs1,splice_length,k1]
 have hfl:cs1.take ((n - 1)*45)=(l.take i++l.drop (i+1)).flatMap jdC:=by rw[hcs1];exact hf
 refine J.regionX [(0, .q),(1, .q),(2, .q),(3, .q),(4, .q),(5, .q),(6, .g),(7, .q)] mixed (by kernel_rfl) ?_;refine run ?_;refine J.apS (k:=n - (i+1)) rfl (show Value.slice (subA (some ⟨g,0,none⟩) (i+1) 45 c) (n - (i+1)) (c - (i+1))= .slice (some a2) (n - (i+1)) (c - (i+1))from by rw[ha2]) (fun w' M=>hR w' (blkC g M)) hdl hdc hcs1.symm ?_ (hroom:=by omega) (hfit:=by omega);refine run ?_;refine J.clr (o:=(n - 1)*45) (q:=1) (show Value.slice (subA (some ⟨g,0,none⟩) (i+(n - (i+1))) 45 c) (n - (i+(n - (i+1)))) (c - (i+(n - (i+1))))= .slice (some ⟨g,(n - 1)*45,none⟩) 1 (c - (n - 1))from by rw[show i+(n - (i+1))=n - 1 by omega,show n - (n - 1)=1 by omega];unfold subA;rw[if_neg (by omega),Option.map_some,add_mk,Nat.zero_add]) (fun cs2 hcs2=>?_) (hfit:=by rw[hl1];omega);obtain⟨k3,k4⟩:=hcs2;refine run ?_;refine J.ruc jdC 45 36 g (n - 1) c (l.take i++l.drop (i+1)) jdC_len' (by rw[k3,hl1]) (by rw[k4];exact hfl) (by omega) hcm hlt ?_;exact J.finW (a':=some ⟨g,0,none⟩) (n':=n - 1) (c':=c) (by exact sl3 rfl (by omega) rfl)
@[reducible] def tkT(q:PlA×JdA×Int):Value:= .tuple #[.agg (plC q.1).toArray, .agg (jdC q.2.1).toArray, .int .i64 q.2.2]
@[reducible] def tkE(q:PlA×JdA×Int):List Ent:=plE q.1++[jdE q.2.1]
structure TkP(v:S.PlV)(n:Int)(q:PlA×JdA×Int):Prop where
 P:PlP (S.takeV v n) q.1
 J:q.2.1.V=S.takeJ v n
 K:JdK q.2.1
 e:q.2.2=S.takeE v n
theorem TkP.no{v:S.PlV}{n:Int}{e:Int}(he:S.takeE v n=e)(h:e≠0):TkP v n (PlA.zero,JdA.zero,e):=by
 subst he;exact⟨by rw[(S.take_no h).1];exact PlP.zero,(S.take_no h).2.symm,JdK.zero,rfl⟩
theorem TkP.yes{v:S.PlV}{n:Int}{p q:PlA}{z:JdA}{i:Nat}(hv:p.V=v)(he:S.takeE v n=0)(hq:PlP p.V q)(hi:S.spT v n=i)(hz:q.ds[i]? =some z)(a':Option Addr)(m c':Nat)(hm:m≤200):TkP v n (⟨q.cap,q.ja,q.jn,q.jc,q.js,q.ha,q.hn,q.hc,q.hs,a',m,c',q.ds.take i++q.ds.drop (i+1)⟩,z,0):=by
 subst hv hi;have e2:=PlA.dAt hz;rw[hq.V]at e2;refine⟨?_,by rw[(S.take_yes he).2,e2],hq.d z (List.mem_of_getElem? hz),he.symm⟩;rw[(S.take_yes he).1];refine⟨?_,hq.j,hq.h,fun y hy=>?_,hq.n.1,hq.n.2.1,hm⟩
 ·rw[←hq.V];unfold PlA.V S.cutD;simp
 rcases List.mem_append.1 hy with h|h
 ·exact hq.d y (List.mem_of_mem_take h)
 exact hq.d y (List.mem_of_mem_drop h)
theorem erase_jd(l:List JdA)(i:Nat):(l.map jdE).eraseIdx i=(l.take i++l.drop (i+1)).map jdE:=by
 rw[List.eraseIdx_eq_take_drop_succ,List.map_append,List.map_take,List.map_drop]
theorem poolTake{S0:Nat→Prop}(p:PlA)(n:Int)(TK:TypeId)(w:World)(K0:Kst w TK)(R:PlR S0 w p):
  Calls prog 7 #[.agg (plC p).toArray, .int .i64 n] w (Gv w tkT tkE (TkP p.V n)):=by
 have hdl:=R.dl;have hcp:=R.cap;have hcp2:=R.cap.2.2.2;refine J.enter 44 func7 rfl rfl ?_;refine run ?_;refine J.box rfl rfl rfl fun b1=>?_
 refine J.alloc rfl fun b2=>?_
 refine J.alloc rfl fun b3=>?_
 refine run ?_;refine J.callp rfl rfl (fun w' M=>poolCheck p TK w' (K0.ext M.ext) (R.ext M.ext)) ?_;refine run ?_;refine J.ifn rfl (fun c1=>?_) (fun c1=>?_)
 ·have hv:¬S.vldP p.V:=fun h=>c1 (S.vldE_0 h);have he:=S.takeE_8 (n:=n) hv;rw[S.vldE_8 hv];refine run ?_;refine J.nilW .u8 32 ?_;refine J.re (.wrow .u8 32 none 0 []) (jdE JdA.zero) (fun _ _ h=>h) ?_;refine J.nilPl ?_;exact J.finG (PlA.zero,JdA.zero,8) rfl (TkP.no he (by decide)) sb
 have hv:=S.vldE_ok.1 c1;refine run ?_;refine J.callp rfl rfl (fun w' M=>bsJd p n w' (R.dr.ext M.ext) hv.2.1 (by omega)) ?_;refine run ?_;refine J.ifnot rfl (fun c2=>?_) (fun c2=>?_)
 ·have he:=S.takeE_38 hv (of_decide_eq_false c2);refine run ?_;refine J.nilW .u8 32 ?_;refine J.re (.wrow .u8 32 none 0 []) (jdE JdA.zero) (fun _ _ h=>h) ?_;refine J.nilPl ?_;exact J.finG (PlA.zero,JdA.zero,38) rfl (TkP.no he (by decide)) sb
 have hh:=of_decide_eq_true c2;have he:=S.takeE_0 hv hh;have hsp:=(S.hasT_sp hv.2.1).1 hh;obtain⟨i,hi⟩:=ex (S.spT p.V n);rw[←hi]at hsp⊢;refine run ?_;refine J.call rfl rfl (fun w' M=>poolTwin p w' (R.ext M.ext)) fun q hq=>?_
 refine run ?_;refine J.alloc rfl fun b4=>?_
 refine run ?_;refine J.fact (.gown jdC 45 36 q.da q.dn q.dc q.ds) (fun _ _ h=>(gown_e h).1.len) fun hlen=>?_
 have hql:q.ds.length=p.V.ds.length:=by rw[←hq.V];exact(List.length_map _).symm
 obtain⟨z,hz'⟩:∃z,q.ds[i]? =some z:=⟨_,List.getElem?_eq_getElem (by omega)⟩
 have hl2:=jdC_len' z;have hz:q.ds[((i:Nat):Int).toNat]? =some z:=by rw[Int.toNat_natCast];exact hz'
 refine run ?_;refine J.alloc rfl fun b5=>?_
 refine run ?_;refine J.callG rfl (fun w' M hO'=>delJd q.da q.dn q.dc q.ds i w' hO' (by omega) (by omega)) fun a' c'=>?_
 refine run ?_;refine J.regionR [.blk b5 (jdC z) 36, .blk b4 [.int .i64 q.cap, .slice q.ja q.jn q.jc, .slice q.ha q.hn q.hc, .slice a' (q.ds.take i++q.ds.drop (i+1)).length c'] 41] [(0, .q),(1, .q),(2, .e),(3, .e),(4, .q)] mixed (by kernel_rfl) (by repeat(first|exact List.Sublist.refl _|refine List.Sublist.cons_cons _ ?_|refine List.Sublist.cons _ ?_)) ?_;refine run ?_;refine J.openA (q.ds.map jdE) i (e:=jdE z) (by rw[List.getElem?_map,hz'];rfl) ?_;rw[erase_jd];refine J.front (.all ((q.ds.take i++q.ds.drop (i+1)).map jdE)) ?_;refine J.front (.all (q.hs.map hdE)) ?_;refine J.front (.all (q.js.map jbE)) ?_;refine J.front (.gown jdC 45 36 a' (q.ds.take i++q.ds.drop (i+1)).length c' (q.ds.take i++q.ds.drop (i+1))) ?_;refine J.front (.gown hdC 48 46 q.ha q.hn q.hc q.hs) ?_;refine J.front (.gown jbC 2 44 q.ja q.jn q.jc q.js) ?_;exact J.finG ((⟨q.cap,q.ja,q.jn,q.jc,q.js,q.ha,q.hn,q.hc,q.hs,a',(q.ds.take i++q.ds.drop (i+1)).length,c',q.ds.take i++q.ds.drop (i+1)⟩:PlA),z,0) rfl (TkP.yes rfl he hq hi.symm hz' a' _ c' (by simp;omega)) sb
instance:Ents prog 75:=⟨.mk func75 (by kernel_rfl) rfl⟩
instance:Ents prog 37:=⟨.mk func37 (by kernel_rfl) rfl⟩
instance:Ents prog 38:=⟨.mk func38 (by kernel_rfl) rfl⟩
theorem lAt{α β:Type}{f:α→β}{l l2:List α}(h:l.map f=l2.map f){i:Nat}{x y:α}(hx:l[i]? =some x)(hy:l2[i]? =some y):f x=f y:=by
 have:=congrArg (fun t=>t[i]?) h;simp only[List.getElem?_map,hx,hy,Option.map_some,Option.some.injEq]at this;exact this
theorem refSameJobs{S0 S1:Nat→Prop}{S2 S3:Nat→Prop}(a:Option Addr)(n c:Nat)(l:List JbA)(a2:Option Addr)(n2 c2:Nat)(l2:List JbA)(w:World)(G0:GRow jbC 2 S0 w a n l)(G1:GRow jbC 2 S1 w a2 n2 l2)(RA:∀j∈l,JbR S2 w j)(RB:∀j∈l2,JbR S3 w j)(h:l.map JbA.V=l2.map JbA.V)(hn:n≤100):
  Calls prog 37 #[.slice a n c, .slice a2 n2 c2] w (Ret w fun v _=>v= .bool true):=by
 have h1:=G0.len;have h2:=G1.len;have h3:l.length=l2.length:=by have:=congrArg List.length h;rwa[List.length_map,List.length_map]at this
 obtain rfl:n2=n:=by omega
 refine J.enter 40 func37 rfl rfl ?_;refine run ?_;refine J.ifn rfl (fun c=>absurd rfl c) (fun _=>?_);refine run ?_;refine J.loopS (A:=Int) (fun i=>[(5, .int .i64 i)]) [4,11,12,13,14,15,16,17,18,19,20,21,22,23,24,25,26,27,28,29,30,31,32,33,34,35,36,37,38,39,40,41] (fun i=>0≤i∧i≤n2) (fun i=>n2 - i.toNat) 0 (by kernel_rfl) ⟨by omega,by omega⟩ (fun i j hI=>?_);refine run ?_;refine J.ifd rfl (fun d1=>?_) (fun d1=>?_)
 ·obtain⟨z,hz⟩:=G0.ex (i:=i) (by omega);obtain⟨y,hy⟩:=G1.ex (i:=i) (by omega);have e:=lAt h hz hy;have et:z.t=y.t:=congrArg S.JbV.t e;have eb:z.bs=y.bs:=congrArg S.JbV.b e;have ZR:=RA z (List.mem_of_getElem? hz);have YR:=RB y (List.mem_of_getElem? hy);have hzn:=ZR.k.n;have hyn:=YR.k.n;refine run ?_;refine J.regionX [(0, .q),(1, .q),(2, .q),(3, .q),(4, .q),(5, .q),(6, .q),(7, .q),(8, .q),(9, .q),(10, .q),(11, .q),(12, .q),(13, .q),(14, .q),(15, .q),(16, .q),(17, .q),(18, .q),(19, .q),(20, .q),(21, .q),(22, .e),(23, .q),(24, .q)] mixed (by kernel_rfl) ?_;refine run ?_;refine J.spn rfl rfl rfl (fun c=>absurd et c) (fun _=>?_);refine run ?_;refine J.callp rfl rfl (fun w' M=>sameBytes z.a z.n z.c z.bs y.a y.n y.c y.bs w' (ZR.row.ext M.ext) (YR.row.ext M.ext) (by omega) (by omega)) ?_;rw[decide_eq_true eb];refine run ?_;exact J.nextS (i+1) ⟨rfl,trivial⟩ (by kernel_rfl) ⟨by omega,by omega⟩ (by omega)
 refine run ?_;exact J.fin rfl
theorem refSameJdT{S0 S1:Nat→Prop}(j k:JdA)(w:World)(R:JdR S0 w j)(R2:JdR S1 w k)(h:j.V=k.V):
  Calls prog 38 #[.agg (jdC j).toArray, .agg (jdC k).toArray] w (Ret w fun v _=>v= .bool true):=by
 have:=refSameJd j k w R R2;rwa[decide_eq_true ((S.sameJ_eq (a:=j.V) (b:=k.V) R.o.row.len R2.o.row.len).2 h)]at this
theorem refPSame{S0 S1:Nat→Prop}(p q:PlA)(w:World)(R:PlR S0 w p)(Q:PlR S1 w q)(h:p.V=q.V):
  Calls prog 12 #[.agg (plC p).toArray, .agg (plC q).toArray] w (Ret w fun v _=>v= .bool true):=by
 have G1:=R.jr;have G2:=R.hr;have G3:=R.dr;have K1:=Q.jr;have K2:=Q.hr;have K3:=Q.dr;have hcp:=R.cap;have hcp2:=R.cap.2.2.2;have ec:p.cap=q.cap:=congrArg S.PlV.cap h;have e1:p.js.map JbA.V=q.js.map JbA.V:=congrArg S.PlV.js h;have e2:p.hs.map HdA.V=q.hs.map HdA.V:=congrArg S.PlV.hs h;have e3:p.ds.map JdA.V=q.ds.map JdA.V:=congrArg S.PlV.ds h;have el2:p.hn=q.hn:=by have:=congrArg List.length e2;rw[List.length_map,List.length_map,G2.len,K2.len]at this;exact this
 have el3:p.dn=q.dn:=by have:=congrArg List.length e3;rw[List.length_map,List.length_map,G3.len,K3.len]at this;exact this
 refine J.enter 97 func12 rfl rfl ?_;refine run ?_;refine J.box rfl rfl rfl fun b1=>?_
 refine J.box rfl rfl rfl fun b2=>?_
 refine run ?_;refine J.spn rfl rfl rfl (fun c=>absurd ec c) (fun _=>?_);refine run ?_;refine J.callp rfl rfl (fun w' M=>refSameJobs _ _ _ _ _ _ _ _ w' (G1.ext M.ext) (K1.ext M.ext) (fun j hj=>(R.ji j hj).ext M.ext) (fun j hj=>(Q.ji j hj).ext M.ext) e1 (by omega)) ?_;refine run ?_;refine J.spn rfl rfl rfl (fun c=>absurd (by rw[el2]) c) (fun _=>?_);refine run ?_;refine J.ifn rfl (fun c=>absurd (by rw[el3]) c) (fun _=>?_);refine run ?_;refine J.loopS (A:=Int) (fun i=>[(5, .int .i64 i)]) [4,6,7,40,41,42,43,44,45,46,47,48,49,50,51,52,53,54,55,56,57,58,59,60,61,62,63,64,65,66,67,68,69,70,71,72,73,74,75,76,77,78,79] (fun i=>0≤i∧i≤p.hn) (fun i=>p.hn - i.toNat) 0 (by kernel_rfl) ⟨by omega,by omega⟩ (fun i j hI=>?_);refine run ?_;refine J.ifd rfl (fun d1=>?_) (fun d1=>?_)
 ·obtain⟨z,hz⟩:=G2.ex (i:=i) (by omega);obtain⟨y,hy⟩:=K2.ex (i:=i) (by omega);have e:=lAt e2 hz hy;have es:z.s=y.s:=congrArg S.HdV.s e;have ejt:z.jt=y.jt:=congrArg S.HdV.jt e;have ebs:z.bs=y.bs:=congrArg S.HdV.b e;have ejj:z.j.V=y.j.V:=congrArg S.HdV.j e;have ejb:([⟨z.jt,z.ba,z.bn,z.bc,z.bs⟩]:List JbA).map JbA.V=([⟨y.jt,y.ba,y.bn,y.bc,y.bs⟩]:List JbA).map JbA.V:=by simp[JbA.V,ejt,ebs]
  have ZR:=R.h hz;have YR:=Q.h hy;refine run ?_;refine J.regionT [.blk b2 (plC q) 41, .blk b1 (plC p) 41] (.br [(0, .q),(1, .q),(2, .q),(3, .q),(4, .q),(5, .q),(6, .q),(7, .q),(8, .q),(9, .q)] 10 (.fin [(11, .e),(12, .e),(13, .e)]) 11 (.fin [(10, .e),(12, .e),(13, .e)])) mixed (by kernel_rfl) (by repeat(first|exact List.Sublist.refl _|refine List.Sublist.cons_cons _ ?_|refine List.Sublist.cons _ ?_)) ?_;refine run ?_;refine J.nil (J.kt ?_ ?_)
  ·refine J.alloc rfl fun b3=>?_
   refine run ?_;refine J.alloc rfl fun b4=>?_
   refine run ?_;refine J.spn rfl rfl rfl (fun c=>absurd es c) (fun _=>?_);refine run ?_;refine J.b1G jbC ⟨z.jt,z.ba,z.bn,z.bc,z.bs⟩ jbC_len rfl rfl rfl fun b5=>?_
   refine run ?_;refine J.b1G jbC ⟨y.jt,y.ba,y.bn,y.bc,y.bs⟩ jbC_len rfl rfl rfl fun b6=>?_
   refine run ?_;refine J.callp rfl rfl (fun w' M=>(RG.own' (a:=some ⟨b5,0,none⟩) w' M).elim fun _ k0=>(RG.own' (a:=some ⟨b6,0,none⟩) w' M).elim fun _ k1=>refSameJobs _ _ _ _ _ _ _ _ w' k0 k1 (fun j hj=>by rw[List.mem_singleton]at hj;subst hj;exact⟨⟨ZR.k.cap,ZR.k.n⟩,ZR.row.ext M.ext⟩) (fun j hj=>by rw[List.mem_singleton]at hj;subst hj;exact⟨⟨YR.k.cap,YR.k.n⟩,YR.row.ext M.ext⟩) ejb (by decide)) ?_;refine run ?_;refine J.ldp rfl ?_ (hv:=hdC_jd z.j.h) (hn:=jdC_len' z.j);refine run ?_;refine J.ldp rfl ?_ (hv:=hdC_jd y.j.h) (hn:=jdC_len' y.j);refine run ?_;refine J.callp rfl rfl (fun w' M=>refSameJdT z.j y.j w' (ZR.j.ext M.ext) (YR.j.ext M.ext) ejj) ?_;refine run ?_;exact J.nextS (i+1) ⟨rfl,trivial⟩ (by kernel_rfl) ⟨by omega,by omega⟩ (by omega)
  refine J.alloc rfl fun b4=>?_
  refine run ?_;refine J.alloc rfl fun b3=>?_
  refine run ?_;refine J.spn rfl rfl rfl (fun c=>absurd es c) (fun _=>?_);refine run ?_;refine J.b1G jbC ⟨z.jt,z.ba,z.bn,z.bc,z.bs⟩ jbC_len rfl rfl rfl fun b5=>?_
  refine run ?_;refine J.b1G jbC ⟨y.jt,y.ba,y.bn,y.bc,y.bs⟩ jbC_len rfl rfl rfl fun b6=>?_
  refine run ?_;refine J.callp rfl rfl (fun w' M=>(RG.own' (a:=some ⟨b5,0,none⟩) w' M).elim fun _ k0=>(RG.own' (a:=some ⟨b6,0,none⟩) w' M).elim fun _ k1=>refSameJobs _ _ _ _ _ _ _ _ w' k0 k1 (fun j hj=>by rw[List.mem_singleton]at hj;subst hj;exact⟨⟨ZR.k.cap,ZR.k.n⟩,ZR.row.ext M.ext⟩) (fun j hj=>by rw[List.mem_singleton]at hj;subst hj;exact⟨⟨YR.k.cap,YR.k.n⟩,YR.row.ext M.ext⟩) ejb (by decide)) ?_;refine run ?_;refine J.ldp rfl ?_ (hv:=hdC_jd z.j.h) (hn:=jdC_len' z.j);refine run ?_;refine J.ldp rfl ?_ (hv:=hdC_jd y.j.h) (hn:=jdC_len' y.j);refine run ?_;refine J.callp rfl rfl (fun w' M=>refSameJdT z.j y.j w' (ZR.j.ext M.ext) (YR.j.ext M.ext) ejj) ?_;refine run ?_;exact J.nextS (i+1) ⟨rfl,trivial⟩ (by kernel_rfl) ⟨by omega,by omega⟩ (by omega)
 refine run ?_;refine J.loopS (A:=Int) (fun i=>[(8, .int .i64 i)]) [4,80,81,82,83,84,85,86,87,88,89,90,91,92,93,94,95,96,97,98] (fun i=>0≤i∧i≤p.dn) (fun i=>p.dn - i.toNat) 0 (by kernel_rfl) ⟨by omega,by omega⟩ (fun i j hI=>?_);refine run ?_;refine J.ifd rfl (fun d1=>?_) (fun d1=>?_)
 ·obtain⟨z,hz⟩:=G3.ex (i:=i) (by omega);obtain⟨y,hy⟩:=K3.ex (i:=i) (by omega);have e:=lAt e3 hz hy;have ZR:=R.d hz;have YR:=Q.d hy;refine run ?_;refine J.regionX [(0, .q),(1, .q),(2, .q),(3, .q),(4, .q),(5, .q),(6, .q),(7, .q),(8, .q),(9, .q),(10, .e),(11, .q)] mixed (by kernel_rfl) ?_;refine run ?_;refine J.callp rfl rfl (fun w' M=>refSameJdT z y w' (ZR.ext M.ext) (YR.ext M.ext) e) ?_;refine run ?_;exact J.nextS (i+1) ⟨rfl,trivial⟩ (by kernel_rfl) ⟨by omega,by omega⟩ (by omega)
 refine run ?_;exact J.fin rfl
end W
namespace G
open Go.RowKit
def Gm{α:Type}(w:World)(S:Nat→Prop)(g:α→Value)(E:α→List Ent)(p:α→Prop)(e:Ending)(w':World):Prop:=
 ∃x,e= .returned (g x)∧p x∧Pr S w w'∧Sep (E x) (fun b=>S b∨w.heap.size≤b) w'
theorem Sep.cut:∀ {E L:List Ent} {U:Nat→Prop} {w:World},Sep (E++L) U w→∃S T:Nat→Prop,(∀b,S b→U b)∧(∀b,T b→U b)∧(∀b,S b→T b→False)∧Sep E S w∧Sep L T w
 |[],_,U,_,h=>⟨no,U,fun _ h=>h.elim,fun _ h=>h,fun _ h=>h.elim,trivial,h⟩
 |e::E,L,U,w,⟨S1,T1,g1,g2,g3,g4,g5⟩=>by
  obtain⟨S,T,h1,h2,h3,h4,h5⟩:=Sep.cut (E:=E) g5;exact⟨fun b=>S1 b∨S b,T,fun b hb=>hb.elim (g1 b) fun k=>g2 b (h1 b k),fun b hb=>g2 b (h2 b hb),fun b hb hc=>hb.elim (fun k=>g3 b k (h2 b hc)) fun k=>h3 b k hc,⟨S1,S,fun _ h=> .inl h,fun _ h=> .inr h,fun b hb hc=>g3 b hb (h1 b hc),g4,h4⟩,h5⟩
section
variable{α:Type}{f:α→List Value}{sz n c:Nat}{a:Option Addr}{lst:List α}{S:Nat→Prop}{w:World}{e:TypeId}
theorem grow_e(h:(Ent.grow f sz a n lst).ok S w):GRow f sz S w a n lst:=h
theorem grow_i(h:GRow f sz S w a n lst):(Ent.grow f sz a n lst).ok S w:=h
theorem gown_grow(h:(Ent.gown f sz e a n c lst).ok S w):(Ent.grow f sz a n lst).ok S w:=h.1.rowO.weaken fun b _ hb=>h.2 b hb
theorem GRow.tl{m:Nat}{l:List α}(h:GRow f sz S w a n l)(h1:1≤n)(hm:n≤m):GRow f sz S w (subA a 1 sz m) (n - 1) (l.drop 1):=by
 have hl:=h.len;have k:=h.sub 1 n m (Nat.le_refl _) h1 hm;rwa[List.take_of_length_le (by rw[List.length_drop];omega)]at k
end
section
variable{S0 S:Nat→Prop}{w0 w:World}{L E R:List Ent}{P:Program}{ops:Array Oper}{K:List Value→World→Prop}{rest:List (Oper×Kd)}{l:List Value}{m:Md}{d:Tmp}{ty:TypeId}{pos:String}{af:Array Edge}{kd:Kd}{f:FuncId}{args:Array Operand}{av cap:List Value}{ts:Array TypeId}{x:Operand}{v:Value}
theorem Mem.cut(M:Mem S0 w0 (E++R) w):∃S:Nat→Prop,(∀b,S b→(S0 b∨w0.heap.size≤b)∧b<w.heap.size)∧Sep E S w∧∀w' E',Pr S w w'→Sep E' (fun b=>S b∨w.heap.size≤b) w'→Mem S0 w0 (E'++R) w':=by
 obtain⟨S,T,h1,h2,h3,h4,h5⟩:=(M.sep.mono (V:=fun b=>(S0 b∨w0.heap.size≤b)∧b<w.heap.size) fun b hb hu=>⟨hu,hb⟩).cut;have hl:=M.le;refine⟨S,h1,h4,fun w' E' hp k=>⟨M.pr.prn hp fun b hb=>(h1 b hb).1,?_⟩⟩;refine k.app (h5.step fun b hb hl=>hp.block b hl fun hs=>h3 b hs hb) (fun b hb=>?_) (fun b hb=>(h2 b hb).1) fun b hb hc=>?_
 ·rcases hb with k|k
  ·exact(h1 b k).1
  ·exact .inr (by omega)
 ·rcases hb with k|k
  ·exact h3 b k hc
  ·have:=(h2 b hc).2;omega
theorem J.callM{α:Type}(x0:α){g:α→Value}{Ex E':α→List Ent}{p:α→Prop}{l':α→List Value}[N:Ents P f](ha:args.toList.map (ev l)=av)(hL:L=E++R)(h:∀w S,Mem S0 w0 L w→(∀b,S b→S0 b∨w0.heap.size≤b)→Sep E S w→Calls P f av.toArray w (Gm w S g Ex p))(k:∀x,p x→J S0 w0 (E' x) (RY S0 w0 m P ops K rest (l' x)))
  (hE:∀x,Ex x++R=E' x:=by intro x;dsimp only[List.cons_append,List.nil_append])(hl:∀x,l.set d (g x)=l' x:=by intro x;dsimp only[List.set])(hk:∀x,okG m kd (E' x):=by first|exact fun _=>trivial|(intro _;repeat(first|exact List.Sublist.refl _|refine List.Sublist.cons_cons _ ?_|refine List.Sublist.cons _ ?_))):
  J S0 w0 L (RY S0 w0 m P ops K ((⟨some d, .call {callee:= .value (.func f),args:=args,argTypes:=ts},ty,pos,af,none⟩,kd)::rest) l):=
 J.bigs x0 hk fun w M K' hK=>by
  subst hL;obtain⟨S,hs0,hs,hm⟩:=M.cut;refine RS.callx N.h (h w S M (fun b hb=>(hs0 b hb).1) hs) ha fun nd w' hR=>?_
  obtain⟨x,h1,h2,h3,h4⟩:=hR;refine⟨_,h1,RS.nil ?_⟩;have M':=hm w' (Ex x) h3 h4;rw[hE]at M';refine hK _ w' x M' ?_;rw[hl];exact k x h2 w' M'
theorem callb_run{dd:Option Tmp}{fs:Array Value}{av:Array Value}(he:Enters P f)(hx:ev l x= .func (.func f) fs #[])(ha:fs++args.map (ev l)=av):
  (execOp (ev l) ⟨dd, .call {callee:= .value x,args:=args,argTypes:=ts},ty,pos,af,none⟩).run P w= .ok (.enter f av) w:=by
 obtain⟨fn,h1,h2,h3⟩:=he;have h4:¬fn.name= "runtime.NumGoroutine" :=by simpa using h2
 have h5:¬fn.body=none:=by intro e;simp[e]at h3
 simp only[execOp,resolve];rw[hx,←ha];simp[Deferred.ofValue,invoke,callFunc,h1,h4,h5,program,Sem.run]
theorem RS.callb{fs:List Value}{rest:List Oper}{R:Ending→World→Prop}(he:Enters P f)(h:Calls P f av.toArray w R)(hx:ev l x= .func (.func f) fs.toArray #[])(ha:fs++args.toList.map (ev l)=av)
  (k:∀e w',R e w'→∃v,e= .returned v∧RS P ops K rest (l.set d v) w'):
  RS P ops K (⟨some d, .call {callee:= .value x,args:=args,argTypes:=ts},ty,pos,af,none⟩::rest) l w:=by
 unfold RS;rw[if_pos (by simp[Region.wanted])];unfold Oper.wp;rw[eval_fr,callb_run he hx (show fs.toArray++args.map (ev l)=av.toArray by rw[args_map rfl,←ha];simp)];simp only[Oper.upon];refine h.mono fun e w' hR=>?_
 obtain⟨v,rfl,hk⟩:=k e w' hR;exact⟨_,put_fr _ _ _,hk⟩
theorem J.callMb{α:Type}(x0:α){fs:List Value}{g:α→Value}{Ex E':α→List Ent}{p:α→Prop}{l':α→List Value}[N:Ents P f](hx:ev l x= .func (.func f) fs.toArray #[])(ha:fs++args.toList.map (ev l)=av)(hL:L=E++R)(h:∀w S,Mem S0 w0 L w→(∀b,S b→S0 b∨w0.heap.size≤b)→Sep E S w→Calls P f av.toArray w (Gm w S g Ex p))(k:∀x,p x→J S0 w0 (E' x) (RY S0 w0 m P ops K rest (l' x)))
  (hE:∀x,Ex x++R=E' x:=by intro x;dsimp only[List.cons_append,List.nil_append])(hl:∀x,l.set d (g x)=l' x:=by intro x;dsimp only[List.set])(hk:∀x,okG m kd (E' x):=by first|exact fun _=>trivial|(intro _;repeat(first|exact List.Sublist.refl _|refine List.Sublist.cons_cons _ ?_|refine List.Sublist.cons _ ?_))):
  J S0 w0 L (RY S0 w0 m P ops K ((⟨some d, .call {callee:= .value x,args:=args,argTypes:=ts},ty,pos,af,none⟩,kd)::rest) l):=
 J.bigs x0 hk fun w M K' hK=>by
  subst hL;obtain⟨S,hs0,hs,hm⟩:=M.cut;refine RS.callb N.h (h w S M (fun b hb=>(hs0 b hb).1) hs) hx ha fun nd w' hR=>?_
  obtain⟨x,h1,h2,h3,h4⟩:=hR;refine⟨_,h1,RS.nil ?_⟩;have M':=hm w' (Ex x) h3 h4;rw[hE]at M';refine hK _ w' x M' ?_;rw[hl];exact k x h2 w' M'
theorem J.enterM{fn:Func}{c0:Code}{Q:Ending→World→Prop}(u:Nat)(hE:Sep E S w0)(hf:P.funcs[f]? =some fn)(hb:fn.body=some c0)(hu:fn.ntmps - av.length=u)(h:J S w0 E (c0.wp P (bodyPost P fn Q) (fr l)))(hl:av++List.replicate u undef=l:=by dsimp only[List.reduceReplicate,List.cons_append,List.nil_append]):Calls P f av.toArray w0 Q:=
 enterU u hf hb hu (h w0 ⟨Pr.refl _ _,hE.mono fun b _ hb=> .inl hb⟩) hl
theorem J.finM{α:Type}{g:α→Value}{Ex:α→List Ent}{p:α→Prop}(x:α)(h:v=g x)(hp:p x)(hs:(Ex x).Sublist L):J S w0 L (Gm w0 S g Ex p (.returned v)):=fun w M=>⟨x,by rw[h],hp,M.pr,M.sep.sub hs⟩
end
section
end
end G
namespace S
open G
def ofJ(t:Int)(b:List Int):JdV:=⟨t,jdV b,jdO b,jdI b⟩
def stgP(v:PlV)(i:Nat):HdV:=v.hs.getD i HdV.zero
def canP(v:PlV)(i:Nat):Prop:=((stgP v i).s=0∧0<v.js.length)∨(stgP v i).s=1∨((stgP v i).s≠0∧(stgP v i).s≠1∧v.ds.length<60)
noncomputable instance(v:PlV)(i:Nat):Decidable (canP v i):=Classical.propDecidable _
def insL(l:List JdV)(k:Nat)(d:JdV):List JdV:=l.take k++d::l.drop k
noncomputable def didP(v:PlV)(i:Nat):PlV:=
 if(stgP v i).s=0 then⟨v.cap,v.js.drop 1,v.hs.set i ⟨1,(v.js.getD 0 JbV.zero).t,(v.js.getD 0 JbV.zero).b,JdV.zero⟩,v.ds⟩
 else if(stgP v i).s=1 then⟨v.cap,v.js,v.hs.set i ⟨2,0,[],ofJ (stgP v i).jt (stgP v i).b⟩,v.ds⟩
 else⟨v.cap,v.js,v.hs.set i HdV.zero,insL v.ds (spT v (stgP v i).j.t) (stgP v i).j⟩
noncomputable def stepP(v:PlV)(i:Nat):PlV:=if canP v i then didP v i else v
noncomputable def stepN(v:PlV)(i:Nat):Nat:=if canP v i then 1 else 0
noncomputable def runP:PlV→List Nat→PlV
 |v,[]=>v
 |v,i::l=>runP (stepP v i) l
noncomputable def runN:PlV→List Nat→Nat
 |_,[]=>0
 |v,i::l=>stepN v i+runN (stepP v i) l
theorem runP_app:∀(l m:List Nat) (v:PlV),runP v (l++m)=runP (runP v l) m
 |[],_,_=>rfl
 |i::l,m,v=>runP_app l m (stepP v i)
theorem runN_app:∀(l m:List Nat) (v:PlV),runN v (l++m)=runN v l+runN (runP v l) m
 |[],m,v=>(Nat.zero_add _).symm
 |i::l,m,v=>by
  show stepN v i+runN (stepP v i) (l++m)=stepN v i+runN (stepP v i) l+_;rw[runN_app l m,Nat.add_assoc];rfl
theorem runP_snoc(v:PlV)(l:List Nat)(i:Nat):runP v (l++[i])=stepP (runP v l) i:=runP_app l [i] v
theorem runN_snoc(v:PlV)(l:List Nat)(i:Nat):runN v (l++[i])=runN v l+stepN (runP v l) i:=by rw[runN_app];rfl
structure Vld(v:PlV):Prop where
 c:C1 v
 d:∀x∈v.ds,FindP x
 ds:v.dT.Pairwise (· < ·)
 h:∀x∈v.hs,handP x
 j:∀x∈v.js,TickP x.t
 js:v.jT.Pairwise (· < ·)
 nd:v.tk.Nodup
 lt:∀x∈v.tk,∀y∈v.jT,x<y
theorem srt_iff{l:List Int}:(∀k,k<l.length→0<k→l.getD (k - 1) 0<l.getD k 0)↔l.Pairwise (· < ·):=by
 rw[List.pairwise_iff_getElem];have g:∀i (h:i<l.length),l.getD i 0=l[i]:=fun i h=>by rw[List.getD_eq_getElem?_getD,List.getElem?_eq_getElem h];rfl
 constructor
 ·intro h i j hi hj hij;have:=rise_lt h hij hj;rwa[g i hi,g j hj]at this
 ·intro h k hk h0;rw[g _ (by omega),g _ hk];exact h (k - 1) k (by omega) hk (by omega)
theorem allD{α:Type}{l:List α}{z:α}{Q:α→Prop}:(∀k,k<l.length→Q (l.getD k z))↔∀x∈l,Q x:=by
 constructor
 ·intro h x hx;obtain⟨i,hi,rfl⟩:=List.mem_iff_getElem.1 hx;have:=h i hi;rwa[List.getD_eq_getElem?_getD,List.getElem?_eq_getElem hi,Option.getD_some]at this
 ·intro h k hk;rw[List.getD_eq_getElem?_getD,List.getElem?_eq_getElem hk,Option.getD_some];exact h _ (List.getElem_mem hk)
theorem vld_iff(v:PlV):vldP v↔Vld v:=by
 rw[vldP_iff];have e1:C2 v↔(∀x∈v.ds,FindP x)∧v.dT.Pairwise (· < ·):=by
  rw[←srt_iff,←allD (z:=JdV.zero)];unfold C2 dn1;simp only[List.length_map];exact⟨fun h=>⟨fun k hk=>(h k hk).1,fun k hk=>(h k hk).2⟩,fun h k hk=>⟨h.1 k hk,h.2 k hk⟩⟩
 have e2:R3 v↔∀x∈v.hs,handP x:=allD (z:=HdV.zero);have e3:R4 v↔(∀x∈v.js,TickP x.t)∧v.jT.Pairwise (· < ·):=by
  rw[←srt_iff];have e:(∀x∈v.js,TickP x.t)↔∀x∈v.jT,TickP x:=by simp[PlV.jT]
  rw[e,mem_getD];unfold R4 jb2;simp only[List.length_map];exact⟨fun h=>⟨fun k hk=>(h k hk).1,fun k hk=>(h k hk).2⟩,fun h k hk=>⟨h.1 k hk,h.2 k hk⟩⟩
 have e4:v.jT.Pairwise (· < ·)→(R5 v↔v.tk.Nodup∧∀x∈v.tk,∀y∈v.jT,x<y):=by
  intro hs;have a:(0<v.js.length→∀x∈v.tk,x<v.jT.getD 0 0)↔∀x∈v.tk,∀y∈v.jT,x<y:=by
   have el:v.js.length=v.jT.length:=(List.length_map _).symm;rw[el];generalize v.jT=J at hs;cases J with
   |nil=>simp
   |cons j J=>
    rw[List.pairwise_cons]at hs;simp only[List.length_cons,List.getD_cons_zero];constructor
    ·intro h x hx y hy;have h1:=h (by omega) x hx;rcases List.mem_cons.1 hy with rfl|hy
     ·exact h1
     ·exact Int.lt_trans h1 (hs.1 y hy)
    ·exact fun h _ x hx=>h x hx _ (List.mem_cons_self ..)
  unfold R5 tk1;rw[nodup_of,←a];constructor
  ·exact fun h=>⟨fun i hi=>(h i hi).1,fun h0=>mem_getD.2 fun i hi=>(h i hi).2 h0⟩
  ·exact fun h i hi=>⟨h.1 i hi,fun h0=>mem_getD.1 (h.2 h0) i hi⟩
 constructor
 ·rintro⟨h1,h2,h3,h4,h5⟩;have k2:=e1.1 h2;have k4:=e3.1 h4;have k5:=(e4 k4.2).1 h5;exact⟨h1,k2.1,k2.2,e2.1 h3,k4.1,k4.2,k5.1,k5.2⟩
 ·intro h;exact⟨h.c,e1.2 ⟨h.d,h.ds⟩,e2.2 h.h,e3.2 ⟨h.j,h.js⟩,(e4 h.js).2 ⟨h.nd,h.lt⟩⟩
theorem spl_at{α:Type}{l:List α}{i:Nat}(z:α)(hi:i<l.length):∃A B,l=A++l.getD i z::B∧A.length=i∧∀y,l.set i y=A++y::B:=by
 refine⟨l.take i,l.drop (i+1),?_,List.length_take_of_le (by omega),fun y=>?_⟩
 ·rw[List.getD_eq_getElem?_getD,List.getElem?_eq_getElem hi,Option.getD_some,←List.drop_eq_getElem_cons hi,List.take_append_drop]
 ·rw[List.set_eq_take_append_cons_drop,if_pos hi]
theorem noO_zero:NoO OpV.zero (List.replicate 32 0):=⟨⟨rfl,rfl,rfl,⟨rfl,rfl,rfl,rfl,rfl,rfl⟩,rfl,rfl⟩,rfl⟩
theorem judZ_zero{s t:Int}{b:List Int}:judZ ⟨s,t,b,JdV.zero⟩:=⟨noO_zero,rfl,rfl⟩
theorem find_of{t:Int}{b:List Int}(ht:TickP t):FindP (ofJ t b):=by
 refine⟨ht,?_⟩;have hb:=jd_bd b;by_cases h:jdV b=0
 ·obtain⟨h1,h2⟩:=jd_zero h;refine .inl ⟨h,?_,?_⟩
  ·show verE (jdO b)=0;rw[h1];unfold jdV at h;split at h
   ·cases h
   ·split at h
    ·split at h
     ·assumption
     ·cases h
    ·cases h
  ·show idOf (jdO b)=jdI b;rw[h1,h2]
 ·obtain⟨h1,h2⟩:=jd_ne h;refine .inr ⟨?_,?_⟩
  ·show jdV b=2∨jdV b=3∨jdV b=4;omega
  ·show NoO (jdO b) (jdI b);rw[h1,h2];exact noO_zero
section
variable{cap:Int}{js:List JbV}{A B:List HdV}{h0:HdV}{ds:List JdV}{j:JbV}
theorem tk_mid(x:HdV):PlV.tk ⟨cap,js,A++x::B,ds⟩=ds.map JdV.t++(A.flatMap handL++(handL x++B.flatMap handL)):=by
 unfold PlV.tk;rw[List.flatMap_append,List.flatMap_cons]
theorem hands_mid{Q:HdV→Prop}{x:HdV}(h:∀y∈A++h0::B,Q y)(hx:Q x):∀y∈A++x::B,Q y:=fun y hy=>by
 rcases List.mem_append.1 hy with k|k
 ·exact h y (List.mem_append_left _ k)
 ·rcases List.mem_cons.1 k with rfl|k
  ·exact hx
  ·exact h y (List.mem_append_right _ (List.mem_cons_of_mem _ k))
theorem len_mid(x:HdV):(A++x::B).length=(A++h0::B).length:=by rw[List.length_append,List.length_append];rfl
theorem did_take(h:Vld ⟨cap,j::js,A++h0::B,ds⟩)(hz:h0.s=0):Vld ⟨cap,js,A++⟨1,j.t,j.b,JdV.zero⟩::B,ds⟩:=by
 have hnd:=h.nd;have hlt:=h.lt;have hj:=h.js;have e0:handL h0=[]:=by unfold handL;rw[if_neg (by omega),if_neg (by omega)]
 rw[tk_mid,e0,List.nil_append]at hnd hlt;have e1:PlV.tk ⟨cap,js,A++⟨1,j.t,j.b,JdV.zero⟩::B,ds⟩=ds.map JdV.t++(A.flatMap handL++j.t::B.flatMap handL):=by rw[tk_mid];rfl
 have ej:PlV.jT ⟨cap,j::js,A++h0::B,ds⟩=j.t::js.map JbV.t:=rfl;rw[ej]at hlt hj;rw[List.pairwise_cons]at hj;have hp:List.Perm (ds.map JdV.t++(A.flatMap handL++j.t::B.flatMap handL)) (j.t::(ds.map JdV.t++(A.flatMap handL++B.flatMap handL))):=
  (List.Perm.append_left _ List.perm_middle).trans List.perm_middle
 refine⟨?_,h.d,h.ds,hands_mid h.h (.inr (.inl ⟨rfl,judZ_zero,h.j j (List.mem_cons_self ..)⟩)),fun x hx=>h.j x (List.mem_cons_of_mem _ hx),hj.2,?_,?_⟩
 ·obtain⟨c1,c2,c3,c4,c5,c6⟩:=h.c;have el:=len_mid (A:=A) (B:=B) (h0:=h0) ⟨1,j.t,j.b,JdV.zero⟩;refine⟨c1,c2,?_,?_,?_,c6⟩
  ·have:(((j::js).length:Nat):Int)≤cap:=c3;rw[List.length_cons]at this;show((js.length:Nat):Int)≤cap;omega
  ·show 1≤(A++_::B).length;rw[el];exact c4
  ·show(A++_::B).length≤3;rw[el];exact c5
 ·rw[e1,hp.nodup_iff,List.nodup_cons];exact⟨fun hm=>by have:=hlt _ hm _ (List.mem_cons_self ..);omega,hnd⟩
 ·rw[e1];intro x hx y hy;rcases List.mem_cons.1 (hp.mem_iff.1 hx)with rfl|hx
  ·exact hj.1 y hy
  ·exact hlt x hx y (List.mem_cons_of_mem _ hy)
theorem did_judge(h:Vld ⟨cap,js,A++h0::B,ds⟩)(hz:h0.s=1):Vld ⟨cap,js,A++⟨2,0,[],ofJ h0.jt h0.b⟩::B,ds⟩:=by
 have e:PlV.tk ⟨cap,js,A++⟨2,0,[],ofJ h0.jt h0.b⟩::B,ds⟩=PlV.tk ⟨cap,js,A++h0::B,ds⟩:=by
  rw[tk_mid,tk_mid];have:handL h0=[h0.jt]:=if_pos hz;rw[this];rfl
 have hp:=h.h h0 (List.mem_append_right _ (List.mem_cons_self ..));have ht:TickP h0.jt:=by
  rcases hp with k|k|k
  ·have:=k.1;omega
  ·exact k.2.2
  ·have:=k.1;omega
 have el:=len_mid (A:=A) (B:=B) (h0:=h0) ⟨2,0,[],ofJ h0.jt h0.b⟩;refine⟨?_,h.d,h.ds,hands_mid h.h (.inr (.inr ⟨rfl,⟨rfl,rfl⟩,find_of ht⟩)),h.j,h.js,by rw[e];exact h.nd,by rw[e];exact h.lt⟩;obtain⟨c1,c2,c3,c4,c5,c6⟩:=h.c;refine⟨c1,c2,c3,?_,?_,c6⟩
 ·show 1≤(A++_::B).length;rw[el];exact c4
 ·show(A++_::B).length≤3;rw[el];exact c5
theorem insL_map(k:Nat)(d:JdV):(insL ds k d).map JdV.t=(ds.map JdV.t).take k++d.t::(ds.map JdV.t).drop k:=by
 unfold insL;rw[List.map_append,List.map_cons,List.map_take,List.map_drop]
theorem insL_perm(k:Nat)(d:JdV):List.Perm (insL ds k d) (d::ds):=by
 unfold insL;refine List.perm_middle.trans ?_;rw[List.take_append_drop]
theorem did_put{k:Nat}(h:Vld ⟨cap,js,A++h0::B,ds⟩)(hz:h0.s=2)(hl:ds.length<60)(k1:∀x∈(ds.map JdV.t).take k,x<h0.j.t)(k2:∀x∈(ds.map JdV.t).drop k,h0.j.t<x):Vld ⟨cap,js,A++HdV.zero::B,insL ds k h0.j⟩:=by
 have e0:handL h0=[h0.j.t]:=by unfold handL;rw[if_neg (by omega),if_pos hz]
 have hnd:=h.nd;have hlt:=h.lt;rw[tk_mid,e0]at hnd hlt;have e1:PlV.tk ⟨cap,js,A++HdV.zero::B,insL ds k h0.j⟩=(insL ds k h0.j).map JdV.t++(A.flatMap handL++B.flatMap handL):=by rw[tk_mid];rfl
 have hp:List.Perm ((insL ds k h0.j).map JdV.t++(A.flatMap handL++B.flatMap handL)) (ds.map JdV.t++(A.flatMap handL++([h0.j.t]++B.flatMap handL))):=by
  refine(((insL_perm k h0.j).map JdV.t).append_right _).trans ?_;show List.Perm (h0.j.t::(ds.map JdV.t++(A.flatMap handL++B.flatMap handL))) _;refine List.perm_middle.symm.trans (List.Perm.append_left _ ?_);exact List.perm_middle.symm
 have hp0:=h.h h0 (List.mem_append_right _ (List.mem_cons_self ..));have hf:FindP h0.j:=by
  rcases hp0 with k|k|k
  ·have:=k.1;omega
  ·have:=k.1;omega
  ·exact k.2.2
 have el:=len_mid (A:=A) (B:=B) (h0:=h0) HdV.zero;have il:(insL ds k h0.j).length=ds.length+1:=(insL_perm k h0.j).length_eq;refine⟨?_,?_,?_,hands_mid h.h (.inl ⟨rfl,⟨rfl,rfl⟩,judZ_zero⟩),h.j,h.js,?_,?_⟩
 ·obtain⟨c1,c2,c3,c4,c5,c6⟩:=h.c;refine⟨c1,c2,c3,?_,?_,?_⟩
  ·show 1≤(A++_::B).length;rw[el];exact c4
  ·show(A++_::B).length≤3;rw[el];exact c5
  ·show(insL ds k h0.j).length≤60;omega
 ·intro x hx;rcases List.mem_cons.1 ((insL_perm k h0.j).mem_iff.1 hx)with rfl|hx
  ·exact hf
  ·exact h.d x hx
 ·show((insL ds k h0.j).map JdV.t).Pairwise (· < ·);have hs:(ds.map JdV.t).Pairwise (· < ·):=h.ds;rw[insL_map];rw[←List.take_append_drop k (ds.map JdV.t),List.pairwise_append]at hs;rw[List.pairwise_append,List.pairwise_cons];refine⟨hs.1,⟨k2,hs.2.1⟩,fun a ha b hb=>?_⟩;rcases List.mem_cons.1 hb with rfl|hb
  ·exact k1 a ha
  ·exact hs.2.2 a ha b hb
 ·rw[e1,hp.nodup_iff];exact hnd
 ·rw[e1];intro x hx y hy;exact hlt x (hp.mem_iff.1 hx) y hy
end
theorem spT_cut{v:PlV}{n:Int}(h2:C2 v)(hn:¬n∈v.dT):(∀x∈v.dT.take (spT v n),x<n)∧∀x∈v.dT.drop (spT v n),n<x:=by
 have hl:v.dT.length=v.ds.length:=List.length_map _;have g:∀i (h:i<v.dT.length),v.dT[i]=(v.ds.getD i JdV.zero).t:=fun i h=>by
  rw[←dT_at v (by omega),List.getD_eq_getElem?_getD,List.getElem?_eq_getElem h];rfl
 constructor
 ·intro x hx;obtain⟨i,hi,rfl⟩:=List.mem_iff_getElem.1 hx;rw[List.length_take]at hi;rw[List.getElem_take,g i (by omega)];exact spT_lo (by omega)
 ·intro x hx;obtain⟨i,hi,rfl⟩:=List.mem_iff_getElem.1 hx;rw[List.length_drop]at hi;have hk:spT v n+i<v.dT.length:=by omega
  have h0:0≤cT v n (spT v n):=spotC_ge (c:=cT v n) (show spT v n<v.ds.length by omega);have h1:0≤cT v n (spT v n+i):=by
   apply Classical.byContradiction;intro hc;rcases Nat.eq_zero_or_pos i with h|h
   ·subst h;exact hc h0
   ·have:=mono_T h2 n (i:=spT v n) (j:=spT v n+i) (by omega) (by omega) (by omega);omega
  have h3:v.dT[spT v n+i]≠n:=fun he=>hn (he▸List.getElem_mem hk);rw[List.getElem_drop];rw[g _ hk]at h3⊢;unfold cT at h1;have:=cmT_lt (t:=(v.ds.getD (spT v n+i) JdV.zero).t) (n:=n);omega
theorem hand_s{h:HdV}(hp:handP h):h.s=0∨h.s=1∨h.s=2:=by
 rcases hp with k|k|k
 ·exact .inl k.1
 ·exact .inr (.inl k.1)
 ·exact .inr (.inr k.1)
theorem Vld.c2{v:PlV}(h:Vld v):C2 v:=((vldP_iff v).1 ((vld_iff v).2 h)).2.1
theorem Vld.hand{v:PlV}(h:Vld v){i:Nat}(hi:i<v.hs.length):handP (stgP v i):=by
 unfold stgP;rw[List.getD_eq_getElem?_getD,List.getElem?_eq_getElem hi,Option.getD_some];exact h.h _ (List.getElem_mem hi)
theorem Vld.out{v:PlV}(h:Vld v){i:Nat}(hi:i<v.hs.length)(h2:(stgP v i).s=2):¬(stgP v i).j.t∈v.dT:=by
 obtain⟨A,B,e,hl,hs⟩:=spl_at HdV.zero hi;obtain⟨cap,js,H,ds⟩:=v;have e':H=A++stgP ⟨cap,js,H,ds⟩ i::B:=e;generalize stgP ⟨cap,js,H,ds⟩ i=h0 at e' h2;subst e';have hnd:=h.nd;have e0:handL h0=[h0.j.t]:=by unfold handL;rw[if_neg (by omega),if_pos h2]
 rw[tk_mid,e0]at hnd;intro hm;have:=(List.nodup_append.1 hnd).2.2 _ hm h0.j.t (List.mem_append_right _ (List.mem_append_left _ (List.mem_singleton_self _)));exact this rfl
theorem Vld.did{v:PlV}{i:Nat}(h:Vld v)(hi:i<v.hs.length)(hc:canP v i):Vld (didP v i):=by
 have hp:=h.hand hi;have ho:=h.out hi;have h2:=h.c2;obtain⟨A,B,e,hl,hs⟩:=spl_at HdV.zero hi;obtain⟨cap,js,H,ds⟩:=v;unfold didP;have e':H=A++stgP ⟨cap,js,H,ds⟩ i::B:=e;rcases hc with⟨c0,c1⟩|c1|⟨c0,c1,c2⟩
 ·rw[if_pos c0];cases js with
  |nil=>exact absurd c1 (by simp)
  |cons j js=>
   dsimp only at hs⊢;rw[hs];rw[e']at h;exact did_take h c0
 ·rw[if_neg (by omega),if_pos c1];dsimp only at hs⊢;rw[hs];rw[e']at h;exact did_judge h c1
 ·have c3:(stgP ⟨cap,js,H,ds⟩ i).s=2:=by have:=hand_s hp;omega
  rw[if_neg c0,if_neg c1];obtain⟨k1,k2⟩:=spT_cut h2 (ho c3);dsimp only at hs⊢;rw[hs];rw[e']at h;exact did_put h c3 c2 k1 k2
theorem Vld.step{v:PlV}{i:Nat}(h:Vld v)(hi:i<v.hs.length):Vld (stepP v i):=by
 unfold stepP;split
 ·exact h.did hi (by assumption)
 ·exact h
theorem did_hs(v:PlV)(i:Nat):(didP v i).hs.length=v.hs.length:=by
 unfold didP;split
 ·exact List.length_set ..
 ·split<;>exact List.length_set ..
theorem step_hs(v:PlV)(i:Nat):(stepP v i).hs.length=v.hs.length:=by
 unfold stepP;split
 ·exact did_hs v i
 ·rfl
theorem run_hs:∀(l:List Nat) (v:PlV),(runP v l).hs.length=v.hs.length
 |[],_=>rfl
 |i::l,v=>(run_hs l (stepP v i)).trans (step_hs v i)
theorem Vld.run:∀ {l:List Nat} {v:PlV},Vld v→(∀i∈l,i<v.hs.length)→Vld (runP v l)
 |[],_,h,_=>h
 |i::l,v,h,k=>Vld.run (l:=l) (v:=stepP v i) (h.step (k i (List.mem_cons_self ..))) fun j hj=>by rw[step_hs];exact k j (List.mem_cons_of_mem _ hj)
def pkP(v:PlV)(l:List Int):Prop:=∀x∈l,0≤x∧x<v.hs.length
noncomputable instance(v:PlV)(l:List Int):Decidable (pkP v l):=Classical.propDecidable _
noncomputable def runE(v:PlV)(l:List Int):Int:=if ¬vldP v then 8 else if 300<l.length then 4 else if pkP v l then 0 else 2
noncomputable def runV(v:PlV)(l:List Int):PlV:=if runE v l=0 then runP v (l.map Int.toNat)else PlV.zero
noncomputable def runM(v:PlV)(l:List Int):Nat:=if runE v l=0 then runN v (l.map Int.toNat)else 0
section
variable{v:PlV}{l:List Int}
theorem runE_8(h:¬vldP v):runE v l=8:=if_pos h
theorem runE_4(h:vldP v)(h2:300<l.length):runE v l=4:=by unfold runE;rw[if_neg (not_not_intro h),if_pos h2]
theorem runE_2(h:vldP v)(h2:¬300<l.length)(h3:¬pkP v l):runE v l=2:=by unfold runE;rw[if_neg (not_not_intro h),if_neg h2,if_neg h3]
theorem runE_0(h:vldP v)(h2:¬300<l.length)(h3:pkP v l):runE v l=0:=by unfold runE;rw[if_neg (not_not_intro h),if_neg h2,if_pos h3]
theorem run_no(h:runE v l≠0):runV v l=PlV.zero∧runM v l=0:=⟨if_neg h,if_neg h⟩
theorem run_yes(h:runE v l=0):runV v l=runP v (l.map Int.toNat)∧runM v l=runN v (l.map Int.toNat):=⟨if_pos h,if_pos h⟩
theorem runE_in(h:runE v l=0):vldP v∧¬300<l.length∧pkP v l:=by
 unfold runE at h;split at h
 ·cases h
 ·split at h
  ·cases h
  ·split at h
   ·exact⟨Classical.byContradiction fun k=>by contradiction,by assumption,by assumption⟩
   ·cases h
end
end S
namespace W
open Go.RowKit G
set_option maxRecDepth 20000
set_option maxHeartbeats 8000000
attribute [local irreducible] RS RX RY Code.wp bodyPost J Ent.blk Ent.irow Ent.iown Ent.wrow Ent.wown Ent.grow Ent.gown Ent.all Ent.emp
instance:Fld prog 143 0 0:=⟨_,_,1,underlying143,rfl,by kernel_rfl,by decide,rfl⟩
instance:Sca prog 97:=⟨_,underlying97,rfl⟩
instance:Fld prog 143 1 1:=⟨_,_,1,underlying143,rfl,by kernel_rfl,by decide,rfl⟩
instance:Sca prog 141:=⟨_,underlying141,rfl⟩
instance:SInf prog 46 [(0,1),(1,2),(3,45)]:=⟨_,underlying46,by kernel_rfl,by kernel_rfl⟩
theorem jdC_cell(z:JdA):∀u∈jdC z,cellB u=true:=List.all_eq_true.1 (jdC_cells z)
theorem jdC_1(x:JdA):List.take (1*45) (List.flatMap jdC [x])=jdC x:=by
 rw[List.flatMap_cons,List.flatMap_nil,List.append_nil,List.take_of_length_le (by rw[jdC_len'];exact Nat.le_refl _)]
theorem mid_erase{α:Type}(f:α→Ent)(l:List α){p:Nat}(x:α)(h:p≤l.length):((l.take p++x::l.drop p).map f).eraseIdx p=l.map f:=by
 rw[List.map_append,List.map_cons,List.eraseIdx_append_of_length_le (by rw[List.length_map,List.length_take];omega),List.length_map,List.length_take,Nat.min_eq_left h,Nat.sub_self,List.eraseIdx_cons_zero,←List.map_append,List.take_append_drop]
theorem mid_set{α:Type}(f:α→Ent)(l:List α){p:Nat}(x:α)(h:p≤l.length):((l.take p++x::l.drop p).map f).set p (f x)=(l.take p++x::l.drop p).map f:=by
 rw[←List.map_set,List.set_append_right _ _ (by rw[List.length_take];omega),List.length_take,Nat.min_eq_left h,Nat.sub_self,List.set_cons_zero]
theorem insJd(a:Option Addr)(n c:Nat)(l:List JdA)(i:Nat)(x:JdA)(b2:Nat)(w:World)(hO:GOwn jdC 45 0 w 36 a n c l)(hi:i≤n)(hn:n≤1000)(hB:Blk w b2 (jdC x) 36)(hne:¬obk a=some b2):
  Calls prog 117 #[.slice a n c, .int .i64 i, .slice (some ⟨b2,0,none⟩) 1 1] w (Gw w jdC 45 36 a (l.take i++x::l.drop i)):=by
 have hlen:=hO.len;have hcn:=hO.capn;have hcm:=hO.own.cap.2;refine J.enterG 92 hO func117 rfl rfl ?_;refine run ?_;refine J.ife rfl (fun h=>?_) (fun h=>?_)
 ·obtain rfl:i=n:=by omega
  refine run ?_;refine J.apG rfl rfl (RG.blkO hB hne jdC_len') jdC_one fun a' c'=>?_
  refine run ?_;have e:l.take i++x::l.drop i=l++[x]:=by rw[List.take_of_length_le (by omega),List.drop_of_length_le (by omega)]
  rw[e];exact J.finW rfl
 have hin:i<n:=by omega
 obtain⟨g,rfl⟩:=hO.some (by omega);have hlt:(l.take i++x::l.drop i).length=n+1:=by simp;omega
 refine run ?_;refine J.ifd rfl (fun h2=>?_) (fun h2=>?_)
 ·refine run ?_;refine J.apZ (p:=i) (k0:=n+1 - i) jdC n l rfl (by(conv=>lhs;whnf)<;>exact sl3 (by omega) (by omega) rfl) (by(conv=>lhs;whnf)<;>exact congrArg _ (by omega)) fun b' c' cs' hcs=>?_
  obtain⟨k1,k2,k3,k4⟩:=hcs;refine run ?_;refine J.copyR (b:=b') (o:=i*45) (n:=n+1 - i) (k:=1) (by(conv=>lhs;whnf)<;>exact sl3 (by omega) (by omega) rfl) rfl (RG.cells (RG.blkO hB hne jdC_len')) (by rw[List.flatMap_cons,List.flatMap_nil,List.append_nil,jdC_len']) (fun u hu=>jdC_cell x u (by simpa using List.mem_of_mem_take hu)) rfl ?_;refine run ?_;refine J.regionX [(0, .q),(1, .q),(2, .q),(3, .q),(4, .q),(5, .q),(6, .q),(7, .q),(8, .g)] mixed (by kernel_rfl) ?_;refine run ?_;refine J.copyR (b:=b') (o:=(i+1)*45) (n:=n - i) (n2:=n - i) (k:=n - i) (a:=some ⟨g,i*45,none⟩) (by(conv=>lhs;whnf)<;>exact sl3 (by omega) (by omega) rfl) (by(conv=>lhs;whnf)<;>exact sl3 (by omega) (by omega) rfl) (RG.cells (RG.tail RG.own' hin)) (by rw[flat_len jdC 45 jdC_len',List.length_drop,hlen,Nat.mul_comm]) (fun u hu=>by obtain⟨y,_,hy⟩:=List.mem_flatMap.1 (List.mem_of_mem_take hu);exact jdC_cell y u hy) rfl ?_ (ho:=by simp only[splice_length];omega);refine run ?_;have hz:=(ins_flat (f:=jdC) (sz:=45) (z:=x) jdC_len' hlen hin (by omega) k2).2
  refine J.ruc jdC 45 36 b' (n + 1) c' (l.take i ++ x :: l.drop i) jdC_len' (by simp only [splice_length]; exact k1) (by
   rw [jdC_1, List.take_of_length_le (l := List.flatMap jdC (List.drop i l)) (by rw [flat_len jdC 45 jdC_len', List.length_drop, hlen]; omega)]
   exact hz) (by omega) k4 hlt ?_
  exact J.finW (a':=some ⟨b',0,none⟩) (n':=n+1) (c':=c') (by(conv=>lhs;whnf)<;>exact sl3 (by omega) (by omega) rfl)
 refine run ?_;refine J.cur jdC 45 36 g n c l fun cur hcur=>?_
 obtain⟨k1,k2,k3,k4,k5⟩:=hcur;have hcl:(n+1)*45≤cur.length:=by omega
 refine J.extv (E := Extern.SlicesOverlaps.overlaps #[39, 39] #[4]) (v := .bool false) func156 (by kernel_rfl) (by kernel_rfl) (by kernel_rfl) (by kernel_rfl) rfl (fun w' M => by
  have B1 := hB.pr M.pr hne
  have B2 : Blk w' g cur 36 := M.blk .here
  exact Lib.run_overlaps_apart w' _ _ 36 Und.h 45 (fun w => size_run Siz.h (by decide)) ⟨b2, 0, none⟩ ⟨g, _, none⟩ 1 1 _ _ (fun e => hne (show some g = some b2 from congrArg some (show g = b2 from e.symm))) _ _ _ _ (blk_shape B1) (blk_shape B2) (by omega) (blk_free B1) (blk_free B1)) ?_
 refine run ?_;refine J.regionX [(0, .q),(1, .q),(2, .q),(3, .q),(4, .q),(5, .q),(6, .q),(7, .q),(8, .g)] mixed (by kernel_rfl) ?_;refine run ?_;refine J.copyR (b:=g) (o:=(i+1)*45) (n:=n - i) (k:=n - i) (n2:=n+1 - i) (ds:=(cur.drop (i*45)).take ((n+1 - i)*45)) (by(conv=>lhs;whnf)<;>exact sl3 (by omega) (by omega) rfl) (by(conv=>lhs;whnf)<;>exact sl3 (by omega) (by omega) rfl) (fun w' M=>⟨_,M.part (o:=i*45) (b:=g) (by rw[List.length_take,List.length_drop,Nat.min_eq_left (by omega)])⟩) (by rw[List.length_take,List.length_drop];omega) (fun u hu=>?_) rfl ?_
 ·rw[List.take_take,Nat.min_eq_left (by omega)]at hu;have h5:=flat_drop jdC 45 jdC_len' l i;rw[←k2,List.drop_take,show n*45 - i*45=(n - i)*45 by omega]at h5;rw[h5]at hu;obtain⟨y,_,hy⟩:=List.mem_flatMap.1 hu;exact jdC_cell y u hy
 refine run ?_;refine J.copyR (b:=g) (o:=i*45) (n:=n+1 - i) (k:=1) (by(conv=>lhs;whnf)<;>exact sl3 (by omega) (by omega) rfl) rfl (RG.cells (RG.blkO hB hne jdC_len')) (by rw[List.flatMap_cons,List.flatMap_nil,List.append_nil,jdC_len']) (fun u hu=>jdC_cell x u (by simpa using List.mem_of_mem_take hu)) rfl ?_ (ho:=by simp only[splice_length];omega);refine run ?_;have hz:=(ins_flat (f:=jdC) (sz:=45) (z:=x) (cs:=cur) jdC_len' hlen hin hcl (by rw[←flat_take jdC 45 jdC_len',←k2,List.take_take,Nat.min_eq_left (by omega)])).1
 refine J.ruc jdC 45 36 g (n + 1) c (l.take i ++ x :: l.drop i) jdC_len' (by simp only [splice_length]; exact k1) (by
  have ed : (cur.drop (i * 45)).take ((n - i) * 45) = (l.drop i).flatMap jdC := by rw [← flat_drop jdC 45 jdC_len', ← k2, List.drop_take, show n * 45 - i * 45 = (n - i) * 45 by omega]
  rw [jdC_1, List.take_take, Nat.min_eq_left (by omega), ed]
  exact hz) (by omega) k4 hlt ?_
 exact J.finW (by(conv=>lhs;whnf)<;>exact sl3 (by omega) (by omega) rfl)
@[reducible] def plF(p:PlA):List Ent:=[.grow jbC 2 p.ja p.jn p.js, .gown hdC 48 46 p.ha p.hn p.hc p.hs, .gown jdC 45 36 p.da p.dn p.dc p.ds, .all (p.js.map jbE), .all (p.hs.map hdE), .all (p.ds.map jdE)]
structure PlQ(v:S.PlV)(p:PlA):Prop where
 k:PlP v p
 c:p.jn≤p.jc
 l:p.js.length=p.jn∧p.hs.length=p.hn∧p.ds.length=p.dn
@[reducible] def wkE(bw bp bh:Nat)(i:Int)(fv:Value)(p:PlA):List Ent:= .blk bw [.pointer (some ⟨bp,0,none⟩),pt (some ⟨bh,0,none⟩) (i.toNat*48),fv] 143:: .blk bp (plC p) 41::plF p
def WkP(v:S.PlV)(i:Int)(q:PlA×Bool):Prop:=PlQ (S.stepP v i.toNat) q.1∧q.2=decide (S.canP v i.toNat)
theorem WkP.no{v:S.PlV}{i:Int}{p:PlA}(h:PlQ v p)(hn:¬S.canP v i.toNat):WkP v i (p,false):=⟨by unfold S.stepP;rw[if_neg hn];exact h,(decide_eq_false hn).symm⟩
theorem WkP.yes{v:S.PlV}{i:Int}{p:PlA}(hn:S.canP v i.toNat)(h:PlQ (S.didP v i.toNat) p):WkP v i (p,true):=⟨by unfold S.stepP;rw[if_pos hn];exact h,(decide_eq_true hn).symm⟩
theorem PlQ.stg{v:S.PlV}{p:PlA}(h:PlQ v p){i:Int}{z:HdA}(hz:p.hs[i.toNat]? =some z):S.stgP v i.toNat=z.V:=by
 rw[←h.k.V];exact PlA.hAt hz
theorem PlQ.take{v:S.PlV}{cap:Int}{ja ja' ha da:Option Addr}{jn jc jc' hn hc dn dc k:Nat}{js:List JbA}{hs:List HdA}{ds:List JdA}{z:JbA}(h:PlQ v ⟨cap,ja,jn,jc,js,ha,hn,hc,hs,da,dn,dc,ds⟩)(hz:js[0]? =some z)(h0:(S.stgP v k).s=0)(hc':jn - 1≤jc'):
  PlQ (S.didP v k) ⟨cap,ja',jn - 1,jc',js.drop 1,ha,hn,hc,hs.set k ⟨1,z.t,z.a,z.n,z.c,z.bs,JdA.zero⟩,da,dn,dc,ds⟩:=by
 obtain⟨⟨hV,hj,hh,hd,hn'⟩,hc0,l1,l2,l3⟩:=h;dsimp only at hj hh hd hn' hc0 l1 l2 l3;have ez:=PlA.jAt (p:=⟨cap,ja,jn,jc,js,ha,hn,hc,hs,da,dn,dc,ds⟩) hz;rw[hV]at ez;have hzk:JbK z:=hj z (List.mem_of_getElem? hz);refine⟨⟨?_,fun j hm=>hj j (List.mem_of_mem_drop hm),fun x hx=>?_,hd,by dsimp only;omega⟩,hc',by dsimp only;rw[List.length_drop,l1],by dsimp only;rw[List.length_set,l2],l3⟩
 ·unfold S.didP;rw[if_pos h0,ez];subst hV;unfold PlA.V;dsimp only;rw[List.map_drop,List.map_set];rfl
 rcases List.mem_or_eq_of_mem_set hx with k|rfl
 ·exact hh x k
 exact⟨JdK.zero,hzk.1,hzk.2⟩
theorem erase_0{α:Type}(f:α→Ent)(l:List α):(l.map f).eraseIdx 0=(l.drop 1).map f:=by cases l<;>rfl
theorem wkTake{Z:Nat→Prop}{v:S.PlV}(p:PlA)(bw bp bh:Nat)(fv:Value)(i:Int)(w:World)(hS:Sep (wkE bw bp bh i fv p) Z w)(hq:PlQ v p)(ha:p.ha=some ⟨bh,0,none⟩)(hi:0≤i∧i<p.hn)(hz:(S.stgP v i.toNat).s=0):
  Calls prog 72 #[.pointer (some ⟨bw,0,none⟩)] w (Gm w Z (fun q:PlA×Bool=> .bool q.2) (fun q=>wkE bw bp bh i fv q.1) (WkP v i)):=by
 obtain⟨cap,ja,jn,jc,js,ha2,hn,hc,hs,da,dn,dc,ds⟩:=p;dsimp only[wkE,plF]at hS ha hi⊢;subst ha;have hn2:=hq.k.n;have hcp:=hq.c;have hjl:=hq.l.1;have hhl:=hq.l.2.1;have hV:=hq.k.V;dsimp only at hn2 hcp hjl hhl;obtain⟨h0,hh0⟩:∃z,hs[i.toNat]? =some z:=⟨_,List.getElem?_eq_getElem (by omega)⟩
 have hst:=hq.stg hh0;have hjv:v.js.length=jn:=by rw[←hV];exact(List.length_map _).trans hjl
 refine J.enterM 40 hS func72 rfl rfl ?_;refine run ?_;refine J.ife rfl (fun c1=>?_) (fun c1=>?_)
 ·refine run ?_;exact J.finM ((⟨cap,ja,jn,jc,js,some ⟨bh,0,none⟩,hn,hc,hs,da,dn,dc,ds⟩:PlA),false) rfl (WkP.no hq fun h=>by unfold S.canP at h;omega) sb
 obtain⟨z,hz0⟩:∃z,js[(0:Int).toNat]? =some z:=⟨_,List.getElem?_eq_getElem (by rw[hjl];show 0<jn;omega)⟩
 refine J.fact (p:=∃b o,ja=some ⟨b,o,none⟩) (.grow jbC 2 ja jn js) (fun _ _ h=>let ⟨b,o,k,_⟩:=(grow_e h).get (i:=0) (by decide) hz0 (by omega);⟨b,o,k⟩) fun hja=>?_
 obtain⟨bj,oj,rfl⟩:=hja;refine run ?_;refine J.regionX [(0, .q),(1, .q),(2, .q),(3, .q),(4, .q),(5, .q),(6, .q),(7, .q),(8, .q),(9, .q),(10, .q),(11, .q),(12, .q),(13, .q),(14, .q),(15, .g)] mixed (by kernel_rfl) ?_;refine run ?_;refine J.stG (f:=hdC) (a:=some ⟨bh,0,none⟩) (i:=i) (q:=⟨1,z.t,z.a,z.n,z.c,z.bs,JdA.zero⟩) rfl rfl rfl ?_ (hv:=hdC_cells ⟨1,z.t,z.a,z.n,z.c,z.bs,JdA.zero⟩);refine run ?_;refine J.regionX [(0, .q),(1, .q),(2, .q),(3, .q),(4, .q),(5, .q),(6, .q),(7, .q),(8, .q),(9, .q),(10, .q),(11, .q),(12, .q),(13, .q),(14, .g)] mixed (by kernel_rfl) ?_;refine run ?_;refine J.re (.grow jbC 2 (some ⟨bj,oj,none⟩) jn js) (.grow jbC 2 (subA (some ⟨bj,oj,none⟩) 1 2 jc) (jn - 1) (js.drop 1)) (fun _ _ h=>grow_i ((grow_e h).tl (by omega) hcp)) ?_;refine J.openA (js.map jbE) 0 (e:=jbE z) (by rw[List.getElem?_map,show js[0]? =some z from hz0];rfl) ?_;rw[erase_0];refine J.openA (hs.map hdE) i.toNat (e:=hdE h0) (by rw[List.getElem?_map,hh0];rfl) ?_;refine J.nilW .u8 32 ?_;refine J.pair (jbE z) (.wrow .u8 32 none 0 []) ?_;refine J.re (.all [jbE z, .wrow .u8 32 none 0 []]) (hdE ⟨1,z.t,z.a,z.n,z.c,z.bs,JdA.zero⟩) (fun _ _ h=>h) ?_;refine J.shutA (hs.map hdE) i.toNat (hdE ⟨1,z.t,z.a,z.n,z.c,z.bs,JdA.zero⟩) (by rw[List.length_map];omega) ?_;rw[←List.map_set];refine J.front (.all ((hs.set i.toNat ⟨1,z.t,z.a,z.n,z.c,z.bs,JdA.zero⟩).map hdE)) ?_;refine J.front (.all ((js.drop 1).map jbE)) ?_;refine J.front (.gown jdC 45 36 da dn dc ds) ?_;refine J.front (.gown hdC 48 46 (some ⟨bh,0,none⟩) hn hc (hs.set i.toNat ⟨1,z.t,z.a,z.n,z.c,z.bs,JdA.zero⟩)) ?_;refine J.front (.grow jbC 2 (subA (some ⟨bj,oj,none⟩) 1 2 jc) (jn - 1) (js.drop 1)) ?_;refine J.front (.blk bp [.int .i64 cap, .slice (subA (some ⟨bj,oj,none⟩) (Int.toNat 1) 2 jc) ((jn:Int).toNat - Int.toNat 1) (jc - Int.toNat 1), .slice (some ⟨bh,0,none⟩) hn hc, .slice da dn dc] 41) ?_
 refine J.front (.blk bw [.pointer (some ⟨bp,0,none⟩),pt (some ⟨bh,0,none⟩) (i.toNat*48),fv] 143) ?_;exact J.finM ((⟨cap,subA (some ⟨bj,oj,none⟩) 1 2 jc,jn - 1,jc - 1,js.drop 1,some ⟨bh,0,none⟩,hn,hc,hs.set i.toNat ⟨1,z.t,z.a,z.n,z.c,z.bs,JdA.zero⟩,da,dn,dc,ds⟩:PlA),true) rfl (WkP.yes (.inl ⟨hz,by omega⟩) (hq.take hz0 hz (by omega))) sb
end W
end Go.Proofs.YtjjbdaiioociaaaGreatDoor
