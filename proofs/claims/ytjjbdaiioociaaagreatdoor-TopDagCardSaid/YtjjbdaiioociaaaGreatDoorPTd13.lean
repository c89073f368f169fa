/-
  Part 13 of the lemmas of these laws: TopDag.
-/
import Derived.Test.YtjjbdaiioociaaaGreatDoorPTd12
set_option linter.unusedVariables false
set_option linter.unusedSimpArgs false
open Go.Proofs.Tryz
namespace Go.Proofs.YtjjbdaiioociaaaGreatDoor
namespace W
open Go.RowKit G
set_option maxRecDepth 20000
set_option maxHeartbeats 8000000
attribute [local irreducible] RS RX RY Code.wp bodyPost J Ent.blk Ent.iown Ent.wrow Ent.wown Ent.gown Ent.all Ent.emp
instance:Ents prog 48:=⟨.mk func48 (by kernel_rfl) rfl⟩
instance:Inf prog 4 1 1 [.bool false]:=⟨TI.of (v:= .bool false) (by kernel_rfl) rfl⟩
instance:Ents prog 81:=⟨.mk func81 (by kernel_rfl) rfl⟩
theorem find_ix{m:Nat}{ids x:List Int}{l:List IdV}(hl:l.length=m)(he:flatI l=ids)(hr:S.Rising m ids)(hx:S.inS m ids x):l.findIdx? (fun u=>decide (x=u.xs))=some (S.ixS m ids x):=by
 obtain⟨h1,h2⟩:=S.ix_in hx;have hk:S.ixS m ids x<l.length:=by omega
 rw[List.findIdx?_eq_some_iff_getElem];refine⟨hk,?_,fun j hj=>?_⟩
 ·have:=idv_at he (List.getElem?_eq_getElem hk);rw[h2]at this;exact decide_eq_true this
 intro hd;have h3:=of_decide_eq_true hd;have h4:=idv_at he (List.getElem?_eq_getElem (show j<l.length by omega));rw[←h3,←h2]at h4;have:=S.rising_inj hr (by omega) h1 h4;omega
def setT(m p:Nat):List Bool:=List.replicate p true++List.replicate (m - p) false
theorem setT_set{m p:Nat}(h:p<m):(setT m p).set p true=setT m (p+1):=by
 unfold setT;rw[List.set_append_right _ _ (by simp),List.length_replicate,Nat.sub_self,show m - p=(m - (p+1))+1 by omega,List.replicate_succ,List.set_cons_zero,List.replicate_succ',List.append_assoc];rfl
theorem setT_all(m:Nat):setT m m=S.hdS m []:=by unfold setT;rw[Nat.sub_self,S.hdS_first];simp
theorem hd_sel(m:Nat)(ids:List Int)(ops:List S.OpV)(n:Nat)(hn:n=ops.length):∀i,i<m→(S.hdS m (S.namI (S.prS m ids ops) n)).getD i false=S.hdF m ids ops i:=fun i hi=>by
 rw[List.getD_eq_getElem?_getD,S.hdS_get _ hi,hn];rfl
theorem ancHeads{S0:Nat→Prop}(g:GrA)(TK:TypeId)(w:World)(K0:Kst w TK)(G:GrR S0 w g)(h0:S.chkG g.m g.ids g.ops=0):
  Calls prog 41 #[.agg (grC g).toArray] w (Gv w (fun q:Option Addr×Nat×Nat=> .tuple #[.slice q.1 q.2.1 q.2.2, .int .i64 0]) (fun q=>[.wown 23 .u8 32 q.1 q.2.1 q.2.2 (S.hdI g.P)]) fun q=>q.2.1=S.hdN g.P):=by
 have D0:=G.ids;have G0:=G.ops;have hl:=G.len;have hcp:=G.cap;have hcp2:=G.cap.2.2;obtain⟨_,hmn,_,hr,ho,_⟩:=S.chkG_zero.1 h0;obtain⟨l,hl1,hl2⟩:=chunks g.m g.ids D0.len;have GI:=wrow_grow hl2 hl1 D0;obtain⟨P,hP⟩:=ex (S.prS g.m g.ids g.ops);refine J.enter 55 func41 rfl rfl ?_;refine run ?_;refine J.box rfl rfl rfl fun b1=>?_
 refine run ?_;refine J.callp rfl rfl (fun w' M=>(by have:=dagCheck g TK w' (K0.ext M.ext) (G.ext M.ext);rwa[h0]at this)) ?_;refine run ?_;refine J.call rfl rfl (fun w' M=>ancPlaces g l w' (GI.ext M.ext) hr hl2 (by omega)) fun bm _=>?_
 refine run ?_;refine J.mkG boC false (fun _=>rfl) rfl rfl rfl rfl fun bd=>?_
 rw[show List.replicate g.m false=setT g.m 0 from rfl];refine run ?_;refine J.loop (A:=Nat) (fun p=>[(25, .int .i64 (p:Nat))]) [7,26,27,28,29,30,31] (fun p=>[.gown boC 1 4 (some ⟨bd,0,none⟩) g.m g.m (setT g.m p),mpiE bm l, .blk b1 (grC g) 65]) (fun p=>p≤g.m) (fun p=>g.m - p) 0 (by kernel_rfl) (Nat.zero_le _) (fun p j hp=>?_);refine run ?_;refine J.ifd rfl (fun c1=>?_) (fun c1=>?_)
 ·refine run ?_;refine J.stG1 rfl rfl (q:=true) rfl ?_;rw[Int.toNat_natCast p,setT_set (by omega)];refine run ?_;exact J.next (p+1) ⟨rfl,trivial⟩ (by kernel_rfl) (by omega) (by omega)
 obtain rfl:p=g.m:=by omega
 rw[setT_all];refine J.re (.gown boC 1 4 (some ⟨bd,0,none⟩) g.m g.m (S.hdS g.m [])) (.gown boC 1 4 (some ⟨bd,0,none⟩) g.m g.m (S.hdS g.m (S.namI P 0))) (fun _ _ h=>h) ?_;clear hp c1;refine run ?_;refine J.loop (A:=Nat) (fun i=>[(35, .int .i64 (i:Nat))]) [9,11,36,37,38,39,40,41,42,43,44,45,46,47,48,49,50,51,52] (fun i=>[.gown boC 1 4 (some ⟨bd,0,none⟩) g.m g.m (S.hdS g.m (S.namI P i)),mpiE bm l, .blk b1 (grC g) 65]) (fun i=>i≤g.n) (fun i=>g.n - i) 0 (by kernel_rfl) (Nat.zero_le _) (fun i j hi=>?_);refine run ?_;refine J.ifd rfl (fun c1=>?_) (fun c1=>?_)
 ·obtain⟨z,hz⟩:=G0.ex (i:=(i:Nat)) (by omega);have R:=G.op hz;have R0:=R.row;have h40:=R.ok.n;have hz':=hz;rw[Int.toNat_natCast]at hz';have hzo:=GrA.opAt hz';have hoi:=ho i (by omega);rw[hzo]at hoi;have hpl:(P i).length=z.o.n:=by rw[hP,S.prS_len,hzo]
  refine run ?_;refine J.alloc rfl fun b2=>?_
  refine run ?_;refine J.re (.gown boC 1 4 (some ⟨bd,0,none⟩) g.m g.m (S.hdS g.m (S.namI P i))) (.gown boC 1 4 (some ⟨bd,0,none⟩) g.m g.m (S.hdS g.m (S.namI P i++(P i).take 0))) (fun _ _ h=>by rw[List.take_zero,List.append_nil];exact h) ?_;refine J.loop (A:=Nat) (fun k=>[(42, .int .i64 (k:Nat))]) [11,43,44,45,46,47,48,49,50,51] (fun k=>[.blk b2 (opC z) 34, .gown boC 1 4 (some ⟨bd,0,none⟩) g.m g.m (S.hdS g.m (S.namI P i++(P i).take k)),mpiE bm l, .blk b1 (grC g) 65]) (fun k=>k≤z.o.n) (fun k=>z.o.n - k) 0 (by kernel_rfl) (Nat.zero_le _) (fun k j2 hk=>?_);refine run ?_;refine J.ifd rfl (fun c2=>?_) (fun c2=>?_)
  ·have hA:Arr .u8 32 (elt 32 z.o.ids k):=R0.elt_arr (by omega);have hin:S.inS g.m g.ids (elt 32 z.o.ids k):=hoi k (by omega);have hix:=S.ix_in hin;have hf:=find_ix hl1 hl2 hr hin;have hPk:(P i)[k]? =some (S.ixS g.m g.ids (elt 32 z.o.ids k)):=by
    have:=S.prS_get g.m g.ids g.ops i k (by rw[hzo];omega);rw[←hP,hzo]at this;rw[List.getElem?_eq_getElem (by omega)];rw[List.getD_eq_getElem?_getD,List.getElem?_eq_getElem (by omega),Option.getD_some]at this;rw[this];rfl
   have hset:(S.hdS g.m (S.namI P i++(P i).take k)).set (S.ixS g.m g.ids (elt 32 z.o.ids k)) false=S.hdS g.m (S.namI P i++(P i).take (k+1)):=by
    rw[S.hdS_set _ hix.1,List.append_assoc,List.take_add_one,hPk];rfl
   obtain⟨ix,hxi⟩:=ex (S.ixS g.m g.ids (elt 32 z.o.ids k));rw[←hxi]at hix hf hset;refine run ?_;rw[Int.toNat_natCast];refine J.alloc rfl fun b3=>?_
   refine run ?_;refine J.lookM (q:=⟨elt 32 z.o.ids k,hA.1⟩) rfl rfl hf ?_;refine run ?_;refine J.stG1 rfl rfl (q:=false) rfl ?_;rw[Int.toNat_natCast ix,hset];refine run ?_;exact J.next (k+1) ⟨rfl,trivial⟩ (by kernel_rfl) (by omega) (by omega)
  obtain rfl:k=z.o.n:=by omega
  refine J.re (.gown boC 1 4 (some ⟨bd,0,none⟩) g.m g.m (S.hdS g.m (S.namI P i++(P i).take z.o.n))) (.gown boC 1 4 (some ⟨bd,0,none⟩) g.m g.m (S.hdS g.m (S.namI P (i+1)))) (fun _ _ h=>by rw[List.take_of_length_le (by omega)]at h;rw[S.namI_snoc];exact h) ?_;refine run ?_;refine J.drop (E:=[.gown boC 1 4 (some ⟨bd,0,none⟩) g.m g.m (S.hdS g.m (S.namI P (i+1))),mpiE bm l, .blk b1 (grC g) 65]) sb ?_;exact J.next (i+1) ⟨rfl,trivial⟩ (by kernel_rfl) (by omega) (by omega)
 obtain rfl:i=g.n:=by omega
 have hsel:=hd_sel g.m g.ids g.ops g.n hl.symm;rw[←hP]at hsel;refine run ?_;refine J.call rfl rfl (fun w' M=>(RG.own' (a:=some ⟨bd,0,none⟩) w' M).elim fun _ k0=>ancMarked g (some ⟨bd,0,none⟩) g.m _ w' (D0.ext M.ext) k0 (by omega)) fun q hq=>?_
 refine run ?_;have e1:S.selF (fun i=>(S.hdS g.m (S.namI P g.n)).getD i false) g.ids g.m=S.hdI g.P:=by unfold S.hdI;exact S.selF_congr hsel
 have e2:S.numF (fun i=>(S.hdS g.m (S.namI P g.n)).getD i false) g.m=S.hdN g.P:=by unfold S.hdN;exact S.numF_congr hsel
 rw[e1];exact J.finG q rfl (hq.trans e2) sb
theorem wTk{S0:Nat→Prop}{w:World}{a:Option Addr}{n:Nat}{ids:List Int}(h:WRow .u8 32 S0 w a n ids)(p c:Nat)(hp:p≤n)(hc:p≤c):WRow .u8 32 S0 w (subA a 0 32 c) p (ids.take (32*p)):=by
 have hl:=h.len;have:=h.row.sub 0 p 32 c (by rw[ints_length];omega) (Nat.zero_le _) hc;refine⟨?_,by rw[List.length_take];omega,h.bd.take _⟩;simpa [ints,List.map_take,Nat.mul_comm]using this
theorem wDp{S0:Nat→Prop}{w:World}{a:Option Addr}{n:Nat}{ids:List Int}(h:WRow .u8 32 S0 w a n ids)(p c:Nat)(hp:p≤n)(hc:n≤c):WRow .u8 32 S0 w (subA a p 32 c) (n - p) (ids.drop (32*p)):=by
 have hl:=h.len;have:=h.row.sub p n 32 c (by rw[ints_length];omega) hp hc;refine⟨?_,by rw[List.length_drop];omega,fun x hx=>h.bd x (List.mem_of_mem_drop hx)⟩;have e:((ints .u8 ids).drop (p*32)).take ((n - p)*32)=ints .u8 (ids.drop (32*p)):=by
  unfold ints;rw[←List.map_drop,←List.map_take,Nat.mul_comm p 32,List.take_of_length_le (by rw[List.length_drop];omega)]
 rwa[e]at this
end W
namespace W
open Go.RowKit G
section
variable{S0:Nat→Prop}{w0:World}{L:List Ent}{P:Program}{ops:Array Oper}{K:List Value→World→Prop}{rest:List (Oper×Kd)}{l l':List Value}{m:Md}{d:Tmp}{ty xt e:TypeId}{pos:String}{af:Array Edge}{kd:Kd}{x y:Operand}{nn:Nat}{ki k:IntKind}{a:Option Addr}{k0 sz n:Nat}{i:Int}{xs:List Int}
theorem J.ixA[U:Und P xt (.array nn e)][Z:Siz P e 1](hk:pureK kd=true)(ha:∃b o,a=some ⟨b,o,none⟩)(hx:ev l x=pt a k0)(hy:ev l y= .int ki 0)(kk:J S0 w0 L (RY S0 w0 m P ops K rest l'))(hn:0<nn:=by decide)(hl:l.set d (pt a (k0+0))=l':=by dsimp only[List.set]):
  J S0 w0 L (RY S0 w0 m P ops K ((⟨some d, .indexAddr xt x y,ty,pos,af,none⟩,kd)::rest) l):=
 J.pur hk (fun w => by
  obtain ⟨b, o, rfl⟩ := ha
  rw [pt_some rfl]
  exact D.indexArr (i := 0) (hx.trans (pt_some rfl k0)) hy U.h Z.h (by decide) (by omega)) kk hl
end
end W
namespace W
open Go.RowKit G
set_option maxRecDepth 20000
set_option maxHeartbeats 8000000
attribute [local irreducible] RS RX RY Code.wp bodyPost J Ent.blk Ent.iown Ent.wrow Ent.wown Ent.gown Ent.all Ent.emp
instance:Sca prog 5:=⟨_,underlying5,rfl⟩
theorem shNumber(x:List Int)(n:Int)(hx:Arr .u8 32 x)(hn:0<n∧n≤1000)(w:World):
  Calls prog 141 #[.agg (ints .u8 x).toArray, .int .i64 n] w (Ret w fun v _=>v= .int .i64 (x.getD 0 0 % n)):=by
 obtain⟨x0,xs,rfl⟩:∃x0 xs,x=x0::xs:=by
  cases x with
  |nil=>exact absurd hx.1 (by decide)
  |cons y ys=>exact⟨y,ys,rfl⟩
 have h0:=hx.2 x0 (List.mem_cons_self);simp only[lim]at h0;refine J.enter 8 func141 rfl rfl ?_;refine run ?_;refine J.box rfl rfl rfl fun b1=>?_
 refine run ?_;refine J.ixA (a:=some ⟨b1,0,none⟩) (k0:=0) rfl ⟨b1,0,rfl⟩ rfl rfl ?_;refine J.ld (b:=b1) (o:=0) rfl ?_;refine run ?_;exact J.fin rfl
end W
namespace S
open G
structure ShV where
 (ps:List PG)(hn:Nat)(hs:List Int)(ver:Int)
def ShV.zero:ShV:=⟨[],0,[],0⟩
def modF(g:PG)(n i:Nat)(k:Nat):Bool:=decide ((idAt g.ids k).getD 0 0 % (n:Int)=(i:Nat))
def prtS(g:PG)(n i:Nat):PG:=parS g (numF (modF g n i) g.m) (selF (modF g n i) g.ids g.m)
def madeS(g:PG)(n:Nat):ShV:=⟨(List.range n).map (prtS g n),hdN g,hdI g,g.m⟩
theorem made_len(g:PG)(n:Nat):(madeS g n).ps.length=n:=by unfold madeS;simp
def hitS(p:PG)(x:List Int):Prop:=inS p.m p.ids x∧ixS p.m p.ids x<p.ops.length
instance(p:PG)(x:List Int):Decidable (hitS p x):=by unfold hitS;infer_instance
def whP(ps:List PG)(x:List Int)(g:PG):Nat→PG
 |0=>g
 |k+1=>if hitS (ps.getD k PG.nil) x then⟨(whP ps x g k).m+1,(whP ps x g k).ids++x,(whP ps x g k).ops++[(ps.getD k PG.nil).ops.getD (ixS (ps.getD k PG.nil).m (ps.getD k PG.nil).ids x) OpV.zero]⟩else whP ps x g k
theorem whP_hit{ps:List PG}{x:List Int}{g:PG}{k:Nat}(h:hitS (ps.getD k PG.nil) x):whP ps x g (k+1)=⟨(whP ps x g k).m+1,(whP ps x g k).ids++x,(whP ps x g k).ops++[(ps.getD k PG.nil).ops.getD (ixS (ps.getD k PG.nil).m (ps.getD k PG.nil).ids x) OpV.zero]⟩:=by
 rw[whP,if_pos h]
theorem whP_no{ps:List PG}{x:List Int}{g:PG}{k:Nat}(h:¬hitS (ps.getD k PG.nil) x):whP ps x g (k+1)=whP ps x g k:=by
 rw[whP,if_neg h]
def whI(ps:List PG)(ids:List Int):Nat→PG
 |0=>PG.nil
 |i+1=>whP ps (idAt ids i) (whI ps ids i) ps.length
theorem whI_succ(ps:List PG)(ids:List Int)(i:Nat):whI ps ids (i+1)=whP ps (idAt ids i) (whI ps ids i) ps.length:=rfl
def allI'(ps:List PG):List Int:=ps.flatMap PG.ids
def allN(ps:List PG):Nat:=(ps.map PG.m).foldl (· + ·) 0
theorem allN_snoc(l:List PG)(g:PG):allN (l++[g])=allN l+g.m:=by unfold allN;simp[List.foldl_append]
theorem allI_snoc(l:List PG)(g:PG):allI' (l++[g])=allI' l++g.ids:=by unfold allI';simp
theorem all_take(ps:List PG){k:Nat}(hk:k<ps.length):allN (ps.take (k+1))=allN (ps.take k)+(ps.getD k PG.nil).m∧allI' (ps.take (k+1))=allI' (ps.take k)++(ps.getD k PG.nil).ids:=by
 rw[List.take_add_one,List.getElem?_eq_getElem hk,Option.toList_some,allN_snoc,allI_snoc,List.getD_eq_getElem?_getD,List.getElem?_eq_getElem hk];exact⟨rfl,rfl⟩
theorem allN_le{ps:List PG}{b:Nat}(h:∀p∈ps,p.m≤b):∀k,k≤ps.length→allN (ps.take k)≤b*k
 |0,_=>by simp[allN]
 |k+1,hk=>by
  have ih:=allN_le h k (by omega);have hm:=h _ (List.getElem_mem (show k<ps.length by omega));rw[(all_take ps (by omega)).1,List.getD_eq_getElem?_getD,List.getElem?_eq_getElem (by omega),Nat.mul_add];show _+(ps[k]).m≤_;omega
theorem all_len{ps:List PG}(h:∀p∈ps,p.ids.length=32*p.m):∀k,k≤ps.length→(allI' (ps.take k)).length=32*allN (ps.take k)
 |0,_=>by simp[allI',allN]
 |k+1,hk=>by
  have ih:=all_len h k (by omega);have hm:=h _ (List.getElem_mem (show k<ps.length by omega));rw[(all_take ps (by omega)).1,(all_take ps (by omega)).2,List.length_append,ih,List.getD_eq_getElem?_getD,List.getElem?_eq_getElem (by omega),Nat.mul_add];show _+(ps[k]).ids.length=32*_+32*(ps[k]).m;omega
def whole(ps:List PG):PG:=whI ps (srtS (allI' ps) (allN ps)).2 (srtS (allI' ps) (allN ps)).1
end S
namespace W
open Go.RowKit G
set_option maxRecDepth 20000
set_option maxHeartbeats 8000000
attribute [local irreducible] RS RX RY Code.wp bodyPost J Ent.blk Ent.iown Ent.wrow Ent.wown Ent.gown Ent.all Ent.emp
structure ShA where
 (pa:Option Addr)(pn pc:Nat)(gs:List GrA)(ha:Option Addr)(hn hc:Nat)(hs:List Int)(ver:Int)
@[reducible] def shC(s:ShA):List Value:=[.slice s.pa s.pn s.pc, .slice s.ha s.hn s.hc, .int .i64 s.ver]
@[reducible] def ShA.V(s:ShA):S.ShV:=⟨s.gs.map GrA.P,s.hn,s.hs,s.ver⟩
def ShA.zero:ShA:=⟨none,0,0,[],none,0,0,[],0⟩
theorem grC_len(g:GrA):(grC g).length=2:=rfl
theorem grC_one(g:GrA):∀u∈grC g,u.oneCell'=true:=by
 intro u hu;simp only[grC,List.mem_cons,List.not_mem_nil,or_false]at hu;rcases hu with rfl|rfl<;>rfl
structure ShR(S0:Nat→Prop)(w:World)(s:ShA):Prop where
 pr:GRow (fun g:GrA=>grC g) 2 S0 w s.pa s.pn s.gs
 gi:∀g∈s.gs,GrR S0 w g
 hr:WRow .u8 32 S0 w s.ha s.hn s.hs
 cap:s.pn≤s.pc∧s.hn≤s.hc∧s.pn≤6∧s.hn≤100
theorem ShR.ext{S0:Nat→Prop}{w w':World}{s:ShA}(h:ShR S0 w s)(x:Ext w w'):ShR S0 w' s:=⟨h.pr.ext x,fun g hg=>(h.gi g hg).ext x,h.hr.ext x,h.cap⟩
theorem ShR.g{S0:Nat→Prop}{w:World}{s:ShA}(h:ShR S0 w s){i:Nat}{g:GrA}(hg:s.gs[i]? =some g):GrR S0 w g:=h.gi g (List.mem_of_getElem? hg)
def ShL(s:ShA):Prop:=s.pn≤4→S.allN s.V.ps≤64
def grAll(g:GrA):Ent:= .all (grE 23 34 g)
@[reducible] def shE(s:ShA):List Ent:=[.gown (fun g:GrA=>grC g) 2 65 s.pa s.pn s.pc s.gs, .all (s.gs.map grAll), .wown 23 .u8 32 s.ha s.hn s.hc s.hs]
structure GrK(g:GrA):Prop where
 ok:∀z∈g.zs,z.o.ok
 cap:∀z∈g.zs,z.o.n≤z.pc
structure ShK(v:S.ShV)(s:ShA):Prop where
 V:s.V=v
 k:∀g∈s.gs,GrK g
theorem J.triG{S0:Nat→Prop}{w0:World}{L:List Ent}{X:World→Prop}(q:GrA){F1 F2 F3 F4:Ent→List Ent}[R1:RE L (.gown opC 11 34 q.oa q.n q.oc q.zs) F1][R2:RE (F1 .emp) (.all (q.zs.map (opE 23))) F2]
  [R3:RE (F2 (.all [.gown opC 11 34 q.oa q.n q.oc q.zs, .all (q.zs.map (opE 23))])) (.wown 23 .u8 32 q.ia q.m q.ic q.ids) F3][R4:RE (F3 .emp) (.all [.gown opC 11 34 q.oa q.n q.oc q.zs, .all (q.zs.map (opE 23))]) F4](k:J S0 w0 (F4 (grAll q)) X):J S0 w0 L X:=
 J.pair (.gown opC 11 34 q.oa q.n q.oc q.zs) (.all (q.zs.map (opE 23))) (J.snocA [.gown opC 11 34 q.oa q.n q.oc q.zs, .all (q.zs.map (opE 23))] (.wown 23 .u8 32 q.ia q.m q.ic q.ids) k)
end W
namespace S
open G
/-! ### sums -/
def sm(f:Nat→Nat):Nat→Nat
 |0=>0
 |n+1=>sm f n+f n
theorem sm_zero:∀n,sm (fun _=>0) n=0
 |0=>rfl
 |n+1=>by rw[sm,sm_zero n]
theorem sm_add(f g:Nat→Nat):∀n,sm (fun i=>f i+g i) n=sm f n+sm g n
 |0=>rfl
 |n+1=>by rw[sm,sm,sm,sm_add f g n];omega
theorem sm_swap(F:Nat→Nat→Nat)(n:Nat):∀k,sm (fun i=>sm (F i) k) n=sm (fun j=>sm (fun i=>F i j) n) k
 |0=>sm_zero n
 |k+1=>by
  show sm (fun i=>sm (F i) k+F i k) n=_;rw[sm_add,sm_swap F n k];rfl
theorem sm_le{f g:Nat→Nat}:∀ {n:Nat},(∀i,i<n→f i≤g i)→sm f n≤sm g n
 |0,_=>Nat.le_refl _
 |n+1,h=>by
  have:=sm_le (n:=n) fun i hi=>h i (by omega);have:=h n (by omega);rw[sm,sm];omega
theorem sm_ind(P:Nat→Prop)[DecidablePred P]:∀n,sm (fun i=>if P i then 1 else 0) n=((List.range n).filter fun i=>decide (P i)).length
 |0=>rfl
 |n+1=>by
  rw[sm,sm_ind P n,List.range_succ,List.filter_append,List.length_append];congr 1;by_cases h:P n
  ·simp[h]
  ·simp[h]
/-! ### a graph with one more at its end -/
def PG.snoc(g:PG)(x:List Int)(o:OpV):PG:=⟨g.m+1,g.ids++x,g.ops++[o]⟩
section
variable{g:PG}{x y:List Int}{o u:OpV}
theorem snoc_good(hg:g.good)(hx:x.length=32):(g.snoc x o).good:=⟨by show(g.ids++x).length=32*(g.m+1);rw[List.length_append,hg.1,hx];omega,by show(g.ops++[o]).length=g.m+1;rw[List.length_append,hg.2];rfl⟩
theorem snoc_at(hg:g.good)(hx:x.length=32)(i:Nat)(hi:i<g.m+1):idAt (g.snoc x o).ids i=if i<g.m then idAt g.ids i else x:=by
 show idAt (g.ids++x) i=_;rw[idAt_app hg.1];split
 ·rfl
 ·rw[show i - g.m=0 by omega];unfold idAt;rw[Nat.mul_zero,List.drop_zero,List.take_of_length_le (by omega)]
theorem snoc_op(hg:g.good)(i:Nat)(hi:i<g.m+1):(g.snoc x o).ops.getD i OpV.zero=if i<g.m then g.ops.getD i OpV.zero else o:=by
 show(g.ops++[o]).getD i OpV.zero=_;rw[List.getD_eq_getElem?_getD];split
 ·rw[List.getElem?_append_left (by rw[hg.2];assumption),List.getD_eq_getElem?_getD]
 ·rw[List.getElem?_append_right (by rw[hg.2];omega),hg.2,show i - g.m=0 by omega];rfl
theorem snoc_has(hg:g.good)(hx:x.length=32):(g.snoc x o).has y u↔g.has y u∨(x=y∧o=u):=by
 constructor
 ·rintro⟨i,hi,e1,e2⟩;have hi':i<g.m+1:=hi;rw[snoc_at hg hx i hi']at e1;rw[snoc_op hg i hi']at e2;by_cases h:i<g.m
  ·rw[if_pos h]at e1 e2;exact .inl ⟨i,h,e1,e2⟩
  ·rw[if_neg h]at e1 e2;exact .inr ⟨e1,e2⟩
 ·rintro(⟨i,hi,e1,e2⟩|⟨e1,e2⟩)
  ·exact⟨i,Nat.lt_succ_of_lt hi,by rw[snoc_at hg hx i (by omega),if_pos hi];exact e1,by rw[snoc_op hg i (by omega),if_pos hi];exact e2⟩
  ·exact⟨g.m,Nat.lt_succ_self _,by rw[snoc_at hg hx _ (by omega),if_neg (by omega)];exact e1,by rw[snoc_op hg _ (by omega),if_neg (by omega)];exact e2⟩
theorem snoc_rising(hg:g.good)(hr:Rising g.m g.ids)(hx:x.length=32)(h:∀i,i<g.m→cmpS (idAt g.ids i) x<0):Rising (g.snoc x o).m (g.snoc x o).ids:=fun i hi=>by
 have hi':i<g.m:=by have:(g.snoc x o).m=g.m+1:=rfl;omega
 rw[snoc_at hg hx i (by omega),snoc_at hg hx (i+1) (by omega),if_pos hi'];split
 ·exact hr i (by omega)
 ·exact h i hi'
end
/-! ### ids in their order -/
theorem srt_good{ids:List Int}{n:Nat}(hl:ids.length=32*n):∀k,k≤n→(srtS ids k).2.length=32*(srtS ids k).1∧Rising (srtS ids k).1 (srtS ids k).2∧∀y,inS (srtS ids k).1 (srtS ids k).2 y↔∃j,j<k∧idAt ids j=y
 |0,_=>⟨rfl,nil_rising,fun y=>⟨fun h=>absurd h (nil_in y),fun⟨j,hj,_⟩=>absurd hj (Nat.not_lt_zero _)⟩⟩
 |k+1,hk=>by
  obtain⟨h1,h2,h3⟩:=srt_good hl k (by omega);have hx:=idAt_len ids k n hl (by omega);by_cases h:spotS (srtS ids k).1 (srtS ids k).2 (idAt ids k)<(srtS ids k).1∧idAt (srtS ids k).2 (spotS (srtS ids k).1 (srtS ids k).2 (idAt ids k))=idAt ids k
  ·rw[srtS_same h];refine⟨h1,h2,fun y=>(h3 y).trans ⟨fun⟨j,hj,e⟩=>⟨j,by omega,e⟩,fun⟨j,hj,e⟩=>?_⟩⟩;rcases Nat.lt_or_ge j k with c|c
   ·exact⟨j,c,e⟩
   ·obtain rfl:j=k:=by omega
    rw[←e];exact(h3 _).1 ⟨_,h.1,h.2⟩
  ·rw[srtS_more h];have hg:(⟨(srtS ids k).1,(srtS ids k).2,List.replicate (srtS ids k).1 OpV.zero⟩:PG).good:=⟨h1,List.length_replicate⟩
   have hn : ¬ inS (srtS ids k).1 (srtS ids k).2 (idAt ids k) := fun hi => h (by
    have := (spotS_has h2).1 hi
    exact ⟨this.1, (cmpS_eq _ _).1 this.2⟩)
   refine⟨(putP_good hg hx OpV.zero).1,putP_rising hg h2 hx hn OpV.zero,fun y=>(putP_in hg hx OpV.zero).trans ⟨fun hy=>?_,fun⟨j,hj,e⟩=>?_⟩⟩
   ·rcases hy with hy|hy
    ·obtain⟨j,hj,e⟩:=(h3 y).1 hy;exact⟨j,by omega,e⟩
    ·exact⟨k,by omega,hy.symm⟩
   ·rcases Nat.lt_or_ge j k with c|c
    ·exact .inl ((h3 y).2 ⟨j,c,e⟩)
    ·obtain rfl:j=k:=by omega
     exact .inr e.symm
theorem all_in{ps:List PG}(hw:∀p∈ps,p.ids.length=32*p.m)(y:List Int):∀k,k≤ps.length→(inS (allN (ps.take k)) (allI' (ps.take k)) y↔∃j,j<k∧inS (ps.getD j PG.nil).m (ps.getD j PG.nil).ids y)
 |0,_=>⟨fun h=>absurd h inS_zero,fun⟨j,hj,_⟩=>absurd hj (Nat.not_lt_zero _)⟩
 |k+1,hk=>by
  have ih:=all_in hw y k (by omega);have e:=all_take ps (k:=k) (by omega);rw[e.1,e.2,inS_app (all_len hw k (by omega)),ih];constructor
  ·rintro(⟨j,hj,h⟩|h)
   ·exact⟨j,by omega,h⟩
   ·exact⟨k,by omega,h⟩
  ·rintro⟨j,hj,h⟩;rcases Nat.lt_or_ge j k with c|c
   ·exact .inl ⟨j,c,h⟩
   ·obtain rfl:j=k:=by omega
    exact .inr h
/-! ### how many operations there are -/
theorem whP_m(ps:List PG)(x:List Int)(g:PG):∀k,(whP ps x g k).m=g.m+sm (fun j=>if hitS (ps.getD j PG.nil) x then 1 else 0) k
 |0=>rfl
 |k+1=>by
  have ih:=whP_m ps x g k;rw[sm];by_cases h:hitS (ps.getD k PG.nil) x
  ·rw[whP_hit h,if_pos h];dsimp only;omega
  ·rw[whP_no h,if_neg h];omega
theorem whI_m(ps:List PG)(ids:List Int):∀i,(whI ps ids i).m=sm (fun i=>sm (fun j=>if hitS (ps.getD j PG.nil) (idAt ids i)then 1 else 0) ps.length) i
 |0=>rfl
 |i+1=>by rw[whI_succ,whP_m,whI_m ps ids i];rfl
theorem col_le{p:PG}{ids:List Int}{n:Nat}(h:∀a,a<n→∀b,b<n→idAt ids a=idAt ids b→a=b):sm (fun i=>if hitS p (idAt ids i)then 1 else 0) n≤p.m:=by
 rw[sm_ind];have hm:∀a∈(List.range n).filter fun i=>decide (hitS p (idAt ids i)),a<n∧hitS p (idAt ids a):=fun a ha=>by
  rw[List.mem_filter]at ha;exact⟨List.mem_range.1 ha.1,of_decide_eq_true ha.2⟩
 have hn := nodup_map_on (f := fun i => ixS p.m p.ids (idAt ids i)) (l := (List.range n).filter fun i => decide (hitS p (idAt ids i))) (fun a ha b hb e => by
  obtain ⟨h1, h2⟩ := hm a ha
  obtain ⟨h3, h4⟩ := hm b hb
  refine h a h1 b h3 ?_
  have e1 := (ix_in h2.1).2
  have e2 := (ix_in h4.1).2
  rw [← e1, ← e2, e]) (List.nodup_range.sublist List.filter_sublist)
 have:=nodup_len hn (m:=List.range p.m) fun y hy=>by
  obtain⟨a,ha,rfl⟩:=List.mem_map.1 hy;exact List.mem_range.2 (ix_in (hm a ha).2.1).1
 rwa[List.length_map,List.length_range]at this
theorem sm_all(ps:List PG):∀k,k≤ps.length→sm (fun j=>(ps.getD j PG.nil).m) k=allN (ps.take k)
 |0,_=>by simp[sm,allN]
 |k+1,hk=>by rw[sm,sm_all ps k (by omega),(all_take ps (by omega)).1]
theorem whole_le{ps:List PG}(hw:∀p∈ps,p.ids.length=32*p.m):(whole ps).m≤allN ps:=by
 have hl:=all_len hw ps.length (Nat.le_refl _);rw[List.take_length]at hl;obtain⟨_,hr,_⟩:=srt_good hl (allN ps) (Nat.le_refl _);unfold whole;rw[whI_m,sm_swap];refine Nat.le_trans (sm_le (g:=fun j=>(ps.getD j PG.nil).m) fun j _=>col_le fun a ha b hb e=>rising_inj hr ha hb e) ?_;rw[sm_all ps _ (Nat.le_refl _),List.take_length];exact Nat.le_refl _
/-! ### good parts -/
def goodP(n i:Nat)(p:PG):Prop:=p.good∧Rising p.m p.ids∧∀j,j<p.m→(idAt p.ids j).getD 0 0 % (n:Int)=(i:Nat)
def goodPs(ps:List PG):Prop:=∀i,i<ps.length→goodP ps.length i (ps.getD i PG.nil)
section
variable{ps:List PG}
theorem goodPs.mem(h:goodPs ps){p:PG}(hp:p∈ps):p.good∧Rising p.m p.ids:=by
 obtain⟨i,hi,rfl⟩:=List.getElem_of_mem hp;have:=h i hi;rw[getD_at hi]at this;exact⟨this.1,this.2.1⟩
theorem goodPs.one(h:goodPs ps){i j:Nat}{x:List Int}(hi:i<ps.length)(hj:j<ps.length)(h1:inS (ps.getD i PG.nil).m (ps.getD i PG.nil).ids x)(h2:inS (ps.getD j PG.nil).m (ps.getD j PG.nil).ids x):i=j:=by
 obtain⟨a,ha,e1⟩:=h1;obtain⟨b,hb,e2⟩:=h2;have r1:=(h i hi).2.2 a ha;have r2:=(h j hj).2.2 b hb;rw[e1]at r1;rw[e2]at r2;omega
theorem goodPs.hit(h:goodPs ps){i:Nat}{x:List Int}(hi:i<ps.length):hitS (ps.getD i PG.nil) x↔inS (ps.getD i PG.nil).m (ps.getD i PG.nil).ids x:=
 ⟨fun k=>k.1,fun k=>⟨k,by rw[(h i hi).1.2];exact(ix_in k).1⟩⟩
theorem whP_none{x:List Int}{g:PG}:∀ {k:Nat},(∀j,j<k→¬hitS (ps.getD j PG.nil) x)→whP ps x g k=g
 |0,_=>rfl
 |k+1,h=>by rw[whP_no (h k (by omega)),whP_none fun j hj=>h j (by omega)]
theorem whP_one{x:List Int}{g:PG}{i:Nat}(hi:hitS (ps.getD i PG.nil) x):∀ {k:Nat},i<k→(∀j,j<k→hitS (ps.getD j PG.nil) x→j=i)→whP ps x g k=g.snoc x ((ps.getD i PG.nil).ops.getD (ixS (ps.getD i PG.nil).m (ps.getD i PG.nil).ids x) OpV.zero)
 |k+1,hk,h=>by
  by_cases e:i=k
  ·subst e;rw[whP_hit hi,whP_none fun j hj hh=>absurd (h j (by omega) hh) (by omega)];rfl
  ·rw[whP_no fun hh=>e (h k (by omega) hh).symm];exact whP_one hi (by omega) fun j hj=>h j (by omega)
theorem idAt_take{l:List Int}(i:Nat):l.take (32*(i+1))=l.take (32*i)++idAt l i:=by
 unfold idAt;rw[Nat.mul_add,Nat.mul_one,List.take_add]
theorem whI_good(h:goodPs ps){J:List Int}{n:Nat}(hJ:∀i,i<n→∃j,j<ps.length∧inS (ps.getD j PG.nil).m (ps.getD j PG.nil).ids (idAt J i)):∀i,i≤n→
  (whI ps J i).m=i∧(whI ps J i).ids=J.take (32*i)∧(whI ps J i).ops.length=i∧∀k,k<i→∀j,j<ps.length→inS (ps.getD j PG.nil).m (ps.getD j PG.nil).ids (idAt J k)→(whI ps J i).ops.getD k OpV.zero=(ps.getD j PG.nil).ops.getD (ixS (ps.getD j PG.nil).m (ps.getD j PG.nil).ids (idAt J k)) OpV.zero
 |0,_=>⟨rfl,by simp[whI,PG.nil],rfl,fun k hk=>absurd hk (Nat.not_lt_zero _)⟩
 |i+1,hi=>by
  obtain⟨h1,h2,h3,h4⟩:=whI_good h hJ i (by omega);obtain⟨j,hj,hin⟩:=hJ i (by omega);have e:whI ps J (i+1)=_:=whP_one (g:=whI ps J i) ((h.hit hj).2 hin) hj fun k hk hh=>h.one hk hj hh.1 hin;rw[e];refine⟨by show(whI ps J i).m+1=_;rw[h1],by show(whI ps J i).ids++_=_;rw[h2,idAt_take],by show((whI ps J i).ops++[_]).length=_;rw[List.length_append,h3];rfl,fun k hk j' hj' hin'=>?_⟩;show((whI ps J i).ops++[_]).getD k OpV.zero=_;rw[List.getD_eq_getElem?_getD];rcases Nat.lt_or_ge k i with c|c
  ·rw[List.getElem?_append_left (by omega),←List.getD_eq_getElem?_getD];exact h4 k c j' hj' hin'
  ·obtain rfl:k=i:=by omega
   obtain rfl:=h.one hj hj' hin hin';rw[List.getElem?_append_right (by omega),h3,Nat.sub_self];rfl
structure Mrg(ps:List PG)(g:PG):Prop where
 good:g.good
 rise:Rising g.m g.ids
 has:∀x o,g.has x o↔∃p∈ps,p.has x o
theorem Mrg.eq{g g':PG}(h:Mrg ps g)(h':Mrg ps g'):g=g':=PG.ext_has h.good h'.good h.rise h'.rise fun x o=>(h.has x o).trans (h'.has x o).symm
theorem mem_parts{q:PG→Prop}:(∃p∈ps,q p)↔∃j,j<ps.length∧q (ps.getD j PG.nil):=
 ⟨fun ⟨p, hp, hq⟩ => by
  obtain ⟨i, hi, rfl⟩ := List.getElem_of_mem hp
  exact ⟨i, hi, by rw [getD_at hi]; exact hq⟩, fun ⟨j, hj, hq⟩ => ⟨_, by rw [getD_at hj]; exact List.getElem_mem hj, hq⟩⟩
theorem whole_mrg(h:goodPs ps):Mrg ps (whole ps):=by
 have hw:∀p∈ps,p.ids.length=32*p.m:=fun p hp=>(h.mem hp).1.1;have hl:=all_len hw ps.length (Nat.le_refl _);have ha:=fun y=>all_in hw y ps.length (Nat.le_refl _);rw[List.take_length]at hl ha;obtain⟨h1,hr,h3⟩:=srt_good hl (allN ps) (Nat.le_refl _);have hs:∀y,inS (srtS (allI' ps) (allN ps)).1 (srtS (allI' ps) (allN ps)).2 y↔∃j,j<ps.length∧inS (ps.getD j PG.nil).m (ps.getD j PG.nil).ids y:=fun y=>(h3 y).trans (ha y);obtain⟨g1,g2,g3,g4⟩:=whI_good h (J:=(srtS (allI' ps) (allN ps)).2) (n:=(srtS (allI' ps) (allN ps)).1) (fun i hi=>(hs _).1 ⟨i,hi,rfl⟩) _ (Nat.le_refl _);rw[List.take_of_length_le (by omega)]at g2;have e:whole ps=whI ps (srtS (allI' ps) (allN ps)).2 (srtS (allI' ps) (allN ps)).1:=rfl;rw[←e]at g1 g2 g3 g4;refine⟨⟨by rw[g2,g1,h1],by rw[g3,g1]⟩,by rw[g1,g2];exact hr,fun x o=>Iff.trans ⟨?_,?_⟩ mem_parts.symm⟩
 ·rintro⟨i,hi,e1,e2⟩;rw[g1]at hi;rw[g2]at e1;obtain⟨j,hj,hin⟩:=(hs x).1 ⟨i,hi,e1⟩;refine⟨j,hj,_,(ix_in hin).1,(ix_in hin).2,?_⟩;rw[←e2,g4 i hi j hj (by rw[e1];exact hin),e1]
 ·rintro⟨j,hj,i',hi',e1,e2⟩;have hin:inS (ps.getD j PG.nil).m (ps.getD j PG.nil).ids x:=⟨i',hi',e1⟩
  obtain⟨i,hi,e3⟩:=(hs x).2 ⟨j,hj,hin⟩;refine⟨i,by rw[g1];exact hi,by rw[g2];exact e3,?_⟩;rw[g4 i hi j hj (by rw[e3];exact hin),e3,←e1,ix_eq (h j hj).2.1 hi'];exact e2
end
def selP(f:Nat→Bool)(g:PG)(n:Nat):PG:=⟨numF f n,selF f g.ids n,selO f g.ops n⟩
theorem selP_yes{f:Nat→Bool}{g:PG}{n:Nat}(h:f n=true):selP f g (n+1)=(selP f g n).snoc (idAt g.ids n) (g.ops.getD n OpV.zero):=by
 unfold selP PG.snoc;rw[numF,selF,selO,h];rfl
theorem selP_no{f:Nat→Bool}{g:PG}{n:Nat}(h:f n=false):selP f g (n+1)=selP f g n:=by
 unfold selP;rw[numF,selF,selO,h];simp
theorem sel_all{f:Nat→Bool}{g:PG}(hg:g.good)(hr:Rising g.m g.ids):∀n,n≤g.m→(selP f g n).good∧Rising (selP f g n).m (selP f g n).ids∧∀x o,(selP f g n).has x o↔∃k,k<n∧f k=true∧idAt g.ids k=x∧g.ops.getD k OpV.zero=o
 |0,_=>⟨⟨rfl,rfl⟩,nil_rising,fun x o=>⟨fun h=>absurd h (nil_has x o),fun⟨k,hk,_⟩=>absurd hk (Nat.not_lt_zero _)⟩⟩
 |n+1,hn=>by
  obtain⟨h1,h2,h3⟩:=sel_all hg hr n (by omega);have hx:=idAt_len g.ids n g.m hg.1 (by omega);cases h:f n with
  |false=>
   rw[selP_no h];refine⟨h1,h2,fun x o=>(h3 x o).trans ⟨fun⟨k,hk,r⟩=>⟨k,by omega,r⟩,fun⟨k,hk,r⟩=>?_⟩⟩;rcases Nat.lt_or_ge k n with c|c
   ·exact⟨k,c,r⟩
   ·obtain rfl:k=n:=by omega
    rw[h]at r;exact absurd r.1 (by simp)
  |true=>
   rw[selP_yes h];refine⟨snoc_good h1 hx,snoc_rising h1 h2 hx fun i hi=>?_,fun x o=>(snoc_has h1 hx).trans ⟨fun hh=>?_,fun⟨k,hk,r⟩=>?_⟩⟩
   ·obtain⟨k,hk,_,e,_⟩:=(h3 (idAt (selP f g n).ids i) _).1 ⟨i,hi,rfl,rfl⟩;rw[←e];exact rising_lt hr k n hk (by omega)
   ·rcases hh with hh|⟨e1,e2⟩
    ·obtain⟨k,hk,r⟩:=(h3 x o).1 hh;exact⟨k,by omega,r⟩
    ·exact⟨n,by omega,h,e1,e2⟩
   ·rcases Nat.lt_or_ge k n with c|c
    ·exact .inl ((h3 x o).2 ⟨k,c,r⟩)
    ·obtain rfl:k=n:=by omega
     exact .inr r.2
theorem selO_congr{f g:Nat→Bool}{ops:List OpV}:∀ {n:Nat},(∀i,i<n→f i=g i)→selO f ops n=selO g ops n
 |0,_=>rfl
 |n+1,h=>by unfold selO;rw[selO_congr fun i hi=>h i (by omega),h n (by omega)]
section
variable{g:PG}{n i:Nat}
theorem prt_sel(hg:g.good)(hr:Rising g.m g.ids):prtS g n i=selP (modF g n i) g g.m:=by
 obtain⟨_,_,h3⟩:=sel_all (f:=modF g n i) hg hr g.m (Nat.le_refl _);have e:∀k,k<g.m→parF g (numF (modF g n i) g.m) (selF (modF g n i) g.ids g.m) k=modF g n i k:=fun k hk=>by
  have hin:inS (numF (modF g n i) g.m) (selF (modF g n i) g.ids g.m) (idAt g.ids k)↔modF g n i k=true:=by
   refine(has_in (g:=selP (modF g n i) g g.m)).trans ⟨fun⟨o,ho⟩=>?_,fun h=>⟨_,(h3 _ _).2 ⟨k,hk,h,rfl,rfl⟩⟩⟩;obtain⟨j,_,hj,e,_⟩:=(h3 _ _).1 ho;unfold modF at hj⊢;rwa[e]at hj
  unfold parF;cases hm:modF g n i k with
  |true=>exact decide_eq_true (hin.2 hm)
  |false=>exact decide_eq_false fun h=>by rw[hin.1 h]at hm;cases hm
 unfold prtS parS selP;rw[numF_congr e,selF_congr e,selO_congr e]
theorem prt_all(hg:g.good)(hr:Rising g.m g.ids):(prtS g n i).good∧Rising (prtS g n i).m (prtS g n i).ids∧∀x o,(prtS g n i).has x o↔g.has x o∧x.getD 0 0 % (n:Int)=(i:Nat):=by
 rw[prt_sel hg hr];obtain⟨h1,h2,h3⟩:=sel_all (f:=modF g n i) hg hr g.m (Nat.le_refl _);refine⟨h1,h2,fun x o=>(h3 x o).trans ⟨fun⟨k,hk,hf,e1,e2⟩=>⟨⟨k,hk,e1,e2⟩,?_⟩,fun⟨⟨k,hk,e1,e2⟩,hm⟩=>⟨k,hk,?_,e1,e2⟩⟩⟩
 ·rw[←e1];exact of_decide_eq_true hf
 ·rw[←e1]at hm;exact decide_eq_true hm
end
theorem made_at{g:PG}{n i:Nat}(hi:i<n):(madeS g n).ps.getD i PG.nil=prtS g n i:=by
 rw[getD_at (by rw[made_len];exact hi)];unfold madeS;simp
theorem made_good{g:PG}{n:Nat}(hg:g.good)(hr:Rising g.m g.ids):goodPs (madeS g n).ps:=fun i hi=>by
 rw[made_len]at hi⊢;rw[made_at hi];obtain⟨h1,h2,h3⟩:=prt_all (n:=n) (i:=i) hg hr;exact⟨h1,h2,fun j hj=>((h3 _ _).1 ⟨j,hj,rfl,rfl⟩).2⟩
theorem made_mrg {g : PG} {n : Nat} (hg : g.good) (hr : Rising g.m g.ids) (hn : 0 < n) : Mrg (madeS g n).ps g := ⟨hg, hr, fun x o => Iff.trans ⟨fun h => by
  have h1 := Int.emod_nonneg (x.getD 0 0) (show (n : Int) ≠ 0 by omega)
  have h2 := Int.emod_lt_of_pos (x.getD 0 0) (show (0 : Int) < n by omega)
  have hi : (x.getD 0 0 % (n : Int)).toNat < n := by omega
  refine ⟨(x.getD 0 0 % (n : Int)).toNat, by rw [made_len]; exact hi, ?_⟩
  rw [made_at hi]
  exact ((prt_all hg hr).2.2 x o).2 ⟨h, by omega⟩, fun ⟨j, hj, h⟩ => by
  rw [made_len] at hj
  rw [made_at hj] at h
  exact (((prt_all hg hr).2.2 x o).1 h).1⟩ mem_parts.symm⟩
theorem prt_back{ps:List PG}{g:PG}(h:goodPs ps)(hm:Mrg ps g){i:Nat}(hi:i<ps.length):prtS g ps.length i=ps.getD i PG.nil:=by
 obtain⟨h1,h2,h3⟩:=prt_all (n:=ps.length) (i:=i) hm.good hm.rise;refine PG.ext_has h1 (h i hi).1 h2 (h i hi).2.1 fun x o=>(h3 x o).trans ⟨fun⟨a,b⟩=>?_,fun a=>⟨(hm.has x o).2 (mem_parts.2 ⟨i,hi,a⟩),?_⟩⟩
 ·obtain⟨j,hj,k⟩:=mem_parts.1 ((hm.has x o).1 a);obtain⟨q,hq,e1,e2⟩:=k;have:=(h j hj).2.2 q hq;rw[e1]at this;have:j=i:=by omega
  subst this;exact⟨q,hq,e1,e2⟩
 ·obtain⟨q,hq,e1,_⟩:=a;have:=(h i hi).2.2 q hq;rwa[e1]at this
theorem PG.ext3:∀ {a b:PG},a.m=b.m→a.ids=b.ids→a.ops=b.ops→a=b
 |⟨_,_,_⟩,⟨_,_,_⟩,rfl,rfl,rfl=>rfl
/-! ### when an index is one -/
def eqSh(a b:ShV):Prop:=a.ps.length=b.ps.length∧a.ver=b.ver∧a.hs=b.hs∧∀i,i<a.ps.length→(a.ps.getD i PG.nil).ids=(b.ps.getD i PG.nil).ids∧(a.ps.getD i PG.nil).ops=(b.ps.getD i PG.nil).ops
def okR(v:ShV):Prop:=(1≤v.ps.length∧v.ps.length≤4)∧chkP (whole v.ps)=0∧eqSh v (madeS (whole v.ps) v.ps.length)
def okP(v:ShV):Prop:=(1≤v.ps.length∧v.ps.length≤4)∧goodPs v.ps∧chkP (whole v.ps)=0∧v.ver=(whole v.ps).m∧v.hs=hdI (whole v.ps)
theorem whI_len{ps:List PG}{J:List Int}{n:Nat}(hJ:∀i,i<n→(idAt J i).length=32):∀i,i≤n→(whI ps J i).good
 |0,_=>nil_good
 |i+1,hi=>by
  have ih:=whI_len (ps:=ps) hJ i (by omega);have hx:=hJ i (by omega);rw[whI_succ];have:∀k,(whP ps (idAt J i) (whI ps J i) k).good:=fun k=>by
   induction k with
   |zero=>exact ih
   |succ k ihk=>
    by_cases h:hitS (ps.getD k PG.nil) (idAt J i)
    ·rw[whP_hit h];exact snoc_good ihk hx
    ·rw[whP_no h];exact ihk
  exact this _
theorem whole_good{ps:List PG}(hw:∀p∈ps,p.ids.length=32*p.m):(whole ps).good:=by
 have hl:=all_len hw ps.length (Nat.le_refl _);rw[List.take_length]at hl;obtain⟨h1,_,_⟩:=srt_good hl (allN ps) (Nat.le_refl _);exact whI_len (fun i hi=>idAt_len _ i _ h1 hi) _ (Nat.le_refl _)
theorem whP_ok{ps:List PG}{x:List Int}{g:PG}(hg:∀o∈g.ops,o.ok)(h:∀p∈ps,∀o∈p.ops,o.ok):∀k,∀o∈(whP ps x g k).ops,o.ok
 |0=>hg
 |k+1=>by
  by_cases c:hitS (ps.getD k PG.nil) x
  ·rw[whP_hit c];intro o ho;rcases List.mem_append.1 ho with a|a
   ·exact whP_ok hg h k o a
   ·rw[List.mem_singleton]at a;subst a;rcases Nat.lt_or_ge k ps.length with e|e
    ·refine h _ (List.getElem_mem e) _ ?_;rw[getD_at e,getD_at (by rw[getD_at e]at c;exact c.2)];exact List.getElem_mem _
    ·have e2:ps.getD k PG.nil=PG.nil:=by rw[List.getD_eq_getElem?_getD,List.getElem?_eq_none e];rfl
     rw[e2]at c;exact absurd c.1 (nil_in x)
  ·rw[whP_no c];exact whP_ok hg h k
theorem whI_ok{ps:List PG}{J:List Int}(h:∀p∈ps,∀o∈p.ops,o.ok):∀i,∀o∈(whI ps J i).ops,o.ok
 |0=>fun o ho=>by cases ho
 |i+1=>by rw[whI_succ];exact whP_ok (whI_ok h i) h _
theorem whole_ok{ps:List PG}(h:∀p∈ps,∀o∈p.ops,o.ok):∀o∈(whole ps).ops,o.ok:=whI_ok h _
theorem ok_iff{v:ShV}(hw:∀p∈v.ps,p.ids.length=32*p.m):okR v↔okP v:=by
 constructor
 ·rintro⟨hn,hc,h1,h2,h3,h4⟩;have hg:=whole_good hw;have hr:=((chkP_fine hg.1).1 hc).rising;have e:v.ps=(madeS (whole v.ps) v.ps.length).ps:=by
   apply List.ext_getElem h1;intro i hi hi';obtain⟨a,b⟩:=h4 i hi;have g2:=(made_good (n:=v.ps.length) hg hr i hi').1;rw[getD_at hi,getD_at hi']at a b;rw[getD_at hi']at g2;have hm:=hw _ (List.getElem_mem hi);have hm2:=g2.1;rw[a]at hm;have:(v.ps[i]).m=((madeS (whole v.ps) v.ps.length).ps[i]).m:=by omega
   exact PG.ext3 this a b
  have hgp:goodPs v.ps:=by rw[e];exact made_good hg hr
  exact⟨hn,hgp,hc,h2,h3⟩
 ·rintro⟨hn,hgp,hc,h2,h3⟩;refine⟨hn,hc,(made_len _ _).symm,h2,h3,fun i hi=>?_⟩;rw[made_at hi,prt_back hgp (whole_mrg hgp) hi];exact⟨rfl,rfl⟩
open Classical in
noncomputable def chkH(v:ShV):Int:=if okR v then 0 else 8
theorem chkH_0{v:ShV}(h:okR v):chkH v=0:=if_pos h
theorem chkH_8{v:ShV}(h:¬okR v):chkH v=8:=if_neg h
theorem prt_size(g:PG)(n i:Nat):(prtS g n i).m≤g.m∧(prtS g n i).ops.length≤g.m:=⟨numF_le _ _,by unfold prtS parS;dsimp only;rw[selO_len];exact numF_le _ _⟩
theorem chkH_iff{v:ShV}:chkH v=0↔okR v:=⟨fun h=>Classical.byContradiction fun k=>by rw[chkH_8 k]at h;exact absurd h (by decide),chkH_0⟩
theorem chkH_ne{v:ShV}(h:chkH v≠0):¬okR v∧chkH v=8:=⟨fun k=>h (chkH_0 k),chkH_8 fun k=>h (chkH_0 k)⟩
open Classical in
noncomputable def alP(v:ShV):PG:=if okR v then whole v.ps else PG.nil
theorem al_0{v:ShV}(h:okR v):alP v=whole v.ps:=if_pos h
theorem al_8{v:ShV}(h:¬okR v):alP v=PG.nil:=if_neg h
open Classical in
noncomputable def hdL(v:ShV):List Int:=if okR v then v.hs else []
open Classical in
noncomputable def hdV(v:ShV):Int:=if okR v then v.ver else 0
theorem hd_0{v:ShV}(h:okR v):hdL v=v.hs∧hdV v=v.ver:=⟨if_pos h,if_pos h⟩
theorem hd_8{v:ShV}(h:¬okR v):hdL v=[]∧hdV v=0:=⟨if_neg h,if_neg h⟩
def nwS(n:Int):ShV:=if 1≤n∧n≤4 then madeS PG.nil n.toNat else ShV.zero
def nwE(n:Int):Int:=if 1≤n∧n≤4 then 0 else 2
theorem made_nil(n:Nat):madeS PG.nil n=⟨List.replicate n PG.nil,0,[],0⟩:=by
 have e:List.map (prtS PG.nil n) (List.range n)=List.replicate n PG.nil:=by
  apply List.ext_getElem
  ·simp
  ·intro i h1 h2;rw[List.getElem_map,List.getElem_replicate];rfl
 unfold madeS;rw[e];rfl
end S
namespace G
open Go.RowKit
section
end
section
variable{S0:Nat→Prop}{w0:World}{L Lq:List Ent}{P:Program}{l:List Value}{l0:List Oper}{K:List Value→World→Prop}
def bs(k n:Nat):Array Bool:=((List.range k).map fun i=>n.testBit i).toArray
end
section
variable{P:Program}{w:World}
theorem zeros_all{zs:List Value}(q:Nat)(hz:zs.all cellB=true)(h0:0<zs.length):∀u∈(Builtin.zeroCells zs.toArray q).toList,cellB u=true:=by
 intro u hu;unfold Builtin.zeroCells at hu;simp only[Array.toList_map,List.mem_map,List.size_toArray]at hu;obtain⟨i,_,rfl⟩:=hu;have hm:i % zs.length<zs.length:=Nat.mod_lt _ h0;have:zs.toArray[i % zs.length]! =zs[i % zs.length]:=by simp[hm]
 rw[this];exact List.all_eq_true.1 hz _ (List.getElem_mem hm)
theorem run_clr{t ty e sz by_:Nat}{zs:List Value}{g o q c:Nat}{cs:List Value}(hu:P.underlying t=some (.slice e))(ht:TI P e sz by_ zs)(hl:zs.length=sz)(h0:0<sz)(hz:zs.all cellB=true)(B:Blk w g cs e)(hq:0<q)(hfit:o+q*sz≤cs.length):
  ∃w' cs',(Builtin.clear_ #[t] ty #[.slice (some ⟨g,o,none⟩) q c]).run P w= .ok (.tuple #[]) w'∧St g w w'∧Blk w' g cs' e∧cs'.length=cs.length∧cs'.take o=cs.take o:=by
 obtain⟨i,v,i1,i2,i3,i4,i5⟩:=ht;have hz1:(zeroValue e).run P w= .ok v w:=by simp[zeroValue,typeInfo,i1,i4]
 have hzl:(Builtin.zeroCells zs.toArray q).toList.length=q*sz:=by simp[Builtin.zeroCells,hl]
 obtain⟨w1,k1,k2,k3⟩:=storeCells_blk (P:=P) (b:=g) (o:=o) (Builtin.zeroCells zs.toArray q).toList 0 cs w B (by omega) (zeros_all q hz (by omega));rw[Nat.add_zero]at k3;refine⟨w1,_,?_,k2,k3,splice_length _ _ _,?_⟩
 ·obtain⟨q',rfl⟩:∃q',q=q'+1:=⟨q - 1,by omega⟩
  simp[Builtin.clear_,run_underlying hu,hz1,i5,k1]
 ·rw[splice_mid _ _ _ (by omega),List.append_assoc,List.take_append_of_le_length (by rw[List.length_take];omega),List.take_of_length_le (by rw[List.length_take];omega)]
end
section
variable{S0:Nat→Prop}{w0:World}{L:List Ent}{P:Program}{ops:Array Oper}{K:List Value→World→Prop}{rest:List (Oper×Kd)}{l l':List Value}{m:Md}{d:Tmp}{ty xt t e:TypeId}{pos:String}{af:Array Edge}{kd:Kd}{x y lo hi mx:Operand}{sz by_:Nat}{zs:List Value}
theorem J.clr{g o q c:Nat}{cs:List Value}{F:List Value→List Ent}[U:Und P t (.slice e)][I:Inf P e sz by_ zs](hx:ev l x= .slice (some ⟨g,o,none⟩) q c)[R:RB L g cs e F]
  (kk:∀cs',(cs'.length=cs.length∧cs'.take o=cs.take o)→J S0 w0 (F cs') (RY S0 w0 m P ops K rest l))(hq:0<q:=by omega)(hfit:o+q*sz≤cs.length:=by omega)(hl:zs.length=sz:=by rfl)(h0:0<sz:=by decide)(hz:zs.all cellB=true:=by rfl)(hk:∀cs',okG m kd (F cs'):=by first|exact fun _=>trivial|(intro _;repeat(first|exact List.Sublist.refl _|refine List.Sublist.cons_cons _ ?_|refine List.Sublist.cons _ ?_))):
  J S0 w0 L (RY S0 w0 m P ops K ((⟨none, .call {callee:= .builtin .clear,args:= #[x],argTypes:= #[t]},ty,pos,af,none⟩,kd)::rest) l):=
 J.bigs (ι:=List Value) (Ls:=fun cs'=>F cs') cs (fun cs'=>hk cs') fun w M K' hK=>by
  obtain⟨w1,cs',h,x1,B,e1,e2⟩:=run_clr (ty:=ty) (c:=c) U.h I.h hl h0 hz (M.blk (R.h cs).same) hq hfit;refine RS.v (v:= .tuple #[]) (w':=w1) rfl (by simp[execOp,resolve,hx,invoke,builtin,h]) (RS.nil (hK _ w1 cs' (M.store (R.h _) x1 B) ?_));exact kk cs' ⟨e1,e2⟩ w1 (M.store (R.h _) x1 B)
end
def cgB:List (Oper×Kd)→Bool
 |[]=>true
 |(_, .c)::r=>cgB r
 |(_, .g)::r=>cgB r
 |_=>false
theorem rx_irrel{P:Program}{ops:Array Oper}{R R':World→World→Prop}{K:List Value→World→Prop}:∀(pl:List (Oper×Kd)) (l:List Value) (w:World),cgB pl=true→RX P ops R K pl l w→RX P ops R' K pl l w
 |[],_,_,_,h=>h
 |(o, .q)::_,_,_,hk,_=>by cases hk
 |(o, .e)::_,_,_,hk,_=>by cases hk
 |(o, .c)::r,l,w,hk,h=>by
  simp only[RX]at h⊢;split at h
  ·rename_i hw;rw[if_pos hw];obtain⟨v,h1,h2⟩:=h;exact⟨v,h1,rx_irrel r _ _ hk h2⟩
  ·rename_i hw;rw[if_neg hw];exact rx_irrel r _ _ hk h
 |(o, .g)::r,l,w,hk,h=>by
  simp only[RX]at h⊢;split at h
  ·rename_i hw;rw[if_pos hw];unfold Oper.wp at*;refine upon_mono ?_ (fun _ _ _ h=>h) h;rintro a w' ⟨l',rfl,h⟩;exact⟨l',rfl,rx_irrel r _ _ hk h⟩
  ·rename_i hw;rw[if_neg hw];exact rx_irrel r _ _ hk h
def WG(S0:Nat→Prop)(w0:World)(Lq:List Ent)(bg fl:List Nat)(P:Program)(l0:List Oper)(K:List Value→World→Prop)(n:Nat)(li:Array Bool)(l:List Value)(w:World):Prop:=
 Closed l0.toArray li→wpX P l0.toArray (MR S0 w0 Lq) bg (fun a w=>∃l,a=fr l∧K l w) n li (fr l) w
def BG(S0:Nat→Prop)(w0:World)(Lq:List Ent)(bg fl:List Nat)(P:Program)(l0:List Oper)(K:List Value→World→Prop)(n:Nat)(li:Array Bool):List Nat→List Value→World→Prop
 |[],_,_=>True
 |i::rd,l,w=>RX P l0.toArray (MR S0 w0 Lq) (WG S0 w0 Lq bg fl P l0 K n (li.setIfInBounds i true)) [(nth l0 i, .e)] l w∧BG S0 w0 Lq bg fl P l0 K n li rd l w
def bgB(ops:Array Oper)(bg fl:List Nat):Bool:=bg.all fun j=>bigB ops fl j
theorem bgB_spec{ops:Array Oper}{bg fl:List Nat}(h:bgB ops bg fl=true):∀j∈bg,∀listed,Closed ops listed→j∈Region.ready .any ops listed→∀k∈Region.ready .any ops listed,k=j∨k∈fl:=by
 unfold bgB at h;rw[List.all_eq_true]at h;exact fun j hj listed hcl hr=>bigB_spec (h j hj) listed hcl hr
section
variable{S0:Nat→Prop}{w0:World}{L Lq:List Ent}{bg fl:List Nat}{P:Program}{Q:Exit→Act→World→Prop}{l:List Value}{id n n':Nat}{l0:List Oper}{K:List Value→World→Prop}{li:Array Bool}{rd:List Nat}{ops:Array Oper}
theorem J.sw{pl:List (Oper×Kd)}(hk:cgB pl=true)(h:J S0 w0 L (RY S0 w0 .x P ops K pl l)):J S0 w0 L (RY S0 w0 (.r Lq) P ops K pl l):=fun w M _=>rx_irrel (R:=Ext) pl l w hk (h w M)
theorem BG.get{k:Nat}{w:World}:∀ {rd:List Nat},BG S0 w0 Lq bg fl P l0 K n li rd l w→k∈rd→RX P l0.toArray (MR S0 w0 Lq) (WG S0 w0 Lq bg fl P l0 K n (li.setIfInBounds k true)) [(nth l0 k, .e)] l w
 |_::_,h, .head _=>h.1
 |_::_,h, .tail _ hk=>BG.get h.2 hk
theorem J.regionG(Lq:List Ent)(bg fl:List Nat)(hm:P.follows .mixedOrders=true)(h:J S0 w0 L (WG S0 w0 Lq bg fl P l0 (KN Q) l0.length (Array.replicate l0.length false) l)):J S0 w0 L ((Code.region id l0.toArray true).wp P Q (fr l)):=fun w M=>by
 refine wp_region_any hm ?_;have:=h {w with drawn:=w.drawn+1} (M.grow ((Below.refl _ _).drew)) (by intro k ok _ h;exfalso;simp[Array.getElem?_replicate]at h;split at h<;>simp at h);have h2:=wpAny_of_X (Q':=Q) (R:=MR S0 w0 Lq) (fun a w h=>by obtain⟨l,rfl,h⟩:=h;exact h) l0.length (Array.replicate l0.length false) (fr l) _ this;simpa using h2
theorem J.gnode{pl':List (Oper×Kd)}(pl:List (Nat×Kd))(rd:List Nat)(n':Nat)(li':Array Bool)
  (hB:(Region.noSelect l0.toArray&&(bgB l0.toArray bg fl&&(noG pl&&(Nat.beq (n'+1+pl.length) n&&(!rd.isEmpty&&planB l0.toArray fl (fun s=>(Region.ready .any l0.toArray s==rd)&&(s.toList==li'.toList&&rd.all fun i=> !bg.any (Nat.beq i))) pl li)))))=true)
  (h:J S0 w0 L (RY S0 w0 (.r Lq) P l0.toArray (BG S0 w0 Lq bg fl P l0 K n' li' rd) pl' l))(hs:Lq.Sublist L:=by repeat(first|exact List.Sublist.refl _|refine List.Sublist.cons_cons _ ?_|refine List.Sublist.cons _ ?_))(hp:pick l0 pl=pl':=by dsimp only[pick,nth]):J S0 w0 L (WG S0 w0 Lq bg fl P l0 K n li l):=fun w M hcl=>by
 simp only[Bool.and_eq_true]at hB;obtain⟨hns,hbg,hn,hz,hr0,hB⟩:=hB;have hz:=Nat.eq_of_beq_eq_true hz;subst hz;subst hp;have h1:RX P l0.toArray (MR S0 w0 Lq) (BG S0 w0 Lq bg fl P l0 K n' li' rd) (pick l0 pl) l w:=h w M (M.sub hs);refine rx_list (n:=n'+1) (bg:=bg) (fl:=fl) ?_ (fun _ h=>h) (fun h k x=>k (h x)) hns (bgB_spec hbg) pl li l w hcl (fun i hi=>by cases (noG_g hn).1 i hi) (fun i hi=>by cases (noG_g hn).2 i hi) hB h1;intro listed l w hcl he hk;simp only[Bool.and_eq_true,beq_iff_eq]at he;obtain⟨hr,hl,_⟩:=he;obtain rfl:listed=li':=Array.ext' hl;refine⟨fun h0=>by rw[h0]at hr;subst hr;simp at hr0,fun k hm=>?_⟩;have hk2:=BG.get hk (hr▸hm);have hlt:k<l0.length:=by
  obtain⟨_,o,ho,_⟩:=mem_ready.1 hm;simpa using(Array.getElem?_eq_some_iff.1 ho).1
 have hi:l0.toArray[k]? =some (nth l0 k):=by simpa using nth_get l0 k hlt
 unfold xOp;simp only[hi];simp only[RX]at hk2;split
 ·rename_i hw;rw[if_pos (by exact hw)]at hk2;unfold Oper.wp at*;refine upon_mono ?_ (fun _ _ _ h=>h) hk2;rintro a w' ⟨l',rfl,hR,h⟩;exact⟨fun _=>hR,h (hcl.set hm)⟩
 ·rename_i hw;rw[if_neg (by exact hw)]at hk2;rw[put_fr];exact⟨fun _=>fun h=>h,hk2 (hcl.set hm)⟩
theorem J.gfin{pl':List (Oper×Kd)}(pl:List (Nat×Kd))
  (hB:(Region.noSelect l0.toArray&&(bgB l0.toArray bg fl&&(((G.bigs pl).all (fun i=>bg.contains i)&&(G.frees pl).all (fun i=>fl.contains i))&&(Nat.beq pl.length n&&planB l0.toArray fl (endB l0.toArray) pl li))))=true)
  (h:J S0 w0 L (RY S0 w0 (.r Lq) P l0.toArray K pl' l))(hs:Lq.Sublist L:=by repeat(first|exact List.Sublist.refl _|refine List.Sublist.cons_cons _ ?_|refine List.Sublist.cons _ ?_))(hp:pick l0 pl=pl':=by dsimp only[pick,nth]):J S0 w0 L (WG S0 w0 Lq bg fl P l0 K n li l):=fun w M hcl=>by
 simp only[Bool.and_eq_true]at hB;obtain⟨hns,hbg,⟨hg,hf⟩,hz,hB⟩:=hB;have hz:=Nat.eq_of_beq_eq_true hz;subst hz;subst hp;have h1:RX P l0.toArray (MR S0 w0 Lq) K (pick l0 pl) l w:=h w M (M.sub hs);rw[List.all_eq_true]at hg hf;have:=rx_list (bg:=bg) (fl:=fl) (n:=0) (en:=endB l0.toArray) (Qx:=fun a w=>∃l,a=fr l∧K l w) (fun listed l w _ he hk=>⟨by simpa [endB]using he,l,rfl,hk⟩) (fun _ h=>h) (fun h k x=>k (h x)) hns (bgB_spec hbg) pl li l w hcl (fun i hi=>by simpa using hg i ((mem_bigs pl i).1 hi)) (fun i hi=>by simpa using hf i (mem_frees pl i hi)) hB h1;rwa[Nat.zero_add]at this
theorem J.gbr{i:Nat}{oi:Oper}(h1:J S0 w0 L (RY S0 w0 (.r Lq) P l0.toArray (WG S0 w0 Lq bg fl P l0 K n (li.setIfInBounds i true)) [(oi, .e)] l))(h2:J S0 w0 L (BG S0 w0 Lq bg fl P l0 K n li rd l))
  (hs:Lq.Sublist L:=by repeat(first|exact List.Sublist.refl _|refine List.Sublist.cons_cons _ ?_|refine List.Sublist.cons _ ?_))(hi:nth l0 i=oi:=by dsimp only[nth]):J S0 w0 L (BG S0 w0 Lq bg fl P l0 K n li (i::rd) l):=fun w M=>by
 subst hi;exact⟨h1 w M (M.sub hs),h2 w M⟩
theorem J.gbr0:J S0 w0 L (BG S0 w0 Lq bg fl P l0 K n li [] l):=fun _ _=>trivial
end
end G
namespace W
open Go.RowKit G
set_option maxRecDepth 20000
set_option maxHeartbeats 8000000
attribute [local irreducible] RS RX RY Code.wp bodyPost J Ent.blk Ent.iown Ent.wrow Ent.wown Ent.gown Ent.all Ent.emp
theorem gsAt{gs:List GrA}{g:GrA}{i:Nat}(h:gs[i]? =some g):(gs.map GrA.P).getD i S.PG.nil=g.P:=by
 rw[List.getD_eq_getElem?_getD,List.getElem?_map,h];rfl
theorem ShR.ml{S0:Nat→Prop}{w:World}{s:ShA}(h:ShR S0 w s):∀p∈s.gs.map GrA.P,p.ids.length=32*p.m:=fun p hp=>by
 obtain⟨g,hg,rfl⟩:=List.mem_map.1 hp;exact(h.gi g hg).ids.len
theorem ShR.le{S0:Nat→Prop}{w:World}{s:ShA}(h:ShR S0 w s)(hL:ShL s)(hn:s.pn≤4):(S.whole s.V.ps).m≤64:=by
 have h1:=S.whole_le (ps:=s.V.ps) h.ml;have h2:=hL hn;omega
theorem grAll_r{g:GrA}{S:Nat→Prop}{w:World}(h:(grAll g).ok S w)(k:GrK g)(hm:g.m≤70∧g.ops.length≤70):GrR (fun _=>True) w g:=by
 obtain⟨A,T,_,_,_,a,B,T2,_,_,_,b,C,T3,_,_,_,c,_⟩:=all_e h;have a:=(gown_e a).1;have c':=wown_row c;have hn:g.n≤70:=by have h1:=a.len;have h2:=hm.2;unfold GrA.ops at h2;rw[List.length_map]at h2;omega
 exact⟨c'.weaken fun _ _ _=>trivial,a.row.weaken fun _ _ _=>trivial,Inns.weak (sep_inns (all_e b) k.cap) fun _ _=>trivial,k.ok,(wown_len c).2,a.capn,hm.1,hn⟩
theorem shAt{s:ShA}{g:GrA}{i:Nat}(h:s.gs[i]? =some g):s.V.ps.getD i S.PG.nil=g.P:=gsAt h
theorem refWholeOk{S0:Nat→Prop}{w:World}{s:ShA}(H:ShR S0 w s):∀o∈(S.whole s.V.ps).ops,o.ok:=S.whole_ok fun p hp o ho=>by
 obtain⟨g,hg,rfl⟩:=List.mem_map.1 hp;exact(H.gi g hg).opz o ho
theorem ok_len{S0:Nat→Prop}{w:World}{s:ShA}(H:ShR S0 w s)(h:S.okR s.V):1≤s.pn∧s.pn≤4:=by
 have h1:s.V.ps.length=s.pn:=by rw[List.length_map,H.pr.len]
 have h2:=h.1;omega
end W
namespace S
open G
theorem set_mid{α:Type}{D l:List α}{i:Nat}(hD:D.length=i){x y:α}(h:l[i]? =some x):(D++l.drop i).set i y=(D++[y])++l.drop (i+1):=by
 subst hD;have hl:D.length<l.length:=(List.getElem?_eq_some_iff.1 h).1;rw[List.set_append_right _ _ (Nat.le_refl _),Nat.sub_self,List.drop_eq_getElem_cons hl,List.set_cons_zero,List.append_assoc];rfl
theorem setN_getD{l:List Nat}{k i v:Nat}(hk:k<l.length):(l.set k v).getD i 0=if i=k then v else l.getD i 0:=by
 rw[List.getD_eq_getElem?_getD,List.getElem?_set,List.getD_eq_getElem?_getD];by_cases e:k=i
 ·subst e;simp[hk]
 ·rw[if_neg e,if_neg fun h=>e h.symm]
theorem sm_lt{f g:Nat→Nat}{k:Nat}:∀ {n:Nat},(∀i,i<n→f i≤g i)→k<n→f k<g k→sm f n<sm g n
 |n+1,h,hk,hlt=>by
  rw[sm,sm];have h1:=h n (by omega);by_cases e:k=n
  ·subst e;have:=sm_le (n:=k) fun i hi=>h i (by omega);omega
  ·have:=sm_lt (n:=n) (fun i hi=>h i (by omega)) (by omega) hlt;omega
theorem sm_congr{f g:Nat→Nat}:∀ {n:Nat},(∀i,i<n→f i=g i)→sm f n=sm g n
 |0,_=>rfl
 |n+1,h=>by rw[sm,sm,sm_congr fun i hi=>h i (by omega),h n (by omega)]
theorem sm_set{l:List Nat}{k:Nat}(hk:k<l.length):∀n,sm (fun i=>(l.set k (l.getD k 0+1)).getD i 0) n=sm (fun i=>l.getD i 0) n+if k<n then 1 else 0
 |0=>rfl
 |n+1=>by
  rw[sm,sm,sm_set hk n,setN_getD hk];by_cases e:n=k
  ·subst e;rw[if_pos rfl,if_neg (by omega),if_pos (by omega)];omega
  ·rw[if_neg e];split<;>split<;>omega
def resP(n i:Int)(m:Nat)(ids:List Int):Prop:=∀j,j<m→(idAt ids j).getD 0 0 % n=i
instance(n i:Int)(m:Nat)(ids:List Int):Decidable (resP n i m ids):=by unfold resP;infer_instance
theorem castL_rep(n:Nat):castL (List.replicate n 0)=List.replicate n 0:=by simp[castL]
theorem castL_set(l:List Nat)(k v:Nat):castL (l.set k v)=(castL l).set k (v:Int):=by simp[castL,List.map_set]
theorem goodPs_of{ps:List PG}(h1:∀p∈ps,p.ids.length=32*p.m)(h2:∀k,k<ps.length→resP (ps.length:Int) (k:Nat) (ps.getD k PG.nil).m (ps.getD k PG.nil).ids)(h3:∀k,k<ps.length→(ps.getD k PG.nil).ops.length=(ps.getD k PG.nil).m∧Rising (ps.getD k PG.nil).m (ps.getD k PG.nil).ids):goodPs ps:=fun i hi=>by
 obtain⟨a,b⟩:=h3 i hi;have c:=h1 _ (List.getElem_mem hi);rw[←getD_at (d:=PG.nil) hi]at c;exact⟨⟨c,a⟩,b,h2 i hi⟩
structure MgS(ps:List PG)(nx:List Nat)(g:PG):Prop where
 len:nx.length=ps.length
 le:∀k,k<ps.length→nx.getD k 0≤(ps.getD k PG.nil).m
 good:g.good
 rise:Rising g.m g.ids
 has:∀x o,g.has x o↔∃k,k<ps.length∧∃j,j<nx.getD k 0∧idAt (ps.getD k PG.nil).ids j=x∧(ps.getD k PG.nil).ops.getD j OpV.zero=o
 low:∀i,i<g.m→∀k,k<ps.length→∀j,nx.getD k 0≤j→j<(ps.getD k PG.nil).m→cmpS (idAt g.ids i) (idAt (ps.getD k PG.nil).ids j)<0
 tot:g.m=sm (fun k=>nx.getD k 0) ps.length
theorem rep_getD(n i:Nat):(List.replicate n 0).getD i 0=0:=by
 rw[List.getD_eq_getElem?_getD,List.getElem?_replicate];split<;>rfl
theorem mg_zero (ps : List PG) : MgS ps (List.replicate ps.length 0) PG.nil := ⟨List.length_replicate, fun k hk => by rw [rep_getD]; exact Nat.zero_le _, nil_good, nil_rising, fun x o => ⟨fun h => absurd h (nil_has x o), fun ⟨k, hk, j, hj, _⟩ => by rw [rep_getD] at hj; exact absurd hj (Nat.not_lt_zero _)⟩, fun i hi => absurd hi (Nat.not_lt_zero _), by
 rw [sm_congr (g := fun _ => 0) fun i hi => rep_getD _ _, sm_zero]
 rfl⟩
theorem MgS.lt{ps:List PG}{nx:List Nat}{g:PG}(h:MgS ps nx g){k:Nat}(hk:k<ps.length)(hlt:nx.getD k 0<(ps.getD k PG.nil).m):g.m<allN ps:=by
 have h1:=sm_lt (f:=fun k=>nx.getD k 0) (g:=fun j=>(ps.getD j PG.nil).m) h.le hk hlt;rw[sm_all ps _ (Nat.le_refl _),List.take_length]at h1;rw[h.tot];exact h1
def LsP(ps:List PG)(nx:List Nat)(i:Nat)(l:Int):Prop:=
 (l= -1∧∀k,k<i→¬nx.getD k 0<(ps.getD k PG.nil).m)∨∃k:Nat,l=(k:Nat)∧k<i∧nx.getD k 0<(ps.getD k PG.nil).m∧∀k',k'<i→nx.getD k' 0<(ps.getD k' PG.nil).m→¬cmpS (idAt (ps.getD k' PG.nil).ids (nx.getD k' 0)) (idAt (ps.getD k PG.nil).ids (nx.getD k 0))<0
section
variable{ps:List PG}{nx:List Nat}{i:Nat}{l:Int}{g:PG}
theorem ls_zero:LsP ps nx 0 (-1):= .inl ⟨rfl,fun k hk=>absurd hk (Nat.not_lt_zero _)⟩
theorem LsP.skip(h:LsP ps nx i l)(hn:¬nx.getD i 0<(ps.getD i PG.nil).m):LsP ps nx (i+1) l:=by
 rcases h with⟨h1,h2⟩|⟨k,h1,h2,h3,h4⟩
 ·exact .inl ⟨h1,fun k hk=>(Nat.lt_succ_iff_lt_or_eq.1 hk).elim (h2 k) fun e=>e▸hn⟩
 ·refine .inr ⟨k,h1,by omega,h3,fun k' hk' hh=>?_⟩;rcases Nat.lt_or_ge k' i with c|c
  ·exact h4 k' c hh
  ·obtain rfl:k'=i:=by omega
   exact absurd hh hn
theorem LsP.first(h:LsP ps nx i l)(hl:l<0)(hn:nx.getD i 0<(ps.getD i PG.nil).m):LsP ps nx (i+1) (i:Nat):=by
 rcases h with⟨h1,h2⟩|⟨k,h1,_⟩
 ·refine .inr ⟨i,rfl,by omega,hn,fun k' hk' hh=>?_⟩;rcases Nat.lt_or_ge k' i with c|c
  ·exact absurd hh (h2 k' c)
  ·obtain rfl:k'=i:=by omega
   rw[cmpS_self];decide
 ·omega
theorem LsP.some(h:LsP ps nx i l)(hl:¬l<0):∃k:Nat,l=(k:Nat)∧k<i∧nx.getD k 0<(ps.getD k PG.nil).m:=by
 rcases h with⟨h1,_⟩|⟨k,h1,h2,h3,_⟩
 ·omega
 ·exact⟨k,h1,h2,h3⟩
theorem LsP.less{k:Nat}(h:LsP ps nx i (k:Nat))(hn:nx.getD i 0<(ps.getD i PG.nil).m)(hc:cmpS (idAt (ps.getD i PG.nil).ids (nx.getD i 0)) (idAt (ps.getD k PG.nil).ids (nx.getD k 0))<0):LsP ps nx (i+1) (i:Nat):=by
 rcases h with⟨h1,_⟩|⟨q,h1,h2,h3,h4⟩
 ·omega
 ·obtain rfl:k=q:=by omega
  refine .inr ⟨i,rfl,by omega,hn,fun k' hk' hh hcc=>?_⟩;rcases Nat.lt_or_ge k' i with c|c
  ·exact h4 k' c hh (cmpS_trans hcc hc)
  ·obtain rfl:k'=i:=by omega
   rw[cmpS_self]at hcc;exact absurd hcc (by decide)
theorem LsP.more{k:Nat}(h:LsP ps nx i (k:Nat))(hc:¬cmpS (idAt (ps.getD i PG.nil).ids (nx.getD i 0)) (idAt (ps.getD k PG.nil).ids (nx.getD k 0))<0):LsP ps nx (i+1) (k:Nat):=by
 rcases h with⟨h1,_⟩|⟨q,h1,h2,h3,h4⟩
 ·omega
 ·obtain rfl:k=q:=by omega
  refine .inr ⟨k,rfl,by omega,h3,fun k' hk' hh=>?_⟩;rcases Nat.lt_or_ge k' i with c|c
  ·exact h4 k' c hh
  ·obtain rfl:k'=i:=by omega
   exact hc
theorem MgS.step(hg:goodPs ps)(h:MgS ps nx g){k:Nat}(hl:LsP ps nx ps.length (k:Nat)):MgS ps (nx.set k (nx.getD k 0+1)) (g.snoc (idAt (ps.getD k PG.nil).ids (nx.getD k 0)) ((ps.getD k PG.nil).ops.getD (nx.getD k 0) OpV.zero)):=by
 rcases hl with⟨h1,_⟩|⟨q,h1,hk,h3,h4⟩
 ·omega
 ·obtain rfl:k=q:=by omega
  have hkl:k<nx.length:=by rw[h.len];exact hk
  have hx:=idAt_len (ps.getD k PG.nil).ids (nx.getD k 0) _ (hg k hk).1.1 h3;have hlow:∀i,i<g.m→cmpS (idAt g.ids i) (idAt (ps.getD k PG.nil).ids (nx.getD k 0))<0:=fun i hi=>h.low i hi k hk _ (Nat.le_refl _) h3;refine⟨by rw[List.length_set];exact h.len,fun k' hk'=>?_,snoc_good h.good hx,snoc_rising h.good h.rise hx hlow,fun x o=>(snoc_has h.good hx).trans ⟨fun hh=>?_,fun⟨k',hk',j,hj,e1,e2⟩=>?_⟩,fun i hi k' hk' j hj hjm=>?_,?_⟩
  ·rw[setN_getD hkl];split
   ·rename_i e;rw[e];omega
   ·exact h.le k' hk'
  ·rcases hh with hh|⟨e1,e2⟩
   ·obtain⟨k',hk',j,hj,r⟩:=(h.has x o).1 hh;refine⟨k',hk',j,?_,r⟩;rw[setN_getD hkl];split
    ·rename_i e;rw[e]at hj;omega
    ·exact hj
   ·exact⟨k,hk,nx.getD k 0,by rw[setN_getD hkl,if_pos rfl];omega,e1,e2⟩
  ·rw[setN_getD hkl]at hj;split at hj
   ·rename_i e;subst e;rcases Nat.lt_or_ge j (nx.getD k' 0)with c|c
    ·exact .inl ((h.has x o).2 ⟨k',hk',j,c,e1,e2⟩)
    ·obtain rfl:j=nx.getD k' 0:=by omega
     exact .inr ⟨e1,e2⟩
   ·exact .inl ((h.has x o).2 ⟨k',hk',j,hj,e1,e2⟩)
  ·have hi':i<g.m+1:=hi;rw[snoc_at h.good hx i hi'];rw[setN_getD hkl]at hj;split
   ·rename_i hig;refine h.low i hig k' hk' j ?_ hjm;split at hj
    ·rename_i e;rw[e];omega
    ·exact hj
   ·split at hj
    ·rename_i e;subst e;exact rising_lt (hg k' hk').2.1 _ j (by omega) hjm
    ·rename_i e;have hm':nx.getD k' 0<(ps.getD k' PG.nil).m:=by omega
     have h5:=h4 k' hk' hm';have hne:idAt (ps.getD k PG.nil).ids (nx.getD k 0)≠idAt (ps.getD k' PG.nil).ids (nx.getD k' 0):=fun ee=>e (hg.one hk' hk ⟨_,hm',rfl⟩ ⟨_,h3,ee⟩);have h6:cmpS (idAt (ps.getD k PG.nil).ids (nx.getD k 0)) (idAt (ps.getD k' PG.nil).ids (nx.getD k' 0))<0:=by
      rw[cmpS_swap]at h5;have h7:cmpS (idAt (ps.getD k PG.nil).ids (nx.getD k 0)) (idAt (ps.getD k' PG.nil).ids (nx.getD k' 0))≠0:=fun z=>hne ((cmpS_eq _ _).1 z);omega
     rcases Nat.lt_or_ge (nx.getD k' 0) j with c|c
     ·exact cmpS_trans h6 (rising_lt (hg k' hk').2.1 _ j c hjm)
     ·obtain rfl:j=nx.getD k' 0:=by omega
      exact h6
  ·show g.m+1=_;rw[sm_set hkl,if_pos hk,←h.tot]
theorem MgS.done(hg:goodPs ps)(h:MgS ps nx g)(hl:LsP ps nx ps.length l)(hn:l<0):whole ps=g:=by
 rcases hl with⟨_,h2⟩|⟨k,h1,_⟩
 ·refine(whole_mrg hg).eq ⟨h.good,h.rise,fun x o=>(h.has x o).trans ⟨fun⟨k,hk,j,hj,e1,e2⟩=>mem_parts.2 ⟨k,hk,j,by have:=h.le k hk;omega,e1,e2⟩,fun hh=>?_⟩⟩;obtain⟨k,hk,j,hj,e1,e2⟩:=mem_parts.1 hh;exact⟨k,hk,j,by have:=h2 k hk;omega,e1,e2⟩
 ·omega
end
end S
namespace W
open Go.RowKit G
set_option maxRecDepth 20000
set_option maxHeartbeats 8000000
attribute [local irreducible] RS RX RY Code.wp bodyPost J Ent.blk Ent.iown Ent.wrow Ent.wown Ent.gown Ent.all Ent.emp
instance:Ents prog 141:=⟨.mk func141 (by kernel_rfl) rfl⟩
instance:Ents prog 145:=⟨.mk func145 (by kernel_rfl) rfl⟩
instance:Ents prog 140:=⟨.mk func140 (by kernel_rfl) rfl⟩
section
variable{w0:World}{L:List Ent}{P:Program}{ops:Array Oper}{K:List Value→World→Prop}{rest:List (Oper×Kd)}{l l':List Value}{m:Md}{d:Tmp}{ty xt T:TypeId}{pos:String}{af:Array Edge}{x:Operand}{b o:Nat}{cs:List Value}{v:Value}
theorem J.ldOq[U:Sca P xt](hB:Blk w0 b cs T)(hx:ev l x= .pointer (some ⟨b,o,none⟩))(k:J no w0 L (RY no w0 m P ops K rest l'))(hv:cs[o]? =some v:=by rfl)(hl:l.set d v=l':=by dsimp only[List.set]):
  J no w0 L (RY no w0 m P ops K ((⟨some d, .load xt x,ty,pos,af,none⟩, .q)::rest) l):=
 let ⟨_,u1,u2⟩:=U.h
 J.val (fun w M=>D.load hx u1 u2 ((hB.ext M.ext).cell hv)) k hl
end
theorem shWh1(x:List Int)(n i:Int)(bn bi:Nat)(T T2:TypeId)(w:World)(hn:Blk w bn [.int .i64 n] T)(hi:Blk w bi [.int .i64 i] T2)(hx:Arr .u8 32 x)(h0:0<n∧n≤1000):
  Calls prog 145 #[.agg (ints .u8 x).toArray, .pointer (some ⟨bn,0,none⟩), .pointer (some ⟨bi,0,none⟩)] w (Ret w fun v _=>v= .bool (decide (¬x.getD 0 0 % n=i))):=by
 refine J.enter 7 func145 rfl rfl ?_;refine run ?_;refine J.box rfl rfl rfl fun b1=>?_
 refine run ?_;refine J.regionX [(0, .q),(1, .q),(3, .q),(2, .e),(4, .q),(5, .q)] mixed (by kernel_rfl) ?_;refine run ?_;refine J.ldOq hn rfl ?_;refine J.ldOq hi rfl ?_;refine J.callp rfl rfl (fun w' M=>shNumber x n hx h0 w') ?_;refine run ?_;exact J.fin (congrArg _ (by rw[Bool.eq_iff_iff];simp))
theorem idxWh{S1:Nat→Prop}(n i:Int)(a:Option Addr)(m c:Nat)(ids:List Int)(bn bi:Nat)(T T2:TypeId)(w:World)(hn:Blk w bn [.int .i64 n] T)(hi:Blk w bi [.int .i64 i] T2)(D1:WRow .u8 32 S1 w a m ids)(h0:0<n∧n≤1000)(hm:m≤1000):
  Calls prog 90 #[.slice a m c, .func (.func 145) #[] #[.pointer (some ⟨bn,0,none⟩), .pointer (some ⟨bi,0,none⟩)]] w (Gv w (fun r:Int=> .int .i64 r) (fun _=>[]) fun r=>0≤r↔¬S.resP n i m ids):=by
 have hl:=D1.len;refine J.enter 17 func90 rfl rfl ?_;refine run ?_;refine J.loopS (A:=Int) (fun p=>[(8, .int .i64 p)]) [4,5,9,10,11,12,13,14,15,16,17,18] (fun p=>(0≤p∧p≤m)∧∀j,j<p.toNat→(S.idAt ids j).getD 0 0 % n=i) (fun p=>m - p.toNat) 0 (by kernel_rfl) ⟨by omega,fun i hi=>by omega⟩ (fun p j hI=>?_);obtain⟨h1,hI⟩:=hI;refine run ?_;refine J.ifd rfl (fun c1=>?_) (fun c1=>?_)
 ·refine run ?_;refine J.callvp rfl rfl rfl (fun w' M=>shWh1 _ n i bn bi T T2 w' (hn.ext M.ext) (hi.ext M.ext) (D1.elt_arr (by omega)) h0) ?_;refine run ?_;refine J.ifd rfl (fun c2=>?_) (fun c2=>?_)
  ·refine run ?_;exact J.finG p rfl ⟨fun _ h=>c2 (h p.toNat (by omega)),fun _=>by omega⟩ (List.nil_sublist _)
  refine run ?_;refine J.nextS (p+1) ⟨rfl,trivial⟩ (by kernel_rfl) ⟨by omega,fun i hi=>?_⟩ (by omega);rcases Nat.lt_or_ge i p.toNat with e|e
  ·exact hI i e
  obtain rfl:i=p.toNat:=by omega
  exact Classical.not_not.1 c2
 refine run ?_;exact J.finG (-1) rfl ⟨fun h=>by omega,fun h=>absurd (fun i hi=>hI i (by omega)) h⟩ (List.nil_sublist _)
theorem hasWh{S1:Nat→Prop}(n i:Int)(a:Option Addr)(m c:Nat)(ids:List Int)(bn bi:Nat)(T T2:TypeId)(w:World)(hn:Blk w bn [.int .i64 n] T)(hi:Blk w bi [.int .i64 i] T2)(D1:WRow .u8 32 S1 w a m ids)(h0:0<n∧n≤1000)(hm:m≤1000):
  Calls prog 50 #[.slice a m c, .func (.func 145) #[] #[.pointer (some ⟨bn,0,none⟩), .pointer (some ⟨bi,0,none⟩)]] w (Ret w fun v _=>v= .bool (decide (¬S.resP n i m ids))):=by
 refine J.enter 7 func50 rfl rfl ?_;refine run ?_;refine J.call rfl rfl (fun w' M=>idxWh n i a m c ids bn bi T T2 w' (hn.ext M.ext) (hi.ext M.ext) (D1.ext M.ext) h0 hm) fun r hr2=>?_
 refine run ?_;exact J.fin (congrArg _ (decide_eq_decide.2 hr2))
theorem cloneO{S0:Nat→Prop}(a:Option Addr)(n c:Nat)(l:List OpA)(w:World)(D0:GRow opC 11 S0 w a n l)(hn:n≤1000):
  Calls prog 140 #[.slice a n c] w (Gv w (fun q:Option Addr×Nat=> .slice q.1 n q.2) (fun q=>[.gown opC 11 34 q.1 n q.2 l]) fun _=>True):=by
 refine J.enter 7 func140 rfl rfl ?_;refine run ?_;refine J.ifb rfl (fun c1=>?_) (fun c1=>?_)
 ·obtain⟨rfl,rfl⟩:=D0.none (by decide) c1;refine run ?_;refine J.nilG opC 11 34 opC_len ?_;exact J.finG (none,0) rfl trivial (.cons_cons _ (List.nil_sublist _))
 refine run ?_;refine J.b0G opC opC_len rfl fun b=>?_
 refine run ?_;refine J.apG rfl rfl (RG.arg D0) opC_one fun a' c'=>?_
 refine run ?_;refine J.re (.gown opC 11 34 a' (0+n) c' ([]++l)) (.gown opC 11 34 a' n c' l) (fun S w h=>by rw[Nat.zero_add]at h;exact h) ?_;exact J.finG (a',c') (by rw[Nat.zero_add]) trivial (.cons_cons _ (List.nil_sublist _))
structure TwU where
 (ia:Option Addr)(ic:Nat)(oa:Option Addr)(oc b3:Nat)
structure TwA where
 (i:Nat)(D:List OpA)
theorem shTwin{S0:Nat→Prop}(g:GrA)(w:World)(G:GrR S0 w g):
  Calls prog 97 #[.agg (grC g).toArray] w (Gv w (fun q:GrA=> .agg (grC q).toArray) (grE 23 34) (GrP g.m g.ids g.ops)):=by
 have D0:=G.ids;have G0:=G.ops;have hl:=G.len;have hcp:=G.cap;have hzl:=G0.len;refine J.enter 31 func97 rfl rfl ?_;refine run ?_;refine J.box rfl rfl rfl fun b1=>?_
 refine J.alloc rfl fun b2=>?_
 refine run ?_;refine J.joinX (A:=TwU) (fun u=>[(3, .pointer (some ⟨u.b3,0,none⟩))]) [5,6,7,8,9,10,11] (fun u=>[.gown opC 11 34 u.oa g.n u.oc g.zs, .blk u.b3 [.slice u.ia g.m u.ic, .slice u.oa g.n u.oc] 65, .wown 23 .u8 32 u.ia g.m u.ic g.ids, .blk b2 [.slice none 0 0, .slice none 0 0] 65, .blk b1 (grC g) 65]) (fun _=>True) ?_ (fun u j hu=>?_)
 ·refine J.regionW [.blk b1 (grC g) 65] mixed ?_;refine J.wnode [(0, .q),(1, .q),(3, .q),(4, .q)] [2,7] 4 #[true,true,false,true,true,false,false,false,false] (by kernel_rfl) ?_;refine run ?_;refine J.nil ?_;refine J.wbr ?_ ?_
  ·refine J.call rfl rfl (fun w' M=>cloneW g.ia g.m g.ic g.ids w' (D0.ext M.ext) hcp.1 (by omega)) fun q1 hq1=>?_
   refine J.nil ?_;refine J.wnode [] [5,7] 3 #[true,true,true,true,true,false,false,false,false] (by kernel_rfl) ?_;refine run ?_;refine J.nil ?_;refine J.wbr ?_ ?_
   ·refine J.call rfl rfl (fun w' M=>cloneO g.oa g.n g.oc g.zs w' (G0.ext M.ext) (by omega)) fun q2 hq2=>?_
    refine J.nil ?_;refine J.wfin [(6, .q),(7, .e),(8, .e)] (by kernel_rfl) ?_;refine run ?_;refine J.alloc rfl fun b5=>?_
    refine run ?_;refine run ?_;refine J.front (.wown 23 .u8 32 q1.1 g.m q1.2 g.ids) ?_;refine J.front (.blk b5 [.slice q1.1 g.m q1.2, .slice q2.1 g.n q2.2] 65) ?_;refine J.front (.gown opC 11 34 q2.1 g.n q2.2 g.zs) ?_;exact J.cut ⟨q1.1,q1.2,q2.1,q2.2,b5⟩ ⟨rfl,trivial⟩ (by kernel_rfl) trivial
   refine J.wbr ?_ ?_
   ·refine J.alloc rfl fun b5=>?_
    refine J.nil ?_;refine J.wfin [(5, .e),(6, .q),(8, .e)] (by kernel_rfl) ?_;refine run ?_;refine J.call rfl rfl (fun w' M=>cloneO g.oa g.n g.oc g.zs w' (G0.ext M.ext) (by omega)) fun q2 hq2=>?_
    refine run ?_;refine run ?_;refine J.front (.wown 23 .u8 32 q1.1 g.m q1.2 g.ids) ?_;refine J.front (.blk b5 [.slice q1.1 g.m q1.2, .slice q2.1 g.n q2.2] 65) ?_;refine J.front (.gown opC 11 34 q2.1 g.n q2.2 g.zs) ?_;exact J.cut ⟨q1.1,q1.2,q2.1,q2.2,b5⟩ ⟨rfl,trivial⟩ (by kernel_rfl) trivial
   exact J.wbr0
  refine J.wbr ?_ ?_
  ·refine J.alloc rfl fun b5=>?_
   refine J.nil ?_;refine J.wfin [(2, .e),(5, .e),(6, .q),(8, .e)] (by kernel_rfl) ?_;refine run ?_;refine J.call rfl rfl (fun w' M=>cloneW g.ia g.m g.ic g.ids w' (D0.ext M.ext) hcp.1 (by omega)) fun q1 hq1=>?_
   refine run ?_;refine J.call rfl rfl (fun w' M=>cloneO g.oa g.n g.oc g.zs w' (G0.ext M.ext) (by omega)) fun q2 hq2=>?_
   refine run ?_;refine run ?_;refine J.front (.wown 23 .u8 32 q1.1 g.m q1.2 g.ids) ?_;refine J.front (.blk b5 [.slice q1.1 g.m q1.2, .slice q2.1 g.n q2.2] 65) ?_;refine J.front (.gown opC 11 34 q2.1 g.n q2.2 g.zs) ?_;exact J.cut ⟨q1.1,q1.2,q2.1,q2.2,b5⟩ ⟨rfl,trivial⟩ (by kernel_rfl) trivial
  exact J.wbr0
 obtain⟨ia,ic,oa,oc,b3⟩:=u;dsimp only;refine run ?_;refine J.noA ?_;refine J.re (.gown opC 11 34 oa g.n oc g.zs) (.gown opC 11 34 oa g.n oc ([]++g.zs.drop 0)) (fun _ _ h=>h) ?_;refine J.re (.all []) (.all (([]:List OpA).map (opE 23))) (fun _ _ h=>h) ?_;refine J.front (.gown opC 11 34 oa g.n oc ([]++g.zs.drop 0)) ?_;refine J.drop (E:=[.gown opC 11 34 oa g.n oc ([]++g.zs.drop 0), .all (([]:List OpA).map (opE 23)), .blk b3 [.slice ia g.m ic, .slice oa g.n oc] 65, .wown 23 .u8 32 ia g.m ic g.ids, .blk b2 [.slice none 0 0, .slice none 0 0] 65, .blk b1 (grC g) 65]) sb ?_;refine J.loop (A:=TwA) (fun p=>[(15, .int .i64 (p.i:Nat))]) [4,16,17,18,19,20,21,22,23,24,25,26,27,28,29,30] (fun p=>[.gown opC 11 34 oa g.n oc (p.D++g.zs.drop p.i), .all (p.D.map (opE 23)), .blk b3 [.slice ia g.m ic, .slice oa g.n oc] 65, .wown 23 .u8 32 ia g.m ic g.ids, .blk b2 [.slice none 0 0, .slice none 0 0] 65, .blk b1 (grC g) 65]) (fun p=>p.i≤g.n∧p.D.length=p.i∧p.D.map OpA.o=(g.zs.take p.i).map OpA.o∧∀z∈p.D,z.o.n≤z.pc) (fun p=>g.n - p.i) ⟨0,[]⟩ (by kernel_rfl) ⟨Nat.zero_le _,rfl,rfl,fun z hz=>by cases hz⟩ (fun p j hI=>?_);obtain⟨hp,hD,hDo,hDc⟩:=hI;refine run ?_;refine J.ifd rfl (fun c1=>?_) (fun c1=>?_)
 ·obtain⟨z,hzz⟩:=G0.ex (i:=(p.i:Nat)) (by omega);have R:=G.op hzz;rw[Int.toNat_natCast]at hzz;have hz2:(p.D++g.zs.drop p.i)[((p.i:Nat):Int).toNat]? =some z:=by
   rw[Int.toNat_natCast,List.getElem?_append_right (by omega),hD,Nat.sub_self,List.getElem?_drop,Nat.add_zero];exact hzz
  refine run ?_;refine J.regionX [(0, .q),(1, .q),(2, .q),(3, .q),(4, .q),(5, .q),(6, .q),(7, .q),(8, .q),(9, .e),(10, .q),(11, .q),(12, .g)] mixed (by kernel_rfl) ?_;refine run ?_;refine J.call rfl rfl (fun w' M=>cloneW _ _ _ _ w' (R.row.ext M.ext) R.cap (by have:=R.ok.n;omega)) fun q hq=>?_
  refine run ?_;refine J.stGf (f:=opC) (o:=1) (q0:=z) (q:=⟨z.o,q.1,q.2⟩) rfl rfl hz2 rfl ?_;rw[Int.toNat_natCast,S.set_mid hD hzz];refine run ?_;refine J.snocA (p.D.map (opE 23)) (.wown 23 .u8 32 q.1 z.o.n q.2 z.o.ids) ?_;refine J.re (.all (p.D.map (opE 23)++[.wown 23 .u8 32 q.1 z.o.n q.2 z.o.ids])) (.all ((p.D++[(⟨z.o,q.1,q.2⟩:OpA)]).map (opE 23))) (fun _ _ h=>by rw[List.map_append];exact h) ?_;refine J.drop (E:=[.gown opC 11 34 oa g.n oc ((p.D++[(⟨z.o,q.1,q.2⟩:OpA)])++g.zs.drop (p.i+1)), .all ((p.D++[(⟨z.o,q.1,q.2⟩:OpA)]).map (opE 23)), .blk b3 [.slice ia g.m ic, .slice oa g.n oc] 65, .wown 23 .u8 32 ia g.m ic g.ids, .blk b2 [.slice none 0 0, .slice none 0 0] 65, .blk b1 (grC g) 65]) sb ?_
  exact J.next ⟨p.i + 1, p.D ++ [⟨z.o, q.1, q.2⟩]⟩ ⟨rfl, trivial⟩ (by kernel_rfl) ⟨by dsimp only; omega, by simp [hD], by dsimp only; rw [List.map_append, hDo, List.take_add_one, hzz, Option.toList_some, List.map_append]; rfl, fun y hy => by
   rcases List.mem_append.1 hy with h | h
   ·exact hDc y h
   rw [List.mem_singleton] at h; subst h; exact hq⟩ (by dsimp only; omega)
 obtain⟨pi,D⟩:=p;dsimp only at hp hD hDo hDc c1⊢;obtain rfl:pi=g.n:=by omega
 rw[List.drop_of_length_le (by omega),List.append_nil];refine run ?_;exact J.finG ⟨ia,oa,g.m,g.n,ic,oc,g.ids,D⟩ rfl ⟨rfl,rfl,hl.symm,by show D.map OpA.o=_;rw[hDo,List.take_of_length_le (by omega)];rfl,hDc⟩ (by unfold grE;repeat(first|exact List.nil_sublist _|refine List.Sublist.cons_cons _ ?_|refine List.Sublist.cons _ ?_))
instance:Fld prog 72 0 0:=⟨_,_,1,underlying72,rfl,by kernel_rfl,by decide,rfl⟩
instance:Sca prog 70:=⟨_,underlying70,rfl⟩
instance:Und prog 70 (.slice 65):=⟨underlying70⟩
instance:Ents prog 97:=⟨.mk func97 (by kernel_rfl) rfl⟩
structure MrA where
 (nx:List Nat)(n:Nat)(a:Option Addr)(c:Nat)(oa:Option Addr)(oc:Nat)(zs:List OpA)(g:S.PG)
structure LsA where
 (i:Nat)(l:Int)
theorem shMerge{S0:Nat→Prop}(s:ShA)(w:World)(H:ShR S0 w s)(hL:ShL s)(hn:s.pn≤4)(hres:∀k,k<s.V.ps.length→S.resP (s.V.ps.length:Int) (k:Nat) (s.V.ps.getD k S.PG.nil).m (s.V.ps.getD k S.PG.nil).ids):
  Calls prog 146 #[.agg (shC s).toArray] w (Gv w (fun q:GrA×Bool=> .tuple #[.agg (grC q.1).toArray, .bool q.2]) (fun q=>grE 23 34 q.1) fun q=>(q.2=true→S.goodPs s.V.ps∧GrP (S.whole s.V.ps).m (S.whole s.V.ps).ids (S.whole s.V.ps).ops q.1)∧(q.2=false→¬S.goodPs s.V.ps)):=by
 have P0:=H.pr;have hl:=P0.len;have hcp:=H.cap;have hml:=H.ml;obtain⟨V,hV⟩:=ex s.V.ps;rw[←hV]at hres⊢;have hV':V=s.gs.map GrA.P:=hV;rw[←hV']at hml;have hVl:V.length=s.pn:=by rw[hV',List.length_map,hl]
 have hat:∀ {i:Nat} {g:GrA},s.gs[i]? =some g→V.getD i S.PG.nil=g.P:=fun h=>by rw[hV'];exact gsAt h
 have hall:S.allN V≤64:=hV▸hL hn;refine J.enter 142 func146 rfl rfl ?_;refine run ?_;refine J.box rfl rfl rfl fun b1=>?_
 refine J.alloc rfl fun b2=>?_
 refine run ?_;refine J.alloc rfl fun b4=>?_
 refine run ?_;refine J.mkI rfl rfl rfl fun b5=>?_
 refine run ?_;refine J.loop (A:=Nat) (fun p=>[(19, .int .i64 (p:Nat))]) [7,8,20,21,22,23,24,25,26,27,28,29,30,31,32,33,34,35,36,37,38,39,40,41,42,43,44,45,46,47,48,49,50,51,52] (fun _=>[.iown 3 .i64 (some ⟨b5,0,none⟩) s.pn s.pn (List.replicate s.pn 0), .blk b4 [.slice none 0 0, .slice none 0 0] 65, .blk b2 [.slice none 0 0, .slice none 0 0] 65, .blk b1 (shC s) 72]) (fun p=>p≤s.pn∧∀k,k<p→(V.getD k S.PG.nil).ops.length=(V.getD k S.PG.nil).m∧S.Rising (V.getD k S.PG.nil).m (V.getD k S.PG.nil).ids) (fun p=>s.pn - p) 0 (by kernel_rfl) ⟨Nat.zero_le _,fun k hk=>absurd hk (Nat.not_lt_zero _)⟩ (fun p j hI=>?_);obtain⟨hp,hI⟩:=hI;refine run ?_;refine J.ifd rfl (fun c1=>?_) (fun c1=>?_)
 ·obtain⟨g,hg⟩:=P0.ex (i:=(p:Nat)) (by omega);have hg':=hg;rw[Int.toNat_natCast]at hg';have G:=H.g hg';have D0:=G.ids;have hcp2:=G.cap;have hgl:=G.len;have hgP:=hat hg';refine run ?_;refine J.alloc rfl fun b7=>?_
  refine run ?_;refine J.ifn rfl (fun c2=>?_) (fun c2=>?_)
  ·refine run ?_;refine J.nilGr 23 34 ?_;refine J.finG (GrA.nil,false) rfl ⟨fun h=>(by cases h),fun _ h=>c2 ?_⟩ (by unfold grE;repeat(first|exact List.nil_sublist _|refine List.Sublist.cons_cons _ ?_|refine List.Sublist.cons _ ?_));have:=(h p (by omega)).1.2;rw[hgP]at this;have h2:g.ops.length=g.m:=this;omega
  refine run ?_;refine J.loopS (A:=Int) (fun q=>[(8, .int .i64 q)]) [31,32,33,34,35,36,37,38,39,40,41,42,43,44,45,46,47,48,49,50,51] (fun q=>1≤q∧(q≤g.m∨q=1)∧S.RisS g.ids q.toNat) (fun q=>(g.m+1 - q).toNat) 1 (by kernel_rfl) ⟨by decide, .inr rfl,fun k hk=>by omega⟩ (fun q j2 hI2=>?_);obtain⟨h1,h2,h3⟩:=hI2;refine run ?_;refine J.ifd rfl (fun c3=>?_) (fun c3=>?_)
  ·refine run ?_;refine J.regionX [(0, .q),(1, .q),(2, .q),(3, .q),(4, .q),(5, .q),(6, .q),(7, .q),(8, .q),(9, .q),(10, .q),(11, .e),(12, .q)] mixed (by kernel_rfl) ?_;refine run ?_;refine J.callp rfl rfl (fun w' M=>dcmp _ _ (D0.elt_arr (by omega)) (D0.elt_arr (by omega)) w') ?_;refine run ?_;have e:q.toNat=(q - 1).toNat+1:=by omega
   refine J.ifd rfl (fun c4=>?_) (fun c4=>?_)
   ·refine run ?_;refine J.nilGr 23 34 ?_;refine J.finG (GrA.nil,false) rfl ⟨fun h=>(by cases h),fun _ h=>?_⟩ (by unfold grE;repeat(first|exact List.nil_sublist _|refine List.Sublist.cons_cons _ ?_|refine List.Sublist.cons _ ?_));have:=(h p (by omega)).2.1;rw[hgP]at this;have h5:=this (q - 1).toNat (by show _<g.m - 1;omega);rw[e]at c4;exact absurd c4 (Int.not_le.2 h5)
   refine run ?_;refine J.nextS (q+1) ⟨rfl,trivial⟩ (by kernel_rfl) ⟨by omega, .inl (by omega),fun k hk=>?_⟩ (by omega);by_cases hk2:k+1<q.toNat
   ·exact h3 k hk2
   obtain rfl:k=(q - 1).toNat:=by omega
   rw[e]at c4;exact Int.not_le.1 c4
  have hr:S.Rising g.m g.ids:=fun i hi=>h3 i (by omega);refine run ?_;refine J.next (p+1) ⟨rfl,trivial⟩ (by kernel_rfl) ⟨by omega,fun k hk=>?_⟩ (by omega);rcases Nat.lt_or_ge k p with c|c
  ·exact hI k c
  obtain rfl:k=p:=by omega
  rw[hgP];exact⟨by show g.ops.length=g.m;omega,hr⟩
 have hgood:S.goodPs V:=S.goodPs_of hml hres fun k hk=>hI k (by omega);have hle:=S.whole_le hml;refine run ?_;refine J.nilWo 23 .u8 32 ?_;refine J.nilG opC 11 34 opC_len ?_;refine J.re (.iown 3 .i64 (some ⟨b5,0,none⟩) s.pn s.pn (List.replicate s.pn 0)) (.iown 3 .i64 (some ⟨b5,0,none⟩) s.pn s.pn (S.castL (List.replicate V.length 0))) (fun _ _ h=>by rw[S.castL_rep,hVl];exact h) ?_;refine J.front (.blk b4 [.slice none 0 0, .slice none 0 0] 65) ?_;refine J.front (.wown 23 .u8 32 none 0 0 []) ?_;refine J.front (.gown opC 11 34 none 0 0 []) ?_;refine J.drop (E:=[.gown opC 11 34 none 0 0 [], .wown 23 .u8 32 none 0 0 [], .blk b4 [.slice none 0 0, .slice none 0 0] 65, .iown 3 .i64 (some ⟨b5,0,none⟩) s.pn s.pn (S.castL (List.replicate V.length 0)), .blk b2 [.slice none 0 0, .slice none 0 0] 65, .blk b1 (shC s) 72]) sb ?_;refine J.loop (A:=MrA) (fun p=>[]) [9,10,11,53,54,55,56,57,58,59,60,61,62,63,64,65,66,67,68,69,70,71,72,73,74,75,76,77,78,79,80,81,82,83,84,85,86,87,88,89,90,91,92,93,94,95,96,97,98,99,100,101,102,103,104,105,106,107,108,109,110,111,112,113,114,115,116,117,118,119,120,121,122,123,124,125,126,127,128,129,130,131,132,133,134,135,136,137,138,139,140,141,142] (fun p=>[.gown opC 11 34 p.oa p.n p.oc p.zs, .wown 23 .u8 32 p.a p.n p.c p.g.ids, .blk b4 [.slice p.a p.n p.c, .slice p.oa p.n p.oc] 65, .iown 3 .i64 (some ⟨b5,0,none⟩) s.pn s.pn (S.castL p.nx), .blk b2 [.slice none 0 0, .slice none 0 0] 65, .blk b1 (shC s) 72]) (fun p=>S.MgS V p.nx p.g∧p.n=p.g.m∧p.zs.map OpA.o=p.g.ops∧∀z∈p.zs,∃g∈s.gs,z∈g.zs) (fun p=>64 - p.g.m) ⟨List.replicate V.length 0,0,none,0,none,0,[],S.PG.nil⟩ (by kernel_rfl) ⟨S.mg_zero V,rfl,rfl,fun z hz=>by cases hz⟩ (fun p j2 hI2=>?_);obtain⟨hm,hpn,hpz,hpm⟩:=hI2;have hnl:=hm.len;refine run ?_
 refine J.loop (A:=LsA) (fun q=>[(9, .int .i64 q.l),(56, .int .i64 (q.i:Nat))]) [10,11,57,58,59,60,61,62,63,64,65,66,67,68,69,70,71,72,73,74,75,76,77,78,79,80,81,82,83,84,85,86,87,88,89,90,91,92,93,94,95,96,97,98] (fun _=>[.gown opC 11 34 p.oa p.n p.oc p.zs, .wown 23 .u8 32 p.a p.n p.c p.g.ids, .blk b4 [.slice p.a p.n p.c, .slice p.oa p.n p.oc] 65, .iown 3 .i64 (some ⟨b5,0,none⟩) s.pn s.pn (S.castL p.nx), .blk b2 [.slice none 0 0, .slice none 0 0] 65, .blk b1 (shC s) 72]) (fun q=>q.i≤s.pn∧S.LsP V p.nx q.i q.l) (fun q=>s.pn - q.i) ⟨0, -1⟩ (by kernel_rfl) ⟨Nat.zero_le _,S.ls_zero⟩ (fun q j3 hI3=>?_);obtain⟨hq,hls⟩:=hI3;refine run ?_;refine J.ifd rfl (fun c2=>?_) (fun c2=>?_)
 ·obtain⟨g,hg⟩:=P0.ex (i:=(q.i:Nat)) (by omega);have hg':=hg;rw[Int.toNat_natCast]at hg';have G:=H.g hg';have D0:=G.ids;have hcp2:=G.cap;have hgP:=hat hg';have hni:((p.nx.getD q.i 0:Nat):Int)=(S.castL p.nx).getD ((q.i:Nat):Int).toNat 0:=by rw[Int.toNat_natCast,S.castL_get]
  refine run ?_;refine J.alloc rfl fun b11=>?_
  refine run ?_;refine J.regionX [(0, .q),(1, .q),(2, .q),(3, .q),(4, .q),(5, .q),(6, .q),(7, .q),(8, .q),(9, .q),(10, .q),(11, .q),(12, .q),(13, .q),(14, .q),(15, .q),(16, .q),(17, .q),(18, .q),(19, .q),(20, .q),(21, .q),(22, .q),(23, .q),(24, .q),(25, .q),(26, .q),(27, .q),(28, .q),(29, .q),(30, .q),(31, .q),(32, .e),(33, .q),(34, .q),(35, .q)] mixed (by kernel_rfl) ?_;refine run ?_;refine J.spd rfl rfl rfl (fun c3=>?_) (fun c3=>?_)
  ·have hlt:p.nx.getD q.i 0<(V.getD q.i S.PG.nil).m:=by rw[hgP];show _<g.m;omega
   refine run ?_;refine J.spd rfl rfl rfl (fun c4=>?_) (fun c4=>?_)
   ·refine run ?_;exact J.next ⟨q.i+1,(q.i:Nat)⟩ ⟨rfl,rfl,trivial⟩ (by kernel_rfl) ⟨by dsimp only;omega,hls.first c4 hlt⟩ (by dsimp only;omega)
   obtain⟨k,hkl,hki,hkm⟩:=hls.some c4;rw[hkl]at hls⊢;obtain⟨h,hh⟩:=P0.ex (i:=(k:Nat)) (by omega);have hh':=hh;rw[Int.toNat_natCast]at hh';have GH:=H.g hh';have D1:=GH.ids;have hhP:=hat hh';have hkm':p.nx.getD k 0<h.m:=by rw[hhP]at hkm;exact hkm
   have hnk:((p.nx.getD k 0:Nat):Int)=(S.castL p.nx).getD ((k:Nat):Int).toNat 0:=by rw[Int.toNat_natCast,S.castL_get]
   refine run ?_;rw[Int.toNat_natCast (p.nx.getD q.i 0),Int.toNat_natCast (p.nx.getD k 0)];refine J.callp rfl rfl (fun w' M=>dcmp _ _ (D0.elt_arr (by omega)) (D1.elt_arr (by omega)) w') ?_;refine run ?_;have ec:∀ {z:Prop},(S.cmpS (elt 32 g.ids (p.nx.getD q.i 0)) (elt 32 h.ids (p.nx.getD k 0))<0→z)→S.cmpS (S.idAt (V.getD q.i S.PG.nil).ids (p.nx.getD q.i 0)) (S.idAt (V.getD k S.PG.nil).ids (p.nx.getD k 0))<0→z:=fun f=>by rw[hgP,hhP];exact f
   refine J.ifd rfl (fun c5=>?_) (fun c5=>?_)
   ·refine run ?_;exact J.next ⟨q.i+1,(q.i:Nat)⟩ ⟨rfl,rfl,trivial⟩ (by kernel_rfl) ⟨by dsimp only;omega,hls.less hlt (by rw[hgP,hhP];exact c5)⟩ (by dsimp only;omega)
   refine run ?_;exact J.next ⟨q.i+1,(k:Nat)⟩ ⟨rfl,rfl,trivial⟩ (by kernel_rfl) ⟨by dsimp only;omega,hls.more (by rw[hgP,hhP];exact c5)⟩ (by dsimp only;omega)
  refine run ?_;exact J.next ⟨q.i+1,q.l⟩ ⟨rfl,rfl,trivial⟩ (by kernel_rfl) ⟨by dsimp only;omega,hls.skip (by rw[hgP];show ¬_<g.m;omega)⟩ (by dsimp only;omega)
 obtain⟨qi,ql⟩:=q;dsimp only at hq hls c2⊢;obtain rfl:qi=s.pn:=by omega
 rw[←hVl]at hls;obtain⟨nx,n,a,c,oa,oc,zs,gg⟩:=p;dsimp only at hm hpn hpz hpm hnl hls⊢;refine J.fact (.wown 23 .u8 32 a n c gg.ids) (fun _ _ h=>(wown_len h).2) fun hc2=>?_
 refine J.fact (.gown opC 11 34 oa n oc zs) (fun _ _ h=>(gown_e h).1.capn) fun hc3=>?_
 refine run ?_;refine J.ifd rfl (fun c3=>?_) (fun c3=>?_)
 ·have hw:=hm.done hgood hls c3;have hn70:n≤70:=by rw[hpn,←hw];omega
  refine run ?_;refine J.call rfl rfl (fun w' M=>(RW.own' (a:=a) w' M).elim fun _ k0=>(RG.own' (a:=oa) w' M).elim fun _ k1=>shTwin ⟨a,oa,n,n,c,oc,gg.ids,zs⟩ w' (S0:=fun _=>True) ⟨k0.weaken fun _ _ _=>trivial,k1.weaken fun _ _ _=>trivial,Inns.weak (fun x hx=>(hpm x hx).elim fun g hg=>((H.gi g hg.1).ext M.ext).inn x hg.2) fun _ _=>trivial,fun z hz=>(hpm z hz).elim fun g hg=>(H.gi g hg.1).ok z hg.2,hc2,hc3,hn70,hn70⟩) fun q hq=>?_
  dsimp only[grE,List.cons_append,List.nil_append];refine run ?_;refine J.finG (q,true) rfl ⟨fun _=>⟨hgood,?_⟩,fun h=>by cases h⟩ sb;have eo:GrA.ops ⟨a,oa,n,n,c,oc,gg.ids,zs⟩=gg.ops:=hpz;rw[eo]at hq;rw[hw];exact⟨hq.m.trans hpn,hq.ids,hq.n,hq.ops,hq.cap⟩
 obtain⟨k,rfl,hkl,hkm⟩:=hls.some c3;have hstep:=hm.step hgood hls;have hlt:=hm.lt hkl hkm;obtain⟨h,hh⟩:=P0.ex (i:=(k:Nat)) (by omega);have hh':=hh;rw[Int.toNat_natCast]at hh';have GH:=H.g hh';have D1:=GH.ids;have O1:=GH.ops;have hcp2:=GH.cap;have hhP:=hat hh';have hkm':nx.getD k 0<h.m:=by rw[hhP]at hkm;exact hkm
 have hhn:h.n=h.m:=by
  have:=(hgood k hkl).1.2;rw[hhP]at this;have h2:h.ops.length=h.m:=this;have h3:=GH.len;omega
 have hA:Arr .u8 32 (elt 32 h.ids (nx.getD k 0)):=D1.elt_arr (by omega);obtain⟨z,hz⟩:=O1.ex (i:=(nx.getD k 0:Nat)) (by omega);have hz':=hz;rw[Int.toNat_natCast]at hz';have hzo:=GrA.opAt hz';have hnk:((nx.getD k 0:Nat):Int)=(S.castL nx).getD ((k:Nat):Int).toNat 0:=by rw[Int.toNat_natCast,S.castL_get]
 have ecl:(S.castL nx).set ((k:Nat):Int).toNat ((nx.getD k 0:Nat)+1)=S.castL (nx.set k (nx.getD k 0+1)):=by rw[Int.toNat_natCast,S.castL_set];rfl
 have hX:S.idAt (V.getD k S.PG.nil).ids (nx.getD k 0)=elt 32 h.ids (nx.getD k 0):=by rw[hhP];rfl
 have hO:(V.getD k S.PG.nil).ops.getD (nx.getD k 0) S.OpV.zero=z.o:=by rw[hhP];exact hzo
 rw[hX,hO]at hstep;clear hX hO;refine run ?_;refine J.regionG [.blk b4 [.slice a n c, .slice oa n oc] 65, .iown 3 .i64 (some ⟨b5,0,none⟩) s.pn s.pn (S.castL nx), .blk b1 (shC s) 72] [33,35] [34] mixed ?_;refine J.gnode [(0, .q),(1, .q),(2, .q),(3, .q),(4, .q),(5, .q),(6, .q),(7, .q),(8, .q),(9, .q),(10, .q),(11, .q),(12, .q),(13, .q),(16, .q),(17, .q),(18, .q),(19, .q),(20, .q),(21, .q),(22, .q),(23, .q),(24, .q),(25, .q),(26, .q),(27, .q),(28, .q),(29, .q)] [14,30] 7 #[true,true,true,true,true,true,true,true,true,true,true,true,true,true,false,false,true,true,true,true,true,true,true,true,true,true,true,true,true,true,false,false,false,false,false,false] (by kernel_rfl) ?_;refine run ?_;refine J.nil ?_;refine J.gbr ?_ ?_
 ·rw[Int.toNat_natCast (nx.getD k 0)];refine J.b1W rfl rfl hA fun bb=>?_
  refine J.nil ?_;refine J.gnode [] [15,30] 6 #[true,true,true,true,true,true,true,true,true,true,true,true,true,true,true,false,true,true,true,true,true,true,true,true,true,true,true,true,true,true,false,false,false,false,false,false] (by kernel_rfl) ?_;refine run ?_;refine J.nil ?_;refine J.gbr ?_ ?_
  ·refine J.apW rfl rfl RW.own' fun a' c'=>?_
   refine J.nil ?_;refine J.gfin [(32, .q),(30, .e),(31, .e),(33, .g),(34, .c),(35, .g)] (by kernel_rfl) ?_;refine run ?_;refine J.b1G opC z opC_len rfl rfl rfl fun bc=>?_
   refine run ?_;refine J.apG rfl rfl RG.own' opC_one fun oa' oc'=>?_
   refine J.sw rfl ?_;refine run ?_;refine J.front (.blk b4 [.slice a' (n+1) c', .slice oa' (n+1) oc'] 65) ?_;refine J.front (.wown 23 .u8 32 a' (n+1) c' (gg.ids++elt 32 h.ids (nx.getD k 0))) ?_;refine J.front (.gown opC 11 34 oa' (n+1) oc' (zs++[z])) ?_;refine run ?_;rw[ecl];refine J.drop (E:=[.gown opC 11 34 oa' (n+1) oc' (zs++[z]), .wown 23 .u8 32 a' (n+1) c' (gg.ids++elt 32 h.ids (nx.getD k 0)), .blk b4 [.slice a' (n+1) c', .slice oa' (n+1) oc'] 65, .iown 3 .i64 (some ⟨b5,0,none⟩) s.pn s.pn (S.castL (nx.set k (nx.getD k 0+1))), .blk b2 [.slice none 0 0, .slice none 0 0] 65, .blk b1 (shC s) 72]) sb ?_
   exact J.next ⟨nx.set k (nx.getD k 0 + 1), n + 1, a', c', oa', oc', zs ++ [z], gg.snoc (elt 32 h.ids (nx.getD k 0)) z.o⟩ trivial (by kernel_rfl) ⟨hstep, congrArg (· + 1) hpn, by dsimp only; rw [List.map_append, hpz]; rfl, fun y hy => by
    rcases List.mem_append.1 hy with hh2 | hh2
    ·exact hpm y hh2
    rw [List.mem_singleton] at hh2; subst hh2; exact ⟨h, List.mem_of_getElem? hh', List.mem_of_getElem? hz'⟩⟩ (by show 64 - (gg.m + 1) < 64 - gg.m; omega)
  refine J.gbr ?_ ?_
  ·refine J.b1G opC z opC_len rfl rfl rfl fun bc=>?_
   refine J.nil ?_;refine J.gfin [(15, .e),(32, .q),(31, .e),(33, .g),(34, .c),(35, .g)] (by kernel_rfl) ?_;refine run ?_;refine J.apW rfl rfl RW.own' fun a' c'=>?_
   refine run ?_;refine J.apG rfl rfl RG.own' opC_one fun oa' oc'=>?_
   refine J.sw rfl ?_;refine run ?_;refine J.front (.blk b4 [.slice a' (n+1) c', .slice oa' (n+1) oc'] 65) ?_;refine J.front (.wown 23 .u8 32 a' (n+1) c' (gg.ids++elt 32 h.ids (nx.getD k 0))) ?_;refine J.front (.gown opC 11 34 oa' (n+1) oc' (zs++[z])) ?_;refine run ?_;rw[ecl];refine J.drop (E:=[.gown opC 11 34 oa' (n+1) oc' (zs++[z]), .wown 23 .u8 32 a' (n+1) c' (gg.ids++elt 32 h.ids (nx.getD k 0)), .blk b4 [.slice a' (n+1) c', .slice oa' (n+1) oc'] 65, .iown 3 .i64 (some ⟨b5,0,none⟩) s.pn s.pn (S.castL (nx.set k (nx.getD k 0+1))), .blk b2 [.slice none 0 0, .slice none 0 0] 65, .blk b1 (shC s) 72]) sb ?_
   exact J.next ⟨nx.set k (nx.getD k 0 + 1), n + 1, a', c', oa', oc', zs ++ [z], gg.snoc (elt 32 h.ids (nx.getD k 0)) z.o⟩ trivial (by kernel_rfl) ⟨hstep, congrArg (· + 1) hpn, by dsimp only; rw [List.map_append, hpz]; rfl, fun y hy => by
    rcases List.mem_append.1 hy with hh2 | hh2
    ·exact hpm y hh2
    rw [List.mem_singleton] at hh2; subst hh2; exact ⟨h, List.mem_of_getElem? hh', List.mem_of_getElem? hz'⟩⟩ (by show 64 - (gg.m + 1) < 64 - gg.m; omega)
  exact J.gbr0
 refine J.gbr ?_ ?_
 ·refine J.b1G opC z opC_len rfl rfl rfl fun bc=>?_
  refine J.nil ?_;refine J.gfin [(14, .e),(15, .e),(32, .q),(31, .e),(33, .g),(34, .c),(35, .g)] (by kernel_rfl) ?_;refine run ?_;rw[Int.toNat_natCast (nx.getD k 0)];refine J.b1W rfl rfl hA fun bb=>?_
  refine run ?_;refine J.apW rfl rfl RW.own' fun a' c'=>?_
  refine run ?_;refine J.apG rfl rfl RG.own' opC_one fun oa' oc'=>?_
  refine J.sw rfl ?_;refine run ?_;refine J.front (.blk b4 [.slice a' (n+1) c', .slice oa' (n+1) oc'] 65) ?_;refine J.front (.wown 23 .u8 32 a' (n+1) c' (gg.ids++elt 32 h.ids (nx.getD k 0))) ?_;refine J.front (.gown opC 11 34 oa' (n+1) oc' (zs++[z])) ?_;refine run ?_;rw[ecl];refine J.drop (E:=[.gown opC 11 34 oa' (n+1) oc' (zs++[z]), .wown 23 .u8 32 a' (n+1) c' (gg.ids++elt 32 h.ids (nx.getD k 0)), .blk b4 [.slice a' (n+1) c', .slice oa' (n+1) oc'] 65, .iown 3 .i64 (some ⟨b5,0,none⟩) s.pn s.pn (S.castL (nx.set k (nx.getD k 0+1))), .blk b2 [.slice none 0 0, .slice none 0 0] 65, .blk b1 (shC s) 72]) sb ?_
  exact J.next ⟨nx.set k (nx.getD k 0 + 1), n + 1, a', c', oa', oc', zs ++ [z], gg.snoc (elt 32 h.ids (nx.getD k 0)) z.o⟩ trivial (by kernel_rfl) ⟨hstep, congrArg (· + 1) hpn, by dsimp only; rw [List.map_append, hpz]; rfl, fun y hy => by
   rcases List.mem_append.1 hy with hh2 | hh2
   ·exact hpm y hh2
   rw [List.mem_singleton] at hh2; subst hh2; exact ⟨h, List.mem_of_getElem? hh', List.mem_of_getElem? hz'⟩⟩ (by show 64 - (gg.m + 1) < 64 - gg.m; omega)
 exact J.gbr0
end W
namespace S
open G
def resN(ps:List PG)(x:List Int):Nat:=(x.getD 0 0 % (ps.length:Int)).toNat
section
variable{ps:List PG}{x:List Int}
theorem res_lt(hn:0<ps.length):((resN ps x:Nat):Int)=x.getD 0 0 % (ps.length:Int)∧resN ps x<ps.length:=by
 have h1:=Int.emod_nonneg (x.getD 0 0) (show(ps.length:Int)≠0 by omega);have h2:=Int.emod_lt_of_pos (x.getD 0 0) (show(0:Int)<ps.length by omega);unfold resN;omega
theorem in_part(hg:goodPs ps)(hn:0<ps.length):inS (whole ps).m (whole ps).ids x↔inS (ps.getD (resN ps x) PG.nil).m (ps.getD (resN ps x) PG.nil).ids x:=by
 obtain⟨r1,r2⟩:=res_lt (x:=x) hn;have hm:=whole_mrg hg;constructor
 ·intro h;obtain⟨o,ho⟩:=has_in.1 h;obtain⟨j,hj,i,hi,e1,e2⟩:=mem_parts.1 ((hm.has x o).1 ho);have:=(hg j hj).2.2 i hi;rw[e1]at this;have:j=resN ps x:=by omega
  subst this;exact⟨i,hi,e1⟩
 ·intro h;obtain⟨o,ho⟩:=has_in.1 h;exact has_in.2 ⟨o,(hm.has x o).2 (mem_parts.2 ⟨_,r2,ho⟩)⟩
end
end S
namespace W
open Go.RowKit G
set_option maxRecDepth 20000
set_option maxHeartbeats 8000000
attribute [local irreducible] RS RX RY Code.wp bodyPost J Ent.blk Ent.iown Ent.wrow Ent.wown Ent.gown Ent.all Ent.emp
instance:Ents prog 50:=⟨.mk func50 (by kernel_rfl) rfl⟩
instance:Agg prog 72 3:=⟨_,underlying72,rfl,by kernel_rfl⟩
instance:Ents prog 146:=⟨.mk func146 (by kernel_rfl) rfl⟩
instance:Fld prog 72 2 2:=⟨_,_,1,underlying72,rfl,by kernel_rfl,by decide,rfl⟩
instance:Ents prog 41:=⟨.mk func41 (by kernel_rfl) rfl⟩
instance:Fld prog 72 1 1:=⟨_,_,1,underlying72,rfl,by kernel_rfl,by decide,rfl⟩
instance:Ents prog 147:=⟨.mk func147 (by kernel_rfl) rfl⟩
theorem shWhole{S0:Nat→Prop}(s:ShA)(TK:TypeId)(w:World)(K0:Kst w TK)(H:ShR S0 w s)(hL:ShL s):
  Calls prog 103 #[.agg (shC s).toArray] w (Gv w (fun q:GrA=> .tuple #[.agg (grC q).toArray, .int .i64 (S.chkH s.V)]) (grE 23 34) (GrP (S.alP s.V).m (S.alP s.V).ids (S.alP s.V).ops)):=by
 have P0:=H.pr;have hl:=P0.len;have hcp:=H.cap;have hll:s.V.ps.length=s.pn:=by rw[List.length_map,H.pr.len]
 have hoi:=S.ok_iff (v:=s.V) H.ml;refine J.enter 71 func103 rfl rfl ?_;refine run ?_;refine J.box rfl rfl rfl fun b1=>?_
 refine J.alloc rfl fun b2=>?_
 refine run ?_;refine J.alloc rfl fun b4=>?_
 refine run ?_;refine J.spd rfl rfl rfl (fun c1=>?_) (fun c1=>?_)
 ·have k1:¬S.okR s.V:=fun h=>by have:=h.1.1;omega
  rw[S.chkH_8 k1,S.al_8 k1];refine run ?_;refine J.nilGr 23 34 ?_;exact J.finG GrA.nil rfl GrP.nil sb
 refine run ?_;refine J.ifd rfl (fun c2=>?_) (fun c2=>?_)
 ·have k1:¬S.okR s.V:=fun h=>by have:=h.1.2;omega
  rw[S.chkH_8 k1,S.al_8 k1];refine run ?_;refine J.nilGr 23 34 ?_;exact J.finG GrA.nil rfl GrP.nil sb
 refine run ?_;refine J.loop (A:=Nat) (fun p=>[(24, .int .i64 (p:Nat))]) [5,6,25,26,27,28,29,30,31,32,33,34] (fun _=>[.blk b4 [.int .i64 (s.pn:Nat)] 3, .blk b2 [.slice none 0 0, .slice none 0 0] 65, .blk b1 (shC s) 72]) (fun p=>p≤s.pn∧∀k,k<p→S.resP (s.pn:Int) (k:Nat) (s.V.ps.getD k S.PG.nil).m (s.V.ps.getD k S.PG.nil).ids) (fun p=>s.pn - p) 0 (by kernel_rfl) ⟨Nat.zero_le _,fun k hk=>absurd hk (Nat.not_lt_zero _)⟩ (fun p j hI=>?_);obtain⟨hp,hI⟩:=hI;refine run ?_;refine J.ifd rfl (fun c3=>?_) (fun c3=>?_)
 ·obtain⟨g,hg⟩:=P0.ex (i:=(p:Nat)) (by omega);have hg':=hg;rw[Int.toNat_natCast]at hg';have G:=H.g hg';have hcp2:=G.cap;have hgP:=shAt hg';refine run ?_;refine J.alloc rfl fun b5=>?_
  refine J.alloc rfl fun b6=>?_
  refine run ?_;refine J.fn rfl rfl rfl ?_;refine J.callp rfl rfl (fun w' M=>hasWh (s.pn:Int) (p:Nat) g.ia g.m g.ic g.ids b4 b5 _ _ w' (blkC b4 M) (blkC b5 M) (G.ids.ext M.ext) ⟨by omega,by omega⟩ (by omega)) ?_;refine run ?_;refine J.ifd rfl (fun c4=>?_) (fun c4=>?_)
  ·have k1 : ¬ S.okR s.V := fun h => c4 (by
    have := ((hoi.1 h).2.1 p (by omega)).2.2
    rw [hgP, hll] at this
    exact this)
   rw[S.chkH_8 k1,S.al_8 k1];refine run ?_;refine J.nilGr 23 34 ?_;exact J.finG GrA.nil rfl GrP.nil sb
  refine run ?_;refine J.next (p+1) ⟨rfl,trivial⟩ (by kernel_rfl) ⟨by omega,fun k hk=>?_⟩ (by omega);rcases Nat.lt_or_ge k p with c|c
  ·exact hI k c
  obtain rfl:k=p:=by omega
  rw[hgP];exact Decidable.not_not.1 c4
 have hres:∀k,k<s.V.ps.length→S.resP (s.V.ps.length:Int) (k:Nat) (s.V.ps.getD k S.PG.nil).m (s.V.ps.getD k S.PG.nil).ids:=fun k hk=>by
  rw[hll];exact hI k (by omega)
 refine run ?_;refine J.call rfl rfl (fun w' M=>shMerge s w' (H.ext M.ext) hL (by omega) hres) fun q hq=>?_
 obtain⟨q,ok⟩:=q;dsimp only[grE,List.cons_append,List.nil_append]at hq⊢;refine run ?_;refine J.alloc rfl fun b7=>?_
 refine run ?_;cases ok with
 |false=>
  have k1:¬S.okR s.V:=fun h=>hq.2 rfl (hoi.1 h).2.1;rw[S.chkH_8 k1,S.al_8 k1];refine run ?_;refine J.nilGr 23 34 ?_;exact J.finG GrA.nil rfl GrP.nil sb
 |true=>
 obtain⟨hgp,hP⟩:=hq.1 rfl;have hle:=H.le hL (by omega);have hwg:=S.whole_good (ps:=s.V.ps) H.ml;have hok:=refWholeOk H;have hqs:q.m≤70∧q.n≤70:=⟨by rw[hP.m];exact Nat.le_trans hle (by decide),by rw[hP.n,hwg.2];exact Nat.le_trans hle (by decide)⟩
 have hqP:q.P=S.whole s.V.ps:=by rw[hP.P]
 refine run ?_;refine J.callp rfl rfl (fun w' M=>dagCheck q _ w' (K0.ext M.ext) (GrR.own (hP.ok hok) hP.cap hqs w' M)) ?_;refine run ?_;refine J.spn rfl rfl rfl (fun c5=>?_) (fun c5=>?_)
 ·have k1:¬S.okR s.V:=fun h=>c5 (by have:=h.2.1;unfold S.chkP at this;rw[←hqP]at this;exact this);rw[S.chkH_8 k1,S.al_8 k1];refine run ?_;refine J.nilGr 23 34 ?_;exact J.finG GrA.nil rfl GrP.nil sb
 refine run ?_;refine J.ifn rfl (fun c6=>?_) (fun c6=>?_)
 ·have k1:¬S.okR s.V:=fun h=>c6 (by have:=(hoi.1 h).2.2.2.1;rw[hP.m];exact this);rw[S.chkH_8 k1,S.al_8 k1];refine run ?_;refine J.nilGr 23 34 ?_;exact J.finG GrA.nil rfl GrP.nil sb
 have hhn:S.hdN q.P≤q.m:=S.numF_le _ _;refine run ?_;refine J.call rfl rfl (fun w' M=>ancHeads q _ w' (K0.ext M.ext) (GrR.own (hP.ok hok) hP.cap hqs w' M) c5) fun q2 hq2=>?_
 obtain⟨ha,hn,hc⟩:=q2;dsimp only at hq2⊢;refine run ?_;refine J.callp rfl rfl (fun w' M=>(RW.own' (a:=ha) w' M).elim fun _ k0=>eqIDs _ _ _ _ _ _ _ _ w' k0 (H.hr.ext M.ext) (by omega) (by omega)) ?_;refine run ?_;refine J.ifnot rfl (fun c7=>?_) (fun c7=>?_)
 ·have k1:¬S.okR s.V:=fun h=>of_decide_eq_false c7 (by have:=(hoi.1 h).2.2.2.2;rw[hqP];exact this.symm);rw[S.chkH_8 k1,S.al_8 k1];refine run ?_;refine J.nilGr 23 34 ?_;exact J.finG GrA.nil rfl GrP.nil sb
 have k1:S.okR s.V:=hoi.2 ⟨⟨by omega,by omega⟩,hgp,by unfold S.chkP;rw[←hqP];exact c5,by rw[←hP.m];exact c6,by have:=of_decide_eq_true c7;rw[←hqP];exact this.symm⟩;rw[S.chkH_0 k1,S.al_0 k1];refine run ?_;exact J.finG q rfl hP sb
end W
namespace W
open Go.RowKit G
theorem nil_all(TI TO:TypeId)(w:World):Sep (grE TI TO ⟨none,none,0,0,0,0,[],[]⟩) no w:=
 ⟨no,no,fun _ h=>h,fun _ h=>h,fun _ h=>h.elim,⟨GOwn.nil 0 w TO opC_len,fun b hb=>by cases hb⟩,no,no,fun _ h=>h,fun _ h=>h,fun _ h=>h.elim,trivial,no,no,fun _ h=>h,fun _ h=>h,fun _ h=>h.elim,⟨WOwn.nil 0 w TI .u8 32,fun b hb=>by cases hb⟩,trivial⟩
theorem nil_ent(TI TO:TypeId)(w:World):(Ent.all (grE TI TO ⟨none,none,0,0,0,0,[],[]⟩)).ok no w:=nil_all TI TO w
theorem nil_rep(TI TO:TypeId)(w:World):∀n:Nat,Sep (List.replicate n (Ent.all (grE TI TO ⟨none,none,0,0,0,0,[],[]⟩))) no w
 |0=>trivial
 |n+1=>⟨no,no,fun _ h=>h,fun _ h=>h,fun _ h=>h.elim,nil_ent TI TO w,nil_rep TI TO w n⟩
end W
namespace W
open Go.RowKit G
set_option maxRecDepth 20000
set_option maxHeartbeats 8000000
attribute [local irreducible] RS RX RY Code.wp bodyPost J Ent.blk Ent.iown Ent.wrow Ent.wown Ent.gown Ent.all Ent.emp
instance:Ents prog 103:=⟨.mk func103 (by kernel_rfl) rfl⟩
instance:Ents prog 94:=⟨.mk func94 (by kernel_rfl) rfl⟩
instance:Inf prog 72 3 56 [.slice none 0 0, .slice none 0 0, .int .i64 0]:=⟨TI.of (v:= .agg #[.slice none 0 0, .slice none 0 0, .int .i64 0]) (by kernel_rfl) rfl⟩
instance:SInf prog 72 [(0,1),(1,1),(2,1)]:=⟨_,underlying72,by kernel_rfl,by kernel_rfl⟩
instance:Siz prog 72 3:=⟨by kernel_rfl⟩
theorem shCheck{S0:Nat→Prop}(s:ShA)(TK:TypeId)(w:World)(K0:Kst w TK)(H:ShR S0 w s)(hL:ShL s):
  Calls prog 94 #[.agg (shC s).toArray] w (Ret w fun v _=>v= .int .i64 (S.chkH s.V)):=by
 refine J.enter 10 func94 rfl rfl ?_;refine run ?_;refine J.box rfl rfl rfl fun b1=>?_
 refine run ?_;refine J.call rfl rfl (fun w' M=>shWhole s _ w' (K0.ext M.ext) (H.ext M.ext) hL) fun q hq=>?_
 dsimp only[grE,List.cons_append,List.nil_append];refine run ?_;refine J.alloc rfl fun b3=>?_
 refine run ?_;exact J.fin rfl
theorem shFind{S0:Nat→Prop}(s:ShA)(x:List Int)(g:GrA)(w:World)(H:ShR S0 w s)(hx:Arr .u8 32 x)(hgp:S.goodPs s.V.ps)(h1:1≤s.pn)(hg:s.gs[S.resN s.V.ps x]? =some g):
  Calls prog 95 #[.agg (shC s).toArray, .agg (ints .u8 x).toArray] w (Ret w fun v _=>v= .tuple #[.int .i64 (S.resN s.V.ps x:Nat), .int .i64 (S.spotS g.m g.ids x:Nat), .bool (decide (S.inS g.m g.ids x))]):=by
 have P0:=H.pr;have hcp:=H.cap;have hll:s.V.ps.length=s.pn:=by rw[List.length_map,H.pr.len]
 obtain⟨r1,r2⟩:=S.res_lt (ps:=s.V.ps) (x:=x) (by omega);have G:=H.g hg;have hgP:=shAt hg;have hr:S.Rising g.m g.ids:=by have:=(hgp _ r2).2.1;rw[hgP]at this;exact this
 obtain⟨r,hr0⟩:=ex (S.resN s.V.ps x);rw[←hr0]at r1 r2 hg⊢;have hg2:s.gs[((r:Nat):Int).toNat]? =some g:=by rw[Int.toNat_natCast];exact hg
 have hcp2:=G.cap;refine J.enter 24 func95 rfl rfl ?_;refine run ?_;refine J.box rfl rfl rfl fun b1=>?_
 refine run ?_;refine J.box rfl rfl rfl fun b2=>?_
 refine run ?_;refine J.callp rfl rfl (fun w' M=>shNumber x (s.pn:Nat) hx ⟨by omega,by omega⟩ w') ?_;rw[←hll,←r1];refine run ?_;refine J.regionX [(0, .q),(1, .q),(2, .q),(3, .q),(4, .q),(5, .q),(6, .q),(7, .e),(8, .q),(9, .q),(10, .q),(11, .q),(12, .q)] mixed (by kernel_rfl) ?_;refine run ?_;refine J.callp rfl rfl (fun w' M=>bsID _ _ _ _ _ _ (G.ids.ext M.ext) hx hr (by omega)) ?_;refine run ?_;exact J.fin rfl
theorem shAll{S0:Nat→Prop}(s:ShA)(TK:TypeId)(w:World)(K0:Kst w TK)(H:ShR S0 w s)(hL:ShL s):
  Calls prog 57 #[.agg (shC s).toArray] w (Gv w (fun q:GrA=> .tuple #[.agg (grC q).toArray, .int .i64 (S.chkH s.V)]) (grE 23 34) (GrP (S.alP s.V).m (S.alP s.V).ids (S.alP s.V).ops)):=by
 refine J.enter 7 func57 rfl rfl ?_;refine run ?_;refine J.box rfl rfl rfl fun b1=>?_
 refine run ?_;refine J.alloc rfl fun b2=>?_
 refine run ?_;refine J.call rfl rfl (fun w' M=>shWhole s _ w' (K0.ext M.ext) (H.ext M.ext) hL) fun q hq=>?_
 dsimp only[grE,List.cons_append,List.nil_append];refine run ?_;exact J.finG q rfl hq sb
theorem shHeads{S0:Nat→Prop}(s:ShA)(TK:TypeId)(w:World)(K0:Kst w TK)(H:ShR S0 w s)(hL:ShL s):
  Calls prog 62 #[.agg (shC s).toArray] w (Gv w (fun q:Option Addr×Nat×Nat=> .tuple #[.slice q.1 q.2.1 q.2.2, .int .i64 (S.hdV s.V), .int .i64 (S.chkH s.V)]) (fun q=>[.wrow .u8 32 q.1 q.2.1 (S.hdL s.V)]) fun q=>q.2.1≤100):=by
 have hcp:=H.cap;refine J.enter 15 func62 rfl rfl ?_;refine run ?_;refine J.box rfl rfl rfl fun b1=>?_
 refine run ?_;refine J.callp rfl rfl (fun w' M=>shCheck s _ w' (K0.ext M.ext) (H.ext M.ext) hL) ?_;refine run ?_;refine J.ifn rfl (fun c1=>?_) (fun c1=>?_)
 ·obtain⟨k1,k2⟩:=S.chkH_ne c1;rw[k2,(S.hd_8 k1).1,(S.hd_8 k1).2];refine run ?_;refine J.nilW .u8 32 ?_;exact J.finG (none,0,0) rfl (Nat.zero_le _) (.cons_cons _ (List.nil_sublist _))
 have hok:=S.chkH_iff.1 c1;rw[c1,(S.hd_0 hok).1,(S.hd_0 hok).2];refine run ?_;refine J.regionR [.blk b1 (shC s) 72] [(0, .q),(1, .q),(3, .q),(4, .q),(2, .e),(5, .q),(6, .q),(7, .q)] mixed (by kernel_rfl) (by repeat(first|exact List.Sublist.refl _|refine List.Sublist.cons_cons _ ?_|refine List.Sublist.cons _ ?_)) ?_;refine run ?_;refine J.call rfl rfl (fun w' M=>cloneW _ _ _ _ _ (H.hr.ext M.ext) hcp.2.1 (by omega)) fun q hq=>?_
 refine run ?_;refine J.re (.wown 23 .u8 32 q.1 s.hn q.2 s.hs) (.wrow .u8 32 q.1 s.hn s.hs) (fun S w=>wown_wrow) ?_;exact J.finG (q.1,s.hn,q.2) rfl hcp.2.2.2 sb
theorem grAll_nil(n:Nat):(List.replicate n GrA.nil).map grAll=List.replicate n (.all (grE 23 34 ⟨none,none,0,0,0,0,[],[]⟩)):=by rw[List.map_replicate];rfl
theorem shNew(n:Int)(w:World):
  Calls prog 53 #[.int .i64 n] w (Gv w (fun q:ShA=> .tuple #[.agg (shC q).toArray, .int .i64 (S.nwE n)]) (fun q=>shE q) (ShK (S.nwS n))):=by
 refine J.enter 13 func53 rfl rfl ?_;refine run ?_;refine J.alloc rfl fun b2=>?_
 refine run ?_;refine J.spd rfl rfl rfl (fun c1=>?_) (fun c1=>?_)
 ·refine run ?_;refine J.nilWo 23 .u8 32 ?_;refine J.noA ?_;refine J.nilG (fun g:GrA=>grC g) 2 65 grC_len ?_;have e1:S.nwE n=2:=if_neg (by omega);have e2:S.nwS n=S.ShV.zero:=if_neg (by omega);rw[e1,e2];exact J.finG ShA.zero rfl ⟨rfl,fun g hg=>by cases hg⟩ sb
 refine run ?_;refine J.ifd rfl (fun c2=>?_) (fun c2=>?_)
 ·refine run ?_;refine J.nilWo 23 .u8 32 ?_;refine J.noA ?_;refine J.nilG (fun g:GrA=>grC g) 2 65 grC_len ?_;have e1:S.nwE n=2:=if_neg (by omega);have e2:S.nwS n=S.ShV.zero:=if_neg (by omega);rw[e1,e2];exact J.finG ShA.zero rfl ⟨rfl,fun g hg=>by cases hg⟩ sb
 have e1:S.nwE n=0:=if_pos (by omega);have e2:S.nwS n=S.madeS S.PG.nil n.toNat:=if_pos (by omega);obtain⟨N,rfl⟩:∃N:Nat,n=(N:Int):=⟨n.toNat,by omega⟩
 rw[Int.toNat_natCast]at e2;rw[e1,e2];refine run ?_;refine J.mkG (fun g:GrA=>grC g) GrA.nil grC_len rfl rfl rfl rfl fun b3=>?_
 refine run ?_;refine J.nilWo 23 .u8 32 ?_;refine J.newA ((List.replicate N GrA.nil).map grAll) ?_ (fun w=>by rw[grAll_nil];exact nil_rep _ _ w N);refine J.front (.gown (fun g:GrA=>grC g) 2 65 (some ⟨b3,0,none⟩) N N (List.replicate N GrA.nil)) ?_;refine J.finG ⟨some ⟨b3,0,none⟩,N,N,List.replicate N GrA.nil,none,0,0,[],0⟩ rfl ⟨?_,fun g hg=>?_⟩ sb
 ·rw[S.made_nil];unfold ShA.V;dsimp only;rw[List.map_replicate];rfl
 obtain rfl:=List.eq_of_mem_replicate hg;exact⟨fun z hz=>(by cases hz),fun z hz=>(by cases hz)⟩
end W
namespace S
open G
/-! ### ids by what is among them -/
def idG(n:Nat)(l:List Int):PG:=⟨n,l,List.replicate n OpV.zero⟩
theorem idG_has{n:Nat}{l x:List Int}{o:OpV}:(idG n l).has x o↔inS n l x∧o=OpV.zero:=by
 constructor
 ·rintro⟨i,hi,e1,e2⟩;have hi':i<n:=hi;refine⟨⟨i,hi',e1⟩,?_⟩;rw[←e2];show(List.replicate n OpV.zero).getD i OpV.zero=_;rw[getD_at (by rw[List.length_replicate];exact hi'),List.getElem_replicate]
 ·rintro⟨⟨i,hi,e1⟩,rfl⟩;refine⟨i,hi,e1,?_⟩;show(List.replicate n OpV.zero).getD i OpV.zero=_;rw[getD_at (by rw[List.length_replicate];exact hi),List.getElem_replicate]
theorem idG_good{n:Nat}{l:List Int}(h:l.length=32*n):(idG n l).good:=⟨h,List.length_replicate⟩
theorem idsG_ext{n k:Nat}{l q:List Int}(hl:l.length=32*n)(hq:q.length=32*k)(rl:Rising n l)(rq:Rising k q)(h:∀x,inS n l x↔inS k q x):n=k∧l=q:=by
 have e:idG n l=idG k q:=PG.ext_has (idG_good hl) (idG_good hq) rl rq fun x o=>by rw[idG_has,idG_has,h]
 exact⟨congrArg PG.m e,congrArg PG.ids e⟩
/-! ### heads -/
theorem hd_all{g:PG}(hg:g.fine):(hdI g).length=32*hdN g∧Rising (hdN g) (hdI g)∧∀y,inS (hdN g) (hdI g) y↔inS g.m g.ids y∧∀x u,g.has x u→¬inS u.n u.ids y:=by
 obtain⟨h1,h2,h3⟩:=sel_all (f:=hdF g.m g.ids g.ops) hg.good hg.rising g.m (Nat.le_refl _);refine⟨h1.1,h2,fun y=>?_⟩;have hop:opensS g.m g.ids g.ops:=fun i hi=>by
  intro j hj;exact hg.opens _ _ ⟨i,by rw[←hg.good.2];exact hi,rfl,rfl⟩ j hj
 have named:∀i,i<g.m→(i∈namI (prS g.m g.ids g.ops) g.ops.length↔∃x u,g.has x u∧inS u.n u.ids (idAt g.ids i)):=fun i hi=>by
  unfold namI;rw[List.mem_flatMap];constructor
  ·rintro⟨k,hk,hm⟩;have hk:=List.mem_range.1 hk;exact⟨idAt g.ids k,g.ops.getD k OpV.zero,⟨k,by rw[←hg.good.2];exact hk,rfl,rfl⟩,(mem_pr hg.rising (hop k hk) hi).1 hm⟩
  ·rintro⟨x,u,⟨k,hk,e1,e2⟩,hm⟩;have hk':k<g.ops.length:=by rw[hg.good.2];exact hk
   refine⟨k,List.mem_range.2 hk',(mem_pr hg.rising (hop k hk') hi).2 ?_⟩;rw[e2];exact hm
 refine(has_in (g:=selP (hdF g.m g.ids g.ops) g g.m)).trans ⟨fun⟨o,ho⟩=>?_,fun⟨⟨i,hi,e⟩,hn⟩=>?_⟩
 ·obtain⟨k,hk,hf,e,_⟩:=(h3 _ _).1 ho;have hf:=of_decide_eq_true hf;refine⟨⟨k,hk,e⟩,fun x u hu hi=>hf ((named k hk).2 ⟨x,u,hu,?_⟩)⟩;rw[e];exact hi
 ·refine⟨_,(h3 _ _).2 ⟨i,hi,decide_eq_true fun hm=>?_,e,rfl⟩⟩;obtain⟨x,u,hu,hin⟩:=(named i hi).1 hm;rw[e]at hin;exact hn x u hu hin
def keepF(o:OpV)(hs:List Int)(i:Nat):Bool:=decide (¬inS o.n o.ids (idAt hs i))
def kpN(o:OpV)(n:Nat)(hs:List Int):Nat:=numF (keepF o hs) n
def kpI(o:OpV)(n:Nat)(hs:List Int):List Int:=selF (keepF o hs) hs n
theorem kp_all{o:OpV}{n:Nat}{hs:List Int}(hl:hs.length=32*n)(hr:Rising n hs):(kpI o n hs).length=32*kpN o n hs∧Rising (kpN o n hs) (kpI o n hs)∧∀y,inS (kpN o n hs) (kpI o n hs) y↔inS n hs y∧¬inS o.n o.ids y:=by
 obtain⟨h1,h2,h3⟩:=sel_all (f:=keepF o hs) (g:=idG n hs) (idG_good hl) hr n (Nat.le_refl _);refine⟨h1.1,h2,fun y=>(has_in (g:=selP (keepF o hs) (idG n hs) n)).trans ⟨fun⟨u,hu⟩=>?_,fun⟨⟨i,hi,e⟩,hn⟩=>?_⟩⟩
 ·obtain⟨k,hk,hf,e,_⟩:=(h3 _ _).1 hu;have hf:=of_decide_eq_true hf;have e':idAt hs k=y:=e;rw[e']at hf;exact⟨⟨k,hk,e⟩,hf⟩
 ·refine⟨_,(h3 _ _).2 ⟨i,hi,decide_eq_true ?_,e,rfl⟩⟩;have e':idAt hs i=y:=e;show ¬inS o.n o.ids (idAt hs i);rw[e'];exact hn
theorem hd_add{g:PG}{o:OpV}(hl:g.ids.length=32*g.m)(h:addE g o=0):
  hdN (addP g o)=kpN o (hdN g) (hdI g)+1∧hdI (addP g o)=insW (kpI o (hdN g) (hdI g)) (spotS (kpN o (hdN g) (hdI g)) (kpI o (hdN g) (hdI g)) (idOf o)) (idOf o):=by
 obtain⟨hg,hn,hf,_,_,hh⟩:=add_fine hl h;obtain⟨_,_,_,hall,_⟩:=addE_zero.1 h;obtain⟨a1,a2,a3⟩:=hd_all hg;obtain⟨b1,b2,b3⟩:=hd_all hf;obtain⟨c1,c2,c3⟩:=kp_all (o:=o) a1 a2;have hx:=idOf_len o;have hk:(idG (kpN o (hdN g) (hdI g)) (kpI o (hdN g) (hdI g))).good:=idG_good c1;have hni:¬inS (kpN o (hdN g) (hdI g)) (kpI o (hdN g) (hdI g)) (idOf o):=fun k=>hn ((a3 _).1 ((c3 _).1 k).1).1;have p1:=(putP_good hk hx OpV.zero).1;have p2:=putP_rising hk c2 hx hni OpV.zero;refine idsG_ext b1 p1 b2 p2 fun y=>?_
 have e:inS (putP (idG (kpN o (hdN g) (hdI g)) (kpI o (hdN g) (hdI g))) (idOf o) OpV.zero).m (putP (idG (kpN o (hdN g) (hdI g)) (kpI o (hdN g) (hdI g))) (idOf o) OpV.zero).ids y↔inS (kpN o (hdN g) (hdI g)) (kpI o (hdN g) (hdI g)) y∨y=idOf o:=putP_in hk hx OpV.zero;refine(b3 y).trans (Iff.trans ?_ e.symm);rw[c3,a3];constructor
 ·rintro⟨h1,h2⟩;obtain⟨u,hu⟩:=has_in.1 h1;rcases(hh y u).1 hu with k|⟨k,_⟩
  ·exact .inl ⟨⟨has_in.2 ⟨u,k⟩,fun x v hv=>h2 x v ((hh x v).2 (.inl hv))⟩,h2 _ o ((hh _ o).2 (.inr ⟨rfl,rfl⟩))⟩
  ·exact .inr k
 ·rintro(⟨⟨h1,h2⟩,h3⟩|rfl)
  ·obtain⟨u,hu⟩:=has_in.1 h1;refine⟨has_in.2 ⟨u,(hh _ _).2 (.inl hu)⟩,fun x v hv=>?_⟩;rcases(hh x v).1 hv with k|⟨_,rfl⟩
   ·exact h2 x v k
   ·exact h3
  ·refine⟨has_in.2 ⟨o,(hh _ _).2 (.inr ⟨rfl,rfl⟩)⟩,fun x v hv=>?_⟩;rcases(hh x v).1 hv with k|⟨_,rfl⟩
   ·rintro⟨j,hj,e⟩;exact hn (e▸hg.opens x v k j hj)
   ·rintro⟨j,hj,e⟩;exact hn (e▸hall j hj)
/-! ### parts -/
theorem setP_getD{α:Type}{l:List α}{d y:α}{k i:Nat}(hk:k<l.length):(l.set k y).getD i d=if i=k then y else l.getD i d:=by
 rw[List.getD_eq_getElem?_getD,List.getElem?_set,List.getD_eq_getElem?_getD];by_cases e:k=i
 ·subst e;simp[hk]
 ·rw[if_neg e,if_neg fun h=>e h.symm]
theorem made_put{v:ShV}{o:OpV}(hv:okP v)(h:addE (whole v.ps) o=0):
  madeS (addP (whole v.ps) o) v.ps.length=⟨v.ps.set (resN v.ps (idOf o)) (putP (v.ps.getD (resN v.ps (idOf o)) PG.nil) (idOf o) o),kpN o (hdN (whole v.ps)) v.hs+1,insW (kpI o (hdN (whole v.ps)) v.hs) (spotS (kpN o (hdN (whole v.ps)) v.hs) (kpI o (hdN (whole v.ps)) v.hs) (idOf o)) (idOf o),v.ver+1⟩:=by
 obtain⟨hn,hgp,hc,h2,h3⟩:=hv;have hm:=whole_mrg hgp;have hl:=hm.good.1;obtain⟨hg,hni,hf,hm1,_,hh⟩:=add_fine hl h;obtain⟨e1,e2⟩:=hd_add hl h;obtain⟨r1,r2⟩:=res_lt (ps:=v.ps) (x:=idOf o) (by omega);have hx:=idOf_len o;rw[h3,h2];unfold madeS;rw[e1,e2,hm1];have ep:List.map (prtS (addP (whole v.ps) o) v.ps.length) (List.range v.ps.length)=v.ps.set (resN v.ps (idOf o)) (putP (v.ps.getD (resN v.ps (idOf o)) PG.nil) (idOf o) o):=by
  apply List.ext_getElem
  ·simp
  ·intro i hi hi';have hi2:i<v.ps.length:=by simpa using hi
   rw[List.getElem_map,List.getElem_range,←getD_at (d:=PG.nil) hi',setP_getD r2];obtain⟨q1,q2,q3⟩:=prt_all (n:=v.ps.length) (i:=i) hf.good hf.rising;have pi:=hgp i hi2;have pb:=prt_back hgp hm hi2;obtain⟨s1,s2,s3⟩:=prt_all (n:=v.ps.length) (i:=i) hm.good hm.rise;rw[pb]at s3;by_cases e:i=resN v.ps (idOf o)
   ·rw[if_pos e];subst e;have hnp:¬inS (v.ps.getD (resN v.ps (idOf o)) PG.nil).m (v.ps.getD (resN v.ps (idOf o)) PG.nil).ids (idOf o):=fun k=>hni ((in_part hgp (by omega)).2 k);refine PG.ext_has q1 (putP_good pi.1 hx o) q2 (putP_rising pi.1 pi.2.1 hx hnp o) fun y u=>?_
    rw[q3,hh,putP_has pi.1 hx,s3];constructor
    ·rintro⟨k|k,hr⟩
     ·exact .inl ⟨k,hr⟩
     ·exact .inr k
    ·rintro(⟨k,hr⟩|⟨rfl,rfl⟩)
     ·exact⟨.inl k,hr⟩
     ·exact⟨.inr ⟨rfl,rfl⟩,r1.symm⟩
   ·rw[if_neg e];refine PG.ext_has q1 pi.1 q2 pi.2.1 fun y u=>?_
    rw[q3,hh,s3];constructor
    ·rintro⟨k|⟨rfl,rfl⟩,hr⟩
     ·exact⟨k,hr⟩
     ·exact absurd (by omega) e
    ·rintro⟨k,hr⟩;exact⟨.inl k,hr⟩
 rw[ep];rfl
/-! ### what Put tells -/
open Classical in
noncomputable def puE(v:ShV)(o:OpV):Int:=if okR v then addE (whole v.ps) o else 8
open Classical in
noncomputable def puS(v:ShV)(o:OpV):ShV:=if okR v∧addE (whole v.ps) o=0 then madeS (addP (whole v.ps) o) v.ps.length else ShV.zero
open Classical in
noncomputable def puI(v:ShV)(o:OpV):List Int:=if okR v then addI (whole v.ps) o else List.replicate 32 0
section
variable{v:ShV}{o:OpV}
theorem pu_8(h:¬okR v):puE v o=8∧puS v o=ShV.zero∧puI v o=List.replicate 32 0:=⟨if_neg h,if_neg fun k=>h k.1,if_neg h⟩
theorem pu_no{e:Int}(h:okR v)(h1:addE (whole v.ps) o=e)(h2:e≠0):puE v o=e∧puS v o=ShV.zero∧puI v o=List.replicate 32 0:=by
 subst h1;refine⟨if_pos h,if_neg fun k=>h2 k.2,?_⟩;unfold puI;rw[if_pos h,(addP_no h2).2]
theorem pu_0(h:okR v)(h1:addE (whole v.ps) o=0):puE v o=0∧puS v o=madeS (addP (whole v.ps) o) v.ps.length∧puI v o=idOf o:=by
 refine⟨by unfold puE;rw[if_pos h,h1],if_pos ⟨h,h1⟩,?_⟩;unfold puI;rw[if_pos h,(addP_yes h1).2]
end
end S
namespace W
open Go.RowKit G
set_option maxRecDepth 20000
set_option maxHeartbeats 8000000
attribute [local irreducible] RS RX RY Code.wp bodyPost J Ent.blk Ent.iown Ent.wrow Ent.wown Ent.gown Ent.all Ent.emp
structure TsA where
 (i:Nat)(a:Option Addr)(c:Nat)(gs:List GrA)
theorem gsTake{s:ShA}{i:Nat}{g q:GrA}{gs:List GrA}(hg:s.gs[i]? =some g)(hq:q.P=g.P)(h:gs.map GrA.P=s.V.ps.take i):(gs++[q]).map GrA.P=s.V.ps.take (i+1):=by
 have e:s.V.ps[i]? =some g.P:=by show(s.gs.map GrA.P)[i]? =_;rw[List.getElem?_map,hg];rfl
 rw[List.map_append,h,List.take_add_one,e,Option.toList_some,List.map_cons,List.map_nil,hq]
theorem shZero{v:S.ShV}(h:v=S.ShV.zero):ShK v ShA.zero:=⟨h.symm,fun g hg=>by cases hg⟩
end W
end Go.Proofs.YtjjbdaiioociaaaGreatDoor
