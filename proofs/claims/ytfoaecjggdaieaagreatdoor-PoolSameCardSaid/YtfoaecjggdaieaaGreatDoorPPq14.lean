/-
  Part 14 of the lemmas of these laws: PoolSteps, PoolGoes, PoolSame.
-/
import Derived.Test.YtfoaecjggdaieaaGreatDoorPPq13
set_option linter.unusedVariables false
set_option linter.unusedSimpArgs false
open Go.Proofs.Tryz
namespace Go.Proofs.YtfoaecjggdaieaaGreatDoor
namespace W
open Go.RowKit G
set_option maxRecDepth 20000
set_option maxHeartbeats 8000000
attribute [local irreducible] RS RX RY Code.wp bodyPost J Ent.blk Ent.irow Ent.iown Ent.wrow Ent.wown Ent.grow Ent.gown Ent.all Ent.emp
instance:Ents prog 33:=⟨.mk func33 (by kernel_rfl) rfl⟩
instance:Ents prog 34:=⟨.mk func34 (by kernel_rfl) rfl⟩
instance:Ents prog 35:=⟨.mk func35 (by kernel_rfl) rfl⟩
instance:Ents prog 13:=⟨.mk func13 (by kernel_rfl) rfl⟩
theorem PlR.ownF{S0:Nat→Prop}{w0:World}{L:List Ent}{p:PlA}{v:S.PlV}{F2:Option Addr→Nat→Nat→List HdA→List Ent}{F3:Option Addr→Nat→Nat→List JdA→List Ent}{F4 F5 F6:Ent→List Ent}
  [R1:RRG L p.ja jbC 2 p.jn p.js][R2:GO L p.ha hdC 48 67 p.hn p.hc p.hs F2][R3:GO L p.da jdC 45 61 p.dn p.dc p.ds F3][R4:RE L (.all (p.js.map jbE)) F4][R5:RE L (.all (p.hs.map hdE)) F5][R6:RE L (.all (p.ds.map jdE)) F6](hp:PlQ v p)(w:World)(M:Mem S0 w0 L w):PlR (fun _=>True) w p:=by
 obtain⟨A,_,a⟩:=M.get R1.h;obtain⟨B,_,b⟩:=M.get (R2.h p.ha p.hn p.hc p.hs).same;obtain⟨C,_,c⟩:=M.get (R3.h p.da p.dn p.dc p.ds).same;obtain⟨D,_,d⟩:=M.get (R4.h (.all (p.js.map jbE))).same;obtain⟨E,_,e⟩:=M.get (R5.h (.all (p.hs.map hdE))).same;obtain⟨F,_,f⟩:=M.get (R6.h (.all (p.ds.map jdE))).same;have a:=grow_e a;have b:=(gown_e b).1;have c:=(gown_e c).1;refine⟨a.weaken fun _ _ _=>trivial,b.row.weaken fun _ _ _=>trivial,c.row.weaken fun _ _ _=>trivial,fun j hj=>?_,fun j hj=>?_,fun j hj=>?_,hp.c,b.capn,c.capn,hp.k.n⟩
 ·obtain⟨S',_,k⟩:=sep_mem (List.mem_map.2 ⟨j,hj,rfl⟩) (all_e d);exact(jbR_e (hp.k.j j hj) k).weak fun _ _=>trivial
 ·obtain⟨S',_,k⟩:=sep_mem (List.mem_map.2 ⟨j,hj,rfl⟩) (all_e e);exact(hdR_e (hp.k.h j hj) k).weak fun _ _=>trivial
 obtain⟨S',_,k⟩:=sep_mem (List.mem_map.2 ⟨j,hj,rfl⟩) (all_e f);exact(jdR_e (hp.k.d j hj) k).weak fun _ _=>trivial
theorem PlQ.hn{v:S.PlV}{p:PlA}(h:PlQ v p):v.hs.length=p.hn:=by
 rw[←h.k.V];exact(List.length_map _).trans h.l.2.1
theorem refPRun{S0 S1:Nat→Prop}(p:PlA)(a:Option Addr)(m c:Nat)(xs:List Int)(w:World)(R:PlR S0 w p)(D0:GRow inC 1 S1 w a m xs)(hm:m≤100000):
  Calls prog 13 #[.agg (plC p).toArray, .slice a m c] w (Gv w rnT rnE (RnP p.V xs)):=by
 have hl:=D0.len;have hhl:=R.hl;refine J.enter 40 func13 rfl rfl ?_;refine run ?_;refine J.box rfl rfl rfl fun b1=>?_
 refine J.alloc rfl fun b2=>?_
 refine run ?_;refine J.callp rfl rfl (fun w' M=>refPPicks p a m c xs w' (R.ext M.ext) (D0.ext M.ext) hm) ?_;refine run ?_;refine J.ifn rfl (fun c1=>?_) (fun c1=>?_)
 ·obtain⟨e,he⟩:=ex (S.runE p.V xs);refine run ?_;refine J.callp rfl rfl (fun w' M=>refPPicks p a m c xs w' (R.ext M.ext) (D0.ext M.ext) hm) ?_;refine run ?_;refine J.nilPf ?_;exact J.finG (PlA.zero,0,S.runE p.V xs) rfl (RnP.no rfl c1) sb
 obtain⟨hv,_,hpk⟩:=S.runE_in c1;have hvl:=(S.vld_iff p.V).1 hv;refine run ?_;refine J.call rfl rfl (fun w' M=>refPTwin p w' (R.ext M.ext)) fun q hq=>?_
 refine run ?_;refine J.alloc rfl fun b3=>?_
 refine run ?_;refine J.fact (.gown jbC 2 65 q.ja q.jn q.jc q.js) (fun _ _ h=>(gown_e h).1.len) fun hq1=>?_
 refine J.fact (.gown hdC 48 67 q.ha q.hn q.hc q.hs) (fun _ _ h=>(gown_e h).1.len) fun hq2=>?_
 refine J.fact (.gown jdC 45 61 q.da q.dn q.dc q.ds) (fun _ _ h=>(gown_e h).1.len) fun hq3=>?_
 refine J.fact (.gown jbC 2 65 q.ja q.jn q.jc q.js) (fun _ _ h=>(gown_e h).1.capn) fun hq4=>?_
 have hQ:PlQ p.V q:=⟨hq,hq4,hq1,hq2,hq3⟩
 refine J.re (.gown jbC 2 65 q.ja q.jn q.jc q.js) (.grow jbC 2 q.ja q.jn q.js) (fun _ _ h=>gown_grow h) ?_;refine J.drop (E:=[.blk b3 (plC q) 26, .grow jbC 2 q.ja q.jn q.js, .gown hdC 48 67 q.ha q.hn q.hc q.hs, .gown jdC 45 61 q.da q.dn q.dc q.ds, .all (q.js.map jbE), .all (q.hs.map hdE), .all (q.ds.map jdE), .blk b2 [.int .i64 0, .slice none 0 0, .slice none 0 0, .slice none 0 0] 26]) sb ?_;refine J.loop (A:=RnA) (fun r=>[(8, .int .i64 (r.n:Nat)),(9, .int .i64 (r.i:Nat))]) [20,21,22,23,24,25,26,27,28,29,30,31,32,33,34,35,36,37,38,39] (fun r=>[.blk b3 (plC r.p) 26, .grow jbC 2 r.p.ja r.p.jn r.p.js, .gown hdC 48 67 r.p.ha r.p.hn r.p.hc r.p.hs, .gown jdC 45 61 r.p.da r.p.dn r.p.dc r.p.ds, .all (r.p.js.map jbE), .all (r.p.hs.map hdE), .all (r.p.ds.map jdE), .blk b2 [.int .i64 0, .slice none 0 0, .slice none 0 0, .slice none 0 0] 26]) (fun r=>r.i≤m∧PlQ (S.runP p.V ((xs.take r.i).map Int.toNat)) r.p∧r.n=S.runN p.V ((xs.take r.i).map Int.toNat)∧r.n≤r.i) (fun r=>m - r.i) ⟨0,0,q⟩ (by kernel_rfl) ⟨Nat.zero_le _,hQ,rfl,Nat.le_refl _⟩ (fun r j hI=>?_);obtain⟨hi,hr,hn,hni⟩:=hI;have hrh:r.p.hn=p.hn:=by
  rw[←hr.hn,S.run_hs,hhl]
 refine run ?_;refine J.ifd rfl (fun d1=>?_) (fun d1=>?_)
 ·obtain⟨x,hx⟩:=D0.ex (i:=(r.i:Nat)) (by omega);have hx':xs[r.i]? =some x:=hx;have hxb:=hpk x (List.mem_of_getElem? hx');have hvr:S.Vld (S.runP p.V ((xs.take r.i).map Int.toNat)):=hvl.run fun k hk=>by
   obtain⟨y,hy,rfl⟩:=List.mem_map.1 hk;have:=hpk y (List.mem_of_mem_take hy);omega
  have hvp:S.vldP r.p.V:=by rw[hr.k.V];exact(S.vld_iff _).2 hvr
  have et:(xs.take (r.i+1)).map Int.toNat=(xs.take r.i).map Int.toNat++[x.toNat]:=by
   rw[List.take_add_one,hx',Option.toList_some,List.map_append];rfl
  have e1:S.runP p.V ((xs.take (r.i+1)).map Int.toNat)=S.stepP r.p.V x.toNat:=by rw[et,S.runP_snoc,hr.k.V]
  have e2:S.runN p.V ((xs.take (r.i+1)).map Int.toNat)=r.n+S.stepN r.p.V x.toNat:=by rw[et,S.runN_snoc,hn,hr.k.V]
  refine run ?_;refine J.regionX [(0, .q),(1, .q),(2, .q),(3, .q),(4, .q),(5, .e)] mixed (by kernel_rfl) ?_;refine run ?_;refine J.callp rfl rfl (fun w' M=>refPCan r.p x w' (PlR.ownF hr w' M) hvp (by omega)) ?_;refine run ?_;refine J.ifd rfl (fun d2=>?_) (fun d2=>?_)
  ·refine run ?_;refine J.regionX [(0, .q),(1, .q),(2, .q),(3, .q),(4, .q),(5, .e),(6, .g)] mixed (by kernel_rfl) ?_;refine run ?_;refine J.call rfl rfl (fun w' M=>refPDid r.p x w' (PlR.ownF hr w' M) hvp (by omega) d2) fun q2 hq2'=>?_
   refine run ?_;refine J.front (.blk b3 (plC q2) 26) ?_;refine J.drop (E:=[.blk b3 (plC q2) 26, .grow jbC 2 q2.ja q2.jn q2.js, .gown hdC 48 67 q2.ha q2.hn q2.hc q2.hs, .gown jdC 45 61 q2.da q2.dn q2.dc q2.ds, .all (q2.js.map jbE), .all (q2.hs.map hdE), .all (q2.ds.map jdE), .blk b2 [.int .i64 0, .slice none 0 0, .slice none 0 0, .slice none 0 0] 26]) sb ?_;refine J.next ⟨r.i+1,r.n+1,q2⟩ ⟨rfl,rfl,trivial⟩ (by kernel_rfl) ⟨by dsimp only;omega,?_,?_,by dsimp only;omega⟩ (by dsimp only;omega)
   ·dsimp only;rw[e1];unfold S.stepP;rw[if_pos d2];exact hq2'
   dsimp only;rw[e2];unfold S.stepN;rw[if_pos d2]
  refine run ?_;refine J.next ⟨r.i+1,r.n,r.p⟩ ⟨rfl,rfl,trivial⟩ (by kernel_rfl) ⟨by dsimp only;omega,?_,?_,by dsimp only;omega⟩ (by dsimp only;omega)
  ·dsimp only;rw[e1];unfold S.stepP;rw[if_neg d2,hr.k.V];exact hr
  dsimp only;rw[e2];unfold S.stepN;rw[if_neg d2];rfl
 rw[List.take_of_length_le (by omega)]at hr hn;refine run ?_;exact J.finG (r.p,r.n,0) rfl (RnP.yes c1 hr hn) sb
theorem refPStep1{S0:Nat→Prop}(p:PlA)(i:Int)(w:World)(R:PlR S0 w p):
  Calls prog 11 #[.agg (plC p).toArray, .int .i64 i] w (Gv w (fun q:PlA×Nat×Int=> .tuple #[.agg (plC q.1).toArray, .bool (decide ((0:Int)<((q.2.1:Nat):Int))), .int .i64 q.2.2]) rnE (RnP p.V [i])):=by
 refine J.enter 20 func11 rfl rfl ?_;refine run ?_;refine J.box rfl rfl rfl fun b1=>?_
 refine J.alloc rfl fun b2=>?_
 refine run ?_;refine J.b1V inC i (fun _=>rfl) rfl rfl rfl rfl fun b4=>?_
 refine run ?_;refine J.call rfl rfl (fun w' M=>(RG.own' (a:=some ⟨b4,0,none⟩) w' M).elim fun _ k0=>refPRun p (some ⟨b4,0,none⟩) 1 1 [i] w' (R.ext M.ext) k0 (by omega)) fun q hq=>?_
 refine run ?_;refine J.alloc rfl fun b5=>?_
 refine run ?_;exact J.finG q rfl hq sb
end W
namespace G
open Go.RowKit
section
variable{S0:Nat→Prop}{w0:World}{L:List Ent}{P:Program}{ops:Array Oper}{K:List Value→World→Prop}{rest:List (Oper×Kd)}{l:List Value}{m:Md}{d:Tmp}{ty t e:TypeId}{pos:String}{af:Array Edge}{kd:Kd}{α:Type}
theorem J.bnG{n sz by_:Nat}{parts:Array (Nat×Operand)}{zs vs:List Value}(f:α→List Value)(qs:List α)(hf:∀x,(f x).length=sz)[U:Und P t (.slice e)][I:Inf P e sz by_ zs]{l':Nat→List Value}(hk:okE m kd=true)(hv:(parts.toList.map Prod.snd).map (ev l)=vs)(hc:vs.flatMap (·.cells.toList)=qs.flatMap f)(hcs:∀v∈vs,v.cells.size=sz)
  (kk:∀b,J S0 w0 (.gown f sz e (some ⟨b,0,none⟩) n n qs::L) (RY S0 w0 m P ops K rest (l' b)))(hp:parts.toList=enumV 0 (parts.toList.map Prod.snd):=by rfl)(hl2:vs.length=n:=by rfl)(hq:qs.length=n:=by rfl)(hz:0<sz:=by decide)(hn:Nat.ble n 1000=true:=by rfl)(hz2:Nat.ble sz 1000=true:=by rfl)(h0:Nat.ble 1 n=true:=by rfl)
  (hl:∀b,l.set d (.slice (some ⟨b,0,none⟩) n n)=l' b:=by intro b;dsimp only[List.set]):J S0 w0 L (RY S0 w0 m P ops K ((⟨some d, .buildSlice t n parts,ty,pos,af,none⟩,kd)::rest) l):=
 J.eff hk fun w M K' hK => RS.buildSlice (vs := vs) (cs := qs.flatMap f) U.h I.h hz hn hz2 hp hv hl2 hc hcs h0 fun b w' e1 s1 x1 B => RS.nil (hK _ w' x1 (by
  rw [hl]
  exact kk b w' (M.new x1 (gown_blk (lst := qs) ⟨by subst e1; exact Nat.le_refl _, B⟩ hf rfl hq (by have := Nat.le_of_ble_eq_true hn; omega)))))
theorem run0 {X : World → Prop} {q : Prop} (k : q) (h : Hold q → J S0 w0 L X := by
 intro k
 repeat (first
  | refine J.thn ?_
  | refine J.sq ?_
  | refine J.block ?_
  | refine J.skip ?_
  | refine J.exit ?_
  | refine J.the ?_
  | refine J.ibe ?_
  | refine J.ibn ?_
  | refine J.ibx rfl ?_
  | refine J.ift rfl ?_
  | refine J.iff rfl ?_)
 exact k.out) : J S0 w0 L X := h ⟨k⟩
end
end G
namespace S
open G
theorem Vld.new{n k:Int}(h:newE n k=0):Vld (newV n k):=by
 unfold newV;rw[if_pos h];unfold newE at h;split at h
 ·cases h
 ·have hk:∀x∈List.replicate k.toNat HdV.zero,x=HdV.zero:=fun x hx=>(List.mem_replicate.1 hx).2;have ht:(List.replicate k.toNat HdV.zero).flatMap handL=[]:=List.flatMap_eq_nil_iff.2 fun x hx=>by rw[hk x hx];rfl
  have et:PlV.tk ⟨n,[],List.replicate k.toNat HdV.zero,[]⟩=[]:=by unfold PlV.tk;rw[ht];rfl
  refine⟨⟨by show 1≤n;omega,by show n≤8;omega,by show((0:Nat):Int)≤n;omega,?_,?_,Nat.zero_le _⟩,fun _ h=>(by cases h), .nil,fun x hx=>?_,fun _ h=>(by cases h), .nil,by rw[et];exact .nil,fun x hx=>by rw[et]at hx;cases hx⟩
  ·show 1≤(List.replicate _ _).length;rw[List.length_replicate];omega
  ·show(List.replicate _ _).length≤3;rw[List.length_replicate];omega
  ·rw[hk x hx];exact .inl ⟨rfl,⟨rfl,rfl⟩,judZ_zero⟩
theorem putE_in{v:PlV}{t:Int}(h:putE v t=0):vldP v∧TickP t∧¬overT v t∧¬(v.js.length:Int)=v.cap:=by
 unfold putE at h;split at h
 ·cases h
 ·split at h
  ·cases h
  ·split at h
   ·cases h
   ·split at h
    ·cases h
    ·exact⟨Classical.byContradiction fun k=>by contradiction,Classical.byContradiction fun k=>by contradiction,by assumption,by assumption⟩
theorem Vld.add{v:PlV}{t:Int}{b:List Int}(h:putE v t=0):Vld (addJ v t b):=by
 obtain⟨hv,h1,h2,h3⟩:=putE_in h;have hv:=(vld_iff v).1 hv;have hlt:∀x∈v.tk++v.jT,x<t:=fun x hx=>Classical.byContradiction fun k=>h2 ⟨x,hx,by omega⟩;have ej:PlV.jT (addJ v t b)=v.jT++[t]:=by unfold PlV.jT addJ;rw[List.map_append];rfl
 refine⟨?_,hv.d,hv.ds,hv.h,fun x hx=>?_,?_,hv.nd,fun x hx y hy=>?_⟩
 ·obtain⟨c1,c2,c3,c4⟩:=hv.c;refine⟨c1,c2,?_,c4⟩;show(((v.js++[(⟨t,b⟩:JbV)]).length:Nat):Int)≤v.cap;rw[List.length_append,List.length_singleton];omega
 ·rcases List.mem_append.1 hx with k|k
  ·exact hv.j x k
  ·rw[List.mem_singleton]at k;rw[k];exact h1
 ·rw[ej,List.pairwise_append];refine⟨hv.js,List.pairwise_singleton _ _,fun a ha y hy=>?_⟩;rw[List.mem_singleton]at hy;rw[hy];exact hlt a (List.mem_append_right _ ha)
 ·rw[ej]at hy;rcases List.mem_append.1 hy with k|k
  ·exact hv.lt x hx y k
  ·rw[List.mem_singleton]at k;rw[k];exact hlt x (List.mem_append_left _ hx)
def fndH(h:HdV):List JdV:=if h.s=1 then [ofJ h.jt h.b]else if h.s=2 then [h.j]else []
def jobJ(j:JbV):JdV:=ofJ j.t j.b
def allF(v:PlV):List JdV:=v.ds++(v.hs.flatMap fndH++v.js.map jobJ)
def wgtH(h:HdV):Nat:=if h.s=1 then 2 else if h.s=2 then 1 else 0
def wgtP(v:PlV):Nat:=3*v.js.length+(v.hs.map wgtH).sum
theorem fnd_len(h:HdV):(fndH h).length=(handL h).length:=by
 unfold fndH handL;split
 ·rfl
 ·split<;>rfl
theorem allF_len(v:PlV):(allF v).length=v.js.length+v.tk.length:=by
 unfold allF PlV.tk;rw[List.length_append,List.length_append,List.length_append,List.length_map,List.length_map];have:∀l:List HdV,(l.flatMap fndH).length=(l.flatMap handL).length:=by
  intro l
  induction l with
  |nil=>rfl
  |cons x l ih=>rw[List.flatMap_cons,List.flatMap_cons,List.length_append,List.length_append,ih,fnd_len]
 rw[this];omega
theorem ds_le(v:PlV):v.ds.length≤(allF v).length:=by unfold allF;rw[List.length_append];omega
theorem did_kept{v:PlV}{i:Nat}(h:Vld v)(hi:i<v.hs.length)(hc:canP v i):List.Perm (allF (didP v i)) (allF v)∧wgtP (didP v i)+1=wgtP v:=by
 have hp:=h.hand hi;obtain⟨A,B,e,hl,hs⟩:=spl_at HdV.zero hi;obtain⟨cap,js,H,ds⟩:=v;unfold didP;have e':H=A++stgP ⟨cap,js,H,ds⟩ i::B:=e;have sum_mid:∀x:HdV,((A++x::B).map wgtH).sum=wgtH x+((A.map wgtH).sum+(B.map wgtH).sum):=fun x=>by
  rw[List.map_append,List.map_cons,List.sum_append,List.sum_cons];omega
 have fm:∀x:HdV,(A++x::B).flatMap fndH=A.flatMap fndH++(fndH x++B.flatMap fndH):=fun x=>by rw[List.flatMap_append,List.flatMap_cons]
 generalize hg:stgP ⟨cap,js,H,ds⟩ i=g at hp hc e';rcases hc with⟨c0,c1⟩|c1|⟨c0,c1,c2⟩
 ·rw[hg]at c0;have w0:wgtH g=0:=by unfold wgtH;rw[if_neg (by omega),if_neg (by omega)]
  have f0:fndH g=[]:=by unfold fndH;rw[if_neg (by omega),if_neg (by omega)]
  rw[if_pos c0];cases js with
  |nil=>exact absurd c1 (by simp)
  |cons j js=>
   unfold allF wgtP;dsimp only at hs⊢;rw[hs,e',sum_mid,sum_mid,fm,fm,w0,f0];refine⟨?_,?_⟩
   ·refine List.Perm.append_left _ ?_;show List.Perm ((A.flatMap fndH++(jobJ j::B.flatMap fndH))++js.map jobJ) ((A.flatMap fndH++B.flatMap fndH)++jobJ j::js.map jobJ);refine(List.Perm.append_right _ List.perm_middle).trans ?_;exact List.perm_middle.symm
   ·show 3*(List.drop 1 (j::js)).length+(2+_)+1=3*(j::js).length+_;rw[List.drop_succ_cons,List.drop_zero,List.length_cons];omega
 ·rw[hg]at c1;have w0:wgtH g=2:=by unfold wgtH;rw[if_pos c1]
  have f0:fndH g=[ofJ g.jt g.b]:=by unfold fndH;rw[if_pos c1]
  rw[if_neg (by omega),if_pos c1];unfold allF wgtP;dsimp only at hs⊢;rw[hs,e',sum_mid,sum_mid,fm,fm,w0,f0];refine⟨.refl _,?_⟩;show 3*js.length+(1+_)+1=_;omega
 ·rw[hg]at c0 c1;have c3:g.s=2:=by have:=hand_s hp;omega
  have w0:wgtH g=1:=by unfold wgtH;rw[if_neg (by omega),if_pos c3]
  have f0:fndH g=[g.j]:=by unfold fndH;rw[if_neg (by omega),if_pos c3]
  rw[if_neg c0,if_neg c1];unfold allF wgtP;dsimp only at hs⊢;rw[hs,e',sum_mid,sum_mid,fm,fm,w0,f0];refine⟨?_,?_⟩
  ·refine(List.Perm.append_right _ (insL_perm _ _)).trans ?_;show List.Perm (g.j::(ds++((A.flatMap fndH++B.flatMap fndH)++js.map jobJ))) (ds++((A.flatMap fndH++(g.j::B.flatMap fndH))++js.map jobJ));refine List.perm_middle.symm.trans (List.Perm.append_left _ ?_);exact(List.Perm.append_right _ List.perm_middle).symm
  ·show 3*js.length+(0+_)+1=_;omega
theorem step_kept{v:PlV}{i:Nat}(h:Vld v)(hi:i<v.hs.length):List.Perm (allF (stepP v i)) (allF v)∧wgtP (stepP v i)+stepN v i=wgtP v:=by
 unfold stepP stepN;split
 ·exact did_kept h hi (by assumption)
 ·exact⟨.refl _,rfl⟩
theorem run_kept:∀ {l:List Nat} {v:PlV},Vld v→(∀i∈l,i<v.hs.length)→List.Perm (allF (runP v l)) (allF v)∧wgtP (runP v l)+runN v l=wgtP v
 |[],_,_,_=>⟨.refl _,rfl⟩
 |i::l,v,h,k=>by
  have hi:=k i (List.mem_cons_self ..);obtain⟨h1,h2⟩:=step_kept h hi;obtain⟨h3,h4⟩:=run_kept (l:=l) (v:=stepP v i) (h.step hi) fun j hj=>by rw[step_hs];exact k j (List.mem_cons_of_mem _ hj)
  refine⟨h3.trans h1,?_⟩;show wgtP (runP (stepP v i) l)+(stepN v i+runN (stepP v i) l)=_;omega
def stepA(x:Nat×List Nat)(i:Nat):Nat×List Nat:=
 match x.2.getD i 0 with
 |0=>if x.1=0 then x else(x.1 - 1,x.2.set i 1)
 |1=>(x.1,x.2.set i 2)
 |_=>(x.1,x.2.set i 0)
def runA:Nat×List Nat→List Nat→Nat×List Nat
 |x,[]=>x
 |x,i::l=>runA (stepA x i) l
def absP(v:PlV):Nat×List Nat:=(v.js.length,v.hs.map fun h=>h.s.toNat)
theorem abs_step{v:PlV}{i:Nat}(h:Vld v)(hi:i<v.hs.length)(hd:v.ds.length<60):absP (stepP v i)=stepA (absP v) i:=by
 have hp:=hand_s (h.hand hi);have hg:(v.hs.map fun h=>h.s.toNat).getD i 0=(stgP v i).s.toNat:=by
  unfold stgP;rw[List.getD_eq_getElem?_getD,List.getElem?_map,List.getElem?_eq_getElem hi,List.getD_eq_getElem?_getD,List.getElem?_eq_getElem hi];rfl
 unfold stepA stepP absP;dsimp only;rw[hg];rcases hp with c|c|c
 ·rw[c];show _=(if v.js.length=0 then(v.js.length,v.hs.map fun h=>h.s.toNat)else(v.js.length - 1,(v.hs.map fun h=>h.s.toNat).set i 1));by_cases hj:v.js.length=0
  ·rw[if_pos hj,if_neg (by unfold canP;omega)]
  ·rw[if_neg hj,if_pos (by unfold canP;omega)];unfold didP;rw[if_pos c,List.map_set,List.length_drop];rfl
 ·rw[c,if_pos (by unfold canP;omega)];unfold didP;rw[if_neg (by omega),if_pos c,List.map_set];rfl
 ·rw[c,if_pos (by unfold canP;omega)];unfold didP;rw[if_neg (by omega),if_neg (by omega),List.map_set];rfl
theorem abs_run:∀ {l:List Nat} {v:PlV},Vld v→(∀i∈l,i<v.hs.length)→(allF v).length<60→absP (runP v l)=runA (absP v) l
 |[],_,_,_,_=>rfl
 |i::l,v,h,k,hf=>by
  have hi:=k i (List.mem_cons_self ..);have hk:=step_kept h hi;show absP (runP (stepP v i) l)=runA (stepA (absP v) i) l;rw[abs_run (l:=l) (h.step hi) (fun j hj=>by rw[step_hs];exact k j (List.mem_cons_of_mem _ hj)) (by rw[hk.1.length_eq];exact hf),abs_step h hi (Nat.lt_of_le_of_lt (ds_le v) hf)]
def turns(w:Nat):List Nat:=(List.range 60).map (· % w)
theorem turns1:∀n,n<9→∀a,a<3→runA (n,[a]) (turns 1)=(0,[0]):=by decide+kernel
theorem turns2:∀n,n<9→∀a,a<3→∀b,b<3→runA (n,[a,b]) (turns 2)=(0,[0,0]):=by decide+kernel
theorem turns3:∀n,n<9→∀a,a<3→∀b,b<3→∀c,c<3→runA (n,[a,b,c]) (turns 3)=(0,[0,0,0]):=by decide+kernel
theorem alone:∀n,n<9→runA (n,[0]) (List.replicate (3*n) 0)=(0,[0]):=by decide+kernel
theorem turns_all{w n:Nat}{l:List Nat}(hl:l.length=w)(hw:1≤w∧w≤3)(hn:n<9)(h3:∀x∈l,x<3):runA (n,l) (turns w)=(0,List.replicate w 0):=by
 match l,hl with
 |[],hl=>simp at hl;omega
 |[a],hl=>
  obtain rfl:w=1:=by simpa using hl.symm
  exact turns1 n hn a (h3 a (by simp))
 |[a,b],hl=>
  obtain rfl:w=2:=by simpa using hl.symm
  exact turns2 n hn a (h3 a (by simp)) b (h3 b (by simp))
 |[a,b,c],hl=>
  obtain rfl:w=3:=by simpa using hl.symm
  exact turns3 n hn a (h3 a (by simp)) b (h3 b (by simp)) c (h3 c (by simp))
 |_::_::_::_::_,hl=>simp at hl;omega
theorem abs_lt{v:PlV}(h:Vld v):∀x∈(absP v).2,x<3:=fun x hx=>by
 obtain⟨y,hy,rfl⟩:=List.mem_map.1 hx;have:=hand_s (h.h y hy);show y.s.toNat<3;omega
def idleP(v:PlV):Prop:=v.js=[]∧∀x∈v.hs,x.s=0
theorem idle_of{v:PlV}(h:Vld v){w:Nat}(ha:absP v=(0,List.replicate w 0)):idleP v:=by
 have h1:v.js.length=0:=congrArg Prod.fst ha;have h2:v.hs.map (fun h=>h.s.toNat)=List.replicate w 0:=congrArg Prod.snd ha;refine⟨List.length_eq_zero_iff.1 h1,fun x hx=>?_⟩;have hm:x.s.toNat∈v.hs.map fun h=>h.s.toNat:=List.mem_map.2 ⟨x,hx,rfl⟩;rw[h2]at hm;have h3:=(List.mem_replicate.1 hm).2;have:=hand_s (h.h x hx);omega
theorem idle_all{v:PlV}(h:idleP v):allF v=v.ds∧wgtP v=0:=by
 have h1:v.hs.flatMap fndH=[]:=List.flatMap_eq_nil_iff.2 fun x hx=>by unfold fndH;rw[h.2 x hx];rfl
 have h2:(v.hs.map wgtH).sum=0:=by
  have:∀l:List HdV,(∀x∈l,x.s=0)→(l.map wgtH).sum=0:=by
   intro l
   induction l with
   |nil=>intro _;rfl
   |cons x l ih=>
    intro hl;rw[List.map_cons,List.sum_cons,ih fun y hy=>hl y (List.mem_cons_of_mem _ hy)];unfold wgtH;rw[hl x (List.mem_cons_self ..)];rfl
  exact this _ h.2
 unfold allF wgtP;rw[h1,h2,h.1];simp
theorem same_list{l m:List JdV}(hp:List.Perm l m)(hl:(l.map JdV.t).Pairwise (· < ·))(hm:(m.map JdV.t).Pairwise (· < ·)):l=m:=by
 rw[List.pairwise_map]at hl hm;exact hp.eq_of_pairwise (fun a b _ _ h1 h2=>absurd h1 (by omega)) hl hm
def exQ0:PlV:=⟨3,[],[HdV.zero,HdV.zero],[]⟩
def exQ1:PlV:=⟨3,[⟨4,[]⟩],[HdV.zero,HdV.zero],[]⟩
def exQ2:PlV:=⟨3,[],[HdV.zero,⟨1,4,[],JdV.zero⟩],[]⟩
def exQ3:PlV:=⟨3,[],[HdV.zero,⟨2,0,[],ofJ 4 []⟩],[]⟩
def exQ4:PlV:=⟨3,[],[HdV.zero,HdV.zero],[ofJ 4 []]⟩
theorem newE_ok{n k:Int}(h:1≤n∧n≤8∧1≤k∧k≤3):newE n k=0:=by unfold newE;rw[if_neg (by omega)]
theorem exq_new:newE 3 2=0∧newV 3 2=exQ0:=by
 have h:newE 3 2=0:=newE_ok (by decide);exact⟨h,by unfold newV;rw[if_pos h];rfl⟩
theorem exq_put:putE exQ0 4=0∧putV exQ0 4 []=exQ1:=by
 have hv:vldP exQ0:=(vld_iff _).2 (by have:=Vld.new exq_new.1;rwa[exq_new.2]at this)
 have h : putE exQ0 4 = 0 := putE_0 hv (by decide) (fun ⟨x, hx, _⟩ => by
  have e : exQ0.tk ++ exQ0.jT = [] := rfl
  rw [e] at hx
  cases hx) (by decide)
 exact⟨h,(put_yes h).trans rfl⟩
theorem exq1_vld:Vld exQ1:=by
 have:=Vld.add (b:=[]) exq_put.1;exact this
theorem step_yes{v:PlV}{i:Nat}(h:canP v i):stepP v i=didP v i∧stepN v i=1:=⟨if_pos h,if_pos h⟩
theorem step_no{v:PlV}{i:Nat}(h:¬canP v i):stepP v i=v∧stepN v i=0:=⟨if_neg h,if_neg h⟩
theorem exq_s1:stepP exQ1 1=exQ2∧stepN exQ1 1=1:=by
 have h:=step_yes (v:=exQ1) (i:=1) (.inl ⟨rfl,by decide⟩);refine⟨h.1.trans ?_,h.2⟩;unfold didP;rw[if_pos (show(stgP exQ1 1).s=0 from rfl)];rfl
theorem exq_s2:stepP exQ2 1=exQ3∧stepN exQ2 1=1:=by
 have h:=step_yes (v:=exQ2) (i:=1) (.inr (.inl rfl));refine⟨h.1.trans ?_,h.2⟩;unfold didP;rw[if_neg (by decide),if_pos (show(stgP exQ2 1).s=1 from rfl)];rfl
theorem exq_s3:stepP exQ3 1=exQ4∧stepN exQ3 1=1:=by
 have h:=step_yes (v:=exQ3) (i:=1) (.inr (.inr ⟨by decide,by decide,by decide⟩));refine⟨h.1.trans ?_,h.2⟩;unfold didP;rw[if_neg (by decide),if_neg (by decide)];rfl
theorem exq_s4 : stepP exQ4 1 = exQ4 ∧ stepN exQ4 1 = 0 := step_no (by
 rintro (⟨_, h⟩ | h | ⟨h, _⟩)
 ·exact absurd h (by decide)
 ·exact absurd h (by decide)
 ·exact h rfl)
theorem exq_run:runE exQ1 [1,1,1,1]=0∧runV exQ1 [1,1,1,1]=exQ4∧runM exQ1 [1,1,1,1]=3:=by
 have h : runE exQ1 [1, 1, 1, 1] = 0 := runE_0 ((vld_iff _).2 exq1_vld) (by decide) (fun x hx => by
  have e : x = 1 := by simpa using hx
  rw [e]
  decide)
 obtain⟨h1,h2⟩:=run_yes h;refine⟨h,h1.trans ?_,h2.trans ?_⟩
 ·show runP exQ1 [1,1,1,1]=_;unfold runP;rw[exq_s1.1];unfold runP;rw[exq_s2.1];unfold runP;rw[exq_s3.1];unfold runP;rw[exq_s4.1];rfl
 ·show runN exQ1 [1,1,1,1]=_;unfold runN;rw[exq_s1.1,exq_s1.2];unfold runN;rw[exq_s2.1,exq_s2.2];unfold runN;rw[exq_s3.1,exq_s3.2];unfold runN;rw[exq_s4.1,exq_s4.2];rfl
theorem exq_vld4:Vld exQ4:=by
 have h:=exq_run;have k:=runE_in h.1
 have := exq1_vld.run (l := [1, 1, 1, 1]) (fun i hi => by
  have e : i = 1 := by simpa using hi
  rw [e]
  decide)
 rw[(run_yes h.1).1]at h;rwa[show runP exQ1 [1,1,1,1]=exQ4 from h.2.1]at this
theorem exq_take:takeE exQ4 4=0∧takeJ exQ4 4=ofJ 4 []:=by
 have hf:=first_sp exq_vld4.c2 (n:=4) (i:=0) (by decide) rfl;have h:takeE exQ4 4=0:=takeE_0 ((vld_iff _).2 exq_vld4) hf.1;refine⟨h,(take_yes h).2.trans ?_⟩;rw[hf.2];rfl
def filJ:Nat→List (List Int)→List JbV
 |_,[]=>[]
 |k,b::l=>⟨(k:Nat),b⟩::filJ (k+1) l
theorem filJ_len:∀(l:List (List Int)) (k:Nat),(filJ k l).length=l.length
 |[],_=>rfl
 |_::l,k=>by rw[filJ,List.length_cons,List.length_cons,filJ_len l]
theorem filJ_snoc(b:List Int):∀(l:List (List Int)) (k:Nat),filJ k (l++[b])=filJ k l++[⟨((k+l.length:Nat):Int),b⟩]
 |[],_=>rfl
 |c::l,k=>by
  rw[List.cons_append,filJ,filJ,filJ_snoc b l,List.length_cons,show k+1+l.length=k+(l.length+1)by omega];rfl
theorem filJ_t:∀(l:List (List Int)) (k:Nat),∀x∈filJ k l,(k:Int)≤x.t∧x.t<((k+l.length:Nat):Int)
 |[],_,x,h=>by cases h
 |b::l,k,x,h=>by
  rw[filJ]at h;rcases List.mem_cons.1 h with rfl|h
  ·dsimp only;rw[List.length_cons];omega
  ·have:=filJ_t l (k+1) x h;rw[List.length_cons];omega
def filV(w:Nat)(l:List (List Int)):PlV:=⟨8,filJ 0 l,List.replicate w HdV.zero,[]⟩
section
variable{w:Nat}{l:List (List Int)}
theorem filV_new(hw:1≤w∧w≤3):newE 8 w=0∧newV 8 w=filV w []:=by
 have h:newE 8 w=0:=newE_ok (by omega);exact⟨h,by unfold newV;rw[if_pos h];rfl⟩
theorem filV_hands:(filV w l).hs.flatMap handL=[]∧(filV w l).hs.flatMap fndH=[]:=
 ⟨List.flatMap_eq_nil_iff.2 fun x hx=>by rw[(List.mem_replicate.1 hx).2];rfl,List.flatMap_eq_nil_iff.2 fun x hx=>by rw[(List.mem_replicate.1 hx).2];rfl⟩
theorem filV_tk:(filV w l).tk=[]:=by unfold PlV.tk;rw[filV_hands.1];rfl
theorem filV_put(h:Vld (filV w l))(hl:l.length<8)(b:List Int):putE (filV w l) (l.length:Nat)=0∧putV (filV w l) (l.length:Nat) b=filV w (l++[b]):=by
 have e : putE (filV w l) (l.length : Nat) = 0 := putE_0 ((vld_iff _).2 h) ⟨by omega, by omega⟩ (fun ⟨x, hx, hle⟩ => by
  rw [filV_tk, List.nil_append] at hx
  obtain ⟨y, hy, rfl⟩ := List.mem_map.1 hx
  have := filJ_t l 0 y hy
  omega) (by
  show ¬ ((filJ 0 l).length : Int) = 8
  rw [filJ_len]
  omega)
 refine⟨e,(put_yes e).trans ?_⟩;unfold addJ filV;rw[filJ_snoc,Nat.zero_add]
theorem filV_vld(hw:1≤w∧w≤3)(hl:l.length≤8):∀i,i≤l.length→Vld (filV w (l.take i))
 |0,_=>by
  have:=Vld.new (filV_new hw).1;rw[(filV_new hw).2]at this;exact this
 |i+1,hi=>by
  have ih:=filV_vld hw hl i (by omega);have hlen:(l.take i).length=i:=List.length_take_of_le (by omega);have h:=filV_put ih (by omega) l[i];have:=Vld.add (b:=l[i]) h.1;rw[←put_yes (b:=l[i]) h.1,h.2]at this;rwa[List.take_add_one,List.getElem?_eq_getElem (by omega),Option.toList_some]
theorem filV_all(hw:1≤w∧w≤3)(hl:l.length≤8):Vld (filV w l):=by
 have:=filV_vld (l:=l) hw hl l.length (Nat.le_refl _);rwa[List.take_length]at this
def filF(l:List (List Int)):List JdV:=(filJ 0 l).map jobJ
theorem filF_len:(filF l).length=l.length:=by unfold filF;rw[List.length_map,filJ_len]
theorem filV_allF:allF (filV w l)=filF l:=by
 unfold allF;rw[filV_hands.2];rfl
theorem filV_wgt:wgtP (filV w l)=3*l.length:=by
 unfold wgtP;have:∀n:Nat,((List.replicate n HdV.zero).map wgtH).sum=0:=fun n=>by
  induction n with
  |zero=>rfl
  |succ n ih=>rw[List.replicate_succ,List.map_cons,List.sum_cons,ih];rfl
 show 3*(filJ 0 l).length+((List.replicate w HdV.zero).map wgtH).sum=_;rw[filJ_len,this];rfl
theorem filV_abs:absP (filV w l)=(l.length,List.replicate w 0):=by
 unfold absP filV;dsimp only;rw[filJ_len,List.map_replicate];rfl
theorem fil_end(hw:1≤w∧w≤3)(hl:l.length≤8){ps:List Nat}(hp:∀i∈ps,i<w)(hi:idleP (runP (filV w l) ps)):(runP (filV w l) ps).ds=filF l∧runN (filV w l) ps=3*l.length:=by
 have hv:=filV_all hw hl;have hh:(filV w l).hs.length=w:=List.length_replicate;obtain⟨h1,h2⟩:=run_kept hv (l:=ps) fun i hi=>by rw[hh];exact hp i hi
 have hr:=hv.run (l:=ps) fun i hi=>by rw[hh];exact hp i hi
 obtain⟨g1,g2⟩:=idle_all hi;rw[g1,filV_allF]at h1;rw[g2,filV_wgt]at h2;refine⟨same_list h1 hr.ds ?_,by omega⟩;have hj:=hv.js;have e:(filF l).map JdV.t=PlV.jT (filV w l):=by
  unfold filF PlV.jT filV;rw[List.map_map];rfl
 rw[e];exact hj
theorem fil_small(hl:l.length≤8){ps:List Nat}(hw:1≤w∧w≤3)(hp:∀i∈ps,i<w):(allF (runP (filV w l) ps)).length=l.length:=by
 have hh:(filV w l).hs.length=w:=List.length_replicate;rw[(run_kept (filV_all hw hl) (l:=ps) fun i hi=>by rw[hh];exact hp i hi).1.length_eq,filV_allF,filF_len]
theorem fil_turns(hw:1≤w∧w≤3)(hl:l.length≤8){ps:List Nat}(hp:∀i∈ps,i<w):idleP (runP (filV w l) (ps++turns w)):=by
 have hv:=filV_all hw hl;have hh:(filV w l).hs.length=w:=List.length_replicate;have ht:∀i∈turns w,i<w:=fun i hi=>by
  obtain⟨k,_,rfl⟩:=List.mem_map.1 hi;exact Nat.mod_lt _ (by omega)
 have hr:=hv.run (l:=ps) fun i hi=>by rw[hh];exact hp i hi
 have hs:=fil_small hl hw hp;have hrh:(runP (filV w l) ps).hs.length=w:=by rw[run_hs,hh]
 have hrr:=hr.run (l:=turns w) fun i hi=>by rw[hrh];exact ht i hi
 rw[runP_app];refine idle_of (w:=w) hrr ?_;rw[abs_run hr (fun i hi=>by rw[hrh];exact ht i hi) (by omega)];have hn:(runP (filV w l) ps).js.length≤l.length:=by rw[←hs,allF_len];omega
 exact turns_all (by rw[List.length_map,hrh]) hw (by omega) (abs_lt hr)
theorem fil_alone(hl:l.length≤8):idleP (runP (filV 1 l) (List.replicate (3*l.length) 0)):=by
 have hv:=filV_all (w:=1) (by omega) hl;have ht:∀i∈List.replicate (3*l.length) 0,i<(filV 1 l).hs.length:=fun i hi=>by
  rw[(List.mem_replicate.1 hi).2];show 0<(List.replicate 1 HdV.zero).length;rw[List.length_replicate];omega
 refine idle_of (w:=1) (hv.run ht) ?_;rw[abs_run hv ht (by rw[filV_allF,filF_len];omega),filV_abs];exact alone l.length (by omega)
end
end S
namespace W
open Go.RowKit G
set_option maxRecDepth 20000
set_option maxHeartbeats 8000000
attribute [local irreducible] RS RX RY Code.wp bodyPost J Ent.blk Ent.irow Ent.iown Ent.wrow Ent.wown Ent.grow Ent.gown Ent.all Ent.emp
instance:Ents prog 22:=⟨.mk func22 (by kernel_rfl) rfl⟩
instance:Ents prog 19:=⟨.mk func19 (by kernel_rfl) rfl⟩
instance:Ents prog 20:=⟨.mk func20 (by kernel_rfl) rfl⟩
theorem intC1(x:Int):∀v∈[Value.int .i64 x, .int .i64 x, .int .i64 x, .int .i64 x],v.cells.size=1:=fun v hv=>by
 simp only[List.mem_cons,List.not_mem_nil,or_false,or_self]at hv;subst hv;rfl
theorem PlQ.jn{v:S.PlV}{p:PlA}(h:PlQ v p):v.js.length=p.jn:=by
 rw[←h.k.V];exact(List.length_map _).trans h.l.1
theorem PlQ.dn{v:S.PlV}{p:PlA}(h:PlQ v p):v.ds.length=p.dn:=by
 rw[←h.k.V];exact(List.length_map _).trans h.l.2.2
theorem plAlive(TK:TypeId)(w:World)(K0:Kst w TK):
  Calls prog 15 #[] w (Ret w fun v _=>v= .bool true):=by
 refine J.enter 74 func15 rfl rfl ?_;refine run ?_;refine J.call rfl rfl (fun w' M=>poolNew 3 2 w') fun u1 hu1=>?_
 obtain⟨u1,e1⟩:=u1;obtain⟨hu1,he1⟩:=hu1;dsimp only at hu1 he1⊢;subst he1;rw[S.exq_new.1];rw[S.exq_new.2]at hu1;refine run ?_;refine J.alloc rfl fun b1=>?_
 refine run ?_
 refine J.call rfl rfl (fun w' M => by
  have := poolPut u1 ⟨4, none, 0, 0, []⟩ TK w' (K0.ext M.ext) (PlR.own hu1 w' M) ⟨⟨Nat.le_refl _, Nat.zero_le _⟩, (IRow.nil : IRow .u8 no w' none 0 [])⟩
  rwa [hu1.V] at this) fun u2 hu2 => ?_
 obtain⟨u2,e2⟩:=u2;obtain⟨hu2,he2⟩:=hu2;dsimp only at hu2 he2⊢;subst he2;rw[S.exq_put.1];rw[S.exq_put.2]at hu2;refine run ?_;refine J.alloc rfl fun b2=>?_
 refine run ?_;refine J.bnG inC [1,1,1,1] (fun _=>rfl) rfl rfl rfl (intC1 1) fun b3=>?_
 refine run ?_
 refine J.call rfl rfl (fun w' M => (RG.own' (a := some ⟨b3, 0, none⟩) w' M).elim fun _ k0 => by
  have := poolRun u2 (some ⟨b3, 0, none⟩) 4 4 [1, 1, 1, 1] TK w' (K0.ext M.ext) (PlR.own hu2 w' M) k0 (by omega)
  rwa [hu2.V] at this) fun u3 hu3 => ?_
 obtain⟨u3,n3,e3⟩:=u3;obtain⟨hu3,hn3,he3⟩:=hu3;dsimp only at hu3 hn3 he3⊢;subst hn3 he3;rw[S.exq_run.1,S.exq_run.2.2];rw[S.exq_run.2.1]at hu3;refine run ?_;refine J.alloc rfl fun b4=>?_
 refine run ?_
 refine J.call rfl rfl (fun w' M => by
  have := poolTake u3 4 TK w' (K0.ext M.ext) (PlR.ownF hu3 w' M)
  rwa [hu3.k.V] at this) fun u4 hu4 => ?_
 obtain⟨u4,z4,e4⟩:=u4;obtain⟨hp4,hj4,hk4,he4⟩:=hu4;dsimp only at hp4 hj4 hk4 he4⊢;subst he4;rw[S.exq_take.1];rw[S.exq_take.2]at hj4;refine run ?_;refine J.alloc rfl fun b5=>?_
 refine J.alloc rfl fun b6=>?_
 have g1:(0:Nat)=u3.jn:=hu3.jn;have g2:(1:Nat)=u3.dn:=hu3.dn;have g3:z4.t=4:=congrArg S.JdV.t hj4;have g4:z4.v=2:=congrArg S.JdV.v hj4;refine run ?_;refine J.spe rfl rfl rfl (fun _=>?_) (fun c=>absurd (by rw[←g1];rfl) c);refine run ?_;refine J.spe rfl rfl rfl (fun _=>?_) (fun c=>absurd (by rw[←g2];rfl) c);refine run ?_;refine J.spe rfl rfl rfl (fun _=>?_) (fun c=>absurd g3 c);refine run ?_;exact J.fin (congrArg _ (by rw[g4];rfl))
end W
end Go.Proofs.YtfoaecjggdaieaaGreatDoor
