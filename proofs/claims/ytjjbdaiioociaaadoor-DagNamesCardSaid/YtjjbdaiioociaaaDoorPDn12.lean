/-
  Part 12 of the lemmas of these laws: DagNames.
-/
import Derived.Test.YtjjbdaiioociaaaDoorPDn11
set_option linter.unusedVariables false
set_option linter.unusedSimpArgs false
open Go.Proofs.Tryd
namespace Go.Proofs.YtjjbdaiioociaaaDoor
namespace W
open Go.RowKit G
set_option maxRecDepth 20000
set_option maxHeartbeats 8000000
attribute [local irreducible] RS RX RY Code.wp bodyPost J Ent.blk Ent.iown Ent.wrow Ent.wown Ent.gown Ent.all Ent.emp
instance:Ents prog 26:=⟨.mk func26 (by kernel_rfl) rfl⟩
instance:Ents prog 30:=⟨.mk func30 (by kernel_rfl) rfl⟩
structure UnA where
 (i:Nat)(q:GrA)
theorem uni_ok{a b:S.PG}(ha:∀o∈a.ops,o.ok)(hb:∀i,(b.ops.getD i S.OpV.zero).ok):∀i,∀o∈(S.uniN a b i).ops,o.ok
 |0=>ha
 |i+1=>fun o ho=>by
  by_cases h:S.inS (S.uniN a b i).m (S.uniN a b i).ids (S.idAt b.ids i)
  ·rw[S.uniN_yes h]at ho;exact uni_ok ha hb i o ho
  rw[S.uniN_no h]at ho;have ho:o∈(S.uniN a b i).ops.take _++b.ops.getD i S.OpV.zero::(S.uniN a b i).ops.drop _:=ho;rcases List.mem_append.1 ho with k|k
  ·exact uni_ok ha hb i o (List.mem_of_mem_take k)
  rcases List.mem_cons.1 k with e|k
  ·rw[e];exact hb i
  exact uni_ok ha hb i o (List.mem_of_mem_drop k)
theorem uniE_e{a b:S.PG}(h:S.eqE a b≠0):S.uniE a b=S.eqE a b:=by
 by_cases c:S.chkP a=0
 ·rw[S.eqE_2 c]at h⊢;exact(S.uniE_2 c h).1
 rw[S.eqE_1 c];exact(S.uniE_1 c).1
theorem eqE_both{a b:S.PG}(h:S.eqE a b=0):S.chkP a=0∧S.chkP b=0:=by
 have ca:S.chkP a=0:=Classical.byContradiction fun c=>c ((S.eqE_1 c).symm.trans h);exact⟨ca,(S.eqE_2 ca).symm.trans h⟩
theorem dagEqual{S0 S1:Nat→Prop}(g h:GrA)(TK:TypeId)(w:World)(K0:Kst w TK)(G:GrR S0 w g)(H:GrR S1 w h):
  Calls prog 11 #[.agg (grC g).toArray, .agg (grC h).toArray] w (Ret w fun v _=>v= .tuple #[.bool (S.eqB g.P h.P), .int .i64 (S.eqE g.P h.P)]):=by
 have D0:=G.ids;have D1:=H.ids;have hcp:=G.cap;have hcp1:=H.cap;refine J.enter 24 func11 rfl rfl ?_;refine run ?_;refine J.box rfl rfl rfl fun b1=>?_
 refine J.box rfl rfl rfl fun b2=>?_
 refine run ?_;refine J.b2Gr g h rfl rfl rfl fun b3=>?_
 refine J.callp rfl rfl (fun w' M=>(RG.own' (a:=some ⟨b3,0,none⟩) w' M).elim fun _ k0=>dagChecks _ g h _ w' (K0.ext M.ext) k0 (G.ext M.ext) (H.ext M.ext)) ?_;refine run ?_;refine J.ifn rfl (fun c1=>?_) (fun c1=>?_)
 ·refine run ?_;refine J.fin ?_;rw[S.eqB_no c1]
 refine run ?_;refine J.callp rfl rfl (fun w' M=>eqIDs _ _ _ _ _ _ _ _ w' (D0.ext M.ext) (D1.ext M.ext) (by omega) (by omega)) ?_;refine run ?_;refine J.spd rfl rfl rfl (fun c2=>?_) (fun c2=>?_)
 rotate_left
 ·refine run ?_;refine J.fin ?_;rw[S.eqB_yes c1,c1,show decide (S.eqP g.P h.P)=false from decide_eq_false fun e=>c2 e.1]
 refine run ?_;refine J.callp rfl rfl (fun w' M=>eqOps g h w' (G.ext M.ext) (H.ext M.ext)) ?_;refine run ?_;refine J.fin ?_;rw[S.eqB_yes c1,c1,show decide (S.eqP g.P h.P)=decide (g.ops=h.ops)from decide_eq_decide.2 ⟨fun e=>e.2,fun e=>⟨c2,e⟩⟩]
theorem dagUnion{S0 S1:Nat→Prop}(g h:GrA)(TK:TypeId)(w:World)(K0:Kst w TK)(G:GrR S0 w g)(H:GrR S1 w h)(hsz:S.chkP g.P=0→S.chkP h.P=0→∀i,i≤h.m→(S.uniN g.P h.P i).m≤61):
  Calls prog 10 #[.agg (grC g).toArray, .agg (grC h).toArray] w (Gv w (fun q:GrA=> .tuple #[.agg (grC q).toArray, .int .i64 (S.uniE g.P h.P)]) (grE 24 35) (GrP (S.uniP g.P h.P).m (S.uniP g.P h.P).ids (S.uniP g.P h.P).ops)):=by
 have D0:=G.ids;have G0:=G.ops;have D1:=H.ids;have G1:=H.ops;have hl:=G.len;have hl1:=H.len;have hcp:=G.cap;have hcp1:=H.cap;have hlen:=D0.len;have hlen1:=D1.len;have nil:S.uniE g.P h.P≠0→GrP (S.uniP g.P h.P).m (S.uniP g.P h.P).ids (S.uniP g.P h.P).ops GrA.nil:=fun c=>by
  rw[S.uniP_no c];exact GrP.nil
 refine J.enter 98 func10 rfl rfl ?_;refine run ?_;refine J.box rfl rfl rfl fun b1=>?_
 refine J.box rfl rfl rfl fun b2=>?_
 refine J.alloc rfl fun b4=>?_
 refine run ?_;refine J.b2Gr g h rfl rfl rfl fun b3=>?_
 refine J.callp rfl rfl (fun w' M=>(RG.own' (a:=some ⟨b3,0,none⟩) w' M).elim fun _ k0=>dagChecks _ g h _ w' (K0.ext M.ext) k0 (G.ext M.ext) (H.ext M.ext)) ?_;refine run ?_;refine J.ifn rfl (fun c1=>?_) (fun c1=>?_)
 ·refine run ?_;have he:=uniE_e c1;refine J.nilGr 24 35 ?_;refine J.finG GrA.nil ?_ (nil (by rw[he];exact c1)) ?_
  ·rw[he];rfl
  unfold grE GrA.nil;repeat(first|exact List.nil_sublist _|refine List.Sublist.cons_cons _ ?_|refine List.Sublist.cons _ ?_)
 obtain⟨ca,cb⟩:=eqE_both c1;have hza:=S.chkG_zero.1 (show S.chkG g.m g.ids g.ops=0 from ca);have hzb:=S.chkG_zero.1 (show S.chkG h.m h.ids h.ops=0 from cb);have hrisa:=hza.2.2.2.1;have hrisb:=hzb.2.2.2.1;have hsz:=hsz ca cb;have hgoodg:g.P.good:=⟨hlen,hza.2.1.symm⟩
 refine run ?_;refine J.loopS (A:=Int) (fun p=>[(27, .int .i64 p)]) [5,7,8,9,10,28,29,30,31,32,33,34,35,36,37,38,39,40,41,42,43,44,45,46,47,48,49,50,51,52,53,54] (fun p=>(0≤p∧p≤h.m)∧∀i,i<p.toNat→S.inS g.m g.ids (S.idAt h.ids i)→g.ops.getD (S.ixS g.m g.ids (S.idAt h.ids i)) S.OpV.zero=h.ops.getD i S.OpV.zero) (fun p=>h.m - p.toNat) 0 (by kernel_rfl) ⟨by omega,fun i hi=>by omega⟩ (fun p j hI=>?_);obtain⟨h1,hI⟩:=hI;refine run ?_;refine J.ifd rfl (fun c2=>?_) (fun c2=>?_)
 ·have next:∀ {i:Nat},i<(p+1).toNat→(S.inS g.m g.ids (S.idAt h.ids p.toNat)→g.ops.getD (S.ixS g.m g.ids (S.idAt h.ids p.toNat)) S.OpV.zero=h.ops.getD p.toNat S.OpV.zero)→S.inS g.m g.ids (S.idAt h.ids i)→g.ops.getD (S.ixS g.m g.ids (S.idAt h.ids i)) S.OpV.zero=h.ops.getD i S.OpV.zero:=fun {i} hi k=>by
   rcases Nat.lt_or_ge i p.toNat with e|e
   ·exact hI i e
   obtain rfl:i=p.toNat:=by omega
   exact k
  refine run ?_;refine J.alloc rfl fun b8=>?_
  refine run ?_;refine J.callp rfl rfl (fun w' M=>dagFind g _ w' (D0.ext M.ext) (D1.elt_arr (by omega)) hrisa hcp.2.2.1) ?_;refine run ?_;refine J.regionX [(0, .q),(1, .q),(2, .q),(3, .q),(4, .q),(5, .q),(6, .q),(7, .q),(8, .q),(9, .q),(10, .q),(11, .q),(12, .e),(13, .q),(14, .q)] mixed (by kernel_rfl) ?_;refine run ?_;refine J.spd rfl rfl rfl (fun c3=>?_) (fun c3=>?_)
  rotate_left
  ·refine run ?_;exact J.nextS (p+1) ⟨rfl,trivial⟩ (by kernel_rfl) ⟨by omega,fun i hi=>next hi fun k=>absurd k c3⟩ (by omega)
  have hsx:=S.spotS_ix hrisa c3;have hix:=(S.ix_in c3).1;rw[←hsx]at hix;obtain⟨z,hzz⟩:=G0.ex (i:=(S.spotS g.m g.ids (elt 32 h.ids p.toNat):Nat)) (by omega);obtain⟨y,hyy⟩:=G1.ex (i:=p) (by omega);have R:=G.op hzz;have R1:=H.op hyy;have hzo:=GrA.opAt hzz;have hyo:=GrA.opAt hyy;rw[Int.toNat_natCast,hsx]at hzo;have hse:=S.sameO_eq (a:=z.o) (b:=y.o) R.row.len R1.row.len;refine run ?_;refine J.callp rfl rfl (fun w' M=>dagSame z y w' (R.ext M.ext) (R1.ext M.ext)) ?_;refine run ?_;refine J.ifnot rfl (fun c4=>?_) (fun c4=>?_)
  ·have c4:=of_decide_eq_false c4;refine run ?_;have he:=S.uniE_3 ca cb ⟨p.toNat,show p.toNat<h.m by omega,c3,fun e=>c4 (hse.2 (by rw[←hzo,←hyo];exact e))⟩;refine J.nilGr 24 35 ?_;refine J.finG GrA.nil ?_ (nil (by rw[he];decide)) ?_
   ·rw[he];rfl
   unfold grE GrA.nil;repeat(first|exact List.nil_sublist _|refine List.Sublist.cons_cons _ ?_|refine List.Sublist.cons _ ?_)
  have c4:=hse.1 (of_decide_eq_true c4);refine run ?_;exact J.nextS (p+1) ⟨rfl,trivial⟩ (by kernel_rfl) ⟨by omega,fun i hi=>next hi fun _=>by rw[hyo,←c4];exact hzo⟩ (by omega)
 have hnc:¬S.clash g.P h.P:=fun⟨i,hi,k1,k2⟩=>k2 (hI i (by have:i<h.m:=hi;omega) k1);refine run ?_;refine J.call rfl rfl (fun w' M=>cloneW _ _ _ _ w' (D0.ext M.ext) hcp.1 (by omega)) fun q hq=>?_
 refine run ?_;refine J.alloc rfl fun b11=>?_
 refine run ?_;refine J.noA (J.nilG opC 11 35 opC_len ?_);refine J.drop (E:=[.gown opC 11 35 none 0 0 [], .all [], .blk b11 [.slice q.1 g.m q.2, .slice none 0 0] 41, .wown 24 .u8 32 q.1 g.m q.2 g.ids, .blk b4 [.slice none 0 0, .slice none 0 0] 41, .blk b2 (grC h) 41, .blk b1 (grC g) 41]) sb ?_;refine J.loop (A:=GtA) (fun p=>[(62, .int .i64 (p.n:Nat))]) [13,63,64,65,66,67,68,69,70,71,72,73] (fun p=>[.gown opC 11 35 p.a p.n p.c p.zs, .all (p.zs.map (opE 24)), .blk b11 [.slice q.1 g.m q.2, .slice p.a p.n p.c] 41, .wown 24 .u8 32 q.1 g.m q.2 g.ids, .blk b4 [.slice none 0 0, .slice none 0 0] 41, .blk b2 (grC h) 41, .blk b1 (grC g) 41]) (fun p=>p.n≤g.n∧p.zs.map OpA.o=g.ops.take p.n∧∀z∈p.zs,z.o.n≤z.pc) (fun p=>g.n - p.n) ⟨0,none,0,[]⟩ (by kernel_rfl) ⟨Nat.zero_le _,rfl,fun z hz=>(by cases hz)⟩ (fun p j2 hI=>?_);obtain⟨hI1,hI2,hI3⟩:=hI;refine run ?_;refine J.ifd rfl (fun c5=>?_) (fun c5=>?_)
 ·obtain⟨z,hzz⟩:=G0.ex (i:=(p.n:Nat)) (by omega);have R:=G.op hzz;have hzz':=hzz;rw[Int.toNat_natCast]at hzz';have hzo:=GrA.opAt hzz';refine run ?_;refine J.alloc rfl fun b13=>?_
  refine run ?_;refine J.regionX [(0, .q),(1, .q),(2, .q),(3, .e),(4, .e),(5, .g),(6, .q),(7, .g)] mixed (by kernel_rfl) ?_;refine run ?_;refine J.call rfl rfl (fun w' M=>dagTwin z w' (R.ext M.ext)) fun u hu=>?_
  refine J.b1G opC ⟨z.o,u.1,u.2⟩ opC_len rfl rfl rfl fun bb=>?_
  refine J.apG rfl rfl RG.own' opC_one fun a' c'=>?_
  refine run ?_;refine J.snocA (p.zs.map (opE 24)) (.wown 24 .u8 32 u.1 z.o.n u.2 z.o.ids) ?_;refine J.drop (E:=[.gown opC 11 35 a' (p.n+1) c' (p.zs++[(⟨z.o,u.1,u.2⟩:OpA)]), .all (p.zs.map (opE 24)++[.wown 24 .u8 32 u.1 z.o.n u.2 z.o.ids]), .blk b11 [.slice q.1 g.m q.2, .slice a' (p.n+1) c'] 41, .wown 24 .u8 32 q.1 g.m q.2 g.ids, .blk b4 [.slice none 0 0, .slice none 0 0] 41, .blk b2 (grC h) 41, .blk b1 (grC g) 41]) sb ?_;refine J.re (.all (p.zs.map (opE 24)++[.wown 24 .u8 32 u.1 z.o.n u.2 z.o.ids])) (.all ((p.zs++[(⟨z.o,u.1,u.2⟩:OpA)]).map (opE 24))) (fun _ _ h=>by rw[List.map_append];exact h) ?_
  exact J.next ⟨p.n + 1, a', c', p.zs ++ [⟨z.o, u.1, u.2⟩]⟩ ⟨rfl, trivial⟩ (by kernel_rfl) ⟨by dsimp only; omega, by dsimp only; rw [List.map_append, hI2, List.take_add_one, S.op_at (by omega), hzo]; rfl, fun y hy => by
   rcases List.mem_append.1 hy with h | h
   ·exact hI3 y h
   rw [List.mem_singleton] at h; subst h; exact hu⟩ (by dsimp only; omega)
 have hpn:p.n=g.n:=by omega
 refine run ?_;refine J.loop (A:=UnA) (fun u=>[(77, .int .i64 (u.i:Nat))]) [14,15,78,79,80,81,82,83,84,85,86,87,88,89,90,91,92,93] (fun u=>[.gown opC 11 35 u.q.oa u.q.n u.q.oc u.q.zs, .all (u.q.zs.map (opE 24)), .blk b11 (grC u.q) 41, .wown 24 .u8 32 u.q.ia u.q.m u.q.ic u.q.ids, .blk b4 [.slice none 0 0, .slice none 0 0] 41, .blk b2 (grC h) 41, .blk b1 (grC g) 41]) (fun u=>u.i≤h.m∧GrP (S.uniN g.P h.P u.i).m (S.uniN g.P h.P u.i).ids (S.uniN g.P h.P u.i).ops u.q) (fun u=>h.m - u.i) ⟨0,⟨q.1,p.a,g.m,p.n,q.2,p.c,g.ids,p.zs⟩⟩ (by kernel_rfl) ⟨Nat.zero_le _,⟨rfl,rfl,by dsimp only[S.uniN];omega,by show p.zs.map OpA.o=_;rw[hI2,List.take_of_length_le (by omega)];rfl,hI3⟩⟩ (fun u j3 hU=>?_);obtain⟨hU1,hU2⟩:=hU;have hug:=S.uniN_good (a:=g.P) (b:=h.P) hgoodg hrisa hlen1 u.i hU1;have hus:=hsz u.i hU1;have hun:u.q.n=u.q.m:=by have:=hU2.n;have:=hU2.m;have:=hug.1.2;omega
 have hum:u.q.m≤61:=by have:=hU2.m;omega
 have huok:=hU2.ok (uni_ok (a:=g.P) (b:=h.P) G.opz H.zok u.i);have hur:S.Rising u.q.m u.q.ids:=by rw[hU2.m,hU2.ids];exact hug.2.1
 refine run ?_;refine J.ifd rfl (fun c6=>?_) (fun c6=>?_)
 ·obtain⟨z,hz⟩:=G1.ex (i:=(u.i:Nat)) (by omega);have R:=H.op hz;have hz':=hz;rw[Int.toNat_natCast]at hz';have hzo:=GrA.opAt hz';refine run ?_;refine J.alloc rfl fun b15=>?_
  refine run ?_;refine J.regionX [(0, .q),(1, .q),(2, .q),(3, .q),(4, .q),(5, .q),(6, .q),(7, .e),(8, .q),(9, .q),(10, .c),(11, .g)] mixed (by kernel_rfl) ?_;refine run ?_;by_cases hin:S.inS u.q.m u.q.ids (elt 32 h.ids u.i)
  ·refine J.callp rfl rfl (fun w' M=>dagPutIn (S1:=S0) u.q _ z w' (GrR.own huok hU2.cap (by omega) w' M) (D1.elt_arr (by omega)) hur hin) ?_;refine run ?_;have hin2:S.inS (S.uniN g.P h.P u.i).m (S.uniN g.P h.P u.i).ids (S.idAt h.P.ids u.i):=by rw[←hU2.m,←hU2.ids];exact hin
   exact J.next ⟨u.i+1,u.q⟩ ⟨rfl,trivial⟩ (by kernel_rfl) ⟨by dsimp only;omega,by rw[S.uniN_yes hin2];exact hU2⟩ (by dsimp only;omega)
  have hin2:¬S.inS (S.uniN g.P h.P u.i).m (S.uniN g.P h.P u.i).ids (S.idAt h.P.ids u.i):=by rw[←hU2.m,←hU2.ids];exact hin
  have hno:=S.uniN_no hin2;have hus2:=hsz (u.i+1) (by omega);have hm1:(S.uniN g.P h.P (u.i+1)).m=(S.uniN g.P h.P u.i).m+1:=by rw[hno];rfl
  refine J.call rfl rfl (fun w' M=>dagPut u.q _ z w' (GrR.own huok hU2.cap (by omega) w' M) (D1.elt_arr (by omega)) hur hin (R.ext M.ext) hun (by have:=hU2.m;omega)) fun v hv=>?_
  dsimp only[grE,List.cons_append,List.nil_append];refine run ?_;have hv2:GrP (S.uniN g.P h.P (u.i+1)).m (S.uniN g.P h.P (u.i+1)).ids (S.uniN g.P h.P (u.i+1)).ops v:=by
   rw[hno];rw[hU2.m,hU2.ids,hU2.ops]at hv;have e:h.P.ops.getD u.i S.OpV.zero=z.o:=hzo;rw[e];exact hv
  refine J.front (.wown 24 .u8 32 v.ia v.m v.ic v.ids) ?_;refine J.front (.blk b11 (grC v) 41) ?_;refine J.front (.all (v.zs.map (opE 24))) ?_;refine J.front (.gown opC 11 35 v.oa v.n v.oc v.zs) ?_;exact J.next ⟨u.i+1,v⟩ ⟨rfl,trivial⟩ (by kernel_rfl) ⟨by dsimp only;omega,hv2⟩ (by dsimp only;omega)
 have hui:u.i=h.m:=by omega
 rw[hui]at hU2;have hum2:u.q.m=(S.uniN g.P h.P h.P.m).m:=hU2.m;refine run ?_;refine J.ifd rfl (fun c7=>?_) (fun c7=>?_)
 ·refine run ?_;have he:=S.uniE_4 ca cb hnc (by omega);refine J.nilGr 24 35 ?_;refine J.finG GrA.nil ?_ (nil (by rw[he];decide)) ?_
  ·rw[he];rfl
  unfold grE GrA.nil;repeat(first|exact List.nil_sublist _|refine List.Sublist.cons_cons _ ?_|refine List.Sublist.cons _ ?_)
 refine run ?_;have he:=S.uniE_0 ca cb hnc (by omega);have hu2:GrP (S.uniP g.P h.P).m (S.uniP g.P h.P).ids (S.uniP g.P h.P).ops u.q:=by rw[S.uniP_yes he];exact hU2
 refine J.finG u.q ?_ hu2 ?_
 ·rw[he]
 unfold grE;repeat(first|exact List.nil_sublist _|refine List.Sublist.cons_cons _ ?_|refine List.Sublist.cons _ ?_)
theorem rgTake{α:Type}{S0:Nat→Prop}{w0:World}{L:List Ent}{f:α→List Value}{sz n:Nat}{a:Option Addr}{lst:List α}(h:RG S0 w0 L f sz a n lst)(p c:Nat)(hp:p≤n)(hc:p≤c):RG S0 w0 L f sz (subA a 0 sz c) p (lst.take p):=by
 have:=h.sub 0 p c hp (Nat.zero_le _) hc;simpa using this
theorem GrP.sz{P:S.PG}{q:GrA}(h:GrP P.m P.ids P.ops q)(hs:P.good∧P.m≤60):q.m≤70∧q.n≤70:=by
 have:=h.m;have:=h.n;have:=hs.1.2;omega
theorem GrP.P{P:S.PG}{q:GrA}(h:GrP P.m P.ids P.ops q):q.P=P:=by
 unfold GrA.P;rw[h.m,h.ids,h.ops]
theorem put_ok{a:S.PG}{x:List Int}{o:S.OpV}(ha:∀u∈a.ops,u.ok)(ho:o.ok):∀u∈(S.putP a x o).ops,u.ok:=fun u hu=>by
 have hu:u∈a.ops.take _++o::a.ops.drop _:=hu;rcases List.mem_append.1 hu with k|k
 ·exact ha u (List.mem_of_mem_take k)
 rcases List.mem_cons.1 k with e|k
 ·rw[e];exact ho
 exact ha u (List.mem_of_mem_drop k)
theorem add_ok{a:S.PG}{o:S.OpV}(ha:∀u∈a.ops,u.ok)(ho:o.ok):∀u∈(S.addP a o).ops,u.ok:=by
 by_cases h:S.addE a o=0
 ·rw[(S.addP_yes h).1];exact put_ok ha ho
 rw[(S.addP_no h).1];exact fun u hu=>(by cases hu)
theorem nil_size:S.PG.nil.good∧S.PG.nil.m≤60:=⟨S.nil_good,Nat.zero_le _⟩
theorem lst_made{l:List S.OpV}(h:S.lstE l=0):l.length≤60∧∃g,S.mkN l l.length=some g∧S.lstP l=g:=by
 have h60:¬60<l.length:=fun c=>by rw[S.lstE_4 c]at h;exact absurd h (by decide)
 have hv:S.verL l=0:=Classical.byContradiction fun c=>(S.lstE_v h60 c).2 h;cases hm:S.mkN l l.length with
 |none=>rw[S.lstE_14 h60 hv hm]at h;exact absurd h (by decide)
 |some g=>exact⟨by omega,g,rfl,S.lstP_yes h hm⟩
theorem lst_ok{l:List S.OpV}(hl:∀o∈l,o.ok):∀u∈(S.lstP l).ops,u.ok:=by
 by_cases h:S.lstE l=0
 ·obtain⟨_,g,h2,h3⟩:=lst_made h;rw[h3];exact mk_ok hl (Nat.le_refl _) h2
 rw[S.lstP_no h];exact fun u hu=>(by cases hu)
theorem lst_size(l:List S.OpV):(S.lstP l).good∧(S.lstP l).m≤60:=by
 by_cases h:S.lstE l=0
 ·obtain⟨h1,g,h2,h3⟩:=lst_made h;rw[h3];have:=S.mkN_good h2;exact⟨this.1,by rw[this.2.2.1];exact h1⟩
 rw[S.lstP_no h];exact nil_size
end W
namespace S
open G
def gxX:List Int:=[114,98,67,49,49,105,2,103,116,6,228,162,149,81,200,12,154,138,190,161,79,203,38,124,216,152,32,52,195,238,3,132]
def gxY:List Int:=[21,212,110,188,78,185,227,55,177,78,225,72,97,254,14,46,152,40,250,61,168,204,12,221,182,216,80,19,27,92,162,20]
def gxA:OpV:=⟨0,1,1,0,0,0,0,0,0,[], .empty, .empty⟩
def gxB:OpV:=⟨0,1,1,0,0,0,0,0,1,gxX, .empty, .empty⟩
def gxO:OpV:=⟨4,1,1,0,0,0,376595462,88407594,0,[], .empty, .empty⟩
def gxU:OpV:=⟨16,1,1,0,0,0,480380063,274837419,1,gxX, .empty, .empty⟩
theorem gx_x:sha (encS gxO)=gxX:=by decide+kernel
theorem gx_y:sha (encS gxU)=gxY:=by decide+kernel
theorem gx_arrX:Arr .u8 32 gxX:=gx_x▸sha_arr _
theorem gx_arrY:Arr .u8 32 gxY:=gx_y▸sha_arr _
theorem gx_arrZ:Arr .u8 32 (List.replicate 32 0):=⟨by simp,fun x hx=>by rw[List.mem_replicate]at hx;rw[hx.2];simp only[lim];omega⟩
theorem gx_pub1:pubS 1=4:=by decide+kernel
theorem gx_pub2:pubS 2=16:=by decide+kernel
theorem gx_non1:nonceS 1 (msgS (gxA.wit 1))=211812135:=by decide+kernel
theorem gx_non2:nonceS 2 (msgS (gxB.wit 2))=314077299:=by decide+kernel
theorem gx_r1:pubS 211812135=336507345:=by
 unfold pubS;rw[pw_fast _ _ _ (by decide) (by decide)];decide+kernel
theorem gx_r2:pubS 314077299=350125251:=by
 unfold pubS;rw[pw_fast _ _ _ (by decide) (by decide)];decide+kernel
theorem gx_e1:sigE 1 (msgS (gxA.wit 1))=376595462:=by
 unfold sigE;rw[gx_non1,gx_r1,gx_pub1];decide+kernel
theorem gx_e2:sigE 2 (msgS (gxB.wit 2))=480380063:=by
 unfold sigE;rw[gx_non2,gx_r2,gx_pub2];decide+kernel
theorem gx_s1:sigS 1 (msgS (gxA.wit 1))=88407594:=by
 unfold sigS;rw[gx_non1,gx_e1];decide
theorem gx_s2:sigS 2 (msgS (gxB.wit 2))=274837419:=by
 unfold sigS;rw[gx_non2,gx_e2];decide
theorem gx_signE1:signE 1 gxA=0:=signE_zero.2 ⟨by decide,check_zero.2 ⟨(by decide:(0:Nat)≤4),rising_nil,isG_pub 1 (by decide),(by decide:(1:Int)≤1000000000000),(by decide:(0:Int)<500000003),(by decide:(0:Int)<500000003), .inl ⟨rfl,rfl,rfl,rfl,rfl,rfl⟩⟩⟩
theorem gx_signE2:signE 2 gxB=0:=signE_zero.2 ⟨by decide,check_zero.2 ⟨(by decide:(1:Nat)≤4),fun j hj=>absurd hj (Nat.not_lt_zero _),isG_pub 2 (by decide),(by decide:(1:Int)≤1000000000000),(by decide:(0:Int)<500000003),(by decide:(0:Int)<500000003), .inl ⟨rfl,rfl,rfl,rfl,rfl,rfl⟩⟩⟩
theorem gx_sign1:signS 1 gxA=gxO:=by
 unfold signS;rw[if_pos gx_signE1,gx_e1,gx_s1];unfold OpV.wit;rw[gx_pub1];rfl
theorem gx_sign2:signS 2 gxB=gxU:=by
 unfold signS;rw[if_pos gx_signE2,gx_e2,gx_s2];unfold OpV.wit;rw[gx_pub2];rfl
theorem gx_okA:gxA.ok:=⟨by decide,by decide,by decide,by decide,by decide,by decide,by decide,by decide,by decide,by decide,by decide⟩
theorem gx_okB:gxB.ok:=⟨by decide,by decide,by decide,by decide,by decide,by decide,by decide,by decide,by decide,by decide,by decide⟩
theorem gx_okO:gxO.ok:=⟨by decide,by decide,by decide,by decide,by decide,by decide,by decide,by decide,by decide,by decide,by decide⟩
theorem gx_okU:gxU.ok:=⟨by decide,by decide,by decide,by decide,by decide,by decide,by decide,by decide,by decide,by decide,by decide⟩
theorem gx_verO:verE gxO=0:=by
 have:=(sign_good gx_okA rfl gx_signE1).2.2.2.2.2.2;rwa[gx_sign1]at this
theorem gx_verU:verE gxU=0:=by
 have:=(sign_good gx_okB rfl gx_signE2).2.2.2.2.2.2;rwa[gx_sign2]at this
noncomputable def gxG:PG:=addP .nil gxO
noncomputable def gxH:PG:=addP gxG gxU
theorem gx_chk:chkP PG.nil=0:=(chkP_fine rfl).2 nil_fine
theorem gx_add1:addE .nil gxO=0:=addE_0 gx_chk gx_verO (nil_in _) (fun j hj=>absurd hj (Nat.not_lt_zero _)) (by decide)
theorem gx_id1:addI .nil gxO=gxX:=by rw[(addP_yes gx_add1).2];exact gx_x
theorem gx_f1:PG.nil.fine∧¬inS PG.nil.m PG.nil.ids (idOf gxO)∧gxG.fine∧gxG.m=PG.nil.m+1∧addI PG.nil gxO=idOf gxO∧∀y u,gxG.has y u↔PG.nil.has y u∨(y=idOf gxO∧u=gxO):=add_fine rfl gx_add1
theorem gx_m1:gxG.m=1:=gx_f1.2.2.2.1
theorem gx_in1(y:List Int):inS gxG.m gxG.ids y↔y=gxX:=by
 rw[has_in];constructor
 ·rintro⟨o,ho⟩;rcases(gx_f1.2.2.2.2.2 y o).1 ho with h|h
  ·exact absurd h (nil_has _ _)
  ·rw[h.1];exact gx_x
 ·rintro rfl;exact⟨gxO,(gx_f1.2.2.2.2.2 _ _).2 (.inr ⟨gx_x.symm,rfl⟩)⟩
theorem gx_ne:gxY≠gxX:=by decide
theorem gx_add2:addE gxG gxU=0:=by
 refine addE_0 ((chkP_fine gx_f1.2.2.1.good.1).2 gx_f1.2.2.1) gx_verU (fun h=>?_) (fun j hj=>?_) (by rw[gx_m1];decide)
 ·have h:=(gx_in1 _).1 h;rw[show idOf gxU=gxY from gx_y]at h;exact gx_ne h
 ·have hj:j<1:=hj;obtain rfl:j=0:=by omega
  exact(gx_in1 _).2 rfl
theorem gx_id2:addI gxG gxU=gxY:=by rw[(addP_yes gx_add2).2];exact gx_y
theorem gx_f2:gxG.fine∧¬inS gxG.m gxG.ids (idOf gxU)∧gxH.fine∧gxH.m=gxG.m+1∧addI gxG gxU=idOf gxU∧∀y u,gxH.has y u↔gxG.has y u∨(y=idOf gxU∧u=gxU):=add_fine gx_f1.2.2.1.good.1 gx_add2
theorem gx_m2:gxH.m=2:=by
 have h:gxH.m=gxG.m+1:=gx_f2.2.2.2.1;rw[h,gx_m1]
theorem gx_inY:inS gxH.m gxH.ids gxY:=has_in.2 ⟨gxU,(gx_f2.2.2.2.2.2 _ _).2 (.inr ⟨gx_y.symm,rfl⟩)⟩
theorem gx_inX:inS gxH.m gxH.ids gxX:=has_in.2 ⟨gxO,(gx_f2.2.2.2.2.2 _ _).2 (.inl ((gx_f1.2.2.2.2.2 _ _).2 (.inr ⟨gx_x.symm,rfl⟩)))⟩
theorem gx_open:addE .nil gxU=40:=addE_4 gx_chk gx_verU (nil_in _) fun h=>nil_in _ (h 0 (by decide))
theorem gx_twice:addE gxH gxO=14:=addE_3 ((chkP_fine gx_f2.2.2.1.good.1).2 gx_f2.2.2.1) gx_verO (by rw[show idOf gxO=gxX from gx_x];exact gx_inX)
theorem gx_chkH:chkP gxH=0:=(chkP_fine gx_f2.2.2.1.good.1).2 gx_f2.2.2.1
end S
namespace G
open Go.RowKit
section
end
section
variable{S0:Nat→Prop}{w0:World}{L Lq:List Ent}{P:Program}{l:List Value}{l0:List Oper}{K:List Value→World→Prop}
class SubL(E L:List Ent):Prop where
 h:E.Sublist L
instance SubL.nil{L:List Ent}:SubL [] L:=⟨List.nil_sublist _⟩
instance(priority:=low) SubL.skip{E L:List Ent}{x:Ent}[s:SubL E L]:SubL E (x::L):=⟨.cons _ s.h⟩
instance SubL.take{E L:List Ent}{x:Ent}[s:SubL E L]:SubL (x::E) (x::L):=⟨.cons_cons _ s.h⟩
def bs(k n:Nat):Array Bool:=((List.range k).map fun i=>n.testBit i).toArray
theorem J.wst{A:Type}(M:A→List (Nat×Value))(Jk:List Nat)(Lp:A→List Ent)(I:A→Prop)(n:Nat)(li:Array Bool){l':A→(Nat→Value)→List Value}{n0:Nat}{li0:Array Bool}
  (h:∀p j,I p→J S0 w0 (Lp p) (WX S0 w0 Lq P l0 K n li (l' p j)))
  (k:(∀(p:A) (le:List Value) (L':List Ent) (li':Array Bool),slotsOk le (M p)→upd (upd l (M p)) (junk Jk (fun s=>le.getD s undef))=le→li'=li→I p→SubL (Lp p) L'→J S0 w0 L' (WX S0 w0 Lq P l0 K n li' le))→J S0 w0 L (WX S0 w0 Lq P l0 K n0 li0 l))
  (hl:∀p j,upd (upd l (M p)) (junk Jk j)=l' p j:=by intro p j;simp only[upd,junk,List.map_cons,List.map_nil,List.set_cons_succ,List.set_cons_zero];exact rfl):J S0 w0 L (WX S0 w0 Lq P l0 K n0 li0 l):=
 k fun p le L' li' _ he hli hi hs w' Mm=>by
  subst hli;have:=h p (fun s=>le.getD s undef) hi w' (Mm.sub hs.h);rw[←hl,he]at this;exact this
end
end G
namespace W
open Go.RowKit G
set_option maxRecDepth 20000
set_option maxHeartbeats 8000000
attribute [local irreducible] RS RX RY Code.wp bodyPost J Ent.blk Ent.iown Ent.wrow Ent.wown Ent.gown Ent.all Ent.emp
instance:SInf prog 31 [(0,1),(1,1),(2,4)]:=⟨_,underlying31,by kernel_rfl,by kernel_rfl⟩
instance:Inf prog 31 6 64 [.int .u8 0, .string .empty, .int .u8 0, .int .i64 0, .int .u64 0, .string .empty]:=⟨TI.of (v:= .agg #[.int .u8 0, .string .empty, .int .u8 0, .int .i64 0, .int .u64 0, .string .empty]) (by kernel_rfl) rfl⟩
instance:Ents prog 17:=⟨.mk func17 (by kernel_rfl) rfl⟩
instance:Ents prog 8:=⟨.mk func8 (by kernel_rfl) rfl⟩
instance:Ents prog 4:=⟨.mk func4 (by kernel_rfl) rfl⟩
instance:Ents prog 7:=⟨.mk func7 (by kernel_rfl) rfl⟩
instance:Ents prog 37:=⟨.mk func37 (by kernel_rfl) rfl⟩
theorem signG(x:Int)(hx:0≤x∧x<4294967296){S0:Nat→Prop}(z:OpA)(TK:TypeId)(w:World)(K0:Kst w TK)(R:OpR S0 w z):
  Calls prog 17 #[.int .u32 x, .agg (opC z).toArray] w (Gv w (fun q:OpA×Int=> .tuple #[.agg (opC q.1).toArray, .int .i64 q.2]) (fun q=>[.wrow .u8 32 q.1.pa q.1.o.n q.1.o.ids]) fun q=>q.1.o.n≤q.1.pc∧q.1.o=S.signS x z.o∧q.2=S.signE x z.o):=
 Gv.of (signO x hx z.o R.ok _ _ TK w K0 R.row R.cap) fun v w' _ ⟨a',c',hv,hc,W⟩=>⟨(⟨S.signS x z.o,a',c'⟩,S.signE x z.o),hv,⟨hc,rfl,rfl⟩,sep1 (show(Ent.wrow .u8 32 a' (S.signS x z.o).n (S.signS x z.o).ids).ok _ _ by unfold Ent.wrow;exact W)⟩
theorem dagSigned(x:Int)(hx:0≤x∧x<4294967296){S0:Nat→Prop}(a:Option Addr)(n c:Nat)(ids:List Int)(TK:TypeId)(w:World)(K0:Kst w TK)(hok:(⟨0,1,1,0,0,0,0,0,n,ids, .empty, .empty⟩:S.OpV).ok)(D0:WRow .u8 32 S0 w a n ids)(hc:n≤c):
  Calls prog 4 #[.int .u32 x, .slice a n c] w (Gv w (fun q:OpA=> .agg (opC q).toArray) (fun q=>[.wrow .u8 32 q.pa q.o.n q.o.ids]) fun q=>q.o.n≤q.pc∧q.o=S.signS x ⟨0,1,1,0,0,0,0,0,n,ids, .empty, .empty⟩):=by
 refine J.enter 14 func4 rfl rfl ?_;refine run ?_;refine J.alloc rfl fun b1=>?_
 refine run ?_;refine J.call rfl rfl (fun w' M=>signG x hx ⟨⟨0,1,1,0,0,0,0,0,n,ids, .empty, .empty⟩,a,c⟩ TK w' (K0.ext M.ext) ⟨hok,D0.ext M.ext,hc⟩) fun q hq=>?_
 refine run ?_;refine J.alloc rfl fun b2=>?_
 refine run ?_;exact J.finG q.1 rfl ⟨hq.1,hq.2.1⟩ sb
theorem sgA(TK:TypeId)(w:World)(K0:Kst w TK):Calls prog 4 #[.int .u32 1, .slice none 0 0] w (Gv w (fun q:Option Addr×Nat=> .agg (opC ⟨S.gxO,q.1,q.2⟩).toArray) (fun q=>[.wrow .u8 32 q.1 0 []]) fun _=>True):=
 (dagSigned (S0:=no) 1 (by decide) none 0 0 [] TK w K0 S.gx_okA WRow.nil (Nat.le_refl _)).mono fun _ w' ⟨⟨o,pa,pc⟩,h1,⟨hc,e⟩,h3,h4⟩=>by
  obtain rfl:o=S.gxO:=e.trans S.gx_sign1;exact⟨(pa,pc),h1,trivial,h3,h4⟩
theorem sgB{S0:Nat→Prop}(a:Option Addr)(TK:TypeId)(w:World)(K0:Kst w TK)(D0:WRow .u8 32 S0 w a 1 S.gxX):Calls prog 4 #[.int .u32 2, .slice a 1 1] w (Gv w (fun q:Option Addr×Nat=> .agg (opC ⟨S.gxU,q.1,q.2⟩).toArray) (fun q=>[.wrow .u8 32 q.1 1 S.gxX]) fun q=>1≤q.2):=
 (dagSigned 2 (by decide) a 1 1 S.gxX TK w K0 S.gx_okB D0 (Nat.le_refl _)).mono fun _ w' ⟨⟨o,pa,pc⟩,h1,⟨hc,e⟩,h3,h4⟩=>by
  obtain rfl:o=S.gxU:=e.trans S.gx_sign2;exact⟨(pa,pc),h1,hc,h3,h4⟩
theorem addX{S0 S1:Nat→Prop}(g:GrA)(P:S.PG)(o:S.OpV)(pa:Option Addr)(pc:Nat)(TK:TypeId)(w:World)(K0:Kst w TK)(hg:GrP P.m P.ids P.ops g)(G:GrR S0 w g)(ho:o.ok)(D:WRow .u8 32 S1 w pa o.n o.ids)(hc:o.n≤pc){Q:S.PG}{x:List Int}{e:Int}(h1:S.addP P o=Q)(h2:S.addI P o=x)(h3:S.addE P o=e):
  Calls prog 7 #[.agg (grC g).toArray, .agg (opC ⟨o,pa,pc⟩).toArray] w (Gv w (fun q:GrA=> .tuple #[.agg (grC q).toArray, .agg (ints .u8 x).toArray, .int .i64 e]) (grE 24 35) (GrP Q.m Q.ids Q.ops)):=by
 have h:=dagAdd g ⟨o,pa,pc⟩ TK w K0 G ⟨ho,D,hc⟩;rw[GrP.P (P:=P) hg]at h;dsimp only at h;rw[h1,h2,h3]at h;exact h
theorem nilR(w:World):GrR no w GrA.nil:=⟨WRow.nil,GRow.nil' opC_len,Inns.nil,fun z hz=>(by cases hz),Nat.le_refl _,Nat.le_refl _,Nat.zero_le _,Nat.zero_le _⟩
theorem addY{S0 S1:Nat→Prop}(g:GrA)(P:S.PG)(o:S.OpV)(pa:Option Addr)(pc:Nat)(TK:TypeId)(w:World)(K0:Kst w TK)(hg:GrP P.m P.ids P.ops g)(G:GrR S0 w g)(ho:o.ok)(D:WRow .u8 32 S1 w pa o.n o.ids)(hc:o.n≤pc){e:Int}(h3:S.addE P o=e)(he:e≠0):
  Calls prog 7 #[.agg (grC g).toArray, .agg (opC ⟨o,pa,pc⟩).toArray] w (Gv w (fun q:GrA=> .tuple #[.agg (grC q).toArray, .agg (ints .u8 (List.replicate 32 0)).toArray, .int .i64 e]) (fun _=>[]) fun _=>True):=
 (addX g P o pa pc TK w K0 hg G ho D hc rfl (S.addP_no (by rw[h3];exact he)).2 h3).mono fun _ _ ⟨q,h1,_,h3,_⟩=>⟨q,h1,trivial,h3,trivial⟩
theorem cB{L:List Ent}{w:World}{TK:TypeId}{F:Option Addr→Nat→Nat→List Int→List Ent}(b:Nat)(K0:Kst w TK)[R:RWO L (some ⟨b,0,none⟩) 24 .u8 32 1 1 S.gxX F](w':World)(M:Mem no w L w'):Calls prog 4 #[.int .u32 2, .slice (some ⟨b,0,none⟩) 1 1] w' (Gv w' (fun q:Option Addr×Nat=> .agg (opC ⟨S.gxU,q.1,q.2⟩).toArray) (fun q=>[.wrow .u8 32 q.1 1 S.gxX]) fun q=>1≤q.2):=
 (RW.own' (a:=some ⟨b,0,none⟩) w' M).elim fun _ k0=>sgB _ TK w' (K0.ext M.ext) k0
theorem cU{L:List Ent}{w:World}{TK:TypeId}(q1:GrA)(z:Option Addr×Nat){F1:Option Addr→Nat→Nat→List OpA→List Ent}{F2:Option Addr→Nat→Nat→List Int→List Ent}{F3:Ent→List Ent}(K0:Kst w TK)(hk:∀z∈q1.zs,z.o.ok)(hq:GrP S.gxG.m S.gxG.ids S.gxG.ops q1)(hm:q1.m≤70∧q1.n≤70)(hz:1≤z.2)
  [R1:GO L q1.oa opC 11 35 q1.n q1.oc q1.zs F1][R2:RWO L q1.ia 24 .u8 32 q1.m q1.ic q1.ids F2][R3:RE L (.all (q1.zs.map (opE 24))) F3][R4:RRW L z.1 .u8 32 1 S.gxX](w':World)(M:Mem no w L w'):Calls prog 7 #[.agg (grC q1).toArray, .agg (opC ⟨S.gxU,z.1,z.2⟩).toArray] w' (Gv w' (fun q:GrA=> .tuple #[.agg (grC q).toArray, .agg (ints .u8 S.gxY).toArray, .int .i64 0]) (fun q=>[.gown opC 11 35 q.oa q.n q.oc q.zs, .all (q.zs.map (opE 24)), .wown 24 .u8 32 q.ia q.m q.ic q.ids]) (GrP S.gxH.m S.gxH.ids S.gxH.ops)):=
 (RW.row' (a:=z.1) w' M).elim fun _ k1=>addX q1 S.gxG S.gxU z.1 z.2 TK w' (K0.ext M.ext) hq (GrR.own hk hq.cap hm w' M) S.gx_okU k1 hz (Q:=S.gxH) rfl S.gx_id2 S.gx_add2
theorem cN{L:List Ent}{w:World}{TK:TypeId}(z:Option Addr×Nat)(K0:Kst w TK)(hz:1≤z.2)[R4:RRW L z.1 .u8 32 1 S.gxX](w':World)(M:Mem no w L w'):Calls prog 7 #[.agg (grC GrA.nil).toArray, .agg (opC ⟨S.gxU,z.1,z.2⟩).toArray] w' (Gv w' (fun q:GrA=> .tuple #[.agg (grC q).toArray, .agg (ints .u8 (List.replicate 32 0)).toArray, .int .i64 40]) (fun _=>[]) fun _=>True):=
 (RW.row' (a:=z.1) w' M).elim fun _ k1=>addY GrA.nil .nil S.gxU z.1 z.2 TK w' (K0.ext M.ext) GrP.nil (nilR w') S.gx_okU k1 hz S.gx_open (by decide)
theorem cT{L:List Ent}{w:World}{TK:TypeId}(q2:GrA)(z:Option Addr×Nat){F1:Option Addr→Nat→Nat→List OpA→List Ent}{F2:Option Addr→Nat→Nat→List Int→List Ent}{F3:Ent→List Ent}(K0:Kst w TK)(hk:∀z∈q2.zs,z.o.ok)(hq:GrP S.gxH.m S.gxH.ids S.gxH.ops q2)(hm:q2.m≤70∧q2.n≤70)
  [R1:GO L q2.oa opC 11 35 q2.n q2.oc q2.zs F1][R2:RWO L q2.ia 24 .u8 32 q2.m q2.ic q2.ids F2][R3:RE L (.all (q2.zs.map (opE 24))) F3][R4:RRW L z.1 .u8 32 0 []](w':World)(M:Mem no w L w'):Calls prog 7 #[.agg (grC q2).toArray, .agg (opC ⟨S.gxO,z.1,z.2⟩).toArray] w' (Gv w' (fun q:GrA=> .tuple #[.agg (grC q).toArray, .agg (ints .u8 (List.replicate 32 0)).toArray, .int .i64 14]) (fun _=>[]) fun _=>True):=
 (RW.row' (a:=z.1) w' M).elim fun _ k1=>addY q2 S.gxH S.gxO z.1 z.2 TK w' (K0.ext M.ext) hq (GrR.own hk hq.cap hm w' M) S.gx_okO k1 (Nat.zero_le _) S.gx_twice (by decide)
theorem dagAlive(TK:TypeId)(w:World)(K0:Kst w TK):Calls prog 16 #[] w (Ret w fun v _=>v= .bool true):=by
 have hX:=S.gx_arrX;have hY:=S.gx_arrY;have hZ:=S.gx_arrZ;have o1:∀u∈S.gxG.ops,u.ok:=add_ok (a:= .nil) (fun u hu=>by cases hu) S.gx_okO;have o2:∀u∈S.gxH.ops,u.ok:=add_ok (a:=S.gxG) o1 S.gx_okU;have s1:S.gxG.good∧S.gxG.m≤60:=⟨S.gx_f1.2.2.1.good,S.gx_f1.2.2.1.le⟩
 have s2:S.gxH.good∧S.gxH.m≤60:=⟨S.gx_f2.2.2.1.good,S.gx_f2.2.2.1.le⟩
 have gx40:S.addE .nil S.gxU≠0:=by rw[S.gx_open];decide
 have gx14:S.addE S.gxH S.gxO≠0:=by rw[S.gx_twice];decide
 refine J.enter 86 func16 rfl rfl ?_;refine run ?_;refine J.callp rfl rfl (fun w' M=>dagNew w') ?_;refine J.call rfl rfl (fun w' M=>sgA TK w' (K0.ext M.ext)) fun z1 hz1=>?_
 refine J.call rfl rfl (fun w' M=>(RW.row' (a:=z1.1) w' M).elim fun _ k1=>addX GrA.nil .nil S.gxO z1.1 z1.2 TK w' (K0.ext M.ext) GrP.nil (nilR w') S.gx_okO k1 (Nat.zero_le _) (Q:=S.gxG) rfl S.gx_id1 S.gx_add1) fun q1 hq1=>?_
 dsimp only[grE,List.cons_append,List.nil_append];refine run ?_;refine J.alloc rfl fun b1=>?_
 refine J.alloc rfl fun b2=>?_
 refine run ?_;have hk1:=hq1.ok o1;have hm1:=hq1.sz s1;refine J.drop (E:=[.blk b2 (ints .u8 S.gxX) 24, .blk b1 (grC q1) 41, .gown opC 11 35 q1.oa q1.n q1.oc q1.zs, .all (q1.zs.map (opE 24)), .wown 24 .u8 32 q1.ia q1.m q1.ic q1.ids]) sb ?_;refine J.joinX (A:=GrA×Nat×Nat) (fun u=>[(4, .pointer (some ⟨u.2.1,0,none⟩)),(5, .pointer (some ⟨u.2.2,0,none⟩)),(6, .int .i64 0)]) [22,23,24,25,26,27,28,29,30] (fun u=>[.blk u.2.2 (ints .u8 S.gxY) 24, .blk u.2.1 (grC u.1) 41, .gown opC 11 35 u.1.oa u.1.n u.1.oc u.1.zs, .all (u.1.zs.map (opE 24)), .wown 24 .u8 32 u.1.ia u.1.m u.1.ic u.1.ids, .blk b2 (ints .u8 S.gxX) 24, .blk b1 (grC q1) 41]) (fun u=>GrP S.gxH.m S.gxH.ids S.gxH.ops u.1) ?_ (fun u j2 hu=>?_)
 ·refine J.regionW [.blk b2 (ints .u8 S.gxX) 24, .blk b1 (grC q1) 41] mixed ?_;refine J.wst (A:=GrA×Nat×Unit) (fun p=>[(4, .pointer (some ⟨p.2.1,0,none⟩)),(23, .agg (grC q1).toArray),(24, .agg (ints .u8 S.gxX).toArray),(27, .tuple #[.agg (grC p.1).toArray, .agg (ints .u8 S.gxY).toArray, .int .i64 0]),(28, .agg (grC p.1).toArray),(29, .agg (ints .u8 S.gxY).toArray),(30, .int .i64 0)]) [22,25,26] (fun p=>[.blk p.2.1 [.slice none 0 0, .slice none 0 0] 41, .gown opC 11 35 p.1.oa p.1.n p.1.oc p.1.zs, .all (p.1.zs.map (opE 24)), .wown 24 .u8 32 p.1.ia p.1.m p.1.ic p.1.ids, .blk b2 (ints .u8 S.gxX) 24, .blk b1 (grC q1) 41, .gown opC 11 35 q1.oa q1.n q1.oc q1.zs, .all (q1.zs.map (opE 24)), .wown 24 .u8 32 q1.ia q1.m q1.ic q1.ids]) (fun p=>GrP S.gxH.m S.gxH.ids S.gxH.ops p.1∧True) 4 (bs 14 1023) (fun p j hp=>?_) (fun st0=>?_)
  ·obtain⟨q,bg,_⟩:=p;obtain⟨hq,_⟩:=hp
   try dsimp only
   try dsimp only at hq
   refine J.wfin [(10, .e),(11, .e),(12, .e),(13, .q)] (by kernel_rfl) ?_;refine run ?_;refine J.alloc rfl fun bi=>?_
   refine run ?_;refine run ?_;refine run ?_;refine J.front (.blk bg (grC q) 41) ?_;refine J.front (.blk bi (ints .u8 S.gxY) 24) ?_;exact J.cut (q,bg,bi) ⟨rfl,rfl,rfl,trivial⟩ (by kernel_rfl) hq
  refine J.wst (A:=GrA×Nat×Unit) (fun p=>[(5, .pointer (some ⟨p.2.1,0,none⟩)),(23, .agg (grC q1).toArray),(24, .agg (ints .u8 S.gxX).toArray),(27, .tuple #[.agg (grC p.1).toArray, .agg (ints .u8 S.gxY).toArray, .int .i64 0]),(28, .agg (grC p.1).toArray),(29, .agg (ints .u8 S.gxY).toArray),(30, .int .i64 0)]) [22,25,26] (fun p=>[.blk p.2.1 (ints .u8 (List.replicate 32 0)) 24, .gown opC 11 35 p.1.oa p.1.n p.1.oc p.1.zs, .all (p.1.zs.map (opE 24)), .wown 24 .u8 32 p.1.ia p.1.m p.1.ic p.1.ids, .blk b2 (ints .u8 S.gxX) 24, .blk b1 (grC q1) 41, .gown opC 11 35 q1.oa q1.n q1.oc q1.zs, .all (q1.zs.map (opE 24)), .wown 24 .u8 32 q1.ia q1.m q1.ic q1.ids]) (fun p=>GrP S.gxH.m S.gxH.ids S.gxH.ops p.1∧True) 4 (bs 14 1535) (fun p j hp=>?_) (fun st1=>?_)
  ·obtain⟨q,bi,_⟩:=p;obtain⟨hq,_⟩:=hp
   try dsimp only
   try dsimp only at hq
   refine J.wfin [(9, .e),(11, .e),(12, .e),(13, .q)] (by kernel_rfl) ?_;refine run ?_;refine J.alloc rfl fun bg=>?_
   refine run ?_;refine run ?_;refine run ?_;refine J.front (.blk bg (grC q) 41) ?_;refine J.front (.blk bi (ints .u8 S.gxY) 24) ?_;exact J.cut (q,bg,bi) ⟨rfl,rfl,rfl,trivial⟩ (by kernel_rfl) hq
  refine J.wst (A:=GrA×Unit) (fun p=>[(23, .agg (grC q1).toArray),(24, .agg (ints .u8 S.gxX).toArray),(27, .tuple #[.agg (grC p.1).toArray, .agg (ints .u8 S.gxY).toArray, .int .i64 0])]) [25,26] (fun p=>[.gown opC 11 35 p.1.oa p.1.n p.1.oc p.1.zs, .all (p.1.zs.map (opE 24)), .wown 24 .u8 32 p.1.ia p.1.m p.1.ic p.1.ids, .blk b2 (ints .u8 S.gxX) 24, .blk b1 (grC q1) 41, .gown opC 11 35 q1.oa q1.n q1.oc q1.zs, .all (q1.zs.map (opE 24)), .wown 24 .u8 32 q1.ia q1.m q1.ic q1.ids]) (fun p=>GrP S.gxH.m S.gxH.ids S.gxH.ops p.1∧True) 9 (bs 14 31) (fun p j hp=>?_) (fun st2=>?_)
  ·obtain⟨q,_⟩:=p;obtain⟨hq,_⟩:=hp
   try dsimp only
   try dsimp only at hq
   refine J.wnode [(5, .q),(6, .q),(7, .q),(8, .q)] [9,10] 4 (bs 14 511) (by kernel_rfl) ?_;refine run ?_;refine J.nil ?_;refine J.wbr ?_ ?_
   ·refine J.alloc rfl fun bg=>?_
    refine J.nil ?_;exact st0 (q,bg,()) _ _ _ ⟨rfl,rfl,rfl,rfl,rfl,rfl,rfl,trivial⟩ (by kernel_rfl) (by kernel_rfl) ⟨hq,trivial⟩ inferInstance
   refine J.wbr ?_ ?_
   ·refine J.alloc rfl fun bi=>?_
    refine J.nil ?_;exact st1 (q,bi,()) _ _ _ ⟨rfl,rfl,rfl,rfl,rfl,rfl,rfl,trivial⟩ (by kernel_rfl) (by kernel_rfl) ⟨hq,trivial⟩ inferInstance
   exact J.wbr0
  refine J.wst (A:=GrA×Nat×Unit) (fun p=>[(4, .pointer (some ⟨p.2.1,0,none⟩)),(23, .agg (grC q1).toArray),(24, .agg (ints .u8 S.gxX).toArray),(27, .tuple #[.agg (grC p.1).toArray, .agg (ints .u8 S.gxY).toArray, .int .i64 0])]) [25,26] (fun p=>[.blk p.2.1 [.slice none 0 0, .slice none 0 0] 41, .gown opC 11 35 p.1.oa p.1.n p.1.oc p.1.zs, .all (p.1.zs.map (opE 24)), .wown 24 .u8 32 p.1.ia p.1.m p.1.ic p.1.ids, .blk b2 (ints .u8 S.gxX) 24, .blk b1 (grC q1) 41, .gown opC 11 35 q1.oa q1.n q1.oc q1.zs, .all (q1.zs.map (opE 24)), .wown 24 .u8 32 q1.ia q1.m q1.ic q1.ids]) (fun p=>GrP S.gxH.m S.gxH.ids S.gxH.ops p.1∧True) 8 (bs 14 543) (fun p j hp=>?_) (fun st3=>?_)
  ·obtain⟨q,bg,_⟩:=p;obtain⟨hq,_⟩:=hp
   try dsimp only
   try dsimp only at hq
   refine J.wfin [(5, .q),(6, .q),(7, .q),(8, .q),(10, .e),(11, .e),(12, .e),(13, .q)] (by kernel_rfl) ?_;refine run ?_;refine J.alloc rfl fun bi=>?_
   refine run ?_;refine run ?_;refine run ?_;refine J.front (.blk bg (grC q) 41) ?_;refine J.front (.blk bi (ints .u8 S.gxY) 24) ?_;exact J.cut (q,bg,bi) ⟨rfl,rfl,rfl,trivial⟩ (by kernel_rfl) hq
  refine J.wst (A:=(Option Addr×Nat)×Nat×Nat×Unit) (fun p=>[(4, .pointer (some ⟨p.2.1,0,none⟩)),(5, .pointer (some ⟨p.2.2.1,0,none⟩)),(23, .agg (grC q1).toArray),(24, .agg (ints .u8 S.gxX).toArray),(26, .agg (opC ⟨S.gxU,p.1.1,p.1.2⟩).toArray)]) [25] (fun p=>[.blk p.2.1 [.slice none 0 0, .slice none 0 0] 41, .blk p.2.2.1 (ints .u8 (List.replicate 32 0)) 24, .wrow .u8 32 p.1.1 1 S.gxX, .blk b2 (ints .u8 S.gxX) 24, .blk b1 (grC q1) 41, .gown opC 11 35 q1.oa q1.n q1.oc q1.zs, .all (q1.zs.map (opE 24)), .wown 24 .u8 32 q1.ia q1.m q1.ic q1.ids]) (fun p=>1≤p.1.2∧True) 8 (bs 14 1551) (fun p j hp=>?_) (fun st4=>?_)
  ·obtain⟨z,bg,bi,_⟩:=p;obtain⟨hz,_⟩:=hp
   try dsimp only
   try dsimp only at hz
   refine J.wfin [(4, .e),(5, .q),(6, .q),(7, .q),(8, .q),(11, .e),(12, .e),(13, .q)] (by kernel_rfl) ?_;refine run ?_;refine J.call rfl rfl (cU q1 z K0 hk1 hq1 hm1 hz) fun q hq=>?_
   refine run ?_;refine run ?_;refine run ?_;refine J.front (.blk bg (grC q) 41) ?_;refine J.front (.blk bi (ints .u8 S.gxY) 24) ?_;exact J.cut (q,bg,bi) ⟨rfl,rfl,rfl,trivial⟩ (by kernel_rfl) hq
  refine J.wst (A:=(Option Addr×Nat)×Nat×Unit) (fun p=>[(4, .pointer (some ⟨p.2.1,0,none⟩)),(23, .agg (grC q1).toArray),(24, .agg (ints .u8 S.gxX).toArray),(26, .agg (opC ⟨S.gxU,p.1.1,p.1.2⟩).toArray)]) [25] (fun p=>[.blk p.2.1 [.slice none 0 0, .slice none 0 0] 41, .wrow .u8 32 p.1.1 1 S.gxX, .blk b2 (ints .u8 S.gxX) 24, .blk b1 (grC q1) 41, .gown opC 11 35 q1.oa q1.n q1.oc q1.zs, .all (q1.zs.map (opE 24)), .wown 24 .u8 32 q1.ia q1.m q1.ic q1.ids]) (fun p=>1≤p.1.2∧True) 9 (bs 14 527) (fun p j hp=>?_) (fun st5=>?_)
  ·obtain⟨z,bg,_⟩:=p;obtain⟨hz,_⟩:=hp
   try dsimp only
   try dsimp only at hz
   refine J.wnode [] [4,10] 8 (bs 14 527) (by kernel_rfl) ?_;refine run ?_;refine J.nil ?_;refine J.wbr ?_ ?_
   ·refine J.call rfl rfl (cU q1 z K0 hk1 hq1 hm1 hz) fun q hq=>?_
    refine J.nil ?_;refine J.front (.wown 24 .u8 32 q.ia q.m q.ic q.ids) ?_;refine J.front (.all (q.zs.map (opE 24))) ?_;refine J.front (.gown opC 11 35 q.oa q.n q.oc q.zs) ?_;refine J.front (.blk bg [.slice none 0 0, .slice none 0 0] 41) ?_;exact st3 (q,bg,()) _ _ _ ⟨rfl,rfl,rfl,rfl,trivial⟩ (by kernel_rfl) (by kernel_rfl) ⟨hq,trivial⟩ inferInstance
   refine J.wbr ?_ ?_
   ·refine J.alloc rfl fun bi=>?_
    refine J.nil ?_;refine J.front (.wrow .u8 32 z.1 1 S.gxX) ?_;refine J.front (.blk bi (ints .u8 (List.replicate 32 0)) 24) ?_;refine J.front (.blk bg [.slice none 0 0, .slice none 0 0] 41) ?_;exact st4 (z,bg,bi,()) _ _ _ ⟨rfl,rfl,rfl,rfl,rfl,trivial⟩ (by kernel_rfl) (by kernel_rfl) ⟨hz,trivial⟩ inferInstance
   exact J.wbr0
  refine J.wst (A:=GrA×Nat×Unit) (fun p=>[(5, .pointer (some ⟨p.2.1,0,none⟩)),(23, .agg (grC q1).toArray),(24, .agg (ints .u8 S.gxX).toArray),(27, .tuple #[.agg (grC p.1).toArray, .agg (ints .u8 S.gxY).toArray, .int .i64 0])]) [25,26] (fun p=>[.blk p.2.1 (ints .u8 (List.replicate 32 0)) 24, .gown opC 11 35 p.1.oa p.1.n p.1.oc p.1.zs, .all (p.1.zs.map (opE 24)), .wown 24 .u8 32 p.1.ia p.1.m p.1.ic p.1.ids, .blk b2 (ints .u8 S.gxX) 24, .blk b1 (grC q1) 41, .gown opC 11 35 q1.oa q1.n q1.oc q1.zs, .all (q1.zs.map (opE 24)), .wown 24 .u8 32 q1.ia q1.m q1.ic q1.ids]) (fun p=>GrP S.gxH.m S.gxH.ids S.gxH.ops p.1∧True) 8 (bs 14 1055) (fun p j hp=>?_) (fun st6=>?_)
  ·obtain⟨q,bi,_⟩:=p;obtain⟨hq,_⟩:=hp
   try dsimp only
   try dsimp only at hq
   refine J.wfin [(5, .q),(6, .q),(7, .q),(8, .q),(9, .e),(11, .e),(12, .e),(13, .q)] (by kernel_rfl) ?_;refine run ?_;refine J.alloc rfl fun bg=>?_
   refine run ?_;refine run ?_;refine run ?_;refine J.front (.blk bg (grC q) 41) ?_;refine J.front (.blk bi (ints .u8 S.gxY) 24) ?_;exact J.cut (q,bg,bi) ⟨rfl,rfl,rfl,trivial⟩ (by kernel_rfl) hq
  refine J.wst (A:=(Option Addr×Nat)×Nat×Unit) (fun p=>[(5, .pointer (some ⟨p.2.1,0,none⟩)),(23, .agg (grC q1).toArray),(24, .agg (ints .u8 S.gxX).toArray),(26, .agg (opC ⟨S.gxU,p.1.1,p.1.2⟩).toArray)]) [25] (fun p=>[.blk p.2.1 (ints .u8 (List.replicate 32 0)) 24, .wrow .u8 32 p.1.1 1 S.gxX, .blk b2 (ints .u8 S.gxX) 24, .blk b1 (grC q1) 41, .gown opC 11 35 q1.oa q1.n q1.oc q1.zs, .all (q1.zs.map (opE 24)), .wown 24 .u8 32 q1.ia q1.m q1.ic q1.ids]) (fun p=>1≤p.1.2∧True) 9 (bs 14 1039) (fun p j hp=>?_) (fun st7=>?_)
  ·obtain⟨z,bi,_⟩:=p;obtain⟨hz,_⟩:=hp
   try dsimp only
   try dsimp only at hz
   refine J.wnode [] [4,9] 8 (bs 14 1039) (by kernel_rfl) ?_;refine run ?_;refine J.nil ?_;refine J.wbr ?_ ?_
   ·refine J.call rfl rfl (cU q1 z K0 hk1 hq1 hm1 hz) fun q hq=>?_
    refine J.nil ?_;refine J.front (.wown 24 .u8 32 q.ia q.m q.ic q.ids) ?_;refine J.front (.all (q.zs.map (opE 24))) ?_;refine J.front (.gown opC 11 35 q.oa q.n q.oc q.zs) ?_;refine J.front (.blk bi (ints .u8 (List.replicate 32 0)) 24) ?_;exact st6 (q,bi,()) _ _ _ ⟨rfl,rfl,rfl,rfl,trivial⟩ (by kernel_rfl) (by kernel_rfl) ⟨hq,trivial⟩ inferInstance
   refine J.wbr ?_ ?_
   ·refine J.alloc rfl fun bg=>?_
    refine J.nil ?_;exact st4 (z,bg,bi,()) _ _ _ ⟨rfl,rfl,rfl,rfl,rfl,trivial⟩ (by kernel_rfl) (by kernel_rfl) ⟨hz,trivial⟩ inferInstance
   exact J.wbr0
  refine J.wst (A:=(Option Addr×Nat)×Unit) (fun p=>[(23, .agg (grC q1).toArray),(24, .agg (ints .u8 S.gxX).toArray),(26, .agg (opC ⟨S.gxU,p.1.1,p.1.2⟩).toArray)]) [25] (fun p=>[.wrow .u8 32 p.1.1 1 S.gxX, .blk b2 (ints .u8 S.gxX) 24, .blk b1 (grC q1) 41, .gown opC 11 35 q1.oa q1.n q1.oc q1.zs, .all (q1.zs.map (opE 24)), .wown 24 .u8 32 q1.ia q1.m q1.ic q1.ids]) (fun p=>1≤p.1.2∧True) 10 (bs 14 15) (fun p j hp=>?_) (fun st8=>?_)
  ·obtain⟨z,_⟩:=p;obtain⟨hz,_⟩:=hp
   try dsimp only
   try dsimp only at hz
   refine J.wnode [] [4,9,10] 9 (bs 14 15) (by kernel_rfl) ?_;refine run ?_;refine J.nil ?_;refine J.wbr ?_ ?_
   ·refine J.call rfl rfl (cU q1 z K0 hk1 hq1 hm1 hz) fun q hq=>?_
    refine J.nil ?_;exact st2 (q,()) _ _ _ ⟨rfl,rfl,rfl,trivial⟩ (by kernel_rfl) (by kernel_rfl) ⟨hq,trivial⟩ inferInstance
   refine J.wbr ?_ ?_
   ·refine J.alloc rfl fun bg=>?_
    refine J.nil ?_;exact st5 (z,bg,()) _ _ _ ⟨rfl,rfl,rfl,rfl,trivial⟩ (by kernel_rfl) (by kernel_rfl) ⟨hz,trivial⟩ inferInstance
   refine J.wbr ?_ ?_
   ·refine J.alloc rfl fun bi=>?_
    refine J.nil ?_;exact st7 (z,bi,()) _ _ _ ⟨rfl,rfl,rfl,rfl,trivial⟩ (by kernel_rfl) (by kernel_rfl) ⟨hz,trivial⟩ inferInstance
   exact J.wbr0
  refine J.wst (A:=Nat×Nat×Nat×Unit) (fun p=>[(4, .pointer (some ⟨p.2.1,0,none⟩)),(5, .pointer (some ⟨p.2.2.1,0,none⟩)),(23, .agg (grC q1).toArray),(24, .agg (ints .u8 S.gxX).toArray),(25, .slice (some ⟨p.1,0,none⟩) 1 1)]) [] (fun p=>[.blk p.2.1 [.slice none 0 0, .slice none 0 0] 41, .blk p.2.2.1 (ints .u8 (List.replicate 32 0)) 24, .wown 24 .u8 32 (some ⟨p.1,0,none⟩) 1 1 S.gxX, .blk b2 (ints .u8 S.gxX) 24, .blk b1 (grC q1) 41, .gown opC 11 35 q1.oa q1.n q1.oc q1.zs, .all (q1.zs.map (opE 24)), .wown 24 .u8 32 q1.ia q1.m q1.ic q1.ids]) (fun p=>True) 9 (bs 14 1543) (fun p j hp=>?_) (fun st9=>?_)
  ·obtain⟨bx,bg,bi,_⟩:=p;obtain _:=hp
   try dsimp only
   refine J.wfin [(3, .e),(4, .e),(5, .q),(6, .q),(7, .q),(8, .q),(11, .e),(12, .e),(13, .q)] (by kernel_rfl) ?_;refine run ?_;refine J.call rfl rfl (cB bx K0) fun z hz=>?_
   refine run ?_;refine J.call rfl rfl (cU q1 z K0 hk1 hq1 hm1 hz) fun q hq=>?_
   refine run ?_;refine run ?_;refine run ?_;refine J.front (.blk bg (grC q) 41) ?_;refine J.front (.blk bi (ints .u8 S.gxY) 24) ?_;exact J.cut (q,bg,bi) ⟨rfl,rfl,rfl,trivial⟩ (by kernel_rfl) hq
  refine J.wst (A:=Nat×Nat×Unit) (fun p=>[(4, .pointer (some ⟨p.2.1,0,none⟩)),(23, .agg (grC q1).toArray),(24, .agg (ints .u8 S.gxX).toArray),(25, .slice (some ⟨p.1,0,none⟩) 1 1)]) [] (fun p=>[.blk p.2.1 [.slice none 0 0, .slice none 0 0] 41, .wown 24 .u8 32 (some ⟨p.1,0,none⟩) 1 1 S.gxX, .blk b2 (ints .u8 S.gxX) 24, .blk b1 (grC q1) 41, .gown opC 11 35 q1.oa q1.n q1.oc q1.zs, .all (q1.zs.map (opE 24)), .wown 24 .u8 32 q1.ia q1.m q1.ic q1.ids]) (fun p=>True) 10 (bs 14 519) (fun p j hp=>?_) (fun st10=>?_)
  ·obtain⟨bx,bg,_⟩:=p;obtain _:=hp
   try dsimp only
   refine J.wnode [] [3,10] 9 (bs 14 519) (by kernel_rfl) ?_;refine run ?_;refine J.nil ?_;refine J.wbr ?_ ?_
   ·refine J.call rfl rfl (cB bx K0) fun z hz=>?_
    refine J.nil ?_;refine J.front (.wrow .u8 32 z.1 1 S.gxX) ?_;refine J.front (.blk bg [.slice none 0 0, .slice none 0 0] 41) ?_;exact st5 (z,bg,()) _ _ _ ⟨rfl,rfl,rfl,rfl,trivial⟩ (by kernel_rfl) (by kernel_rfl) ⟨hz,trivial⟩ inferInstance
   refine J.wbr ?_ ?_
   ·refine J.alloc rfl fun bi=>?_
    refine J.nil ?_;refine J.front (.wown 24 .u8 32 (some ⟨bx,0,none⟩) 1 1 S.gxX) ?_;refine J.front (.blk bi (ints .u8 (List.replicate 32 0)) 24) ?_;refine J.front (.blk bg [.slice none 0 0, .slice none 0 0] 41) ?_;exact st9 (bx,bg,bi,()) _ _ _ ⟨rfl,rfl,rfl,rfl,rfl,trivial⟩ (by kernel_rfl) (by kernel_rfl) trivial inferInstance
   exact J.wbr0
  refine J.wst (A:=Nat×Nat×Unit) (fun p=>[(5, .pointer (some ⟨p.2.1,0,none⟩)),(23, .agg (grC q1).toArray),(24, .agg (ints .u8 S.gxX).toArray),(25, .slice (some ⟨p.1,0,none⟩) 1 1)]) [] (fun p=>[.blk p.2.1 (ints .u8 (List.replicate 32 0)) 24, .wown 24 .u8 32 (some ⟨p.1,0,none⟩) 1 1 S.gxX, .blk b2 (ints .u8 S.gxX) 24, .blk b1 (grC q1) 41, .gown opC 11 35 q1.oa q1.n q1.oc q1.zs, .all (q1.zs.map (opE 24)), .wown 24 .u8 32 q1.ia q1.m q1.ic q1.ids]) (fun p=>True) 10 (bs 14 1031) (fun p j hp=>?_) (fun st11=>?_)
  ·obtain⟨bx,bi,_⟩:=p;obtain _:=hp
   try dsimp only
   refine J.wnode [] [3,9] 9 (bs 14 1031) (by kernel_rfl) ?_;refine run ?_;refine J.nil ?_;refine J.wbr ?_ ?_
   ·refine J.call rfl rfl (cB bx K0) fun z hz=>?_
    refine J.nil ?_;refine J.front (.wrow .u8 32 z.1 1 S.gxX) ?_;refine J.front (.blk bi (ints .u8 (List.replicate 32 0)) 24) ?_;exact st7 (z,bi,()) _ _ _ ⟨rfl,rfl,rfl,rfl,trivial⟩ (by kernel_rfl) (by kernel_rfl) ⟨hz,trivial⟩ inferInstance
   refine J.wbr ?_ ?_
   ·refine J.alloc rfl fun bg=>?_
    refine J.nil ?_;exact st9 (bx,bg,bi,()) _ _ _ ⟨rfl,rfl,rfl,rfl,rfl,trivial⟩ (by kernel_rfl) (by kernel_rfl) trivial inferInstance
   exact J.wbr0
  refine J.wst (A:=Nat×Unit) (fun p=>[(23, .agg (grC q1).toArray),(24, .agg (ints .u8 S.gxX).toArray),(25, .slice (some ⟨p.1,0,none⟩) 1 1)]) [] (fun p=>[.wown 24 .u8 32 (some ⟨p.1,0,none⟩) 1 1 S.gxX, .blk b2 (ints .u8 S.gxX) 24, .blk b1 (grC q1) 41, .gown opC 11 35 q1.oa q1.n q1.oc q1.zs, .all (q1.zs.map (opE 24)), .wown 24 .u8 32 q1.ia q1.m q1.ic q1.ids]) (fun p=>True) 11 (bs 14 7) (fun p j hp=>?_) (fun st12=>?_)
  ·obtain⟨bx,_⟩:=p;obtain _:=hp
   try dsimp only
   refine J.wnode [] [3,9,10] 10 (bs 14 7) (by kernel_rfl) ?_;refine run ?_;refine J.nil ?_;refine J.wbr ?_ ?_
   ·refine J.call rfl rfl (cB bx K0) fun z hz=>?_
    refine J.nil ?_;exact st8 (z,()) _ _ _ ⟨rfl,rfl,rfl,trivial⟩ (by kernel_rfl) (by kernel_rfl) ⟨hz,trivial⟩ inferInstance
   refine J.wbr ?_ ?_
   ·refine J.alloc rfl fun bg=>?_
    refine J.nil ?_;exact st10 (bx,bg,()) _ _ _ ⟨rfl,rfl,rfl,rfl,trivial⟩ (by kernel_rfl) (by kernel_rfl) trivial inferInstance
   refine J.wbr ?_ ?_
   ·refine J.alloc rfl fun bi=>?_
    refine J.nil ?_;exact st11 (bx,bi,()) _ _ _ ⟨rfl,rfl,rfl,rfl,trivial⟩ (by kernel_rfl) (by kernel_rfl) trivial inferInstance
   exact J.wbr0
  refine J.wst (A:=Nat×Nat×Unit) (fun p=>[(4, .pointer (some ⟨p.1,0,none⟩)),(5, .pointer (some ⟨p.2.1,0,none⟩)),(23, .agg (grC q1).toArray),(24, .agg (ints .u8 S.gxX).toArray)]) [] (fun p=>[.blk p.1 [.slice none 0 0, .slice none 0 0] 41, .blk p.2.1 (ints .u8 (List.replicate 32 0)) 24, .blk b2 (ints .u8 S.gxX) 24, .blk b1 (grC q1) 41, .gown opC 11 35 q1.oa q1.n q1.oc q1.zs, .all (q1.zs.map (opE 24)), .wown 24 .u8 32 q1.ia q1.m q1.ic q1.ids]) (fun p=>True) 10 (bs 14 1539) (fun p j hp=>?_) (fun st13=>?_)
  ·obtain⟨bg,bi,_⟩:=p;obtain _:=hp
   try dsimp only
   refine J.wfin [(2, .e),(3, .e),(4, .e),(5, .q),(6, .q),(7, .q),(8, .q),(11, .e),(12, .e),(13, .q)] (by kernel_rfl) ?_;refine run ?_;refine J.b1W rfl rfl hX fun bx=>?_
   refine run ?_;refine J.call rfl rfl (cB bx K0) fun z hz=>?_
   refine run ?_;refine J.call rfl rfl (cU q1 z K0 hk1 hq1 hm1 hz) fun q hq=>?_
   refine run ?_;refine run ?_;refine run ?_;refine J.front (.blk bg (grC q) 41) ?_;refine J.front (.blk bi (ints .u8 S.gxY) 24) ?_;exact J.cut (q,bg,bi) ⟨rfl,rfl,rfl,trivial⟩ (by kernel_rfl) hq
  refine J.wst (A:=Nat×Unit) (fun p=>[(4, .pointer (some ⟨p.1,0,none⟩)),(23, .agg (grC q1).toArray),(24, .agg (ints .u8 S.gxX).toArray)]) [] (fun p=>[.blk p.1 [.slice none 0 0, .slice none 0 0] 41, .blk b2 (ints .u8 S.gxX) 24, .blk b1 (grC q1) 41, .gown opC 11 35 q1.oa q1.n q1.oc q1.zs, .all (q1.zs.map (opE 24)), .wown 24 .u8 32 q1.ia q1.m q1.ic q1.ids]) (fun p=>True) 11 (bs 14 515) (fun p j hp=>?_) (fun st14=>?_)
  ·obtain⟨bg,_⟩:=p;obtain _:=hp
   try dsimp only
   refine J.wnode [] [2,10] 10 (bs 14 515) (by kernel_rfl) ?_;refine run ?_;refine J.nil ?_;refine J.wbr ?_ ?_
   ·refine J.b1W rfl rfl hX fun bx=>?_
    refine J.nil ?_;refine J.front (.wown 24 .u8 32 (some ⟨bx,0,none⟩) 1 1 S.gxX) ?_;refine J.front (.blk bg [.slice none 0 0, .slice none 0 0] 41) ?_;exact st10 (bx,bg,()) _ _ _ ⟨rfl,rfl,rfl,rfl,trivial⟩ (by kernel_rfl) (by kernel_rfl) trivial inferInstance
   refine J.wbr ?_ ?_
   ·refine J.alloc rfl fun bi=>?_
    refine J.nil ?_;refine J.front (.blk bi (ints .u8 (List.replicate 32 0)) 24) ?_;refine J.front (.blk bg [.slice none 0 0, .slice none 0 0] 41) ?_;exact st13 (bg,bi,()) _ _ _ ⟨rfl,rfl,rfl,rfl,trivial⟩ (by kernel_rfl) (by kernel_rfl) trivial inferInstance
   exact J.wbr0
  refine J.wst (A:=Nat×Unit) (fun p=>[(5, .pointer (some ⟨p.1,0,none⟩)),(23, .agg (grC q1).toArray),(24, .agg (ints .u8 S.gxX).toArray)]) [] (fun p=>[.blk p.1 (ints .u8 (List.replicate 32 0)) 24, .blk b2 (ints .u8 S.gxX) 24, .blk b1 (grC q1) 41, .gown opC 11 35 q1.oa q1.n q1.oc q1.zs, .all (q1.zs.map (opE 24)), .wown 24 .u8 32 q1.ia q1.m q1.ic q1.ids]) (fun p=>True) 11 (bs 14 1027) (fun p j hp=>?_) (fun st15=>?_)
  ·obtain⟨bi,_⟩:=p;obtain _:=hp
   try dsimp only
   refine J.wnode [] [2,9] 10 (bs 14 1027) (by kernel_rfl) ?_;refine run ?_;refine J.nil ?_;refine J.wbr ?_ ?_
   ·refine J.b1W rfl rfl hX fun bx=>?_
    refine J.nil ?_;refine J.front (.wown 24 .u8 32 (some ⟨bx,0,none⟩) 1 1 S.gxX) ?_;refine J.front (.blk bi (ints .u8 (List.replicate 32 0)) 24) ?_;exact st11 (bx,bi,()) _ _ _ ⟨rfl,rfl,rfl,rfl,trivial⟩ (by kernel_rfl) (by kernel_rfl) trivial inferInstance
   refine J.wbr ?_ ?_
   ·refine J.alloc rfl fun bg=>?_
    refine J.nil ?_;exact st13 (bg,bi,()) _ _ _ ⟨rfl,rfl,rfl,rfl,trivial⟩ (by kernel_rfl) (by kernel_rfl) trivial inferInstance
   exact J.wbr0
  refine J.wnode [(0, .q),(1, .q)] [2,9,10] 11 (bs 14 3) (by kernel_rfl) ?_;refine run ?_;refine J.nil ?_;refine J.wbr ?_ ?_
  ·refine J.b1W rfl rfl hX fun bx=>?_
   refine J.nil ?_;exact st12 (bx,()) _ _ _ ⟨rfl,rfl,rfl,trivial⟩ (by kernel_rfl) (by kernel_rfl) trivial inferInstance
  refine J.wbr ?_ ?_
  ·refine J.alloc rfl fun bg=>?_
   refine J.nil ?_;exact st14 (bg,()) _ _ _ ⟨rfl,rfl,rfl,trivial⟩ (by kernel_rfl) (by kernel_rfl) trivial inferInstance
  refine J.wbr ?_ ?_
  ·refine J.alloc rfl fun bi=>?_
   refine J.nil ?_;exact st15 (bi,()) _ _ _ ⟨rfl,rfl,rfl,trivial⟩ (by kernel_rfl) (by kernel_rfl) trivial inferInstance
  exact J.wbr0
 obtain⟨q2,b4,b5⟩:=u;dsimp only at hu⊢;have hk2:=hu.ok o2;have hm2:=hu.sz s2;refine run ?_;obtain⟨e0,h0⟩:=ex (Ent.blk b5 (ints .u8 S.gxY) 24);obtain⟨e1,h1⟩:=ex (Ent.blk b4 (grC q2) 41);obtain⟨e2,h2⟩:=ex (Ent.gown opC 11 35 q2.oa q2.n q2.oc q2.zs);obtain⟨e3,h3⟩:=ex (Ent.all (q2.zs.map (opE 24)));obtain⟨e4,h4⟩:=ex (Ent.wown 24 .u8 32 q2.ia q2.m q2.ic q2.ids);rw[←h0,←h1,←h2,←h3,←h4];refine J.joinX (A:=Unit) (fun u=>[(9, .int .i64 40)]) [7,8,31,32,33,34,35,36,37,38,39] (fun _=>[e0,e1,e2,e3,e4, .blk b2 (ints .u8 S.gxX) 24, .blk b1 (grC q1) 41]) (fun _=>True) ?_ (fun _ j3 _=>?_)
 ·refine J.regionW [.blk b2 (ints .u8 S.gxX) 24, .blk b1 (grC q1) 41] mixed ?_;refine J.wst (A:=GrA×Nat×Unit) (fun p=>[(7, .pointer (some ⟨p.2.1,0,none⟩)),(32, .agg #[.slice none 0 0, .slice none 0 0]),(33, .agg (ints .u8 S.gxX).toArray),(36, .tuple #[.agg (grC p.1).toArray, .agg (ints .u8 (List.replicate 32 0)).toArray, .int .i64 40]),(37, .agg (grC p.1).toArray),(38, .agg (ints .u8 (List.replicate 32 0)).toArray),(39, .int .i64 40)]) [31,34,35] (fun p=>[.blk p.2.1 [.slice none 0 0, .slice none 0 0] 41,e0,e1,e2,e3,e4, .blk b2 (ints .u8 S.gxX) 24, .blk b1 (grC q1) 41]) (fun p=>True) 4 (bs 14 1023) (fun p j hp=>?_) (fun st0=>?_)
  ·obtain⟨q,bg,_⟩:=p;obtain _:=hp
   try dsimp only
   refine J.wfin [(10, .e),(11, .e),(12, .e),(13, .q)] (by kernel_rfl) ?_;refine run ?_;refine J.alloc rfl fun bi=>?_
   refine run ?_;refine run ?_;refine run ?_;exact J.cut () ⟨rfl,trivial⟩ (by kernel_rfl) trivial
  refine J.wst (A:=GrA×Nat×Unit) (fun p=>[(8, .pointer (some ⟨p.2.1,0,none⟩)),(32, .agg #[.slice none 0 0, .slice none 0 0]),(33, .agg (ints .u8 S.gxX).toArray),(36, .tuple #[.agg (grC p.1).toArray, .agg (ints .u8 (List.replicate 32 0)).toArray, .int .i64 40]),(37, .agg (grC p.1).toArray),(38, .agg (ints .u8 (List.replicate 32 0)).toArray),(39, .int .i64 40)]) [31,34,35] (fun p=>[.blk p.2.1 (ints .u8 (List.replicate 32 0)) 24,e0,e1,e2,e3,e4, .blk b2 (ints .u8 S.gxX) 24, .blk b1 (grC q1) 41]) (fun p=>True) 4 (bs 14 1535) (fun p j hp=>?_) (fun st1=>?_)
  ·obtain⟨q,bi,_⟩:=p;obtain _:=hp
   try dsimp only
   refine J.wfin [(9, .e),(11, .e),(12, .e),(13, .q)] (by kernel_rfl) ?_;refine run ?_;refine J.alloc rfl fun bg=>?_
   refine run ?_;refine run ?_;refine run ?_;exact J.cut () ⟨rfl,trivial⟩ (by kernel_rfl) trivial
  refine J.wst (A:=GrA×Unit) (fun p=>[(32, .agg #[.slice none 0 0, .slice none 0 0]),(33, .agg (ints .u8 S.gxX).toArray),(36, .tuple #[.agg (grC p.1).toArray, .agg (ints .u8 (List.replicate 32 0)).toArray, .int .i64 40])]) [34,35] (fun p=>[e0,e1,e2,e3,e4, .blk b2 (ints .u8 S.gxX) 24, .blk b1 (grC q1) 41]) (fun p=>True) 9 (bs 14 31) (fun p j hp=>?_) (fun st2=>?_)
  ·obtain⟨q,_⟩:=p;obtain _:=hp
   try dsimp only
   refine J.wnode [(5, .q),(6, .q),(7, .q),(8, .q)] [9,10] 4 (bs 14 511) (by kernel_rfl) ?_;refine run ?_;refine J.nil ?_;refine J.wbr ?_ ?_
   ·refine J.alloc rfl fun bg=>?_
    refine J.nil ?_;exact st0 (q,bg,()) _ _ _ ⟨rfl,rfl,rfl,rfl,rfl,rfl,rfl,trivial⟩ (by kernel_rfl) (by kernel_rfl) trivial inferInstance
   refine J.wbr ?_ ?_
   ·refine J.alloc rfl fun bi=>?_
    refine J.nil ?_;exact st1 (q,bi,()) _ _ _ ⟨rfl,rfl,rfl,rfl,rfl,rfl,rfl,trivial⟩ (by kernel_rfl) (by kernel_rfl) trivial inferInstance
   exact J.wbr0
  refine J.wst (A:=GrA×Nat×Unit) (fun p=>[(7, .pointer (some ⟨p.2.1,0,none⟩)),(32, .agg #[.slice none 0 0, .slice none 0 0]),(33, .agg (ints .u8 S.gxX).toArray),(36, .tuple #[.agg (grC p.1).toArray, .agg (ints .u8 (List.replicate 32 0)).toArray, .int .i64 40])]) [34,35] (fun p=>[.blk p.2.1 [.slice none 0 0, .slice none 0 0] 41,e0,e1,e2,e3,e4, .blk b2 (ints .u8 S.gxX) 24, .blk b1 (grC q1) 41]) (fun p=>True) 8 (bs 14 543) (fun p j hp=>?_) (fun st3=>?_)
  ·obtain⟨q,bg,_⟩:=p;obtain _:=hp
   try dsimp only
   refine J.wfin [(5, .q),(6, .q),(7, .q),(8, .q),(10, .e),(11, .e),(12, .e),(13, .q)] (by kernel_rfl) ?_;refine run ?_;refine J.alloc rfl fun bi=>?_
   refine run ?_;refine run ?_;refine run ?_;exact J.cut () ⟨rfl,trivial⟩ (by kernel_rfl) trivial
  refine J.wst (A:=(Option Addr×Nat)×Nat×Nat×Unit) (fun p=>[(7, .pointer (some ⟨p.2.1,0,none⟩)),(8, .pointer (some ⟨p.2.2.1,0,none⟩)),(32, .agg #[.slice none 0 0, .slice none 0 0]),(33, .agg (ints .u8 S.gxX).toArray),(35, .agg (opC ⟨S.gxU,p.1.1,p.1.2⟩).toArray)]) [34] (fun p=>[.blk p.2.1 [.slice none 0 0, .slice none 0 0] 41, .blk p.2.2.1 (ints .u8 (List.replicate 32 0)) 24, .wrow .u8 32 p.1.1 1 S.gxX,e0,e1,e2,e3,e4, .blk b2 (ints .u8 S.gxX) 24, .blk b1 (grC q1) 41]) (fun p=>1≤p.1.2∧True) 8 (bs 14 1551) (fun p j hp=>?_) (fun st4=>?_)
  ·obtain⟨z,bg,bi,_⟩:=p;obtain⟨hz,_⟩:=hp
   try dsimp only
   try dsimp only at hz
   refine J.wfin [(4, .e),(5, .q),(6, .q),(7, .q),(8, .q),(11, .e),(12, .e),(13, .q)] (by kernel_rfl) ?_;refine run ?_;refine J.call rfl rfl (cN z K0 hz) fun q hq=>?_
   refine run ?_;refine run ?_;refine run ?_;exact J.cut () ⟨rfl,trivial⟩ (by kernel_rfl) trivial
  refine J.wst (A:=(Option Addr×Nat)×Nat×Unit) (fun p=>[(7, .pointer (some ⟨p.2.1,0,none⟩)),(32, .agg #[.slice none 0 0, .slice none 0 0]),(33, .agg (ints .u8 S.gxX).toArray),(35, .agg (opC ⟨S.gxU,p.1.1,p.1.2⟩).toArray)]) [34] (fun p=>[.blk p.2.1 [.slice none 0 0, .slice none 0 0] 41, .wrow .u8 32 p.1.1 1 S.gxX,e0,e1,e2,e3,e4, .blk b2 (ints .u8 S.gxX) 24, .blk b1 (grC q1) 41]) (fun p=>1≤p.1.2∧True) 9 (bs 14 527) (fun p j hp=>?_) (fun st5=>?_)
  ·obtain⟨z,bg,_⟩:=p;obtain⟨hz,_⟩:=hp
   try dsimp only
   try dsimp only at hz
   refine J.wnode [] [4,10] 8 (bs 14 527) (by kernel_rfl) ?_;refine run ?_;refine J.nil ?_;refine J.wbr ?_ ?_
   ·refine J.call rfl rfl (cN z K0 hz) fun q hq=>?_
    refine J.nil ?_;exact st3 (q,bg,()) _ _ _ ⟨rfl,rfl,rfl,rfl,trivial⟩ (by kernel_rfl) (by kernel_rfl) trivial inferInstance
   refine J.wbr ?_ ?_
   ·refine J.alloc rfl fun bi=>?_
    refine J.nil ?_;refine J.front (.wrow .u8 32 z.1 1 S.gxX) ?_;refine J.front (.blk bi (ints .u8 (List.replicate 32 0)) 24) ?_;refine J.front (.blk bg [.slice none 0 0, .slice none 0 0] 41) ?_;exact st4 (z,bg,bi,()) _ _ _ ⟨rfl,rfl,rfl,rfl,rfl,trivial⟩ (by kernel_rfl) (by kernel_rfl) ⟨hz,trivial⟩ inferInstance
   exact J.wbr0
  refine J.wst (A:=GrA×Nat×Unit) (fun p=>[(8, .pointer (some ⟨p.2.1,0,none⟩)),(32, .agg #[.slice none 0 0, .slice none 0 0]),(33, .agg (ints .u8 S.gxX).toArray),(36, .tuple #[.agg (grC p.1).toArray, .agg (ints .u8 (List.replicate 32 0)).toArray, .int .i64 40])]) [34,35] (fun p=>[.blk p.2.1 (ints .u8 (List.replicate 32 0)) 24,e0,e1,e2,e3,e4, .blk b2 (ints .u8 S.gxX) 24, .blk b1 (grC q1) 41]) (fun p=>True) 8 (bs 14 1055) (fun p j hp=>?_) (fun st6=>?_)
  ·obtain⟨q,bi,_⟩:=p;obtain _:=hp
   try dsimp only
   refine J.wfin [(5, .q),(6, .q),(7, .q),(8, .q),(9, .e),(11, .e),(12, .e),(13, .q)] (by kernel_rfl) ?_;refine run ?_;refine J.alloc rfl fun bg=>?_
   refine run ?_;refine run ?_;refine run ?_;exact J.cut () ⟨rfl,trivial⟩ (by kernel_rfl) trivial
  refine J.wst (A:=(Option Addr×Nat)×Nat×Unit) (fun p=>[(8, .pointer (some ⟨p.2.1,0,none⟩)),(32, .agg #[.slice none 0 0, .slice none 0 0]),(33, .agg (ints .u8 S.gxX).toArray),(35, .agg (opC ⟨S.gxU,p.1.1,p.1.2⟩).toArray)]) [34] (fun p=>[.blk p.2.1 (ints .u8 (List.replicate 32 0)) 24, .wrow .u8 32 p.1.1 1 S.gxX,e0,e1,e2,e3,e4, .blk b2 (ints .u8 S.gxX) 24, .blk b1 (grC q1) 41]) (fun p=>1≤p.1.2∧True) 9 (bs 14 1039) (fun p j hp=>?_) (fun st7=>?_)
  ·obtain⟨z,bi,_⟩:=p;obtain⟨hz,_⟩:=hp
   try dsimp only
   try dsimp only at hz
   refine J.wnode [] [4,9] 8 (bs 14 1039) (by kernel_rfl) ?_;refine run ?_;refine J.nil ?_;refine J.wbr ?_ ?_
   ·refine J.call rfl rfl (cN z K0 hz) fun q hq=>?_
    refine J.nil ?_;exact st6 (q,bi,()) _ _ _ ⟨rfl,rfl,rfl,rfl,trivial⟩ (by kernel_rfl) (by kernel_rfl) trivial inferInstance
   refine J.wbr ?_ ?_
   ·refine J.alloc rfl fun bg=>?_
    refine J.nil ?_;exact st4 (z,bg,bi,()) _ _ _ ⟨rfl,rfl,rfl,rfl,rfl,trivial⟩ (by kernel_rfl) (by kernel_rfl) ⟨hz,trivial⟩ inferInstance
   exact J.wbr0
  refine J.wst (A:=(Option Addr×Nat)×Unit) (fun p=>[(32, .agg #[.slice none 0 0, .slice none 0 0]),(33, .agg (ints .u8 S.gxX).toArray),(35, .agg (opC ⟨S.gxU,p.1.1,p.1.2⟩).toArray)]) [34] (fun p=>[.wrow .u8 32 p.1.1 1 S.gxX,e0,e1,e2,e3,e4, .blk b2 (ints .u8 S.gxX) 24, .blk b1 (grC q1) 41]) (fun p=>1≤p.1.2∧True) 10 (bs 14 15) (fun p j hp=>?_) (fun st8=>?_)
  ·obtain⟨z,_⟩:=p;obtain⟨hz,_⟩:=hp
   try dsimp only
   try dsimp only at hz
   refine J.wnode [] [4,9,10] 9 (bs 14 15) (by kernel_rfl) ?_;refine run ?_;refine J.nil ?_;refine J.wbr ?_ ?_
   ·refine J.call rfl rfl (cN z K0 hz) fun q hq=>?_
    refine J.nil ?_;exact st2 (q,()) _ _ _ ⟨rfl,rfl,rfl,trivial⟩ (by kernel_rfl) (by kernel_rfl) trivial inferInstance
   refine J.wbr ?_ ?_
   ·refine J.alloc rfl fun bg=>?_
    refine J.nil ?_;exact st5 (z,bg,()) _ _ _ ⟨rfl,rfl,rfl,rfl,trivial⟩ (by kernel_rfl) (by kernel_rfl) ⟨hz,trivial⟩ inferInstance
   refine J.wbr ?_ ?_
   ·refine J.alloc rfl fun bi=>?_
    refine J.nil ?_;exact st7 (z,bi,()) _ _ _ ⟨rfl,rfl,rfl,rfl,trivial⟩ (by kernel_rfl) (by kernel_rfl) ⟨hz,trivial⟩ inferInstance
   exact J.wbr0
  refine J.wst (A:=Nat×Nat×Nat×Unit) (fun p=>[(7, .pointer (some ⟨p.2.1,0,none⟩)),(8, .pointer (some ⟨p.2.2.1,0,none⟩)),(32, .agg #[.slice none 0 0, .slice none 0 0]),(33, .agg (ints .u8 S.gxX).toArray),(34, .slice (some ⟨p.1,0,none⟩) 1 1)]) [] (fun p=>[.blk p.2.1 [.slice none 0 0, .slice none 0 0] 41, .blk p.2.2.1 (ints .u8 (List.replicate 32 0)) 24, .wown 24 .u8 32 (some ⟨p.1,0,none⟩) 1 1 S.gxX,e0,e1,e2,e3,e4, .blk b2 (ints .u8 S.gxX) 24, .blk b1 (grC q1) 41]) (fun p=>True) 9 (bs 14 1543) (fun p j hp=>?_) (fun st9=>?_)
  ·obtain⟨bx,bg,bi,_⟩:=p;obtain _:=hp
   try dsimp only
   refine J.wfin [(3, .e),(4, .e),(5, .q),(6, .q),(7, .q),(8, .q),(11, .e),(12, .e),(13, .q)] (by kernel_rfl) ?_;refine run ?_;refine J.call rfl rfl (cB bx K0) fun z hz=>?_
   refine run ?_;refine J.call rfl rfl (cN z K0 hz) fun q hq=>?_
   refine run ?_;refine run ?_;refine run ?_;exact J.cut () ⟨rfl,trivial⟩ (by kernel_rfl) trivial
  refine J.wst (A:=Nat×Nat×Unit) (fun p=>[(7, .pointer (some ⟨p.2.1,0,none⟩)),(32, .agg #[.slice none 0 0, .slice none 0 0]),(33, .agg (ints .u8 S.gxX).toArray),(34, .slice (some ⟨p.1,0,none⟩) 1 1)]) [] (fun p=>[.blk p.2.1 [.slice none 0 0, .slice none 0 0] 41, .wown 24 .u8 32 (some ⟨p.1,0,none⟩) 1 1 S.gxX,e0,e1,e2,e3,e4, .blk b2 (ints .u8 S.gxX) 24, .blk b1 (grC q1) 41]) (fun p=>True) 10 (bs 14 519) (fun p j hp=>?_) (fun st10=>?_)
  ·obtain⟨bx,bg,_⟩:=p;obtain _:=hp
   try dsimp only
   refine J.wnode [] [3,10] 9 (bs 14 519) (by kernel_rfl) ?_;refine run ?_;refine J.nil ?_;refine J.wbr ?_ ?_
   ·refine J.call rfl rfl (cB bx K0) fun z hz=>?_
    refine J.nil ?_;refine J.front (.wrow .u8 32 z.1 1 S.gxX) ?_;refine J.front (.blk bg [.slice none 0 0, .slice none 0 0] 41) ?_;exact st5 (z,bg,()) _ _ _ ⟨rfl,rfl,rfl,rfl,trivial⟩ (by kernel_rfl) (by kernel_rfl) ⟨hz,trivial⟩ inferInstance
   refine J.wbr ?_ ?_
   ·refine J.alloc rfl fun bi=>?_
    refine J.nil ?_;refine J.front (.wown 24 .u8 32 (some ⟨bx,0,none⟩) 1 1 S.gxX) ?_;refine J.front (.blk bi (ints .u8 (List.replicate 32 0)) 24) ?_;refine J.front (.blk bg [.slice none 0 0, .slice none 0 0] 41) ?_;exact st9 (bx,bg,bi,()) _ _ _ ⟨rfl,rfl,rfl,rfl,rfl,trivial⟩ (by kernel_rfl) (by kernel_rfl) trivial inferInstance
   exact J.wbr0
  refine J.wst (A:=Nat×Nat×Unit) (fun p=>[(8, .pointer (some ⟨p.2.1,0,none⟩)),(32, .agg #[.slice none 0 0, .slice none 0 0]),(33, .agg (ints .u8 S.gxX).toArray),(34, .slice (some ⟨p.1,0,none⟩) 1 1)]) [] (fun p=>[.blk p.2.1 (ints .u8 (List.replicate 32 0)) 24, .wown 24 .u8 32 (some ⟨p.1,0,none⟩) 1 1 S.gxX,e0,e1,e2,e3,e4, .blk b2 (ints .u8 S.gxX) 24, .blk b1 (grC q1) 41]) (fun p=>True) 10 (bs 14 1031) (fun p j hp=>?_) (fun st11=>?_)
  ·obtain⟨bx,bi,_⟩:=p;obtain _:=hp
   try dsimp only
   refine J.wnode [] [3,9] 9 (bs 14 1031) (by kernel_rfl) ?_;refine run ?_;refine J.nil ?_;refine J.wbr ?_ ?_
   ·refine J.call rfl rfl (cB bx K0) fun z hz=>?_
    refine J.nil ?_;refine J.front (.wrow .u8 32 z.1 1 S.gxX) ?_;refine J.front (.blk bi (ints .u8 (List.replicate 32 0)) 24) ?_;exact st7 (z,bi,()) _ _ _ ⟨rfl,rfl,rfl,rfl,trivial⟩ (by kernel_rfl) (by kernel_rfl) ⟨hz,trivial⟩ inferInstance
   refine J.wbr ?_ ?_
   ·refine J.alloc rfl fun bg=>?_
    refine J.nil ?_;exact st9 (bx,bg,bi,()) _ _ _ ⟨rfl,rfl,rfl,rfl,rfl,trivial⟩ (by kernel_rfl) (by kernel_rfl) trivial inferInstance
   exact J.wbr0
  refine J.wst (A:=Nat×Unit) (fun p=>[(32, .agg #[.slice none 0 0, .slice none 0 0]),(33, .agg (ints .u8 S.gxX).toArray),(34, .slice (some ⟨p.1,0,none⟩) 1 1)]) [] (fun p=>[.wown 24 .u8 32 (some ⟨p.1,0,none⟩) 1 1 S.gxX,e0,e1,e2,e3,e4, .blk b2 (ints .u8 S.gxX) 24, .blk b1 (grC q1) 41]) (fun p=>True) 11 (bs 14 7) (fun p j hp=>?_) (fun st12=>?_)
  ·obtain⟨bx,_⟩:=p;obtain _:=hp
   try dsimp only
   refine J.wnode [] [3,9,10] 10 (bs 14 7) (by kernel_rfl) ?_;refine run ?_;refine J.nil ?_;refine J.wbr ?_ ?_
   ·refine J.call rfl rfl (cB bx K0) fun z hz=>?_
    refine J.nil ?_;exact st8 (z,()) _ _ _ ⟨rfl,rfl,rfl,trivial⟩ (by kernel_rfl) (by kernel_rfl) ⟨hz,trivial⟩ inferInstance
   refine J.wbr ?_ ?_
   ·refine J.alloc rfl fun bg=>?_
    refine J.nil ?_;exact st10 (bx,bg,()) _ _ _ ⟨rfl,rfl,rfl,rfl,trivial⟩ (by kernel_rfl) (by kernel_rfl) trivial inferInstance
   refine J.wbr ?_ ?_
   ·refine J.alloc rfl fun bi=>?_
    refine J.nil ?_;exact st11 (bx,bi,()) _ _ _ ⟨rfl,rfl,rfl,rfl,trivial⟩ (by kernel_rfl) (by kernel_rfl) trivial inferInstance
   exact J.wbr0
  refine J.wst (A:=Nat×Nat×Unit) (fun p=>[(7, .pointer (some ⟨p.1,0,none⟩)),(8, .pointer (some ⟨p.2.1,0,none⟩)),(32, .agg #[.slice none 0 0, .slice none 0 0]),(33, .agg (ints .u8 S.gxX).toArray)]) [] (fun p=>[.blk p.1 [.slice none 0 0, .slice none 0 0] 41, .blk p.2.1 (ints .u8 (List.replicate 32 0)) 24,e0,e1,e2,e3,e4, .blk b2 (ints .u8 S.gxX) 24, .blk b1 (grC q1) 41]) (fun p=>True) 10 (bs 14 1539) (fun p j hp=>?_) (fun st13=>?_)
  ·obtain⟨bg,bi,_⟩:=p;obtain _:=hp
   try dsimp only
   refine J.wfin [(2, .e),(3, .e),(4, .e),(5, .q),(6, .q),(7, .q),(8, .q),(11, .e),(12, .e),(13, .q)] (by kernel_rfl) ?_;refine run ?_;refine J.b1W rfl rfl hX fun bx=>?_
   refine run ?_;refine J.call rfl rfl (cB bx K0) fun z hz=>?_
   refine run ?_;refine J.call rfl rfl (cN z K0 hz) fun q hq=>?_
   refine run ?_;refine run ?_;refine run ?_;exact J.cut () ⟨rfl,trivial⟩ (by kernel_rfl) trivial
  refine J.wst (A:=Nat×Unit) (fun p=>[(7, .pointer (some ⟨p.1,0,none⟩)),(32, .agg #[.slice none 0 0, .slice none 0 0]),(33, .agg (ints .u8 S.gxX).toArray)]) [] (fun p=>[.blk p.1 [.slice none 0 0, .slice none 0 0] 41,e0,e1,e2,e3,e4, .blk b2 (ints .u8 S.gxX) 24, .blk b1 (grC q1) 41]) (fun p=>True) 11 (bs 14 515) (fun p j hp=>?_) (fun st14=>?_)
  ·obtain⟨bg,_⟩:=p;obtain _:=hp
   try dsimp only
   refine J.wnode [] [2,10] 10 (bs 14 515) (by kernel_rfl) ?_;refine run ?_;refine J.nil ?_;refine J.wbr ?_ ?_
   ·refine J.b1W rfl rfl hX fun bx=>?_
    refine J.nil ?_;refine J.front (.wown 24 .u8 32 (some ⟨bx,0,none⟩) 1 1 S.gxX) ?_;refine J.front (.blk bg [.slice none 0 0, .slice none 0 0] 41) ?_;exact st10 (bx,bg,()) _ _ _ ⟨rfl,rfl,rfl,rfl,trivial⟩ (by kernel_rfl) (by kernel_rfl) trivial inferInstance
   refine J.wbr ?_ ?_
   ·refine J.alloc rfl fun bi=>?_
    refine J.nil ?_;refine J.front (.blk bi (ints .u8 (List.replicate 32 0)) 24) ?_;refine J.front (.blk bg [.slice none 0 0, .slice none 0 0] 41) ?_;exact st13 (bg,bi,()) _ _ _ ⟨rfl,rfl,rfl,rfl,trivial⟩ (by kernel_rfl) (by kernel_rfl) trivial inferInstance
   exact J.wbr0
  refine J.wst (A:=Nat×Unit) (fun p=>[(8, .pointer (some ⟨p.1,0,none⟩)),(32, .agg #[.slice none 0 0, .slice none 0 0]),(33, .agg (ints .u8 S.gxX).toArray)]) [] (fun p=>[.blk p.1 (ints .u8 (List.replicate 32 0)) 24,e0,e1,e2,e3,e4, .blk b2 (ints .u8 S.gxX) 24, .blk b1 (grC q1) 41]) (fun p=>True) 11 (bs 14 1027) (fun p j hp=>?_) (fun st15=>?_)
  ·obtain⟨bi,_⟩:=p;obtain _:=hp
   try dsimp only
   refine J.wnode [] [2,9] 10 (bs 14 1027) (by kernel_rfl) ?_;refine run ?_;refine J.nil ?_;refine J.wbr ?_ ?_
   ·refine J.b1W rfl rfl hX fun bx=>?_
    refine J.nil ?_;refine J.front (.wown 24 .u8 32 (some ⟨bx,0,none⟩) 1 1 S.gxX) ?_;refine J.front (.blk bi (ints .u8 (List.replicate 32 0)) 24) ?_;exact st11 (bx,bi,()) _ _ _ ⟨rfl,rfl,rfl,rfl,trivial⟩ (by kernel_rfl) (by kernel_rfl) trivial inferInstance
   refine J.wbr ?_ ?_
   ·refine J.alloc rfl fun bg=>?_
    refine J.nil ?_;exact st13 (bg,bi,()) _ _ _ ⟨rfl,rfl,rfl,rfl,trivial⟩ (by kernel_rfl) (by kernel_rfl) trivial inferInstance
   exact J.wbr0
  refine J.wst (A:=Unit) (fun p=>[(32, .agg #[.slice none 0 0, .slice none 0 0]),(33, .agg (ints .u8 S.gxX).toArray)]) [] (fun p=>[e0,e1,e2,e3,e4, .blk b2 (ints .u8 S.gxX) 24, .blk b1 (grC q1) 41]) (fun p=>True) 12 (bs 14 3) (fun p j hp=>?_) (fun st16=>?_)
  ·obtain _:=p;obtain _:=hp
   try dsimp only
   refine J.wnode [] [2,9,10] 11 (bs 14 3) (by kernel_rfl) ?_;refine run ?_;refine J.nil ?_;refine J.wbr ?_ ?_
   ·refine J.b1W rfl rfl hX fun bx=>?_
    refine J.nil ?_;exact st12 (bx,()) _ _ _ ⟨rfl,rfl,rfl,trivial⟩ (by kernel_rfl) (by kernel_rfl) trivial inferInstance
   refine J.wbr ?_ ?_
   ·refine J.alloc rfl fun bg=>?_
    refine J.nil ?_;exact st14 (bg,()) _ _ _ ⟨rfl,rfl,rfl,trivial⟩ (by kernel_rfl) (by kernel_rfl) trivial inferInstance
   refine J.wbr ?_ ?_
   ·refine J.alloc rfl fun bi=>?_
    refine J.nil ?_;exact st15 (bi,()) _ _ _ ⟨rfl,rfl,rfl,trivial⟩ (by kernel_rfl) (by kernel_rfl) trivial inferInstance
   exact J.wbr0
  refine J.wst (A:=Nat×Nat×Nat×Unit) (fun p=>[(7, .pointer (some ⟨p.2.1,0,none⟩)),(8, .pointer (some ⟨p.2.2.1,0,none⟩)),(33, .agg (ints .u8 S.gxX).toArray),(34, .slice (some ⟨p.1,0,none⟩) 1 1)]) [] (fun p=>[.blk p.2.1 [.slice none 0 0, .slice none 0 0] 41, .blk p.2.2.1 (ints .u8 (List.replicate 32 0)) 24, .wown 24 .u8 32 (some ⟨p.1,0,none⟩) 1 1 S.gxX,e0,e1,e2,e3,e4, .blk b2 (ints .u8 S.gxX) 24, .blk b1 (grC q1) 41]) (fun p=>True) 10 (bs 14 1542) (fun p j hp=>?_) (fun st17=>?_)
  ·obtain⟨bx,bg,bi,_⟩:=p;obtain _:=hp
   try dsimp only
   refine J.wfin [(0, .e),(3, .e),(4, .e),(5, .q),(6, .q),(7, .q),(8, .q),(11, .e),(12, .e),(13, .q)] (by kernel_rfl) ?_;refine run ?_;refine J.callp rfl rfl (fun w' M=>dagNew w') ?_;refine run ?_;refine J.call rfl rfl (cB bx K0) fun z hz=>?_
   refine run ?_;refine J.call rfl rfl (cN z K0 hz) fun q hq=>?_
   refine run ?_;refine run ?_;refine run ?_;exact J.cut () ⟨rfl,trivial⟩ (by kernel_rfl) trivial
  refine J.wst (A:=Nat×Nat×Unit) (fun p=>[(7, .pointer (some ⟨p.2.1,0,none⟩)),(33, .agg (ints .u8 S.gxX).toArray),(34, .slice (some ⟨p.1,0,none⟩) 1 1)]) [] (fun p=>[.blk p.2.1 [.slice none 0 0, .slice none 0 0] 41, .wown 24 .u8 32 (some ⟨p.1,0,none⟩) 1 1 S.gxX,e0,e1,e2,e3,e4, .blk b2 (ints .u8 S.gxX) 24, .blk b1 (grC q1) 41]) (fun p=>True) 11 (bs 14 518) (fun p j hp=>?_) (fun st18=>?_)
  ·obtain⟨bx,bg,_⟩:=p;obtain _:=hp
   try dsimp only
   refine J.wnode [] [0,10] 10 (bs 14 518) (by kernel_rfl) ?_;refine run ?_;refine J.nil ?_;refine J.wbr ?_ ?_
   ·refine J.callp rfl rfl (fun w' M=>dagNew w') ?_;refine J.nil ?_;exact st10 (bx,bg,()) _ _ _ ⟨rfl,rfl,rfl,rfl,trivial⟩ (by kernel_rfl) (by kernel_rfl) trivial inferInstance
   refine J.wbr ?_ ?_
   ·refine J.alloc rfl fun bi=>?_
    refine J.nil ?_;refine J.front (.wown 24 .u8 32 (some ⟨bx,0,none⟩) 1 1 S.gxX) ?_;refine J.front (.blk bi (ints .u8 (List.replicate 32 0)) 24) ?_;refine J.front (.blk bg [.slice none 0 0, .slice none 0 0] 41) ?_;exact st17 (bx,bg,bi,()) _ _ _ ⟨rfl,rfl,rfl,rfl,trivial⟩ (by kernel_rfl) (by kernel_rfl) trivial inferInstance
   exact J.wbr0
  refine J.wst (A:=Nat×Nat×Unit) (fun p=>[(8, .pointer (some ⟨p.2.1,0,none⟩)),(33, .agg (ints .u8 S.gxX).toArray),(34, .slice (some ⟨p.1,0,none⟩) 1 1)]) [] (fun p=>[.blk p.2.1 (ints .u8 (List.replicate 32 0)) 24, .wown 24 .u8 32 (some ⟨p.1,0,none⟩) 1 1 S.gxX,e0,e1,e2,e3,e4, .blk b2 (ints .u8 S.gxX) 24, .blk b1 (grC q1) 41]) (fun p=>True) 11 (bs 14 1030) (fun p j hp=>?_) (fun st19=>?_)
  ·obtain⟨bx,bi,_⟩:=p;obtain _:=hp
   try dsimp only
   refine J.wnode [] [0,9] 10 (bs 14 1030) (by kernel_rfl) ?_;refine run ?_;refine J.nil ?_;refine J.wbr ?_ ?_
   ·refine J.callp rfl rfl (fun w' M=>dagNew w') ?_;refine J.nil ?_;exact st11 (bx,bi,()) _ _ _ ⟨rfl,rfl,rfl,rfl,trivial⟩ (by kernel_rfl) (by kernel_rfl) trivial inferInstance
   refine J.wbr ?_ ?_
   ·refine J.alloc rfl fun bg=>?_
    refine J.nil ?_;exact st17 (bx,bg,bi,()) _ _ _ ⟨rfl,rfl,rfl,rfl,trivial⟩ (by kernel_rfl) (by kernel_rfl) trivial inferInstance
   exact J.wbr0
  refine J.wst (A:=Nat×Unit) (fun p=>[(33, .agg (ints .u8 S.gxX).toArray),(34, .slice (some ⟨p.1,0,none⟩) 1 1)]) [] (fun p=>[.wown 24 .u8 32 (some ⟨p.1,0,none⟩) 1 1 S.gxX,e0,e1,e2,e3,e4, .blk b2 (ints .u8 S.gxX) 24, .blk b1 (grC q1) 41]) (fun p=>True) 12 (bs 14 6) (fun p j hp=>?_) (fun st20=>?_)
  ·obtain⟨bx,_⟩:=p;obtain _:=hp
   try dsimp only
   refine J.wnode [] [0,9,10] 11 (bs 14 6) (by kernel_rfl) ?_;refine run ?_;refine J.nil ?_;refine J.wbr ?_ ?_
   ·refine J.callp rfl rfl (fun w' M=>dagNew w') ?_;refine J.nil ?_;exact st12 (bx,()) _ _ _ ⟨rfl,rfl,rfl,trivial⟩ (by kernel_rfl) (by kernel_rfl) trivial inferInstance
   refine J.wbr ?_ ?_
   ·refine J.alloc rfl fun bg=>?_
    refine J.nil ?_;exact st18 (bx,bg,()) _ _ _ ⟨rfl,rfl,rfl,trivial⟩ (by kernel_rfl) (by kernel_rfl) trivial inferInstance
   refine J.wbr ?_ ?_
   ·refine J.alloc rfl fun bi=>?_
    refine J.nil ?_;exact st19 (bx,bi,()) _ _ _ ⟨rfl,rfl,rfl,trivial⟩ (by kernel_rfl) (by kernel_rfl) trivial inferInstance
   exact J.wbr0
  refine J.wst (A:=Nat×Nat×Unit) (fun p=>[(7, .pointer (some ⟨p.1,0,none⟩)),(8, .pointer (some ⟨p.2.1,0,none⟩)),(33, .agg (ints .u8 S.gxX).toArray)]) [] (fun p=>[.blk p.1 [.slice none 0 0, .slice none 0 0] 41, .blk p.2.1 (ints .u8 (List.replicate 32 0)) 24,e0,e1,e2,e3,e4, .blk b2 (ints .u8 S.gxX) 24, .blk b1 (grC q1) 41]) (fun p=>True) 11 (bs 14 1538) (fun p j hp=>?_) (fun st21=>?_)
  ·obtain⟨bg,bi,_⟩:=p;obtain _:=hp
   try dsimp only
   refine J.wnode [] [0,2] 10 (bs 14 1538) (by kernel_rfl) ?_;refine run ?_;refine J.nil ?_;refine J.wbr ?_ ?_
   ·refine J.callp rfl rfl (fun w' M=>dagNew w') ?_;refine J.nil ?_;exact st13 (bg,bi,()) _ _ _ ⟨rfl,rfl,rfl,rfl,trivial⟩ (by kernel_rfl) (by kernel_rfl) trivial inferInstance
   refine J.wbr ?_ ?_
   ·refine J.b1W rfl rfl hX fun bx=>?_
    refine J.nil ?_;refine J.front (.wown 24 .u8 32 (some ⟨bx,0,none⟩) 1 1 S.gxX) ?_;refine J.front (.blk bi (ints .u8 (List.replicate 32 0)) 24) ?_;refine J.front (.blk bg [.slice none 0 0, .slice none 0 0] 41) ?_;exact st17 (bx,bg,bi,()) _ _ _ ⟨rfl,rfl,rfl,rfl,trivial⟩ (by kernel_rfl) (by kernel_rfl) trivial inferInstance
   exact J.wbr0
  refine J.wst (A:=Nat×Unit) (fun p=>[(7, .pointer (some ⟨p.1,0,none⟩)),(33, .agg (ints .u8 S.gxX).toArray)]) [] (fun p=>[.blk p.1 [.slice none 0 0, .slice none 0 0] 41,e0,e1,e2,e3,e4, .blk b2 (ints .u8 S.gxX) 24, .blk b1 (grC q1) 41]) (fun p=>True) 12 (bs 14 514) (fun p j hp=>?_) (fun st22=>?_)
  ·obtain⟨bg,_⟩:=p;obtain _:=hp
   try dsimp only
   refine J.wnode [] [0,2,10] 11 (bs 14 514) (by kernel_rfl) ?_;refine run ?_;refine J.nil ?_;refine J.wbr ?_ ?_
   ·refine J.callp rfl rfl (fun w' M=>dagNew w') ?_;refine J.nil ?_;exact st14 (bg,()) _ _ _ ⟨rfl,rfl,rfl,trivial⟩ (by kernel_rfl) (by kernel_rfl) trivial inferInstance
   refine J.wbr ?_ ?_
   ·refine J.b1W rfl rfl hX fun bx=>?_
    refine J.nil ?_;refine J.front (.wown 24 .u8 32 (some ⟨bx,0,none⟩) 1 1 S.gxX) ?_;refine J.front (.blk bg [.slice none 0 0, .slice none 0 0] 41) ?_;exact st18 (bx,bg,()) _ _ _ ⟨rfl,rfl,rfl,trivial⟩ (by kernel_rfl) (by kernel_rfl) trivial inferInstance
   refine J.wbr ?_ ?_
   ·refine J.alloc rfl fun bi=>?_
    refine J.nil ?_;refine J.front (.blk bi (ints .u8 (List.replicate 32 0)) 24) ?_;refine J.front (.blk bg [.slice none 0 0, .slice none 0 0] 41) ?_;exact st21 (bg,bi,()) _ _ _ ⟨rfl,rfl,rfl,trivial⟩ (by kernel_rfl) (by kernel_rfl) trivial inferInstance
   exact J.wbr0
  refine J.wst (A:=Nat×Unit) (fun p=>[(8, .pointer (some ⟨p.1,0,none⟩)),(33, .agg (ints .u8 S.gxX).toArray)]) [] (fun p=>[.blk p.1 (ints .u8 (List.replicate 32 0)) 24,e0,e1,e2,e3,e4, .blk b2 (ints .u8 S.gxX) 24, .blk b1 (grC q1) 41]) (fun p=>True) 12 (bs 14 1026) (fun p j hp=>?_) (fun st23=>?_)
  ·obtain⟨bi,_⟩:=p;obtain _:=hp
   try dsimp only
   refine J.wnode [] [0,2,9] 11 (bs 14 1026) (by kernel_rfl) ?_;refine run ?_;refine J.nil ?_;refine J.wbr ?_ ?_
   ·refine J.callp rfl rfl (fun w' M=>dagNew w') ?_;refine J.nil ?_;exact st15 (bi,()) _ _ _ ⟨rfl,rfl,rfl,trivial⟩ (by kernel_rfl) (by kernel_rfl) trivial inferInstance
   refine J.wbr ?_ ?_
   ·refine J.b1W rfl rfl hX fun bx=>?_
    refine J.nil ?_;refine J.front (.wown 24 .u8 32 (some ⟨bx,0,none⟩) 1 1 S.gxX) ?_;refine J.front (.blk bi (ints .u8 (List.replicate 32 0)) 24) ?_;exact st19 (bx,bi,()) _ _ _ ⟨rfl,rfl,rfl,trivial⟩ (by kernel_rfl) (by kernel_rfl) trivial inferInstance
   refine J.wbr ?_ ?_
   ·refine J.alloc rfl fun bg=>?_
    refine J.nil ?_;exact st21 (bg,bi,()) _ _ _ ⟨rfl,rfl,rfl,trivial⟩ (by kernel_rfl) (by kernel_rfl) trivial inferInstance
   exact J.wbr0
  refine J.wnode [(1, .q)] [0,2,9,10] 12 (bs 14 2) (by kernel_rfl) ?_;refine run ?_;refine J.nil ?_;refine J.wbr ?_ ?_
  ·refine J.callp rfl rfl (fun w' M=>dagNew w') ?_;refine J.nil ?_;exact st16 () _ _ _ ⟨rfl,rfl,trivial⟩ (by kernel_rfl) (by kernel_rfl) trivial inferInstance
  refine J.wbr ?_ ?_
  ·refine J.b1W rfl rfl hX fun bx=>?_
   refine J.nil ?_;exact st20 (bx,()) _ _ _ ⟨rfl,rfl,trivial⟩ (by kernel_rfl) (by kernel_rfl) trivial inferInstance
  refine J.wbr ?_ ?_
  ·refine J.alloc rfl fun bg=>?_
   refine J.nil ?_;exact st22 (bg,()) _ _ _ ⟨rfl,rfl,trivial⟩ (by kernel_rfl) (by kernel_rfl) trivial inferInstance
  refine J.wbr ?_ ?_
  ·refine J.alloc rfl fun bi=>?_
   refine J.nil ?_;exact st23 (bi,()) _ _ _ ⟨rfl,rfl,trivial⟩ (by kernel_rfl) (by kernel_rfl) trivial inferInstance
  exact J.wbr0
 rw[h0,h1,h2,h3,h4];refine run ?_;refine J.joinX (A:=Unit) (fun u=>[(12, .int .i64 14)]) [10,11,40,41,42,43,44,45,46] (fun _=>[.blk b5 (ints .u8 S.gxY) 24, .blk b4 (grC q2) 41, .gown opC 11 35 q2.oa q2.n q2.oc q2.zs, .all (q2.zs.map (opE 24)), .wown 24 .u8 32 q2.ia q2.m q2.ic q2.ids, .blk b2 (ints .u8 S.gxX) 24, .blk b1 (grC q1) 41]) (fun _=>True) ?_ (fun _ j4 _=>?_)
 ·refine J.regionW [.blk b4 (grC q2) 41] mixed ?_;refine J.wst (A:=GrA×Nat×Unit) (fun p=>[(10, .pointer (some ⟨p.2.1,0,none⟩)),(41, .agg (grC q2).toArray),(43, .tuple #[.agg (grC p.1).toArray, .agg (ints .u8 (List.replicate 32 0)).toArray, .int .i64 14]),(44, .agg (grC p.1).toArray),(45, .agg (ints .u8 (List.replicate 32 0)).toArray),(46, .int .i64 14)]) [40,42] (fun p=>[.blk p.2.1 [.slice none 0 0, .slice none 0 0] 41, .blk b5 (ints .u8 S.gxY) 24, .blk b4 (grC q2) 41, .gown opC 11 35 q2.oa q2.n q2.oc q2.zs, .all (q2.zs.map (opE 24)), .wown 24 .u8 32 q2.ia q2.m q2.ic q2.ids, .blk b2 (ints .u8 S.gxX) 24, .blk b1 (grC q1) 41]) (fun p=>True) 4 (bs 12 255) (fun p j hp=>?_) (fun st0=>?_)
  ·obtain⟨q,bg,_⟩:=p;obtain _:=hp
   try dsimp only
   refine J.wfin [(8, .e),(9, .e),(10, .e),(11, .q)] (by kernel_rfl) ?_;refine run ?_;refine J.alloc rfl fun bi=>?_
   refine run ?_;refine run ?_;refine run ?_;exact J.cut () ⟨rfl,trivial⟩ (by kernel_rfl) trivial
  refine J.wst (A:=GrA×Nat×Unit) (fun p=>[(11, .pointer (some ⟨p.2.1,0,none⟩)),(41, .agg (grC q2).toArray),(43, .tuple #[.agg (grC p.1).toArray, .agg (ints .u8 (List.replicate 32 0)).toArray, .int .i64 14]),(44, .agg (grC p.1).toArray),(45, .agg (ints .u8 (List.replicate 32 0)).toArray),(46, .int .i64 14)]) [40,42] (fun p=>[.blk p.2.1 (ints .u8 (List.replicate 32 0)) 24, .blk b5 (ints .u8 S.gxY) 24, .blk b4 (grC q2) 41, .gown opC 11 35 q2.oa q2.n q2.oc q2.zs, .all (q2.zs.map (opE 24)), .wown 24 .u8 32 q2.ia q2.m q2.ic q2.ids, .blk b2 (ints .u8 S.gxX) 24, .blk b1 (grC q1) 41]) (fun p=>True) 4 (bs 12 383) (fun p j hp=>?_) (fun st1=>?_)
  ·obtain⟨q,bi,_⟩:=p;obtain _:=hp
   try dsimp only
   refine J.wfin [(7, .e),(9, .e),(10, .e),(11, .q)] (by kernel_rfl) ?_;refine run ?_;refine J.alloc rfl fun bg=>?_
   refine run ?_;refine run ?_;refine run ?_;exact J.cut () ⟨rfl,trivial⟩ (by kernel_rfl) trivial
  refine J.wst (A:=GrA×Unit) (fun p=>[(41, .agg (grC q2).toArray),(43, .tuple #[.agg (grC p.1).toArray, .agg (ints .u8 (List.replicate 32 0)).toArray, .int .i64 14])]) [42] (fun p=>[.blk b5 (ints .u8 S.gxY) 24, .blk b4 (grC q2) 41, .gown opC 11 35 q2.oa q2.n q2.oc q2.zs, .all (q2.zs.map (opE 24)), .wown 24 .u8 32 q2.ia q2.m q2.ic q2.ids, .blk b2 (ints .u8 S.gxX) 24, .blk b1 (grC q1) 41]) (fun p=>True) 9 (bs 12 7) (fun p j hp=>?_) (fun st2=>?_)
  ·obtain⟨q,_⟩:=p;obtain _:=hp
   try dsimp only
   refine J.wnode [(3, .q),(4, .q),(5, .q),(6, .q)] [7,8] 4 (bs 12 127) (by kernel_rfl) ?_;refine run ?_;refine J.nil ?_;refine J.wbr ?_ ?_
   ·refine J.alloc rfl fun bg=>?_
    refine J.nil ?_;exact st0 (q,bg,()) _ _ _ ⟨rfl,rfl,rfl,rfl,rfl,rfl,trivial⟩ (by kernel_rfl) (by kernel_rfl) trivial inferInstance
   refine J.wbr ?_ ?_
   ·refine J.alloc rfl fun bi=>?_
    refine J.nil ?_;exact st1 (q,bi,()) _ _ _ ⟨rfl,rfl,rfl,rfl,rfl,rfl,trivial⟩ (by kernel_rfl) (by kernel_rfl) trivial inferInstance
   exact J.wbr0
  refine J.wst (A:=GrA×Nat×Unit) (fun p=>[(10, .pointer (some ⟨p.2.1,0,none⟩)),(41, .agg (grC q2).toArray),(43, .tuple #[.agg (grC p.1).toArray, .agg (ints .u8 (List.replicate 32 0)).toArray, .int .i64 14])]) [42] (fun p=>[.blk p.2.1 [.slice none 0 0, .slice none 0 0] 41, .blk b5 (ints .u8 S.gxY) 24, .blk b4 (grC q2) 41, .gown opC 11 35 q2.oa q2.n q2.oc q2.zs, .all (q2.zs.map (opE 24)), .wown 24 .u8 32 q2.ia q2.m q2.ic q2.ids, .blk b2 (ints .u8 S.gxX) 24, .blk b1 (grC q1) 41]) (fun p=>True) 8 (bs 12 135) (fun p j hp=>?_) (fun st3=>?_)
  ·obtain⟨q,bg,_⟩:=p;obtain _:=hp
   try dsimp only
   refine J.wfin [(3, .q),(4, .q),(5, .q),(6, .q),(8, .e),(9, .e),(10, .e),(11, .q)] (by kernel_rfl) ?_;refine run ?_;refine J.alloc rfl fun bi=>?_
   refine run ?_;refine run ?_;refine run ?_;exact J.cut () ⟨rfl,trivial⟩ (by kernel_rfl) trivial
  refine J.wst (A:=(Option Addr×Nat)×Nat×Nat×Unit) (fun p=>[(10, .pointer (some ⟨p.2.1,0,none⟩)),(11, .pointer (some ⟨p.2.2.1,0,none⟩)),(41, .agg (grC q2).toArray),(42, .agg (opC ⟨S.gxO,p.1.1,p.1.2⟩).toArray)]) [] (fun p=>[.blk p.2.1 [.slice none 0 0, .slice none 0 0] 41, .blk p.2.2.1 (ints .u8 (List.replicate 32 0)) 24, .wrow .u8 32 p.1.1 0 [], .blk b5 (ints .u8 S.gxY) 24, .blk b4 (grC q2) 41, .gown opC 11 35 q2.oa q2.n q2.oc q2.zs, .all (q2.zs.map (opE 24)), .wown 24 .u8 32 q2.ia q2.m q2.ic q2.ids, .blk b2 (ints .u8 S.gxX) 24, .blk b1 (grC q1) 41]) (fun p=>True) 8 (bs 12 387) (fun p j hp=>?_) (fun st4=>?_)
  ·obtain⟨z,bg,bi,_⟩:=p;obtain _:=hp
   try dsimp only
   refine J.wfin [(2, .e),(3, .q),(4, .q),(5, .q),(6, .q),(9, .e),(10, .e),(11, .q)] (by kernel_rfl) ?_;refine run ?_;refine J.call rfl rfl (cT q2 z K0 hk2 hu hm2) fun q hq=>?_
   refine run ?_;refine run ?_;refine run ?_;exact J.cut () ⟨rfl,trivial⟩ (by kernel_rfl) trivial
  refine J.wst (A:=(Option Addr×Nat)×Nat×Unit) (fun p=>[(10, .pointer (some ⟨p.2.1,0,none⟩)),(41, .agg (grC q2).toArray),(42, .agg (opC ⟨S.gxO,p.1.1,p.1.2⟩).toArray)]) [] (fun p=>[.blk p.2.1 [.slice none 0 0, .slice none 0 0] 41, .wrow .u8 32 p.1.1 0 [], .blk b5 (ints .u8 S.gxY) 24, .blk b4 (grC q2) 41, .gown opC 11 35 q2.oa q2.n q2.oc q2.zs, .all (q2.zs.map (opE 24)), .wown 24 .u8 32 q2.ia q2.m q2.ic q2.ids, .blk b2 (ints .u8 S.gxX) 24, .blk b1 (grC q1) 41]) (fun p=>True) 9 (bs 12 131) (fun p j hp=>?_) (fun st5=>?_)
  ·obtain⟨z,bg,_⟩:=p;obtain _:=hp
   try dsimp only
   refine J.wnode [] [2,8] 8 (bs 12 131) (by kernel_rfl) ?_;refine run ?_;refine J.nil ?_;refine J.wbr ?_ ?_
   ·refine J.call rfl rfl (cT q2 z K0 hk2 hu hm2) fun q hq=>?_
    refine J.nil ?_;exact st3 (q,bg,()) _ _ _ ⟨rfl,rfl,rfl,trivial⟩ (by kernel_rfl) (by kernel_rfl) trivial inferInstance
   refine J.wbr ?_ ?_
   ·refine J.alloc rfl fun bi=>?_
    refine J.nil ?_;refine J.front (.wrow .u8 32 z.1 0 []) ?_;refine J.front (.blk bi (ints .u8 (List.replicate 32 0)) 24) ?_;refine J.front (.blk bg [.slice none 0 0, .slice none 0 0] 41) ?_;exact st4 (z,bg,bi,()) _ _ _ ⟨rfl,rfl,rfl,rfl,trivial⟩ (by kernel_rfl) (by kernel_rfl) trivial inferInstance
   exact J.wbr0
  refine J.wst (A:=GrA×Nat×Unit) (fun p=>[(11, .pointer (some ⟨p.2.1,0,none⟩)),(41, .agg (grC q2).toArray),(43, .tuple #[.agg (grC p.1).toArray, .agg (ints .u8 (List.replicate 32 0)).toArray, .int .i64 14])]) [42] (fun p=>[.blk p.2.1 (ints .u8 (List.replicate 32 0)) 24, .blk b5 (ints .u8 S.gxY) 24, .blk b4 (grC q2) 41, .gown opC 11 35 q2.oa q2.n q2.oc q2.zs, .all (q2.zs.map (opE 24)), .wown 24 .u8 32 q2.ia q2.m q2.ic q2.ids, .blk b2 (ints .u8 S.gxX) 24, .blk b1 (grC q1) 41]) (fun p=>True) 8 (bs 12 263) (fun p j hp=>?_) (fun st6=>?_)
  ·obtain⟨q,bi,_⟩:=p;obtain _:=hp
   try dsimp only
   refine J.wfin [(3, .q),(4, .q),(5, .q),(6, .q),(7, .e),(9, .e),(10, .e),(11, .q)] (by kernel_rfl) ?_;refine run ?_;refine J.alloc rfl fun bg=>?_
   refine run ?_;refine run ?_;refine run ?_;exact J.cut () ⟨rfl,trivial⟩ (by kernel_rfl) trivial
  refine J.wst (A:=(Option Addr×Nat)×Nat×Unit) (fun p=>[(11, .pointer (some ⟨p.2.1,0,none⟩)),(41, .agg (grC q2).toArray),(42, .agg (opC ⟨S.gxO,p.1.1,p.1.2⟩).toArray)]) [] (fun p=>[.blk p.2.1 (ints .u8 (List.replicate 32 0)) 24, .wrow .u8 32 p.1.1 0 [], .blk b5 (ints .u8 S.gxY) 24, .blk b4 (grC q2) 41, .gown opC 11 35 q2.oa q2.n q2.oc q2.zs, .all (q2.zs.map (opE 24)), .wown 24 .u8 32 q2.ia q2.m q2.ic q2.ids, .blk b2 (ints .u8 S.gxX) 24, .blk b1 (grC q1) 41]) (fun p=>True) 9 (bs 12 259) (fun p j hp=>?_) (fun st7=>?_)
  ·obtain⟨z,bi,_⟩:=p;obtain _:=hp
   try dsimp only
   refine J.wnode [] [2,7] 8 (bs 12 259) (by kernel_rfl) ?_;refine run ?_;refine J.nil ?_;refine J.wbr ?_ ?_
   ·refine J.call rfl rfl (cT q2 z K0 hk2 hu hm2) fun q hq=>?_
    refine J.nil ?_;exact st6 (q,bi,()) _ _ _ ⟨rfl,rfl,rfl,trivial⟩ (by kernel_rfl) (by kernel_rfl) trivial inferInstance
   refine J.wbr ?_ ?_
   ·refine J.alloc rfl fun bg=>?_
    refine J.nil ?_;exact st4 (z,bg,bi,()) _ _ _ ⟨rfl,rfl,rfl,rfl,trivial⟩ (by kernel_rfl) (by kernel_rfl) trivial inferInstance
   exact J.wbr0
  refine J.wst (A:=(Option Addr×Nat)×Unit) (fun p=>[(41, .agg (grC q2).toArray),(42, .agg (opC ⟨S.gxO,p.1.1,p.1.2⟩).toArray)]) [] (fun p=>[.wrow .u8 32 p.1.1 0 [], .blk b5 (ints .u8 S.gxY) 24, .blk b4 (grC q2) 41, .gown opC 11 35 q2.oa q2.n q2.oc q2.zs, .all (q2.zs.map (opE 24)), .wown 24 .u8 32 q2.ia q2.m q2.ic q2.ids, .blk b2 (ints .u8 S.gxX) 24, .blk b1 (grC q1) 41]) (fun p=>True) 10 (bs 12 3) (fun p j hp=>?_) (fun st8=>?_)
  ·obtain⟨z,_⟩:=p;obtain _:=hp
   try dsimp only
   refine J.wnode [] [2,7,8] 9 (bs 12 3) (by kernel_rfl) ?_;refine run ?_;refine J.nil ?_;refine J.wbr ?_ ?_
   ·refine J.call rfl rfl (cT q2 z K0 hk2 hu hm2) fun q hq=>?_
    refine J.nil ?_;exact st2 (q,()) _ _ _ ⟨rfl,rfl,trivial⟩ (by kernel_rfl) (by kernel_rfl) trivial inferInstance
   refine J.wbr ?_ ?_
   ·refine J.alloc rfl fun bg=>?_
    refine J.nil ?_;exact st5 (z,bg,()) _ _ _ ⟨rfl,rfl,rfl,trivial⟩ (by kernel_rfl) (by kernel_rfl) trivial inferInstance
   refine J.wbr ?_ ?_
   ·refine J.alloc rfl fun bi=>?_
    refine J.nil ?_;exact st7 (z,bi,()) _ _ _ ⟨rfl,rfl,rfl,trivial⟩ (by kernel_rfl) (by kernel_rfl) trivial inferInstance
   exact J.wbr0
  refine J.wst (A:=Nat×Nat×Unit) (fun p=>[(10, .pointer (some ⟨p.1,0,none⟩)),(11, .pointer (some ⟨p.2.1,0,none⟩)),(41, .agg (grC q2).toArray)]) [] (fun p=>[.blk p.1 [.slice none 0 0, .slice none 0 0] 41, .blk p.2.1 (ints .u8 (List.replicate 32 0)) 24, .blk b5 (ints .u8 S.gxY) 24, .blk b4 (grC q2) 41, .gown opC 11 35 q2.oa q2.n q2.oc q2.zs, .all (q2.zs.map (opE 24)), .wown 24 .u8 32 q2.ia q2.m q2.ic q2.ids, .blk b2 (ints .u8 S.gxX) 24, .blk b1 (grC q1) 41]) (fun p=>True) 9 (bs 12 385) (fun p j hp=>?_) (fun st9=>?_)
  ·obtain⟨bg,bi,_⟩:=p;obtain _:=hp
   try dsimp only
   refine J.wfin [(1, .e),(2, .e),(3, .q),(4, .q),(5, .q),(6, .q),(9, .e),(10, .e),(11, .q)] (by kernel_rfl) ?_;refine run ?_;refine J.call rfl rfl (fun w' M=>sgA TK w' (K0.ext M.ext)) fun z hz=>?_
   refine run ?_;refine J.call rfl rfl (cT q2 z K0 hk2 hu hm2) fun q hq=>?_
   refine run ?_;refine run ?_;refine run ?_;exact J.cut () ⟨rfl,trivial⟩ (by kernel_rfl) trivial
  refine J.wst (A:=Nat×Unit) (fun p=>[(10, .pointer (some ⟨p.1,0,none⟩)),(41, .agg (grC q2).toArray)]) [] (fun p=>[.blk p.1 [.slice none 0 0, .slice none 0 0] 41, .blk b5 (ints .u8 S.gxY) 24, .blk b4 (grC q2) 41, .gown opC 11 35 q2.oa q2.n q2.oc q2.zs, .all (q2.zs.map (opE 24)), .wown 24 .u8 32 q2.ia q2.m q2.ic q2.ids, .blk b2 (ints .u8 S.gxX) 24, .blk b1 (grC q1) 41]) (fun p=>True) 10 (bs 12 129) (fun p j hp=>?_) (fun st10=>?_)
  ·obtain⟨bg,_⟩:=p;obtain _:=hp
   try dsimp only
   refine J.wnode [] [1,8] 9 (bs 12 129) (by kernel_rfl) ?_;refine run ?_;refine J.nil ?_;refine J.wbr ?_ ?_
   ·refine J.call rfl rfl (fun w' M=>sgA TK w' (K0.ext M.ext)) fun z hz=>?_
    refine J.nil ?_;refine J.front (.wrow .u8 32 z.1 0 []) ?_;refine J.front (.blk bg [.slice none 0 0, .slice none 0 0] 41) ?_;exact st5 (z,bg,()) _ _ _ ⟨rfl,rfl,rfl,trivial⟩ (by kernel_rfl) (by kernel_rfl) trivial inferInstance
   refine J.wbr ?_ ?_
   ·refine J.alloc rfl fun bi=>?_
    refine J.nil ?_;refine J.front (.blk bi (ints .u8 (List.replicate 32 0)) 24) ?_;refine J.front (.blk bg [.slice none 0 0, .slice none 0 0] 41) ?_;exact st9 (bg,bi,()) _ _ _ ⟨rfl,rfl,rfl,trivial⟩ (by kernel_rfl) (by kernel_rfl) trivial inferInstance
   exact J.wbr0
  refine J.wst (A:=Nat×Unit) (fun p=>[(11, .pointer (some ⟨p.1,0,none⟩)),(41, .agg (grC q2).toArray)]) [] (fun p=>[.blk p.1 (ints .u8 (List.replicate 32 0)) 24, .blk b5 (ints .u8 S.gxY) 24, .blk b4 (grC q2) 41, .gown opC 11 35 q2.oa q2.n q2.oc q2.zs, .all (q2.zs.map (opE 24)), .wown 24 .u8 32 q2.ia q2.m q2.ic q2.ids, .blk b2 (ints .u8 S.gxX) 24, .blk b1 (grC q1) 41]) (fun p=>True) 10 (bs 12 257) (fun p j hp=>?_) (fun st11=>?_)
  ·obtain⟨bi,_⟩:=p;obtain _:=hp
   try dsimp only
   refine J.wnode [] [1,7] 9 (bs 12 257) (by kernel_rfl) ?_;refine run ?_;refine J.nil ?_;refine J.wbr ?_ ?_
   ·refine J.call rfl rfl (fun w' M=>sgA TK w' (K0.ext M.ext)) fun z hz=>?_
    refine J.nil ?_;refine J.front (.wrow .u8 32 z.1 0 []) ?_;refine J.front (.blk bi (ints .u8 (List.replicate 32 0)) 24) ?_;exact st7 (z,bi,()) _ _ _ ⟨rfl,rfl,rfl,trivial⟩ (by kernel_rfl) (by kernel_rfl) trivial inferInstance
   refine J.wbr ?_ ?_
   ·refine J.alloc rfl fun bg=>?_
    refine J.nil ?_;exact st9 (bg,bi,()) _ _ _ ⟨rfl,rfl,rfl,trivial⟩ (by kernel_rfl) (by kernel_rfl) trivial inferInstance
   exact J.wbr0
  refine J.wnode [(0, .q)] [1,7,8] 10 (bs 12 1) (by kernel_rfl) ?_;refine run ?_;refine J.nil ?_;refine J.wbr ?_ ?_
  ·refine J.call rfl rfl (fun w' M=>sgA TK w' (K0.ext M.ext)) fun z hz=>?_
   refine J.nil ?_;exact st8 (z,()) _ _ _ ⟨rfl,rfl,trivial⟩ (by kernel_rfl) (by kernel_rfl) trivial inferInstance
  refine J.wbr ?_ ?_
  ·refine J.alloc rfl fun bg=>?_
   refine J.nil ?_;exact st10 (bg,()) _ _ _ ⟨rfl,rfl,trivial⟩ (by kernel_rfl) (by kernel_rfl) trivial inferInstance
  refine J.wbr ?_ ?_
  ·refine J.alloc rfl fun bi=>?_
   refine J.nil ?_;exact st11 (bi,()) _ _ _ ⟨rfl,rfl,trivial⟩ (by kernel_rfl) (by kernel_rfl) trivial inferInstance
  exact J.wbr0
 refine run ?_;have hc2:S.chkG q2.m q2.ids q2.ops=0:=by rw[hu.m,hu.ids,hu.ops];exact S.gx_chkH
 have hi2:S.inS q2.m q2.ids S.gxY:=by rw[hu.m,hu.ids];exact S.gx_inY
 refine J.callp rfl rfl (fun w' M=>dagHas q2 S.gxY TK w' (K0.ext M.ext) (GrR.own hk2 hu.cap hm2 w' M) hY) ?_;rw[show decide (S.chkG q2.m q2.ids q2.ops=0∧S.inS q2.m q2.ids S.gxY)=true from decide_eq_true ⟨hc2,hi2⟩,hc2];refine run ?_;refine J.spe rfl rfl rfl (fun _=>?_) (fun c=>absurd (by have:=hq1.m;have:=S.gx_m1;omega) c);refine run ?_;refine J.spe rfl rfl rfl (fun _=>?_) (fun c=>absurd (by have:=hu.m;have:=S.gx_m2;omega) c);refine run ?_;exact J.fin rfl
end W
namespace S
open G
set_option maxRecDepth 100000
structure DnE where
 (au k e s:Int)(id:List Int)
def dnT : List DnE := [⟨4, 211812135, 376595462, 88407594, [114, 98, 67, 49, 49, 105, 2, 103, 116, 6, 228, 162, 149, 81, 200, 12, 154, 138, 190, 161, 79, 203, 38, 124, 216, 152, 32, 52, 195, 238, 3, 132]⟩,
 ⟨16, 314077299, 480380063, 274837419, [21, 212, 110, 188, 78, 185, 227, 55, 177, 78, 225, 72, 97, 254, 14, 46, 152, 40, 250, 61, 168, 204, 12, 221, 182, 216, 80, 19, 27, 92, 162, 20]⟩,
 ⟨64, 370306749, 199654287, 469269607, [232, 218, 186, 127, 235, 70, 69, 65, 176, 245, 117, 45, 27, 6, 173, 76, 246, 61, 139, 143, 194, 55, 232, 21, 148, 208, 27, 114, 166, 76, 32, 162]⟩,
 ⟨256, 185016380, 454173879, 1711884, [148, 112, 43, 215, 39, 237, 74, 152, 29, 219, 137, 195, 7, 209, 219, 172, 33, 27, 34, 24, 170, 175, 185, 54, 238, 20, 148, 207, 95, 34, 29, 214]⟩,
 ⟨1024, 212497326, 284052356, 132759097, [74, 63, 28, 2, 99, 205, 116, 202, 227, 39, 209, 15, 35, 42, 184, 231, 250, 253, 162, 254, 88, 141, 212, 74, 196, 42, 185, 136, 34, 43, 1, 42]⟩,
 ⟨4096, 436675304, 365505506, 129708325, [58, 127, 63, 142, 104, 190, 58, 203, 172, 217, 98, 49, 34, 131, 222, 187, 67, 127, 104, 95, 183, 64, 224, 72, 57, 50, 197, 91, 15, 224, 212, 233]⟩,
 ⟨16384, 245137746, 341133706, 133073673, [126, 7, 171, 130, 167, 231, 44, 64, 199, 26, 47, 122, 152, 235, 47, 17, 15, 72, 73, 15, 253, 232, 219, 245, 80, 108, 86, 221, 8, 120, 247, 123]⟩,
 ⟨65536, 90459827, 190436937, 113955314, [129, 87, 92, 98, 34, 201, 249, 73, 234, 115, 161, 133, 200, 76, 3, 215, 211, 145, 221, 209, 213, 87, 138, 69, 178, 143, 94, 233, 21, 239, 65, 232]⟩,
 ⟨262144, 54030201, 424969347, 378754303, [180, 255, 240, 238, 15, 47, 15, 85, 8, 128, 100, 47, 46, 167, 102, 24, 25, 243, 137, 46, 83, 41, 250, 249, 86, 34, 67, 175, 103, 130, 65, 0]⟩,
 ⟨1048576, 394436760, 91773691, 312173664, [69, 158, 247, 169, 83, 126, 67, 12, 8, 126, 249, 196, 164, 237, 156, 170, 133, 166, 41, 221, 156, 113, 155, 247, 216, 79, 49, 200, 88, 97, 83, 46]⟩,
 ⟨4194304, 277386648, 225194382, 254524835, [92, 127, 41, 59, 10, 118, 146, 233, 42, 135, 109, 8, 156, 79, 128, 238, 117, 191, 114, 57, 12, 59, 21, 25, 5, 140, 92, 255, 227, 50, 224, 52]⟩,
 ⟨16777216, 290419603, 437534458, 40833066, [130, 116, 10, 177, 61, 118, 53, 58, 109, 241, 108, 207, 41, 181, 177, 17, 66, 156, 204, 33, 209, 22, 62, 29, 210, 49, 1, 68, 185, 194, 113, 39]⟩,
 ⟨67108864, 223262029, 261904836, 128024876, [219, 154, 16, 197, 228, 59, 46, 157, 30, 135, 153, 240, 253, 20, 129, 129, 116, 2, 192, 230, 135, 126, 205, 11, 59, 211, 234, 186, 206, 188, 212, 208]⟩,
 ⟨268435456, 214888285, 2745341, 253323059, [35, 197, 39, 20, 205, 209, 128, 83, 122, 3, 117, 166, 117, 208, 229, 149, 134, 231, 96, 124, 104, 53, 218, 221, 40, 77, 134, 173, 131, 109, 12, 64]⟩,
 ⟨73741817, 464940607, 9798023, 111910949, [226, 69, 174, 230, 12, 15, 194, 59, 203, 12, 106, 11, 105, 100, 29, 11, 225, 216, 132, 41, 250, 54, 243, 212, 160, 124, 154, 122, 229, 231, 91, 246]⟩,
 ⟨294967268, 148027702, 287513529, 248244139, [144, 116, 197, 151, 161, 171, 217, 6, 199, 231, 162, 133, 225, 15, 89, 33, 54, 23, 170, 106, 208, 70, 76, 113, 233, 29, 219, 69, 208, 58, 66, 156]⟩,
 ⟨179869065, 280704111, 16897332, 67958752, [126, 245, 140, 214, 4, 103, 80, 23, 118, 39, 75, 70, 208, 124, 241, 122, 30, 118, 219, 119, 157, 139, 113, 58, 0, 158, 191, 164, 133, 170, 128, 220]⟩,
 ⟨719476260, 359889521, 301249683, 282383782, [12, 157, 123, 57, 223, 198, 149, 48, 229, 168, 64, 157, 91, 132, 173, 62, 209, 137, 122, 225, 129, 32, 98, 250, 150, 66, 97, 246, 122, 185, 224, 249]⟩,
 ⟨877905026, 454861347, 394887930, 457731972, [94, 181, 134, 197, 92, 73, 20, 192, 201, 218, 138, 118, 7, 114, 12, 249, 229, 61, 30, 175, 71, 236, 201, 253, 224, 193, 192, 80, 35, 221, 187, 145]⟩,
 ⟨511620083, 319973211, 487315711, 66287371, [213, 138, 43, 36, 238, 147, 28, 231, 246, 7, 164, 25, 81, 99, 7, 151, 89, 229, 200, 157, 87, 173, 23, 50, 83, 241, 159, 45, 179, 181, 16, 81]⟩,
 ⟨46480318, 160258375, 47524528, 158273457, [134, 27, 71, 112, 215, 114, 128, 62, 91, 222, 25, 147, 47, 101, 253, 18, 5, 82, 248, 56, 151, 187, 240, 56, 144, 22, 232, 12, 181, 210, 173, 170]⟩,
 ⟨185921272, 41030715, 169356862, 266881658, [2, 21, 187, 45, 124, 156, 108, 46, 234, 133, 233, 39, 2, 147, 227, 158, 244, 36, 200, 176, 149, 185, 24, 140, 16, 58, 241, 252, 142, 153, 18, 127]⟩,
 ⟨743685088, 352449641, 492330231, 176044885, [226, 161, 102, 89, 18, 44, 26, 4, 73, 248, 116, 61, 146, 178, 149, 121, 238, 59, 114, 124, 67, 127, 159, 250, 219, 57, 140, 220, 97, 239, 248, 245]⟩,
 ⟨974740338, 404887533, 302142851, 156315912, [94, 92, 145, 217, 34, 150, 111, 224, 96, 254, 6, 44, 86, 189, 85, 82, 144, 160, 180, 14, 150, 71, 228, 232, 228, 141, 228, 236, 32, 112, 88, 245]⟩,
 ⟨898961331, 169360441, 440012583, 169674950, [153, 179, 177, 90, 32, 242, 141, 170, 0, 253, 53, 122, 241, 59, 184, 77, 239, 0, 242, 177, 43, 173, 23, 190, 78, 36, 10, 138, 234, 186, 3, 208]⟩,
 ⟨595845303, 267660279, 484097199, 354187378, [220, 135, 190, 126, 243, 247, 143, 79, 237, 132, 179, 171, 118, 127, 200, 81, 122, 244, 204, 210, 88, 199, 31, 171, 187, 30, 113, 42, 133, 204, 17, 42]⟩,
 ⟨383381198, 79893299, 179377746, 423092414, [135, 139, 37, 237, 142, 99, 188, 50, 120, 146, 18, 201, 29, 11, 64, 237, 229, 60, 127, 46, 173, 88, 93, 203, 53, 88, 228, 64, 165, 113, 36, 58]⟩,
 ⟨533524785, 339541893, 195633404, 317277172, [248, 83, 141, 200, 252, 188, 42, 117, 62, 115, 58, 61, 111, 47, 58, 109, 63, 153, 146, 31, 226, 139, 53, 25, 57, 42, 235, 114, 149, 73, 118, 228]⟩,
 ⟨134099126, 71801302, 487817200, 218500018, [2, 106, 142, 235, 214, 229, 25, 60, 157, 150, 119, 4, 255, 131, 55, 137, 221, 233, 228, 119, 107, 217, 176, 54, 35, 191, 216, 3, 211, 111, 53, 46]⟩,
 ⟨536396504, 143483561, 342307959, 412722271, [20, 33, 191, 128, 19, 98, 161, 74, 8, 29, 137, 80, 135, 187, 156, 18, 76, 21, 8, 84, 150, 234, 3, 149, 240, 255, 103, 146, 131, 143, 133, 94]⟩,
 ⟨145586002, 166295512, 32299010, 167564816, [204, 202, 68, 16, 105, 205, 87, 116, 63, 136, 203, 153, 19, 100, 24, 164, 53, 235, 90, 26, 176, 205, 70, 90, 128, 193, 245, 68, 33, 86, 100, 31]⟩,
 ⟨582344008, 362229634, 281264294, 362686988, [255, 123, 206, 8, 78, 169, 100, 179, 251, 211, 120, 212, 194, 5, 150, 92, 5, 154, 2, 124, 226, 183, 129, 80, 227, 151, 211, 197, 65, 241, 43, 68]⟩,
 ⟨329376018, 128836169, 414880963, 319907867, [31, 0, 12, 236, 237, 96, 88, 43, 92, 6, 19, 217, 19, 243, 118, 178, 136, 78, 110, 145, 132, 48, 33, 14, 0, 169, 138, 16, 35, 47, 15, 142]⟩,
 ⟨317504065, 114717192, 283836596, 265161399, [35, 140, 142, 168, 162, 114, 38, 140, 110, 17, 62, 124, 47, 113, 240, 42, 174, 152, 23, 139, 113, 217, 132, 174, 182, 192, 184, 88, 212, 43, 236, 103]⟩,
 ⟨270016253, 183597015, 168181978, 69966209, [123, 178, 98, 245, 82, 44, 67, 100, 142, 241, 79, 14, 97, 138, 170, 244, 214, 163, 21, 168, 240, 75, 98, 94, 35, 211, 231, 40, 83, 180, 125, 125]⟩,
 ⟨80065005, 380883707, 77652264, 176365193, [235, 44, 130, 249, 163, 184, 40, 191, 246, 87, 230, 1, 35, 26, 113, 21, 68, 42, 119, 4, 68, 56, 191, 152, 53, 147, 14, 148, 44, 31, 30, 70]⟩,
 ⟨320260020, 166372455, 486864948, 180375423, [133, 31, 170, 9, 173, 26, 31, 238, 229, 131, 43, 211, 3, 243, 177, 170, 173, 249, 243, 234, 124, 55, 28, 236, 114, 158, 90, 197, 125, 167, 237, 194]⟩,
 ⟨281040073, 180636140, 150581293, 402725241, [107, 191, 253, 159, 209, 165, 23, 158, 95, 86, 55, 223, 108, 5, 89, 105, 8, 220, 205, 64, 161, 124, 157, 236, 41, 103, 80, 15, 63, 145, 163, 188]⟩,
 ⟨124160285, 123156303, 2720839, 229269024, [211, 255, 81, 123, 239, 82, 43, 22, 216, 48, 68, 141, 238, 75, 172, 83, 253, 96, 230, 13, 173, 84, 132, 16, 26, 162, 206, 133, 35, 104, 44, 55]⟩,
 ⟨496641140, 104760771, 201999679, 184747883, [166, 71, 29, 3, 151, 147, 202, 212, 200, 111, 103, 246, 98, 81, 112, 145, 73, 46, 181, 173, 8, 236, 174, 212, 28, 76, 147, 153, 5, 112, 58, 91]⟩,
 ⟨986564553, 114462546, 152267427, 357427017, [82, 41, 47, 116, 70, 143, 162, 63, 189, 83, 11, 79, 246, 119, 209, 60, 252, 50, 38, 116, 247, 95, 9, 158, 226, 242, 160, 210, 51, 61, 143, 116]⟩,
 ⟨946258191, 40462971, 278711038, 246326498, [76, 88, 83, 43, 6, 0, 131, 95, 165, 21, 151, 94, 175, 50, 231, 124, 133, 29, 106, 144, 81, 190, 11, 68, 58, 70, 187, 112, 33, 214, 126, 78]⟩,
 ⟨785032743, 366274364, 321099732, 173562756, [88, 161, 23, 65, 212, 207, 165, 82, 91, 186, 224, 120, 91, 152, 168, 19, 179, 243, 69, 8, 195, 119, 228, 126, 242, 112, 240, 208, 41, 218, 248, 104]⟩,
 ⟨140130951, 301448699, 350199862, 210242534, [236, 199, 107, 137, 237, 145, 246, 49, 31, 86, 25, 97, 149, 80, 92, 36, 29, 105, 54, 216, 58, 33, 250, 131, 179, 243, 180, 255, 255, 184, 131, 63]⟩,
 ⟨560523804, 159219342, 253389015, 61724948, [0, 47, 241, 20, 164, 177, 66, 172, 35, 197, 45, 69, 131, 169, 26, 16, 222, 146, 42, 21, 42, 163, 95, 5, 244, 161, 111, 187, 127, 166, 85, 140]⟩,
 ⟨242095202, 452279823, 51288876, 311568104, [5, 253, 103, 140, 203, 37, 91, 174, 93, 219, 11, 129, 34, 56, 146, 214, 21, 43, 218, 62, 82, 202, 205, 53, 6, 137, 5, 115, 46, 51, 42, 105]⟩,
 ⟨968380808, 369942592, 262125357, 189834296, [196, 17, 92, 29, 189, 203, 195, 147, 130, 38, 53, 251, 95, 32, 169, 124, 134, 45, 19, 84, 212, 174, 42, 26, 100, 68, 122, 232, 178, 243, 111, 143]⟩,
 ⟨873523211, 423686876, 431374806, 129677438, [125, 254, 97, 205, 34, 30, 161, 63, 182, 14, 255, 238, 29, 251, 48, 247, 199, 239, 239, 209, 240, 104, 89, 217, 126, 154, 129, 138, 146, 223, 101, 219]⟩,
 ⟨494092823, 291192661, 452143470, 446222559, [67, 188, 69, 156, 195, 62, 33, 232, 176, 85, 96, 0, 62, 35, 232, 149, 251, 78, 209, 216, 171, 129, 110, 182, 200, 228, 195, 77, 137, 61, 211, 142]⟩,
 ⟨976371285, 492699359, 269258824, 455640478, [146, 160, 158, 100, 163, 118, 113, 184, 149, 229, 132, 131, 238, 234, 56, 142, 4, 126, 150, 17, 102, 86, 234, 187, 84, 126, 202, 191, 123, 20, 49, 222]⟩,
 ⟨905485119, 146397173, 360951738, 54935700, [59, 49, 161, 26, 227, 72, 25, 103, 3, 132, 86, 67, 190, 89, 112, 247, 68, 185, 96, 144, 109, 28, 19, 40, 116, 25, 82, 239, 210, 33, 97, 250]⟩,
 ⟨621940455, 376298145, 470617914, 348429526, [170, 244, 106, 27, 201, 66, 255, 52, 188, 225, 147, 129, 230, 142, 149, 156, 229, 74, 146, 85, 99, 250, 41, 201, 68, 12, 88, 123, 171, 197, 93, 4]⟩,
 ⟨487761806, 98502742, 90037457, 370487936, [129, 208, 174, 84, 208, 197, 172, 182, 82, 97, 93, 188, 134, 207, 248, 203, 45, 214, 32, 26, 159, 64, 87, 33, 166, 51, 185, 248, 187, 189, 91, 53]⟩,
 ⟨951047217, 274637071, 283624120, 90339458, [246, 64, 32, 208, 1, 29, 87, 233, 111, 136, 55, 100, 128, 104, 176, 160, 98, 91, 226, 149, 251, 251, 25, 178, 22, 188, 164, 170, 0, 178, 83, 80]⟩,
 ⟨804188847, 169974986, 269490079, 491929244, [202, 141, 102, 5, 198, 252, 103, 120, 193, 61, 125, 207, 250, 57, 206, 130, 56, 212, 33, 30, 71, 213, 13, 87, 25, 239, 214, 17, 170, 145, 235, 249]⟩,
 ⟨216755367, 228947714, 225335058, 347710887, [164, 38, 144, 13, 197, 57, 213, 168, 64, 55, 164, 151, 81, 198, 249, 150, 171, 58, 179, 76, 44, 226, 76, 243, 177, 74, 217, 27, 63, 189, 131, 58]⟩,
 ⟨867021468, 79427820, 402564039, 25577905, [250, 176, 181, 175, 214, 159, 25, 106, 28, 177, 136, 37, 67, 80, 244, 217, 194, 17, 97, 230, 63, 185, 103, 147, 239, 97, 162, 114, 108, 128, 227, 151]⟩,
 ⟨468085851, 288152492, 129001116, 270217175, [243, 207, 81, 88, 51, 23, 135, 227, 149, 88, 84, 169, 237, 184, 53, 255, 134, 171, 140, 209, 43, 37, 51, 231, 182, 0, 87, 124, 227, 152, 153, 44]⟩,
 ⟨872343397, 62300277, 163463378, 206639522, [89, 56, 148, 238, 173, 78, 189, 13, 200, 40, 48, 38, 152, 134, 162, 151, 249, 137, 63, 191, 55, 249, 246, 243, 104, 17, 164, 162, 133, 178, 24, 171]⟩,
 ⟨489373567, 191676435, 428817387, 420719502, [122, 176, 239, 165, 222, 221, 20, 253, 149, 163, 234, 206, 190, 136, 115, 59, 80, 249, 81, 205, 168, 45, 247, 133, 39, 181, 53, 254, 232, 90, 95, 167]⟩,
 ⟨957494261, 278879378, 197682901, 337536267, [7, 197, 143, 188, 117, 13, 251, 140, 70, 155, 200, 106, 1, 252, 196, 233, 182, 187, 50, 233, 242, 95, 29, 45, 152, 113, 16, 237, 65, 102, 76, 179]⟩]
def dnAt(i:Nat):DnE:=dnT.getD i ⟨0,0,0,0,[]⟩
def dnN(i:Nat):Nat:=if i=0∨i=60 then 0 else 1
def dnP(i:Nat):List Int:=if i=0∨i=60 then []else(dnAt (i - 1)).id
def dnA(i:Nat):OpV:=⟨0,1,1,0,0,0,0,0,dnN i,dnP i, .empty, .empty⟩
def dnW(i:Nat):OpV:=⟨(dnAt i).au,1,1,0,0,0,0,0,dnN i,dnP i, .empty, .empty⟩
def dnO(i:Nat):OpV:=⟨(dnAt i).au,1,1,0,0,0,(dnAt i).e,(dnAt i).s,dnN i,dnP i, .empty, .empty⟩
def pubF(x:Int):Int:=fpw 30 4 x 1 1000000007
def dnGood(i:Nat):Prop:=pubF ((i:Int)+1)=(dnAt i).au∧nonceS ((i:Int)+1) (msgS (dnW i))=(dnAt i).k∧chalS (pubF (dnAt i).k) (dnAt i).au (msgS (dnW i))=(dnAt i).e∧((dnAt i).k+(dnAt i).e*((i:Int)+1) % 500000003) % 500000003=(dnAt i).s∧sha (encS (dnO i))=(dnAt i).id
instance(i:Nat):Decidable (dnGood i):=by unfold dnGood;infer_instance
theorem pubF_eq{x:Int}(h0:0≤x)(h:x<1073741824):pubS x=pubF x:=by
 unfold pubS pubF;exact pw_fast _ _ _ h0 h
end S
namespace S
open G
set_option maxRecDepth 100000
theorem dn_0:∀i,i<5→dnGood (0+i):=by decide+kernel
theorem dn_5:∀i,i<5→dnGood (5+i):=by decide+kernel
theorem dn_10:∀i,i<5→dnGood (10+i):=by decide+kernel
theorem dn_15:∀i,i<1→dnGood (15+i):=by decide+kernel
theorem dn_16:∀i,i<5→dnGood (16+i):=by decide+kernel
theorem dn_21:∀i,i<5→dnGood (21+i):=by decide+kernel
theorem dn_26:∀i,i<5→dnGood (26+i):=by decide+kernel
theorem dn_31:∀i,i<5→dnGood (31+i):=by decide+kernel
theorem dn_36:∀i,i<5→dnGood (36+i):=by decide+kernel
theorem dn_41:∀i,i<5→dnGood (41+i):=by decide+kernel
theorem dn_46:∀i,i<5→dnGood (46+i):=by decide+kernel
theorem dn_51:∀i,i<5→dnGood (51+i):=by decide+kernel
theorem dn_56:∀i,i<5→dnGood (56+i):=by decide+kernel
end S
namespace S
open G
theorem dn_good{i:Nat}(h:i<61):dnGood i:=by
 by_cases c5:i<5
 ·have:=dn_0 (i - 0) (by omega);rwa[show 0+(i - 0)=i by omega]at this
 by_cases c10:i<10
 ·have:=dn_5 (i - 5) (by omega);rwa[show 5+(i - 5)=i by omega]at this
 by_cases c15:i<15
 ·have:=dn_10 (i - 10) (by omega);rwa[show 10+(i - 10)=i by omega]at this
 by_cases c16:i<16
 ·have:=dn_15 (i - 15) (by omega);rwa[show 15+(i - 15)=i by omega]at this
 by_cases c21:i<21
 ·have:=dn_16 (i - 16) (by omega);rwa[show 16+(i - 16)=i by omega]at this
 by_cases c26:i<26
 ·have:=dn_21 (i - 21) (by omega);rwa[show 21+(i - 21)=i by omega]at this
 by_cases c31:i<31
 ·have:=dn_26 (i - 26) (by omega);rwa[show 26+(i - 26)=i by omega]at this
 by_cases c36:i<36
 ·have:=dn_31 (i - 31) (by omega);rwa[show 31+(i - 31)=i by omega]at this
 by_cases c41:i<41
 ·have:=dn_36 (i - 36) (by omega);rwa[show 36+(i - 36)=i by omega]at this
 by_cases c46:i<46
 ·have:=dn_41 (i - 41) (by omega);rwa[show 41+(i - 41)=i by omega]at this
 by_cases c51:i<51
 ·have:=dn_46 (i - 46) (by omega);rwa[show 46+(i - 46)=i by omega]at this
 by_cases c56:i<56
 ·have:=dn_51 (i - 51) (by omega);rwa[show 51+(i - 51)=i by omega]at this
 have:=dn_56 (i - 56) (by omega);rwa[show 56+(i - 56)=i by omega]at this
theorem dn_arr{i:Nat}(h:i<61):Arr .u8 32 (dnAt i).id:=(dn_good h).2.2.2.2▸sha_arr _
theorem dn_id{i:Nat}(h:i<61):idOf (dnO i)=(dnAt i).id:=(dn_good h).2.2.2.2
theorem dnN_le(i:Nat):dnN i≤1:=by unfold dnN;split<;>omega
theorem dnP_len{i:Nat}(h:i<61):(dnP i).length=32*dnN i:=by
 unfold dnP dnN;split
 ·rfl
 ·rw[(dn_arr (by omega)).1]
theorem dn_okA(i:Nat):(dnA i).ok:=⟨(by decide:(0:Int)≤0∧(0:Int)<4294967296),(by decide:(0:Int)≤1∧(1:Int)<18446744073709551616),(by decide:(0:Int)≤1∧(1:Int)<256),(by decide:(0:Int)≤0∧(0:Int)<256),(by decide:(-9223372036854775808:Int)≤0∧(0:Int)≤9223372036854775807),(by decide:(0:Int)≤0∧(0:Int)<18446744073709551616),(by decide:(0:Int)≤0∧(0:Int)<4294967296),(by decide:(0:Int)≤0∧(0:Int)<4294967296),by have:=dnN_le i;show dnN i≤40;omega,(by decide:ByteArray.empty.size≤100),(by decide:ByteArray.empty.size≤100)⟩
theorem dn_au{i:Nat}(h:i<61):pubS ((i:Int)+1)=(dnAt i).au:=(pubF_eq (by omega) (by omega)).trans (dn_good h).1
theorem dn_signE{i:Nat}(h:i<61):signE ((i:Int)+1) (dnA i)=0:=signE_zero.2 ⟨by omega,check_zero.2 ⟨(by have:=dnN_le i;show dnN i≤4;omega),fun j hj=>absurd (show j<dnN i - 1 from hj) (by have:=dnN_le i;omega),isG_pub _ (by omega),(by decide:(1:Int)≤1000000000000),(by decide:(0:Int)<500000003),(by decide:(0:Int)<500000003), .inl ⟨rfl,rfl,rfl,rfl,rfl,rfl⟩⟩⟩
theorem dn_wit{i:Nat}(h:i<61):(dnA i).wit ((i:Int)+1)=dnW i:=by
 unfold OpV.wit;rw[dn_au h];rfl
theorem dn_sign{i:Nat}(h:i<61):signS ((i:Int)+1) (dnA i)=dnO i:=by
 obtain⟨g1,g2,g3,g4,g5⟩:=dn_good h;have hk:=nonce_bd ((i:Int)+1) (msgS (dnW i));rw[g2]at hk;have e1:sigE ((i:Int)+1) (msgS (dnW i))=(dnAt i).e:=by
  unfold sigE;rw[g2,pubF_eq (by omega) (by omega),dn_au h];exact g3
 have e2:sigS ((i:Int)+1) (msgS (dnW i))=(dnAt i).s:=by
  unfold sigS;rw[g2,e1];exact g4
 rw[signS_eq (dn_signE h),dn_wit h,e1,e2];rfl
theorem dn_ok{i:Nat}(h:i<61):(dnO i).ok:=dn_sign h▸signS_ok _ _ (dn_okA i)
theorem dn_ver{i:Nat}(h:i<61):verE (dnO i)=0:=by
 have:=(sign_good (dn_okA i) (dnP_len h) (dn_signE h)).2.2.2.2.2.2;rwa[dn_sign h]at this
theorem dn_apart:∀i,i<61→∀j,j<i→(dnAt i).id≠(dnAt j).id:=by decide+kernel
theorem dn_inj{i j:Nat}(hi:i<61)(hj:j<61)(e:(dnAt i).id=(dnAt j).id):i=j:=by
 rcases Nat.lt_trichotomy i j with c|c|c
 ·exact absurd e.symm (dn_apart j hj i c)
 ·exact c
 ·exact absurd e (dn_apart i hi j c)
/-! the graph -/
def dnL(n:Nat):List OpV:=(List.range n).map dnO
theorem dnL_len(n:Nat):(dnL n).length=n:=by unfold dnL;simp
theorem dnL_at{n i:Nat}(h:i<n):(dnL n).getD i OpV.zero=dnO i:=by
 unfold dnL;rw[List.getD_eq_getElem?_getD,List.getElem?_map,List.getElem?_range h];rfl
theorem dnL_succ(n:Nat):dnL (n+1)=dnL n++[dnO n]:=by unfold dnL;rw[List.range_succ,List.map_append];rfl
noncomputable def dnG:Nat→PG
 |0=> .nil
 |k+1=>addP (dnG k) (dnO k)
structure DnF(k:Nat):Prop where
 fine:(dnG k).fine
 m:(dnG k).m=k
 has:∀y u,(dnG k).has y u↔∃j,j<k∧y=(dnAt j).id∧u=dnO j
theorem DnF.ins{k:Nat}(h:DnF k)(y:List Int):inS (dnG k).m (dnG k).ids y↔∃j,j<k∧y=(dnAt j).id:=has_in.trans ⟨fun⟨o,ho⟩=>let ⟨j,h1,h2,_⟩:=(h.has _ _).1 ho;⟨j,h1,h2⟩,fun⟨j,h1,h2⟩=>⟨dnO j,(h.has _ _).2 ⟨j,h1,h2,rfl⟩⟩⟩
theorem DnF.new{k:Nat}(h:DnF k){i:Nat}(hi:i<61)(hk:k≤i):¬inS (dnG k).m (dnG k).ids (idOf (dnO i)):=fun hin=>by
 obtain⟨j,h1,h2⟩:=(h.ins _).1 hin;rw[dn_id hi]at h2;have:=dn_inj hi (by omega) h2;omega
theorem DnF.all{k:Nat}(h:DnF k){i:Nat}(hi:i≤k)(h6:k≤60):allI (dnG k).m (dnG k).ids (dnO i).n (dnO i).ids:=fun j hj=>by
 have hj:j<dnN i:=hj;have h1:¬(i=0∨i=60):=fun c=>by
  unfold dnN at hj;rw[if_pos c]at hj;exact absurd hj (Nat.not_lt_zero _)
 have hn:=dnN_le i;obtain rfl:j=0:=by omega
 refine(h.ins _).2 ⟨i - 1,by omega,?_⟩;show idAt (dnP i) 0=_;unfold dnP idAt;rw[if_neg h1,Nat.mul_zero,List.drop_zero];exact List.take_of_length_le (by rw[(dn_arr (by omega)).1];exact Nat.le_refl _)
theorem DnF.chk{k:Nat}(h:DnF k):chkP (dnG k)=0:=(chkP_fine h.fine.good.1).2 h.fine
theorem dn_f:∀k,k≤60→DnF k
 |0,_=>⟨nil_fine,rfl,fun y u=>⟨fun h=>absurd h (nil_has _ _),fun⟨j,hj,_⟩=>absurd hj (Nat.not_lt_zero _)⟩⟩
 |k+1,h=>by
  have F:=dn_f k (by omega);have a:addE (dnG k) (dnO k)=0:=addE_0 F.chk (dn_ver (by omega)) (F.new (by omega) (Nat.le_refl _)) (F.all (Nat.le_refl _) (by omega)) (by rw[F.m];omega);obtain⟨_,_,b3,b4,_,b6⟩:=add_fine F.fine.good.1 a;refine⟨b3,by show(addP (dnG k) (dnO k)).m=_;rw[b4,F.m],fun y u=>(b6 y u).trans ?_⟩;rw[F.has,dn_id (by omega)];constructor
  ·rintro(⟨j,hj,e⟩|e)
   ·exact⟨j,by omega,e⟩
   ·exact⟨k,by omega,e⟩
  ·rintro⟨j,hj,e⟩;rcases Nat.lt_or_ge j k with c|c
   ·exact .inl ⟨j,c,e⟩
   ·obtain rfl:j=k:=by omega
    exact .inr e
theorem dn_add{k:Nat}(h:k<60):addE (dnG k) (dnO k)=0:=by
 have F:=dn_f k (by omega);exact addE_0 F.chk (dn_ver (by omega)) (F.new (by omega) (Nat.le_refl _)) (F.all (Nat.le_refl _) (by omega)) (by rw[F.m];omega)
theorem dn_mk{l:List OpV}:∀k,k≤60→(∀i,i<k→l.getD i OpV.zero=dnO i)→mkN l k=some (dnG k)
 |0,_,_=>rfl
 |k+1,h,hl=>by
  have F:=dn_f k (by omega);have e:=dn_mk k (by omega) fun i hi=>hl i (by omega);have h1:=hl k (by omega);rw[mkN_more e (by rw[h1];exact F.new (by omega) (Nat.le_refl _)),h1];exact congrArg some (addP_yes (dn_add (by omega))).1.symm
theorem dn_of:lstE (dnL 60)=0∧lstP (dnL 60)=dnG 60:=by
 have F:=dn_f 60 (Nat.le_refl _);have hm:mkN (dnL 60) (dnL 60).length=some (dnG 60):=by
  rw[dnL_len];exact dn_mk 60 (Nat.le_refl _) fun i hi=>dnL_at hi
 have hv:verL (dnL 60)=0:=verL_all fun k hk=>by
  rw[dnL_len]at hk;rw[dnL_at hk];exact dn_ver (by omega)
 have e:=lstE_s (by rw[dnL_len];decide) hv hm;rw[fine_shape F.fine]at e;exact⟨e,lstP_yes e hm⟩
/-! what is not added -/
theorem dn_full:addE (dnG 60) (dnO 60)=18:=by
 have F:=dn_f 60 (Nat.le_refl _);exact addE_5 F.chk (dn_ver (by omega)) (F.new (by omega) (Nat.le_refl _)) (F.all (Nat.le_refl _) (Nat.le_refl _)) F.m
theorem dn_many:lstE (dnL 60++[dnO 60])=4:=lstE_4 (by rw[List.length_append,dnL_len];decide)
theorem dn_twice:lstE (dnL 3++[dnO 1])=14:=by
 have F:=dn_f 3 (by decide);refine lstE_14 (by decide) (verL_zero.2 fun o ho=>?_) ?_
 ·rcases List.mem_append.1 ho with h|h
  ·obtain⟨i,hi,rfl⟩:=List.mem_map.1 h;rw[List.mem_range]at hi;exact dn_ver (by omega)
  ·obtain rfl:=List.mem_singleton.1 h;exact dn_ver (by omega)
 ·show mkN _ (3+1)=none;refine mkN_twice (dn_mk 3 (by decide) fun i hi=>?_) ?_
  ·rw[List.getD_eq_getElem?_getD,List.getElem?_append_left (by rw[dnL_len];exact hi),←List.getD_eq_getElem?_getD];exact dnL_at hi
  ·show inS _ _ (idOf (dnO 1));exact(F.ins _).2 ⟨1,by decide,dn_id (by decide)⟩
end S
end Go.Proofs.YtjjbdaiioociaaaDoor
