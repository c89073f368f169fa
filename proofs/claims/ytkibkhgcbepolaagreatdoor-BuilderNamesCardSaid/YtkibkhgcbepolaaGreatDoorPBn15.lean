/-
  Part 15 of the lemmas of these laws: BuilderNames.
-/
import Derived.Test.YtkibkhgcbepolaaGreatDoorPBn14
set_option linter.unusedVariables false
set_option linter.unusedSimpArgs false
open Go.Proofs.Tryz
namespace Go.Proofs.YtkibkhgcbepolaaGreatDoor
namespace W
open Go.RowKit G
set_option maxRecDepth 20000
set_option maxHeartbeats 8000000
attribute [local irreducible] RS RX RY Code.wp bodyPost J Ent.blk Ent.irow Ent.iown Ent.wrow Ent.wown Ent.gown Ent.all Ent.emp
instance:Fld prog 53 2 2:=⟨_,_,1,underlying53,rfl,by kernel_rfl,by decide,rfl⟩
instance:Fld prog 53 1 1:=⟨_,_,1,underlying53,rfl,by kernel_rfl,by decide,rfl⟩
instance:Ents prog 81:=⟨.mk func81 (by kernel_rfl) rfl⟩
instance:Ents prog 109:=⟨.mk func109 (by kernel_rfl) rfl⟩
instance:Ents prog 202:=⟨.mk func202 (by kernel_rfl) rfl⟩
instance:Ents prog 192:=⟨.mk func192 (by kernel_rfl) rfl⟩
instance:Ents prog 121:=⟨.mk func121 (by kernel_rfl) rfl⟩
theorem grAll_r{g:GrA}{S:Nat→Prop}{w:World}(h:(grAll g).ok S w)(k:GrK g)(hm:g.m≤70∧g.ops.length≤70):GrR (fun _=>True) w g:=by
 obtain⟨A,T,_,_,_,a,B,T2,_,_,_,b,C,T3,_,_,_,c,_⟩:=all_e h;have a:=(gown_e a).1;have c':=wown_row c;have hn:g.n≤70:=by have h1:=a.len;have h2:=hm.2;unfold GrA.ops at h2;rw[List.length_map]at h2;omega
 exact⟨c'.weaken fun _ _ _=>trivial,a.row.weaken fun _ _ _=>trivial,Inns.weak (sep_inns (all_e b) k.cap) fun _ _=>trivial,k.ok,(wown_len c).2,a.capn,hm.1,hn⟩
theorem ShR.own{S0:Nat→Prop}{w0:World}{L:List Ent}{s:ShA}{F1:Option Addr→Nat→Nat→List GrA→List Ent}{F2:Option Addr→Nat→Nat→List Int→List Ent}{F3:Ent→List Ent}
  [R1:GO L s.pa (fun g:GrA=>grC g) 2 43 s.pn s.pc s.gs F1][R2:RWO L s.ha 24 .u8 32 s.hn s.hc s.hs F2][R3:RE L (.all (s.gs.map grAll)) F3](hk:∀g∈s.gs,GrK g)(hm:∀g∈s.gs,g.m≤70∧g.ops.length≤70)(hz:s.gs.length≤6∧s.hn≤100)(w:World)(M:Mem S0 w0 L w):ShR (fun _=>True) w s:=by
 obtain⟨A,_,a⟩:=M.get (R1.h s.pa s.pn s.pc s.gs).same;obtain⟨B,_,b⟩:=M.get (R2.h s.ha s.hn s.hc s.hs).same;obtain⟨C,_,c⟩:=M.get (R3.h (.all (s.gs.map grAll))).same;have a:=(gown_e a).1;have b':=wown_row b;have hb:=(wown_len b).2;refine⟨a.row.weaken fun _ _ _=>trivial,fun g hg=>?_,b'.weaken fun _ _ _=>trivial,a.capn,hb,?_,hz.2⟩
 ·obtain⟨S',_,k⟩:=sep_mem (List.mem_map.2 ⟨g,hg,rfl⟩) (all_e c);exact grAll_r k (hk g hg) (hm g hg)
 have:=a.len;omega
theorem ShK.sz{g:S.PG}{n:Nat}{s:ShA}(h:ShK (S.madeS g n) s)(hg:g.m≤70)(hn:n≤4):(∀g∈s.gs,g.m≤70∧g.ops.length≤70)∧(s.gs.length≤6∧s.hn≤100):=by
 have e:s.gs.map GrA.P=(S.madeS g n).ps:=congrArg S.ShV.ps h.V;have e2:s.hn=S.hdN g:=congrArg S.ShV.hn h.V;have hh:S.hdN g≤g.m:=S.numF_le _ _;refine⟨fun q hq=>?_,?_,by omega⟩
 ·have hm:q.P∈(S.madeS g n).ps:=e▸List.mem_map.2 ⟨q,hq,rfl⟩;obtain⟨i,hi,e3⟩:=List.mem_map.1 hm;obtain⟨h1,h2⟩:=S.prt_size g n i;rw[e3]at h1 h2;exact⟨Nat.le_trans h1 hg,Nat.le_trans h2 hg⟩
 have:=congrArg List.length e;rw[List.length_map,S.made_len]at this;omega
theorem shAt{s:ShA}{g:GrA}{i:Nat}(h:s.gs[i]? =some g):s.V.ps.getD i S.PG.nil=g.P:=gsAt h
theorem refShSame{S0 S1:Nat→Prop}(a b:ShA)(w:World)(H:ShR S0 w a)(K:ShR S1 w b):
  Calls prog 121 #[.agg (shC a).toArray, .agg (shC b).toArray] w (Ret w fun v _=>v= .bool (decide (S.eqSh a.V b.V))):=by
 have P0:=H.pr;have P1:=K.pr;have hl:=P0.len;have hl1:=P1.len;have hcp:=H.cap;have hcp1:=K.cap;have hla:a.V.ps.length=a.pn:=by rw[List.length_map,hl]
 have hlb:b.V.ps.length=b.pn:=by rw[List.length_map,hl1]
 refine J.enter 45 func121 rfl rfl ?_;refine run ?_;refine J.box rfl rfl rfl fun b1=>?_
 refine run ?_;refine J.box rfl rfl rfl fun b2=>?_
 refine run ?_;refine J.spn rfl rfl rfl (fun c1=>?_) (fun c1=>?_)
 ·refine run ?_;exact J.fin (congrArg _ (decide_eq_false fun h=>c1 (by have:=h.1;omega)).symm)
 refine run ?_;refine J.spn rfl rfl rfl (fun c2=>?_) (fun c2=>?_)
 ·refine run ?_;exact J.fin (congrArg _ (decide_eq_false fun h=>c2 h.2.1).symm)
 refine run ?_;refine J.callp rfl rfl (fun w' M=>sameIDs _ _ _ _ _ _ _ _ _ (H.hr.ext M.ext) (K.hr.ext M.ext) (by omega) (by omega)) ?_;refine run ?_;refine J.ifnot rfl (fun c3=>?_) (fun c3=>?_)
 ·refine run ?_;exact J.fin (congrArg _ (decide_eq_false fun h=>of_decide_eq_false c3 h.2.2.1).symm)
 refine run ?_;refine J.loopS (A:=Nat) (fun p=>[(5, .int .i64 (p:Nat))]) [28,29,30,31,32,33,34,35,36,37,38,39,40,41,42,43,44,45,46] (fun p=>p≤a.pn∧∀i,i<p→(a.V.ps.getD i S.PG.nil).ids=(b.V.ps.getD i S.PG.nil).ids∧(a.V.ps.getD i S.PG.nil).ops=(b.V.ps.getD i S.PG.nil).ops) (fun p=>a.pn - p) 0 (by kernel_rfl) ⟨Nat.zero_le _,fun i hi=>by omega⟩ (fun p j hI=>?_);obtain⟨hp,hI⟩:=hI;refine run ?_;refine J.ifd rfl (fun c4=>?_) (fun c4=>?_)
 ·obtain⟨g,hg⟩:=P0.ex (i:=(p:Nat)) (by omega);obtain⟨h,hh⟩:=P1.ex (i:=(p:Nat)) (by omega);have hg':=hg;have hh':=hh;rw[Int.toNat_natCast]at hg' hh';have e1:=shAt hg';have e2:=shAt hh';refine run ?_;refine J.regionX [(0, .q),(1, .q),(2, .q),(3, .q),(4, .q),(5, .q),(6, .q),(7, .q),(8, .q),(9, .q),(10, .e),(11, .q)] mixed (by kernel_rfl) ?_;refine run ?_;refine J.callp rfl rfl (fun w' M=>refGSame g h w' ((H.g hg').ext M.ext) ((K.g hh').ext M.ext)) ?_;refine run ?_;refine J.ifnot rfl (fun c5=>?_) (fun c5=>?_)
  ·refine run ?_;exact J.fin (congrArg _ (decide_eq_false fun k=>of_decide_eq_false c5 (by have:=k.2.2.2 p (by omega);rw[e1,e2]at this;exact this)).symm)
  refine run ?_;refine J.nextS (p+1) ⟨rfl,trivial⟩ (by kernel_rfl) ⟨by omega,fun i hi=>?_⟩ (by omega);rcases Nat.lt_or_ge i p with k|k
  ·exact hI i k
  obtain rfl:i=p:=by omega
  rw[e1,e2];exact of_decide_eq_true c5
 refine run ?_;exact J.fin (congrArg _ (decide_eq_true ⟨by omega,c2,of_decide_eq_true c3,fun i hi=>hI i (by omega)⟩).symm)
theorem refShCheck{S0:Nat→Prop}(s:ShA)(w:World)(H:ShR S0 w s)(hL:ShL s):
  Calls prog 108 #[.agg (shC s).toArray] w (Ret w fun v _=>v= .int .i64 (S.chkH s.V)):=by
 have hcp:=H.cap;have hll:s.V.ps.length=s.pn:=by rw[List.length_map,H.pr.len]
 refine J.enter 28 func108 rfl rfl ?_;refine run ?_;refine J.box rfl rfl rfl fun b1=>?_
 refine run ?_;refine J.spd rfl rfl rfl (fun c1=>?_) (fun c1=>?_)
 ·refine run ?_;exact J.fin (congrArg _ (S.chkH_8 fun h=>by have:=h.1.1;omega).symm)
 refine run ?_;refine J.ifd rfl (fun c2=>?_) (fun c2=>?_)
 ·refine run ?_;exact J.fin (congrArg _ (S.chkH_8 fun h=>by have:=h.1.2;omega).symm)
 have hle:=H.le hL (by omega);have hwg:=S.whole_good (ps:=s.V.ps) H.ml
 have hok : ∀ o ∈ (S.whole s.V.ps).ops, o.ok := fun o ho => S.whole_ok (fun p hp o ho => by
  obtain ⟨g, hg, rfl⟩ := List.mem_map.1 hp
  exact (H.gi g hg).opz o ho) o ho
 refine run ?_;refine J.call rfl rfl (fun w' M=>refWhole s w' (H.ext M.ext) hL (by omega)) fun q hq=>?_
 dsimp only[grE,List.cons_append,List.nil_append];have hqs:q.m≤70∧q.n≤70:=⟨by rw[hq.m];omega,by rw[hq.n,hwg.2];omega⟩
 have hqP:q.P=S.whole s.V.ps:=by rw[hq.P]
 refine run ?_;refine J.alloc rfl fun b3=>?_
 refine run ?_;refine J.regionX [(0, .q),(1, .e),(2, .q),(3, .q),(4, .q),(5, .q),(6, .q),(7, .q),(8, .q),(9, .e),(10, .e),(11, .q),(12, .q)] mixed (by kernel_rfl) ?_;refine run ?_;refine J.callp rfl rfl (fun w' M=>refCheck q w' (GrR.own (hq.ok hok) hq.cap hqs w' M)) ?_;refine run ?_;refine J.spn rfl rfl rfl (fun c3=>?_) (fun c3=>?_)
 ·refine run ?_;exact J.fin (congrArg _ (S.chkH_8 fun h=>c3 (by have:=h.2.1;unfold S.chkP at this;rw[←hqP]at this;exact this)).symm)
 refine run ?_;refine J.call rfl rfl (fun w' M=>refMade q s.pn w' (GrR.own (hq.ok hok) hq.cap hqs w' M) c3 (by omega)) fun q2 hq2=>?_
 rw[hqP]at hq2;obtain⟨hz1,hz2⟩:=hq2.sz (by omega) (by omega);refine run ?_;refine J.callp rfl rfl (fun w' M=>refShSame s q2 w' (H.ext M.ext) (ShR.own hq2.k hz1 hz2 w' M)) ?_;refine run ?_;refine J.ifnot rfl (fun c4=>?_) (fun c4=>?_)
 ·refine run ?_;exact J.fin (congrArg _ (S.chkH_8 fun h=>of_decide_eq_false c4 (by rw[hq2.V,←hll];exact h.2.2)).symm)
 refine run ?_;exact J.fin (congrArg _ (S.chkH_0 ⟨⟨by omega,by omega⟩,by unfold S.chkP;rw[←hqP];exact c3,by have:=of_decide_eq_true c4;rw[hq2.V,←hll]at this;exact this⟩).symm)
theorem refWholeOk{S0:Nat→Prop}{w:World}{s:ShA}(H:ShR S0 w s):∀o∈(S.whole s.V.ps).ops,o.ok:=S.whole_ok fun p hp o ho=>by
 obtain⟨g,hg,rfl⟩:=List.mem_map.1 hp;exact(H.gi g hg).opz o ho
theorem ok_len{S0:Nat→Prop}{w:World}{s:ShA}(H:ShR S0 w s)(h:S.okR s.V):1≤s.pn∧s.pn≤4:=by
 have h1:s.V.ps.length=s.pn:=by rw[List.length_map,H.pr.len]
 have h2:=h.1;omega
theorem refShNew(n:Int)(w:World):
  Calls prog 100 #[.int .i64 n] w (Gv w (fun q:ShA=> .tuple #[.agg (shC q).toArray, .int .i64 (S.nwE n)]) (fun q=>shE q) (ShK (S.nwS n))):=by
 refine J.enter 13 func100 rfl rfl ?_;refine run ?_;refine J.alloc rfl fun b2=>?_
 refine run ?_;refine J.spd rfl rfl rfl (fun c1=>?_) (fun c1=>?_)
 ·refine run ?_;refine J.nilWo 24 .u8 32 ?_;refine J.noA ?_;refine J.nilG (fun g:GrA=>grC g) 2 43 grC_len ?_;have e1:S.nwE n=2:=if_neg (by omega);have e2:S.nwS n=S.ShV.zero:=if_neg (by omega);rw[e1,e2];exact J.finG ShA.zero rfl ⟨rfl,fun g hg=>by cases hg⟩ sb
 refine run ?_;refine J.ifd rfl (fun c2=>?_) (fun c2=>?_)
 ·refine run ?_;refine J.nilWo 24 .u8 32 ?_;refine J.noA ?_;refine J.nilG (fun g:GrA=>grC g) 2 43 grC_len ?_;have e1:S.nwE n=2:=if_neg (by omega);have e2:S.nwS n=S.ShV.zero:=if_neg (by omega);rw[e1,e2];exact J.finG ShA.zero rfl ⟨rfl,fun g hg=>by cases hg⟩ sb
 have e1:S.nwE n=0:=if_pos (by omega);have e2:S.nwS n=S.madeS S.PG.nil n.toNat:=if_pos (by omega);obtain⟨N,rfl⟩:∃N:Nat,n=(N:Int):=⟨n.toNat,by omega⟩
 rw[Int.toNat_natCast]at e2;rw[e1,e2];refine run ?_;refine J.nilGr 24 37 ?_;refine J.re (.all []) (.all (([]:List OpA).map (opE 24))) (fun _ _ h=>h) ?_;refine J.call rfl rfl (fun w' M=>refMade ⟨none,none,0,0,0,0,[],[]⟩ N w' (GrR.own (g:=⟨none,none,0,0,0,0,[],[]⟩) (TI:=24) (TO:=37) (fun z hz=>by cases hz) (fun z hz=>by cases hz) ⟨Nat.zero_le _,Nat.zero_le _⟩ w' M) ((S.chkP_fine rfl).2 S.nil_fine) (by omega)) fun q hq=>?_
 refine run ?_;exact J.finG q rfl hq sb
end W
namespace S
open G
theorem set_mid{α:Type}{D l:List α}{i:Nat}(hD:D.length=i){x y:α}(h:l[i]? =some x):(D++l.drop i).set i y=(D++[y])++l.drop (i+1):=by
 subst hD;have hl:D.length<l.length:=(List.getElem?_eq_some_iff.1 h).1;rw[List.set_append_right _ _ (Nat.le_refl _),Nat.sub_self,List.drop_eq_getElem_cons hl,List.set_cons_zero,List.append_assoc];rfl
theorem setN_getD{l:List Nat}{k i v:Nat}(hk:k<l.length):(l.set k v).getD i 0=if i=k then v else l.getD i 0:=by
 rw[List.getD_eq_getElem?_getD,List.getElem?_set,List.getD_eq_getElem?_getD];by_cases e:k=i
 ·subst e;simp[hk]
 ·rw[if_neg e,if_neg fun h=>e h.symm]
theorem sm_lt{f g:Nat→Nat}{k:Nat}:∀ {n:Nat},(∀i,i<n→f i≤g i)→k<n→f k<g k→sm f n<sm g n
 |n+1,h,hk,hlt=>by
  rw[sm,sm];have h1:=h n (by omega);by_cases e:k=n
  ·subst e;have:=sm_le (n:=k) fun i hi=>h i (by omega);omega
  ·have:=sm_lt (n:=n) (fun i hi=>h i (by omega)) (by omega) hlt;omega
theorem sm_congr{f g:Nat→Nat}:∀ {n:Nat},(∀i,i<n→f i=g i)→sm f n=sm g n
 |0,_=>rfl
 |n+1,h=>by rw[sm,sm,sm_congr fun i hi=>h i (by omega),h n (by omega)]
theorem sm_set{l:List Nat}{k:Nat}(hk:k<l.length):∀n,sm (fun i=>(l.set k (l.getD k 0+1)).getD i 0) n=sm (fun i=>l.getD i 0) n+if k<n then 1 else 0
 |0=>rfl
 |n+1=>by
  rw[sm,sm,sm_set hk n,setN_getD hk];by_cases e:n=k
  ·subst e;rw[if_pos rfl,if_neg (by omega),if_pos (by omega)];omega
  ·rw[if_neg e];split<;>split<;>omega
def resP(n i:Int)(m:Nat)(ids:List Int):Prop:=∀j,j<m→(idAt ids j).getD 0 0 % n=i
instance(n i:Int)(m:Nat)(ids:List Int):Decidable (resP n i m ids):=by unfold resP;infer_instance
theorem castL_rep(n:Nat):castL (List.replicate n 0)=List.replicate n 0:=by simp[castL]
theorem castL_set(l:List Nat)(k v:Nat):castL (l.set k v)=(castL l).set k (v:Int):=by simp[castL,List.map_set]
theorem goodPs_of{ps:List PG}(h1:∀p∈ps,p.ids.length=32*p.m)(h2:∀k,k<ps.length→resP (ps.length:Int) (k:Nat) (ps.getD k PG.nil).m (ps.getD k PG.nil).ids)(h3:∀k,k<ps.length→(ps.getD k PG.nil).ops.length=(ps.getD k PG.nil).m∧Rising (ps.getD k PG.nil).m (ps.getD k PG.nil).ids):goodPs ps:=fun i hi=>by
 obtain⟨a,b⟩:=h3 i hi;have c:=h1 _ (List.getElem_mem hi);rw[←getD_at (d:=PG.nil) hi]at c;exact⟨⟨c,a⟩,b,h2 i hi⟩
structure MgS(ps:List PG)(nx:List Nat)(g:PG):Prop where
 len:nx.length=ps.length
 le:∀k,k<ps.length→nx.getD k 0≤(ps.getD k PG.nil).m
 good:g.good
 rise:Rising g.m g.ids
 has:∀x o,g.has x o↔∃k,k<ps.length∧∃j,j<nx.getD k 0∧idAt (ps.getD k PG.nil).ids j=x∧(ps.getD k PG.nil).ops.getD j OpV.zero=o
 low:∀i,i<g.m→∀k,k<ps.length→∀j,nx.getD k 0≤j→j<(ps.getD k PG.nil).m→cmpS (idAt g.ids i) (idAt (ps.getD k PG.nil).ids j)<0
 tot:g.m=sm (fun k=>nx.getD k 0) ps.length
theorem rep_getD(n i:Nat):(List.replicate n 0).getD i 0=0:=by
 rw[List.getD_eq_getElem?_getD,List.getElem?_replicate];split<;>rfl
theorem mg_zero (ps : List PG) : MgS ps (List.replicate ps.length 0) PG.nil := ⟨List.length_replicate, fun k hk => by rw [rep_getD]; exact Nat.zero_le _, nil_good, nil_rising, fun x o => ⟨fun h => absurd h (nil_has x o), fun ⟨k, hk, j, hj, _⟩ => by rw [rep_getD] at hj; exact absurd hj (Nat.not_lt_zero _)⟩, fun i hi => absurd hi (Nat.not_lt_zero _), by
 rw [sm_congr (g := fun _ => 0) fun i hi => rep_getD _ _, sm_zero]
 rfl⟩
theorem MgS.lt{ps:List PG}{nx:List Nat}{g:PG}(h:MgS ps nx g){k:Nat}(hk:k<ps.length)(hlt:nx.getD k 0<(ps.getD k PG.nil).m):g.m<allN ps:=by
 have h1:=sm_lt (f:=fun k=>nx.getD k 0) (g:=fun j=>(ps.getD j PG.nil).m) h.le hk hlt;rw[sm_all ps _ (Nat.le_refl _),List.take_length]at h1;rw[h.tot];exact h1
def LsP(ps:List PG)(nx:List Nat)(i:Nat)(l:Int):Prop:=
 (l= -1∧∀k,k<i→¬nx.getD k 0<(ps.getD k PG.nil).m)∨∃k:Nat,l=(k:Nat)∧k<i∧nx.getD k 0<(ps.getD k PG.nil).m∧∀k',k'<i→nx.getD k' 0<(ps.getD k' PG.nil).m→¬cmpS (idAt (ps.getD k' PG.nil).ids (nx.getD k' 0)) (idAt (ps.getD k PG.nil).ids (nx.getD k 0))<0
section
variable{ps:List PG}{nx:List Nat}{i:Nat}{l:Int}{g:PG}
theorem ls_zero:LsP ps nx 0 (-1):= .inl ⟨rfl,fun k hk=>absurd hk (Nat.not_lt_zero _)⟩
theorem LsP.skip(h:LsP ps nx i l)(hn:¬nx.getD i 0<(ps.getD i PG.nil).m):LsP ps nx (i+1) l:=by
 rcases h with⟨h1,h2⟩|⟨k,h1,h2,h3,h4⟩
 ·exact .inl ⟨h1,fun k hk=>(Nat.lt_succ_iff_lt_or_eq.1 hk).elim (h2 k) fun e=>e▸hn⟩
 ·refine .inr ⟨k,h1,by omega,h3,fun k' hk' hh=>?_⟩;rcases Nat.lt_or_ge k' i with c|c
  ·exact h4 k' c hh
  ·obtain rfl:k'=i:=by omega
   exact absurd hh hn
theorem LsP.first(h:LsP ps nx i l)(hl:l<0)(hn:nx.getD i 0<(ps.getD i PG.nil).m):LsP ps nx (i+1) (i:Nat):=by
 rcases h with⟨h1,h2⟩|⟨k,h1,_⟩
 ·refine .inr ⟨i,rfl,by omega,hn,fun k' hk' hh=>?_⟩;rcases Nat.lt_or_ge k' i with c|c
  ·exact absurd hh (h2 k' c)
  ·obtain rfl:k'=i:=by omega
   rw[cmpS_self];decide
 ·omega
theorem LsP.some(h:LsP ps nx i l)(hl:¬l<0):∃k:Nat,l=(k:Nat)∧k<i∧nx.getD k 0<(ps.getD k PG.nil).m:=by
 rcases h with⟨h1,_⟩|⟨k,h1,h2,h3,_⟩
 ·omega
 ·exact⟨k,h1,h2,h3⟩
theorem LsP.less{k:Nat}(h:LsP ps nx i (k:Nat))(hn:nx.getD i 0<(ps.getD i PG.nil).m)(hc:cmpS (idAt (ps.getD i PG.nil).ids (nx.getD i 0)) (idAt (ps.getD k PG.nil).ids (nx.getD k 0))<0):LsP ps nx (i+1) (i:Nat):=by
 rcases h with⟨h1,_⟩|⟨q,h1,h2,h3,h4⟩
 ·omega
 ·obtain rfl:k=q:=by omega
  refine .inr ⟨i,rfl,by omega,hn,fun k' hk' hh hcc=>?_⟩;rcases Nat.lt_or_ge k' i with c|c
  ·exact h4 k' c hh (cmpS_trans hcc hc)
  ·obtain rfl:k'=i:=by omega
   rw[cmpS_self]at hcc;exact absurd hcc (by decide)
theorem LsP.more{k:Nat}(h:LsP ps nx i (k:Nat))(hc:¬cmpS (idAt (ps.getD i PG.nil).ids (nx.getD i 0)) (idAt (ps.getD k PG.nil).ids (nx.getD k 0))<0):LsP ps nx (i+1) (k:Nat):=by
 rcases h with⟨h1,_⟩|⟨q,h1,h2,h3,h4⟩
 ·omega
 ·obtain rfl:k=q:=by omega
  refine .inr ⟨k,rfl,by omega,h3,fun k' hk' hh=>?_⟩;rcases Nat.lt_or_ge k' i with c|c
  ·exact h4 k' c hh
  ·obtain rfl:k'=i:=by omega
   exact hc
theorem MgS.step(hg:goodPs ps)(h:MgS ps nx g){k:Nat}(hl:LsP ps nx ps.length (k:Nat)):MgS ps (nx.set k (nx.getD k 0+1)) (g.snoc (idAt (ps.getD k PG.nil).ids (nx.getD k 0)) ((ps.getD k PG.nil).ops.getD (nx.getD k 0) OpV.zero)):=by
 rcases hl with⟨h1,_⟩|⟨q,h1,hk,h3,h4⟩
 ·omega
 ·obtain rfl:k=q:=by omega
  have hkl:k<nx.length:=by rw[h.len];exact hk
  have hx:=idAt_len (ps.getD k PG.nil).ids (nx.getD k 0) _ (hg k hk).1.1 h3;have hlow:∀i,i<g.m→cmpS (idAt g.ids i) (idAt (ps.getD k PG.nil).ids (nx.getD k 0))<0:=fun i hi=>h.low i hi k hk _ (Nat.le_refl _) h3;refine⟨by rw[List.length_set];exact h.len,fun k' hk'=>?_,snoc_good h.good hx,snoc_rising h.good h.rise hx hlow,fun x o=>(snoc_has h.good hx).trans ⟨fun hh=>?_,fun⟨k',hk',j,hj,e1,e2⟩=>?_⟩,fun i hi k' hk' j hj hjm=>?_,?_⟩
  ·rw[setN_getD hkl];split
   ·rename_i e;rw[e];omega
   ·exact h.le k' hk'
  ·rcases hh with hh|⟨e1,e2⟩
   ·obtain⟨k',hk',j,hj,r⟩:=(h.has x o).1 hh;refine⟨k',hk',j,?_,r⟩;rw[setN_getD hkl];split
    ·rename_i e;rw[e]at hj;omega
    ·exact hj
   ·exact⟨k,hk,nx.getD k 0,by rw[setN_getD hkl,if_pos rfl];omega,e1,e2⟩
  ·rw[setN_getD hkl]at hj;split at hj
   ·rename_i e;subst e;rcases Nat.lt_or_ge j (nx.getD k' 0)with c|c
    ·exact .inl ((h.has x o).2 ⟨k',hk',j,c,e1,e2⟩)
    ·obtain rfl:j=nx.getD k' 0:=by omega
     exact .inr ⟨e1,e2⟩
   ·exact .inl ((h.has x o).2 ⟨k',hk',j,hj,e1,e2⟩)
  ·have hi':i<g.m+1:=hi;rw[snoc_at h.good hx i hi'];rw[setN_getD hkl]at hj;split
   ·rename_i hig;refine h.low i hig k' hk' j ?_ hjm;split at hj
    ·rename_i e;rw[e];omega
    ·exact hj
   ·split at hj
    ·rename_i e;subst e;exact rising_lt (hg k' hk').2.1 _ j (by omega) hjm
    ·rename_i e;have hm':nx.getD k' 0<(ps.getD k' PG.nil).m:=by omega
     have h5:=h4 k' hk' hm';have hne:idAt (ps.getD k PG.nil).ids (nx.getD k 0)≠idAt (ps.getD k' PG.nil).ids (nx.getD k' 0):=fun ee=>e (hg.one hk' hk ⟨_,hm',rfl⟩ ⟨_,h3,ee⟩);have h6:cmpS (idAt (ps.getD k PG.nil).ids (nx.getD k 0)) (idAt (ps.getD k' PG.nil).ids (nx.getD k' 0))<0:=by
      rw[cmpS_swap]at h5;have h7:cmpS (idAt (ps.getD k PG.nil).ids (nx.getD k 0)) (idAt (ps.getD k' PG.nil).ids (nx.getD k' 0))≠0:=fun z=>hne ((cmpS_eq _ _).1 z);omega
     rcases Nat.lt_or_ge (nx.getD k' 0) j with c|c
     ·exact cmpS_trans h6 (rising_lt (hg k' hk').2.1 _ j c hjm)
     ·obtain rfl:j=nx.getD k' 0:=by omega
      exact h6
  ·show g.m+1=_;rw[sm_set hkl,if_pos hk,←h.tot]
theorem MgS.done(hg:goodPs ps)(h:MgS ps nx g)(hl:LsP ps nx ps.length l)(hn:l<0):whole ps=g:=by
 rcases hl with⟨_,h2⟩|⟨k,h1,_⟩
 ·refine(whole_mrg hg).eq ⟨h.good,h.rise,fun x o=>(h.has x o).trans ⟨fun⟨k,hk,j,hj,e1,e2⟩=>mem_parts.2 ⟨k,hk,j,by have:=h.le k hk;omega,e1,e2⟩,fun hh=>?_⟩⟩;obtain⟨k,hk,j,hj,e1,e2⟩:=mem_parts.1 hh;exact⟨k,hk,j,by have:=h2 k hk;omega,e1,e2⟩
 ·omega
end
end S
namespace W
open Go.RowKit G
set_option maxRecDepth 20000
set_option maxHeartbeats 8000000
attribute [local irreducible] RS RX RY Code.wp bodyPost J Ent.blk Ent.irow Ent.iown Ent.wrow Ent.wown Ent.gown Ent.all Ent.emp
instance:Ents prog 159:=⟨.mk func159 (by kernel_rfl) rfl⟩
instance:Ents prog 236:=⟨.mk func236 (by kernel_rfl) rfl⟩
instance:Ents prog 210:=⟨.mk func210 (by kernel_rfl) rfl⟩
section
variable{w0:World}{L:List Ent}{P:Program}{ops:Array Oper}{K:List Value→World→Prop}{rest:List (Oper×Kd)}{l l':List Value}{m:Md}{d:Tmp}{ty xt T:TypeId}{pos:String}{af:Array Edge}{x:Operand}{b o:Nat}{cs:List Value}{v:Value}
theorem J.ldOq[U:Sca P xt](hB:Blk w0 b cs T)(hx:ev l x= .pointer (some ⟨b,o,none⟩))(k:J no w0 L (RY no w0 m P ops K rest l'))(hv:cs[o]? =some v:=by rfl)(hl:l.set d v=l':=by dsimp only[List.set]):
  J no w0 L (RY no w0 m P ops K ((⟨some d, .load xt x,ty,pos,af,none⟩, .q)::rest) l):=
 let ⟨_,u1,u2⟩:=U.h
 J.val (fun w M=>D.load hx u1 u2 ((hB.ext M.ext).cell hv)) k hl
end
theorem shWh1(x:List Int)(n i:Int)(bn bi:Nat)(T T2:TypeId)(w:World)(hn:Blk w bn [.int .i64 n] T)(hi:Blk w bi [.int .i64 i] T2)(hx:Arr .u8 32 x)(h0:0<n∧n≤1000):
  Calls prog 236 #[.agg (ints .u8 x).toArray, .pointer (some ⟨bn,0,none⟩), .pointer (some ⟨bi,0,none⟩)] w (Ret w fun v _=>v= .bool (decide (¬x.getD 0 0 % n=i))):=by
 refine J.enter 7 func236 rfl rfl ?_;refine run ?_;refine J.box rfl rfl rfl fun b1=>?_
 refine run ?_;refine J.regionX [(0, .q),(1, .q),(3, .q),(2, .e),(4, .q),(5, .q)] mixed (by kernel_rfl) ?_;refine run ?_;refine J.ldOq hn rfl ?_;refine J.ldOq hi rfl ?_;refine J.callp rfl rfl (fun w' M=>shNumber x n hx h0 w') ?_;refine run ?_;exact J.fin (congrArg _ (by rw[Bool.eq_iff_iff];simp))
theorem idxWh{S1:Nat→Prop}(n i:Int)(a:Option Addr)(m c:Nat)(ids:List Int)(bn bi:Nat)(T T2:TypeId)(w:World)(hn:Blk w bn [.int .i64 n] T)(hi:Blk w bi [.int .i64 i] T2)(D1:WRow .u8 32 S1 w a m ids)(h0:0<n∧n≤1000)(hm:m≤1000):
  Calls prog 230 #[.slice a m c, .func (.func 236) #[] #[.pointer (some ⟨bn,0,none⟩), .pointer (some ⟨bi,0,none⟩)]] w (Gv w (fun r:Int=> .int .i64 r) (fun _=>[]) fun r=>0≤r↔¬S.resP n i m ids):=by
 have hl:=D1.len;refine J.enter 17 func230 rfl rfl ?_;refine run ?_;refine J.loopS (A:=Int) (fun p=>[(8, .int .i64 p)]) [4,5,9,10,11,12,13,14,15,16,17,18] (fun p=>(0≤p∧p≤m)∧∀j,j<p.toNat→(S.idAt ids j).getD 0 0 % n=i) (fun p=>m - p.toNat) 0 (by kernel_rfl) ⟨by omega,fun i hi=>by omega⟩ (fun p j hI=>?_);obtain⟨h1,hI⟩:=hI;refine run ?_;refine J.ifd rfl (fun c1=>?_) (fun c1=>?_)
 ·refine run ?_;refine J.callvp rfl rfl rfl (fun w' M=>shWh1 _ n i bn bi T T2 w' (hn.ext M.ext) (hi.ext M.ext) (D1.elt_arr (by omega)) h0) ?_;refine run ?_;refine J.ifd rfl (fun c2=>?_) (fun c2=>?_)
  ·refine run ?_;exact J.finG p rfl ⟨fun _ h=>c2 (h p.toNat (by omega)),fun _=>by omega⟩ (List.nil_sublist _)
  refine run ?_;refine J.nextS (p+1) ⟨rfl,trivial⟩ (by kernel_rfl) ⟨by omega,fun i hi=>?_⟩ (by omega);rcases Nat.lt_or_ge i p.toNat with e|e
  ·exact hI i e
  obtain rfl:i=p.toNat:=by omega
  exact Classical.not_not.1 c2
 refine run ?_;exact J.finG (-1) rfl ⟨fun h=>by omega,fun h=>absurd (fun i hi=>hI i (by omega)) h⟩ (List.nil_sublist _)
theorem hasWh{S1:Nat→Prop}(n i:Int)(a:Option Addr)(m c:Nat)(ids:List Int)(bn bi:Nat)(T T2:TypeId)(w:World)(hn:Blk w bn [.int .i64 n] T)(hi:Blk w bi [.int .i64 i] T2)(D1:WRow .u8 32 S1 w a m ids)(h0:0<n∧n≤1000)(hm:m≤1000):
  Calls prog 148 #[.slice a m c, .func (.func 236) #[] #[.pointer (some ⟨bn,0,none⟩), .pointer (some ⟨bi,0,none⟩)]] w (Ret w fun v _=>v= .bool (decide (¬S.resP n i m ids))):=by
 refine J.enter 7 func148 rfl rfl ?_;refine run ?_;refine J.call rfl rfl (fun w' M=>idxWh n i a m c ids bn bi T T2 w' (hn.ext M.ext) (hi.ext M.ext) (D1.ext M.ext) h0 hm) fun r hr2=>?_
 refine run ?_;exact J.fin (congrArg _ (decide_eq_decide.2 hr2))
theorem cloneO{S0:Nat→Prop}(a:Option Addr)(n c:Nat)(l:List OpA)(w:World)(D0:GRow opC 11 S0 w a n l)(hn:n≤1000):
  Calls prog 210 #[.slice a n c] w (Gv w (fun q:Option Addr×Nat=> .slice q.1 n q.2) (fun q=>[.gown opC 11 37 q.1 n q.2 l]) fun _=>True):=by
 refine J.enter 7 func210 rfl rfl ?_;refine run ?_;refine J.ifb rfl (fun c1=>?_) (fun c1=>?_)
 ·obtain⟨rfl,rfl⟩:=D0.none (by decide) c1;refine run ?_;refine J.nilG opC 11 37 opC_len ?_;exact J.finG (none,0) rfl trivial (.cons_cons _ (List.nil_sublist _))
 refine run ?_;refine J.b0G opC opC_len rfl fun b=>?_
 refine run ?_;refine J.apG rfl rfl (RG.arg D0) opC_one fun a' c'=>?_
 refine run ?_;refine J.re (.gown opC 11 37 a' (0+n) c' ([]++l)) (.gown opC 11 37 a' n c' l) (fun S w h=>by rw[Nat.zero_add]at h;exact h) ?_;exact J.finG (a',c') (by rw[Nat.zero_add]) trivial (.cons_cons _ (List.nil_sublist _))
structure TwU where
 (ia:Option Addr)(ic:Nat)(oa:Option Addr)(oc b3:Nat)
structure TwA where
 (i:Nat)(D:List OpA)
theorem shTwin{S0:Nat→Prop}(g:GrA)(w:World)(G:GrR S0 w g):
  Calls prog 149 #[.agg (grC g).toArray] w (Gv w (fun q:GrA=> .agg (grC q).toArray) (grE 24 37) (GrP g.m g.ids g.ops)):=by
 have D0:=G.ids;have G0:=G.ops;have hl:=G.len;have hcp:=G.cap;have hzl:=G0.len;refine J.enter 31 func149 rfl rfl ?_;refine run ?_;refine J.box rfl rfl rfl fun b1=>?_
 refine J.alloc rfl fun b2=>?_
 refine run ?_;refine J.joinX (A:=TwU) (fun u=>[(3, .pointer (some ⟨u.b3,0,none⟩))]) [5,6,7,8,9,10,11] (fun u=>[.gown opC 11 37 u.oa g.n u.oc g.zs, .blk u.b3 [.slice u.ia g.m u.ic, .slice u.oa g.n u.oc] 43, .wown 24 .u8 32 u.ia g.m u.ic g.ids, .blk b2 [.slice none 0 0, .slice none 0 0] 43, .blk b1 (grC g) 43]) (fun _=>True) ?_ (fun u j hu=>?_)
 ·refine J.regionW [.blk b1 (grC g) 43] mixed ?_;refine J.wnode [(0, .q),(1, .q),(3, .q),(4, .q)] [2,7] 4 #[true,true,false,true,true,false,false,false,false] (by kernel_rfl) ?_;refine run ?_;refine J.nil ?_;refine J.wbr ?_ ?_
  ·refine J.call rfl rfl (fun w' M=>cloneW g.ia g.m g.ic g.ids w' (D0.ext M.ext) hcp.1 (by omega)) fun q1 hq1=>?_
   refine J.nil ?_;refine J.wnode [] [5,7] 3 #[true,true,true,true,true,false,false,false,false] (by kernel_rfl) ?_;refine run ?_;refine J.nil ?_;refine J.wbr ?_ ?_
   ·refine J.call rfl rfl (fun w' M=>cloneO g.oa g.n g.oc g.zs w' (G0.ext M.ext) (by omega)) fun q2 hq2=>?_
    refine J.nil ?_;refine J.wfin [(6, .q),(7, .e),(8, .e)] (by kernel_rfl) ?_;refine run ?_;refine J.alloc rfl fun b5=>?_
    refine run ?_;refine run ?_;refine J.front (.wown 24 .u8 32 q1.1 g.m q1.2 g.ids) ?_;refine J.front (.blk b5 [.slice q1.1 g.m q1.2, .slice q2.1 g.n q2.2] 43) ?_;refine J.front (.gown opC 11 37 q2.1 g.n q2.2 g.zs) ?_;exact J.cut ⟨q1.1,q1.2,q2.1,q2.2,b5⟩ ⟨rfl,trivial⟩ (by kernel_rfl) trivial
   refine J.wbr ?_ ?_
   ·refine J.alloc rfl fun b5=>?_
    refine J.nil ?_;refine J.wfin [(5, .e),(6, .q),(8, .e)] (by kernel_rfl) ?_;refine run ?_;refine J.call rfl rfl (fun w' M=>cloneO g.oa g.n g.oc g.zs w' (G0.ext M.ext) (by omega)) fun q2 hq2=>?_
    refine run ?_;refine run ?_;refine J.front (.wown 24 .u8 32 q1.1 g.m q1.2 g.ids) ?_;refine J.front (.blk b5 [.slice q1.1 g.m q1.2, .slice q2.1 g.n q2.2] 43) ?_;refine J.front (.gown opC 11 37 q2.1 g.n q2.2 g.zs) ?_;exact J.cut ⟨q1.1,q1.2,q2.1,q2.2,b5⟩ ⟨rfl,trivial⟩ (by kernel_rfl) trivial
   exact J.wbr0
  refine J.wbr ?_ ?_
  ·refine J.alloc rfl fun b5=>?_
   refine J.nil ?_;refine J.wfin [(2, .e),(5, .e),(6, .q),(8, .e)] (by kernel_rfl) ?_;refine run ?_;refine J.call rfl rfl (fun w' M=>cloneW g.ia g.m g.ic g.ids w' (D0.ext M.ext) hcp.1 (by omega)) fun q1 hq1=>?_
   refine run ?_;refine J.call rfl rfl (fun w' M=>cloneO g.oa g.n g.oc g.zs w' (G0.ext M.ext) (by omega)) fun q2 hq2=>?_
   refine run ?_;refine run ?_;refine J.front (.wown 24 .u8 32 q1.1 g.m q1.2 g.ids) ?_;refine J.front (.blk b5 [.slice q1.1 g.m q1.2, .slice q2.1 g.n q2.2] 43) ?_;refine J.front (.gown opC 11 37 q2.1 g.n q2.2 g.zs) ?_;exact J.cut ⟨q1.1,q1.2,q2.1,q2.2,b5⟩ ⟨rfl,trivial⟩ (by kernel_rfl) trivial
  exact J.wbr0
 obtain⟨ia,ic,oa,oc,b3⟩:=u;dsimp only;refine run ?_;refine J.noA ?_;refine J.re (.gown opC 11 37 oa g.n oc g.zs) (.gown opC 11 37 oa g.n oc ([]++g.zs.drop 0)) (fun _ _ h=>h) ?_;refine J.re (.all []) (.all (([]:List OpA).map (opE 24))) (fun _ _ h=>h) ?_;refine J.front (.gown opC 11 37 oa g.n oc ([]++g.zs.drop 0)) ?_;refine J.drop (E:=[.gown opC 11 37 oa g.n oc ([]++g.zs.drop 0), .all (([]:List OpA).map (opE 24)), .blk b3 [.slice ia g.m ic, .slice oa g.n oc] 43, .wown 24 .u8 32 ia g.m ic g.ids, .blk b2 [.slice none 0 0, .slice none 0 0] 43, .blk b1 (grC g) 43]) sb ?_;refine J.loop (A:=TwA) (fun p=>[(15, .int .i64 (p.i:Nat))]) [4,16,17,18,19,20,21,22,23,24,25,26,27,28,29,30] (fun p=>[.gown opC 11 37 oa g.n oc (p.D++g.zs.drop p.i), .all (p.D.map (opE 24)), .blk b3 [.slice ia g.m ic, .slice oa g.n oc] 43, .wown 24 .u8 32 ia g.m ic g.ids, .blk b2 [.slice none 0 0, .slice none 0 0] 43, .blk b1 (grC g) 43]) (fun p=>p.i≤g.n∧p.D.length=p.i∧p.D.map OpA.o=(g.zs.take p.i).map OpA.o∧∀z∈p.D,z.o.n≤z.pc) (fun p=>g.n - p.i) ⟨0,[]⟩ (by kernel_rfl) ⟨Nat.zero_le _,rfl,rfl,fun z hz=>by cases hz⟩ (fun p j hI=>?_);obtain⟨hp,hD,hDo,hDc⟩:=hI;refine run ?_;refine J.ifd rfl (fun c1=>?_) (fun c1=>?_)
 ·obtain⟨z,hzz⟩:=G0.ex (i:=(p.i:Nat)) (by omega);have R:=G.op hzz;rw[Int.toNat_natCast]at hzz;have hz2:(p.D++g.zs.drop p.i)[((p.i:Nat):Int).toNat]? =some z:=by
   rw[Int.toNat_natCast,List.getElem?_append_right (by omega),hD,Nat.sub_self,List.getElem?_drop,Nat.add_zero];exact hzz
  refine run ?_;refine J.regionX [(0, .q),(1, .q),(2, .q),(3, .q),(4, .q),(5, .q),(6, .q),(7, .q),(8, .q),(9, .e),(10, .q),(11, .q),(12, .g)] mixed (by kernel_rfl) ?_;refine run ?_;refine J.call rfl rfl (fun w' M=>cloneW _ _ _ _ w' (R.row.ext M.ext) R.cap (by have:=R.ok.n;omega)) fun q hq=>?_
  refine run ?_;refine J.stGf (f:=opC) (o:=1) (q0:=z) (q:=⟨z.o,q.1,q.2⟩) rfl rfl hz2 rfl ?_;rw[Int.toNat_natCast,S.set_mid hD hzz];refine run ?_;refine J.snocA (p.D.map (opE 24)) (.wown 24 .u8 32 q.1 z.o.n q.2 z.o.ids) ?_;refine J.re (.all (p.D.map (opE 24)++[.wown 24 .u8 32 q.1 z.o.n q.2 z.o.ids])) (.all ((p.D++[(⟨z.o,q.1,q.2⟩:OpA)]).map (opE 24))) (fun _ _ h=>by rw[List.map_append];exact h) ?_;refine J.drop (E:=[.gown opC 11 37 oa g.n oc ((p.D++[(⟨z.o,q.1,q.2⟩:OpA)])++g.zs.drop (p.i+1)), .all ((p.D++[(⟨z.o,q.1,q.2⟩:OpA)]).map (opE 24)), .blk b3 [.slice ia g.m ic, .slice oa g.n oc] 43, .wown 24 .u8 32 ia g.m ic g.ids, .blk b2 [.slice none 0 0, .slice none 0 0] 43, .blk b1 (grC g) 43]) sb ?_
  exact J.next ⟨p.i + 1, p.D ++ [⟨z.o, q.1, q.2⟩]⟩ ⟨rfl, trivial⟩ (by kernel_rfl) ⟨by dsimp only; omega, by simp [hD], by dsimp only; rw [List.map_append, hDo, List.take_add_one, hzz, Option.toList_some, List.map_append]; rfl, fun y hy => by
   rcases List.mem_append.1 hy with h | h
   ·exact hDc y h
   rw [List.mem_singleton] at h; subst h; exact hq⟩ (by dsimp only; omega)
 obtain⟨pi,D⟩:=p;dsimp only at hp hD hDo hDc c1⊢;obtain rfl:pi=g.n:=by omega
 rw[List.drop_of_length_le (by omega),List.append_nil];refine run ?_;exact J.finG ⟨ia,oa,g.m,g.n,ic,oc,g.ids,D⟩ rfl ⟨rfl,rfl,hl.symm,by show D.map OpA.o=_;rw[hDo,List.take_of_length_le (by omega)];rfl,hDc⟩ (by unfold grE;repeat(first|exact List.nil_sublist _|refine List.Sublist.cons_cons _ ?_|refine List.Sublist.cons _ ?_))
instance:Ents prog 149:=⟨.mk func149 (by kernel_rfl) rfl⟩
structure MrA where
 (nx:List Nat)(n:Nat)(a:Option Addr)(c:Nat)(oa:Option Addr)(oc:Nat)(zs:List OpA)(g:S.PG)
structure LsA where
 (i:Nat)(l:Int)
theorem shMerge{S0:Nat→Prop}(s:ShA)(w:World)(H:ShR S0 w s)(hL:ShL s)(hn:s.pn≤4)(hres:∀k,k<s.V.ps.length→S.resP (s.V.ps.length:Int) (k:Nat) (s.V.ps.getD k S.PG.nil).m (s.V.ps.getD k S.PG.nil).ids):
  Calls prog 237 #[.agg (shC s).toArray] w (Gv w (fun q:GrA×Bool=> .tuple #[.agg (grC q.1).toArray, .bool q.2]) (fun q=>grE 24 37 q.1) fun q=>(q.2=true→S.goodPs s.V.ps∧GrP (S.whole s.V.ps).m (S.whole s.V.ps).ids (S.whole s.V.ps).ops q.1)∧(q.2=false→¬S.goodPs s.V.ps)):=by
 have P0:=H.pr;have hl:=P0.len;have hcp:=H.cap;have hml:=H.ml;obtain⟨V,hV⟩:=ex s.V.ps;rw[←hV]at hres⊢;have hV':V=s.gs.map GrA.P:=hV;rw[←hV']at hml;have hVl:V.length=s.pn:=by rw[hV',List.length_map,hl]
 have hat:∀ {i:Nat} {g:GrA},s.gs[i]? =some g→V.getD i S.PG.nil=g.P:=fun h=>by rw[hV'];exact gsAt h
 have hall:S.allN V≤64:=hV▸hL hn;refine J.enter 142 func237 rfl rfl ?_;refine run ?_;refine J.box rfl rfl rfl fun b1=>?_
 refine J.alloc rfl fun b2=>?_
 refine run ?_;refine J.alloc rfl fun b4=>?_
 refine run ?_;refine J.mkI rfl rfl rfl fun b5=>?_
 refine run ?_;refine J.loop (A:=Nat) (fun p=>[(19, .int .i64 (p:Nat))]) [7,8,20,21,22,23,24,25,26,27,28,29,30,31,32,33,34,35,36,37,38,39,40,41,42,43,44,45,46,47,48,49,50,51,52] (fun _=>[.iown 3 .i64 (some ⟨b5,0,none⟩) s.pn s.pn (List.replicate s.pn 0), .blk b4 [.slice none 0 0, .slice none 0 0] 43, .blk b2 [.slice none 0 0, .slice none 0 0] 43, .blk b1 (shC s) 53]) (fun p=>p≤s.pn∧∀k,k<p→(V.getD k S.PG.nil).ops.length=(V.getD k S.PG.nil).m∧S.Rising (V.getD k S.PG.nil).m (V.getD k S.PG.nil).ids) (fun p=>s.pn - p) 0 (by kernel_rfl) ⟨Nat.zero_le _,fun k hk=>absurd hk (Nat.not_lt_zero _)⟩ (fun p j hI=>?_);obtain⟨hp,hI⟩:=hI;refine run ?_;refine J.ifd rfl (fun c1=>?_) (fun c1=>?_)
 ·obtain⟨g,hg⟩:=P0.ex (i:=(p:Nat)) (by omega);have hg':=hg;rw[Int.toNat_natCast]at hg';have G:=H.g hg';have D0:=G.ids;have hcp2:=G.cap;have hgl:=G.len;have hgP:=hat hg';refine run ?_;refine J.alloc rfl fun b7=>?_
  refine run ?_;refine J.ifn rfl (fun c2=>?_) (fun c2=>?_)
  ·refine run ?_;refine J.nilGr 24 37 ?_;refine J.finG (GrA.nil,false) rfl ⟨fun h=>(by cases h),fun _ h=>c2 ?_⟩ (by unfold grE;repeat(first|exact List.nil_sublist _|refine List.Sublist.cons_cons _ ?_|refine List.Sublist.cons _ ?_));have:=(h p (by omega)).1.2;rw[hgP]at this;have h2:g.ops.length=g.m:=this;omega
  refine run ?_;refine J.loopS (A:=Int) (fun q=>[(8, .int .i64 q)]) [31,32,33,34,35,36,37,38,39,40,41,42,43,44,45,46,47,48,49,50,51] (fun q=>1≤q∧(q≤g.m∨q=1)∧S.RisS g.ids q.toNat) (fun q=>(g.m+1 - q).toNat) 1 (by kernel_rfl) ⟨by decide, .inr rfl,fun k hk=>by omega⟩ (fun q j2 hI2=>?_);obtain⟨h1,h2,h3⟩:=hI2;refine run ?_;refine J.ifd rfl (fun c3=>?_) (fun c3=>?_)
  ·refine run ?_;refine J.regionX [(0, .q),(1, .q),(2, .q),(3, .q),(4, .q),(5, .q),(6, .q),(7, .q),(8, .q),(9, .q),(10, .q),(11, .e),(12, .q)] mixed (by kernel_rfl) ?_;refine run ?_;refine J.callp rfl rfl (fun w' M=>dcmp _ _ (D0.elt_arr (by omega)) (D0.elt_arr (by omega)) w') ?_;refine run ?_;have e:q.toNat=(q - 1).toNat+1:=by omega
   refine J.ifd rfl (fun c4=>?_) (fun c4=>?_)
   ·refine run ?_;refine J.nilGr 24 37 ?_;refine J.finG (GrA.nil,false) rfl ⟨fun h=>(by cases h),fun _ h=>?_⟩ (by unfold grE;repeat(first|exact List.nil_sublist _|refine List.Sublist.cons_cons _ ?_|refine List.Sublist.cons _ ?_));have:=(h p (by omega)).2.1;rw[hgP]at this;have h5:=this (q - 1).toNat (by show _<g.m - 1;omega);rw[e]at c4;exact absurd c4 (Int.not_le.2 h5)
   refine run ?_;refine J.nextS (q+1) ⟨rfl,trivial⟩ (by kernel_rfl) ⟨by omega, .inl (by omega),fun k hk=>?_⟩ (by omega);by_cases hk2:k+1<q.toNat
   ·exact h3 k hk2
   obtain rfl:k=(q - 1).toNat:=by omega
   rw[e]at c4;exact Int.not_le.1 c4
  have hr:S.Rising g.m g.ids:=fun i hi=>h3 i (by omega);refine run ?_;refine J.next (p+1) ⟨rfl,trivial⟩ (by kernel_rfl) ⟨by omega,fun k hk=>?_⟩ (by omega);rcases Nat.lt_or_ge k p with c|c
  ·exact hI k c
  obtain rfl:k=p:=by omega
  rw[hgP];exact⟨by show g.ops.length=g.m;omega,hr⟩
 have hgood:S.goodPs V:=S.goodPs_of hml hres fun k hk=>hI k (by omega);have hle:=S.whole_le hml;refine run ?_;refine J.nilWo 24 .u8 32 ?_;refine J.nilG opC 11 37 opC_len ?_;refine J.re (.iown 3 .i64 (some ⟨b5,0,none⟩) s.pn s.pn (List.replicate s.pn 0)) (.iown 3 .i64 (some ⟨b5,0,none⟩) s.pn s.pn (S.castL (List.replicate V.length 0))) (fun _ _ h=>by rw[S.castL_rep,hVl];exact h) ?_;refine J.front (.blk b4 [.slice none 0 0, .slice none 0 0] 43) ?_;refine J.front (.wown 24 .u8 32 none 0 0 []) ?_;refine J.front (.gown opC 11 37 none 0 0 []) ?_;refine J.drop (E:=[.gown opC 11 37 none 0 0 [], .wown 24 .u8 32 none 0 0 [], .blk b4 [.slice none 0 0, .slice none 0 0] 43, .iown 3 .i64 (some ⟨b5,0,none⟩) s.pn s.pn (S.castL (List.replicate V.length 0)), .blk b2 [.slice none 0 0, .slice none 0 0] 43, .blk b1 (shC s) 53]) sb ?_;refine J.loop (A:=MrA) (fun p=>[]) [9,10,11,53,54,55,56,57,58,59,60,61,62,63,64,65,66,67,68,69,70,71,72,73,74,75,76,77,78,79,80,81,82,83,84,85,86,87,88,89,90,91,92,93,94,95,96,97,98,99,100,101,102,103,104,105,106,107,108,109,110,111,112,113,114,115,116,117,118,119,120,121,122,123,124,125,126,127,128,129,130,131,132,133,134,135,136,137,138,139,140,141,142] (fun p=>[.gown opC 11 37 p.oa p.n p.oc p.zs, .wown 24 .u8 32 p.a p.n p.c p.g.ids, .blk b4 [.slice p.a p.n p.c, .slice p.oa p.n p.oc] 43, .iown 3 .i64 (some ⟨b5,0,none⟩) s.pn s.pn (S.castL p.nx), .blk b2 [.slice none 0 0, .slice none 0 0] 43, .blk b1 (shC s) 53]) (fun p=>S.MgS V p.nx p.g∧p.n=p.g.m∧p.zs.map OpA.o=p.g.ops∧∀z∈p.zs,∃g∈s.gs,z∈g.zs) (fun p=>64 - p.g.m) ⟨List.replicate V.length 0,0,none,0,none,0,[],S.PG.nil⟩ (by kernel_rfl) ⟨S.mg_zero V,rfl,rfl,fun z hz=>by cases hz⟩ (fun p j2 hI2=>?_);obtain⟨hm,hpn,hpz,hpm⟩:=hI2;have hnl:=hm.len;refine run ?_
 refine J.loop (A:=LsA) (fun q=>[(9, .int .i64 q.l),(56, .int .i64 (q.i:Nat))]) [10,11,57,58,59,60,61,62,63,64,65,66,67,68,69,70,71,72,73,74,75,76,77,78,79,80,81,82,83,84,85,86,87,88,89,90,91,92,93,94,95,96,97,98] (fun _=>[.gown opC 11 37 p.oa p.n p.oc p.zs, .wown 24 .u8 32 p.a p.n p.c p.g.ids, .blk b4 [.slice p.a p.n p.c, .slice p.oa p.n p.oc] 43, .iown 3 .i64 (some ⟨b5,0,none⟩) s.pn s.pn (S.castL p.nx), .blk b2 [.slice none 0 0, .slice none 0 0] 43, .blk b1 (shC s) 53]) (fun q=>q.i≤s.pn∧S.LsP V p.nx q.i q.l) (fun q=>s.pn - q.i) ⟨0, -1⟩ (by kernel_rfl) ⟨Nat.zero_le _,S.ls_zero⟩ (fun q j3 hI3=>?_);obtain⟨hq,hls⟩:=hI3;refine run ?_;refine J.ifd rfl (fun c2=>?_) (fun c2=>?_)
 ·obtain⟨g,hg⟩:=P0.ex (i:=(q.i:Nat)) (by omega);have hg':=hg;rw[Int.toNat_natCast]at hg';have G:=H.g hg';have D0:=G.ids;have hcp2:=G.cap;have hgP:=hat hg';have hni:((p.nx.getD q.i 0:Nat):Int)=(S.castL p.nx).getD ((q.i:Nat):Int).toNat 0:=by rw[Int.toNat_natCast,S.castL_get]
  refine run ?_;refine J.alloc rfl fun b11=>?_
  refine run ?_;refine J.regionX [(0, .q),(1, .q),(2, .q),(3, .q),(4, .q),(5, .q),(6, .q),(7, .q),(8, .q),(9, .q),(10, .q),(11, .q),(12, .q),(13, .q),(14, .q),(15, .q),(16, .q),(17, .q),(18, .q),(19, .q),(20, .q),(21, .q),(22, .q),(23, .q),(24, .q),(25, .q),(26, .q),(27, .q),(28, .q),(29, .q),(30, .q),(31, .q),(32, .e),(33, .q),(34, .q),(35, .q)] mixed (by kernel_rfl) ?_;refine run ?_;refine J.spd rfl rfl rfl (fun c3=>?_) (fun c3=>?_)
  ·have hlt:p.nx.getD q.i 0<(V.getD q.i S.PG.nil).m:=by rw[hgP];show _<g.m;omega
   refine run ?_;refine J.spd rfl rfl rfl (fun c4=>?_) (fun c4=>?_)
   ·refine run ?_;exact J.next ⟨q.i+1,(q.i:Nat)⟩ ⟨rfl,rfl,trivial⟩ (by kernel_rfl) ⟨by dsimp only;omega,hls.first c4 hlt⟩ (by dsimp only;omega)
   obtain⟨k,hkl,hki,hkm⟩:=hls.some c4;rw[hkl]at hls⊢;obtain⟨h,hh⟩:=P0.ex (i:=(k:Nat)) (by omega);have hh':=hh;rw[Int.toNat_natCast]at hh';have GH:=H.g hh';have D1:=GH.ids;have hhP:=hat hh';have hkm':p.nx.getD k 0<h.m:=by rw[hhP]at hkm;exact hkm
   have hnk:((p.nx.getD k 0:Nat):Int)=(S.castL p.nx).getD ((k:Nat):Int).toNat 0:=by rw[Int.toNat_natCast,S.castL_get]
   refine run ?_;rw[Int.toNat_natCast (p.nx.getD q.i 0),Int.toNat_natCast (p.nx.getD k 0)];refine J.callp rfl rfl (fun w' M=>dcmp _ _ (D0.elt_arr (by omega)) (D1.elt_arr (by omega)) w') ?_;refine run ?_;have ec:∀ {z:Prop},(S.cmpS (elt 32 g.ids (p.nx.getD q.i 0)) (elt 32 h.ids (p.nx.getD k 0))<0→z)→S.cmpS (S.idAt (V.getD q.i S.PG.nil).ids (p.nx.getD q.i 0)) (S.idAt (V.getD k S.PG.nil).ids (p.nx.getD k 0))<0→z:=fun f=>by rw[hgP,hhP];exact f
   refine J.ifd rfl (fun c5=>?_) (fun c5=>?_)
   ·refine run ?_;exact J.next ⟨q.i+1,(q.i:Nat)⟩ ⟨rfl,rfl,trivial⟩ (by kernel_rfl) ⟨by dsimp only;omega,hls.less hlt (by rw[hgP,hhP];exact c5)⟩ (by dsimp only;omega)
   refine run ?_;exact J.next ⟨q.i+1,(k:Nat)⟩ ⟨rfl,rfl,trivial⟩ (by kernel_rfl) ⟨by dsimp only;omega,hls.more (by rw[hgP,hhP];exact c5)⟩ (by dsimp only;omega)
  refine run ?_;exact J.next ⟨q.i+1,q.l⟩ ⟨rfl,rfl,trivial⟩ (by kernel_rfl) ⟨by dsimp only;omega,hls.skip (by rw[hgP];show ¬_<g.m;omega)⟩ (by dsimp only;omega)
 obtain⟨qi,ql⟩:=q;dsimp only at hq hls c2⊢;obtain rfl:qi=s.pn:=by omega
 rw[←hVl]at hls;obtain⟨nx,n,a,c,oa,oc,zs,gg⟩:=p;dsimp only at hm hpn hpz hpm hnl hls⊢;refine J.fact (.wown 24 .u8 32 a n c gg.ids) (fun _ _ h=>(wown_len h).2) fun hc2=>?_
 refine J.fact (.gown opC 11 37 oa n oc zs) (fun _ _ h=>(gown_e h).1.capn) fun hc3=>?_
 refine run ?_;refine J.ifd rfl (fun c3=>?_) (fun c3=>?_)
 ·have hw:=hm.done hgood hls c3;have hn70:n≤70:=by rw[hpn,←hw];omega
  refine run ?_;refine J.call rfl rfl (fun w' M=>(RW.own' (a:=a) w' M).elim fun _ k0=>(RG.own' (a:=oa) w' M).elim fun _ k1=>shTwin ⟨a,oa,n,n,c,oc,gg.ids,zs⟩ w' (S0:=fun _=>True) ⟨k0.weaken fun _ _ _=>trivial,k1.weaken fun _ _ _=>trivial,Inns.weak (fun x hx=>(hpm x hx).elim fun g hg=>((H.gi g hg.1).ext M.ext).inn x hg.2) fun _ _=>trivial,fun z hz=>(hpm z hz).elim fun g hg=>(H.gi g hg.1).ok z hg.2,hc2,hc3,hn70,hn70⟩) fun q hq=>?_
  dsimp only[grE,List.cons_append,List.nil_append];refine run ?_;refine J.finG (q,true) rfl ⟨fun _=>⟨hgood,?_⟩,fun h=>by cases h⟩ sb;have eo:GrA.ops ⟨a,oa,n,n,c,oc,gg.ids,zs⟩=gg.ops:=hpz;rw[eo]at hq;rw[hw];exact⟨hq.m.trans hpn,hq.ids,hq.n,hq.ops,hq.cap⟩
 obtain⟨k,rfl,hkl,hkm⟩:=hls.some c3;have hstep:=hm.step hgood hls;have hlt:=hm.lt hkl hkm;obtain⟨h,hh⟩:=P0.ex (i:=(k:Nat)) (by omega);have hh':=hh;rw[Int.toNat_natCast]at hh';have GH:=H.g hh';have D1:=GH.ids;have O1:=GH.ops;have hcp2:=GH.cap;have hhP:=hat hh';have hkm':nx.getD k 0<h.m:=by rw[hhP]at hkm;exact hkm
 have hhn:h.n=h.m:=by
  have:=(hgood k hkl).1.2;rw[hhP]at this;have h2:h.ops.length=h.m:=this;have h3:=GH.len;omega
 have hA:Arr .u8 32 (elt 32 h.ids (nx.getD k 0)):=D1.elt_arr (by omega);obtain⟨z,hz⟩:=O1.ex (i:=(nx.getD k 0:Nat)) (by omega);have hz':=hz;rw[Int.toNat_natCast]at hz';have hzo:=GrA.opAt hz';have hnk:((nx.getD k 0:Nat):Int)=(S.castL nx).getD ((k:Nat):Int).toNat 0:=by rw[Int.toNat_natCast,S.castL_get]
 have ecl:(S.castL nx).set ((k:Nat):Int).toNat ((nx.getD k 0:Nat)+1)=S.castL (nx.set k (nx.getD k 0+1)):=by rw[Int.toNat_natCast,S.castL_set];rfl
 have hX:S.idAt (V.getD k S.PG.nil).ids (nx.getD k 0)=elt 32 h.ids (nx.getD k 0):=by rw[hhP];rfl
 have hO:(V.getD k S.PG.nil).ops.getD (nx.getD k 0) S.OpV.zero=z.o:=by rw[hhP];exact hzo
 rw[hX,hO]at hstep;clear hX hO;refine run ?_;refine J.regionG [.blk b4 [.slice a n c, .slice oa n oc] 43, .iown 3 .i64 (some ⟨b5,0,none⟩) s.pn s.pn (S.castL nx), .blk b1 (shC s) 53] [33,35] [34] mixed ?_;refine J.gnode [(0, .q),(1, .q),(2, .q),(3, .q),(4, .q),(5, .q),(6, .q),(7, .q),(8, .q),(9, .q),(10, .q),(11, .q),(12, .q),(13, .q),(16, .q),(17, .q),(18, .q),(19, .q),(20, .q),(21, .q),(22, .q),(23, .q),(24, .q),(25, .q),(26, .q),(27, .q),(28, .q),(29, .q)] [14,30] 7 #[true,true,true,true,true,true,true,true,true,true,true,true,true,true,false,false,true,true,true,true,true,true,true,true,true,true,true,true,true,true,false,false,false,false,false,false] (by kernel_rfl) ?_;refine run ?_;refine J.nil ?_;refine J.gbr ?_ ?_
 ·rw[Int.toNat_natCast (nx.getD k 0)];refine J.b1W rfl rfl hA fun bb=>?_
  refine J.nil ?_;refine J.gnode [] [15,30] 6 #[true,true,true,true,true,true,true,true,true,true,true,true,true,true,true,false,true,true,true,true,true,true,true,true,true,true,true,true,true,true,false,false,false,false,false,false] (by kernel_rfl) ?_;refine run ?_;refine J.nil ?_;refine J.gbr ?_ ?_
  ·refine J.apW rfl rfl RW.own' fun a' c'=>?_
   refine J.nil ?_;refine J.gfin [(32, .q),(30, .e),(31, .e),(33, .g),(34, .c),(35, .g)] (by kernel_rfl) ?_;refine run ?_;refine J.b1G opC z opC_len rfl rfl rfl fun bc=>?_
   refine run ?_;refine J.apG rfl rfl RG.own' opC_one fun oa' oc'=>?_
   refine J.sw rfl ?_;refine run ?_;refine J.front (.blk b4 [.slice a' (n+1) c', .slice oa' (n+1) oc'] 43) ?_;refine J.front (.wown 24 .u8 32 a' (n+1) c' (gg.ids++elt 32 h.ids (nx.getD k 0))) ?_;refine J.front (.gown opC 11 37 oa' (n+1) oc' (zs++[z])) ?_;refine run ?_;rw[ecl];refine J.drop (E:=[.gown opC 11 37 oa' (n+1) oc' (zs++[z]), .wown 24 .u8 32 a' (n+1) c' (gg.ids++elt 32 h.ids (nx.getD k 0)), .blk b4 [.slice a' (n+1) c', .slice oa' (n+1) oc'] 43, .iown 3 .i64 (some ⟨b5,0,none⟩) s.pn s.pn (S.castL (nx.set k (nx.getD k 0+1))), .blk b2 [.slice none 0 0, .slice none 0 0] 43, .blk b1 (shC s) 53]) sb ?_
   exact J.next ⟨nx.set k (nx.getD k 0 + 1), n + 1, a', c', oa', oc', zs ++ [z], gg.snoc (elt 32 h.ids (nx.getD k 0)) z.o⟩ trivial (by kernel_rfl) ⟨hstep, congrArg (· + 1) hpn, by dsimp only; rw [List.map_append, hpz]; rfl, fun y hy => by
    rcases List.mem_append.1 hy with hh2 | hh2
    ·exact hpm y hh2
    rw [List.mem_singleton] at hh2; subst hh2; exact ⟨h, List.mem_of_getElem? hh', List.mem_of_getElem? hz'⟩⟩ (by show 64 - (gg.m + 1) < 64 - gg.m; omega)
  refine J.gbr ?_ ?_
  ·refine J.b1G opC z opC_len rfl rfl rfl fun bc=>?_
   refine J.nil ?_;refine J.gfin [(15, .e),(32, .q),(31, .e),(33, .g),(34, .c),(35, .g)] (by kernel_rfl) ?_;refine run ?_;refine J.apW rfl rfl RW.own' fun a' c'=>?_
   refine run ?_;refine J.apG rfl rfl RG.own' opC_one fun oa' oc'=>?_
   refine J.sw rfl ?_;refine run ?_;refine J.front (.blk b4 [.slice a' (n+1) c', .slice oa' (n+1) oc'] 43) ?_;refine J.front (.wown 24 .u8 32 a' (n+1) c' (gg.ids++elt 32 h.ids (nx.getD k 0))) ?_;refine J.front (.gown opC 11 37 oa' (n+1) oc' (zs++[z])) ?_;refine run ?_;rw[ecl];refine J.drop (E:=[.gown opC 11 37 oa' (n+1) oc' (zs++[z]), .wown 24 .u8 32 a' (n+1) c' (gg.ids++elt 32 h.ids (nx.getD k 0)), .blk b4 [.slice a' (n+1) c', .slice oa' (n+1) oc'] 43, .iown 3 .i64 (some ⟨b5,0,none⟩) s.pn s.pn (S.castL (nx.set k (nx.getD k 0+1))), .blk b2 [.slice none 0 0, .slice none 0 0] 43, .blk b1 (shC s) 53]) sb ?_
   exact J.next ⟨nx.set k (nx.getD k 0 + 1), n + 1, a', c', oa', oc', zs ++ [z], gg.snoc (elt 32 h.ids (nx.getD k 0)) z.o⟩ trivial (by kernel_rfl) ⟨hstep, congrArg (· + 1) hpn, by dsimp only; rw [List.map_append, hpz]; rfl, fun y hy => by
    rcases List.mem_append.1 hy with hh2 | hh2
    ·exact hpm y hh2
    rw [List.mem_singleton] at hh2; subst hh2; exact ⟨h, List.mem_of_getElem? hh', List.mem_of_getElem? hz'⟩⟩ (by show 64 - (gg.m + 1) < 64 - gg.m; omega)
  exact J.gbr0
 refine J.gbr ?_ ?_
 ·refine J.b1G opC z opC_len rfl rfl rfl fun bc=>?_
  refine J.nil ?_;refine J.gfin [(14, .e),(15, .e),(32, .q),(31, .e),(33, .g),(34, .c),(35, .g)] (by kernel_rfl) ?_;refine run ?_;rw[Int.toNat_natCast (nx.getD k 0)];refine J.b1W rfl rfl hA fun bb=>?_
  refine run ?_;refine J.apW rfl rfl RW.own' fun a' c'=>?_
  refine run ?_;refine J.apG rfl rfl RG.own' opC_one fun oa' oc'=>?_
  refine J.sw rfl ?_;refine run ?_;refine J.front (.blk b4 [.slice a' (n+1) c', .slice oa' (n+1) oc'] 43) ?_;refine J.front (.wown 24 .u8 32 a' (n+1) c' (gg.ids++elt 32 h.ids (nx.getD k 0))) ?_;refine J.front (.gown opC 11 37 oa' (n+1) oc' (zs++[z])) ?_;refine run ?_;rw[ecl];refine J.drop (E:=[.gown opC 11 37 oa' (n+1) oc' (zs++[z]), .wown 24 .u8 32 a' (n+1) c' (gg.ids++elt 32 h.ids (nx.getD k 0)), .blk b4 [.slice a' (n+1) c', .slice oa' (n+1) oc'] 43, .iown 3 .i64 (some ⟨b5,0,none⟩) s.pn s.pn (S.castL (nx.set k (nx.getD k 0+1))), .blk b2 [.slice none 0 0, .slice none 0 0] 43, .blk b1 (shC s) 53]) sb ?_
  exact J.next ⟨nx.set k (nx.getD k 0 + 1), n + 1, a', c', oa', oc', zs ++ [z], gg.snoc (elt 32 h.ids (nx.getD k 0)) z.o⟩ trivial (by kernel_rfl) ⟨hstep, congrArg (· + 1) hpn, by dsimp only; rw [List.map_append, hpz]; rfl, fun y hy => by
   rcases List.mem_append.1 hy with hh2 | hh2
   ·exact hpm y hh2
   rw [List.mem_singleton] at hh2; subst hh2; exact ⟨h, List.mem_of_getElem? hh', List.mem_of_getElem? hz'⟩⟩ (by show 64 - (gg.m + 1) < 64 - gg.m; omega)
 exact J.gbr0
instance:Ents prog 148:=⟨.mk func148 (by kernel_rfl) rfl⟩
instance:Ents prog 237:=⟨.mk func237 (by kernel_rfl) rfl⟩
instance:Ents prog 161:=⟨.mk func161 (by kernel_rfl) rfl⟩
instance:Ents prog 238:=⟨.mk func238 (by kernel_rfl) rfl⟩
theorem shWhole{S0:Nat→Prop}(s:ShA)(TK:TypeId)(w:World)(K0:Kst w TK)(H:ShR S0 w s)(hL:ShL s):
  Calls prog 158 #[.agg (shC s).toArray] w (Gv w (fun q:GrA=> .tuple #[.agg (grC q).toArray, .int .i64 (S.chkH s.V)]) (grE 24 37) (GrP (S.alP s.V).m (S.alP s.V).ids (S.alP s.V).ops)):=by
 have P0:=H.pr;have hl:=P0.len;have hcp:=H.cap;have hll:s.V.ps.length=s.pn:=by rw[List.length_map,H.pr.len]
 have hoi:=S.ok_iff (v:=s.V) H.ml;refine J.enter 71 func158 rfl rfl ?_;refine run ?_;refine J.box rfl rfl rfl fun b1=>?_
 refine J.alloc rfl fun b2=>?_
 refine run ?_;refine J.alloc rfl fun b4=>?_
 refine run ?_;refine J.spd rfl rfl rfl (fun c1=>?_) (fun c1=>?_)
 ·have k1:¬S.okR s.V:=fun h=>by have:=h.1.1;omega
  rw[S.chkH_8 k1,S.al_8 k1];refine run ?_;refine J.nilGr 24 37 ?_;exact J.finG GrA.nil rfl GrP.nil sb
 refine run ?_;refine J.ifd rfl (fun c2=>?_) (fun c2=>?_)
 ·have k1:¬S.okR s.V:=fun h=>by have:=h.1.2;omega
  rw[S.chkH_8 k1,S.al_8 k1];refine run ?_;refine J.nilGr 24 37 ?_;exact J.finG GrA.nil rfl GrP.nil sb
 refine run ?_;refine J.loop (A:=Nat) (fun p=>[(24, .int .i64 (p:Nat))]) [5,6,25,26,27,28,29,30,31,32,33,34] (fun _=>[.blk b4 [.int .i64 (s.pn:Nat)] 3, .blk b2 [.slice none 0 0, .slice none 0 0] 43, .blk b1 (shC s) 53]) (fun p=>p≤s.pn∧∀k,k<p→S.resP (s.pn:Int) (k:Nat) (s.V.ps.getD k S.PG.nil).m (s.V.ps.getD k S.PG.nil).ids) (fun p=>s.pn - p) 0 (by kernel_rfl) ⟨Nat.zero_le _,fun k hk=>absurd hk (Nat.not_lt_zero _)⟩ (fun p j hI=>?_);obtain⟨hp,hI⟩:=hI;refine run ?_;refine J.ifd rfl (fun c3=>?_) (fun c3=>?_)
 ·obtain⟨g,hg⟩:=P0.ex (i:=(p:Nat)) (by omega);have hg':=hg;rw[Int.toNat_natCast]at hg';have G:=H.g hg';have hcp2:=G.cap;have hgP:=shAt hg';refine run ?_;refine J.alloc rfl fun b5=>?_
  refine J.alloc rfl fun b6=>?_
  refine run ?_;refine J.fn rfl rfl rfl ?_;refine J.callp rfl rfl (fun w' M=>hasWh (s.pn:Int) (p:Nat) g.ia g.m g.ic g.ids b4 b5 _ _ w' (blkC b4 M) (blkC b5 M) (G.ids.ext M.ext) ⟨by omega,by omega⟩ (by omega)) ?_;refine run ?_;refine J.ifd rfl (fun c4=>?_) (fun c4=>?_)
  ·have k1 : ¬ S.okR s.V := fun h => c4 (by
    have := ((hoi.1 h).2.1 p (by omega)).2.2
    rw [hgP, hll] at this
    exact this)
   rw[S.chkH_8 k1,S.al_8 k1];refine run ?_;refine J.nilGr 24 37 ?_;exact J.finG GrA.nil rfl GrP.nil sb
  refine run ?_;refine J.next (p+1) ⟨rfl,trivial⟩ (by kernel_rfl) ⟨by omega,fun k hk=>?_⟩ (by omega);rcases Nat.lt_or_ge k p with c|c
  ·exact hI k c
  obtain rfl:k=p:=by omega
  rw[hgP];exact Decidable.not_not.1 c4
 have hres:∀k,k<s.V.ps.length→S.resP (s.V.ps.length:Int) (k:Nat) (s.V.ps.getD k S.PG.nil).m (s.V.ps.getD k S.PG.nil).ids:=fun k hk=>by
  rw[hll];exact hI k (by omega)
 refine run ?_;refine J.call rfl rfl (fun w' M=>shMerge s w' (H.ext M.ext) hL (by omega) hres) fun q hq=>?_
 obtain⟨q,ok⟩:=q;dsimp only[grE,List.cons_append,List.nil_append]at hq⊢;refine run ?_;refine J.alloc rfl fun b7=>?_
 refine run ?_;cases ok with
 |false=>
  have k1:¬S.okR s.V:=fun h=>hq.2 rfl (hoi.1 h).2.1;rw[S.chkH_8 k1,S.al_8 k1];refine run ?_;refine J.nilGr 24 37 ?_;exact J.finG GrA.nil rfl GrP.nil sb
 |true=>
 obtain⟨hgp,hP⟩:=hq.1 rfl;have hle:=H.le hL (by omega);have hwg:=S.whole_good (ps:=s.V.ps) H.ml;have hok:=refWholeOk H;have hqs:q.m≤70∧q.n≤70:=⟨by rw[hP.m];exact Nat.le_trans hle (by decide),by rw[hP.n,hwg.2];exact Nat.le_trans hle (by decide)⟩
 have hqP:q.P=S.whole s.V.ps:=by rw[hP.P]
 refine run ?_;refine J.callp rfl rfl (fun w' M=>dagCheck q _ w' (K0.ext M.ext) (GrR.own (hP.ok hok) hP.cap hqs w' M)) ?_;refine run ?_;refine J.spn rfl rfl rfl (fun c5=>?_) (fun c5=>?_)
 ·have k1:¬S.okR s.V:=fun h=>c5 (by have:=h.2.1;unfold S.chkP at this;rw[←hqP]at this;exact this);rw[S.chkH_8 k1,S.al_8 k1];refine run ?_;refine J.nilGr 24 37 ?_;exact J.finG GrA.nil rfl GrP.nil sb
 refine run ?_;refine J.ifn rfl (fun c6=>?_) (fun c6=>?_)
 ·have k1:¬S.okR s.V:=fun h=>c6 (by have:=(hoi.1 h).2.2.2.1;rw[hP.m];exact this);rw[S.chkH_8 k1,S.al_8 k1];refine run ?_;refine J.nilGr 24 37 ?_;exact J.finG GrA.nil rfl GrP.nil sb
 have hhn:S.hdN q.P≤q.m:=S.numF_le _ _;refine run ?_;refine J.call rfl rfl (fun w' M=>ancHeads q _ w' (K0.ext M.ext) (GrR.own (hP.ok hok) hP.cap hqs w' M) c5) fun q2 hq2=>?_
 obtain⟨ha,hn,hc⟩:=q2;dsimp only at hq2⊢;refine run ?_;refine J.callp rfl rfl (fun w' M=>(RW.own' (a:=ha) w' M).elim fun _ k0=>eqIDs _ _ _ _ _ _ _ _ w' k0 (H.hr.ext M.ext) (by omega) (by omega)) ?_;refine run ?_;refine J.ifnot rfl (fun c7=>?_) (fun c7=>?_)
 ·have k1:¬S.okR s.V:=fun h=>of_decide_eq_false c7 (by have:=(hoi.1 h).2.2.2.2;rw[hqP];exact this.symm);rw[S.chkH_8 k1,S.al_8 k1];refine run ?_;refine J.nilGr 24 37 ?_;exact J.finG GrA.nil rfl GrP.nil sb
 have k1:S.okR s.V:=hoi.2 ⟨⟨by omega,by omega⟩,hgp,by unfold S.chkP;rw[←hqP];exact c5,by rw[←hP.m];exact c6,by have:=of_decide_eq_true c7;rw[←hqP];exact this.symm⟩;rw[S.chkH_0 k1,S.al_0 k1];refine run ?_;exact J.finG q rfl hP sb
instance:Ents prog 158:=⟨.mk func158 (by kernel_rfl) rfl⟩
instance:Ents prog 68:=⟨.mk func68 (by kernel_rfl) rfl⟩
theorem shCheck{S0:Nat→Prop}(s:ShA)(TK:TypeId)(w:World)(K0:Kst w TK)(H:ShR S0 w s)(hL:ShL s):
  Calls prog 68 #[.agg (shC s).toArray] w (Ret w fun v _=>v= .int .i64 (S.chkH s.V)):=by
 refine J.enter 10 func68 rfl rfl ?_;refine run ?_;refine J.box rfl rfl rfl fun b1=>?_
 refine run ?_;refine J.call rfl rfl (fun w' M=>shWhole s _ w' (K0.ext M.ext) (H.ext M.ext) hL) fun q hq=>?_
 dsimp only[grE,List.cons_append,List.nil_append];refine run ?_;refine J.alloc rfl fun b3=>?_
 refine run ?_;exact J.fin rfl
theorem shAll{S0:Nat→Prop}(s:ShA)(TK:TypeId)(w:World)(K0:Kst w TK)(H:ShR S0 w s)(hL:ShL s):
  Calls prog 69 #[.agg (shC s).toArray] w (Gv w (fun q:GrA=> .tuple #[.agg (grC q).toArray, .int .i64 (S.chkH s.V)]) (grE 24 37) (GrP (S.alP s.V).m (S.alP s.V).ids (S.alP s.V).ops)):=by
 refine J.enter 7 func69 rfl rfl ?_;refine run ?_;refine J.box rfl rfl rfl fun b1=>?_
 refine run ?_;refine J.alloc rfl fun b2=>?_
 refine run ?_;refine J.call rfl rfl (fun w' M=>shWhole s _ w' (K0.ext M.ext) (H.ext M.ext) hL) fun q hq=>?_
 dsimp only[grE,List.cons_append,List.nil_append];refine run ?_;exact J.finG q rfl hq sb
end W
namespace S
open G
/-! ### ids by what is among them -/
def idG(n:Nat)(l:List Int):PG:=⟨n,l,List.replicate n OpV.zero⟩
theorem idG_has{n:Nat}{l x:List Int}{o:OpV}:(idG n l).has x o↔inS n l x∧o=OpV.zero:=by
 constructor
 ·rintro⟨i,hi,e1,e2⟩;have hi':i<n:=hi;refine⟨⟨i,hi',e1⟩,?_⟩;rw[←e2];show(List.replicate n OpV.zero).getD i OpV.zero=_;rw[getD_at (by rw[List.length_replicate];exact hi'),List.getElem_replicate]
 ·rintro⟨⟨i,hi,e1⟩,rfl⟩;refine⟨i,hi,e1,?_⟩;show(List.replicate n OpV.zero).getD i OpV.zero=_;rw[getD_at (by rw[List.length_replicate];exact hi),List.getElem_replicate]
theorem idG_good{n:Nat}{l:List Int}(h:l.length=32*n):(idG n l).good:=⟨h,List.length_replicate⟩
theorem idsG_ext{n k:Nat}{l q:List Int}(hl:l.length=32*n)(hq:q.length=32*k)(rl:Rising n l)(rq:Rising k q)(h:∀x,inS n l x↔inS k q x):n=k∧l=q:=by
 have e:idG n l=idG k q:=PG.ext_has (idG_good hl) (idG_good hq) rl rq fun x o=>by rw[idG_has,idG_has,h]
 exact⟨congrArg PG.m e,congrArg PG.ids e⟩
/-! ### heads -/
theorem hd_all{g:PG}(hg:g.fine):(hdI g).length=32*hdN g∧Rising (hdN g) (hdI g)∧∀y,inS (hdN g) (hdI g) y↔inS g.m g.ids y∧∀x u,g.has x u→¬inS u.n u.ids y:=by
 obtain⟨h1,h2,h3⟩:=sel_all (f:=hdF g.m g.ids g.ops) hg.good hg.rising g.m (Nat.le_refl _);refine⟨h1.1,h2,fun y=>?_⟩;have hop:opensS g.m g.ids g.ops:=fun i hi=>by
  intro j hj;exact hg.opens _ _ ⟨i,by rw[←hg.good.2];exact hi,rfl,rfl⟩ j hj
 have named:∀i,i<g.m→(i∈namI (prS g.m g.ids g.ops) g.ops.length↔∃x u,g.has x u∧inS u.n u.ids (idAt g.ids i)):=fun i hi=>by
  unfold namI;rw[List.mem_flatMap];constructor
  ·rintro⟨k,hk,hm⟩;have hk:=List.mem_range.1 hk;exact⟨idAt g.ids k,g.ops.getD k OpV.zero,⟨k,by rw[←hg.good.2];exact hk,rfl,rfl⟩,(mem_pr hg.rising (hop k hk) hi).1 hm⟩
  ·rintro⟨x,u,⟨k,hk,e1,e2⟩,hm⟩;have hk':k<g.ops.length:=by rw[hg.good.2];exact hk
   refine⟨k,List.mem_range.2 hk',(mem_pr hg.rising (hop k hk') hi).2 ?_⟩;rw[e2];exact hm
 refine(has_in (g:=selP (hdF g.m g.ids g.ops) g g.m)).trans ⟨fun⟨o,ho⟩=>?_,fun⟨⟨i,hi,e⟩,hn⟩=>?_⟩
 ·obtain⟨k,hk,hf,e,_⟩:=(h3 _ _).1 ho;have hf:=of_decide_eq_true hf;refine⟨⟨k,hk,e⟩,fun x u hu hi=>hf ((named k hk).2 ⟨x,u,hu,?_⟩)⟩;rw[e];exact hi
 ·refine⟨_,(h3 _ _).2 ⟨i,hi,decide_eq_true fun hm=>?_,e,rfl⟩⟩;obtain⟨x,u,hu,hin⟩:=(named i hi).1 hm;rw[e]at hin;exact hn x u hu hin
/-! ### parts -/
/-! ### what Put tells -/
section
end
end S
namespace W
open Go.RowKit G
set_option maxRecDepth 20000
set_option maxHeartbeats 8000000
attribute [local irreducible] RS RX RY Code.wp bodyPost J Ent.blk Ent.irow Ent.iown Ent.wrow Ent.wown Ent.gown Ent.all Ent.emp
structure TsA where
 (i:Nat)(a:Option Addr)(c:Nat)(gs:List GrA)
theorem gsTake{s:ShA}{i:Nat}{g q:GrA}{gs:List GrA}(hg:s.gs[i]? =some g)(hq:q.P=g.P)(h:gs.map GrA.P=s.V.ps.take i):(gs++[q]).map GrA.P=s.V.ps.take (i+1):=by
 have e:s.V.ps[i]? =some g.P:=by show(s.gs.map GrA.P)[i]? =_;rw[List.getElem?_map,hg];rfl
 rw[List.map_append,h,List.take_add_one,e,Option.toList_some,List.map_cons,List.map_nil,hq]
theorem refShTwin{S0:Nat→Prop}(s:ShA)(w:World)(H:ShR S0 w s):
  Calls prog 67 #[.agg (shC s).toArray] w (Gv w (fun q:ShA=> .agg (shC q).toArray) (fun q=>shE q) (ShK s.V)):=by
 have P0:=H.pr;have hl:=P0.len;have hH:=H.hr;have hcp:=H.cap;refine J.enter 30 func67 rfl rfl ?_;refine run ?_;refine J.box rfl rfl rfl fun b1=>?_
 refine J.alloc rfl fun b2=>?_
 refine run ?_;refine J.joinX (A:=(Option Addr×Nat)×Nat) (fun u=>[(3, .pointer (some ⟨u.2,0,none⟩))]) [5,6,7,8,9,10,11] (fun u=>[.blk u.2 [.slice none 0 0, .slice u.1.1 s.hn u.1.2, .int .i64 s.ver] 53, .wown 24 .u8 32 u.1.1 s.hn u.1.2 s.hs, .blk b2 [.slice none 0 0, .slice none 0 0, .int .i64 0] 53, .blk b1 (shC s) 53]) (fun u=>True) ?_ (fun u j hu=>?_)
 ·refine J.regionW [.blk b1 (shC s) 53] mixed ?_;refine J.wnode [(1, .q),(2, .q),(4, .q),(5, .q)] [0,7] 4 #[false,true,true,false,true,true,false,false,false] (by kernel_rfl) ?_;refine run ?_;refine J.nil ?_;refine J.wbr ?_ ?_
  ·refine J.b0W .u8 rfl fun b3=>?_
   refine J.nil ?_;refine J.wnode [] [3,7] 3 #[true,true,true,false,true,true,false,false,false] (by kernel_rfl) ?_;refine run ?_;refine J.nil ?_;refine J.wbr ?_ ?_
   ·refine J.apW rfl rfl (RW.arg hH) fun a' c'=>?_
    rw[Nat.zero_add s.hn,List.nil_append s.hs];refine J.nil ?_;refine J.wfin [(6, .q),(7, .e),(8, .e)] (by kernel_rfl) ?_;refine run ?_;refine J.alloc rfl fun b5=>?_
    refine run ?_;refine run ?_;refine J.front (.wown 24 .u8 32 a' s.hn c' s.hs) ?_;refine J.front (.blk b5 [.slice none 0 0, .slice a' s.hn c', .int .i64 s.ver] 53) ?_;exact J.cut ((a',c'),b5) ⟨rfl,trivial⟩ (by kernel_rfl) trivial
   refine J.wbr ?_ ?_
   ·refine J.alloc rfl fun b5=>?_
    refine J.nil ?_;refine J.wfin [(3, .e),(6, .q),(8, .e)] (by kernel_rfl) ?_;refine run ?_;refine J.apW rfl rfl (RW.arg hH) fun a' c'=>?_
    rw[Nat.zero_add s.hn,List.nil_append s.hs];refine run ?_;refine run ?_;refine J.front (.wown 24 .u8 32 a' s.hn c' s.hs) ?_;refine J.front (.blk b5 [.slice none 0 0, .slice a' s.hn c', .int .i64 s.ver] 53) ?_;exact J.cut ((a',c'),b5) ⟨rfl,trivial⟩ (by kernel_rfl) trivial
   exact J.wbr0
  refine J.wbr ?_ ?_
  ·refine J.alloc rfl fun b5=>?_
   refine J.nil ?_;refine J.wfin [(0, .e),(3, .e),(6, .q),(8, .e)] (by kernel_rfl) ?_;refine run ?_;refine J.b0W .u8 rfl fun b3=>?_
   refine run ?_;refine J.apW rfl rfl (RW.arg hH) fun a' c'=>?_
   rw[Nat.zero_add s.hn,List.nil_append s.hs];refine run ?_;refine run ?_;refine J.front (.wown 24 .u8 32 a' s.hn c' s.hs) ?_;refine J.front (.blk b5 [.slice none 0 0, .slice a' s.hn c', .int .i64 s.ver] 53) ?_;exact J.cut ((a',c'),b5) ⟨rfl,trivial⟩ (by kernel_rfl) trivial
  exact J.wbr0
 obtain⟨⟨ha,hc⟩,b3⟩:=u;dsimp only;refine run ?_;refine J.noA ?_;refine J.nilG (fun g:GrA=>grC g) 2 43 grC_len ?_;refine J.loop (A:=TsA) (fun p=>[(4, .int .i64 (p.i:Nat))]) [12,13,14,15,16,17,18,19,20,21,22,23,24,25,26,27,28,29] (fun p=>[.gown (fun g:GrA=>grC g) 2 43 p.a p.i p.c p.gs, .all (p.gs.map grAll), .blk b3 [.slice p.a p.i p.c, .slice ha s.hn hc, .int .i64 s.ver] 53, .wown 24 .u8 32 ha s.hn hc s.hs, .blk b2 [.slice none 0 0, .slice none 0 0, .int .i64 0] 53, .blk b1 (shC s) 53]) (fun p=>p.i≤s.pn∧p.gs.map GrA.P=s.V.ps.take p.i∧∀x∈p.gs,GrK x) (fun p=>s.pn - p.i) ⟨0,none,0,[]⟩ (by kernel_rfl) ⟨Nat.zero_le _,rfl,fun z hz=>(by cases hz)⟩ (fun p j2 hI=>?_);obtain⟨hp,hps,hpk⟩:=hI;refine run ?_;refine J.ifd rfl (fun c1=>?_) (fun c1=>?_)
 ·obtain⟨g,hg⟩:=P0.ex (i:=(p.i:Nat)) (by omega);have hg':=hg;rw[Int.toNat_natCast]at hg';have G:=H.g hg';have hcp2:=G.cap;refine run ?_;refine J.regionX [(0, .q),(1, .q),(2, .q),(3, .q),(4, .q),(5, .q),(6, .q),(7, .e),(8, .e),(9, .g),(10, .q),(11, .g)] mixed (by kernel_rfl) ?_;refine run ?_;refine J.call rfl rfl (fun w' M=>refGTwin g w' (G.ext M.ext)) fun q hq=>?_
  dsimp only[grE,List.cons_append,List.nil_append];refine J.b1G (fun g:GrA=>grC g) q grC_len rfl rfl rfl fun bb=>?_
  refine J.apG rfl rfl RG.own' grC_one fun a' c'=>?_
  refine run ?_;refine J.triG q ?_;refine J.snocA (p.gs.map grAll) (grAll q) ?_;refine J.re (.all (p.gs.map grAll++[grAll q])) (.all ((p.gs++[q]).map grAll)) (fun _ _ h=>by rw[List.map_append];exact h) ?_;refine J.drop (E:=[.gown (fun g:GrA=>grC g) 2 43 a' (p.i+1) c' (p.gs++[q]), .all ((p.gs++[q]).map grAll), .blk b3 [.slice a' (p.i+1) c', .slice ha s.hn hc, .int .i64 s.ver] 53, .wown 24 .u8 32 ha s.hn hc s.hs, .blk b2 [.slice none 0 0, .slice none 0 0, .int .i64 0] 53, .blk b1 (shC s) 53]) sb ?_
  exact J.next ⟨p.i + 1, a', c', p.gs ++ [q]⟩ ⟨rfl, trivial⟩ (by kernel_rfl) ⟨by dsimp only; omega, gsTake hg' (GrP.P (P := g.P) hq) hps, fun y hy => by
   rcases List.mem_append.1 hy with h | h
   ·exact hpk y h
   rw [List.mem_singleton] at h
   subst h
   exact ⟨hq.ok G.opz, hq.cap⟩⟩ (by dsimp only; omega)
 obtain⟨pi,pa,pc,gs⟩:=p;dsimp only at hp hps hpk c1⊢;obtain rfl:pi=s.pn:=by omega
 refine run ?_;refine J.finG ⟨pa,s.pn,pc,gs,ha,s.hn,hc,s.hs,s.ver⟩ rfl ⟨?_,hpk⟩ sb;unfold ShA.V;dsimp only;rw[hps,List.take_of_length_le (by rw[List.length_map,hl];exact Nat.le_refl _)]
instance:Ents prog 235:=⟨.mk func235 (by kernel_rfl) rfl⟩
instance:Ents prog 154:=⟨.mk func154 (by kernel_rfl) rfl⟩
theorem idxID{S0:Nat→Prop}(a:Option Addr)(n c:Nat)(ids x:List Int)(w:World)(D0:WRow .u8 32 S0 w a n ids)(hx:Arr .u8 32 x)(hn:n≤100000):
  Calls prog 235 #[.slice a n c, .agg (ints .u8 x).toArray] w (Gv w (fun r:Int=> .int .i64 r) (fun _=>[]) fun r=>0≤r↔S.inS n ids x):=by
 have hl:=D0.len;refine J.enter 17 func235 rfl rfl ?_;refine run ?_;refine J.box rfl rfl rfl fun b1=>?_
 refine run ?_;refine J.loopS (A:=Int) (fun p=>[(8, .int .i64 p)]) [4,5,9,10,11,12,13,14,15,16,17,18] (fun p=>(0≤p∧p≤n)∧∀i,i<p.toNat→S.idAt ids i≠x) (fun p=>n - p.toNat) 0 (by kernel_rfl) ⟨by omega,fun i hi=>by omega⟩ (fun p j hI=>?_);obtain⟨h1,hI⟩:=hI;refine run ?_;refine J.ifd rfl (fun c1=>?_) (fun c1=>?_)
 ·obtain⟨q,hq⟩:=ex (elt 32 ids p.toNat);have hqa:Arr .u8 32 q:=hq▸D0.elt_arr (by omega);refine run ?_;refine J.regionX [(0, .q),(1, .q),(2, .q),(3, .q),(4, .q),(5, .q)] mixed (by kernel_rfl) ?_;refine run ?_;refine J.ifd rfl (fun c2=>?_) (fun c2=>?_)
  ·refine run ?_;exact J.finG p rfl ⟨fun _=>⟨p.toNat,by omega,by rw[c2];exact hq.symm⟩,fun _=>by omega⟩ (List.nil_sublist _)
  refine run ?_;refine J.nextS (p+1) ⟨rfl,trivial⟩ (by kernel_rfl) ⟨by omega,fun i hi=>?_⟩ (by omega);rcases Nat.lt_or_ge i p.toNat with e|e
  ·exact hI i e
  obtain rfl:i=p.toNat:=by omega
  exact fun h=>c2 (h.symm.trans hq.symm)
 refine run ?_;exact J.finG (-1) rfl ⟨fun h=>by omega,fun⟨i,hi,e⟩=>absurd e (hI i (by omega))⟩ (List.nil_sublist _)
theorem hasID{S0:Nat→Prop}(a:Option Addr)(n c:Nat)(ids x:List Int)(w:World)(D0:WRow .u8 32 S0 w a n ids)(hx:Arr .u8 32 x)(hn:n≤100000):
  Calls prog 154 #[.slice a n c, .agg (ints .u8 x).toArray] w (Ret w fun v _=>v= .bool (decide (S.inS n ids x))):=by
 refine J.enter 7 func154 rfl rfl ?_;refine run ?_;refine J.box rfl rfl rfl fun b1=>?_
 refine run ?_;refine J.call rfl rfl (fun w' M=>idxID a n c ids x w' (D0.ext M.ext) hx hn) fun r hr=>?_
 refine run ?_;exact J.fin (congrArg _ (decide_eq_decide.2 hr))
end W
namespace S
open G
/-! ### the index that a graph makes -/
theorem ok_made{g:PG}{n:Nat}(hg:g.fine)(hn:1≤n∧n≤4):okR (madeS g n)∧whole (madeS g n).ps=g:=by
 have hgp:=made_good (n:=n) hg.good hg.rising;have e:whole (madeS g n).ps=g:=(whole_mrg hgp).eq (made_mrg hg.good hg.rising (by omega));refine⟨(ok_iff fun p hp=>(hgp.mem hp).1.1).2 ⟨by rw[made_len];exact hn,hgp,?_,?_,?_⟩,e⟩
 ·rw[e];exact(chkP_fine hg.good.1).2 hg
 ·rw[e];rfl
 ·rw[e];rfl
theorem sm_one{P:Nat→Prop}[DecidablePred P]:∀ {n:Nat},(∀i,i<n→∀j,j<n→P i→P j→i=j)→sm (fun i=>if P i then 1 else 0) n≤1
 |0,_=>Nat.zero_le _
 |n+1,h=>by
  have ih:=sm_one (n:=n) fun i hi j hj=>h i (by omega) j (by omega);rw[sm];by_cases hp:P n
  ·have e:sm (fun i=>if P i then 1 else 0) n=0:=by
    rw[sm_congr (g:=fun _=>0) fun i hi=>if_neg fun hi'=>absurd (h i (by omega) n (by omega) hi' hp) (by omega),sm_zero]
   rw[e,if_pos hp];exact Nat.le_refl _
  ·rw[if_neg hp];exact ih
theorem numF_sm(f:Nat→Bool):∀n,numF f n=sm (fun i=>if f i=true then 1 else 0) n
 |0=>rfl
 |n+1=>by rw[numF,sm,numF_sm f n]
theorem sm_ones:∀n,sm (fun _=>1) n=n
 |0=>rfl
 |n+1=>by rw[sm,sm_ones n]
theorem allN_made{g:PG}{n:Nat}(hg:g.fine):allN (madeS g n).ps≤g.m:=by
 have e:allN (madeS g n).ps=sm (fun i=>sm (fun k=>if modF g n i k=true then 1 else 0) g.m) n:=by
  have h:=sm_all (madeS g n).ps _ (Nat.le_refl _);rw[List.take_length,made_len]at h;rw[←h];refine sm_congr fun i hi=>?_
  rw[made_at hi,prt_sel hg.good hg.rising,←numF_sm];rfl
 rw[e,sm_swap];refine Nat.le_trans (sm_le (g:=fun _=>1) fun k _=>sm_one (P:=fun i=>modF g n i k=true) fun i hi j hj h1 h2=>?_) (by rw[sm_ones];exact Nat.le_refl _);have h1:=of_decide_eq_true h1;have h2:=of_decide_eq_true h2;omega
/-! ### what Put makes of an index that a graph makes -/
/-! ### examples -/
theorem hx_chk:chkP PG.nil=0:=(chkP_fine rfl).2 nil_fine
end S
namespace W
open Go.RowKit G
section
variable{S0:Nat→Prop}{w0:World}{L:List Ent}{P:Program}{ops:Array Oper}{K:List Value→World→Prop}{rest:List (Oper×Kd)}{l l':List Value}{m:Md}{d:Tmp}{ty xt e:TypeId}{pos:String}{af:Array Edge}{kd:Kd}{n sz by_:Nat}{z:List Value}
theorem J.bI{parts:Array (Nat×Operand)}(k:IntKind)(zs:List Int)(ps:List (Nat×Int))(xs:List Int)[U:Und P xt (.array n e)][I:Inf P xt sz by_ z][Z:Siz P e 1](hk:pureK kd=true)(hz:z=ints k zs)(hv:parts.toList.map (fun p=>(p.1,ev l p.2))=ps.map fun p=>(p.1,Value.int k p.2))(hx:ps.foldl (fun z p=>z.set p.1 p.2) zs=xs)(kk:J S0 w0 L (RY S0 w0 m P ops K rest l'))(hb:∀p∈ps,p.1<zs.length:=by decide)(hl:l.set d (.agg (ints k xs).toArray)=l':=by dsimp only[List.set]):
  J S0 w0 L (RY S0 w0 m P ops K ((⟨some d, .build xt parts,ty,pos,af,none⟩,kd)::rest) l):=
 J.pur hk (fun w => by
  subst hz hx
  exact D.buildI U.h I.h Z.h hv hb) kk hl
end
end W
namespace W
open Go.RowKit G
set_option maxRecDepth 20000
set_option maxHeartbeats 8000000
attribute [local irreducible] RS RX RY Code.wp bodyPost J Ent.blk Ent.irow Ent.iown Ent.wrow Ent.wown Ent.gown Ent.all Ent.emp
instance:SInf prog 33 [(0,1),(1,1),(2,4)]:=⟨_,underlying33,by kernel_rfl,by kernel_rfl⟩
instance:Inf prog 33 6 64 [.int .u8 0, .string .empty, .int .u8 0, .int .i64 0, .int .u64 0, .string .empty]:=⟨TI.of (v:= .agg #[.int .u8 0, .string .empty, .int .u8 0, .int .i64 0, .int .u64 0, .string .empty]) (by kernel_rfl) rfl⟩
instance:Ents prog 96:=⟨.mk func96 (by kernel_rfl) rfl⟩
instance:Ents prog 70:=⟨.mk func70 (by kernel_rfl) rfl⟩
def shW(s:ShA):Ent:= .all (shE s)
theorem ShR.ownB{S0:Nat→Prop}{w0:World}{L:List Ent}{s:ShA}{F:Ent→List Ent}[R:RE L (shW s) F](hk:∀g∈s.gs,GrK g)(hm:∀g∈s.gs,g.m≤70∧g.ops.length≤70)(hz:s.gs.length≤6∧s.hn≤100)(w:World)(M:Mem S0 w0 L w):ShR (fun _=>True) w s:=by
 obtain⟨S',_,h⟩:=M.get (R.h (shW s)).same;obtain⟨A,T,_,_,_,a,B,T2,_,_,_,c,C,T3,_,_,_,b,_⟩:=all_e h;have a:=(gown_e a).1;have b':=wown_row b;have hb:=(wown_len b).2;refine⟨a.row.weaken fun _ _ _=>trivial,fun g hg=>?_,b'.weaken fun _ _ _=>trivial,a.capn,hb,?_,hz.2⟩
 ·obtain⟨S',_,k⟩:=sep_mem (List.mem_map.2 ⟨g,hg,rfl⟩) (all_e c);exact grAll_r k (hk g hg) (hm g hg)
 have:=a.len;omega
end W
namespace S
open G
structure StV where
 (cap:Int)(sh:ShV)(n:Nat)(os:List Int)
def StV.zero:StV:=⟨0,ShV.zero,0,[]⟩
def PG.opOf(g:PG)(x:List Int):OpV:=g.ops.getD (ixS g.m g.ids x) OpV.zero
def plcS(g:PG)(os:List Int)(i:Nat):Prop:=inS g.m g.ids (idAt os i)∧¬inS i os (idAt os i)∧allI i os (g.opOf (idAt os i)).n (g.opOf (idAt os i)).ids
instance(g:PG)(os:List Int)(i:Nat):Decidable (plcS g os i):=by unfold plcS;infer_instance
def okT(v:StV):Prop:=((1≤v.cap∧v.cap≤40)∧okR v.sh∧v.sh.ver≤v.cap∧(v.n:Int)=v.sh.ver)∧∀i,i<v.n→plcS (whole v.sh.ps) v.os i
open Classical in
noncomputable def chkT(v:StV):Int:=if okT v then 0 else 8
theorem chkT_0{v:StV}(h:okT v):chkT v=0:=if_pos h
theorem chkT_8{v:StV}(h:¬okT v):chkT v=8:=if_neg h
theorem chkT_iff{v:StV}:chkT v=0↔okT v:=⟨fun h=>Classical.byContradiction fun k=>by rw[chkT_8 k]at h;exact absurd h (by decide),chkT_0⟩
theorem chkT_ne{v:StV}(h:chkT v≠0):¬okT v∧chkT v=8:=⟨fun k=>h (chkT_0 k),chkT_8 fun k=>h (chkT_0 k)⟩
open Classical in
noncomputable def grT(v:StV):PG:=if okT v then whole v.sh.ps else PG.nil
theorem grT_0{v:StV}(h:okT v):grT v=whole v.sh.ps:=if_pos h
theorem grT_8{v:StV}(h:¬okT v):grT v=PG.nil:=if_neg h
def nwT(c n:Int):StV:=if(1≤c∧c≤40)∧1≤n∧n≤4 then⟨c,madeS PG.nil n.toNat,0,[]⟩else StV.zero
def nwTE(c n:Int):Int:=if(1≤c∧c≤40)∧1≤n∧n≤4 then 0 else 2
theorem nwT_0{c n:Int}(h:(1≤c∧c≤40)∧1≤n∧n≤4):nwT c n=⟨c,madeS PG.nil n.toNat,0,[]⟩∧nwTE c n=0:=⟨if_pos h,if_pos h⟩
theorem nwT_2{c n:Int}(h:¬((1≤c∧c≤40)∧1≤n∧n≤4)):nwT c n=StV.zero∧nwTE c n=2:=⟨if_neg h,if_neg h⟩
open Classical in
noncomputable def askE(v:StV)(o:OpV):Int:=if chkT v=0 then verE o else 8
theorem askE_8{v:StV}{o:OpV}(h:¬okT v):askE v o=8:=if_neg fun k=>h (chkT_iff.1 k)
theorem askE_v{v:StV}{o:OpV}(h:okT v):askE v o=verE o:=if_pos (chkT_0 h)
theorem askE_0{v:StV}{o:OpV}(h:askE v o=0):okT v∧verE o=0:=by
 by_cases k:okT v
 ·exact⟨k,by rw[←askE_v (o:=o) k];exact h⟩
 ·rw[askE_8 k]at h;exact absurd h (by decide)
def judT(v:StV)(o:OpV):Int:=if inS v.n v.os (idOf o)then 5 else if ¬allI v.n v.os o.n o.ids then 6 else if(v.n:Int)=v.cap then 8 else 1
theorem jud_5{v:StV}{o:OpV}(h:inS v.n v.os (idOf o)):judT v o=5:=if_pos h
theorem jud_6{v:StV}{o:OpV}(h:¬inS v.n v.os (idOf o))(h2:¬allI v.n v.os o.n o.ids):judT v o=6:=by unfold judT;rw[if_neg h,if_pos h2]
theorem jud_8{v:StV}{o:OpV}(h:¬inS v.n v.os (idOf o))(h2:allI v.n v.os o.n o.ids)(h3:(v.n:Int)=v.cap):judT v o=8:=by unfold judT;rw[if_neg h,if_neg (not_not_intro h2),if_pos h3]
theorem jud_1{v:StV}{o:OpV}(h:¬inS v.n v.os (idOf o))(h2:allI v.n v.os o.n o.ids)(h3:(v.n:Int)≠v.cap):judT v o=1:=by unfold judT;rw[if_neg h,if_neg (not_not_intro h2),if_neg h3]
theorem jud_is{v:StV}{o:OpV}(h:judT v o=1):¬inS v.n v.os (idOf o)∧allI v.n v.os o.n o.ids∧(v.n:Int)≠v.cap:=by
 unfold judT at h;split at h
 ·exact absurd h (by decide)
 ·split at h
  ·exact absurd h (by decide)
  ·split at h
   ·exact absurd h (by decide)
   ·exact⟨by assumption,Classical.not_not.1 (by assumption),by assumption⟩
def comT(v:StV)(o:OpV):StV:=⟨v.cap,madeS (putP (whole v.sh.ps) (idOf o) o) v.sh.ps.length,v.n+1,v.os++idOf o⟩
def offT(v:StV)(o:OpV):StV:=if judT v o=1 then comT v o else v
theorem off_1{v:StV}{o:OpV}(h:judT v o=1):offT v o=comT v o:=if_pos h
theorem off_no{v:StV}{o:OpV}(h:judT v o≠1):offT v o=v:=if_neg h
noncomputable def ofS(v:StV)(o:OpV):StV:=if askE v o=0 then offT v o else StV.zero
noncomputable def ofJ(v:StV)(o:OpV):Int:=if askE v o=0 then judT v o else 0
theorem of_yes{v:StV}{o:OpV}(h:askE v o=0):ofS v o=offT v o∧ofJ v o=judT v o:=⟨if_pos h,if_pos h⟩
theorem of_no{v:StV}{o:OpV}(h:askE v o≠0):ofS v o=StV.zero∧ofJ v o=0:=⟨if_neg h,if_neg h⟩
/-! ### what is valid stays valid -/
theorem plc_at{n:Nat}{os:List Int}{i:Nat}(hi:i<n):atS n os (idAt os i)<(i:Int)↔inS i os (idAt os i):=by
 have hin:inS n os (idAt os i):=⟨i,hi,rfl⟩
 have e:atS n os (idAt os i)=(ixS n os (idAt os i):Nat):=if_pos hin;obtain⟨h1,h2⟩:=ix_in hin;rw[e];constructor
 ·exact fun h=>⟨ixS n os (idAt os i),by omega,h2⟩
 ·rintro⟨j,hj,ej⟩;rcases Nat.lt_or_ge (ixS n os (idAt os i)) i with c|c
  ·omega
  ·have:∃k,k≤j∧idAt os k=idAt os i∧∀l,l<k→idAt os l≠idAt os i:=by
    clear h1 h2 e c
    induction j using Nat.strongRecOn with
    |_ j ih=>
     by_cases hex:∃l,l<j∧idAt os l=idAt os i
     ·obtain⟨l,hl,el⟩:=hex;obtain⟨k,hk,r⟩:=ih l hl (by omega) el;exact⟨k,by omega,r⟩
     ·exact⟨j,Nat.le_refl _,ej,fun l hl el=>hex ⟨l,hl,el⟩⟩
   obtain⟨k,hk,ek,hf⟩:=this;have:=ix_first (m:=n) (by omega) ek hf;omega
theorem allI_pre{os ps:List Int}{p n k:Nat}(hk:p≤k):allI p os n ps↔allI p (os.take (32*k)) n ps:=by
 have e:∀i,i<p→idAt (os.take (32*k)) i=idAt os i:=fun i hi=>by
  unfold idAt;rw[List.drop_take,List.take_take,Nat.min_eq_left (by omega)]
 exact⟨fun h j hj=>let ⟨i,hi,e1⟩:=h j hj;⟨i,hi,by rw[e i hi,e1]⟩,fun h j hj=>let ⟨i,hi,e1⟩:=h j hj;⟨i,hi,by rw[←e i hi,e1]⟩⟩
theorem inS_take{os x:List Int}{p k:Nat}(hk:p≤k):inS p os x↔inS p (os.take (32*k)) x:=by
 have e:∀i,i<p→idAt (os.take (32*k)) i=idAt os i:=fun i hi=>by
  unfold idAt;rw[List.drop_take,List.take_take,Nat.min_eq_left (by omega)]
 exact⟨fun⟨i,hi,e1⟩=>⟨i,hi,by rw[e i hi,e1]⟩,fun⟨i,hi,e1⟩=>⟨i,hi,by rw[←e i hi,e1]⟩⟩
theorem inS_app1{n:Nat}{os x y:List Int}(ho:os.length=32*n)(hx:x.length=32):inS (n+1) (os++x) y↔inS n os y∨y=x:=by
 rw[inS_app ho];have e:idAt x 0=x:=by unfold idAt;rw[Nat.mul_zero,List.drop_zero,List.take_of_length_le (by omega)]
 refine or_congr Iff.rfl ⟨fun⟨i,hi,h⟩=>?_,fun h=>⟨0,by omega,by rw[e,h]⟩⟩;obtain rfl:i=0:=by omega
 rw[←h,e]
theorem idAt_pre{n:Nat}{os x:List Int}(ho:os.length=32*n){i:Nat}(hi:i<n):idAt (os++x) i=idAt os i:=by rw[idAt_app ho,if_pos hi]
theorem idAt_new{n:Nat}{os x:List Int}(ho:os.length=32*n)(hx:x.length=32):idAt (os++x) n=x:=by
 rw[idAt_app ho,if_neg (Nat.lt_irrefl _),Nat.sub_self];unfold idAt;rw[Nat.mul_zero,List.drop_zero,List.take_of_length_le (by omega)]
theorem inS_pre{n:Nat}{os x y:List Int}(ho:os.length=32*n){i:Nat}(hi:i≤n):inS i (os++x) y↔inS i os y:=
 ⟨fun⟨j,hj,e⟩=>⟨j,hj,by rw[←e,idAt_pre ho (by omega)]⟩,fun⟨j,hj,e⟩=>⟨j,hj,by rw[←e,idAt_pre ho (by omega)]⟩⟩
theorem op_has{g:PG}{x:List Int}(h:inS g.m g.ids x):g.has x (g.opOf x):=⟨_,(ix_in h).1,(ix_in h).2,rfl⟩
structure StG(v:StV):Prop where
 ml:∀p∈v.sh.ps,p.ids.length=32*p.m
 os:v.os.length=32*v.n
structure StF(v:StV):Prop where
 fine:(whole v.sh.ps).fine
 m:(whole v.sh.ps).m=v.n
 cap:(1≤v.cap∧v.cap≤40)∧(v.n:Int)≤v.cap
 same:∀y,inS v.n v.os y↔inS (whole v.sh.ps).m (whole v.sh.ps).ids y
 ps:1≤v.sh.ps.length∧v.sh.ps.length≤4
 hs:v.sh.hs=hdI (whole v.sh.ps)
theorem ok_fineT{v:StV}(hg:StG v)(h:okT v):StF v:=by
 obtain⟨⟨h1,h2,h3,h4⟩,h5⟩:=h;obtain⟨p1,p2,p3,p4,p5⟩:=(ok_iff hg.ml).1 h2;have hw:=whole_good hg.ml;have hf:=(chkP_fine hw.1).1 p3;have hm:(whole v.sh.ps).m=v.n:=by omega
 refine⟨hf,hm,⟨h1,by omega⟩,fun y=>⟨fun⟨i,hi,e⟩=>e▸(h5 i hi).1,fun hy=>?_⟩,p1,p5⟩;have ho:OrdP (whole v.sh.ps) ((List.range v.n).map (idAt v.os)):=by
  refine⟨?_,fun x hx=>?_,by simp[hm],fun i hi o hh j hj=>?_⟩
  ·rw[List.nodup_iff_pairwise_ne,List.pairwise_map];refine List.Pairwise.imp_of_mem (R:=fun a b=>a<b) (fun {a b} ha hb hab e=>?_) List.pairwise_lt_range;exact(h5 b (List.mem_range.1 hb)).2.1 ⟨a,hab,e⟩
  ·obtain⟨i,hi,rfl⟩:=List.mem_map.1 hx;exact(h5 i (List.mem_range.1 hi)).1
  ·have hi':i<v.n:=by simpa using hi
   have e:((List.range v.n).map (idAt v.os)).getD i []=idAt v.os i:=by
    rw[getD_map_id (by simpa using hi'),List.getD_eq_getElem?_getD,List.getElem?_range hi'];rfl
   rw[e]at hh;have e2:o=(whole v.sh.ps).opOf (idAt v.os i):=has_fun hf.rising hh (op_has (h5 i hi').1);subst e2;obtain⟨k,hk,ek⟩:=(h5 i hi').2.2 j hj;rw[←ek,←List.map_take,List.take_range];exact List.mem_map.2 ⟨k,List.mem_range.2 (by omega),rfl⟩
 obtain⟨i,hi,e⟩:=List.mem_map.1 (ord_all ho hy);exact⟨i,List.mem_range.1 hi,e⟩
theorem com_add{v:StV}{o:OpV}(hg:StG v)(h:okT v)(hv:verE o=0)(hj:judT v o=1):addE (whole v.sh.ps) o=0∧addP (whole v.sh.ps) o=putP (whole v.sh.ps) (idOf o) o:=by
 have F:=ok_fineT hg h;obtain⟨j1,j2,j3⟩:=jud_is hj;have c:=F.cap;have a:addE (whole v.sh.ps) o=0:=addE_0 ((chkP_fine F.fine.good.1).2 F.fine) hv (fun k=>j1 ((F.same _).2 k)) (fun j hj=>(F.same _).1 (j2 j hj)) (by have:=F.m;omega);exact⟨a,(addP_yes a).1⟩
theorem com_ok{v:StV}{o:OpV}(hg:StG v)(h:okT v)(hv:verE o=0)(hj:judT v o=1):okT (comT v o)∧StG (comT v o)∧whole (comT v o).sh.ps=putP (whole v.sh.ps) (idOf o) o:=by
 have F:=ok_fineT hg h;obtain⟨a1,a2⟩:=com_add hg h hv hj;obtain⟨b1,b2,b3,b4,b5,b6⟩:=add_fine F.fine.good.1 a1;obtain⟨j1,j2,j3⟩:=jud_is hj;rw[a2]at b3 b4 b6;obtain⟨m1,m2⟩:=ok_made b3 F.ps;have hm:=F.m;have hcp:=F.cap;have hx:=idOf_len o;refine⟨⟨⟨F.cap.1,m1,?_,?_⟩,fun i hi=>?_⟩,⟨fun p hp=>((made_good b3.good b3.rising).mem hp).1.1,?_⟩,m2⟩
 ·show((putP (whole v.sh.ps) (idOf o) o).m:Int)≤v.cap;omega
 ·show((v.n+1:Nat):Int)=((putP (whole v.sh.ps) (idOf o) o).m:Nat);omega
 ·have e0:whole (comT v o).sh.ps=putP (whole v.sh.ps) (idOf o) o:=m2;rw[e0];show plcS _ (v.os++idOf o) i;have hi':i<v.n+1:=hi;rcases Nat.lt_or_ge i v.n with c|c
  ·obtain⟨q1,q2,q3⟩:=h.2 i c;have q1':inS (putP (whole v.sh.ps) (idOf o) o).m (putP (whole v.sh.ps) (idOf o) o).ids (idAt v.os i):=has_in.2 ⟨_,(b6 _ _).2 (.inl (op_has q1))⟩;have e:(putP (whole v.sh.ps) (idOf o) o).opOf (idAt v.os i)=(whole v.sh.ps).opOf (idAt v.os i):=has_fun b3.rising (op_has q1') ((b6 _ _).2 (.inl (op_has q1)));unfold plcS;rw[idAt_pre hg.os c,inS_pre hg.os (by omega),e];exact⟨q1',q2,fun j hj=>(inS_pre hg.os (by omega)).2 (q3 j hj)⟩
  ·obtain rfl:i=v.n:=by omega
   have q1':inS (putP (whole v.sh.ps) (idOf o) o).m (putP (whole v.sh.ps) (idOf o) o).ids (idOf o):=has_in.2 ⟨_,(b6 _ _).2 (.inr ⟨rfl,rfl⟩)⟩;have e:(putP (whole v.sh.ps) (idOf o) o).opOf (idOf o)=o:=has_fun b3.rising (op_has q1') ((b6 _ _).2 (.inr ⟨rfl,rfl⟩));unfold plcS;rw[idAt_new hg.os hx,inS_pre hg.os (Nat.le_refl _),e];exact⟨q1',j1,fun j hj=>(inS_pre hg.os (Nat.le_refl _)).2 (j2 j hj)⟩
 ·show(v.os++idOf o).length=32*(v.n+1);rw[List.length_append,hx,hg.os];omega
end S
namespace W
open Go.RowKit G
set_option maxRecDepth 20000
set_option maxHeartbeats 8000000
attribute [local irreducible] RS RX RY Code.wp bodyPost J Ent.blk Ent.irow Ent.iown Ent.wrow Ent.wown Ent.gown Ent.all Ent.emp
instance:Fld prog 55 1 1:=⟨_,_,3,underlying55,rfl,by kernel_rfl,by decide,rfl⟩
instance:Fld prog 55 2 4:=⟨_,_,1,underlying55,rfl,by kernel_rfl,by decide,rfl⟩
instance:Inf prog 55 5 88 [.int .i64 0, .slice none 0 0, .slice none 0 0, .int .i64 0, .slice none 0 0]:=⟨TI.of (v:= .agg #[.int .i64 0, .slice none 0 0, .slice none 0 0, .int .i64 0, .slice none 0 0]) (by kernel_rfl) rfl⟩
instance:Fld prog 55 0 0:=⟨_,_,1,underlying55,rfl,by kernel_rfl,by decide,rfl⟩
instance:Ents prog 67:=⟨.mk func67 (by kernel_rfl) rfl⟩
instance:SInf prog 55 [(0,1),(1,3),(4,1)]:=⟨_,underlying55,by kernel_rfl,by kernel_rfl⟩
instance:Siz prog 55 5:=⟨by kernel_rfl⟩
instance:Agg prog 55 5:=⟨_,underlying55,rfl,by kernel_rfl⟩
instance:Ents prog 108:=⟨.mk func108 (by kernel_rfl) rfl⟩
instance:Ents prog 28:=⟨.mk func28 (by kernel_rfl) rfl⟩
structure StA where
 (cap:Int)(sh:ShA)(oa:Option Addr)(on oc:Nat)(os:List Int)
@[reducible] def srC(s:StA):List Value:=[.int .i64 s.cap, .slice s.sh.pa s.sh.pn s.sh.pc, .slice s.sh.ha s.sh.hn s.sh.hc, .int .i64 s.sh.ver, .slice s.oa s.on s.oc]
@[reducible] def StA.V(s:StA):S.StV:=⟨s.cap,s.sh.V,s.on,s.os⟩
def StA.zero:StA:=⟨0,ShA.zero,none,0,0,[]⟩
structure StR(S0:Nat→Prop)(w:World)(s:StA):Prop where
 sh:ShR S0 w s.sh
 os:WRow .u8 32 S0 w s.oa s.on s.os
 cap:s.on≤s.oc∧s.on≤70
 L:ShL s.sh
theorem StR.ext{S0:Nat→Prop}{w w':World}{s:StA}(h:StR S0 w s)(x:Ext w w'):StR S0 w' s:=⟨h.sh.ext x,h.os.ext x,h.cap,h.L⟩
theorem StR.g{S0:Nat→Prop}{w:World}{s:StA}(h:StR S0 w s):S.StG s.V:=⟨h.sh.ml,h.os.len⟩
@[reducible] def stE(s:StA):List Ent:=[shW s.sh, .wown 24 .u8 32 s.oa s.on s.oc s.os]
structure StK(v:S.StV)(s:StA):Prop where
 V:s.V=v
 k:∀g∈s.sh.gs,GrK g
structure StZ(v:S.StV):Prop where
 m:∀p∈v.sh.ps,p.m≤70∧p.ops.length≤70
 z:v.sh.ps.length≤6∧v.sh.hn≤100
 l:v.sh.ps.length≤4→S.allN v.sh.ps≤64
 n:v.n≤70
theorem StK.own{S0:Nat→Prop}{w0:World}{L:List Ent}{s:StA}{v:S.StV}{F1:Ent→List Ent}{F2:Option Addr→Nat→Nat→List Int→List Ent}(h:StK v s)(z:StZ v)[R1:RE L (shW s.sh) F1][R2:RWO L s.oa 24 .u8 32 s.on s.oc s.os F2](w:World)(M:Mem S0 w0 L w):StR (fun _=>True) w s:=by
 obtain rfl:=h.V;obtain⟨B,_,b⟩:=M.get (R2.h s.oa s.on s.oc s.os).same;have b':=wown_row b;have hb:=(wown_len b).2;have hll:s.sh.V.ps.length=s.sh.gs.length:=List.length_map _;have hm:∀g∈s.sh.gs,g.m≤70∧g.ops.length≤70:=fun g hg=>z.m g.P (List.mem_map.2 ⟨g,hg,rfl⟩);have k:=ShR.ownB (R:=R1) h.k hm ⟨by have:=z.z.1;have k':s.sh.V.ps.length≤6:=this;omega,z.z.2⟩ w M;exact⟨k,b'.weaken fun _ _ _=>trivial,⟨hb,z.n⟩,fun hn=>z.l (by have:=k.pr.len;show s.sh.V.ps.length≤4;omega)⟩
theorem shOne{P:Program}{f:FuncId}{av:Array Value}{w w1:World}{v:ShA→Value}{p:ShA→Prop}(h:Calls P f av w1 (Gv w v (fun q=>shE q) p)):Calls P f av w1 (Gv w v (fun q=>[shW q]) p):=h.mono fun _ _ ⟨r,h1,h2,h3,h4⟩=>⟨r,h1,h2,h3,sep1 (all_i h4)⟩
theorem J.nilSh{S0:Nat→Prop}{w0:World}{L:List Ent}{X:World→Prop}(k:J S0 w0 (shW ShA.zero::L) X):J S0 w0 L X:=by
 refine J.nilWo 24 .u8 32 ?_;refine J.noA ?_;refine J.nilG (fun g:GrA=>grC g) 2 43 grC_len ?_;refine J.pair (.gown (fun g:GrA=>grC g) 2 43 none 0 0 []) (.all []) ?_;refine J.snocA [.gown (fun g:GrA=>grC g) 2 43 none 0 0 [], .all []] (.wown 24 .u8 32 none 0 0 []) ?_;refine J.re (.all ([.gown (fun g:GrA=>grC g) 2 43 none 0 0 [], .all []]++[.wown 24 .u8 32 none 0 0 []])) (shW ShA.zero) (fun _ _ h=>by unfold shW;exact h) ?_;exact J.drop (E:=shW ShA.zero::L) (by repeat(first|exact List.Sublist.refl _|refine List.Sublist.cons_cons _ ?_|refine List.Sublist.cons _ ?_)) k
theorem stZero{v:S.StV}(h:v=S.StV.zero):StK v StA.zero:=⟨h.symm,fun g hg=>by cases hg⟩
theorem refStTwin{S0:Nat→Prop}(s:StA)(w:World)(H:StR S0 w s):
  Calls prog 41 #[.agg (srC s).toArray] w (Gv w (fun q:StA=> .agg (srC q).toArray) (fun q=>stE q) (StK s.V)):=by
 have hO:=H.os;have hcp:=H.cap;refine J.enter 12 func41 rfl rfl ?_;refine run ?_;refine J.box rfl rfl rfl fun b1=>?_
 refine J.alloc rfl fun b2=>?_
 refine run ?_;refine J.regionW [.blk b1 (srC s) 55] mixed ?_;refine J.wnode [(0, .q),(1, .q),(2, .q),(3, .q),(6, .q),(7, .q)] [4,5] 4 #[true,true,true,true,false,false,true,true,false,false,false] (by kernel_rfl) ?_;refine run ?_;refine J.nil ?_;refine J.wbr ?_ ?_
 ·refine J.call rfl rfl (fun w' M=>shOne (refShTwin s.sh w' (H.sh.ext M.ext))) fun q hq=>?_
  refine J.nil ?_;refine J.wfin [(5, .e),(8, .e),(9, .q),(10, .e)] (by kernel_rfl) ?_;refine run ?_;refine J.b0W .u8 rfl fun b3=>?_
  refine run ?_;refine J.apW rfl rfl (RW.arg hO) fun a' c'=>?_
  rw[Nat.zero_add s.on,List.nil_append s.os];refine run ?_;refine run ?_;refine run ?_;refine J.front (.wown 24 .u8 32 a' s.on c' s.os) ?_;refine J.front (shW q) ?_;exact J.finG ⟨s.cap,q,a',s.on,c',s.os⟩ rfl ⟨by unfold StA.V;dsimp only;rw[hq.V],hq.k⟩ sb
 refine J.wbr ?_ ?_
 ·refine J.b0W .u8 rfl fun b3=>?_
  refine J.nil ?_;refine J.wfin [(4, .e),(8, .e),(9, .q),(10, .e)] (by kernel_rfl) ?_;refine run ?_;refine J.call rfl rfl (fun w' M=>shOne (refShTwin s.sh w' (H.sh.ext M.ext))) fun q hq=>?_
  refine run ?_;refine J.apW rfl rfl (RW.arg hO) fun a' c'=>?_
  rw[Nat.zero_add s.on,List.nil_append s.os];refine run ?_;refine run ?_;refine run ?_;refine J.front (.wown 24 .u8 32 a' s.on c' s.os) ?_;refine J.front (shW q) ?_;exact J.finG ⟨s.cap,q,a',s.on,c',s.os⟩ rfl ⟨by unfold StA.V;dsimp only;rw[hq.V],hq.k⟩ sb
 exact J.wbr0
theorem refStCheck{S0:Nat→Prop}(s:StA)(w:World)(H:StR S0 w s):
  Calls prog 28 #[.agg (srC s).toArray] w (Ret w fun v _=>v= .int .i64 (S.chkT s.V)):=by
 have hcp:=H.cap;have hO:=H.os;have hwg:=S.whole_good (ps:=s.sh.V.ps) H.sh.ml;refine J.enter 82 func28 rfl rfl ?_;refine run ?_;refine J.box rfl rfl rfl fun b1=>?_
 refine run ?_;refine J.spd rfl rfl rfl (fun c1=>?_) (fun c1=>?_)
 ·refine run ?_;exact J.fin (congrArg _ (S.chkT_8 fun h=>by have h1:1≤s.cap:=h.1.1.1;omega).symm)
 refine run ?_;refine J.spd rfl rfl rfl (fun c2=>?_) (fun c2=>?_)
 ·refine run ?_;exact J.fin (congrArg _ (S.chkT_8 fun h=>by have h1:s.cap≤40:=h.1.1.2;omega).symm)
 refine run ?_;refine J.callp rfl rfl (fun w' M=>refShCheck s.sh w' (H.sh.ext M.ext) H.L) ?_;refine run ?_;refine J.spn rfl rfl rfl (fun c3=>?_) (fun c3=>?_)
 ·refine run ?_;exact J.fin (congrArg _ (S.chkT_8 fun h=>c3 (S.chkH_0 h.1.2.1)).symm)
 have hok:=S.chkH_iff.1 c3;obtain⟨n1,n4⟩:=ok_len H.sh hok;refine run ?_;refine J.spd rfl rfl rfl (fun c4=>?_) (fun c4=>?_)
 ·refine run ?_;exact J.fin (congrArg _ (S.chkT_8 fun h=>by have h1:s.sh.ver≤s.cap:=h.1.2.2.1;omega).symm)
 refine run ?_;refine J.ifn rfl (fun c5=>?_) (fun c5=>?_)
 ·refine run ?_;exact J.fin (congrArg _ (S.chkT_8 fun h=>c5 h.1.2.2.2).symm)
 have hle:=H.sh.le H.L n4;have hfst:(1≤s.V.cap∧s.V.cap≤40)∧S.okR s.V.sh∧s.V.sh.ver≤s.V.cap∧(s.V.n:Int)=s.V.sh.ver:=⟨⟨by show 1≤s.cap;omega,by show s.cap≤40;omega⟩,hok,by show s.sh.ver≤s.cap;omega,c5⟩
 refine run ?_;refine J.call rfl rfl (fun w' M=>refWhole s.sh w' (H.sh.ext M.ext) H.L n4) fun q hq=>?_
 dsimp only[grE,List.cons_append,List.nil_append];have hqs:q.m≤70∧q.n≤70:=⟨by rw[hq.m];omega,by rw[hq.n,hwg.2];omega⟩
 have hqok:=hq.ok (refWholeOk H.sh);have hqn:q.n=q.m:=by rw[hq.n,hwg.2,hq.m]
 have hqi:=hq.ids;have hqm:=hq.m;have hqo:=hq.ops;refine run ?_;refine J.alloc rfl fun b3=>?_
 refine run ?_;refine J.loopS (A:=Nat) (fun p=>[(4, .int .i64 (p:Nat))]) [5,40,41,42,43,44,45,46,47,48,49,50,51,52,53,54,55,56,57,58,59,60,61,62,63,64,65,66,67,68,69,70,71,72,73,74,75,76,77,78,79,80,81,82] (fun p=>p≤s.on∧∀i,i<p→S.plcS (S.whole s.sh.V.ps) s.os i) (fun p=>s.on - p) 0 (by kernel_rfl) ⟨Nat.zero_le _,fun i hi=>by omega⟩ (fun p j hI=>?_);obtain⟨hp,hI⟩:=hI;refine run ?_;refine J.ifd rfl (fun d1=>?_) (fun d1=>?_)
 ·have hpl:p<s.on:=by omega
  obtain⟨y,hy⟩:=ex (elt 32 s.os ((p:Nat):Int).toNat);have hy':S.idAt s.os p=y:=by rw[hy,Int.toNat_natCast];rfl
  have hyA:Arr .u8 32 y:=hy▸hO.elt_arr (by omega);have no:∀ {e:Prop},(S.plcS (S.whole s.sh.V.ps) s.os p→e)→¬e→¬S.okT s.V:=fun h1 h2 h=>h2 (h1 (h.2 p hpl));have hplc:S.plcS (S.whole s.sh.V.ps) s.os p↔S.inS q.m q.ids y∧¬S.inS p s.os y∧S.allI p s.os ((S.whole s.sh.V.ps).opOf y).n ((S.whole s.sh.V.ps).opOf y).ids:=by
   unfold S.plcS;rw[hy',hqi,hqm]
  refine run ?_;refine J.regionX [(0, .q),(1, .q),(2, .q),(3, .q),(4, .q),(5, .q),(6, .q),(7, .e),(8, .q)] mixed (by kernel_rfl) ?_;refine run ?_;refine J.callp rfl rfl (fun w' M=>(RW.own' (a:=q.ia) w' M).elim fun _ k0=>refAt _ _ _ _ _ w' k0 hyA (by omega)) ?_;refine run ?_;refine J.regionX [(0, .q),(1, .q),(2, .q),(3, .q),(4, .q),(5, .q),(6, .q),(7, .q),(8, .q),(9, .q),(11, .q),(10, .e),(12, .q),(13, .q),(14, .q),(15, .q),(16, .q),(17, .q),(18, .q),(19, .q),(20, .q),(21, .q),(22, .q),(23, .q),(24, .q),(25, .e),(26, .q),(27, .q)] mixed (by kernel_rfl) ?_;refine run ?_;refine J.spd rfl rfl rfl (fun d2=>?_) (fun d2=>?_)
  ·refine run ?_;exact J.fin (congrArg _ (S.chkT_8 (no (fun h=>(hplc.1 h).1) (S.at_neg.1 d2))).symm)
  have hat:=S.at_val (show 0≤S.atS q.m q.ids y by omega);have hin:S.inS q.m q.ids y:=Classical.not_not.1 fun h=>d2 (S.at_neg.2 h);have hix:=(S.ix_in hin).1;refine run ?_;refine J.callp rfl rfl (fun w' M=>refAt _ _ _ _ _ w' (hO.ext M.ext) hyA (by omega)) ?_;refine run ?_;have hpa:=S.plc_at (os:=s.os) hpl;rw[hy']at hpa;refine J.spd rfl rfl rfl (fun d3=>?_) (fun d3=>?_)
  ·refine run ?_;exact J.fin (congrArg _ (S.chkT_8 (no (fun h=>(hplc.1 h).2.1) (not_not_intro (hpa.1 d3)))).symm)
  rw[hat];obtain⟨z,hz⟩:∃z,q.zs[((S.ixS q.m q.ids y:Nat):Int).toNat]? =some z:=⟨q.zs[S.ixS q.m q.ids y]'(by have h:=congrArg List.length hqo;unfold GrA.ops at h;rw[List.length_map,hwg.2,←hqm]at h;omega),by rw[Int.toNat_natCast];exact List.getElem?_eq_getElem _⟩
  have hz':=hz;rw[Int.toNat_natCast]at hz';have hzo:z.o=(S.whole s.sh.V.ps).opOf y:=by
   have e:=GrA.opAt hz';rw[←e,hqo,hqi,hqm];rfl
  have hzn:z.o.n≤40:=(hqok z (List.mem_of_getElem? hz')).n;refine run ?_;refine J.callp rfl rfl (fun w' M=>refAll _ _ _ _ _ _ _ _ w' (wTk (hO.ext M.ext) p s.oc (by omega) (by omega)) ((GrR.own hqok hq.cap hqs w' M).op hz').row (by omega) (by omega)) ?_;refine run ?_;refine J.ifnot rfl (fun d4=>?_) (fun d4=>?_)
  ·refine run ?_
   exact J.fin (congrArg _ (S.chkT_8 (no (fun h => (hplc.1 h).2.2) (by
    have h4 := of_decide_eq_false d4
    rw [hzo] at h4
    exact fun k => h4 ((S.allI_pre (Nat.le_refl _)).1 k)))).symm)
  refine run ?_;refine J.nextS (p+1) ⟨rfl,trivial⟩ (by kernel_rfl) ⟨by omega,fun i hi=>?_⟩ (by omega);rcases Nat.lt_or_ge i p with c|c
  ·exact hI i c
  obtain rfl:i=p:=by omega
  have h4:=of_decide_eq_true d4;rw[hzo]at h4;exact hplc.2 ⟨hin,fun h=>d3 (hpa.2 h),(S.allI_pre (Nat.le_refl _)).2 h4⟩
 refine run ?_;exact J.fin (congrArg _ (S.chkT_0 ⟨hfst,fun i hi=>hI i (by have hi':i<s.on:=hi;omega)⟩).symm)
end W
namespace G
open Go.RowKit
section
variable{P:Program}{w:World}
theorem D.sliceM{l:List Value}{x hi mx:Operand}{t e sz:Nat}{a:Option Addr}{n c:Nat}{j k:Int}{dd:Option Tmp}{ty:TypeId}{pos:String}{af:Array Edge}{g:Option (Nat×Bool)}(hx:ev l x= .slice a n c)(h2:ev l hi= .int .i64 j)(h3:ev l mx= .int .i64 k)
  (hu:P.underlying t=some (.slice e))(hs:P.cellsOf e=sz)(hz:sz≠0)(hb:0≤j∧j≤k∧k≤c):
  (execOp (ev l) ⟨dd, .slice t x none (some hi) (some mx),ty,pos,af,g⟩).run P w= .ok (.value (.slice (subA a 0 sz k.toNat) j.toNat k.toNat)) w:=by
 have h0:0≤j:=by omega
 have hk:0≤k:=by omega
 have e1:max k 0=k:=Int.max_eq_left hk;have e2:max j 0=j:=Int.max_eq_left h0;have hsz:=size_run (P:=P) (w:=w) hs hz;simp only[execOp];rw[hx];simp[Instr.sliceAt,Instr.slice,run_underlying hu,Instr.sliceBounds,Instr.sliceBound,h2,h3,asIntOf,hb,h0,hk,e1,e2,hsz,subA]
end
section
variable{S0:Nat→Prop}{w0:World}{L:List Ent}{P:Program}{ops:Array Oper}{K:List Value→World→Prop}{rest:List (Oper×Kd)}{l l':List Value}{m:Md}{d:Tmp}{ty xt t e:TypeId}{pos:String}{af:Array Edge}{kd:Kd}{x y hi mx:Operand}{sz by_:Nat}{zs:List Value}
theorem J.slM{a:Option Addr}{n c:Nat}(j k:Nat)[U:Und P xt (.slice e)][Z:Siz P e sz](hk:pureK kd=true)(hx:ev l x= .slice a n c)(h2:ev l hi= .int .i64 (j:Nat))(h3:ev l mx= .int .i64 (k:Nat))(kk:J S0 w0 L (RY S0 w0 m P ops K rest l'))(hz:sz≠0:=by decide)(hb:j≤k∧k≤c:=by omega)
  (hl:l.set d (.slice (subA a 0 sz k) j k)=l':=by dsimp only[List.set]):
  J S0 w0 L (RY S0 w0 m P ops K ((⟨some d, .slice xt x none (some hi) (some mx),ty,pos,af,none⟩,kd)::rest) l):=
 J.pur hk (fun _=>D.sliceM (j:=((j:Nat):Int)) (k:=((k:Nat):Int)) hx h2 h3 U.h Z.h hz (by omega)) kk hl
end
end G
namespace W
open Go.RowKit G
set_option maxRecDepth 20000
set_option maxHeartbeats 8000000
attribute [local irreducible] RS RX RY Code.wp bodyPost J Ent.blk Ent.irow Ent.iown Ent.wrow Ent.wown Ent.gown Ent.all Ent.emp
instance:Ents prog 213:=⟨.mk func213 (by kernel_rfl) rfl⟩
instance:Ents prog 69:=⟨.mk func69 (by kernel_rfl) rfl⟩
instance:Inf prog 22 1 24 [.slice none 0 0]:=⟨TI.of (v:= .slice none 0 0) (by kernel_rfl) rfl⟩
instance:Ents prog 120:=⟨.mk func120 (by kernel_rfl) rfl⟩
theorem stGr1{S0:Nat→Prop}(a:Option Addr)(p c:Nat)(os x:List Int)(b:Nat)(T:TypeId)(w:World)(hB:Blk w b [.slice a p c] T)(D0:WRow .u8 32 S0 w a p os)(hx:Arr .u8 32 x)(hp:p≤1000):
  Calls prog 213 #[.agg (ints .u8 x).toArray, .pointer (some ⟨b,0,none⟩)] w (Ret w fun v _=>v= .bool (decide (¬S.inS p os x))):=by
 refine J.enter 6 func213 rfl rfl ?_;refine run ?_;refine J.box rfl rfl rfl fun b1=>?_
 refine run ?_;refine J.ldOq hB rfl ?_;refine run ?_;refine J.callp rfl rfl (fun w' M=>hasID _ _ _ _ _ w' (D0.ext M.ext) hx (by omega)) ?_;refine run ?_;exact J.fin (congrArg _ (by simp))
theorem idxGr1{S0 S1:Nat→Prop}(ba:Option Addr)(p bc:Nat)(os:List Int)(a:Option Addr)(n c:Nat)(ps:List Int)(b:Nat)(T:TypeId)(w:World)(hB:Blk w b [.slice ba p bc] T)(D0:WRow .u8 32 S0 w ba p os)(D1:WRow .u8 32 S1 w a n ps)(hp:p≤1000)(hn:n≤1000):
  Calls prog 230 #[.slice a n c, .func (.func 213) #[] #[.pointer (some ⟨b,0,none⟩)]] w (Gv w (fun r:Int=> .int .i64 r) (fun _=>[]) fun r=>0≤r↔¬S.allI p os n ps):=by
 have hl:=D1.len;refine J.enter 17 func230 rfl rfl ?_;refine run ?_;refine J.loopS (A:=Int) (fun p=>[(8, .int .i64 p)]) [4,5,9,10,11,12,13,14,15,16,17,18] (fun q=>(0≤q∧q≤n)∧∀i,i<q.toNat→S.inS p os (S.idAt ps i)) (fun q=>n - q.toNat) 0 (by kernel_rfl) ⟨by omega,fun i hi=>by omega⟩ (fun q j hI=>?_);obtain⟨h1,hI⟩:=hI;refine run ?_;refine J.ifd rfl (fun c1=>?_) (fun c1=>?_)
 ·refine run ?_;refine J.callvp rfl rfl rfl (fun w' M=>stGr1 ba p bc os _ b T w' (hB.ext M.ext) (D0.ext M.ext) (D1.elt_arr (by omega)) hp) ?_;refine run ?_;refine J.ifd rfl (fun c2=>?_) (fun c2=>?_)
  ·refine run ?_;exact J.finG q rfl ⟨fun _ h=>c2 (h q.toNat (by omega)),fun _=>by omega⟩ (List.nil_sublist _)
  refine run ?_;refine J.nextS (q+1) ⟨rfl,trivial⟩ (by kernel_rfl) ⟨by omega,fun i hi=>?_⟩ (by omega);rcases Nat.lt_or_ge i q.toNat with e|e
  ·exact hI i e
  obtain rfl:i=q.toNat:=by omega
  exact Classical.not_not.1 c2
 refine run ?_;exact J.finG (-1) rfl ⟨fun h=>by omega,fun h=>absurd (fun i hi=>hI i (by omega)) h⟩ (List.nil_sublist _)
theorem hasGr1{S0 S1:Nat→Prop}(ba:Option Addr)(p bc:Nat)(os:List Int)(a:Option Addr)(n c:Nat)(ps:List Int)(b:Nat)(T:TypeId)(w:World)(hB:Blk w b [.slice ba p bc] T)(D0:WRow .u8 32 S0 w ba p os)(D1:WRow .u8 32 S1 w a n ps)(hp:p≤1000)(hn:n≤1000):
  Calls prog 148 #[.slice a n c, .func (.func 213) #[] #[.pointer (some ⟨b,0,none⟩)]] w (Ret w fun v _=>v= .bool (decide (¬S.allI p os n ps))):=by
 refine J.enter 7 func148 rfl rfl ?_;refine run ?_;refine J.call rfl rfl (fun w' M=>idxGr1 ba p bc os a n c ps b T w' (hB.ext M.ext) (D0.ext M.ext) (D1.ext M.ext) hp hn) fun r hr2=>?_
 refine run ?_;exact J.fin (congrArg _ (decide_eq_decide.2 hr2))
theorem stGraph0{S0:Nat→Prop}(s:StA)(TK:TypeId)(w:World)(K0:Kst w TK)(H:StR S0 w s):
  Calls prog 120 #[.agg (srC s).toArray] w (Gv w (fun q:GrA=> .tuple #[.agg (grC q).toArray, .int .i64 (S.chkT s.V)]) (grE 24 37) (GrP (S.grT s.V).m (S.grT s.V).ids (S.grT s.V).ops)):=by
 have hcp:=H.cap;have hO:=H.os;have hwg:=S.whole_good (ps:=s.sh.V.ps) H.sh.ml;have bad:¬S.okT s.V→S.chkT s.V=8∧S.grT s.V=S.PG.nil:=fun h=>⟨S.chkT_8 h,S.grT_8 h⟩
 refine J.enter 86 func120 rfl rfl ?_;refine run ?_;refine J.box rfl rfl rfl fun b1=>?_
 refine J.alloc rfl fun b2=>?_
 refine run ?_;refine J.call rfl rfl (fun w' M=>shAll s.sh TK w' (K0.ext M.ext) (H.sh.ext M.ext) H.L) fun q hq=>?_
 dsimp only[grE,List.cons_append,List.nil_append];refine run ?_;refine J.alloc rfl fun b4=>?_
 refine run ?_;refine J.spn rfl rfl rfl (fun c1=>?_) (fun c1=>?_)
 ·obtain⟨e1,e2⟩:=bad fun h=>c1 (S.chkH_0 h.1.2.1);rw[e1,e2];refine run ?_;refine J.nilGr 24 37 ?_;exact J.finG GrA.nil rfl GrP.nil sb
 have hok:=S.chkH_iff.1 c1;obtain⟨n1,n4⟩:=ok_len H.sh hok;have hle:=H.sh.le H.L n4;rw[S.al_0 hok]at hq;have hver:s.sh.ver=((S.whole s.sh.V.ps).m:Nat):=((S.ok_iff (v:=s.sh.V) H.sh.ml).1 hok).2.2.2.1;have hqs:q.m≤70∧q.n≤70:=⟨by rw[hq.m];omega,by rw[hq.n,hwg.2];omega⟩
 have hqok:=hq.ok (refWholeOk H.sh);have hqi:=hq.ids;have hqm:=hq.m;have hqo:=hq.ops;refine run ?_;refine J.spd rfl rfl rfl (fun c2=>?_) (fun c2=>?_)
 ·obtain⟨e1,e2⟩:=bad fun h=>by have h1:1≤s.cap:=h.1.1.1;omega
  rw[e1,e2];refine run ?_;refine J.nilGr 24 37 ?_;exact J.finG GrA.nil rfl GrP.nil sb
 refine run ?_;refine J.spd rfl rfl rfl (fun c3=>?_) (fun c3=>?_)
 ·obtain⟨e1,e2⟩:=bad fun h=>by have h1:s.cap≤40:=h.1.1.2;omega
  rw[e1,e2];refine run ?_;refine J.nilGr 24 37 ?_;exact J.finG GrA.nil rfl GrP.nil sb
 refine run ?_;refine J.spd rfl rfl rfl (fun c4=>?_) (fun c4=>?_)
 ·obtain⟨e1,e2⟩:=bad fun h=>by have h1:s.sh.ver≤s.cap:=h.1.2.2.1;omega
  rw[e1,e2];refine run ?_;refine J.nilGr 24 37 ?_;exact J.finG GrA.nil rfl GrP.nil sb
 refine run ?_;refine J.ifn rfl (fun c5=>?_) (fun c5=>?_)
 ·obtain⟨e1,e2⟩:=bad fun h=>c5 (by have h1:(s.on:Int)=s.sh.ver:=h.1.2.2.2;rw[h1,hver,hqm]);rw[e1,e2];refine run ?_;refine J.nilGr 24 37 ?_;exact J.finG GrA.nil rfl GrP.nil sb
 have hfst:(1≤s.V.cap∧s.V.cap≤40)∧S.okR s.V.sh∧s.V.sh.ver≤s.V.cap∧(s.V.n:Int)=s.V.sh.ver:=⟨⟨by show 1≤s.cap;omega,by show s.cap≤40;omega⟩,hok,by show s.sh.ver≤s.cap;omega,by show(s.on:Int)=s.sh.ver;rw[hver,←hqm];exact c5⟩
 have hris:S.Rising q.m q.ids:=by
  rw[hqm,hqi];exact((S.chkP_fine hwg.1).1 hok.2.1).rising
 refine run ?_;refine J.loopS (A:=Nat) (fun p=>[(50, .int .i64 (p:Nat))]) [6,7,8,9,10,51,52,53,54,55,56,57,58,59,60,61,62,63,64,65,66,67,68,69,70,71,72,73,74,75,76,77,78,79,80,81,82,83,84,85] (fun p=>p≤s.on∧∀i,i<p→S.plcS (S.whole s.sh.V.ps) s.os i) (fun p=>s.on - p) 0 (by kernel_rfl) ⟨Nat.zero_le _,fun i hi=>by omega⟩ (fun p j hI=>?_);obtain⟨hp,hI⟩:=hI;refine run ?_;refine J.ifd rfl (fun d1=>?_) (fun d1=>?_)
 ·have hpl:p<s.on:=by omega
  obtain⟨y,hy⟩:=ex (elt 32 s.os ((p:Nat):Int).toNat);have hy':S.idAt s.os p=y:=by rw[hy,Int.toNat_natCast];rfl
  have hyA:Arr .u8 32 y:=hy▸hO.elt_arr (by omega);have no:∀ {e:Prop},(S.plcS (S.whole s.sh.V.ps) s.os p→e)→¬e→¬S.okT s.V:=fun h1 h2 h=>h2 (h1 (h.2 p hpl));have hplc:S.plcS (S.whole s.sh.V.ps) s.os p↔S.inS q.m q.ids y∧¬S.inS p s.os y∧S.allI p s.os ((S.whole s.sh.V.ps).opOf y).n ((S.whole s.sh.V.ps).opOf y).ids:=by
   unfold S.plcS;rw[hy',hqi,hqm]
  refine run ?_;refine J.alloc rfl fun b5=>?_
  refine run ?_;refine J.slM p p rfl rfl rfl rfl ?_;refine run ?_;refine J.alloc rfl fun b6=>?_
  refine run ?_;refine J.callp rfl rfl (fun w' M=>(RW.own' (a:=q.ia) w' M).elim fun _ k0=>bsID _ _ _ _ _ w' k0 hyA hris (by omega)) ?_;refine run ?_;refine J.spt rfl rfl rfl (fun d2=>?_) (fun d2=>?_)
  ·obtain⟨e1,e2⟩:=bad (no (fun h=>(hplc.1 h).1) (of_decide_eq_false d2));rw[e1,e2];refine run ?_;refine J.nilGr 24 37 ?_;exact J.finG GrA.nil rfl GrP.nil sb
  have hin:S.inS q.m q.ids y:=of_decide_eq_true d2;have hix:=(S.ix_in hin).1;rw[S.spotS_ix hris hin];refine run ?_;refine J.callp rfl rfl (fun w' M=>hasID _ _ _ _ _ w' (wTk (hO.ext M.ext) p p (by omega) (by omega)) hyA (by omega)) ?_;refine run ?_;refine J.spd rfl rfl rfl (fun d3=>?_) (fun d3=>?_)
  ·obtain⟨e1,e2⟩:=bad (no (fun h=>(hplc.1 h).2.1) (not_not_intro ((S.inS_take (Nat.le_refl _)).2 d3)));rw[e1,e2];refine run ?_;refine J.nilGr 24 37 ?_;exact J.finG GrA.nil rfl GrP.nil sb
  obtain⟨z,hz⟩:∃z,q.zs[((S.ixS q.m q.ids y:Nat):Int).toNat]? =some z:=⟨q.zs[S.ixS q.m q.ids y]'(by have h:=congrArg List.length hqo;unfold GrA.ops at h;rw[List.length_map,hwg.2,←hqm]at h;omega),by rw[Int.toNat_natCast];exact List.getElem?_eq_getElem _⟩
  have hz':=hz;rw[Int.toNat_natCast]at hz';have hzl:q.n=q.m:=by rw[hq.n,hwg.2,hqm]
  have hzo:z.o=(S.whole s.sh.V.ps).opOf y:=by
   have e:=GrA.opAt hz';rw[←e,hqo,hqi,hqm];rfl
  have hzn:z.o.n≤40:=(hqok z (List.mem_of_getElem? hz')).n;refine run ?_;refine J.fn rfl rfl rfl ?_;refine run ?_;refine J.callp rfl rfl (fun w' M=>hasGr1 (subA s.oa 0 32 p) p p (s.os.take (32*p)) _ _ _ _ b6 _ w' (blkC b6 M) (wTk (hO.ext M.ext) p p (by omega) (by omega)) ((GrR.own hqok hq.cap hqs w' M).op hz').row (by omega) (by omega)) ?_;refine run ?_;refine J.ifd rfl (fun d4=>?_) (fun d4=>?_)
  ·obtain⟨e1,e2⟩:=bad (no (fun h=>(hplc.1 h).2.2) (fun k=>d4 (by rw[hzo];exact(S.allI_pre (Nat.le_refl _)).1 k)));rw[e1,e2];refine run ?_;refine J.nilGr 24 37 ?_;exact J.finG GrA.nil rfl GrP.nil sb
  refine run ?_;refine J.nextS (p+1) ⟨rfl,trivial⟩ (by kernel_rfl) ⟨by omega,fun i hi=>?_⟩ (by omega);rcases Nat.lt_or_ge i p with c|c
  ·exact hI i c
  obtain rfl:i=p:=by omega
  have h4:=Classical.not_not.1 d4;rw[hzo]at h4;exact hplc.2 ⟨hin,fun h=>d3 ((S.inS_take (Nat.le_refl _)).1 h),(S.allI_pre (Nat.le_refl _)).2 h4⟩
 have hokT:S.okT s.V:=⟨hfst,fun i hi=>hI i (by have hi':i<s.on:=hi;omega)⟩
 rw[S.chkT_0 hokT,S.grT_0 hokT];refine run ?_;exact J.finG q rfl hq sb
theorem stGraph{S0:Nat→Prop}(s:StA)(TK:TypeId)(w:World)(K0:Kst w TK)(H:StR S0 w s):
  Calls prog 80 #[.agg (srC s).toArray] w (Gv w (fun q:GrA=> .tuple #[.agg (grC q).toArray, .int .i64 (S.chkT s.V)]) (grE 24 37) (GrP (S.grT s.V).m (S.grT s.V).ids (S.grT s.V).ops)):=by
 refine J.enter 7 func80 rfl rfl ?_;refine run ?_;refine J.box rfl rfl rfl fun b1=>?_
 refine run ?_;refine J.alloc rfl fun b2=>?_
 refine run ?_;refine J.call rfl rfl (fun w' M=>stGraph0 s _ w' (K0.ext M.ext) (H.ext M.ext)) fun q hq=>?_
 dsimp only[grE,List.cons_append,List.nil_append];refine run ?_;exact J.finG q rfl hq sb
end W
namespace S
open G
/-! predecessors -/
def preE(n:Nat)(ids:List Int):Int:=if 60<n then 4 else if Rising n ids then 0 else 32
def preN(n:Nat)(ids:List Int):Nat:=if preE n ids=0 then min n 4 else 0
def preL(n:Nat)(ids:List Int):List Int:=if preE n ids=0 then ids.take (32*min n 4)else []
theorem preE_4{n:Nat}{ids:List Int}(h:60<n):preE n ids=4:=if_pos h
theorem preE_32{n:Nat}{ids:List Int}(h:¬60<n)(h2:¬Rising n ids):preE n ids=32:=by unfold preE;rw[if_neg h,if_neg h2]
theorem preE_0{n:Nat}{ids:List Int}(h:¬60<n)(h2:Rising n ids):preE n ids=0:=by unfold preE;rw[if_neg h,if_pos h2]
theorem pre_no{n:Nat}{ids:List Int}(h:preE n ids≠0):preN n ids=0∧preL n ids=[]:=⟨if_neg h,if_neg h⟩
theorem pre_yes{n:Nat}{ids:List Int}(h:preE n ids=0):preN n ids=min n 4∧preL n ids=ids.take (32*min n 4):=⟨if_pos h,if_pos h⟩
theorem preN_le(n:Nat)(ids:List Int):preN n ids≤4:=by
 unfold preN;split<;>omega
/-! stamps -/
def stp(m:Int)(o:OpV):Int:=if o.st+1>m then o.st+1 else m
def nxtS(l:List OpV):Int:=l.foldl stp 0
theorem nxt_step{l:List OpV}{i:Nat}(hi:i<l.length):nxtS (l.take (i+1))=stp (nxtS (l.take i)) (l.getD i OpV.zero):=by
 unfold nxtS;rw[List.take_succ_eq_append_getElem hi,List.foldl_append,getD_at hi];rfl
noncomputable def stmE(g:PG):Int:=if chkP g≠0 then chkP g else if 1000000000000<nxtS g.ops then 16 else 0
noncomputable def stmV(g:PG):Int:=if stmE g=0 then nxtS g.ops else 0
theorem stmE_1{g:PG}(h:chkP g≠0):stmE g=chkP g∧stmE g≠0:=by
 have e:stmE g=chkP g:=if_pos h;exact⟨e,by rw[e];exact h⟩
theorem stmE_2{g:PG}(h:chkP g=0)(h2:1000000000000<nxtS g.ops):stmE g=16:=by unfold stmE;rw[if_neg (not_not_intro h),if_pos h2]
theorem stmE_0{g:PG}(h:chkP g=0)(h2:¬1000000000000<nxtS g.ops):stmE g=0:=by unfold stmE;rw[if_neg (not_not_intro h),if_neg h2]
theorem stmV_no{g:PG}(h:stmE g≠0):stmV g=0:=if_neg h
theorem stmV_yes{g:PG}(h:stmE g=0):stmV g=nxtS g.ops:=if_pos h
theorem chk_st{g:PG}(h:chkP g=0):∀o∈g.ops,o.st≤1000000000000:=fun o ho=>by
 obtain⟨_,_,h3,_⟩:=chkG_zero.1 (show chkG g.m g.ids g.ops=0 from h);obtain⟨i,hi,rfl⟩:=List.getElem_of_mem ho;have h4:=(h3 i hi).1;rw[getD_at hi]at h4;exact(check_zero.1 (verE_check h4)).2.2.2.1
/-! operations -/
def bldO(n:Nat)(ids:List Int)(st:Int)(o:OpV):OpV:= {o with au:=0,st:=st,e:=0,s:=0,n:=preN n ids,ids:=preL n ids}
def bldE(x:Int)(n:Nat)(ids:List Int)(st:Int)(o:OpV):Int:=if preE n ids≠0 then preE n ids else signE x (bldO n ids st o)
def bldV(x:Int)(n:Nat)(ids:List Int)(st:Int)(o:OpV):OpV:=if bldE x n ids st o=0 then signS x (bldO n ids st o)else OpV.zero
def bldB(x:Int)(n:Nat)(ids:List Int)(st:Int)(o:OpV):List Int:=if bldE x n ids st o=0 then encS (signS x (bldO n ids st o))else []
def bldI(x:Int)(n:Nat)(ids:List Int)(st:Int)(o:OpV):List Int:=if bldE x n ids st o=0 then idOf (signS x (bldO n ids st o))else List.replicate 32 0
theorem bldE_1{x:Int}{n:Nat}{ids:List Int}{st:Int}{o:OpV}(h:preE n ids≠0):bldE x n ids st o=preE n ids:=if_pos h
theorem bldE_2{x:Int}{n:Nat}{ids:List Int}{st:Int}{o:OpV}(h:preE n ids=0):bldE x n ids st o=signE x (bldO n ids st o):=if_neg (not_not_intro h)
theorem bld_no{x:Int}{n:Nat}{ids:List Int}{st:Int}{o:OpV}(h:bldE x n ids st o≠0):bldV x n ids st o=OpV.zero∧bldB x n ids st o=[]∧bldI x n ids st o=List.replicate 32 0:=⟨if_neg h,if_neg h,if_neg h⟩
theorem bld_yes{x:Int}{n:Nat}{ids:List Int}{st:Int}{o:OpV}(h:bldE x n ids st o=0):bldV x n ids st o=signS x (bldO n ids st o)∧bldB x n ids st o=encS (signS x (bldO n ids st o))∧bldI x n ids st o=idOf (signS x (bldO n ids st o)):=⟨if_pos h,if_pos h,if_pos h⟩
structure BdV where
 (o:OpV)(b i:List Int)(e:Int)
def BdV.no(e:Int):BdV:=⟨OpV.zero,[],List.replicate 32 0,e⟩
def bldR(x:Int)(n:Nat)(ids:List Int)(st:Int)(o:OpV):BdV:=⟨bldV x n ids st o,bldB x n ids st o,bldI x n ids st o,bldE x n ids st o⟩
open Classical in
noncomputable def wrtR(v:StV)(x:Int)(o:OpV):BdV:=if ¬okT v then .no 8 else if stmE (whole v.sh.ps)≠0 then .no (stmE (whole v.sh.ps))else bldR x (hdN (whole v.sh.ps)) (hdI (whole v.sh.ps)) (stmV (whole v.sh.ps)) o
theorem wrt_8{v:StV}{x:Int}{o:OpV}(h:¬okT v):wrtR v x o= .no 8:=if_pos h
theorem wrt_s{v:StV}{x:Int}{o:OpV}(h:okT v)(h2:stmE (whole v.sh.ps)≠0):wrtR v x o= .no (stmE (whole v.sh.ps)):=by unfold wrtR;rw[if_neg (not_not_intro h),if_pos h2]
theorem wrt_0{v:StV}{x:Int}{o:OpV}(h:okT v)(h2:stmE (whole v.sh.ps)=0):wrtR v x o=bldR x (hdN (whole v.sh.ps)) (hdI (whole v.sh.ps)) (stmV (whole v.sh.ps)) o:=by unfold wrtR;rw[if_neg (not_not_intro h),if_neg (not_not_intro h2)]
structure BdV.fit(r:BdV):Prop where
 o:r.o.ok
 b:r.b.length≤400
 i:Arr .u8 32 r.i
theorem no_fit(e:Int):(BdV.no e).fit:=⟨OpV.zero_ok,Nat.zero_le _,⟨List.length_replicate,fun x hx=>by rw[List.eq_of_mem_replicate hx];decide⟩⟩
theorem bldI_arr(x:Int)(n:Nat)(ids:List Int)(st:Int)(o:OpV):Arr .u8 32 (bldI x n ids st o):=by
 unfold bldI;split
 ·exact sha_arr _
 ·exact⟨by simp,fun x hx=>by rw[List.mem_replicate]at hx;rw[hx.2];simp only[lim];omega⟩
theorem bldV_ok{x:Int}{n:Nat}{ids:List Int}{st:Int}{o:OpV}(ho:(bldO n ids st o).ok):(bldV x n ids st o).ok:=by
 unfold bldV;split
 ·exact signS_ok x _ ho
 ·exact OpV.zero_ok
theorem bldB_len{x:Int}{n:Nat}{ids:List Int}{st:Int}{o:OpV}(ho:(bldO n ids st o).ok)(hl:ids.length=32*n):(bldB x n ids st o).length≤400:=by
 by_cases h:bldE x n ids st o=0
 ·rw[(bld_yes h).2.1];have hp:preE n ids=0:=Classical.byContradiction fun c=>by rw[bldE_1 c]at h;exact c h
  rw[bldE_2 hp]at h;have hpl:(bldO n ids st o).ids.length=32*(bldO n ids st o).n:=by
   show(preL n ids).length=32*preN n ids;rw[(pre_yes hp).1,(pre_yes hp).2,List.length_take];omega
  have hg:=sign_good ho hpl h;refine enc_400 ?_ hg.2.2.1;rw[signS_eq h];exact hpl
 ·rw[(bld_no h).2.1];exact Nat.zero_le _
theorem bldO_okS{n:Nat}{ids:List Int}{st:Int}{o:OpV}(ho:o.ok)(hs:0≤st∧st<18446744073709551616):(bldO n ids st o).ok:=⟨(by show(0:Int)≤0∧(0:Int)<4294967296;decide),hs,ho.k,ho.vk,ho.num,ho.bits,(by show(0:Int)≤0∧(0:Int)<4294967296;decide),(by show(0:Int)≤0∧(0:Int)<4294967296;decide),by have:=preN_le n ids;show preN n ids≤40;omega,ho.key,ho.t⟩
theorem bld_fit{x:Int}{n:Nat}{ids:List Int}{st:Int}{o:OpV}(ho:o.ok)(hs:0≤st∧st<18446744073709551616)(hl:ids.length=32*n):(bldR x n ids st o).fit:=⟨bldV_ok (bldO_okS ho hs),bldB_len (bldO_okS ho hs) hl,bldI_arr _ _ _ _ _⟩
theorem stm_rng{g:PG}(h:stmE g=0):0≤stmV g∧stmV g≤1000000000000:=by
 have hc:chkP g=0:=Classical.byContradiction fun c=>(stmE_1 c).2 h;have hn:¬1000000000000<nxtS g.ops:=fun c=>by rw[stmE_2 hc c]at h;exact absurd h (by decide)
 rw[stmV_yes h];refine⟨?_,Int.not_lt.1 hn⟩;have:∀(l:List OpV) (m:Int),0≤m→0≤l.foldl stp m:=fun l=>by
  induction l with
  |nil=>exact fun m hm=>hm
  |cons o l ih=>
   intro m hm;rw[List.foldl_cons];refine ih _ ?_;unfold stp;split<;>omega
 exact this g.ops 0 (Int.le_refl _)
theorem wrt_fit{v:StV}{x:Int}{o:OpV}(hg:StG v)(ho:o.ok):(wrtR v x o).fit:=by
 by_cases h:okT v
 ·by_cases h2:stmE (whole v.sh.ps)=0
  ·rw[wrt_0 h h2];have:=stm_rng h2;exact bld_fit ho (by omega) (hd_all (ok_fineT hg h).fine).1
  ·rw[wrt_s h h2];exact no_fit _
 ·rw[wrt_8 h];exact no_fit _
end S
end Go.Proofs.YtkibkhgcbepolaaGreatDoor
