/-
  Part 12 of the lemmas of these laws: BuilderWrites.
-/
import Derived.Test.YtaapnlnileblaaaGreatDoorPBw11
set_option linter.unusedVariables false
set_option linter.unusedSimpArgs false
open Go.Proofs.Tryz
namespace Go.Proofs.YtaapnlnileblaaaGreatDoor
namespace W
open Go.RowKit G
set_option maxRecDepth 20000
set_option maxHeartbeats 8000000
attribute [local irreducible] RS RX RY Code.wp bodyPost J Ent.blk Ent.irow Ent.iown Ent.wrow Ent.wown Ent.gown Ent.all Ent.emp
instance:Ents prog 116:=⟨.mk func116 (by kernel_rfl) rfl⟩
instance:Ents prog 215:=⟨.mk func215 (by kernel_rfl) rfl⟩
instance:Ents prog 216:=⟨.mk func216 (by kernel_rfl) rfl⟩
instance:Ents prog 217:=⟨.mk func217 (by kernel_rfl) rfl⟩
theorem shWhole{S0:Nat→Prop}(s:ShA)(TK:TypeId)(w:World)(K0:Kst w TK)(H:ShR S0 w s)(hL:ShL s):
  Calls prog 168 #[.agg (shC s).toArray] w (Gv w (fun q:GrA=> .tuple #[.agg (grC q).toArray, .int .i64 (S.chkH s.V)]) (grE 29 39) (GrP (S.alP s.V).m (S.alP s.V).ids (S.alP s.V).ops)):=by
 have P0:=H.pr;have hl:=P0.len;have hcp:=H.cap;have hll:s.V.ps.length=s.pn:=by rw[List.length_map,H.pr.len]
 have hoi:=S.ok_iff (v:=s.V) H.ml;refine J.enter 71 func168 rfl rfl ?_;refine run ?_;refine J.box rfl rfl rfl fun b1=>?_
 refine J.alloc rfl fun b2=>?_
 refine run ?_;refine J.alloc rfl fun b4=>?_
 refine run ?_;refine J.spd rfl rfl rfl (fun c1=>?_) (fun c1=>?_)
 ·have k1:¬S.okR s.V:=fun h=>by have:=h.1.1;omega
  rw[S.chkH_8 k1,S.al_8 k1];refine run ?_;refine J.nilGr 29 39 ?_;exact J.finG GrA.nil rfl GrP.nil sb
 refine run ?_;refine J.ifd rfl (fun c2=>?_) (fun c2=>?_)
 ·have k1:¬S.okR s.V:=fun h=>by have:=h.1.2;omega
  rw[S.chkH_8 k1,S.al_8 k1];refine run ?_;refine J.nilGr 29 39 ?_;exact J.finG GrA.nil rfl GrP.nil sb
 refine run ?_;refine J.loop (A:=Nat) (fun p=>[(24, .int .i64 (p:Nat))]) [5,6,25,26,27,28,29,30,31,32,33,34] (fun _=>[.blk b4 [.int .i64 (s.pn:Nat)] 3, .blk b2 [.slice none 0 0, .slice none 0 0] 57, .blk b1 (shC s) 25]) (fun p=>p≤s.pn∧∀k,k<p→S.resP (s.pn:Int) (k:Nat) (s.V.ps.getD k S.PG.nil).m (s.V.ps.getD k S.PG.nil).ids) (fun p=>s.pn - p) 0 (by kernel_rfl) ⟨Nat.zero_le _,fun k hk=>absurd hk (Nat.not_lt_zero _)⟩ (fun p j hI=>?_);obtain⟨hp,hI⟩:=hI;refine run ?_;refine J.ifd rfl (fun c3=>?_) (fun c3=>?_)
 ·obtain⟨g,hg⟩:=P0.ex (i:=(p:Nat)) (by omega);have hg':=hg;rw[Int.toNat_natCast]at hg';have G:=H.g hg';have hcp2:=G.cap;have hgP:=shAt hg';refine run ?_;refine J.alloc rfl fun b5=>?_
  refine J.alloc rfl fun b6=>?_
  refine run ?_;refine J.fn rfl rfl rfl ?_;refine J.callp rfl rfl (fun w' M=>hasWh (s.pn:Int) (p:Nat) g.ia g.m g.ic g.ids b4 b5 _ _ w' (blkC b4 M) (blkC b5 M) (G.ids.ext M.ext) ⟨by omega,by omega⟩ (by omega)) ?_;refine run ?_;refine J.ifd rfl (fun c4=>?_) (fun c4=>?_)
  ·have k1 : ¬ S.okR s.V := fun h => c4 (by
    have := ((hoi.1 h).2.1 p (by omega)).2.2
    rw [hgP, hll] at this
    exact this)
   rw[S.chkH_8 k1,S.al_8 k1];refine run ?_;refine J.nilGr 29 39 ?_;exact J.finG GrA.nil rfl GrP.nil sb
  refine run ?_;refine J.next (p+1) ⟨rfl,trivial⟩ (by kernel_rfl) ⟨by omega,fun k hk=>?_⟩ (by omega);rcases Nat.lt_or_ge k p with c|c
  ·exact hI k c
  obtain rfl:k=p:=by omega
  rw[hgP];exact Decidable.not_not.1 c4
 have hres:∀k,k<s.V.ps.length→S.resP (s.V.ps.length:Int) (k:Nat) (s.V.ps.getD k S.PG.nil).m (s.V.ps.getD k S.PG.nil).ids:=fun k hk=>by
  rw[hll];exact hI k (by omega)
 refine run ?_;refine J.call rfl rfl (fun w' M=>shMerge s w' (H.ext M.ext) hL (by omega) hres) fun q hq=>?_
 obtain⟨q,ok⟩:=q;dsimp only[grE,List.cons_append,List.nil_append]at hq⊢;refine run ?_;refine J.alloc rfl fun b7=>?_
 refine run ?_;cases ok with
 |false=>
  have k1:¬S.okR s.V:=fun h=>hq.2 rfl (hoi.1 h).2.1;rw[S.chkH_8 k1,S.al_8 k1];refine run ?_;refine J.nilGr 29 39 ?_;exact J.finG GrA.nil rfl GrP.nil sb
 |true=>
 obtain⟨hgp,hP⟩:=hq.1 rfl;have hle:=H.le hL (by omega);have hwg:=S.whole_good (ps:=s.V.ps) H.ml;have hok:=refWholeOk H;have hqs:q.m≤70∧q.n≤70:=⟨by rw[hP.m];exact Nat.le_trans hle (by decide),by rw[hP.n,hwg.2];exact Nat.le_trans hle (by decide)⟩
 have hqP:q.P=S.whole s.V.ps:=by rw[hP.P]
 refine run ?_;refine J.callp rfl rfl (fun w' M=>dagCheck q _ w' (K0.ext M.ext) (GrR.own (hP.ok hok) hP.cap hqs w' M)) ?_;refine run ?_;refine J.spn rfl rfl rfl (fun c5=>?_) (fun c5=>?_)
 ·have k1:¬S.okR s.V:=fun h=>c5 (by have:=h.2.1;unfold S.chkP at this;rw[←hqP]at this;exact this);rw[S.chkH_8 k1,S.al_8 k1];refine run ?_;refine J.nilGr 29 39 ?_;exact J.finG GrA.nil rfl GrP.nil sb
 refine run ?_;refine J.ifn rfl (fun c6=>?_) (fun c6=>?_)
 ·have k1:¬S.okR s.V:=fun h=>c6 (by have:=(hoi.1 h).2.2.2.1;rw[hP.m];exact this);rw[S.chkH_8 k1,S.al_8 k1];refine run ?_;refine J.nilGr 29 39 ?_;exact J.finG GrA.nil rfl GrP.nil sb
 have hhn:S.hdN q.P≤q.m:=S.numF_le _ _;refine run ?_;refine J.call rfl rfl (fun w' M=>ancHeads q _ w' (K0.ext M.ext) (GrR.own (hP.ok hok) hP.cap hqs w' M) c5) fun q2 hq2=>?_
 obtain⟨ha,hn,hc⟩:=q2;dsimp only at hq2⊢;refine run ?_;refine J.callp rfl rfl (fun w' M=>(RW.own' (a:=ha) w' M).elim fun _ k0=>eqIDs _ _ _ _ _ _ _ _ w' k0 (H.hr.ext M.ext) (by omega) (by omega)) ?_;refine run ?_;refine J.ifnot rfl (fun c7=>?_) (fun c7=>?_)
 ·have k1:¬S.okR s.V:=fun h=>of_decide_eq_false c7 (by have:=(hoi.1 h).2.2.2.2;rw[hqP];exact this.symm);rw[S.chkH_8 k1,S.al_8 k1];refine run ?_;refine J.nilGr 29 39 ?_;exact J.finG GrA.nil rfl GrP.nil sb
 have k1:S.okR s.V:=hoi.2 ⟨⟨by omega,by omega⟩,hgp,by unfold S.chkP;rw[←hqP];exact c5,by rw[←hP.m];exact c6,by have:=of_decide_eq_true c7;rw[←hqP];exact this.symm⟩;rw[S.chkH_0 k1,S.al_0 k1];refine run ?_;exact J.finG q rfl hP sb
instance:Ents prog 168:=⟨.mk func168 (by kernel_rfl) rfl⟩
theorem shCheck{S0:Nat→Prop}(s:ShA)(TK:TypeId)(w:World)(K0:Kst w TK)(H:ShR S0 w s)(hL:ShL s):
  Calls prog 122 #[.agg (shC s).toArray] w (Ret w fun v _=>v= .int .i64 (S.chkH s.V)):=by
 refine J.enter 10 func122 rfl rfl ?_;refine run ?_;refine J.box rfl rfl rfl fun b1=>?_
 refine run ?_;refine J.call rfl rfl (fun w' M=>shWhole s _ w' (K0.ext M.ext) (H.ext M.ext) hL) fun q hq=>?_
 dsimp only[grE,List.cons_append,List.nil_append];refine run ?_;refine J.alloc rfl fun b3=>?_
 refine run ?_;exact J.fin rfl
theorem shAll{S0:Nat→Prop}(s:ShA)(TK:TypeId)(w:World)(K0:Kst w TK)(H:ShR S0 w s)(hL:ShL s):
  Calls prog 113 #[.agg (shC s).toArray] w (Gv w (fun q:GrA=> .tuple #[.agg (grC q).toArray, .int .i64 (S.chkH s.V)]) (grE 29 39) (GrP (S.alP s.V).m (S.alP s.V).ids (S.alP s.V).ops)):=by
 refine J.enter 7 func113 rfl rfl ?_;refine run ?_;refine J.box rfl rfl rfl fun b1=>?_
 refine run ?_;refine J.alloc rfl fun b2=>?_
 refine run ?_;refine J.call rfl rfl (fun w' M=>shWhole s _ w' (K0.ext M.ext) (H.ext M.ext) hL) fun q hq=>?_
 dsimp only[grE,List.cons_append,List.nil_append];refine run ?_;exact J.finG q rfl hq sb
structure ShI(S0:Nat→Prop)(w:World)(s:ShA):Prop where
 pr:GRow (fun g:GrA=>grC g) 2 S0 w s.pa s.pn s.gs
 gi:∀g∈s.gs,GrI S0 w g
 hr:WRow .u8 32 S0 w s.ha s.hn s.hs
 cap:s.pn≤s.pc∧s.hn≤s.hc
theorem ShI.ext{S0:Nat→Prop}{w w':World}{s:ShA}(h:ShI S0 w s)(x:Ext w w'):ShI S0 w' s:=⟨h.pr.ext x,fun g hg=>(h.gi g hg).ext x,h.hr.ext x,h.cap⟩
def ShSm(s:ShA):Prop:=s.pn≤6∧s.hn≤60∧∀k,k<s.pn→∀g,s.gs[k]? =some g→(g.m≤16∧g.n≤16)∧GrSm g
theorem ShI.sh{S0:Nat→Prop}{w:World}{s:ShA}(h:ShI S0 w s)(k:ShSm s):ShR S0 w s∧ShL s:=by
 have hl:=h.pr.len;have each:∀g∈s.gs,(g.m≤16∧g.n≤16)∧GrSm g:=fun g hg=>by
  obtain⟨i,hi,rfl⟩:=List.getElem_of_mem hg;exact k.2.2 i (by omega) _ (List.getElem?_eq_getElem hi)
 exact ⟨⟨h.pr, fun g hg => (h.gi g hg).gr (each g hg).2, h.hr, h.cap.1, h.cap.2, k.1, by have := k.2.1; omega⟩, fun hn4 => by
  have h2 := S.allN_le (ps := s.V.ps) (b := 16) (fun p hp => by
   obtain ⟨g, hg, rfl⟩ := List.mem_map.1 hp
   exact (each g hg).1.1) s.V.ps.length (Nat.le_refl _)
  have h3 : s.V.ps.length = s.pn := by rw [List.length_map, hl]
  rw [List.take_length] at h2
  omega⟩
theorem refShGreat{S0:Nat→Prop}(s:ShA)(w:World)(H:ShI S0 w s):
  Calls prog 62 #[.agg (shC s).toArray] w (Gv w (fun q:Bool=> .bool q) (fun _=>[]) fun q=>q=false→ShSm s):=by
 have P0:=H.pr;have hl:=P0.len;refine J.enter 50 func62 rfl rfl ?_;refine run ?_;refine J.box rfl rfl rfl fun b1=>?_
 refine run ?_;refine J.loopS (A:=Nat) (fun p=>[(3, .int .i64 (p:Nat))]) [4,5,6,7,8,9,10,11,12,13,14,15,16,17,18,19,20,21,22,23,24,25,26,27,28,29,30,31,32,33,34,35,36,37,38,39,40] (fun p=>(p≤s.pn∧p≤7)∧∀k,k<p→∀g,s.gs[k]? =some g→(g.m≤16∧g.n≤16)∧GrSm g) (fun p=>7 - p) 0 (by kernel_rfl) ⟨⟨Nat.zero_le _,Nat.zero_le _⟩,fun k hk=>absurd hk (Nat.not_lt_zero _)⟩ (fun p j hI=>?_);obtain⟨⟨hp,hp7⟩,hI⟩:=hI;refine run ?_;refine J.spd rfl rfl rfl (fun c1=>?_) (fun c1=>?_)
 ·refine run ?_;refine J.ifd rfl (fun c2=>?_) (fun c2=>?_)
  ·obtain⟨g,hg⟩:=P0.ex (i:=(p:Nat)) (by omega);have hg':=hg;rw[Int.toNat_natCast]at hg';have G:=H.gi g (List.mem_of_getElem? hg');refine run ?_;refine J.spd rfl rfl rfl (fun c3=>?_) (fun c3=>?_)
   ·refine run ?_;exact J.finG true rfl (fun h=>by cases h) (List.nil_sublist _)
   refine run ?_;refine J.spd rfl rfl rfl (fun c4=>?_) (fun c4=>?_)
   ·refine run ?_;exact J.finG true rfl (fun h=>by cases h) (List.nil_sublist _)
   refine run ?_;refine J.call rfl rfl (fun w' M=>refGreat g w' (G.ext M.ext)) fun q hq=>?_
   refine run ?_;refine J.ifb rfl (fun c5=>?_) (fun c5=>?_)
   ·refine run ?_;exact J.finG true rfl (fun h=>by cases h) (List.nil_sublist _)
   refine run ?_;refine J.nextS (p+1) ⟨rfl,trivial⟩ (by kernel_rfl) ⟨⟨by omega,by omega⟩,fun k hk h hh=>?_⟩ (by omega);rcases Nat.lt_or_ge k p with c|c
   ·exact hI k c h hh
   obtain rfl:k=p:=by omega
   rw[hg']at hh;obtain rfl:=Option.some.inj hh;exact⟨⟨by omega,by omega⟩,hq c5⟩
  refine run ?_;refine J.spd rfl rfl rfl (fun c6=>?_) (fun c6=>absurd (by omega) c6);refine run ?_;exact J.finG true rfl (fun h=>by cases h) (List.nil_sublist _)
 refine run ?_;refine J.spd rfl rfl rfl (fun c6=>?_) (fun c6=>?_)
 ·refine run ?_;exact J.finG true rfl (fun h=>by cases h) (List.nil_sublist _)
 refine run ?_;refine J.finG _ rfl (fun h=>?_) (List.nil_sublist _);have h2:=of_decide_eq_false h;exact⟨by omega,by omega,fun k hk=>hI k (by omega)⟩
end W
namespace L
open Go Go.Proofs.YtaapnlnileblaaaGreatDoor G W
open Go.ChangeShapes Go.WideShapes Go.ChangeAt Go.RowKit
set_option maxRecDepth 100000
theorem z_shint:prog.cellsOf 3=1:=by kernel_rfl
theorem z_shards:prog.cellsOf 25=3:=by kernel_rfl
theorem z_grs:prog.cellsOf 22=1:=by kernel_rfl
section
variable{H:Type}{enc:TypeId×Value→H}{w:World}{base:Nat}{sp:Nat→Bool}{held:Bool}{fuel:Nat}{cs:List Value}{x:DataW H×List MemPlace}
theorem shards_in(h:DataW.trod enc prog w base sp held fuel 25 cs=some x):∃s:ShA,cs=shC s∧ShI (fun _=>True) w s:=by
  have hl:=(fields_in underlying25 h).1;rw[z_shards]at hl
  match cs,hl,h with
  |[c0,c1,c2],_,h=>
    obtain⟨_,_,f0⟩:=field_in 0 underlying25 rfl z_grs h;obtain⟨_,_,f1⟩:=field_in 1 underlying25 rfl z_ids h;obtain⟨_,_,f2⟩:=field_in 2 underlying25 rfl z_shint h;obtain⟨pa,pn,pc,gs,e0,c0',R0,Q0⟩:=grow_in (fun g:GrA=>grC g) (fun g=>GrI (fun _=>True) w g) GrA.nil grC_len underlying22 z_gr (by decide) (fun m ds y hd=>graph_in hd) f0;obtain⟨ha,hn,hc,hs,e1,c1',R1⟩:=ids_in underlying23 underlying29 underlying5 z_u8 z_id (by decide) f1;obtain⟨ver,e2,_⟩:=int_in underlying3 f2;have q0:[c0]=[Value.slice pa pn pc]:=e0;have q1:[c1]=[Value.slice ha hn hc]:=e1;have q2:[c2]=[Value.int .i64 ver]:=e2;simp only[List.cons.injEq,and_true]at q0 q1 q2;subst q0 q1 q2;exact⟨⟨pa,pn,pc,gs,ha,hn,hc,hs,ver⟩,rfl,R0,Q0,R1,c0',c1'⟩
end
end L
namespace S
open G
/-! ### ids by what is among them -/
/-! ### heads -/
theorem hd_all{g:PG}(hg:g.fine):(hdI g).length=32*hdN g∧Rising (hdN g) (hdI g)∧∀y,inS (hdN g) (hdI g) y↔inS g.m g.ids y∧∀x u,g.has x u→¬inS u.n u.ids y:=by
 obtain⟨h1,h2,h3⟩:=sel_all (f:=hdF g.m g.ids g.ops) hg.good hg.rising g.m (Nat.le_refl _);refine⟨h1.1,h2,fun y=>?_⟩;have hop:opensS g.m g.ids g.ops:=fun i hi=>by
  intro j hj;exact hg.opens _ _ ⟨i,by rw[←hg.good.2];exact hi,rfl,rfl⟩ j hj
 have named:∀i,i<g.m→(i∈namI (prS g.m g.ids g.ops) g.ops.length↔∃x u,g.has x u∧inS u.n u.ids (idAt g.ids i)):=fun i hi=>by
  unfold namI;rw[List.mem_flatMap];constructor
  ·rintro⟨k,hk,hm⟩;have hk:=List.mem_range.1 hk;exact⟨idAt g.ids k,g.ops.getD k OpV.zero,⟨k,by rw[←hg.good.2];exact hk,rfl,rfl⟩,(mem_pr hg.rising (hop k hk) hi).1 hm⟩
  ·rintro⟨x,u,⟨k,hk,e1,e2⟩,hm⟩;have hk':k<g.ops.length:=by rw[hg.good.2];exact hk
   refine⟨k,List.mem_range.2 hk',(mem_pr hg.rising (hop k hk') hi).2 ?_⟩;rw[e2];exact hm
 refine(has_in (g:=selP (hdF g.m g.ids g.ops) g g.m)).trans ⟨fun⟨o,ho⟩=>?_,fun⟨⟨i,hi,e⟩,hn⟩=>?_⟩
 ·obtain⟨k,hk,hf,e,_⟩:=(h3 _ _).1 ho;have hf:=of_decide_eq_true hf;refine⟨⟨k,hk,e⟩,fun x u hu hi=>hf ((named k hk).2 ⟨x,u,hu,?_⟩)⟩;rw[e];exact hi
 ·refine⟨_,(h3 _ _).2 ⟨i,hi,decide_eq_true fun hm=>?_,e,rfl⟩⟩;obtain⟨x,u,hu,hin⟩:=(named i hi).1 hm;rw[e]at hin;exact hn x u hu hin
/-! ### parts -/
/-! ### what Put tells -/
section
end
end S
namespace W
open Go.RowKit G
set_option maxRecDepth 20000
set_option maxHeartbeats 8000000
attribute [local irreducible] RS RX RY Code.wp bodyPost J Ent.blk Ent.irow Ent.iown Ent.wrow Ent.wown Ent.gown Ent.all Ent.emp
structure TsA where
 (i:Nat)(a:Option Addr)(c:Nat)(gs:List GrA)
theorem gsTake{s:ShA}{i:Nat}{g q:GrA}{gs:List GrA}(hg:s.gs[i]? =some g)(hq:q.P=g.P)(h:gs.map GrA.P=s.V.ps.take i):(gs++[q]).map GrA.P=s.V.ps.take (i+1):=by
 have e:s.V.ps[i]? =some g.P:=by show(s.gs.map GrA.P)[i]? =_;rw[List.getElem?_map,hg];rfl
 rw[List.map_append,h,List.take_add_one,e,Option.toList_some,List.map_cons,List.map_nil,hq]
theorem refShTwin{S0:Nat→Prop}(s:ShA)(w:World)(H:ShR S0 w s):
  Calls prog 77 #[.agg (shC s).toArray] w (Gv w (fun q:ShA=> .agg (shC q).toArray) (fun q=>shE q) (ShK s.V)):=by
 have P0:=H.pr;have hl:=P0.len;have hH:=H.hr;have hcp:=H.cap;refine J.enter 30 func77 rfl rfl ?_;refine run ?_;refine J.box rfl rfl rfl fun b1=>?_
 refine J.alloc rfl fun b2=>?_
 refine run ?_;refine J.joinX (A:=(Option Addr×Nat)×Nat) (fun u=>[(3, .pointer (some ⟨u.2,0,none⟩))]) [5,6,7,8,9,10,11] (fun u=>[.blk u.2 [.slice none 0 0, .slice u.1.1 s.hn u.1.2, .int .i64 s.ver] 25, .wown 29 .u8 32 u.1.1 s.hn u.1.2 s.hs, .blk b2 [.slice none 0 0, .slice none 0 0, .int .i64 0] 25, .blk b1 (shC s) 25]) (fun u=>True) ?_ (fun u j hu=>?_)
 ·refine J.regionW [.blk b1 (shC s) 25] mixed ?_;refine J.wnode [(1, .q),(2, .q),(4, .q),(5, .q)] [0,7] 4 #[false,true,true,false,true,true,false,false,false] (by kernel_rfl) ?_;refine run ?_;refine J.nil ?_;refine J.wbr ?_ ?_
  ·refine J.b0W .u8 rfl fun b3=>?_
   refine J.nil ?_;refine J.wnode [] [3,7] 3 #[true,true,true,false,true,true,false,false,false] (by kernel_rfl) ?_;refine run ?_;refine J.nil ?_;refine J.wbr ?_ ?_
   ·refine J.apW rfl rfl (RW.arg hH) fun a' c'=>?_
    rw[Nat.zero_add s.hn,List.nil_append s.hs];refine J.nil ?_;refine J.wfin [(6, .q),(7, .e),(8, .e)] (by kernel_rfl) ?_;refine run ?_;refine J.alloc rfl fun b5=>?_
    refine run ?_;refine run ?_;refine J.front (.wown 29 .u8 32 a' s.hn c' s.hs) ?_;refine J.front (.blk b5 [.slice none 0 0, .slice a' s.hn c', .int .i64 s.ver] 25) ?_;exact J.cut ((a',c'),b5) ⟨rfl,trivial⟩ (by kernel_rfl) trivial
   refine J.wbr ?_ ?_
   ·refine J.alloc rfl fun b5=>?_
    refine J.nil ?_;refine J.wfin [(3, .e),(6, .q),(8, .e)] (by kernel_rfl) ?_;refine run ?_;refine J.apW rfl rfl (RW.arg hH) fun a' c'=>?_
    rw[Nat.zero_add s.hn,List.nil_append s.hs];refine run ?_;refine run ?_;refine J.front (.wown 29 .u8 32 a' s.hn c' s.hs) ?_;refine J.front (.blk b5 [.slice none 0 0, .slice a' s.hn c', .int .i64 s.ver] 25) ?_;exact J.cut ((a',c'),b5) ⟨rfl,trivial⟩ (by kernel_rfl) trivial
   exact J.wbr0
  refine J.wbr ?_ ?_
  ·refine J.alloc rfl fun b5=>?_
   refine J.nil ?_;refine J.wfin [(0, .e),(3, .e),(6, .q),(8, .e)] (by kernel_rfl) ?_;refine run ?_;refine J.b0W .u8 rfl fun b3=>?_
   refine run ?_;refine J.apW rfl rfl (RW.arg hH) fun a' c'=>?_
   rw[Nat.zero_add s.hn,List.nil_append s.hs];refine run ?_;refine run ?_;refine J.front (.wown 29 .u8 32 a' s.hn c' s.hs) ?_;refine J.front (.blk b5 [.slice none 0 0, .slice a' s.hn c', .int .i64 s.ver] 25) ?_;exact J.cut ((a',c'),b5) ⟨rfl,trivial⟩ (by kernel_rfl) trivial
  exact J.wbr0
 obtain⟨⟨ha,hc⟩,b3⟩:=u;dsimp only;refine run ?_;refine J.noA ?_;refine J.nilG (fun g:GrA=>grC g) 2 57 grC_len ?_;refine J.loop (A:=TsA) (fun p=>[(4, .int .i64 (p.i:Nat))]) [12,13,14,15,16,17,18,19,20,21,22,23,24,25,26,27,28,29] (fun p=>[.gown (fun g:GrA=>grC g) 2 57 p.a p.i p.c p.gs, .all (p.gs.map grAll), .blk b3 [.slice p.a p.i p.c, .slice ha s.hn hc, .int .i64 s.ver] 25, .wown 29 .u8 32 ha s.hn hc s.hs, .blk b2 [.slice none 0 0, .slice none 0 0, .int .i64 0] 25, .blk b1 (shC s) 25]) (fun p=>p.i≤s.pn∧p.gs.map GrA.P=s.V.ps.take p.i∧∀x∈p.gs,GrK x) (fun p=>s.pn - p.i) ⟨0,none,0,[]⟩ (by kernel_rfl) ⟨Nat.zero_le _,rfl,fun z hz=>(by cases hz)⟩ (fun p j2 hI=>?_);obtain⟨hp,hps,hpk⟩:=hI;refine run ?_;refine J.ifd rfl (fun c1=>?_) (fun c1=>?_)
 ·obtain⟨g,hg⟩:=P0.ex (i:=(p.i:Nat)) (by omega);have hg':=hg;rw[Int.toNat_natCast]at hg';have G:=H.g hg';have hcp2:=G.cap;refine run ?_;refine J.regionX [(0, .q),(1, .q),(2, .q),(3, .q),(4, .q),(5, .q),(6, .q),(7, .e),(8, .e),(9, .g),(10, .q),(11, .g)] mixed (by kernel_rfl) ?_;refine run ?_;refine J.call rfl rfl (fun w' M=>refGTwin g w' (G.ext M.ext)) fun q hq=>?_
  dsimp only[grE,List.cons_append,List.nil_append];refine J.b1G (fun g:GrA=>grC g) q grC_len rfl rfl rfl fun bb=>?_
  refine J.apG rfl rfl RG.own' grC_one fun a' c'=>?_
  refine run ?_;refine J.triG q ?_;refine J.snocA (p.gs.map grAll) (grAll q) ?_;refine J.re (.all (p.gs.map grAll++[grAll q])) (.all ((p.gs++[q]).map grAll)) (fun _ _ h=>by rw[List.map_append];exact h) ?_;refine J.drop (E:=[.gown (fun g:GrA=>grC g) 2 57 a' (p.i+1) c' (p.gs++[q]), .all ((p.gs++[q]).map grAll), .blk b3 [.slice a' (p.i+1) c', .slice ha s.hn hc, .int .i64 s.ver] 25, .wown 29 .u8 32 ha s.hn hc s.hs, .blk b2 [.slice none 0 0, .slice none 0 0, .int .i64 0] 25, .blk b1 (shC s) 25]) sb ?_
  exact J.next ⟨p.i + 1, a', c', p.gs ++ [q]⟩ ⟨rfl, trivial⟩ (by kernel_rfl) ⟨by dsimp only; omega, gsTake hg' (GrP.P (P := g.P) hq) hps, fun y hy => by
   rcases List.mem_append.1 hy with h | h
   ·exact hpk y h
   rw [List.mem_singleton] at h
   subst h
   exact ⟨hq.ok G.opz, hq.cap⟩⟩ (by dsimp only; omega)
 obtain⟨pi,pa,pc,gs⟩:=p;dsimp only at hp hps hpk c1⊢;obtain rfl:pi=s.pn:=by omega
 refine run ?_;refine J.finG ⟨pa,s.pn,pc,gs,ha,s.hn,hc,s.hs,s.ver⟩ rfl ⟨?_,hpk⟩ sb;unfold ShA.V;dsimp only;rw[hps,List.take_of_length_le (by rw[List.length_map,hl];exact Nat.le_refl _)]
instance:Ents prog 109:=⟨.mk func109 (by kernel_rfl) rfl⟩
theorem idxID{S0:Nat→Prop}(a:Option Addr)(n c:Nat)(ids x:List Int)(w:World)(D0:WRow .u8 32 S0 w a n ids)(hx:Arr .u8 32 x)(hn:n≤100000):
  Calls prog 109 #[.slice a n c, .agg (ints .u8 x).toArray] w (Gv w (fun r:Int=> .int .i64 r) (fun _=>[]) fun r=>0≤r↔S.inS n ids x):=by
 have hl:=D0.len;refine J.enter 17 func109 rfl rfl ?_;refine run ?_;refine J.box rfl rfl rfl fun b1=>?_
 refine run ?_;refine J.loopS (A:=Int) (fun p=>[(8, .int .i64 p)]) [4,5,9,10,11,12,13,14,15,16,17,18] (fun p=>(0≤p∧p≤n)∧∀i,i<p.toNat→S.idAt ids i≠x) (fun p=>n - p.toNat) 0 (by kernel_rfl) ⟨by omega,fun i hi=>by omega⟩ (fun p j hI=>?_);obtain⟨h1,hI⟩:=hI;refine run ?_;refine J.ifd rfl (fun c1=>?_) (fun c1=>?_)
 ·obtain⟨q,hq⟩:=ex (elt 32 ids p.toNat);have hqa:Arr .u8 32 q:=hq▸D0.elt_arr (by omega);refine run ?_;refine J.regionX [(0, .q),(1, .q),(2, .q),(3, .q),(4, .q),(5, .q)] mixed (by kernel_rfl) ?_;refine run ?_;refine J.ifd rfl (fun c2=>?_) (fun c2=>?_)
  ·refine run ?_;exact J.finG p rfl ⟨fun _=>⟨p.toNat,by omega,by rw[c2];exact hq.symm⟩,fun _=>by omega⟩ (List.nil_sublist _)
  refine run ?_;refine J.nextS (p+1) ⟨rfl,trivial⟩ (by kernel_rfl) ⟨by omega,fun i hi=>?_⟩ (by omega);rcases Nat.lt_or_ge i p.toNat with e|e
  ·exact hI i e
  obtain rfl:i=p.toNat:=by omega
  exact fun h=>c2 (h.symm.trans hq.symm)
 refine run ?_;exact J.finG (-1) rfl ⟨fun h=>by omega,fun⟨i,hi,e⟩=>absurd e (hI i (by omega))⟩ (List.nil_sublist _)
theorem hasID{S0:Nat→Prop}(a:Option Addr)(n c:Nat)(ids x:List Int)(w:World)(D0:WRow .u8 32 S0 w a n ids)(hx:Arr .u8 32 x)(hn:n≤100000):
  Calls prog 65 #[.slice a n c, .agg (ints .u8 x).toArray] w (Ret w fun v _=>v= .bool (decide (S.inS n ids x))):=by
 refine J.enter 7 func65 rfl rfl ?_;refine run ?_;refine J.box rfl rfl rfl fun b1=>?_
 refine run ?_;refine J.call rfl rfl (fun w' M=>idxID a n c ids x w' (D0.ext M.ext) hx hn) fun r hr=>?_
 refine run ?_;exact J.fin (congrArg _ (decide_eq_decide.2 hr))
def shW(s:ShA):Ent:= .all (shE s)
theorem ShR.ownB{S0:Nat→Prop}{w0:World}{L:List Ent}{s:ShA}{F:Ent→List Ent}[R:RE L (shW s) F](hk:∀g∈s.gs,GrK g)(hm:∀g∈s.gs,g.m≤70∧g.ops.length≤70)(hz:s.gs.length≤6∧s.hn≤100)(w:World)(M:Mem S0 w0 L w):ShR (fun _=>True) w s:=by
 obtain⟨S',_,h⟩:=M.get (R.h (shW s)).same;obtain⟨A,T,_,_,_,a,B,T2,_,_,_,c,C,T3,_,_,_,b,_⟩:=all_e h;have a:=(gown_e a).1;have b':=wown_row b;have hb:=(wown_len b).2;refine⟨a.row.weaken fun _ _ _=>trivial,fun g hg=>?_,b'.weaken fun _ _ _=>trivial,a.capn,hb,?_,hz.2⟩
 ·obtain⟨S',_,k⟩:=sep_mem (List.mem_map.2 ⟨g,hg,rfl⟩) (all_e c);exact grAll_r k (hk g hg) (hm g hg)
 have:=a.len;omega
end W
namespace S
open G
structure StV where
 (cap:Int)(sh:ShV)(n:Nat)(os:List Int)
def PG.opOf(g:PG)(x:List Int):OpV:=g.ops.getD (ixS g.m g.ids x) OpV.zero
def plcS(g:PG)(os:List Int)(i:Nat):Prop:=inS g.m g.ids (idAt os i)∧¬inS i os (idAt os i)∧allI i os (g.opOf (idAt os i)).n (g.opOf (idAt os i)).ids
instance(g:PG)(os:List Int)(i:Nat):Decidable (plcS g os i):=by unfold plcS;infer_instance
def okT(v:StV):Prop:=((1≤v.cap∧v.cap≤40)∧okR v.sh∧v.sh.ver≤v.cap∧(v.n:Int)=v.sh.ver)∧∀i,i<v.n→plcS (whole v.sh.ps) v.os i
open Classical in
noncomputable def chkT(v:StV):Int:=if okT v then 0 else 8
theorem chkT_0{v:StV}(h:okT v):chkT v=0:=if_pos h
theorem chkT_8{v:StV}(h:¬okT v):chkT v=8:=if_neg h
theorem chkT_iff{v:StV}:chkT v=0↔okT v:=⟨fun h=>Classical.byContradiction fun k=>by rw[chkT_8 k]at h;exact absurd h (by decide),chkT_0⟩
theorem chkT_ne{v:StV}(h:chkT v≠0):¬okT v∧chkT v=8:=⟨fun k=>h (chkT_0 k),chkT_8 fun k=>h (chkT_0 k)⟩
open Classical in
noncomputable def grT(v:StV):PG:=if okT v then whole v.sh.ps else PG.nil
theorem grT_0{v:StV}(h:okT v):grT v=whole v.sh.ps:=if_pos h
theorem grT_8{v:StV}(h:¬okT v):grT v=PG.nil:=if_neg h
def eqT(a b:StV):Prop:=a.cap=b.cap∧eqSh a.sh b.sh∧a.os=b.os
instance(a b:StV):Decidable (eqT a b):=by unfold eqT;infer_instance
theorem eqT_same{a b:StV}(h:a=b):eqT a b:=by subst h;exact⟨rfl,⟨rfl,rfl,rfl,fun i hi=>⟨rfl,rfl⟩⟩,rfl⟩
open Classical in
/-! ### what is valid stays valid -/
theorem plc_at{n:Nat}{os:List Int}{i:Nat}(hi:i<n):atS n os (idAt os i)<(i:Int)↔inS i os (idAt os i):=by
 have hin:inS n os (idAt os i):=⟨i,hi,rfl⟩
 have e:atS n os (idAt os i)=(ixS n os (idAt os i):Nat):=if_pos hin;obtain⟨h1,h2⟩:=ix_in hin;rw[e];constructor
 ·exact fun h=>⟨ixS n os (idAt os i),by omega,h2⟩
 ·rintro⟨j,hj,ej⟩;rcases Nat.lt_or_ge (ixS n os (idAt os i)) i with c|c
  ·omega
  ·have:∃k,k≤j∧idAt os k=idAt os i∧∀l,l<k→idAt os l≠idAt os i:=by
    clear h1 h2 e c
    induction j using Nat.strongRecOn with
    |_ j ih=>
     by_cases hex:∃l,l<j∧idAt os l=idAt os i
     ·obtain⟨l,hl,el⟩:=hex;obtain⟨k,hk,r⟩:=ih l hl (by omega) el;exact⟨k,by omega,r⟩
     ·exact⟨j,Nat.le_refl _,ej,fun l hl el=>hex ⟨l,hl,el⟩⟩
   obtain⟨k,hk,ek,hf⟩:=this;have:=ix_first (m:=n) (by omega) ek hf;omega
theorem allI_pre{os ps:List Int}{p n k:Nat}(hk:p≤k):allI p os n ps↔allI p (os.take (32*k)) n ps:=by
 have e:∀i,i<p→idAt (os.take (32*k)) i=idAt os i:=fun i hi=>by
  unfold idAt;rw[List.drop_take,List.take_take,Nat.min_eq_left (by omega)]
 exact⟨fun h j hj=>let ⟨i,hi,e1⟩:=h j hj;⟨i,hi,by rw[e i hi,e1]⟩,fun h j hj=>let ⟨i,hi,e1⟩:=h j hj;⟨i,hi,by rw[←e i hi,e1]⟩⟩
theorem inS_take{os x:List Int}{p k:Nat}(hk:p≤k):inS p os x↔inS p (os.take (32*k)) x:=by
 have e:∀i,i<p→idAt (os.take (32*k)) i=idAt os i:=fun i hi=>by
  unfold idAt;rw[List.drop_take,List.take_take,Nat.min_eq_left (by omega)]
 exact⟨fun⟨i,hi,e1⟩=>⟨i,hi,by rw[e i hi,e1]⟩,fun⟨i,hi,e1⟩=>⟨i,hi,by rw[←e i hi,e1]⟩⟩
theorem op_has{g:PG}{x:List Int}(h:inS g.m g.ids x):g.has x (g.opOf x):=⟨_,(ix_in h).1,(ix_in h).2,rfl⟩
structure StG(v:StV):Prop where
 ml:∀p∈v.sh.ps,p.ids.length=32*p.m
 os:v.os.length=32*v.n
structure StF(v:StV):Prop where
 fine:(whole v.sh.ps).fine
 m:(whole v.sh.ps).m=v.n
 cap:(1≤v.cap∧v.cap≤40)∧(v.n:Int)≤v.cap
 same:∀y,inS v.n v.os y↔inS (whole v.sh.ps).m (whole v.sh.ps).ids y
 ps:1≤v.sh.ps.length∧v.sh.ps.length≤4
 hs:v.sh.hs=hdI (whole v.sh.ps)
theorem ok_fineT{v:StV}(hg:StG v)(h:okT v):StF v:=by
 obtain⟨⟨h1,h2,h3,h4⟩,h5⟩:=h;obtain⟨p1,p2,p3,p4,p5⟩:=(ok_iff hg.ml).1 h2;have hw:=whole_good hg.ml;have hf:=(chkP_fine hw.1).1 p3;have hm:(whole v.sh.ps).m=v.n:=by omega
 refine⟨hf,hm,⟨h1,by omega⟩,fun y=>⟨fun⟨i,hi,e⟩=>e▸(h5 i hi).1,fun hy=>?_⟩,p1,p5⟩;have ho:OrdP (whole v.sh.ps) ((List.range v.n).map (idAt v.os)):=by
  refine⟨?_,fun x hx=>?_,by simp[hm],fun i hi o hh j hj=>?_⟩
  ·rw[List.nodup_iff_pairwise_ne,List.pairwise_map];refine List.Pairwise.imp_of_mem (R:=fun a b=>a<b) (fun {a b} ha hb hab e=>?_) List.pairwise_lt_range;exact(h5 b (List.mem_range.1 hb)).2.1 ⟨a,hab,e⟩
  ·obtain⟨i,hi,rfl⟩:=List.mem_map.1 hx;exact(h5 i (List.mem_range.1 hi)).1
  ·have hi':i<v.n:=by simpa using hi
   have e:((List.range v.n).map (idAt v.os)).getD i []=idAt v.os i:=by
    rw[getD_map_id (by simpa using hi'),List.getD_eq_getElem?_getD,List.getElem?_range hi'];rfl
   rw[e]at hh;have e2:o=(whole v.sh.ps).opOf (idAt v.os i):=has_fun hf.rising hh (op_has (h5 i hi').1);subst e2;obtain⟨k,hk,ek⟩:=(h5 i hi').2.2 j hj;rw[←ek,←List.map_take,List.take_range];exact List.mem_map.2 ⟨k,List.mem_range.2 (by omega),rfl⟩
 obtain⟨i,hi,e⟩:=List.mem_map.1 (ord_all ho hy);exact⟨i,List.mem_range.1 hi,e⟩
end S
namespace W
open Go.RowKit G
set_option maxRecDepth 20000
set_option maxHeartbeats 8000000
attribute [local irreducible] RS RX RY Code.wp bodyPost J Ent.blk Ent.irow Ent.iown Ent.wrow Ent.wown Ent.gown Ent.all Ent.emp
instance:Fld prog 27 1 1:=⟨_,_,3,underlying27,rfl,by kernel_rfl,by decide,rfl⟩
instance:Agg prog 25 3:=⟨_,underlying25,rfl,by kernel_rfl⟩
instance:Ents prog 62:=⟨.mk func62 (by kernel_rfl) rfl⟩
instance:Fld prog 27 2 4:=⟨_,_,1,underlying27,rfl,by kernel_rfl,by decide,rfl⟩
instance:Sca prog 23:=⟨_,underlying23,rfl⟩
instance:Und prog 23 (.slice 29):=⟨underlying23⟩
instance:Inf prog 27 5 88 [.int .i64 0, .slice none 0 0, .slice none 0 0, .int .i64 0, .slice none 0 0]:=⟨TI.of (v:= .agg #[.int .i64 0, .slice none 0 0, .slice none 0 0, .int .i64 0, .slice none 0 0]) (by kernel_rfl) rfl⟩
instance:Fld prog 27 0 0:=⟨_,_,1,underlying27,rfl,by kernel_rfl,by decide,rfl⟩
instance:Sca prog 3:=⟨_,underlying3,rfl⟩
instance:Ents prog 77:=⟨.mk func77 (by kernel_rfl) rfl⟩
instance:Inf prog 29 32 32 (ints .u8 (List.replicate 32 0)):=⟨TI.of (v:= .agg ((ints .u8 (List.replicate 32 0))).toArray) (by kernel_rfl) rfl⟩
instance:Siz prog 29 32:=⟨by kernel_rfl⟩
instance:SInf prog 27 [(0,1),(1,3),(4,1)]:=⟨_,underlying27,by kernel_rfl,by kernel_rfl⟩
instance:Siz prog 27 5:=⟨by kernel_rfl⟩
instance:Agg prog 27 5:=⟨_,underlying27,rfl,by kernel_rfl⟩
instance:Ents prog 74:=⟨.mk func74 (by kernel_rfl) rfl⟩
instance:Ents prog 30:=⟨.mk func30 (by kernel_rfl) rfl⟩
instance:Ents prog 75:=⟨.mk func75 (by kernel_rfl) rfl⟩
instance:Fld prog 25 2 2:=⟨_,_,1,underlying25,rfl,by kernel_rfl,by decide,rfl⟩
instance:Ents prog 72:=⟨.mk func72 (by kernel_rfl) rfl⟩
instance:Inf prog 57 2 48 [.slice none 0 0, .slice none 0 0]:=⟨TI.of (v:= .agg #[.slice none 0 0, .slice none 0 0]) (by kernel_rfl) rfl⟩
instance:Siz prog 57 2:=⟨by kernel_rfl⟩
instance:Fld prog 57 0 0:=⟨_,_,1,underlying57,rfl,by kernel_rfl,by decide,rfl⟩
instance:Agg prog 29 32:=⟨_,underlying29,rfl,by kernel_rfl⟩
instance:Und prog 29 (.array 32 5):=⟨underlying29⟩
instance:Ents prog 42:=⟨.mk func42 (by kernel_rfl) rfl⟩
instance:Fld prog 57 1 1:=⟨_,_,1,underlying57,rfl,by kernel_rfl,by decide,rfl⟩
instance:Sca prog 55:=⟨_,underlying55,rfl⟩
instance:Und prog 55 (.slice 39):=⟨underlying55⟩
instance:Siz prog 39 11:=⟨by kernel_rfl⟩
instance:Fld prog 39 1 1:=⟨_,_,1,underlying39,rfl,by kernel_rfl,by decide,rfl⟩
instance:Ents prog 43:=⟨.mk func43 (by kernel_rfl) rfl⟩
instance:Ents prog 29:=⟨.mk func29 (by kernel_rfl) rfl⟩
instance:SInf prog 57 [(0,1),(1,1)]:=⟨_,underlying57,by kernel_rfl,by kernel_rfl⟩
instance:Agg prog 57 2:=⟨_,underlying57,rfl,by kernel_rfl⟩
structure StA where
 (cap:Int)(sh:ShA)(oa:Option Addr)(on oc:Nat)(os:List Int)
@[reducible] def srC(s:StA):List Value:=[.int .i64 s.cap, .slice s.sh.pa s.sh.pn s.sh.pc, .slice s.sh.ha s.sh.hn s.sh.hc, .int .i64 s.sh.ver, .slice s.oa s.on s.oc]
@[reducible] def StA.V(s:StA):S.StV:=⟨s.cap,s.sh.V,s.on,s.os⟩
structure StR(S0:Nat→Prop)(w:World)(s:StA):Prop where
 sh:ShR S0 w s.sh
 os:WRow .u8 32 S0 w s.oa s.on s.os
 cap:s.on≤s.oc∧s.on≤70
 L:ShL s.sh
theorem StR.ext{S0:Nat→Prop}{w w':World}{s:StA}(h:StR S0 w s)(x:Ext w w'):StR S0 w' s:=⟨h.sh.ext x,h.os.ext x,h.cap,h.L⟩
theorem StR.g{S0:Nat→Prop}{w:World}{s:StA}(h:StR S0 w s):S.StG s.V:=⟨h.sh.ml,h.os.len⟩
structure StI(S0:Nat→Prop)(w:World)(s:StA):Prop where
 sh:ShI S0 w s.sh
 os:WRow .u8 32 S0 w s.oa s.on s.os
 cap:s.on≤s.oc
theorem StI.ext{S0:Nat→Prop}{w w':World}{s:StA}(h:StI S0 w s)(x:Ext w w'):StI S0 w' s:=⟨h.sh.ext x,h.os.ext x,h.cap⟩
def StSm(s:StA):Prop:=ShSm s.sh∧s.on≤70
theorem StI.st{S0:Nat→Prop}{w:World}{s:StA}(h:StI S0 w s)(k:StSm s):StR S0 w s:=let ⟨a,b⟩:=h.sh.sh k.1;⟨a,h.os,⟨h.cap,k.2⟩,b⟩
@[reducible] def stE(s:StA):List Ent:=[shW s.sh, .wown 29 .u8 32 s.oa s.on s.oc s.os]
structure StK(v:S.StV)(s:StA):Prop where
 V:s.V=v
 k:∀g∈s.sh.gs,GrK g
structure StZ(v:S.StV):Prop where
 m:∀p∈v.sh.ps,p.m≤70∧p.ops.length≤70
 z:v.sh.ps.length≤6∧v.sh.hn≤100
 l:v.sh.ps.length≤4→S.allN v.sh.ps≤64
 n:v.n≤70
theorem StR.z{S0:Nat→Prop}{w:World}{s:StA}(h:StR S0 w s):StZ s.V:=by
 have hl:=h.sh.pr.len;have hll:s.sh.V.ps.length=s.sh.pn:=by rw[List.length_map,hl]
 have hcp:=h.sh.cap;refine⟨fun p hp=>?_,⟨?_,hcp.2.2.2⟩,fun k=>h.L (by have k':s.sh.V.ps.length≤4:=k;omega),h.cap.2⟩
 ·obtain⟨g,hg,rfl⟩:=List.mem_map.1 hp;have G:=h.sh.gi g hg;have h1:=G.cap;have h2:=G.len;exact⟨h1.2.2.1,by show g.ops.length≤70;omega⟩
 show s.sh.V.ps.length≤6;omega
theorem StK.own{S0:Nat→Prop}{w0:World}{L:List Ent}{s:StA}{v:S.StV}{F1:Ent→List Ent}{F2:Option Addr→Nat→Nat→List Int→List Ent}(h:StK v s)(z:StZ v)[R1:RE L (shW s.sh) F1][R2:RWO L s.oa 29 .u8 32 s.on s.oc s.os F2](w:World)(M:Mem S0 w0 L w):StR (fun _=>True) w s:=by
 obtain rfl:=h.V;obtain⟨B,_,b⟩:=M.get (R2.h s.oa s.on s.oc s.os).same;have b':=wown_row b;have hb:=(wown_len b).2;have hll:s.sh.V.ps.length=s.sh.gs.length:=List.length_map _;have hm:∀g∈s.sh.gs,g.m≤70∧g.ops.length≤70:=fun g hg=>z.m g.P (List.mem_map.2 ⟨g,hg,rfl⟩);have k:=ShR.ownB (R:=R1) h.k hm ⟨by have:=z.z.1;have k':s.sh.V.ps.length≤6:=this;omega,z.z.2⟩ w M;exact⟨k,b'.weaken fun _ _ _=>trivial,⟨hb,z.n⟩,fun hn=>z.l (by have:=k.pr.len;show s.sh.V.ps.length≤4;omega)⟩
theorem shOne{P:Program}{f:FuncId}{av:Array Value}{w w1:World}{v:ShA→Value}{p:ShA→Prop}(h:Calls P f av w1 (Gv w v (fun q=>shE q) p)):Calls P f av w1 (Gv w v (fun q=>[shW q]) p):=h.mono fun _ _ ⟨r,h1,h2,h3,h4⟩=>⟨r,h1,h2,h3,sep1 (all_i h4)⟩
theorem refStGreat{S0:Nat→Prop}(s:StA)(w:World)(H:StI S0 w s):
  Calls prog 15 #[.agg (srC s).toArray] w (Gv w (fun q:Bool=> .bool q) (fun _=>[]) fun q=>q=false→StSm s):=by
 refine J.enter 11 func15 rfl rfl ?_;refine run ?_;refine J.box rfl rfl rfl fun b1=>?_
 refine run ?_;refine J.call rfl rfl (fun w' M=>refShGreat s.sh w' (H.sh.ext M.ext)) fun q hq=>?_
 refine run ?_;refine J.sp rfl rfl rfl (fun c1=>?_) (fun c1=>?_)
 ·refine run ?_;exact J.finG true rfl (fun h=>by cases h) (List.nil_sublist _)
 refine run ?_;refine J.finG _ rfl (fun h=>⟨hq c1,?_⟩) (List.nil_sublist _);have h2:=of_decide_eq_false h;omega
theorem refStTwin{S0:Nat→Prop}(s:StA)(w:World)(H:StR S0 w s):
  Calls prog 33 #[.agg (srC s).toArray] w (Gv w (fun q:StA=> .agg (srC q).toArray) (fun q=>stE q) (StK s.V)):=by
 have hO:=H.os;have hcp:=H.cap;refine J.enter 12 func33 rfl rfl ?_;refine run ?_;refine J.box rfl rfl rfl fun b1=>?_
 refine J.alloc rfl fun b2=>?_
 refine run ?_;refine J.regionW [.blk b1 (srC s) 27] mixed ?_;refine J.wnode [(0, .q),(1, .q),(2, .q),(3, .q),(6, .q),(7, .q)] [4,5] 4 #[true,true,true,true,false,false,true,true,false,false,false] (by kernel_rfl) ?_;refine run ?_;refine J.nil ?_;refine J.wbr ?_ ?_
 ·refine J.call rfl rfl (fun w' M=>shOne (refShTwin s.sh w' (H.sh.ext M.ext))) fun q hq=>?_
  refine J.nil ?_;refine J.wfin [(5, .e),(8, .e),(9, .q),(10, .e)] (by kernel_rfl) ?_;refine run ?_;refine J.b0W .u8 rfl fun b3=>?_
  refine run ?_;refine J.apW rfl rfl (RW.arg hO) fun a' c'=>?_
  rw[Nat.zero_add s.on,List.nil_append s.os];refine run ?_;refine run ?_;refine run ?_;refine J.front (.wown 29 .u8 32 a' s.on c' s.os) ?_;refine J.front (shW q) ?_;exact J.finG ⟨s.cap,q,a',s.on,c',s.os⟩ rfl ⟨by unfold StA.V;dsimp only;rw[hq.V],hq.k⟩ sb
 refine J.wbr ?_ ?_
 ·refine J.b0W .u8 rfl fun b3=>?_
  refine J.nil ?_;refine J.wfin [(4, .e),(8, .e),(9, .q),(10, .e)] (by kernel_rfl) ?_;refine run ?_;refine J.call rfl rfl (fun w' M=>shOne (refShTwin s.sh w' (H.sh.ext M.ext))) fun q hq=>?_
  refine run ?_;refine J.apW rfl rfl (RW.arg hO) fun a' c'=>?_
  rw[Nat.zero_add s.on,List.nil_append s.os];refine run ?_;refine run ?_;refine run ?_;refine J.front (.wown 29 .u8 32 a' s.on c' s.os) ?_;refine J.front (shW q) ?_;exact J.finG ⟨s.cap,q,a',s.on,c',s.os⟩ rfl ⟨by unfold StA.V;dsimp only;rw[hq.V],hq.k⟩ sb
 exact J.wbr0
theorem refStSame{S0 S1:Nat→Prop}(a b:StA)(w:World)(H:StR S0 w a)(K:StR S1 w b):
  Calls prog 27 #[.agg (srC a).toArray, .agg (srC b).toArray] w (Ret w fun v _=>v= .bool (decide (S.eqT a.V b.V))):=by
 have h1:=H.cap;have h2:=K.cap;refine J.enter 22 func27 rfl rfl ?_;refine run ?_;refine J.box rfl rfl rfl fun b1=>?_
 refine run ?_;refine J.box rfl rfl rfl fun b2=>?_
 refine run ?_;refine J.spe rfl rfl rfl (fun c1=>?_) (fun c1=>?_)
 ·refine run ?_;refine J.callp rfl rfl (fun w' M=>refShSame a.sh b.sh w' (H.sh.ext M.ext) (K.sh.ext M.ext)) ?_;refine run ?_;refine J.spd rfl rfl rfl (fun c2=>?_) (fun c2=>?_)
  ·refine run ?_;refine J.callp rfl rfl (fun w' M=>sameIDs _ _ _ _ _ _ _ _ _ (H.os.ext M.ext) (K.os.ext M.ext) (by omega) (by omega)) ?_;refine run ?_;exact J.fin (congrArg _ (decide_eq_decide.2 ⟨fun h=>⟨c1,c2,h⟩,fun h=>h.2.2⟩))
  refine run ?_;exact J.fin (congrArg _ (decide_eq_false fun h=>c2 h.2.1).symm)
 refine run ?_;exact J.fin (congrArg _ (decide_eq_false fun h=>c1 h.1).symm)
theorem refStCheck{S0:Nat→Prop}(s:StA)(w:World)(H:StR S0 w s):
  Calls prog 29 #[.agg (srC s).toArray] w (Ret w fun v _=>v= .int .i64 (S.chkT s.V)):=by
 have hcp:=H.cap;have hO:=H.os;have hwg:=S.whole_good (ps:=s.sh.V.ps) H.sh.ml;refine J.enter 82 func29 rfl rfl ?_;refine run ?_;refine J.box rfl rfl rfl fun b1=>?_
 refine run ?_;refine J.spd rfl rfl rfl (fun c1=>?_) (fun c1=>?_)
 ·refine run ?_;exact J.fin (congrArg _ (S.chkT_8 fun h=>by have h1:1≤s.cap:=h.1.1.1;omega).symm)
 refine run ?_;refine J.spd rfl rfl rfl (fun c2=>?_) (fun c2=>?_)
 ·refine run ?_;exact J.fin (congrArg _ (S.chkT_8 fun h=>by have h1:s.cap≤40:=h.1.1.2;omega).symm)
 refine run ?_;refine J.callp rfl rfl (fun w' M=>refShCheck s.sh w' (H.sh.ext M.ext) H.L) ?_;refine run ?_;refine J.spn rfl rfl rfl (fun c3=>?_) (fun c3=>?_)
 ·refine run ?_;exact J.fin (congrArg _ (S.chkT_8 fun h=>c3 (S.chkH_0 h.1.2.1)).symm)
 have hok:=S.chkH_iff.1 c3;obtain⟨n1,n4⟩:=ok_len H.sh hok;refine run ?_;refine J.spd rfl rfl rfl (fun c4=>?_) (fun c4=>?_)
 ·refine run ?_;exact J.fin (congrArg _ (S.chkT_8 fun h=>by have h1:s.sh.ver≤s.cap:=h.1.2.2.1;omega).symm)
 refine run ?_;refine J.ifn rfl (fun c5=>?_) (fun c5=>?_)
 ·refine run ?_;exact J.fin (congrArg _ (S.chkT_8 fun h=>c5 h.1.2.2.2).symm)
 have hle:=H.sh.le H.L n4;have hfst:(1≤s.V.cap∧s.V.cap≤40)∧S.okR s.V.sh∧s.V.sh.ver≤s.V.cap∧(s.V.n:Int)=s.V.sh.ver:=⟨⟨by show 1≤s.cap;omega,by show s.cap≤40;omega⟩,hok,by show s.sh.ver≤s.cap;omega,c5⟩
 refine run ?_;refine J.call rfl rfl (fun w' M=>refWhole s.sh w' (H.sh.ext M.ext) H.L n4) fun q hq=>?_
 dsimp only[grE,List.cons_append,List.nil_append];have hqs:q.m≤70∧q.n≤70:=⟨by rw[hq.m];omega,by rw[hq.n,hwg.2];omega⟩
 have hqok:=hq.ok (refWholeOk H.sh);have hqn:q.n=q.m:=by rw[hq.n,hwg.2,hq.m]
 have hqi:=hq.ids;have hqm:=hq.m;have hqo:=hq.ops;refine run ?_;refine J.alloc rfl fun b3=>?_
 refine run ?_;refine J.loopS (A:=Nat) (fun p=>[(4, .int .i64 (p:Nat))]) [5,40,41,42,43,44,45,46,47,48,49,50,51,52,53,54,55,56,57,58,59,60,61,62,63,64,65,66,67,68,69,70,71,72,73,74,75,76,77,78,79,80,81,82] (fun p=>p≤s.on∧∀i,i<p→S.plcS (S.whole s.sh.V.ps) s.os i) (fun p=>s.on - p) 0 (by kernel_rfl) ⟨Nat.zero_le _,fun i hi=>by omega⟩ (fun p j hI=>?_);obtain⟨hp,hI⟩:=hI;refine run ?_;refine J.ifd rfl (fun d1=>?_) (fun d1=>?_)
 ·have hpl:p<s.on:=by omega
  obtain⟨y,hy⟩:=ex (elt 32 s.os ((p:Nat):Int).toNat);have hy':S.idAt s.os p=y:=by rw[hy,Int.toNat_natCast];rfl
  have hyA:Arr .u8 32 y:=hy▸hO.elt_arr (by omega);have no:∀ {e:Prop},(S.plcS (S.whole s.sh.V.ps) s.os p→e)→¬e→¬S.okT s.V:=fun h1 h2 h=>h2 (h1 (h.2 p hpl));have hplc:S.plcS (S.whole s.sh.V.ps) s.os p↔S.inS q.m q.ids y∧¬S.inS p s.os y∧S.allI p s.os ((S.whole s.sh.V.ps).opOf y).n ((S.whole s.sh.V.ps).opOf y).ids:=by
   unfold S.plcS;rw[hy',hqi,hqm]
  refine run ?_;refine J.regionX [(0, .q),(1, .q),(2, .q),(3, .q),(4, .q),(5, .q),(6, .q),(7, .e),(8, .q)] mixed (by kernel_rfl) ?_;refine run ?_;refine J.callp rfl rfl (fun w' M=>(RW.own' (a:=q.ia) w' M).elim fun _ k0=>refAt _ _ _ _ _ w' k0 hyA (by omega)) ?_;refine run ?_;refine J.regionX [(0, .q),(1, .q),(2, .q),(3, .q),(4, .q),(5, .q),(6, .q),(7, .q),(8, .q),(9, .q),(11, .q),(10, .e),(12, .q),(13, .q),(14, .q),(15, .q),(16, .q),(17, .q),(18, .q),(19, .q),(20, .q),(21, .q),(22, .q),(23, .q),(24, .q),(25, .e),(26, .q),(27, .q)] mixed (by kernel_rfl) ?_;refine run ?_;refine J.spd rfl rfl rfl (fun d2=>?_) (fun d2=>?_)
  ·refine run ?_;exact J.fin (congrArg _ (S.chkT_8 (no (fun h=>(hplc.1 h).1) (S.at_neg.1 d2))).symm)
  have hat:=S.at_val (show 0≤S.atS q.m q.ids y by omega);have hin:S.inS q.m q.ids y:=Classical.not_not.1 fun h=>d2 (S.at_neg.2 h);have hix:=(S.ix_in hin).1;refine run ?_;refine J.callp rfl rfl (fun w' M=>refAt _ _ _ _ _ w' (hO.ext M.ext) hyA (by omega)) ?_;refine run ?_;have hpa:=S.plc_at (os:=s.os) hpl;rw[hy']at hpa;refine J.spd rfl rfl rfl (fun d3=>?_) (fun d3=>?_)
  ·refine run ?_;exact J.fin (congrArg _ (S.chkT_8 (no (fun h=>(hplc.1 h).2.1) (not_not_intro (hpa.1 d3)))).symm)
  rw[hat];obtain⟨z,hz⟩:∃z,q.zs[((S.ixS q.m q.ids y:Nat):Int).toNat]? =some z:=⟨q.zs[S.ixS q.m q.ids y]'(by have h:=congrArg List.length hqo;unfold GrA.ops at h;rw[List.length_map,hwg.2,←hqm]at h;omega),by rw[Int.toNat_natCast];exact List.getElem?_eq_getElem _⟩
  have hz':=hz;rw[Int.toNat_natCast]at hz';have hzo:z.o=(S.whole s.sh.V.ps).opOf y:=by
   have e:=GrA.opAt hz';rw[←e,hqo,hqi,hqm];rfl
  have hzn:z.o.n≤40:=(hqok z (List.mem_of_getElem? hz')).n;refine run ?_;refine J.callp rfl rfl (fun w' M=>refAll _ _ _ _ _ _ _ _ w' (wTk (hO.ext M.ext) p s.oc (by omega) (by omega)) ((GrR.own hqok hq.cap hqs w' M).op hz').row (by omega) (by omega)) ?_;refine run ?_;refine J.ifnot rfl (fun d4=>?_) (fun d4=>?_)
  ·refine run ?_
   exact J.fin (congrArg _ (S.chkT_8 (no (fun h => (hplc.1 h).2.2) (by
    have h4 := of_decide_eq_false d4
    rw [hzo] at h4
    exact fun k => h4 ((S.allI_pre (Nat.le_refl _)).1 k)))).symm)
  refine run ?_;refine J.nextS (p+1) ⟨rfl,trivial⟩ (by kernel_rfl) ⟨by omega,fun i hi=>?_⟩ (by omega);rcases Nat.lt_or_ge i p with c|c
  ·exact hI i c
  obtain rfl:i=p:=by omega
  have h4:=of_decide_eq_true d4;rw[hzo]at h4;exact hplc.2 ⟨hin,fun h=>d3 (hpa.2 h),(S.allI_pre (Nat.le_refl _)).2 h4⟩
 refine run ?_;exact J.fin (congrArg _ (S.chkT_0 ⟨hfst,fun i hi=>hI i (by have hi':i<s.on:=hi;omega)⟩).symm)
theorem refStGraph{S0:Nat→Prop}(s:StA)(w:World)(H:StR S0 w s):
  Calls prog 24 #[.agg (srC s).toArray] w (Gv w (fun q:GrA=> .tuple #[.agg (grC q).toArray, .int .i64 (S.chkT s.V)]) (grE 29 39) (GrP (S.grT s.V).m (S.grT s.V).ids (S.grT s.V).ops)):=by
 refine J.enter 10 func24 rfl rfl ?_;refine run ?_;refine J.box rfl rfl rfl fun b1=>?_
 refine J.alloc rfl fun b2=>?_
 refine run ?_;refine J.callp rfl rfl (fun w' M=>refStCheck s w' (H.ext M.ext)) ?_;refine run ?_;refine J.ifn rfl (fun c1=>?_) (fun c1=>?_)
 ·obtain⟨k1,k2⟩:=S.chkT_ne c1;rw[k2,S.grT_8 k1];refine run ?_;refine J.nilGr 29 39 ?_;exact J.finG GrA.nil rfl GrP.nil sb
 have hok:=S.chkT_iff.1 c1;obtain⟨n1,n4⟩:=ok_len H.sh hok.1.2.1;rw[c1,S.grT_0 hok];refine run ?_;refine J.call rfl rfl (fun w' M=>refWhole s.sh w' (H.sh.ext M.ext) H.L n4) fun q hq=>?_
 dsimp only[grE,List.cons_append,List.nil_append];refine run ?_;exact J.finG q rfl hq sb
end W
namespace L
open Go Go.Proofs.YtaapnlnileblaaaGreatDoor G W
open Go.ChangeShapes Go.WideShapes Go.ChangeAt Go.RowKit
set_option maxRecDepth 100000
theorem z_store:prog.cellsOf 27=5:=by kernel_rfl
section
variable{H:Type}{enc:TypeId×Value→H}{w:World}{base:Nat}{sp:Nat→Bool}{held:Bool}{fuel:Nat}{cs:List Value}{x:DataW H×List MemPlace}
theorem store_in(h:DataW.trod enc prog w base sp held fuel 27 cs=some x):∃s:StA,cs=srC s∧StI (fun _=>True) w s:=by
  have hl:=(fields_in underlying27 h).1;rw[z_store]at hl
  match cs,hl,h with
  |[c0,c1,c2,c3,c4],_,h=>
    obtain⟨_,_,f0⟩:=field_in 0 underlying27 rfl z_shint h;obtain⟨_,_,f1⟩:=field_in 1 underlying27 rfl z_shards h;obtain⟨_,_,f2⟩:=field_in 2 underlying27 rfl z_ids h;obtain⟨cap,e0,_⟩:=int_in underlying3 f0;obtain⟨s,e1,hS⟩:=shards_in f1;obtain⟨oa,on,oc,os,e2,c2',R2⟩:=ids_in underlying23 underlying29 underlying5 z_u8 z_id (by decide) f2;have q0:[c0]=[Value.int .i64 cap]:=e0;have q1:[c1,c2,c3]=[Value.slice s.pa s.pn s.pc,Value.slice s.ha s.hn s.hc,Value.int .i64 s.ver]:=e1;have q2:[c4]=[Value.slice oa on oc]:=e2;simp only[List.cons.injEq,and_true]at q0 q1 q2;obtain⟨q1,q3,q4⟩:=q1;subst q0 q1 q2 q3 q4;exact⟨⟨cap,s,oa,on,oc,os⟩,rfl,hS,R2,c2'⟩
end
end L
namespace G
open Go.RowKit
section
variable{P:Program}{w:World}
theorem D.sliceM{l:List Value}{x hi mx:Operand}{t e sz:Nat}{a:Option Addr}{n c:Nat}{j k:Int}{dd:Option Tmp}{ty:TypeId}{pos:String}{af:Array Edge}{g:Option (Nat×Bool)}(hx:ev l x= .slice a n c)(h2:ev l hi= .int .i64 j)(h3:ev l mx= .int .i64 k)
  (hu:P.underlying t=some (.slice e))(hs:P.cellsOf e=sz)(hz:sz≠0)(hb:0≤j∧j≤k∧k≤c):
  (execOp (ev l) ⟨dd, .slice t x none (some hi) (some mx),ty,pos,af,g⟩).run P w= .ok (.value (.slice (subA a 0 sz k.toNat) j.toNat k.toNat)) w:=by
 have h0:0≤j:=by omega
 have hk:0≤k:=by omega
 have e1:max k 0=k:=Int.max_eq_left hk;have e2:max j 0=j:=Int.max_eq_left h0;have hsz:=size_run (P:=P) (w:=w) hs hz;simp only[execOp];rw[hx];simp[Instr.sliceAt,Instr.slice,run_underlying hu,Instr.sliceBounds,Instr.sliceBound,h2,h3,asIntOf,hb,h0,hk,e1,e2,hsz,subA]
end
section
variable{S0:Nat→Prop}{w0:World}{L:List Ent}{P:Program}{ops:Array Oper}{K:List Value→World→Prop}{rest:List (Oper×Kd)}{l l':List Value}{m:Md}{d:Tmp}{ty xt t e:TypeId}{pos:String}{af:Array Edge}{kd:Kd}{x y hi mx:Operand}{sz by_:Nat}{zs:List Value}
theorem J.slM{a:Option Addr}{n c:Nat}(j k:Nat)[U:Und P xt (.slice e)][Z:Siz P e sz](hk:pureK kd=true)(hx:ev l x= .slice a n c)(h2:ev l hi= .int .i64 (j:Nat))(h3:ev l mx= .int .i64 (k:Nat))(kk:J S0 w0 L (RY S0 w0 m P ops K rest l'))(hz:sz≠0:=by decide)(hb:j≤k∧k≤c:=by omega)
  (hl:l.set d (.slice (subA a 0 sz k) j k)=l':=by dsimp only[List.set]):
  J S0 w0 L (RY S0 w0 m P ops K ((⟨some d, .slice xt x none (some hi) (some mx),ty,pos,af,none⟩,kd)::rest) l):=
 J.pur hk (fun _=>D.sliceM (j:=((j:Nat):Int)) (k:=((k:Nat):Int)) hx h2 h3 U.h Z.h hz (by omega)) kk hl
end
end G
namespace W
open Go.RowKit G
set_option maxRecDepth 20000
set_option maxHeartbeats 8000000
attribute [local irreducible] RS RX RY Code.wp bodyPost J Ent.blk Ent.irow Ent.iown Ent.wrow Ent.wown Ent.gown Ent.all Ent.emp
instance:Ents prog 65:=⟨.mk func65 (by kernel_rfl) rfl⟩
instance:Ents prog 117:=⟨.mk func117 (by kernel_rfl) rfl⟩
instance:Ents prog 169:=⟨.mk func169 (by kernel_rfl) rfl⟩
instance:Ents prog 113:=⟨.mk func113 (by kernel_rfl) rfl⟩
instance:Inf prog 23 1 24 [.slice none 0 0]:=⟨TI.of (v:= .slice none 0 0) (by kernel_rfl) rfl⟩
instance:Siz prog 23 1:=⟨by kernel_rfl⟩
instance:Ents prog 114:=⟨.mk func114 (by kernel_rfl) rfl⟩
instance:Ents prog 116:=⟨.mk func116 (by kernel_rfl) rfl⟩
instance:Ents prog 71:=⟨.mk func71 (by kernel_rfl) rfl⟩
theorem stGr1{S0:Nat→Prop}(a:Option Addr)(p c:Nat)(os x:List Int)(b:Nat)(T:TypeId)(w:World)(hB:Blk w b [.slice a p c] T)(D0:WRow .u8 32 S0 w a p os)(hx:Arr .u8 32 x)(hp:p≤1000):
  Calls prog 117 #[.agg (ints .u8 x).toArray, .pointer (some ⟨b,0,none⟩)] w (Ret w fun v _=>v= .bool (decide (¬S.inS p os x))):=by
 refine J.enter 6 func117 rfl rfl ?_;refine run ?_;refine J.box rfl rfl rfl fun b1=>?_
 refine run ?_;refine J.ldOq hB rfl ?_;refine run ?_;refine J.callp rfl rfl (fun w' M=>hasID _ _ _ _ _ w' (D0.ext M.ext) hx (by omega)) ?_;refine run ?_;exact J.fin (congrArg _ (by simp))
theorem idxGr1{S0 S1:Nat→Prop}(ba:Option Addr)(p bc:Nat)(os:List Int)(a:Option Addr)(n c:Nat)(ps:List Int)(b:Nat)(T:TypeId)(w:World)(hB:Blk w b [.slice ba p bc] T)(D0:WRow .u8 32 S0 w ba p os)(D1:WRow .u8 32 S1 w a n ps)(hp:p≤1000)(hn:n≤1000):
  Calls prog 169 #[.slice a n c, .func (.func 117) #[] #[.pointer (some ⟨b,0,none⟩)]] w (Gv w (fun r:Int=> .int .i64 r) (fun _=>[]) fun r=>0≤r↔¬S.allI p os n ps):=by
 have hl:=D1.len;refine J.enter 17 func169 rfl rfl ?_;refine run ?_;refine J.loopS (A:=Int) (fun p=>[(8, .int .i64 p)]) [4,5,9,10,11,12,13,14,15,16,17,18] (fun q=>(0≤q∧q≤n)∧∀i,i<q.toNat→S.inS p os (S.idAt ps i)) (fun q=>n - q.toNat) 0 (by kernel_rfl) ⟨by omega,fun i hi=>by omega⟩ (fun q j hI=>?_);obtain⟨h1,hI⟩:=hI;refine run ?_;refine J.ifd rfl (fun c1=>?_) (fun c1=>?_)
 ·refine run ?_;refine J.callvp rfl rfl rfl (fun w' M=>stGr1 ba p bc os _ b T w' (hB.ext M.ext) (D0.ext M.ext) (D1.elt_arr (by omega)) hp) ?_;refine run ?_;refine J.ifd rfl (fun c2=>?_) (fun c2=>?_)
  ·refine run ?_;exact J.finG q rfl ⟨fun _ h=>c2 (h q.toNat (by omega)),fun _=>by omega⟩ (List.nil_sublist _)
  refine run ?_;refine J.nextS (q+1) ⟨rfl,trivial⟩ (by kernel_rfl) ⟨by omega,fun i hi=>?_⟩ (by omega);rcases Nat.lt_or_ge i q.toNat with e|e
  ·exact hI i e
  obtain rfl:i=q.toNat:=by omega
  exact Classical.not_not.1 c2
 refine run ?_;exact J.finG (-1) rfl ⟨fun h=>by omega,fun h=>absurd (fun i hi=>hI i (by omega)) h⟩ (List.nil_sublist _)
theorem hasGr1{S0 S1:Nat→Prop}(ba:Option Addr)(p bc:Nat)(os:List Int)(a:Option Addr)(n c:Nat)(ps:List Int)(b:Nat)(T:TypeId)(w:World)(hB:Blk w b [.slice ba p bc] T)(D0:WRow .u8 32 S0 w ba p os)(D1:WRow .u8 32 S1 w a n ps)(hp:p≤1000)(hn:n≤1000):
  Calls prog 116 #[.slice a n c, .func (.func 117) #[] #[.pointer (some ⟨b,0,none⟩)]] w (Ret w fun v _=>v= .bool (decide (¬S.allI p os n ps))):=by
 refine J.enter 7 func116 rfl rfl ?_;refine run ?_;refine J.call rfl rfl (fun w' M=>idxGr1 ba p bc os a n c ps b T w' (hB.ext M.ext) (D0.ext M.ext) (D1.ext M.ext) hp hn) fun r hr2=>?_
 refine run ?_;exact J.fin (congrArg _ (decide_eq_decide.2 hr2))
theorem stGraph0{S0:Nat→Prop}(s:StA)(TK:TypeId)(w:World)(K0:Kst w TK)(H:StR S0 w s):
  Calls prog 71 #[.agg (srC s).toArray] w (Gv w (fun q:GrA=> .tuple #[.agg (grC q).toArray, .int .i64 (S.chkT s.V)]) (grE 29 39) (GrP (S.grT s.V).m (S.grT s.V).ids (S.grT s.V).ops)):=by
 have hcp:=H.cap;have hO:=H.os;have hwg:=S.whole_good (ps:=s.sh.V.ps) H.sh.ml;have bad:¬S.okT s.V→S.chkT s.V=8∧S.grT s.V=S.PG.nil:=fun h=>⟨S.chkT_8 h,S.grT_8 h⟩
 refine J.enter 86 func71 rfl rfl ?_;refine run ?_;refine J.box rfl rfl rfl fun b1=>?_
 refine J.alloc rfl fun b2=>?_
 refine run ?_;refine J.call rfl rfl (fun w' M=>shAll s.sh TK w' (K0.ext M.ext) (H.sh.ext M.ext) H.L) fun q hq=>?_
 dsimp only[grE,List.cons_append,List.nil_append];refine run ?_;refine J.alloc rfl fun b4=>?_
 refine run ?_;refine J.spn rfl rfl rfl (fun c1=>?_) (fun c1=>?_)
 ·obtain⟨e1,e2⟩:=bad fun h=>c1 (S.chkH_0 h.1.2.1);rw[e1,e2];refine run ?_;refine J.nilGr 29 39 ?_;exact J.finG GrA.nil rfl GrP.nil sb
 have hok:=S.chkH_iff.1 c1;obtain⟨n1,n4⟩:=ok_len H.sh hok;have hle:=H.sh.le H.L n4;rw[S.al_0 hok]at hq;have hver:s.sh.ver=((S.whole s.sh.V.ps).m:Nat):=((S.ok_iff (v:=s.sh.V) H.sh.ml).1 hok).2.2.2.1;have hqs:q.m≤70∧q.n≤70:=⟨by rw[hq.m];omega,by rw[hq.n,hwg.2];omega⟩
 have hqok:=hq.ok (refWholeOk H.sh);have hqi:=hq.ids;have hqm:=hq.m;have hqo:=hq.ops;refine run ?_;refine J.spd rfl rfl rfl (fun c2=>?_) (fun c2=>?_)
 ·obtain⟨e1,e2⟩:=bad fun h=>by have h1:1≤s.cap:=h.1.1.1;omega
  rw[e1,e2];refine run ?_;refine J.nilGr 29 39 ?_;exact J.finG GrA.nil rfl GrP.nil sb
 refine run ?_;refine J.spd rfl rfl rfl (fun c3=>?_) (fun c3=>?_)
 ·obtain⟨e1,e2⟩:=bad fun h=>by have h1:s.cap≤40:=h.1.1.2;omega
  rw[e1,e2];refine run ?_;refine J.nilGr 29 39 ?_;exact J.finG GrA.nil rfl GrP.nil sb
 refine run ?_;refine J.spd rfl rfl rfl (fun c4=>?_) (fun c4=>?_)
 ·obtain⟨e1,e2⟩:=bad fun h=>by have h1:s.sh.ver≤s.cap:=h.1.2.2.1;omega
  rw[e1,e2];refine run ?_;refine J.nilGr 29 39 ?_;exact J.finG GrA.nil rfl GrP.nil sb
 refine run ?_;refine J.ifn rfl (fun c5=>?_) (fun c5=>?_)
 ·obtain⟨e1,e2⟩:=bad fun h=>c5 (by have h1:(s.on:Int)=s.sh.ver:=h.1.2.2.2;rw[h1,hver,hqm]);rw[e1,e2];refine run ?_;refine J.nilGr 29 39 ?_;exact J.finG GrA.nil rfl GrP.nil sb
 have hfst:(1≤s.V.cap∧s.V.cap≤40)∧S.okR s.V.sh∧s.V.sh.ver≤s.V.cap∧(s.V.n:Int)=s.V.sh.ver:=⟨⟨by show 1≤s.cap;omega,by show s.cap≤40;omega⟩,hok,by show s.sh.ver≤s.cap;omega,by show(s.on:Int)=s.sh.ver;rw[hver,←hqm];exact c5⟩
 have hris:S.Rising q.m q.ids:=by
  rw[hqm,hqi];exact((S.chkP_fine hwg.1).1 hok.2.1).rising
 refine run ?_;refine J.loopS (A:=Nat) (fun p=>[(50, .int .i64 (p:Nat))]) [6,7,8,9,10,51,52,53,54,55,56,57,58,59,60,61,62,63,64,65,66,67,68,69,70,71,72,73,74,75,76,77,78,79,80,81,82,83,84,85] (fun p=>p≤s.on∧∀i,i<p→S.plcS (S.whole s.sh.V.ps) s.os i) (fun p=>s.on - p) 0 (by kernel_rfl) ⟨Nat.zero_le _,fun i hi=>by omega⟩ (fun p j hI=>?_);obtain⟨hp,hI⟩:=hI;refine run ?_;refine J.ifd rfl (fun d1=>?_) (fun d1=>?_)
 ·have hpl:p<s.on:=by omega
  obtain⟨y,hy⟩:=ex (elt 32 s.os ((p:Nat):Int).toNat);have hy':S.idAt s.os p=y:=by rw[hy,Int.toNat_natCast];rfl
  have hyA:Arr .u8 32 y:=hy▸hO.elt_arr (by omega);have no:∀ {e:Prop},(S.plcS (S.whole s.sh.V.ps) s.os p→e)→¬e→¬S.okT s.V:=fun h1 h2 h=>h2 (h1 (h.2 p hpl));have hplc:S.plcS (S.whole s.sh.V.ps) s.os p↔S.inS q.m q.ids y∧¬S.inS p s.os y∧S.allI p s.os ((S.whole s.sh.V.ps).opOf y).n ((S.whole s.sh.V.ps).opOf y).ids:=by
   unfold S.plcS;rw[hy',hqi,hqm]
  refine run ?_;refine J.alloc rfl fun b5=>?_
  refine run ?_;refine J.slM p p rfl rfl rfl rfl ?_;refine run ?_;refine J.alloc rfl fun b6=>?_
  refine run ?_;refine J.callp rfl rfl (fun w' M=>(RW.own' (a:=q.ia) w' M).elim fun _ k0=>bsID _ _ _ _ _ w' k0 hyA hris (by omega)) ?_;refine run ?_;refine J.spt rfl rfl rfl (fun d2=>?_) (fun d2=>?_)
  ·obtain⟨e1,e2⟩:=bad (no (fun h=>(hplc.1 h).1) (of_decide_eq_false d2));rw[e1,e2];refine run ?_;refine J.nilGr 29 39 ?_;exact J.finG GrA.nil rfl GrP.nil sb
  have hin:S.inS q.m q.ids y:=of_decide_eq_true d2;have hix:=(S.ix_in hin).1;rw[S.spotS_ix hris hin];refine run ?_;refine J.callp rfl rfl (fun w' M=>hasID _ _ _ _ _ w' (wTk (hO.ext M.ext) p p (by omega) (by omega)) hyA (by omega)) ?_;refine run ?_;refine J.spd rfl rfl rfl (fun d3=>?_) (fun d3=>?_)
  ·obtain⟨e1,e2⟩:=bad (no (fun h=>(hplc.1 h).2.1) (not_not_intro ((S.inS_take (Nat.le_refl _)).2 d3)));rw[e1,e2];refine run ?_;refine J.nilGr 29 39 ?_;exact J.finG GrA.nil rfl GrP.nil sb
  obtain⟨z,hz⟩:∃z,q.zs[((S.ixS q.m q.ids y:Nat):Int).toNat]? =some z:=⟨q.zs[S.ixS q.m q.ids y]'(by have h:=congrArg List.length hqo;unfold GrA.ops at h;rw[List.length_map,hwg.2,←hqm]at h;omega),by rw[Int.toNat_natCast];exact List.getElem?_eq_getElem _⟩
  have hz':=hz;rw[Int.toNat_natCast]at hz';have hzl:q.n=q.m:=by rw[hq.n,hwg.2,hqm]
  have hzo:z.o=(S.whole s.sh.V.ps).opOf y:=by
   have e:=GrA.opAt hz';rw[←e,hqo,hqi,hqm];rfl
  have hzn:z.o.n≤40:=(hqok z (List.mem_of_getElem? hz')).n;refine run ?_;refine J.fn rfl rfl rfl ?_;refine run ?_;refine J.callp rfl rfl (fun w' M=>hasGr1 (subA s.oa 0 32 p) p p (s.os.take (32*p)) _ _ _ _ b6 _ w' (blkC b6 M) (wTk (hO.ext M.ext) p p (by omega) (by omega)) ((GrR.own hqok hq.cap hqs w' M).op hz').row (by omega) (by omega)) ?_;refine run ?_;refine J.ifd rfl (fun d4=>?_) (fun d4=>?_)
  ·obtain⟨e1,e2⟩:=bad (no (fun h=>(hplc.1 h).2.2) (fun k=>d4 (by rw[hzo];exact(S.allI_pre (Nat.le_refl _)).1 k)));rw[e1,e2];refine run ?_;refine J.nilGr 29 39 ?_;exact J.finG GrA.nil rfl GrP.nil sb
  refine run ?_;refine J.nextS (p+1) ⟨rfl,trivial⟩ (by kernel_rfl) ⟨by omega,fun i hi=>?_⟩ (by omega);rcases Nat.lt_or_ge i p with c|c
  ·exact hI i c
  obtain rfl:i=p:=by omega
  have h4:=Classical.not_not.1 d4;rw[hzo]at h4;exact hplc.2 ⟨hin,fun h=>d3 ((S.inS_take (Nat.le_refl _)).1 h),(S.allI_pre (Nat.le_refl _)).2 h4⟩
 have hokT:S.okT s.V:=⟨hfst,fun i hi=>hI i (by have hi':i<s.on:=hi;omega)⟩
 rw[S.chkT_0 hokT,S.grT_0 hokT];refine run ?_;exact J.finG q rfl hq sb
theorem stGraph{S0:Nat→Prop}(s:StA)(TK:TypeId)(w:World)(K0:Kst w TK)(H:StR S0 w s):
  Calls prog 23 #[.agg (srC s).toArray] w (Gv w (fun q:GrA=> .tuple #[.agg (grC q).toArray, .int .i64 (S.chkT s.V)]) (grE 29 39) (GrP (S.grT s.V).m (S.grT s.V).ids (S.grT s.V).ops)):=by
 refine J.enter 7 func23 rfl rfl ?_;refine run ?_;refine J.box rfl rfl rfl fun b1=>?_
 refine run ?_;refine J.alloc rfl fun b2=>?_
 refine run ?_;refine J.call rfl rfl (fun w' M=>stGraph0 s _ w' (K0.ext M.ext) (H.ext M.ext)) fun q hq=>?_
 dsimp only[grE,List.cons_append,List.nil_append];refine run ?_;exact J.finG q rfl hq sb
end W
namespace S
open G
/-! predecessors -/
def preE(n:Nat)(ids:List Int):Int:=if 60<n then 4 else if Rising n ids then 0 else 32
def preN(n:Nat)(ids:List Int):Nat:=if preE n ids=0 then min n 4 else 0
def preL(n:Nat)(ids:List Int):List Int:=if preE n ids=0 then ids.take (32*min n 4)else []
theorem preE_4{n:Nat}{ids:List Int}(h:60<n):preE n ids=4:=if_pos h
theorem preE_32{n:Nat}{ids:List Int}(h:¬60<n)(h2:¬Rising n ids):preE n ids=32:=by unfold preE;rw[if_neg h,if_neg h2]
theorem preE_0{n:Nat}{ids:List Int}(h:¬60<n)(h2:Rising n ids):preE n ids=0:=by unfold preE;rw[if_neg h,if_pos h2]
theorem pre_no{n:Nat}{ids:List Int}(h:preE n ids≠0):preN n ids=0∧preL n ids=[]:=⟨if_neg h,if_neg h⟩
theorem pre_yes{n:Nat}{ids:List Int}(h:preE n ids=0):preN n ids=min n 4∧preL n ids=ids.take (32*min n 4):=⟨if_pos h,if_pos h⟩
theorem preN_le(n:Nat)(ids:List Int):preN n ids≤4:=by
 unfold preN;split<;>omega
/-! stamps -/
def stp(m:Int)(o:OpV):Int:=if o.st+1>m then o.st+1 else m
def stq(m:Int)(o:OpV):Int:=if o.st>m then o.st else m
def nxtS(l:List OpV):Int:=l.foldl stp 0
def mstS(l:List OpV):Int:=l.foldl stq 0
theorem nxt_step{l:List OpV}{i:Nat}(hi:i<l.length):nxtS (l.take (i+1))=stp (nxtS (l.take i)) (l.getD i OpV.zero):=by
 unfold nxtS;rw[List.take_succ_eq_append_getElem hi,List.foldl_append,getD_at hi];rfl
theorem mst_step{l:List OpV}{i:Nat}(hi:i<l.length):mstS (l.take (i+1))=stq (mstS (l.take i)) (l.getD i OpV.zero):=by
 unfold mstS;rw[List.take_succ_eq_append_getElem hi,List.foldl_append,getD_at hi];rfl
theorem nxt_mst0:∀(l:List OpV) (m:Int),l.foldl stp (m+1)=l.foldl stq m+1
 |[],m=>rfl
 |o::l,m=>by
  rw[List.foldl_cons,List.foldl_cons];have e:stp (m+1) o=stq m o+1:=by
   unfold stp stq;split<;>split<;>omega
  rw[e];exact nxt_mst0 l _
theorem nxt_mst{l:List OpV}(h:∀o∈l,0≤o.st)(hl:l≠[]):nxtS l=mstS l+1:=by
 cases l with
 |nil=>exact absurd rfl hl
 |cons o l=>
  unfold nxtS mstS;rw[List.foldl_cons,List.foldl_cons];have h0:=h o (List.mem_cons_self ..);have e:stp 0 o=stq 0 o+1:=by
   unfold stp stq;split<;>split<;>omega
  rw[e];exact nxt_mst0 l _
theorem mst_le0{k:Int}:∀(l:List OpV) (m:Int),m≤k→(∀o∈l,o.st≤k)→l.foldl stq m≤k
 |[],m,h,_=>h
 |o::l,m,h,h2=>by
  rw[List.foldl_cons];refine mst_le0 l _ ?_ fun u hu=>h2 u (List.mem_cons_of_mem _ hu);have:=h2 o (List.mem_cons_self ..);unfold stq;split<;>omega
theorem mst_le{k:Int}{l:List OpV}(hk:0≤k)(h:∀o∈l,o.st≤k):mstS l≤k:=mst_le0 l 0 hk h
noncomputable def stmE(g:PG):Int:=if chkP g≠0 then chkP g else if 1000000000000<nxtS g.ops then 16 else 0
noncomputable def stmV(g:PG):Int:=if stmE g=0 then nxtS g.ops else 0
theorem stmE_1{g:PG}(h:chkP g≠0):stmE g=chkP g∧stmE g≠0:=by
 have e:stmE g=chkP g:=if_pos h;exact⟨e,by rw[e];exact h⟩
theorem stmE_2{g:PG}(h:chkP g=0)(h2:1000000000000<nxtS g.ops):stmE g=16:=by unfold stmE;rw[if_neg (not_not_intro h),if_pos h2]
theorem stmE_0{g:PG}(h:chkP g=0)(h2:¬1000000000000<nxtS g.ops):stmE g=0:=by unfold stmE;rw[if_neg (not_not_intro h),if_neg h2]
theorem stmV_no{g:PG}(h:stmE g≠0):stmV g=0:=if_neg h
theorem stmV_yes{g:PG}(h:stmE g=0):stmV g=nxtS g.ops:=if_pos h
theorem chk_st{g:PG}(h:chkP g=0):∀o∈g.ops,o.st≤1000000000000:=fun o ho=>by
 obtain⟨_,_,h3,_⟩:=chkG_zero.1 (show chkG g.m g.ids g.ops=0 from h);obtain⟨i,hi,rfl⟩:=List.getElem_of_mem ho;have h4:=(h3 i hi).1;rw[getD_at hi]at h4;exact(check_zero.1 (verE_check h4)).2.2.2.1
/-! operations -/
def bldO(n:Nat)(ids:List Int)(st:Int)(o:OpV):OpV:= {o with au:=0,st:=st,e:=0,s:=0,n:=preN n ids,ids:=preL n ids}
def bldE(x:Int)(n:Nat)(ids:List Int)(st:Int)(o:OpV):Int:=if preE n ids≠0 then preE n ids else signE x (bldO n ids st o)
def bldV(x:Int)(n:Nat)(ids:List Int)(st:Int)(o:OpV):OpV:=if bldE x n ids st o=0 then signS x (bldO n ids st o)else OpV.zero
def bldB(x:Int)(n:Nat)(ids:List Int)(st:Int)(o:OpV):List Int:=if bldE x n ids st o=0 then encS (signS x (bldO n ids st o))else []
def bldI(x:Int)(n:Nat)(ids:List Int)(st:Int)(o:OpV):List Int:=if bldE x n ids st o=0 then idOf (signS x (bldO n ids st o))else List.replicate 32 0
theorem bldE_1{x:Int}{n:Nat}{ids:List Int}{st:Int}{o:OpV}(h:preE n ids≠0):bldE x n ids st o=preE n ids:=if_pos h
theorem bldE_2{x:Int}{n:Nat}{ids:List Int}{st:Int}{o:OpV}(h:preE n ids=0):bldE x n ids st o=signE x (bldO n ids st o):=if_neg (not_not_intro h)
theorem bld_no{x:Int}{n:Nat}{ids:List Int}{st:Int}{o:OpV}(h:bldE x n ids st o≠0):bldV x n ids st o=OpV.zero∧bldB x n ids st o=[]∧bldI x n ids st o=List.replicate 32 0:=⟨if_neg h,if_neg h,if_neg h⟩
theorem bld_yes{x:Int}{n:Nat}{ids:List Int}{st:Int}{o:OpV}(h:bldE x n ids st o=0):bldV x n ids st o=signS x (bldO n ids st o)∧bldB x n ids st o=encS (signS x (bldO n ids st o))∧bldI x n ids st o=idOf (signS x (bldO n ids st o)):=⟨if_pos h,if_pos h,if_pos h⟩
structure BdV where
 (o:OpV)(b i:List Int)(e:Int)
def BdV.no(e:Int):BdV:=⟨OpV.zero,[],List.replicate 32 0,e⟩
def bldR(x:Int)(n:Nat)(ids:List Int)(st:Int)(o:OpV):BdV:=⟨bldV x n ids st o,bldB x n ids st o,bldI x n ids st o,bldE x n ids st o⟩
open Classical in
noncomputable def wrtR(v:StV)(x:Int)(o:OpV):BdV:=if ¬okT v then .no 8 else if stmE (whole v.sh.ps)≠0 then .no (stmE (whole v.sh.ps))else bldR x (hdN (whole v.sh.ps)) (hdI (whole v.sh.ps)) (stmV (whole v.sh.ps)) o
theorem wrt_8{v:StV}{x:Int}{o:OpV}(h:¬okT v):wrtR v x o= .no 8:=if_pos h
theorem wrt_s{v:StV}{x:Int}{o:OpV}(h:okT v)(h2:stmE (whole v.sh.ps)≠0):wrtR v x o= .no (stmE (whole v.sh.ps)):=by unfold wrtR;rw[if_neg (not_not_intro h),if_pos h2]
theorem wrt_0{v:StV}{x:Int}{o:OpV}(h:okT v)(h2:stmE (whole v.sh.ps)=0):wrtR v x o=bldR x (hdN (whole v.sh.ps)) (hdI (whole v.sh.ps)) (stmV (whole v.sh.ps)) o:=by unfold wrtR;rw[if_neg (not_not_intro h),if_neg (not_not_intro h2)]
structure BdV.fit(r:BdV):Prop where
 o:r.o.ok
 b:r.b.length≤400
 i:Arr .u8 32 r.i
theorem no_fit(e:Int):(BdV.no e).fit:=⟨OpV.zero_ok,Nat.zero_le _,⟨List.length_replicate,fun x hx=>by rw[List.eq_of_mem_replicate hx];decide⟩⟩
theorem bldI_arr(x:Int)(n:Nat)(ids:List Int)(st:Int)(o:OpV):Arr .u8 32 (bldI x n ids st o):=by
 unfold bldI;split
 ·exact sha_arr _
 ·exact⟨by simp,fun x hx=>by rw[List.mem_replicate]at hx;rw[hx.2];simp only[lim];omega⟩
theorem bldV_ok{x:Int}{n:Nat}{ids:List Int}{st:Int}{o:OpV}(ho:(bldO n ids st o).ok):(bldV x n ids st o).ok:=by
 unfold bldV;split
 ·exact signS_ok x _ ho
 ·exact OpV.zero_ok
theorem bldB_len{x:Int}{n:Nat}{ids:List Int}{st:Int}{o:OpV}(ho:(bldO n ids st o).ok)(hl:ids.length=32*n):(bldB x n ids st o).length≤400:=by
 by_cases h:bldE x n ids st o=0
 ·rw[(bld_yes h).2.1];have hp:preE n ids=0:=Classical.byContradiction fun c=>by rw[bldE_1 c]at h;exact c h
  rw[bldE_2 hp]at h;have hpl:(bldO n ids st o).ids.length=32*(bldO n ids st o).n:=by
   show(preL n ids).length=32*preN n ids;rw[(pre_yes hp).1,(pre_yes hp).2,List.length_take];omega
  have hg:=sign_good ho hpl h;refine enc_400 ?_ hg.2.2.1;rw[signS_eq h];exact hpl
 ·rw[(bld_no h).2.1];exact Nat.zero_le _
theorem bldO_okS{n:Nat}{ids:List Int}{st:Int}{o:OpV}(ho:o.ok)(hs:0≤st∧st<18446744073709551616):(bldO n ids st o).ok:=⟨(by show(0:Int)≤0∧(0:Int)<4294967296;decide),hs,ho.k,ho.vk,ho.num,ho.bits,(by show(0:Int)≤0∧(0:Int)<4294967296;decide),(by show(0:Int)≤0∧(0:Int)<4294967296;decide),by have:=preN_le n ids;show preN n ids≤40;omega,ho.key,ho.t⟩
theorem bld_fit{x:Int}{n:Nat}{ids:List Int}{st:Int}{o:OpV}(ho:o.ok)(hs:0≤st∧st<18446744073709551616)(hl:ids.length=32*n):(bldR x n ids st o).fit:=⟨bldV_ok (bldO_okS ho hs),bldB_len (bldO_okS ho hs) hl,bldI_arr _ _ _ _ _⟩
theorem stm_rng{g:PG}(h:stmE g=0):0≤stmV g∧stmV g≤1000000000000:=by
 have hc:chkP g=0:=Classical.byContradiction fun c=>(stmE_1 c).2 h;have hn:¬1000000000000<nxtS g.ops:=fun c=>by rw[stmE_2 hc c]at h;exact absurd h (by decide)
 rw[stmV_yes h];refine⟨?_,Int.not_lt.1 hn⟩;have:∀(l:List OpV) (m:Int),0≤m→0≤l.foldl stp m:=fun l=>by
  induction l with
  |nil=>exact fun m hm=>hm
  |cons o l ih=>
   intro m hm;rw[List.foldl_cons];refine ih _ ?_;unfold stp;split<;>omega
 exact this g.ops 0 (Int.le_refl _)
theorem wrt_fit{v:StV}{x:Int}{o:OpV}(hg:StG v)(ho:o.ok):(wrtR v x o).fit:=by
 by_cases h:okT v
 ·by_cases h2:stmE (whole v.sh.ps)=0
  ·rw[wrt_0 h h2];have:=stm_rng h2;exact bld_fit ho (by omega) (hd_all (ok_fineT hg h).fine).1
  ·rw[wrt_s h h2];exact no_fit _
 ·rw[wrt_8 h];exact no_fit _
end S
namespace W
open Go.RowKit G
set_option maxRecDepth 20000
set_option maxHeartbeats 8000000
attribute [local irreducible] RS RX RY Code.wp bodyPost J Ent.blk Ent.irow Ent.iown Ent.wrow Ent.wown Ent.gown Ent.all Ent.emp
instance:Siz prog 5 1:=⟨by kernel_rfl⟩
instance:Ents prog 91:=⟨.mk func91 (by kernel_rfl) rfl⟩
instance:Ents prog 73:=⟨.mk func73 (by kernel_rfl) rfl⟩
instance:Ents prog 46:=⟨.mk func46 (by kernel_rfl) rfl⟩
instance:Ents prog 101:=⟨.mk func101 (by kernel_rfl) rfl⟩
instance:Agg prog 39 11:=⟨_,underlying39,rfl,by kernel_rfl⟩
instance:Inf prog 39 11 112 [.int .u32 0, .slice none 0 0, .int .u64 0, .int .u8 0, .string .empty, .int .u8 0, .int .i64 0, .int .u64 0, .string .empty, .int .u32 0, .int .u32 0]:=⟨TI.of (v:= .agg #[.int .u32 0, .slice none 0 0, .int .u64 0, .int .u8 0, .string .empty, .int .u8 0, .int .i64 0, .int .u64 0, .string .empty, .int .u32 0, .int .u32 0]) (by kernel_rfl) rfl⟩
instance:Fld prog 39 2 2:=⟨_,_,1,underlying39,rfl,by kernel_rfl,by decide,rfl⟩
instance:Sca prog 31:=⟨_,underlying31,rfl⟩
instance:Ents prog 119:=⟨.mk func119 (by kernel_rfl) rfl⟩
theorem eltR{S0:Nat→Prop}{w:World}{b o n:Nat}{ids:List Int}(h:WRow .u8 32 S0 w (some ⟨b,o,none⟩) n ids){i:Int}(hi:0≤i∧i<n):IRow .u8 S0 w (some ⟨b,o+i.toNat*32,none⟩) 32 (elt 32 ids i.toNat):=by
 obtain⟨b',o',e,hs,hc⟩:=h.at_ (by decide) hi;cases e;have hA:=h.elt_arr (i:=i.toNat) (by omega);exact⟨.inr ⟨_,_,rfl,hs,hc⟩,hA.1,hA.2⟩
theorem wTake{S0:Nat→Prop}{w:World}{a:Option Addr}{n:Nat}{ids:List Int}(h:WRow .u8 32 S0 w a n ids)(p c:Nat)(hp:p≤n)(hc:p≤c):WRow .u8 32 S0 w (subA a 0 32 c) p (ids.take (32*p)):=by
 have hl:=h.len;have:=h.row.sub 0 p 32 c (by rw[ints_length];omega) (Nat.zero_le _) hc;refine⟨?_,by rw[List.length_take];omega,h.bd.take _⟩;simpa [ints,List.map_take,Nat.mul_comm]using this
theorem min4(n:Nat):(if(4:Int)<(n:Int)then 4 else(n:Int))=((min n 4:Nat):Int):=by split<;>omega
theorem bPreds{S0:Nat→Prop}(a:Option Addr)(n c:Nat)(ids:List Int)(w:World)(D0:WRow .u8 32 S0 w a n ids)(hc:n≤c)(hn:n≤1000):
  Calls prog 50 #[.slice a n c] w (Gv w (fun q:Option Addr×Nat=> .tuple #[.slice q.1 (S.preN n ids) q.2, .int .i64 (S.preE n ids)]) (fun q=>[.wown 29 .u8 32 q.1 (S.preN n ids) q.2 (S.preL n ids)]) fun q=>S.preN n ids≤q.2):=by
 have hlen:=D0.len;have nil:∀e:Int,S.preE n ids=e→e≠0→S.preN n ids=0∧S.preL n ids=[]:=fun e h1 h2=>S.pre_no (by rw[h1];exact h2);refine J.enter 30 func50 rfl rfl ?_;refine run ?_;refine J.ifd rfl (fun c1=>?_) (fun c1=>?_)
 ·refine run ?_;have he:=S.preE_4 (n:=n) (ids:=ids) (by omega);obtain⟨e1,e2⟩:=nil 4 he (by decide);rw[he,e1,e2];refine J.nilWo 29 .u8 32 ?_;exact J.finG (none,0) rfl (Nat.le_refl _) (.cons_cons _ (List.nil_sublist _))
 refine run ?_;refine J.loopS (A:=Int) (fun p=>[(4, .int .i64 p)]) [2,3,8,9,10,11,12,13,14,15,16,17,18,19,20,21,22,23,24] (fun p=>(1≤p∧(p≤n∨p=1))∧∀i,i+1<p.toNat→S.cmpS (S.idAt ids i) (S.idAt ids (i+1))<0) (fun p=>n - p.toNat) 1 (by kernel_rfl) ⟨by omega,fun i hi=>by omega⟩ (fun p j hI=>?_);obtain⟨h1,hI⟩:=hI;refine run ?_;refine J.ifd rfl (fun c2=>?_) (fun c2=>?_)
 ·obtain⟨b0,o0,ha,_,_⟩:=D0.at_ (by decide) (i:=0) (by omega);subst ha;refine run ?_;refine J.regionX [(0, .q),(1, .q),(2, .q),(3, .q),(4, .q),(5, .q),(6, .q),(7, .q),(8, .q),(9, .e),(10, .q)] mixed (by kernel_rfl) ?_;refine run ?_;refine J.callp rfl rfl (fun w' M=>bcompare _ _ _ _ _ _ _ _ w' (eltR (D0.ext M.ext) (i:=p - 1) (by omega)) (eltR (D0.ext M.ext) (i:=p) (by omega))) ?_;refine run ?_;have e3:p.toNat=(p - 1).toNat+1:=by omega
  refine J.ifd rfl (fun c3=>?_) (fun c3=>?_)
  ·refine run ?_
   have he := S.preE_32 (n := n) (ids := ids) (by omega) (fun hr => by
    have := hr (p - 1).toNat (by omega)
    rw [← e3] at this
    exact absurd c3 (Int.not_le.2 this))
   obtain⟨e1,e2⟩:=nil 32 he (by decide);rw[he,e1,e2];refine J.nilWo 29 .u8 32 ?_;exact J.finG (none,0) rfl (Nat.le_refl _) (.cons_cons _ (List.nil_sublist _))
  refine run ?_;refine J.nextS (p+1) ⟨rfl,trivial⟩ (by kernel_rfl) ⟨by omega,fun i hi=>?_⟩ (by omega);rcases Nat.lt_or_ge (i+1) p.toNat with h|h
  ·exact hI i h
  obtain rfl:i=(p - 1).toNat:=by omega
  rw[←e3];exact Int.not_le.1 c3
 have hr:S.Rising n ids:=fun i hi=>hI i (by omega);have he:=S.preE_0 (by omega) hr;obtain⟨e1,e2⟩:=S.pre_yes he;rw[he,e1,e2];refine run ?_;refine J.mn rfl rfl rfl ?_ (hr:=min4 n);refine run ?_;refine J.call rfl rfl (fun w' M=>cloneW (subA a 0 32 c) (min n 4) c (ids.take (32*min n 4)) w' (wTake (D0.ext M.ext) (min n 4) c (by omega) (by omega)) (by omega) (by omega)) fun q hq=>?_
 refine run ?_;exact J.finG q rfl hq sb
theorem rPreds{S0:Nat→Prop}(a:Option Addr)(n c:Nat)(ids:List Int)(w:World)(D0:WRow .u8 32 S0 w a n ids)(hc:n≤c)(hn:n≤1000):
  Calls prog 137 #[.slice a n c] w (Gv w (fun q:Option Addr×Nat=> .tuple #[.slice q.1 (S.preN n ids) q.2, .int .i64 (S.preE n ids)]) (fun q=>[.wown 29 .u8 32 q.1 (S.preN n ids) q.2 (S.preL n ids)]) fun q=>S.preN n ids≤q.2):=by
 have hlen:=D0.len;have nil:∀e:Int,S.preE n ids=e→e≠0→S.preN n ids=0∧S.preL n ids=[]:=fun e h1 h2=>S.pre_no (by rw[h1];exact h2);refine J.enter 29 func137 rfl rfl ?_;refine run ?_;refine J.ifd rfl (fun c1=>?_) (fun c1=>?_)
 ·refine run ?_;have he:=S.preE_4 (n:=n) (ids:=ids) (by omega);obtain⟨e1,e2⟩:=nil 4 he (by decide);rw[he,e1,e2];refine J.nilWo 29 .u8 32 ?_;exact J.finG (none,0) rfl (Nat.le_refl _) (.cons_cons _ (List.nil_sublist _))
 refine run ?_;refine J.callp rfl rfl (fun w' M=>risingR _ _ _ _ w' (D0.ext M.ext) hc hn) ?_;refine run ?_;refine J.ifnot rfl (fun c2=>?_) (fun c2=>?_)
 ·refine run ?_;have he:=S.preE_32 (n:=n) (ids:=ids) (by omega) (of_decide_eq_false c2);obtain⟨e1,e2⟩:=nil 32 he (by decide);rw[he,e1,e2];refine J.nilWo 29 .u8 32 ?_;exact J.finG (none,0) rfl (Nat.le_refl _) (.cons_cons _ (List.nil_sublist _))
 have hr:=of_decide_eq_true c2;have he:=S.preE_0 (by omega) hr;obtain⟨e1,e2⟩:=S.pre_yes he;rw[he,e1,e2];refine run ?_;refine J.nilWo 29 .u8 32 ?_;refine J.loop (A:=GtA) (fun p=>[(4, .slice p.a p.n p.c),(5, .int .i64 (p.n:Nat))]) [12,13,14,15,16,17,18,19,20,21,22,23,24,25,26,27,28] (fun p=>[.wown 29 .u8 32 p.a p.n p.c (ids.take (32*p.n))]) (fun p=>p.n≤n∧p.n≤4) (fun p=>4 - p.n) ⟨0,none,0,[]⟩ (by kernel_rfl) ⟨Nat.zero_le _,Nat.zero_le _⟩ (fun p j hI=>?_);obtain⟨hI1,hI2⟩:=hI;have stop:¬(p.n<n∧p.n<4)→min n 4=p.n:=fun h=>by omega
 refine run ?_;refine J.spd rfl rfl rfl (fun d1=>?_) (fun d1=>?_)
 rotate_left
 ·refine run ?_;rw[stop (by omega)];refine J.fact (.wown 29 .u8 32 p.a p.n p.c (ids.take (32*p.n))) (fun _ _ h=>(wown_len h).2) fun hcap=>?_
  exact J.finG (p.a,p.c) rfl hcap sb
 refine run ?_;refine J.ifd rfl (fun d2=>?_) (fun d2=>?_)
 ·have hA:Arr .u8 32 (elt 32 ids p.n):=D0.elt_arr (by omega);have e3:ids.take (32*p.n)++elt 32 ids ((p.n:Nat):Int).toNat=ids.take (32*(p.n+1)):=by
   rw[Int.toNat_natCast,show 32*(p.n+1)=32*p.n+32 by omega,List.take_add];rfl
  refine run ?_;refine J.b1W rfl rfl hA fun bb=>?_
  refine J.apW rfl rfl RW.own' fun a' c'=>?_
  rw[e3];refine run ?_;exact J.next ⟨p.n+1,a',c',[]⟩ ⟨rfl,rfl,trivial⟩ (by kernel_rfl) ⟨by dsimp only;omega,by dsimp only;omega⟩ (by dsimp only;omega)
 refine run ?_;rw[stop (by omega)];refine J.fact (.wown 29 .u8 32 p.a p.n p.c (ids.take (32*p.n))) (fun _ _ h=>(wown_len h).2) fun hcap=>?_
 exact J.finG (p.a,p.c) rfl hcap sb
theorem bStamp{S0:Nat→Prop}(g:GrA)(TK:TypeId)(w:World)(K0:Kst w TK)(G:GrR S0 w g):
  Calls prog 54 #[.agg (grC g).toArray] w (Ret w fun v _=>v= .tuple #[.int .u64 (S.stmV g.P), .int .i64 (S.stmE g.P)]):=by
 have G0:=G.ops;have hl:=G.len;have hcp:=G.cap;refine J.enter 28 func54 rfl rfl ?_;refine run ?_;refine J.box rfl rfl rfl fun b1=>?_
 refine run ?_;refine J.callp rfl rfl (fun w' M=>dagCheck g TK w' (K0.ext M.ext) (G.ext M.ext)) ?_;refine run ?_;refine J.ifn rfl (fun c1=>?_) (fun c1=>?_)
 ·obtain⟨he,hne⟩:=S.stmE_1 (g:=g.P) c1;refine run ?_;refine J.fin ?_;rw[S.stmV_no hne,he];rfl
 have hst:=S.chk_st (g:=g.P) c1;refine run ?_;refine J.loopS (A:=Int×Int) (fun p=>[(5, .int .u64 p.2),(16, .int .i64 p.1)]) [7,17,18,19,20,21,22,23,24,25] (fun p=>(0≤p.1∧p.1≤g.n)∧(0≤p.2∧p.2≤1000000000001)∧p.2=S.nxtS (g.ops.take p.1.toNat)) (fun p=>g.n - p.1.toNat) (0,0) (by kernel_rfl) ⟨by dsimp only;omega,by dsimp only;omega,rfl⟩ (fun p j hI=>?_);obtain⟨p,m⟩:=p;obtain⟨h1,h2,h3⟩:=hI;dsimp only at h1 h2 h3⊢;refine run ?_;refine J.ifd rfl (fun c2=>?_) (fun c2=>?_)
 ·obtain⟨z,hz⟩:=G0.ex (i:=p) (by omega);have hzo:=GrA.opAt hz;have R:=G.op hz;have hzs:=R.ok.st;have hz2:=hst z.o (by rw[←hzo,S.getD_at (by omega)];exact List.getElem_mem _);refine run ?_;refine J.alloc rfl fun b2=>?_
  refine run ?_;have e3:=S.nxt_step (l:=g.ops) (i:=p.toNat) (by omega);rw[←h3,hzo]at e3;refine J.nextS (p+1,if z.o.st+1>m then z.o.st+1 else m) ⟨rfl,rfl,trivial⟩ (by kernel_rfl) ⟨by dsimp only;omega,by dsimp only;split<;>omega,?_⟩ (by dsimp only;omega);dsimp only;rw[show(p+1).toNat=p.toNat+1 by omega,e3];rfl
 have hpn:S.nxtS g.P.ops=m:=by rw[h3,List.take_of_length_le (by omega)]
 refine run ?_;refine J.ifd rfl (fun c3=>?_) (fun c3=>?_)
 ·have he:=S.stmE_2 (g:=g.P) c1 (by rw[hpn];exact c3);refine run ?_;refine J.fin ?_;rw[S.stmV_no (by rw[he];decide),he]
 have he:=S.stmE_0 (g:=g.P) c1 (by rw[hpn];exact c3);refine run ?_;refine J.fin ?_;rw[S.stmV_yes he,he,hpn]
theorem rStamp{S0:Nat→Prop}(g:GrA)(w:World)(G:GrR S0 w g):
  Calls prog 89 #[.agg (grC g).toArray] w (Ret w fun v _=>v= .tuple #[.int .u64 (S.stmV g.P), .int .i64 (S.stmE g.P)]):=by
 have G0:=G.ops;have hl:=G.len;have hcp:=G.cap;refine J.enter 33 func89 rfl rfl ?_;refine run ?_;refine J.box rfl rfl rfl fun b1=>?_
 refine run ?_;refine J.callp rfl rfl (fun w' M=>refCheck g w' (G.ext M.ext)) ?_;refine run ?_;refine J.ifn rfl (fun c1=>?_) (fun c1=>?_)
 ·obtain⟨he,hne⟩:=S.stmE_1 (g:=g.P) c1;refine run ?_;refine J.callp rfl rfl (fun w' M=>refCheck g w' (G.ext M.ext)) ?_;refine run ?_;refine J.fin ?_;rw[S.stmV_no hne,he];rfl
 have hst:=S.chk_st (g:=g.P) c1;refine run ?_;refine J.ife rfl (fun c2=>?_) (fun c2=>?_)
 ·have h0:g.P.ops=[]:=List.eq_nil_of_length_eq_zero (show g.ops.length=0 by omega);have hpn:S.nxtS g.P.ops=0:=by rw[h0];rfl
  have he:=S.stmE_0 (g:=g.P) c1 (by rw[hpn];decide);refine run ?_;refine J.fin ?_;rw[S.stmV_yes he,he,hpn]
 have hnz:=S.nxt_mst (l:=g.P.ops) (fun o ho=>(G.opz o ho).st.1) (fun h=>by have h2:g.ops.length=0:=congrArg List.length h;omega);have hml:=S.mst_le (k:=1000000000000) (l:=g.P.ops) (by decide) hst;refine run ?_;refine J.loopS (A:=Int×Int) (fun p=>[(4, .int .u64 p.2),(5, .int .i64 p.1)]) [15,16,17,18,19,20,21,22,23,24,25,26,27,28,29] (fun p=>(0≤p.1∧p.1≤g.n)∧0≤p.2∧p.2=S.mstS (g.ops.take p.1.toNat)) (fun p=>g.n - p.1.toNat) (0,0) (by kernel_rfl) ⟨by dsimp only;omega,by dsimp only;omega,rfl⟩ (fun p j hI=>?_);obtain⟨p,m⟩:=p;obtain⟨h1,h2,h3⟩:=hI;dsimp only at h1 h2 h3⊢;refine run ?_;refine J.ifd rfl (fun c3=>?_) (fun c3=>?_)
 ·obtain⟨z,hz⟩:=G0.ex (i:=p) (by omega);have hzo:=GrA.opAt hz;have R:=G.op hz;have hzs:=R.ok.st;refine run ?_;have e3:=S.mst_step (l:=g.ops) (i:=p.toNat) (by omega);rw[←h3,hzo]at e3;refine J.nextS (p+1,if z.o.st>m then z.o.st else m) ⟨rfl,rfl,trivial⟩ (by kernel_rfl) ⟨by dsimp only;omega,by dsimp only;split<;>omega,?_⟩ (by dsimp only;omega);dsimp only;rw[show(p+1).toNat=p.toNat+1 by omega,e3];rfl
 have hpm:S.mstS g.P.ops=m:=by rw[h3,List.take_of_length_le (by omega)]
 rw[hpm]at hnz hml;refine run ?_;refine J.ife rfl (fun c4=>?_) (fun c4=>?_)
 ·have he:=S.stmE_2 (g:=g.P) c1 (by rw[hnz];omega);refine run ?_;refine J.fin ?_;rw[S.stmV_no (by rw[he];decide),he]
 have he:=S.stmE_0 (g:=g.P) c1 (by rw[hnz];omega);refine run ?_;refine J.fin ?_;rw[S.stmV_yes he,he,hnz]
instance:Fld prog 35 1 1:=⟨_,_,1,underlying35,rfl,by kernel_rfl,by decide,rfl⟩
instance:Sca prog 9:=⟨_,underlying9,rfl⟩
instance:Und prog 9 .string:=⟨underlying9⟩
instance:Fld prog 35 2 2:=⟨_,_,4,underlying35,rfl,by kernel_rfl,by decide,rfl⟩
instance:Fld prog 33 3 3:=⟨_,_,1,underlying33,rfl,by kernel_rfl,by decide,rfl⟩
instance:Und prog 189 (.slice 42):=⟨underlying189⟩
instance:Siz prog 42 1:=⟨by kernel_rfl⟩
instance:Sca prog 42:=⟨_,underlying42,rfl⟩
instance:Ents prog 50:=⟨.mk func50 (by kernel_rfl) rfl⟩
instance:SInf prog 39 [(0,1),(1,1),(2,1),(3,6),(9,2)]:=⟨_,underlying39,by kernel_rfl,by kernel_rfl⟩
instance:Agg prog 35 6:=⟨_,underlying35,rfl,by kernel_rfl⟩
instance:Ents prog 102:=⟨.mk func102 (by kernel_rfl) rfl⟩
instance:Ents prog 83:=⟨.mk func83 (by kernel_rfl) rfl⟩
instance:Ents prog 41:=⟨.mk func41 (by kernel_rfl) rfl⟩
instance:Inf prog 42 1 8 [.int .i64 0]:=⟨TI.of (v:= .int .i64 0) (by kernel_rfl) rfl⟩
instance:Ents prog 88:=⟨.mk func88 (by kernel_rfl) rfl⟩
instance:Ents prog 137:=⟨.mk func137 (by kernel_rfl) rfl⟩
instance:Ents prog 51:=⟨.mk func51 (by kernel_rfl) rfl⟩
instance:Ents prog 107:=⟨.mk func107 (by kernel_rfl) rfl⟩
instance:Ents prog 59:=⟨.mk func59 (by kernel_rfl) rfl⟩
@[reducible] def acC(o:S.OpV):List Value:=[.int .u8 o.k, .string o.key, .int .u8 o.vk, .int .i64 o.num, .int .u64 o.bits, .string o.t]
theorem signB(x:Int)(hx:0≤x∧x<4294967296){S0:Nat→Prop}(z:OpA)(TK:TypeId)(w:World)(K0:Kst w TK)(R:OpR S0 w z):
  Calls prog 102 #[.int .u32 x, .agg (opC z).toArray] w (Gv w (fun q:OpA×Int=> .tuple #[.agg (opC q.1).toArray, .int .i64 q.2]) (fun q=>[.wrow .u8 32 q.1.pa q.1.o.n q.1.o.ids]) fun q=>q.1.o.n≤q.1.pc∧q.1.o=S.signS x z.o∧q.2=S.signE x z.o):=
 Gv.of (signO x hx z.o R.ok _ _ TK w K0 R.row R.cap) fun v w' _ ⟨a',c',hv,hc,W⟩=>⟨(⟨S.signS x z.o,a',c'⟩,S.signE x z.o),hv,⟨hc,rfl,rfl⟩,sep1 (show(Ent.wrow .u8 32 a' (S.signS x z.o).n (S.signS x z.o).ids).ok _ _ by unfold Ent.wrow;exact W)⟩
theorem signBR(x:Int)(hx:0≤x∧x<4294967296){S0:Nat→Prop}(z:OpA)(w:World)(R:OpR S0 w z):
  Calls prog 51 #[.int .u32 x, .agg (opC z).toArray] w (Gv w (fun q:OpA×Int=> .tuple #[.agg (opC q.1).toArray, .int .i64 q.2]) (fun q=>[.wrow .u8 32 q.1.pa q.1.o.n q.1.o.ids]) fun q=>q.1.o.n≤q.1.pc∧q.1.o=S.signS x z.o∧q.2=S.signE x z.o):=
 Gv.of (signOR x hx z.o R.ok _ _ w R.row R.cap) fun v w' _ ⟨a',c',hv,hc,W⟩=>⟨(⟨S.signS x z.o,a',c'⟩,S.signE x z.o),hv,⟨hc,rfl,rfl⟩,sep1 (show(Ent.wrow .u8 32 a' (S.signS x z.o).n (S.signS x z.o).ids).ok _ _ by unfold Ent.wrow;exact W)⟩
theorem encB{S0:Nat→Prop}(z:OpA)(w:World)(R:OpR S0 w z)(hc:S.checkE z.o=0):
  Calls prog 83 #[.agg (opC z).toArray] w (Gv w (fun q:Option Addr×Nat×Nat=> .tuple #[.slice q.1 q.2.1 q.2.2, .int .i64 0]) (fun q=>[.irow .u8 q.1 q.2.1 (S.encS z.o)]) fun _=>True):=
 Gv.of (encodeO z.o R.ok _ _ w R.row R.cap) fun v w' _ ⟨a',n',c',xs,hv,O,hx⟩=>⟨(a',n',c'),by rw[hv,hc],trivial,sep1 (by rw[if_pos hc]at hx;subst hx;exact iown_irow (iown_ok O))⟩
theorem bytB{S0:Nat→Prop}(z:OpA)(w:World)(R:OpR S0 w z)(h4:z.o.n≤4)(hF:z.o.k=4→S.FineV z.o.vk z.o.num z.o.bits z.o.t):
  Calls prog 107 #[.agg (opC z).toArray] w (Gv w (fun q:Option Addr×Nat×Nat=> .slice q.1 q.2.1 q.2.2) (fun q=>[.irow .u8 q.1 q.2.1 (S.encS z.o)]) fun _=>True):=
 Gv.of (bytesOR z.o R.ok _ _ w R.row R.cap h4 hF) fun v w' _ ⟨a',n',c',hv,O⟩=>⟨(a',n',c'),hv,trivial,sep1 (iown_irow (iown_ok O))⟩
theorem lawGreat24(o:S.OpV)(w:World):
  Calls prog 47 #[.agg (acC o).toArray] w (Ret w fun v _=>v= .bool (decide (100<o.key.size∨100<o.t.size))):=by
 refine J.enter 13 func47 rfl rfl ?_;refine run ?_;refine J.box rfl rfl rfl fun b1=>?_
 refine run ?_;refine J.spd rfl rfl rfl (fun c=>?_) (fun c=>?_)
 ·refine run ?_;exact J.fin (congrArg _ (decide_eq_true (.inl (by omega))).symm)
 refine run ?_;exact J.fin (congrArg _ (decide_eq_decide.2 ⟨fun h=> .inr (by omega),fun h=>by rcases h with h|h<;>omega⟩))
theorem bFirst{S0:Nat→Prop}(a:Option Addr)(w:World)(O:GRow inC 1 S0 w a 2 [0,0]):
  Calls prog 88 #[.slice a 2 2] w (Ret w fun v _=>v= .int .i64 0):=by
 refine J.enter 14 func88 rfl rfl ?_;refine run ?_;refine J.loopS (A:=Int) (fun p=>[(7, .int .i64 p)]) [2,4,8,9,10,11,12,13,14] (fun p=>0≤p∧p≤2) (fun p=>2 - p.toNat) 0 (by kernel_rfl) ⟨by omega,by omega⟩ (fun p j hI=>?_);refine run ?_;refine J.ifd rfl (fun c1=>?_) (fun c1=>?_)
 ·have hq:([0,0]:List Int)[p.toNat]? =some 0:=by
   rcases(show p.toNat=0∨p.toNat=1 by omega)with h|h<;>rw[h]<;>rfl
  refine run ?_;exact J.nextS (p+1) ⟨rfl,trivial⟩ (by kernel_rfl) ⟨by omega,by omega⟩ (by omega)
 refine run ?_;exact J.fin rfl
def BldP(x:Int)(n:Nat)(ids:List Int)(st:Int)(o:S.OpV)(q:OpA×Option Addr×Nat×Nat):Prop:=q.1.o=S.bldV x n ids st o∧q.1.o.n≤q.1.pc
@[reducible] def bldC(x:Int)(n:Nat)(ids:List Int)(st:Int)(o:S.OpV)(q:OpA×Option Addr×Nat×Nat):Value:= .tuple #[.agg (opC q.1).toArray, .slice q.2.1 q.2.2.1 q.2.2.2, .agg (ints .u8 (S.bldI x n ids st o)).toArray, .int .i64 (S.bldE x n ids st o)]
@[reducible] def bldP(x:Int)(n:Nat)(ids:List Int)(st:Int)(o:S.OpV)(q:OpA×Option Addr×Nat×Nat):List Ent:=[.wrow .u8 32 q.1.pa q.1.o.n q.1.o.ids, .irow .u8 q.2.1 q.2.2.1 (S.bldB x n ids st o)]
theorem bldO_ok{n:Nat}{ids:List Int}{st:Int}{o:S.OpV}(ho:o.ok)(hs:0≤st∧st<18446744073709551616):(S.bldO n ids st o).ok:=⟨(by show(0:Int)≤0∧(0:Int)<4294967296;decide),hs,ho.k,ho.vk,ho.num,ho.bits,(by show(0:Int)≤0∧(0:Int)<4294967296;decide),(by show(0:Int)≤0∧(0:Int)<4294967296;decide),by have:=S.preN_le n ids;show S.preN n ids≤40;omega,ho.key,ho.t⟩
theorem bBuild(x:Int)(hx:0≤x∧x<4294967296){S0:Nat→Prop}(a:Option Addr)(n c:Nat)(ids:List Int)(st:Int)(hs:0≤st∧st<18446744073709551616)(o:S.OpV)(ho:o.ok)(TK:TypeId)(w:World)(K0:Kst w TK)(D0:WRow .u8 32 S0 w a n ids)(hc:n≤c)(hn:n≤1000):
  Calls prog 55 #[.int .u32 x, .slice a n c, .int .u64 st, .agg (acC o).toArray] w (Gv w (bldC x n ids st o) (bldP x n ids st o) (BldP x n ids st o)):=by
 have hok:=bldO_ok (n:=n) (ids:=ids) ho hs;have h4:=S.preN_le n ids;refine J.enter 56 func55 rfl rfl ?_;refine run ?_;refine J.box rfl rfl rfl fun b1=>?_
 refine J.alloc rfl fun b2=>?_
 refine run ?_;refine J.alloc rfl fun b3=>?_
 refine run ?_;refine J.call rfl rfl (fun w' M=>bPreds a n c ids w' (D0.ext M.ext) hc hn) fun q hq=>?_
 refine run ?_;refine J.ifn rfl (fun c1=>?_) (fun c1=>?_)
 ·have he:=S.bldE_1 (x:=x) (st:=st) (o:=o) c1;obtain⟨e1,e2,e3⟩:=S.bld_no (x:=x) (n:=n) (ids:=ids) (st:=st) (o:=o) (by rw[he];exact c1);refine run ?_;refine J.bz rfl ?_;refine run ?_;refine J.nilR .u8 (J.nilW .u8 32 ?_);refine J.finG (⟨S.OpV.zero,none,0⟩,none,0,0) ?_ ⟨e1.symm,Nat.le_refl _⟩ ?_
  ·unfold bldC;rw[he,e3];rfl
  unfold bldP;rw[e2];exact .cons_cons _ (.cons_cons _ (List.nil_sublist _))
 have he:=S.bldE_2 (x:=x) (st:=st) (o:=o) c1;refine run ?_;refine J.call rfl rfl (fun w' M=>(RW.own' (a:=q.1) w' M).elim fun _ k0=>signB x hx ⟨S.bldO n ids st o,q.1,q.2⟩ TK w' (K0.ext M.ext) ⟨hok,k0,hq⟩) fun z hz=>?_
 obtain⟨⟨zo,zp,zc⟩,ze⟩:=z;obtain⟨hz1,hz2,hz3⟩:=hz;dsimp only at hz1 hz2 hz3⊢;subst hz2 hz3;refine run ?_;refine J.alloc rfl fun b4=>?_
 refine run ?_;refine J.ifn rfl (fun c2=>?_) (fun c2=>?_)
 ·obtain⟨e1,e2,e3⟩:=S.bld_no (x:=x) (n:=n) (ids:=ids) (st:=st) (o:=o) (by rw[he];exact c2);refine run ?_;refine J.bz rfl ?_;refine run ?_;refine J.nilR .u8 (J.nilW .u8 32 ?_);refine J.finG (⟨S.OpV.zero,none,0⟩,none,0,0) ?_ ⟨e1.symm,Nat.le_refl _⟩ ?_
  ·unfold bldC;rw[he,e3];rfl
  unfold bldP;rw[e2];exact .cons_cons _ (.cons_cons _ (List.nil_sublist _))
 refine J.fact (.wown 29 .u8 32 q.1 (S.preN n ids) q.2 (S.preL n ids)) (fun _ _ h=>(wown_len h).1) fun hpl=>?_
 have hg:=S.sign_good hok hpl c2;have hck:S.checkE (S.signS x (S.bldO n ids st o))=0:=hg.2.2.1;have hso:=S.signS_ok x _ hok;have hA:Arr .u8 32 (S.sha (S.encS (S.signS x (S.bldO n ids st o)))):=S.sha_arr _;obtain⟨e1,e2,e3⟩:=S.bld_yes (x:=x) (n:=n) (ids:=ids) (st:=st) (o:=o) (by rw[he];exact c2);refine run ?_;refine J.call rfl rfl (fun w' M=>(RW.row' (a:=zp) w' M).elim fun _ k0=>encB ⟨S.signS x (S.bldO n ids st o),zp,zc⟩ w' ⟨hso,k0,hz1⟩ hck) fun y hy=>?_
 refine run ?_;refine J.callp rfl rfl (fun w' M=>(RW.row' (a:=zp) w' M).elim fun _ k0=>idO (S.signS x (S.bldO n ids st o)) hso zp zc _ w' (K0.ext M.ext) k0 hz1) ?_;rw[if_pos hck,hck];refine run ?_;refine J.alloc rfl fun b5=>?_
 refine run ?_;refine J.regionR [.blk b5 (ints .u8 (S.sha (S.encS (S.signS x (S.bldO n ids st o))))) 29, .blk b4 (opC ⟨S.signS x (S.bldO n ids st o),zp,zc⟩) 39] [(0, .q),(1, .q),(2, .q),(3, .q),(4, .q),(5, .e),(6, .e),(7, .e),(8, .q),(9, .e),(10, .q)] mixed (by kernel_rfl) (by repeat(first|exact List.Sublist.refl _|refine List.Sublist.cons_cons _ ?_|refine List.Sublist.cons _ ?_)) ?_;refine run ?_;refine J.b2V (p:=0) (q:=0) inC (fun _=>rfl) rfl rfl rfl rfl rfl rfl rfl fun b6=>?_
 refine J.callp rfl rfl (fun w' M=>(RG.own' (a:=some ⟨b6,0,none⟩) w' M).elim fun _ k0=>bFirst _ w' k0) ?_;refine run ?_;refine J.front (.wrow .u8 32 zp (S.signS x (S.bldO n ids st o)).n (S.signS x (S.bldO n ids st o)).ids) ?_;refine J.finG (⟨S.signS x (S.bldO n ids st o),zp,zc⟩,y) ?_ ⟨e1.symm,hz1⟩ ?_
 ·unfold bldC;rw[he,c2,e3]
 unfold bldP;rw[e2]
 repeat(first|exact List.nil_sublist _|refine List.Sublist.cons_cons _ ?_|refine List.Sublist.cons _ ?_)
theorem rBuild(x:Int)(hx:0≤x∧x<4294967296){S0:Nat→Prop}(a:Option Addr)(n c:Nat)(ids:List Int)(st:Int)(hs:0≤st∧st<18446744073709551616)(o:S.OpV)(ho:o.ok)(w:World)(D0:WRow .u8 32 S0 w a n ids)(hc:n≤c)(hn:n≤1000):
  Calls prog 90 #[.int .u32 x, .slice a n c, .int .u64 st, .agg (acC o).toArray] w (Gv w (bldC x n ids st o) (bldP x n ids st o) (BldP x n ids st o)):=by
 have hok:=bldO_ok (n:=n) (ids:=ids) ho hs;have h4:=S.preN_le n ids;refine J.enter 41 func90 rfl rfl ?_;refine run ?_;refine J.box rfl rfl rfl fun b1=>?_
 refine J.alloc rfl fun b2=>?_
 refine run ?_;refine J.alloc rfl fun b3=>?_
 refine run ?_;refine J.call rfl rfl (fun w' M=>rPreds a n c ids w' (D0.ext M.ext) hc hn) fun q hq=>?_
 refine run ?_;refine J.ifn rfl (fun c1=>?_) (fun c1=>?_)
 ·have he:=S.bldE_1 (x:=x) (st:=st) (o:=o) c1;obtain⟨e1,e2,e3⟩:=S.bld_no (x:=x) (n:=n) (ids:=ids) (st:=st) (o:=o) (by rw[he];exact c1);refine run ?_;refine J.bz rfl ?_;refine run ?_;refine J.nilR .u8 (J.nilW .u8 32 ?_);refine J.finG (⟨S.OpV.zero,none,0⟩,none,0,0) ?_ ⟨e1.symm,Nat.le_refl _⟩ ?_
  ·unfold bldC;rw[he,e3];rfl
  unfold bldP;rw[e2];exact .cons_cons _ (.cons_cons _ (List.nil_sublist _))
 have he:=S.bldE_2 (x:=x) (st:=st) (o:=o) c1;refine run ?_;refine J.call rfl rfl (fun w' M=>(RW.own' (a:=q.1) w' M).elim fun _ k0=>signBR x hx ⟨S.bldO n ids st o,q.1,q.2⟩ w' ⟨hok,k0,hq⟩) fun z hz=>?_
 obtain⟨⟨zo,zp,zc⟩,ze⟩:=z;obtain⟨hz1,hz2,hz3⟩:=hz;dsimp only at hz1 hz2 hz3⊢;subst hz2 hz3;refine run ?_;refine J.alloc rfl fun b4=>?_
 refine run ?_;refine J.ifn rfl (fun c2=>?_) (fun c2=>?_)
 ·obtain⟨e1,e2,e3⟩:=S.bld_no (x:=x) (n:=n) (ids:=ids) (st:=st) (o:=o) (by rw[he];exact c2);refine run ?_;refine J.bz rfl ?_;refine run ?_;refine J.nilR .u8 (J.nilW .u8 32 ?_);refine J.finG (⟨S.OpV.zero,none,0⟩,none,0,0) ?_ ⟨e1.symm,Nat.le_refl _⟩ ?_
  ·unfold bldC;rw[he,e3];rfl
  unfold bldP;rw[e2];exact .cons_cons _ (.cons_cons _ (List.nil_sublist _))
 refine J.fact (.wown 29 .u8 32 q.1 (S.preN n ids) q.2 (S.preL n ids)) (fun _ _ h=>(wown_len h).1) fun hpl=>?_
 have hg:=S.sign_good hok hpl c2;have hck:S.checkE (S.signS x (S.bldO n ids st o))=0:=hg.2.2.1;have hz0:=S.check_zero.1 hck;have hso:=S.signS_ok x _ hok;have hA:Arr .u8 32 (S.sha (S.encS (S.signS x (S.bldO n ids st o)))):=S.sha_arr _;obtain⟨e1,e2,e3⟩:=S.bld_yes (x:=x) (n:=n) (ids:=ids) (st:=st) (o:=o) (by rw[he];exact c2);refine run ?_;refine J.regionR [.blk b4 (opC ⟨S.signS x (S.bldO n ids st o),zp,zc⟩) 39] [(0, .q),(1, .q),(3, .q),(2, .e),(4, .e),(5, .e),(6, .q),(7, .e),(8, .q)] mixed (by kernel_rfl) (by repeat(first|exact List.Sublist.refl _|refine List.Sublist.cons_cons _ ?_|refine List.Sublist.cons _ ?_)) ?_;refine run ?_;refine J.call rfl rfl (fun w' M=>(RW.row' (a:=zp) w' M).elim fun _ k0=>bytB ⟨S.signS x (S.bldO n ids st o),zp,zc⟩ w' ⟨hso,k0,hz1⟩ hz0.1 (fun hk=>S.fine4 hz0.2.2.2.2.2.2 hk)) fun y hy=>?_
 refine run ?_;refine J.callp rfl rfl (fun w' M=>(RW.row' (a:=zp) w' M).elim fun _ k0=>ofO (S.signS x (S.bldO n ids st o)) hso zp zc w' k0 hz1 hz0.1 (fun hk=>S.fine4 hz0.2.2.2.2.2.2 hk)) ?_;refine run ?_;refine J.front (.wrow .u8 32 zp (S.signS x (S.bldO n ids st o)).n (S.signS x (S.bldO n ids st o)).ids) ?_;refine J.finG (⟨S.signS x (S.bldO n ids st o),zp,zc⟩,y) ?_ ⟨e1.symm,hz1⟩ ?_
 ·unfold bldC;rw[he,c2,e3]
 unfold bldP;rw[e2]
 repeat(first|exact List.nil_sublist _|refine List.Sublist.cons_cons _ ?_|refine List.Sublist.cons _ ?_)
end W
namespace L
open Go Go.Proofs.YtaapnlnileblaaaGreatDoor G W
open Go.ChangeShapes Go.WideShapes Go.ChangeAt Go.RowKit
set_option maxRecDepth 100000
section
variable{H:Type}{enc:TypeId×Value→H}{w:World}{base:Nat}{sp:Nat→Bool}{held:Bool}{fuel:Nat}{cs:List Value}{x:DataW H×List MemPlace}
theorem act_in(h:DataW.trod enc prog w base sp held fuel 35 cs=some x):∃o:S.OpV,cs=acC o∧o.rng∧o.n=0:=by
  have hl:=(fields_in underlying35 h).1;rw[z_act]at hl
  match cs,hl,h with
  |[c3,c4,c5,c6,c7,c8],_,f3=>
    obtain⟨_,_,g0⟩:=field_in 0 underlying35 rfl z_u8 f3;obtain⟨_,_,g1⟩:=field_in 1 underlying35 rfl z_str f3;obtain⟨_,_,g2⟩:=field_in 2 underlying35 rfl z_val f3;obtain⟨k,e3,r3⟩:=int_in underlying5 g0;obtain⟨key,e4,_,_⟩:=DataW.trod_string underlying9 g1;obtain⟨_,_,v0⟩:=field_in 0 underlying33 rfl z_u8 g2;obtain⟨_,_,v1⟩:=field_in 1 underlying33 rfl z_i64 g2;obtain⟨_,_,v2⟩:=field_in 2 underlying33 rfl z_u64 g2;obtain⟨_,_,v3⟩:=field_in 3 underlying33 rfl z_str g2;obtain⟨vk,e5,r5⟩:=int_in underlying5 v0;obtain⟨num,e6,r6⟩:=int_in underlying2 v1;obtain⟨bits,e7,r7⟩:=int_in underlying31 v2;obtain⟨tx,e8,_,_⟩:=DataW.trod_string underlying9 v3;have q3:[c3]=[Value.int .u8 k]:=e3;have q4:[c4]=[Value.string key]:=e4;have q5:[c5]=[Value.int .u8 vk]:=e5;have q6:[c6]=[Value.int .i64 num]:=e6;have q7:[c7]=[Value.int .u64 bits]:=e7;have q8:[c8]=[Value.string tx]:=e8;simp only[List.cons.injEq,and_true]at q3 q4 q5 q6 q7 q8;subst q3 q4 q5 q6 q7 q8;have u8:IntKind.min .u8=0∧IntKind.max .u8=255:=by decide
    have u64:IntKind.min .u64=0∧IntKind.max .u64=18446744073709551615:=by decide
    have i64:IntKind.min .i64= -9223372036854775808∧IntKind.max .i64=9223372036854775807:=by decide
    refine⟨⟨0,0,k,vk,num,bits,0,0,0,[],key,tx⟩,rfl,⟨?_,?_,?_,?_,?_,?_,?_,?_⟩,rfl⟩<;>dsimp only<;>omega
end
end L
end Go.Proofs.YtaapnlnileblaaaGreatDoor
