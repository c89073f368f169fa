/-
  Part 12 of the lemmas of these laws: ShardSplit.
-/
import Derived.Test.YtkmgnmebadghbaaGreatDoorPSx11
set_option linter.unusedVariables false
set_option linter.unusedSimpArgs false
open Go.Proofs.Tryz
namespace Go.Proofs.YtkmgnmebadghbaaGreatDoor
namespace W
open Go.RowKit G
set_option maxRecDepth 20000
set_option maxHeartbeats 8000000
attribute [local irreducible] RS RX RY Code.wp bodyPost J Ent.blk Ent.iown Ent.wrow Ent.wown Ent.gown Ent.all Ent.emp
instance:Ents prog 68:=⟨.mk func68 (by kernel_rfl) rfl⟩
instance:Ents prog 18:=⟨.mk func18 (by kernel_rfl) rfl⟩
instance:Ents prog 66:=⟨.mk func66 (by kernel_rfl) rfl⟩
theorem shCheck{S0:Nat→Prop}(s:ShA)(TK:TypeId)(w:World)(K0:Kst w TK)(H:ShR S0 w s)(hL:ShL s):
  Calls prog 18 #[.agg (shC s).toArray] w (Ret w fun v _=>v= .int .i64 (S.chkH s.V)):=by
 refine J.enter 10 func18 rfl rfl ?_;refine run ?_;refine J.box rfl rfl rfl fun b1=>?_
 refine run ?_;refine J.call rfl rfl (fun w' M=>shWhole s _ w' (K0.ext M.ext) (H.ext M.ext) hL) fun q hq=>?_
 dsimp only[grE,List.cons_append,List.nil_append];refine run ?_;refine J.alloc rfl fun b3=>?_
 refine run ?_;exact J.fin rfl
theorem shNum{S0:Nat→Prop}(s:ShA)(x:List Int)(TK:TypeId)(w:World)(K0:Kst w TK)(H:ShR S0 w s)(hL:ShL s)(hx:Arr .u8 32 x):
  Calls prog 13 #[.agg (shC s).toArray, .agg (ints .u8 x).toArray] w (Ret w fun v _=>v= .tuple #[.int .i64 (S.nbO s.V x), .int .i64 (S.chkH s.V)]):=by
 have hcp:=H.cap;have hll:s.V.ps.length=s.pn:=by rw[List.length_map,H.pr.len]
 refine J.enter 15 func13 rfl rfl ?_;refine run ?_;refine J.box rfl rfl rfl fun b1=>?_
 refine run ?_;refine J.box rfl rfl rfl fun b2=>?_
 refine run ?_;refine J.callp rfl rfl (fun w' M=>shCheck s _ w' (K0.ext M.ext) (H.ext M.ext) hL) ?_;refine run ?_;refine J.ifn rfl (fun c1=>?_) (fun c1=>?_)
 ·obtain⟨k1,k2⟩:=S.chkH_ne c1;refine run ?_;exact J.fin (tup2 (congrArg _ (S.nb_8 k1).symm) rfl)
 have hok:=S.chkH_iff.1 c1;obtain⟨n1,n4⟩:=ok_len H hok;refine run ?_;refine J.callp rfl rfl (fun w' M=>shNumber x (s.pn:Nat) hx ⟨by omega,by omega⟩ w') ?_;refine run ?_;exact J.fin (tup2 (congrArg _ (by rw[S.nb_0 hok,hll])) (congrArg _ c1.symm))
theorem shFind{S0:Nat→Prop}(s:ShA)(x:List Int)(g:GrA)(w:World)(H:ShR S0 w s)(hx:Arr .u8 32 x)(hgp:S.goodPs s.V.ps)(h1:1≤s.pn)(hg:s.gs[S.resN s.V.ps x]? =some g):
  Calls prog 66 #[.agg (shC s).toArray, .agg (ints .u8 x).toArray] w (Ret w fun v _=>v= .tuple #[.int .i64 (S.resN s.V.ps x:Nat), .int .i64 (S.spotS g.m g.ids x:Nat), .bool (decide (S.inS g.m g.ids x))]):=by
 have P0:=H.pr;have hcp:=H.cap;have hll:s.V.ps.length=s.pn:=by rw[List.length_map,H.pr.len]
 obtain⟨r1,r2⟩:=S.res_lt (ps:=s.V.ps) (x:=x) (by omega);have G:=H.g hg;have hgP:=shAt hg;have hr:S.Rising g.m g.ids:=by have:=(hgp _ r2).2.1;rw[hgP]at this;exact this
 obtain⟨r,hr0⟩:=ex (S.resN s.V.ps x);rw[←hr0]at r1 r2 hg⊢;have hg2:s.gs[((r:Nat):Int).toNat]? =some g:=by rw[Int.toNat_natCast];exact hg
 have hcp2:=G.cap;refine J.enter 24 func66 rfl rfl ?_;refine run ?_;refine J.box rfl rfl rfl fun b1=>?_
 refine run ?_;refine J.box rfl rfl rfl fun b2=>?_
 refine run ?_;refine J.callp rfl rfl (fun w' M=>shNumber x (s.pn:Nat) hx ⟨by omega,by omega⟩ w') ?_;rw[←hll,←r1];refine run ?_;refine J.regionX [(0, .q),(1, .q),(2, .q),(3, .q),(4, .q),(5, .q),(6, .q),(7, .e),(8, .q),(9, .q),(10, .q),(11, .q),(12, .q)] mixed (by kernel_rfl) ?_;refine run ?_;refine J.callp rfl rfl (fun w' M=>bsID _ _ _ _ _ _ (G.ids.ext M.ext) hx hr (by omega)) ?_;refine run ?_;exact J.fin rfl
theorem shAll{S0:Nat→Prop}(s:ShA)(TK:TypeId)(w:World)(K0:Kst w TK)(H:ShR S0 w s)(hL:ShL s):
  Calls prog 22 #[.agg (shC s).toArray] w (Gv w (fun q:GrA=> .tuple #[.agg (grC q).toArray, .int .i64 (S.chkH s.V)]) (grE 27 54) (GrP (S.alP s.V).m (S.alP s.V).ids (S.alP s.V).ops)):=by
 refine J.enter 7 func22 rfl rfl ?_;refine run ?_;refine J.box rfl rfl rfl fun b1=>?_
 refine run ?_;refine J.alloc rfl fun b2=>?_
 refine run ?_;refine J.call rfl rfl (fun w' M=>shWhole s _ w' (K0.ext M.ext) (H.ext M.ext) hL) fun q hq=>?_
 dsimp only[grE,List.cons_append,List.nil_append];refine run ?_;exact J.finG q rfl hq sb
theorem shHeads{S0:Nat→Prop}(s:ShA)(TK:TypeId)(w:World)(K0:Kst w TK)(H:ShR S0 w s)(hL:ShL s):
  Calls prog 24 #[.agg (shC s).toArray] w (Gv w (fun q:Option Addr×Nat×Nat=> .tuple #[.slice q.1 q.2.1 q.2.2, .int .i64 (S.hdV s.V), .int .i64 (S.chkH s.V)]) (fun q=>[.wrow .u8 32 q.1 q.2.1 (S.hdL s.V)]) fun q=>q.2.1≤100):=by
 have hcp:=H.cap;refine J.enter 15 func24 rfl rfl ?_;refine run ?_;refine J.box rfl rfl rfl fun b1=>?_
 refine run ?_;refine J.callp rfl rfl (fun w' M=>shCheck s _ w' (K0.ext M.ext) (H.ext M.ext) hL) ?_;refine run ?_;refine J.ifn rfl (fun c1=>?_) (fun c1=>?_)
 ·obtain⟨k1,k2⟩:=S.chkH_ne c1;rw[k2,(S.hd_8 k1).1,(S.hd_8 k1).2];refine run ?_;refine J.nilW .u8 32 ?_;exact J.finG (none,0,0) rfl (Nat.zero_le _) (.cons_cons _ (List.nil_sublist _))
 have hok:=S.chkH_iff.1 c1;rw[c1,(S.hd_0 hok).1,(S.hd_0 hok).2];refine run ?_;refine J.regionR [.blk b1 (shC s) 25] [(0, .q),(1, .q),(3, .q),(4, .q),(2, .e),(5, .q),(6, .q),(7, .q)] mixed (by kernel_rfl) (by repeat(first|exact List.Sublist.refl _|refine List.Sublist.cons_cons _ ?_|refine List.Sublist.cons _ ?_)) ?_;refine run ?_;refine J.call rfl rfl (fun w' M=>cloneW _ _ _ _ _ (H.hr.ext M.ext) hcp.2.1 (by omega)) fun q hq=>?_
 refine run ?_;refine J.re (.wown 27 .u8 32 q.1 s.hn q.2 s.hs) (.wrow .u8 32 q.1 s.hn s.hs) (fun S w=>wown_wrow) ?_;exact J.finG (q.1,s.hn,q.2) rfl hcp.2.2.2 sb
theorem grAll_nil(n:Nat):(List.replicate n GrA.nil).map grAll=List.replicate n (.all (grE 27 54 ⟨none,none,0,0,0,0,[],[]⟩)):=by rw[List.map_replicate];rfl
theorem shNew(n:Int)(w:World):
  Calls prog 11 #[.int .i64 n] w (Gv w (fun q:ShA=> .tuple #[.agg (shC q).toArray, .int .i64 (S.nwE n)]) (fun q=>shE q) (ShK (S.nwS n))):=by
 refine J.enter 13 func11 rfl rfl ?_;refine run ?_;refine J.alloc rfl fun b2=>?_
 refine run ?_;refine J.spd rfl rfl rfl (fun c1=>?_) (fun c1=>?_)
 ·refine run ?_;refine J.nilWo 27 .u8 32 ?_;refine J.noA ?_;refine J.nilG (fun g:GrA=>grC g) 2 61 grC_len ?_;have e1:S.nwE n=2:=if_neg (by omega);have e2:S.nwS n=S.ShV.zero:=if_neg (by omega);rw[e1,e2];exact J.finG ShA.zero rfl ⟨rfl,fun g hg=>by cases hg⟩ sb
 refine run ?_;refine J.ifd rfl (fun c2=>?_) (fun c2=>?_)
 ·refine run ?_;refine J.nilWo 27 .u8 32 ?_;refine J.noA ?_;refine J.nilG (fun g:GrA=>grC g) 2 61 grC_len ?_;have e1:S.nwE n=2:=if_neg (by omega);have e2:S.nwS n=S.ShV.zero:=if_neg (by omega);rw[e1,e2];exact J.finG ShA.zero rfl ⟨rfl,fun g hg=>by cases hg⟩ sb
 have e1:S.nwE n=0:=if_pos (by omega);have e2:S.nwS n=S.madeS S.PG.nil n.toNat:=if_pos (by omega);obtain⟨N,rfl⟩:∃N:Nat,n=(N:Int):=⟨n.toNat,by omega⟩
 rw[Int.toNat_natCast]at e2;rw[e1,e2];refine run ?_;refine J.mkG (fun g:GrA=>grC g) GrA.nil grC_len rfl rfl rfl rfl fun b3=>?_
 refine run ?_;refine J.nilWo 27 .u8 32 ?_;refine J.newA ((List.replicate N GrA.nil).map grAll) ?_ (fun w=>by rw[grAll_nil];exact nil_rep _ _ w N);refine J.front (.gown (fun g:GrA=>grC g) 2 61 (some ⟨b3,0,none⟩) N N (List.replicate N GrA.nil)) ?_;refine J.finG ⟨some ⟨b3,0,none⟩,N,N,List.replicate N GrA.nil,none,0,0,[],0⟩ rfl ⟨?_,fun g hg=>?_⟩ sb
 ·rw[S.made_nil];unfold ShA.V;dsimp only;rw[List.map_replicate];rfl
 obtain rfl:=List.eq_of_mem_replicate hg;exact⟨fun z hz=>(by cases hz),fun z hz=>(by cases hz)⟩
structure ShI(S0:Nat→Prop)(w:World)(s:ShA):Prop where
 pr:GRow (fun g:GrA=>grC g) 2 S0 w s.pa s.pn s.gs
 gi:∀g∈s.gs,GrI S0 w g
 hr:WRow .u8 32 S0 w s.ha s.hn s.hs
 cap:s.pn≤s.pc∧s.hn≤s.hc
theorem ShI.ext{S0:Nat→Prop}{w w':World}{s:ShA}(h:ShI S0 w s)(x:Ext w w'):ShI S0 w' s:=⟨h.pr.ext x,fun g hg=>(h.gi g hg).ext x,h.hr.ext x,h.cap⟩
def ShSm(s:ShA):Prop:=s.pn≤6∧s.hn≤60∧∀k,k<s.pn→∀g,s.gs[k]? =some g→(g.m≤16∧g.n≤16)∧GrSm g
theorem ShI.sh{S0:Nat→Prop}{w:World}{s:ShA}(h:ShI S0 w s)(k:ShSm s):ShR S0 w s∧ShL s:=by
 have hl:=h.pr.len;have each:∀g∈s.gs,(g.m≤16∧g.n≤16)∧GrSm g:=fun g hg=>by
  obtain⟨i,hi,rfl⟩:=List.getElem_of_mem hg;exact k.2.2 i (by omega) _ (List.getElem?_eq_getElem hi)
 exact ⟨⟨h.pr, fun g hg => (h.gi g hg).gr (each g hg).2, h.hr, h.cap.1, h.cap.2, k.1, by have := k.2.1; omega⟩, fun hn4 => by
  have h2 := S.allN_le (ps := s.V.ps) (b := 16) (fun p hp => by
   obtain ⟨g, hg, rfl⟩ := List.mem_map.1 hp
   exact (each g hg).1.1) s.V.ps.length (Nat.le_refl _)
  have h3 : s.V.ps.length = s.pn := by rw [List.length_map, hl]
  rw [List.take_length] at h2
  omega⟩
theorem refShGreat{S0:Nat→Prop}(s:ShA)(w:World)(H:ShI S0 w s):
  Calls prog 10 #[.agg (shC s).toArray] w (Gv w (fun q:Bool=> .bool q) (fun _=>[]) fun q=>q=false→ShSm s):=by
 have P0:=H.pr;have hl:=P0.len;refine J.enter 50 func10 rfl rfl ?_;refine run ?_;refine J.box rfl rfl rfl fun b1=>?_
 refine run ?_;refine J.loopS (A:=Nat) (fun p=>[(3, .int .i64 (p:Nat))]) [4,5,6,7,8,9,10,11,12,13,14,15,16,17,18,19,20,21,22,23,24,25,26,27,28,29,30,31,32,33,34,35,36,37,38,39,40] (fun p=>(p≤s.pn∧p≤7)∧∀k,k<p→∀g,s.gs[k]? =some g→(g.m≤16∧g.n≤16)∧GrSm g) (fun p=>7 - p) 0 (by kernel_rfl) ⟨⟨Nat.zero_le _,Nat.zero_le _⟩,fun k hk=>absurd hk (Nat.not_lt_zero _)⟩ (fun p j hI=>?_);obtain⟨⟨hp,hp7⟩,hI⟩:=hI;refine run ?_;refine J.spd rfl rfl rfl (fun c1=>?_) (fun c1=>?_)
 ·refine run ?_;refine J.ifd rfl (fun c2=>?_) (fun c2=>?_)
  ·obtain⟨g,hg⟩:=P0.ex (i:=(p:Nat)) (by omega);have hg':=hg;rw[Int.toNat_natCast]at hg';have G:=H.gi g (List.mem_of_getElem? hg');refine run ?_;refine J.spd rfl rfl rfl (fun c3=>?_) (fun c3=>?_)
   ·refine run ?_;exact J.finG true rfl (fun h=>by cases h) (List.nil_sublist _)
   refine run ?_;refine J.spd rfl rfl rfl (fun c4=>?_) (fun c4=>?_)
   ·refine run ?_;exact J.finG true rfl (fun h=>by cases h) (List.nil_sublist _)
   refine run ?_;refine J.call rfl rfl (fun w' M=>refGreat g w' (G.ext M.ext)) fun q hq=>?_
   refine run ?_;refine J.ifb rfl (fun c5=>?_) (fun c5=>?_)
   ·refine run ?_;exact J.finG true rfl (fun h=>by cases h) (List.nil_sublist _)
   refine run ?_;refine J.nextS (p+1) ⟨rfl,trivial⟩ (by kernel_rfl) ⟨⟨by omega,by omega⟩,fun k hk h hh=>?_⟩ (by omega);rcases Nat.lt_or_ge k p with c|c
   ·exact hI k c h hh
   obtain rfl:k=p:=by omega
   rw[hg']at hh;obtain rfl:=Option.some.inj hh;exact⟨⟨by omega,by omega⟩,hq c5⟩
  refine run ?_;refine J.spd rfl rfl rfl (fun c6=>?_) (fun c6=>absurd (by omega) c6);refine run ?_;exact J.finG true rfl (fun h=>by cases h) (List.nil_sublist _)
 refine run ?_;refine J.spd rfl rfl rfl (fun c6=>?_) (fun c6=>?_)
 ·refine run ?_;exact J.finG true rfl (fun h=>by cases h) (List.nil_sublist _)
 refine run ?_;refine J.finG _ rfl (fun h=>?_) (List.nil_sublist _);have h2:=of_decide_eq_false h;exact⟨by omega,by omega,fun k hk=>hI k (by omega)⟩
end W
namespace L
open Go Go.Proofs.YtkmgnmebadghbaaGreatDoor G W
open Go.ChangeShapes Go.WideShapes Go.ChangeAt Go.RowKit
set_option maxRecDepth 100000
theorem z_shint:prog.cellsOf 3=1:=by kernel_rfl
theorem z_shards:prog.cellsOf 25=3:=by kernel_rfl
theorem z_grs:prog.cellsOf 22=1:=by kernel_rfl
section
variable{H:Type}{enc:TypeId×Value→H}{w:World}{base:Nat}{sp:Nat→Bool}{held:Bool}{fuel:Nat}{cs:List Value}{x:DataW H×List MemPlace}
theorem shards_in(h:DataW.trod enc prog w base sp held fuel 25 cs=some x):∃s:ShA,cs=shC s∧ShI (fun _=>True) w s:=by
  have hl:=(fields_in underlying25 h).1;rw[z_shards]at hl
  match cs,hl,h with
  |[c0,c1,c2],_,h=>
    obtain⟨_,_,f0⟩:=field_in 0 underlying25 rfl z_grs h;obtain⟨_,_,f1⟩:=field_in 1 underlying25 rfl z_ids h;obtain⟨_,_,f2⟩:=field_in 2 underlying25 rfl z_shint h;obtain⟨pa,pn,pc,gs,e0,c0',R0,Q0⟩:=grow_in (fun g:GrA=>grC g) (fun g=>GrI (fun _=>True) w g) GrA.nil grC_len underlying22 z_gr (by decide) (fun m ds y hd=>graph_in hd) f0;obtain⟨ha,hn,hc,hs,e1,c1',R1⟩:=ids_in underlying23 underlying27 underlying5 z_u8 z_id (by decide) f1;obtain⟨ver,e2,_⟩:=int_in underlying3 f2;have q0:[c0]=[Value.slice pa pn pc]:=e0;have q1:[c1]=[Value.slice ha hn hc]:=e1;have q2:[c2]=[Value.int .i64 ver]:=e2;simp only[List.cons.injEq,and_true]at q0 q1 q2;subst q0 q1 q2;exact⟨⟨pa,pn,pc,gs,ha,hn,hc,hs,ver⟩,rfl,R0,Q0,R1,c0',c1'⟩
end
end L
end Go.Proofs.YtkmgnmebadghbaaGreatDoor
