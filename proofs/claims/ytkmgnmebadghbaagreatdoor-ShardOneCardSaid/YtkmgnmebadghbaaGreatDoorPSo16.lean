/-
  Part 16 of the lemmas of these laws: ShardOne.
-/
import Derived.Test.YtkmgnmebadghbaaGreatDoorPSo15
set_option linter.unusedVariables false
set_option linter.unusedSimpArgs false
open Go.Proofs.Tryz
namespace Go.Proofs.YtkmgnmebadghbaaGreatDoor
namespace W
open Go.RowKit G
set_option maxRecDepth 20000
set_option maxHeartbeats 8000000
attribute [local irreducible] RS RX RY Code.wp bodyPost J Ent.blk Ent.iown Ent.wrow Ent.wown Ent.gown Ent.all Ent.emp
instance:Ents prog 47:=⟨.mk func47 (by kernel_rfl) rfl⟩
instance:Ents prog 48:=⟨.mk func48 (by kernel_rfl) rfl⟩
instance:Ents prog 22:=⟨.mk func22 (by kernel_rfl) rfl⟩
instance:Ents prog 60:=⟨.mk func60 (by kernel_rfl) rfl⟩
instance:Ents prog 15:=⟨.mk func15 (by kernel_rfl) rfl⟩
instance:Ents prog 61:=⟨.mk func61 (by kernel_rfl) rfl⟩
instance:Ents prog 20:=⟨.mk func20 (by kernel_rfl) rfl⟩
instance:Ents prog 62:=⟨.mk func62 (by kernel_rfl) rfl⟩
theorem get_eq{v:S.ShV}{x:List Int}(hc:S.chkP (S.whole v.ps)=0)(h:S.okR v):S.getO (S.whole v.ps).m (S.whole v.ps).ids (S.whole v.ps).ops x=S.gtO v x∧S.getE (S.whole v.ps).m (S.whole v.ps).ids (S.whole v.ps).ops x=S.gtE v x:=by
 have hc:S.chkG (S.whole v.ps).m (S.whole v.ps).ids (S.whole v.ps).ops=0:=hc;unfold S.getO S.getE;rw[if_neg (not_not_intro hc),if_neg (not_not_intro hc)];by_cases c:S.inS (S.whole v.ps).m (S.whole v.ps).ids x
 ·rw[if_pos c,if_pos c,(S.gt_0 h c).1,(S.gt_0 h c).2];exact⟨rfl,rfl⟩
 rw[if_neg c,if_neg c,(S.gt_6 h c).1,(S.gt_6 h c).2];exact⟨rfl,rfl⟩
theorem gt_ok'{S0:Nat→Prop}{w:World}{s:ShA}(H:ShR S0 w s)(x:List Int)(h:S.okR s.V):(S.gtO s.V x).ok:=by
 by_cases k:S.inS (S.whole s.V.ps).m (S.whole s.V.ps).ids x
 ·rw[(S.gt_0 h k).1];have hg:=S.whole_good (ps:=s.V.ps) H.ml;have hlt:=(S.ix_in k).1;rw[S.getD_at (by rw[hg.2];exact hlt)];exact refWholeOk H _ (List.getElem_mem _)
 rw[(S.gt_6 h k).1];exact S.OpV.zero_ok
theorem shardOne{S0 S1:Nat→Prop}(s:ShA)(z:OpA)(x:List Int)(TK:TypeId)(w:World)(K0:Kst w TK)(G:ShI S0 w s)(hr:z.o.rng)(row:WRow .u8 32 S1 w z.pa z.o.n z.o.ids)(cap:z.o.n≤z.pc)(hx:Arr .u8 32 x):
  Calls prog 9 #[.agg (shC s).toArray, .agg (opC z).toArray, .agg (ints .u8 x).toArray] w (Ret w fun v _=>v= .bool true):=by
 refine J.enter 126 func9 rfl rfl ?_;refine run ?_;refine J.box rfl rfl rfl fun b1=>?_
 refine J.box rfl rfl rfl fun b2=>?_
 refine run ?_;refine J.box rfl rfl rfl fun b3=>?_
 refine run ?_;refine J.call rfl rfl (fun w' M=>shFit s w' (G.ext M.ext)) fun q1 hq1=>?_
 refine run ?_;refine J.spt rfl rfl rfl (fun c1=>?_) (fun c1=>?_)
 ·refine run ?_;refine J.callp rfl rfl (fun w' M=>shAlive TK w' (K0.ext M.ext)) ?_;refine run ?_;exact J.fin rfl
 refine run ?_;refine J.callp rfl rfl (fun w' M=>great z.o z.pa z.pc w') ?_;refine run ?_;refine J.ifd rfl (fun c2=>?_) (fun c2=>?_)
 ·refine run ?_;refine J.callp rfl rfl (fun w' M=>shAlive TK w' (K0.ext M.ext)) ?_;refine run ?_;exact J.fin rfl
 obtain⟨sm,hok⟩:=hq1 c1;obtain⟨H,hL⟩:=G.sh sm;have R:OpR S1 w z:=⟨hr.ok c2,row,cap⟩
 obtain⟨n1,n4⟩:=ok_len H hok;have hll:s.V.ps.length=s.pn:=by rw[List.length_map,H.pr.len]
 have hle:=H.le hL n4;have hwg:=S.whole_good (ps:=s.V.ps) H.ml;have hc:S.chkP (S.whole s.V.ps)=0:=hok.2.1;have hwo:=refWholeOk H;have ai:=S.addI_arr (S.whole s.V.ps) z.o;have sa:=add_size (a:=S.whole s.V.ps) (o:=z.o) hwg.1;have ka:=add_ok (a:=S.whole s.V.ps) hwo R.ok;have e1:S.puE s.V z.o=S.addE (S.whole s.V.ps) z.o:=if_pos hok;have e2:S.puI s.V z.o=S.addI (S.whole s.V.ps) z.o:=if_pos hok;refine run ?_;refine J.call rfl rfl (fun w' M=>shAll s TK w' (K0.ext M.ext) (H.ext M.ext) hL) fun q hq=>?_
 rw[S.al_0 hok]at hq;rw[S.chkH_0 hok];dsimp only[grE,List.cons_append,List.nil_append];have hqs:q.m≤70∧q.n≤70:=⟨by rw[hq.m];exact Nat.le_trans hle (by decide),by rw[hq.n,hwg.2];exact Nat.le_trans hle (by decide)⟩
 have hqP:q.P=S.whole s.V.ps:=GrP.P hq;have hqok:=hq.ok hwo;refine run ?_;refine J.alloc rfl fun b4=>?_
 refine run ?_;refine J.call rfl rfl (fun w' M=>shPut s z TK w' (K0.ext M.ext) (H.ext M.ext) hL (R.ext M.ext)) fun t ht=>?_
 rw[e1,e2];refine run ?_;refine J.alloc rfl fun b5=>?_
 refine J.alloc rfl fun b6=>?_
 refine run ?_;refine J.call rfl rfl (fun w' M=>dagAdd q z TK w' (K0.ext M.ext) (GrR.own hqok hq.cap hqs w' M) (R.ext M.ext)) fun d hd=>?_
 rw[hqP]at hd⊢;dsimp only[grE,List.cons_append,List.nil_append];refine run ?_;refine J.alloc rfl fun b7=>?_
 refine J.alloc rfl fun b8=>?_
 refine run ?_;refine J.spn rfl rfl rfl (fun c=>absurd rfl c) (fun _=>?_);refine run ?_;refine J.ifd rfl (fun c=>absurd rfl c) (fun _=>?_);refine run ?_;refine J.joinX (A:=Unit) (fun u=>[]) [15,16,66,67,68,69,70,71,72,73,74,75,76,77,78,79,80,81,82,83] (fun _=>[.blk b4 (grC q) 61, .gown opC 11 54 q.oa q.n q.oc q.zs, .all (q.zs.map (opE 27)), .wown 27 .u8 32 q.ia q.m q.ic q.ids, .blk b3 (ints .u8 x) 27, .blk b1 (shC s) 25]) (fun _=>True) ?_ (fun _ j1 _=>?_)
 ·refine J.ife rfl (fun c3=>?_) (fun c3=>?_)
  ·obtain⟨_,_,fh,hm1,_,_⟩:=S.add_fine hwg.1 c3;have hts:ShK (S.madeS (S.addP (S.whole s.V.ps) z.o) s.V.ps.length) t:=(S.pu_0 hok c3).2.1▸ht;obtain⟨ok2,ew⟩:=S.ok_made (g:=S.addP (S.whole s.V.ps) z.o) (n:=s.V.ps.length) fh (by omega);obtain⟨t1,t2⟩:=hts.sz (Nat.le_trans sa.2 (by decide)) (by omega);rw[←hts.V]at ok2 ew;have htL:=hts.L fh;have hds:=hd.sz sa;refine run ?_;refine J.call rfl rfl (fun w' M=>shAll t TK w' (K0.ext M.ext) (ShR.own hts.k t1 t2 w' M) htL) fun k hk=>?_
   rw[S.al_0 ok2,ew]at hk;rw[S.chkH_0 ok2];dsimp only[grE,List.cons_append,List.nil_append];refine run ?_;refine J.alloc rfl fun b9=>?_
   have hks:=hk.sz sa;refine run ?_;refine J.callp rfl rfl (fun w' M=>refGSame k d w' (GrR.own (hk.ok ka) hk.cap hks w' M) (GrR.own (hd.ok ka) hd.cap hds w' M)) ?_;rw[show decide (k.ids=d.ids∧k.ops=d.ops)=true from decide_eq_true ⟨hk.ids.trans hd.ids.symm,hk.ops.trans hd.ops.symm⟩];refine run ?_;refine J.callp rfl rfl (fun w' M=>refShCheck t w' (ShR.own hts.k t1 t2 w' M) htL) ?_;rw[S.chkH_0 ok2];refine run ?_;refine J.drop (E:=[.blk b4 (grC q) 61, .gown opC 11 54 q.oa q.n q.oc q.zs, .all (q.zs.map (opE 27)), .wown 27 .u8 32 q.ia q.m q.ic q.ids, .blk b3 (ints .u8 x) 27, .blk b1 (shC s) 25]) sb ?_;exact J.cut () trivial (by kernel_rfl) trivial
  refine run ?_;refine J.drop (E:=[.blk b4 (grC q) 61, .gown opC 11 54 q.oa q.n q.oc q.zs, .all (q.zs.map (opE 27)), .wown 27 .u8 32 q.ia q.m q.ic q.ids, .blk b3 (ints .u8 x) 27, .blk b1 (shC s) 25]) sb ?_;exact J.cut () trivial (by kernel_rfl) trivial
 have hqc:S.chkG q.m q.ids q.ops=0:=by
  have:=hc;rw[←hqP]at this;exact this
 obtain⟨g1,g2⟩:=get_eq (x:=x) hc hok;rw[←hqP]at g1 g2;refine run ?_;refine J.callp rfl rfl (fun w' M=>shHas s x TK w' (K0.ext M.ext) (H.ext M.ext) hL hx) ?_;rw[S.chkH_0 hok,S.hs_0 hok];refine run ?_;refine J.callp rfl rfl (fun w' M=>dagHas q x TK w' (K0.ext M.ext) (GrR.own hqok hq.cap hqs w' M) hx) ?_;rw[show decide (S.chkG q.m q.ids q.ops=0∧S.inS q.m q.ids x)=decide (S.inS (S.whole s.V.ps).m (S.whole s.V.ps).ids x)from decide_eq_decide.2 (by rw[←hq.m,←hq.ids];exact⟨fun h=>h.2,fun h=>⟨hqc,h⟩⟩),hqc];refine run ?_;refine J.call rfl rfl (fun w' M=>shGet s x TK w' (K0.ext M.ext) (H.ext M.ext) hL hx) fun y1 hy1=>?_
 refine run ?_;refine J.alloc rfl fun b10=>?_
 refine run ?_;refine J.call rfl rfl (fun w' M=>dagGet q x TK w' (K0.ext M.ext) (GrR.own hqok hq.cap hqs w' M) hx) fun y2 hy2=>?_
 obtain⟨y2,e⟩:=y2;dsimp only at hy2⊢;obtain⟨k1,k2,k3⟩:=hy2;have k3:e=S.gtE s.V x:=k3.trans g2;have k2:y2.o=S.gtO s.V x:=k2.trans g1;subst k3;refine run ?_;refine J.alloc rfl fun b11=>?_
 refine run ?_;have o1:y1.o.ok:=by rw[hy1.2];exact gt_ok' H x hok
 have o2:y2.o.ok:=by rw[k2];exact gt_ok' H x hok
 refine J.sp rfl rfl rfl (fun _=>?_) (fun c=>by simp at c);refine run ?_;refine J.spe rfl rfl rfl (fun _=>?_) (fun c=>absurd rfl c);refine run ?_;refine J.callp rfl rfl (fun w' M=>(RW.row' (a:=y1.pa) w' M).elim fun _ m1=>(RW.row' (a:=y2.pa) w' M).elim fun _ m2=>sameO y1.o y2.o o1 o2 _ _ _ _ w' m1 m2) ?_;rw[show decide (S.SameO y1.o y2.o)=true from decide_eq_true (by rw[hy1.2,k2];exact S.sameO_refl _)];refine run ?_;refine J.callp rfl rfl (fun w' M=>shAlive TK w' (K0.ext M.ext)) ?_;refine run ?_;exact J.fin rfl
end W
end Go.Proofs.YtkmgnmebadghbaaGreatDoor
