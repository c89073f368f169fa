/-
  Part 16 of the lemmas of these laws: ShardHeads.
-/
import Derived.Test.YtkmgnmebadghbaaGreatDoorPSh15
set_option linter.unusedVariables false
set_option linter.unusedSimpArgs false
open Go.Proofs.Tryz
namespace Go.Proofs.YtkmgnmebadghbaaGreatDoor
namespace W
open Go.RowKit G
set_option maxRecDepth 20000
set_option maxHeartbeats 8000000
attribute [local irreducible] RS RX RY Code.wp bodyPost J Ent.blk Ent.iown Ent.wrow Ent.wown Ent.gown Ent.all Ent.emp
instance:Ents prog 47:=⟨.mk func47 (by kernel_rfl) rfl⟩
instance:Ents prog 48:=⟨.mk func48 (by kernel_rfl) rfl⟩
instance:Ents prog 22:=⟨.mk func22 (by kernel_rfl) rfl⟩
theorem shHeads2{S0:Nat→Prop}(s:ShA)(TK:TypeId)(w:World)(K0:Kst w TK)(H:ShR S0 w s)(hL:ShL s)(hok:S.okR s.V):
  Calls prog 24 #[.agg (shC s).toArray] w (Gv w (fun q:Option Addr×Nat×Nat=> .tuple #[.slice q.1 q.2.1 q.2.2, .int .i64 s.ver, .int .i64 0]) (fun q=>[.wrow .u8 32 q.1 q.2.1 s.hs]) fun q=>q.2.1≤100∧q.2.1≤q.2.2∧q.2.1=s.hn):=by
 have hcp:=H.cap;refine J.enter 15 func24 rfl rfl ?_;refine run ?_;refine J.box rfl rfl rfl fun b1=>?_
 refine run ?_;refine J.callp rfl rfl (fun w' M=>shCheck s _ w' (K0.ext M.ext) (H.ext M.ext) hL) ?_;rw[S.chkH_0 hok];refine run ?_;refine J.regionR [.blk b1 (shC s) 25] [(0, .q),(1, .q),(3, .q),(4, .q),(2, .e),(5, .q),(6, .q),(7, .q)] mixed (by kernel_rfl) (by repeat(first|exact List.Sublist.refl _|refine List.Sublist.cons_cons _ ?_|refine List.Sublist.cons _ ?_)) ?_;refine run ?_;refine J.call rfl rfl (fun w' M=>cloneW _ _ _ _ _ (H.hr.ext M.ext) hcp.2.1 (by omega)) fun q hq=>?_
 refine run ?_;refine J.re (.wown 27 .u8 32 q.1 s.hn q.2 s.hs) (.wrow .u8 32 q.1 s.hn s.hs) (fun S w=>wown_wrow) ?_;exact J.finG (q.1,s.hn,q.2) rfl ⟨hcp.2.2.2,hq,rfl⟩ sb
theorem shardHeads{S0 S1:Nat→Prop}(s:ShA)(z:OpA)(TK:TypeId)(w:World)(K0:Kst w TK)(G:ShI S0 w s)(hr:z.o.rng)(row:WRow .u8 32 S1 w z.pa z.o.n z.o.ids)(cap:z.o.n≤z.pc):
  Calls prog 6 #[.agg (shC s).toArray, .agg (opC z).toArray] w (Ret w fun v _=>v= .bool true):=by
 refine J.enter 135 func6 rfl rfl ?_;refine run ?_;refine J.box rfl rfl rfl fun b1=>?_
 refine J.box rfl rfl rfl fun b2=>?_
 refine run ?_;refine J.call rfl rfl (fun w' M=>shFit s w' (G.ext M.ext)) fun q1 hq1=>?_
 refine run ?_;refine J.spt rfl rfl rfl (fun c1=>?_) (fun c1=>?_)
 ·refine run ?_;refine J.callp rfl rfl (fun w' M=>shAlive TK w' (K0.ext M.ext)) ?_;refine run ?_;exact J.fin rfl
 refine run ?_;refine J.callp rfl rfl (fun w' M=>great z.o z.pa z.pc w') ?_;refine run ?_;refine J.ifd rfl (fun c2=>?_) (fun c2=>?_)
 ·refine run ?_;refine J.callp rfl rfl (fun w' M=>shAlive TK w' (K0.ext M.ext)) ?_;refine run ?_;exact J.fin rfl
 obtain⟨sm,hok⟩:=hq1 c1;obtain⟨H,hL⟩:=G.sh sm;have R:OpR S1 w z:=⟨hr.ok c2,row,cap⟩
 have h20:=R.ok.n;have hokp:=(S.ok_iff (v:=s.V) H.ml).1 hok;obtain⟨n1,n4⟩:=ok_len H hok;have hll:s.V.ps.length=s.pn:=by rw[List.length_map,H.pr.len]
 have hle:=H.le hL n4;have hwg:=S.whole_good (ps:=s.V.ps) H.ml;have hc:S.chkP (S.whole s.V.ps)=0:=hok.2.1;have hwo:=refWholeOk H;have hhl:=H.hr.len;have hver:s.ver=((S.whole s.V.ps).m:Nat):=hokp.2.2.2.1;have hhs:s.hs=S.hdI (S.whole s.V.ps):=hokp.2.2.2.2;have hhn:S.hdN (S.whole s.V.ps)=s.hn:=by
  have hd1:=(S.hd_all (g:=S.whole s.V.ps) ((S.chkP_fine hwg.1).1 hc)).1;rw[←hhs]at hd1;omega
 have ai:=S.addI_arr (S.whole s.V.ps) z.o;have sa:=add_size (a:=S.whole s.V.ps) (o:=z.o) hwg.1;have e1:S.puE s.V z.o=S.addE (S.whole s.V.ps) z.o:=if_pos hok;have e2:S.puI s.V z.o=S.addI (S.whole s.V.ps) z.o:=if_pos hok;refine run ?_;refine J.call rfl rfl (fun w' M=>shAll s TK w' (K0.ext M.ext) (H.ext M.ext) hL) fun q hq=>?_
 rw[S.al_0 hok]at hq;rw[S.chkH_0 hok];dsimp only[grE,List.cons_append,List.nil_append];have hqs:q.m≤70∧q.n≤70:=⟨by rw[hq.m];exact Nat.le_trans hle (by decide),by rw[hq.n,hwg.2];exact Nat.le_trans hle (by decide)⟩
 have hqP:q.P=S.whole s.V.ps:=GrP.P hq;have hqok:=hq.ok hwo;have hqm:q.m=(S.whole s.V.ps).m:=hq.m;have hqc:S.chkG q.m q.ids q.ops=0:=by
  have:=hc;rw[←hqP]at this;exact this
 refine run ?_;refine J.alloc rfl fun b4=>?_
 refine run ?_;refine J.call rfl rfl (fun w' M=>shHeads2 s TK w' (K0.ext M.ext) (H.ext M.ext) hL hok) fun d1 hd1=>?_
 obtain⟨ha,hn,hcc⟩:=d1;dsimp only at hd1⊢;obtain⟨_,_,rfl⟩:=hd1;refine run ?_;refine J.call rfl rfl (fun w' M=>ancHeads q TK w' (K0.ext M.ext) (GrR.own hqok hq.cap hqs w' M) hqc) fun d2 hd2=>?_
 obtain⟨xa,xn,xc⟩:=d2;dsimp only at hd2⊢;have hxn:xn=s.hn:=by rw[hd2,hqP];exact hhn
 refine run ?_;refine J.spn rfl rfl rfl (fun c=>absurd (by rw[hver,←hqm]) c) (fun _=>?_);refine run ?_;refine J.callp rfl rfl (fun w' M=>(RW.row' (a:=ha) w' M).elim fun _ k1=>(RW.own' (a:=xa) w' M).elim fun _ k2=>sameIDs _ _ _ _ _ _ _ _ w' k1 k2 (by have:=H.cap;omega) (by have:=H.cap;omega)) ?_;rw[show decide (s.hs=S.hdI q.P)=true from decide_eq_true (by rw[hqP];exact hhs)];refine run ?_;refine J.call rfl rfl (fun w' M=>shPut s z TK w' (K0.ext M.ext) (H.ext M.ext) hL (R.ext M.ext)) fun t ht=>?_
 rw[e1,e2];refine run ?_;refine J.alloc rfl fun b5=>?_
 refine J.alloc rfl fun b6=>?_
 refine run ?_;refine J.ifn rfl (fun c3=>?_) (fun c3=>?_)
 ·refine run ?_;refine J.callp rfl rfl (fun w' M=>shAlive TK w' (K0.ext M.ext)) ?_;refine run ?_;exact J.fin rfl
 obtain⟨fg,_,fh,hm1,hid,_⟩:=S.add_fine hwg.1 c3;have hts:ShK (S.madeS (S.addP (S.whole s.V.ps) z.o) s.V.ps.length) t:=(S.pu_0 hok c3).2.1▸ht;obtain⟨ok2,ew⟩:=S.ok_made (g:=S.addP (S.whole s.V.ps) z.o) (n:=s.V.ps.length) fh (by omega);obtain⟨t1,t2⟩:=hts.sz (Nat.le_trans sa.2 (by decide)) (by omega);rw[←hts.V]at ok2;have htL:=hts.L fh;have hths:t.hs=S.hdI (S.addP (S.whole s.V.ps) z.o):=congrArg S.ShV.hs hts.V;have hthn:t.hn=S.hdN (S.addP (S.whole s.V.ps) z.o):=congrArg S.ShV.hn hts.V;have htv:t.ver=((S.addP (S.whole s.V.ps) z.o).m:Nat):=congrArg S.ShV.ver hts.V;have hnew:=fun y=>S.hd_new (y:=y) hwg.1 c3;have hnot:=fun(y:List Int) (hy:S.inS (S.hdN (S.whole s.V.ps)) (S.hdI (S.whole s.V.ps)) y)=>S.hd_not hwg.1 c3 hy;have hadd:=(S.hd_add hwg.1 c3).1;rw[hhn,←hhs]at hnew hnot hadd;rw[←hths,←hthn]at hnew;have hris:S.Rising t.hn t.hs:=by rw[hths,hthn];exact(S.hd_all fh).2.1
 have hin:S.inS t.hn t.hs (S.addI (S.whole s.V.ps) z.o):=(hnew _).2 (.inr hid);have hkn:S.kpN z.o s.hn s.hs=S.numF (S.keepF z.o s.hs) s.hn:=rfl;refine run ?_;refine J.call rfl rfl (fun w' M=>shHeads2 t TK w' (K0.ext M.ext) (ShR.own hts.k t1 t2 w' M) htL ok2) fun d3 hd3=>?_
 obtain⟨ma,mn,mc⟩:=d3;dsimp only at hd3⊢;obtain⟨hmn1,hmc,rfl⟩:=hd3;refine run ?_;refine J.spn rfl rfl rfl (fun c=>absurd (by rw[htv,hver,hm1];omega) c) (fun _=>?_);refine run ?_;refine J.callp rfl rfl (fun w' M=>(RW.row' (a:=ma) w' M).elim fun _ k0=>risingR _ _ _ _ w' k0 hmc (by omega)) ?_;rw[show decide (S.Rising t.hn t.hs)=true from decide_eq_true hris];refine run ?_;refine J.callp rfl rfl (fun w' M=>(RW.row' (a:=ma) w' M).elim fun _ k0=>refAt _ _ _ _ _ w' k0 ai (by omega)) ?_;refine run ?_;refine J.ifd rfl (fun c=>absurd hin (S.at_neg.1 c)) (fun _=>?_);refine run ?_;refine J.loopS (A:=Nat) (fun p=>[(18, .int .i64 ((1+S.numF (S.keepF z.o s.hs) p:Nat))),(19, .int .i64 (p:Nat))]) [20,103,104,105,106,107,108,109,110,111,112,113,114,115,116,117,118,119,120,121,122,123,124,125,126,127,128,129] (fun p=>p≤s.hn) (fun p=>s.hn - p) 0 (by kernel_rfl) (Nat.zero_le _) (fun p j hI=>?_);have hnl:=S.numF_le (S.keepF z.o s.hs) p;have hcp:=H.cap;refine run ?_;refine J.ifd rfl (fun d1=>?_) (fun d1=>?_)
 ·obtain⟨y,hy⟩:=ex (elt 32 s.hs p);have hyA:Arr .u8 32 y:=hy▸H.hr.elt_arr (by omega);have hyin:S.inS s.hn s.hs y:=⟨p,by omega,hy.symm⟩
  have hyB:S.inS t.hn t.hs y↔¬S.inS z.o.n z.o.ids y:=(hnew y).trans ⟨fun h=>h.elim (fun k=>k.2) fun k=>absurd k (hnot y hyin),fun h=> .inl ⟨hyin,h⟩⟩;have hkeep:S.keepF z.o s.hs p=decide (¬S.inS z.o.n z.o.ids y):=by unfold S.keepF;rw[hy];rfl
  refine run ?_;refine J.regionX [(0, .q),(1, .q),(2, .q),(3, .q),(4, .q),(5, .q),(6, .e),(7, .q),(8, .q)] mixed (by kernel_rfl) ?_;refine run ?_;refine J.callp rfl rfl (fun w' M=>refAt _ _ _ _ _ w' (R.row.ext M.ext) hyA (by omega)) ?_;refine run ?_;refine J.callp rfl rfl (fun w' M=>(RW.row' (a:=ma) w' M).elim fun _ k0=>refAt _ _ _ _ _ w' k0 hyA (by omega)) ?_;refine run ?_;have hx1:∀b:Bool,((decide (0≤S.atS z.o.n z.o.ids y)==decide (0≤S.atS t.hn t.hs y))=b)→b=false:=fun b hb=>by
   rw[←hb];have a1:(0≤S.atS z.o.n z.o.ids y)↔S.inS z.o.n z.o.ids y:=by rw[←Int.not_lt,S.at_neg,Classical.not_not]
   have a2:(0≤S.atS t.hn t.hs y)↔S.inS t.hn t.hs y:=by rw[←Int.not_lt,S.at_neg,Classical.not_not]
   rw[beq_eq_false_iff_ne];exact fun h=>iff_not_self (a1.symm.trans ((decide_eq_decide.1 h).trans (a2.trans hyB)))
  refine J.ifb rfl (fun c=>absurd (hx1 _ c) (by decide)) (fun _=>?_);refine run ?_;refine J.ifnot rfl (fun d2=>?_) (fun d2=>?_)
  ·have hk:S.keepF z.o s.hs p=true:=by
    rw[hkeep];exact decide_eq_true (S.at_neg.1 (Int.not_le.1 (of_decide_eq_false d2)))
   have e:S.numF (S.keepF z.o s.hs) (p+1)=S.numF (S.keepF z.o s.hs) p+1:=by rw[S.numF,hk];rfl
   refine run ?_;rw[show((1+S.numF (S.keepF z.o s.hs) p:Nat):Int)+1=((1+S.numF (S.keepF z.o s.hs) (p+1):Nat):Int)from by rw[e];omega];exact J.nextS (p+1) ⟨rfl,rfl,trivial⟩ (by kernel_rfl) (by omega) (by omega)
  have hk:S.keepF z.o s.hs p=false:=by
   rw[hkeep];exact decide_eq_false (not_not_intro (Classical.not_not.1 fun h=>absurd (of_decide_eq_true d2) (Int.not_le.2 (S.at_neg.2 h))))
  have e:S.numF (S.keepF z.o s.hs) (p+1)=S.numF (S.keepF z.o s.hs) p:=by rw[S.numF,hk];rfl
  refine run ?_;rw[show S.numF (S.keepF z.o s.hs) p=S.numF (S.keepF z.o s.hs) (p+1)from e.symm];exact J.nextS (p+1) ⟨rfl,rfl,trivial⟩ (by kernel_rfl) (by omega) (by omega)
 obtain rfl:p=s.hn:=by omega
 refine run ?_;refine J.spe rfl rfl rfl (fun _=>?_) (fun c=>absurd (by rw[←hthn]at hadd;omega) c);refine run ?_;refine J.callp rfl rfl (fun w' M=>shAlive TK w' (K0.ext M.ext)) ?_;refine run ?_;exact J.fin rfl
end W
end Go.Proofs.YtkmgnmebadghbaaGreatDoor
