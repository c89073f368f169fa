/-
  StoreOffers: Offer and Run answer as the reference does, and leave what they were given as it was. Condition: the table digest.constants is as its initialiser lays it (tied by the card).
-/
import Derived.Test.YtaapnlnileblaaaGreatDoorPSfStoreOffersb
namespace Go.Proofs.YtaapnlnileblaaaGreatDoor.W
open Go.RowKit Go.Proofs.YtaapnlnileblaaaGreatDoor.G
set_option linter.unusedVariables false
set_option linter.unusedSimpArgs false
set_option maxRecDepth 20000
set_option maxHeartbeats 8000000
attribute [local irreducible] RS RX RY Code.wp bodyPost J Ent.blk Ent.iown Ent.wrow Ent.wown Ent.gown Ent.all Ent.emp
instance:Ents Tryz.prog 15:=⟨.mk Tryz.func15 (by kernel_rfl) rfl⟩
instance:Ents Tryz.prog 32:=⟨.mk Tryz.func32 (by kernel_rfl) rfl⟩
instance:Ents Tryz.prog 35:=⟨.mk Tryz.func35 (by kernel_rfl) rfl⟩
instance:Ents Tryz.prog 36:=⟨.mk Tryz.func36 (by kernel_rfl) rfl⟩
instance:Ents Tryz.prog 37:=⟨.mk Tryz.func37 (by kernel_rfl) rfl⟩
instance:Ents Tryz.prog 27:=⟨.mk Tryz.func27 (by kernel_rfl) rfl⟩
instance:Ents Tryz.prog 38:=⟨.mk Tryz.func38 (by kernel_rfl) rfl⟩
theorem StZ.zeroO:StZ S.StV.zero:=⟨fun p hp=>(by cases hp),⟨Nat.zero_le _,Nat.zero_le _⟩,fun _=>Nat.zero_le _,Nat.zero_le _⟩
theorem StZ.ofS{v:S.StV}(o:S.OpV)(hz:StZ v)(hg:S.StG v):StZ (S.ofS v o):=by
 by_cases c:S.askE v o=0
 ·obtain⟨hok,hv⟩:=S.askE_0 c;rw[(S.of_yes c).1];exact hz.off hg hok hv
 rw[(S.of_no c).1];exact StZ.zeroO
theorem StZ.runS{v:S.StV}(l:List S.OpV)(hz:StZ v)(hg:S.StG v):StZ (S.runS v l):=by
 by_cases c:S.runE v l=0
 ·rw[(S.run_yes c).1];have hok:S.okT v:=Classical.byContradiction fun h=>by rw[S.runE_8 h]at c;exact absurd c (by decide)
  have h60:¬60<l.length:=fun h=>by rw[S.runE_4 hok h]at c;exact absurd c (by decide)
  rw[S.runE_v hok h60]at c;exact hz.run hg hok (S.verL_zero.1 c) _ (Nat.le_refl _)
 rw[(S.run_no c).1];exact StZ.zeroO
theorem runL_le(v:S.StV)(l:List S.OpV):(S.runL v l).length≤l.length:=by
 by_cases c:S.runE v l=0
 ·rw[(S.run_yes c).2,S.runJ_len];exact Nat.le_refl _
 rw[(S.run_no c).2];exact Nat.zero_le _
structure CuA where
 (i:Nat)(l:List IdV)
theorem storeOffers{S0 S1 S2:Nat→Prop}(s:StA)(z:OpA)(la:Option Addr)(n lc:Nat)(zs:List OpA)(TK:TypeId)(w:World)(K0:Kst w TK)(G:StI S0 w s)(hr:z.o.rng)(row:WRow .u8 32 S1 w z.pa z.o.n z.o.ids)(cap:z.o.n≤z.pc)(Z:GrI S2 w ⟨none,la,0,n,0,lc,[],zs⟩):
  Calls Tryz.prog 4 #[.agg (srC s).toArray, .agg (opC z).toArray, .slice la n lc] w (Ret w fun v _=>v= .bool true):=by
 refine J.enter 135 Tryz.func4 rfl rfl ?_;refine run ?_;refine J.box rfl rfl rfl fun b1=>?_
 refine J.box rfl rfl rfl fun b2=>?_
 refine run ?_;refine J.call rfl rfl (fun w' M=>refStGreat s w' (G.ext M.ext)) fun g hg=>?_
 refine run ?_;refine J.sp rfl rfl rfl (fun c1=>?_) (fun c1=>?_)
 ·refine run ?_;exact J.fin rfl
 refine run ?_;refine J.callp rfl rfl (fun w' M=>great z.o z.pa z.pc w') ?_;refine run ?_;refine J.spd rfl rfl rfl (fun c2=>?_) (fun c2=>?_)
 ·refine run ?_;exact J.fin rfl
 refine run ?_;refine J.call rfl rfl (fun w' M=>refLarge la n lc zs w' (Z.ext M.ext)) fun q4 hq4=>?_
 refine run ?_;refine J.sp rfl rfl rfl (fun c4=>?_) (fun c4=>?_)
 ·refine run ?_;exact J.fin rfl
 have Z:=Z.gr (hq4 c4);have hn70:n≤70:=(hq4 c4).2.1;have H:=G.st (hg c1);have R:OpR S1 w z:=⟨hr.ok c2,row,cap⟩
 have O:GRow opC 11 S2 w la n zs:=Z.ops;have I0:Inns opI S2 w zs:=Z.inn;have hok:∀z∈zs,z.o.ok:=Z.ok;have hzl:=O.len;have hrl:=runL_le s.V (zs.map OpA.o);rw[List.length_map,hzl]at hrl;refine run ?_;refine J.spd rfl rfl rfl (fun c5=>?_) (fun c5=>?_)
 ·refine run ?_;refine J.ifd rfl (fun c6=>?_) (fun c6=>?_)
  ·refine run ?_;exact J.fin rfl
  refine run ?_;refine J.call rfl rfl (fun w' M=>refStTwin s w' (H.ext M.ext)) fun t ht=>?_
  refine run ?_;refine J.alloc rfl fun b3=>?_
  refine run ?_;refine J.call rfl rfl (fun w' M=>stOffer t z TK w' (K0.ext M.ext) (ht.own H.z w' M) (R.ext M.ext)) fun a ha=>?_
  rw[ht.V]at ha⊢;refine run ?_;refine J.alloc rfl fun b4=>?_
  refine run ?_;refine J.call rfl rfl (fun w' M=>refStOffer s z w' (H.ext M.ext) (R.ext M.ext)) fun b hb=>?_
  refine run ?_;refine J.alloc rfl fun b5=>?_
  refine run ?_;refine J.call rfl rfl (fun w' M=>stRun t la n lc zs TK w' (K0.ext M.ext) (ht.own H.z w' M) (O.ext M.ext) (I0.ext M.ext) hok (by omega)) fun qq hq=>?_
  obtain⟨q,qa,qc⟩:=qq;dsimp only at hq⊢;rw[ht.V]at hq⊢;refine run ?_;refine J.alloc rfl fun b6=>?_
  refine run ?_;refine J.call rfl rfl (fun w' M=>refStRun s la n lc zs w' (H.ext M.ext) (O.ext M.ext) (I0.ext M.ext) hok (by omega)) fun rr hr=>?_
  obtain⟨r,ra,rc⟩:=rr;dsimp only at hr⊢;refine run ?_;refine J.alloc rfl fun b7=>?_
  have za:=H.z.ofS z.o H.g;have zq:=H.z.runS (zs.map OpA.o) H.g;have hza:a.on≤70:=by have h:=za.n;rw[←ha.V]at h;exact h
  have hzq:q.on≤70:=by have h:=zq.n;rw[←hq.V]at h;exact h
  refine run ?_;refine J.callp rfl rfl (fun w' M=>refStSame a b w' (ha.own za w' M) (hb.own za w' M)) ?_;rw[show decide (S.eqT a.V b.V)=true from decide_eq_true (S.eqT_same (ha.V.trans hb.V.symm))];refine run ?_;refine J.spn rfl rfl rfl (fun c=>absurd rfl c) (fun _=>?_);refine run ?_;refine J.spn rfl rfl rfl (fun c=>absurd rfl c) (fun _=>?_);refine run ?_;refine J.callp rfl rfl (fun w' M=>refStSame q r w' (hq.own zq w' M) (hr.own zq w' M)) ?_;rw[show decide (S.eqT q.V r.V)=true from decide_eq_true (S.eqT_same (hq.V.trans hr.V.symm))];refine run ?_;refine J.callp rfl rfl (fun w' M=>(RI.own' (a:=qa) w' M).elim fun _ k0=>(RI.own' (a:=ra) w' M).elim fun _ k1=>sameBytes _ _ _ _ _ _ _ _ w' k0 k1 (by omega) (by omega)) ?_;rw[show decide (S.runL s.V (zs.map OpA.o)=S.runL s.V (zs.map OpA.o))=true from decide_eq_true rfl];refine run ?_;refine J.ifn rfl (fun c=>absurd rfl c) (fun _=>?_);refine run ?_;refine J.fact (.wown 29 .u8 32 a.oa a.on a.oc a.os) (fun _ _ h=>(wown_len h).1) fun hhla=>?_
  obtain⟨hla,hl1a,hl2a⟩:=chunks a.on a.os hhla;refine J.re (.wown 29 .u8 32 a.oa a.on a.oc a.os) (.gown idC 32 29 a.oa a.on a.oc hla) (fun _ _ h=>wown_gown hl2a hl1a h) ?_;refine J.drop (E:=[.blk b6 (srC q) 27, .wown 29 .u8 32 q.oa q.on q.oc q.os, .blk b4 (srC a) 27, .gown idC 32 29 a.oa a.on a.oc hla, .blk b3 (srC t) 27,shW t.sh, .wown 29 .u8 32 t.oa t.on t.oc t.os, .blk b1 (srC s) 27]) sb ?_;refine J.loop (A:=CuA) (fun u=>[(20, .int .i64 (u.i:Nat))]) [103,104,105,106,107,108,109,110,111,112,113,114,115,116,117,118] (fun u=>[.blk b6 (srC q) 27, .wown 29 .u8 32 q.oa q.on q.oc q.os, .blk b4 (srC a) 27, .gown idC 32 29 a.oa a.on a.oc u.l, .blk b3 (srC t) 27,shW t.sh, .wown 29 .u8 32 t.oa t.on t.oc t.os, .blk b1 (srC s) 27]) (fun u=>u.i≤a.on∧u.l.length=a.on) (fun u=>a.on - u.i) ⟨0,hla⟩ (by kernel_rfl) ⟨Nat.zero_le _,hl1a⟩ (fun u j2 hU=>?_);obtain⟨hU1,hU2⟩:=hU;refine run ?_;refine J.ifd rfl (fun d2=>?_) (fun d2=>?_)
  ·refine J.fact (.gown idC 32 29 a.oa a.on a.oc u.l) (fun _ _ h=>(gown_e h).1.some (by omega)) fun hpa=>?_
   have hpb:∃b o,a.oa=some ⟨b,o,none⟩:=hpa.elim fun b h=>⟨b,0,h⟩
   obtain⟨x,hx⟩:∃x,u.l[((u.i:Nat):Int).toNat]? =some x:=⟨_,List.getElem?_eq_getElem (by omega)⟩
   refine run ?_;refine J.regionX [(0, .q),(1, .q),(2, .q),(3, .q),(4, .q),(5, .q),(6, .q),(7, .q),(8, .q),(9, .g)] mixed (by kernel_rfl) ?_;refine run ?_;refine J.ixN 0 rfl hpb rfl rfl ?_;refine J.ldGf (f:=idC) (off:=0) rfl RG.own' ?_ (hq:=hx) (hf:=idC_at x (by decide));refine J.add rfl rfl rfl ?_ (hw:=W.u8m _);refine run ?_;refine J.ixN 0 rfl hpb rfl rfl ?_;refine J.stGf (f:=idC) (o:=0) (q0:=x) (q:=idUp 0 x) rfl rfl hx (idUp_eq 0 x) ?_;refine run ?_;exact J.next ⟨u.i+1,u.l.set ((u.i:Nat):Int).toNat (idUp 0 x)⟩ ⟨rfl,trivial⟩ (by kernel_rfl) ⟨by dsimp only;omega,by dsimp only;rw[List.length_set];exact hU2⟩ (by dsimp only;omega)
  refine run ?_;refine J.fact (.wown 29 .u8 32 q.oa q.on q.oc q.os) (fun _ _ h=>(wown_len h).1) fun hhlq=>?_
  obtain⟨hlq,hl1q,hl2q⟩:=chunks q.on q.os hhlq;refine J.re (.wown 29 .u8 32 q.oa q.on q.oc q.os) (.gown idC 32 29 q.oa q.on q.oc hlq) (fun _ _ h=>wown_gown hl2q hl1q h) ?_;refine J.drop (E:=[.blk b6 (srC q) 27, .gown idC 32 29 q.oa q.on q.oc hlq, .blk b3 (srC t) 27,shW t.sh, .wown 29 .u8 32 t.oa t.on t.oc t.os, .blk b1 (srC s) 27]) sb ?_;refine J.loop (A:=CuA) (fun u=>[(21, .int .i64 (u.i:Nat))]) [119,120,121,122,123,124,125,126,127,128,129,130,131,132,133,134] (fun u=>[.blk b6 (srC q) 27, .gown idC 32 29 q.oa q.on q.oc u.l, .blk b3 (srC t) 27,shW t.sh, .wown 29 .u8 32 t.oa t.on t.oc t.os, .blk b1 (srC s) 27]) (fun u=>u.i≤q.on∧u.l.length=q.on) (fun u=>q.on - u.i) ⟨0,hlq⟩ (by kernel_rfl) ⟨Nat.zero_le _,hl1q⟩ (fun u j2 hU=>?_);obtain⟨hU1,hU2⟩:=hU;refine run ?_;refine J.ifd rfl (fun d2=>?_) (fun d2=>?_)
  ·refine J.fact (.gown idC 32 29 q.oa q.on q.oc u.l) (fun _ _ h=>(gown_e h).1.some (by omega)) fun hpa=>?_
   have hpb:∃b o,q.oa=some ⟨b,o,none⟩:=hpa.elim fun b h=>⟨b,0,h⟩
   obtain⟨x,hx⟩:∃x,u.l[((u.i:Nat):Int).toNat]? =some x:=⟨_,List.getElem?_eq_getElem (by omega)⟩
   refine run ?_;refine J.regionX [(0, .q),(1, .q),(2, .q),(3, .q),(4, .q),(5, .q),(6, .q),(7, .q),(8, .q),(9, .g)] mixed (by kernel_rfl) ?_;refine run ?_;refine J.ixN 0 rfl hpb rfl rfl ?_;refine J.ldGf (f:=idC) (off:=0) rfl RG.own' ?_ (hq:=hx) (hf:=idC_at x (by decide));refine J.add rfl rfl rfl ?_ (hw:=W.u8m _);refine run ?_;refine J.ixN 0 rfl hpb rfl rfl ?_;refine J.stGf (f:=idC) (o:=0) (q0:=x) (q:=idUp 0 x) rfl rfl hx (idUp_eq 0 x) ?_;refine run ?_;exact J.next ⟨u.i+1,u.l.set ((u.i:Nat):Int).toNat (idUp 0 x)⟩ ⟨rfl,trivial⟩ (by kernel_rfl) ⟨by dsimp only;omega,by dsimp only;rw[List.length_set];exact hU2⟩ (by dsimp only;omega)
  refine run ?_;refine J.callp rfl rfl (fun w' M=>refStSame t s w' (ht.own H.z w' M) (H.ext M.ext)) ?_;refine run ?_;exact J.fin (congrArg _ (decide_eq_true (S.eqT_same ht.V)))
 refine run ?_;refine J.call rfl rfl (fun w' M=>refStTwin s w' (H.ext M.ext)) fun t ht=>?_
 refine run ?_;refine J.alloc rfl fun b3=>?_
 refine run ?_;refine J.call rfl rfl (fun w' M=>stOffer t z TK w' (K0.ext M.ext) (ht.own H.z w' M) (R.ext M.ext)) fun a ha=>?_
 rw[ht.V]at ha⊢;refine run ?_;refine J.alloc rfl fun b4=>?_
 refine run ?_;refine J.call rfl rfl (fun w' M=>refStOffer s z w' (H.ext M.ext) (R.ext M.ext)) fun b hb=>?_
 refine run ?_;refine J.alloc rfl fun b5=>?_
 refine run ?_;refine J.call rfl rfl (fun w' M=>stRun t la n lc zs TK w' (K0.ext M.ext) (ht.own H.z w' M) (O.ext M.ext) (I0.ext M.ext) hok (by omega)) fun qq hq=>?_
 obtain⟨q,qa,qc⟩:=qq;dsimp only at hq⊢;rw[ht.V]at hq⊢;refine run ?_;refine J.alloc rfl fun b6=>?_
 refine run ?_;refine J.call rfl rfl (fun w' M=>refStRun s la n lc zs w' (H.ext M.ext) (O.ext M.ext) (I0.ext M.ext) hok (by omega)) fun rr hr=>?_
 obtain⟨r,ra,rc⟩:=rr;dsimp only at hr⊢;refine run ?_;refine J.alloc rfl fun b7=>?_
 have za:=H.z.ofS z.o H.g;have zq:=H.z.runS (zs.map OpA.o) H.g;have hza:a.on≤70:=by have h:=za.n;rw[←ha.V]at h;exact h
 have hzq:q.on≤70:=by have h:=zq.n;rw[←hq.V]at h;exact h
 refine run ?_;refine J.callp rfl rfl (fun w' M=>refStSame a b w' (ha.own za w' M) (hb.own za w' M)) ?_;rw[show decide (S.eqT a.V b.V)=true from decide_eq_true (S.eqT_same (ha.V.trans hb.V.symm))];refine run ?_;refine J.spn rfl rfl rfl (fun c=>absurd rfl c) (fun _=>?_);refine run ?_;refine J.spn rfl rfl rfl (fun c=>absurd rfl c) (fun _=>?_);refine run ?_;refine J.callp rfl rfl (fun w' M=>refStSame q r w' (hq.own zq w' M) (hr.own zq w' M)) ?_;rw[show decide (S.eqT q.V r.V)=true from decide_eq_true (S.eqT_same (hq.V.trans hr.V.symm))];refine run ?_;refine J.callp rfl rfl (fun w' M=>(RI.own' (a:=qa) w' M).elim fun _ k0=>(RI.own' (a:=ra) w' M).elim fun _ k1=>sameBytes _ _ _ _ _ _ _ _ w' k0 k1 (by omega) (by omega)) ?_;rw[show decide (S.runL s.V (zs.map OpA.o)=S.runL s.V (zs.map OpA.o))=true from decide_eq_true rfl];refine run ?_;refine J.ifn rfl (fun c=>absurd rfl c) (fun _=>?_);refine run ?_;refine J.fact (.wown 29 .u8 32 a.oa a.on a.oc a.os) (fun _ _ h=>(wown_len h).1) fun hhla=>?_
 obtain⟨hla,hl1a,hl2a⟩:=chunks a.on a.os hhla;refine J.re (.wown 29 .u8 32 a.oa a.on a.oc a.os) (.gown idC 32 29 a.oa a.on a.oc hla) (fun _ _ h=>wown_gown hl2a hl1a h) ?_;refine J.drop (E:=[.blk b6 (srC q) 27, .wown 29 .u8 32 q.oa q.on q.oc q.os, .blk b4 (srC a) 27, .gown idC 32 29 a.oa a.on a.oc hla, .blk b3 (srC t) 27,shW t.sh, .wown 29 .u8 32 t.oa t.on t.oc t.os, .blk b1 (srC s) 27]) sb ?_;refine J.loop (A:=CuA) (fun u=>[(20, .int .i64 (u.i:Nat))]) [103,104,105,106,107,108,109,110,111,112,113,114,115,116,117,118] (fun u=>[.blk b6 (srC q) 27, .wown 29 .u8 32 q.oa q.on q.oc q.os, .blk b4 (srC a) 27, .gown idC 32 29 a.oa a.on a.oc u.l, .blk b3 (srC t) 27,shW t.sh, .wown 29 .u8 32 t.oa t.on t.oc t.os, .blk b1 (srC s) 27]) (fun u=>u.i≤a.on∧u.l.length=a.on) (fun u=>a.on - u.i) ⟨0,hla⟩ (by kernel_rfl) ⟨Nat.zero_le _,hl1a⟩ (fun u j2 hU=>?_);obtain⟨hU1,hU2⟩:=hU;refine run ?_;refine J.ifd rfl (fun d2=>?_) (fun d2=>?_)
 ·refine J.fact (.gown idC 32 29 a.oa a.on a.oc u.l) (fun _ _ h=>(gown_e h).1.some (by omega)) fun hpa=>?_
  have hpb:∃b o,a.oa=some ⟨b,o,none⟩:=hpa.elim fun b h=>⟨b,0,h⟩
  obtain⟨x,hx⟩:∃x,u.l[((u.i:Nat):Int).toNat]? =some x:=⟨_,List.getElem?_eq_getElem (by omega)⟩
  refine run ?_;refine J.regionX [(0, .q),(1, .q),(2, .q),(3, .q),(4, .q),(5, .q),(6, .q),(7, .q),(8, .q),(9, .g)] mixed (by kernel_rfl) ?_;refine run ?_;refine J.ixN 0 rfl hpb rfl rfl ?_;refine J.ldGf (f:=idC) (off:=0) rfl RG.own' ?_ (hq:=hx) (hf:=idC_at x (by decide));refine J.add rfl rfl rfl ?_ (hw:=W.u8m _);refine run ?_;refine J.ixN 0 rfl hpb rfl rfl ?_;refine J.stGf (f:=idC) (o:=0) (q0:=x) (q:=idUp 0 x) rfl rfl hx (idUp_eq 0 x) ?_;refine run ?_;exact J.next ⟨u.i+1,u.l.set ((u.i:Nat):Int).toNat (idUp 0 x)⟩ ⟨rfl,trivial⟩ (by kernel_rfl) ⟨by dsimp only;omega,by dsimp only;rw[List.length_set];exact hU2⟩ (by dsimp only;omega)
 refine run ?_;refine J.fact (.wown 29 .u8 32 q.oa q.on q.oc q.os) (fun _ _ h=>(wown_len h).1) fun hhlq=>?_
 obtain⟨hlq,hl1q,hl2q⟩:=chunks q.on q.os hhlq;refine J.re (.wown 29 .u8 32 q.oa q.on q.oc q.os) (.gown idC 32 29 q.oa q.on q.oc hlq) (fun _ _ h=>wown_gown hl2q hl1q h) ?_;refine J.drop (E:=[.blk b6 (srC q) 27, .gown idC 32 29 q.oa q.on q.oc hlq, .blk b3 (srC t) 27,shW t.sh, .wown 29 .u8 32 t.oa t.on t.oc t.os, .blk b1 (srC s) 27]) sb ?_;refine J.loop (A:=CuA) (fun u=>[(21, .int .i64 (u.i:Nat))]) [119,120,121,122,123,124,125,126,127,128,129,130,131,132,133,134] (fun u=>[.blk b6 (srC q) 27, .gown idC 32 29 q.oa q.on q.oc u.l, .blk b3 (srC t) 27,shW t.sh, .wown 29 .u8 32 t.oa t.on t.oc t.os, .blk b1 (srC s) 27]) (fun u=>u.i≤q.on∧u.l.length=q.on) (fun u=>q.on - u.i) ⟨0,hlq⟩ (by kernel_rfl) ⟨Nat.zero_le _,hl1q⟩ (fun u j2 hU=>?_);obtain⟨hU1,hU2⟩:=hU;refine run ?_;refine J.ifd rfl (fun d2=>?_) (fun d2=>?_)
 ·refine J.fact (.gown idC 32 29 q.oa q.on q.oc u.l) (fun _ _ h=>(gown_e h).1.some (by omega)) fun hpa=>?_
  have hpb:∃b o,q.oa=some ⟨b,o,none⟩:=hpa.elim fun b h=>⟨b,0,h⟩
  obtain⟨x,hx⟩:∃x,u.l[((u.i:Nat):Int).toNat]? =some x:=⟨_,List.getElem?_eq_getElem (by omega)⟩
  refine run ?_;refine J.regionX [(0, .q),(1, .q),(2, .q),(3, .q),(4, .q),(5, .q),(6, .q),(7, .q),(8, .q),(9, .g)] mixed (by kernel_rfl) ?_;refine run ?_;refine J.ixN 0 rfl hpb rfl rfl ?_;refine J.ldGf (f:=idC) (off:=0) rfl RG.own' ?_ (hq:=hx) (hf:=idC_at x (by decide));refine J.add rfl rfl rfl ?_ (hw:=W.u8m _);refine run ?_;refine J.ixN 0 rfl hpb rfl rfl ?_;refine J.stGf (f:=idC) (o:=0) (q0:=x) (q:=idUp 0 x) rfl rfl hx (idUp_eq 0 x) ?_;refine run ?_;exact J.next ⟨u.i+1,u.l.set ((u.i:Nat):Int).toNat (idUp 0 x)⟩ ⟨rfl,trivial⟩ (by kernel_rfl) ⟨by dsimp only;omega,by dsimp only;rw[List.length_set];exact hU2⟩ (by dsimp only;omega)
 refine run ?_;refine J.callp rfl rfl (fun w' M=>refStSame t s w' (ht.own H.z w' M) (H.ext M.ext)) ?_;refine run ?_;exact J.fin (congrArg _ (decide_eq_true (S.eqT_same ht.V)))
end Go.Proofs.YtaapnlnileblaaaGreatDoor.W
namespace Go.Proofs.YtaapnlnileblaaaGreatDoor.L
open Go Go.Proofs.YtaapnlnileblaaaGreatDoor Go.Proofs.YtaapnlnileblaaaGreatDoor.G Go.Proofs.YtaapnlnileblaaaGreatDoor.W
open Go.ChangeShapes Go.WideShapes Go.ChangeAt Go.RowKit
set_option linter.unusedVariables false
set_option maxRecDepth 100000
theorem storeOffers_door(os:Os)(args:Array Value):laidMetH Tryz.prog [("braid/digest.constants",Rows.laid_braid_digest_constants)] ((World.doorLaid Tryz.prog 400 os).forCall (fun _ _=>0) ⟨#[],args,[]⟩).memory:=
  laidMetH_of_parts3 (fuel:=8) (laidMet_of_run' 8 (by kernel_rfl) (by kernel_rfl)) (by kernel_rfl) (by kernel_rfl)
theorem storeOffers_lifted(os:Os)(started:os.Started)(H:Type)(enc:TypeId×Value→H):
    ReturnsInHanded {} Tryz.checked os 4 .any (fun w args=>(Rows.storeOffersSpec.pre enc Tryz.prog Tryz.f4 [] false w args∧laidMetH Tryz.prog [("braid/digest.constants",Rows.laid_braid_digest_constants)] w)∧sizedMet enc Tryz.prog Tryz.f4 (OpenSpec.ofChange Rows.storeOffersSpec) false w args)
      (Rows.storeOffersSpec.post enc Tryz.prog Tryz.f4 false true false false):=by
  refine returnsInHanded_of_change_and (C:=Tryz.checked) (X:=fun w _=>laidMetH Tryz.prog [("braid/digest.constants",Rows.laid_braid_digest_constants)] w) (fun _ _ _ hh h=>h.of_heap hh) own started (by kernel_rfl) Tryz.func4
    (ChangeSpec.witness_shaped (enc:=enc) (C:=Tryz.checked) (os:=os) (X:=fun w _=>laidMetH Tryz.prog [("braid/digest.constants",Rows.laid_braid_digest_constants)] w) false (World.doorLaid Tryz.prog 400 os) #[.agg #[.int .i64 0, .slice none 0 0, .slice none 0 0, .int .i64 0, .slice none 0 0], .agg #[.int .u32 0, .slice none 0 0, .int .u64 0, .int .u8 0, .string .empty, .int .u8 0, .int .i64 0, .int .u64 0, .string .empty, .int .u32 0, .int .u32 0], .slice none 0 0] 8 rfl (World.shaped_of_RefB (by kernel_rfl) (by kernel_rfl)) (by kernel_rfl) (by kernel_rfl) (by kernel_rfl) (storeOffers_door os _)) ?_
  intro W base args ds gs before hval0 hW _ _ hL _;have hval:∀(j:Nat) t v,Tryz.f4.params[j]? =some t→args[j]? =some v→Value.okWide Tryz.prog W .any base t v:=hval0;have hW':=hW;obtain⟨p,q,hA0,hV,rfl,hfz,hnd⟩:=hW;have hA:DataW.TrodAll enc Tryz.prog W 0 (fun _=>true) true Tryz.f4.params.toList args.toList ds p:=hA0;rw[Tryz.params4]at hA hval;obtain⟨v0,vs0,d0,ds0,p0,q0,hargs,rfl,rfl,h0,r0⟩:=trodAll_cons hA;obtain⟨v1,vs1,d1,ds1,p1,q1,e1,rfl,rfl,h1,r1⟩:=trodAll_cons r0;obtain⟨v2,vs2,d2,ds2,p2,q2,e2,rfl,rfl,h2,r2⟩:=trodAll_cons r1;obtain⟨rfl,rfl,rfl⟩:=trodAll_nil r2;subst e2;subst e1;obtain rfl:args= #[v0,v1,v2]:=by cases args;simp_all
  obtain⟨rfl,rfl⟩:=trodVars_none hV;obtain⟨cs0,rfl,_⟩:=okWide_struct Tryz.underlying27 (hval 0 27 v0 rfl rfl);obtain⟨cs1,rfl,_⟩:=okWide_struct Tryz.underlying39 (hval 1 39 v1 rfl rfl);obtain⟨a2,m2,c2,rfl⟩:=okWide_slice Tryz.underlying55 (hval 2 55 v2 rfl rfl);have k0:=h0;have lt0:∀x∈p0,x.block<W.heap.size:=by obtain⟨m,hm⟩:=k0;exact DataW.trod_lt m _ _ _ hm
  obtain⟨fuel0,hf0⟩:=h0;obtain⟨s0,hcs0,hG0⟩:=store_in hf0;have hv0:(Value.agg cs0)= .agg (srC s0).toArray:=by
    congr 1;apply Array.ext';exact hcs0
  have k1:=h1;have lt1:∀x∈p1,x.block<W.heap.size:=by obtain⟨m,hm⟩:=k1;exact DataW.trod_lt m _ _ _ hm
  obtain⟨fuel1,hf1⟩:=h1;obtain⟨o1,pa1,pc1,hcs1,hr1,hc1,hR1⟩:=op_in hf1;have hv1:(Value.agg cs1)= .agg ([.int .u32 o1.au, .slice pa1 o1.n pc1, .int .u64 o1.st, .int .u8 o1.k, .string o1.key, .int .u8 o1.vk, .int .i64 o1.num, .int .u64 o1.bits, .string o1.t, .int .u32 o1.e, .int .u32 o1.s]:List Value).toArray:=by
    congr 1;apply Array.ext';exact hcs1
  have k2:=h2;have lt2:∀x∈p2,x.block<W.heap.size:=by obtain⟨m,hm⟩:=k2;exact DataW.trod_lt m _ _ _ hm
  obtain⟨fuel2,hf2⟩:=h2;obtain⟨_,_,_,zs2,he2,hc2,hR2,hQ2⟩:=ops_in hf2;obtain⟨rfl,rfl,rfl⟩:=Value.slice.inj (List.cons.inj he2).1;have K0:=of_laid hL;clear hA0 hval0;have hwalk:=storeOffers s0 ⟨o1,pa1,pc1⟩ a2 m2 c2 zs2 0 W K0 hG0 hr1 hR1 hc1 ⟨WRow.nil,hR2,fun z hz i hi=>(List.mem_singleton.1 hi)▸⟨(hQ2 z hz).2.2,(hQ2 z hz).2.1⟩,fun z hz=>(hQ2 z hz).1,Nat.zero_le _,hc2⟩;rw[←hv0,←hv1]at hwalk;refine hwalk.mono fun e W' hret=>?_
  obtain⟨v,rfl,bel,rfl⟩:=hret;exact⟨_,rfl,_,_,_,[],_,[],hW',trodAll_mk1 (shut_bool Tryz.underlying4 _),(trodAll_cons_mk (Below.trod laidOut (by kernel_rfl) (of_decide_eq_true (by kernel_rfl)) k0 bel lt0) (trodAll_cons_mk (Below.trod laidOut (by kernel_rfl) (of_decide_eq_true (by kernel_rfl)) k1 bel lt1) (trodAll_cons_mk (Below.trod laidOut (by kernel_rfl) (of_decide_eq_true (by kernel_rfl)) k2 bel lt2) trodAll_mk0))),rfl,bel.frame _,fun h=>by cases h⟩
theorem storeOffers_closed:joinedFacts Tryz.prog 4 Tryz.f4 Rows.storeOffersSpec Rows.storeOffersRow=true:=by
  unfold joinedFacts;rw[storeOffers_f1,storeOffers_f2,storeOffers_f3,storeOffers_f4]
  kernel_rfl
theorem storeOffers_holds:Rows.StoreOffersSaid:=
  OpenClaim.holds_of_wide 4 Tryz.f4 rfl rfl rfl rfl rfl rfl rfl ⟨rfl,rfl,rfl,rfl,rfl⟩ rfl rfl rfl rfl rfl (by kernel_rfl) Tryz.func4 storeOffers_closed
    (of_decide_eq_true (by kernel_rfl)) (by unfold Func.isWrapper;first|(rw[if_pos (by decide+kernel)];kernel_rfl)|(rw[if_neg (by decide+kernel)];exact⟨rfl,rfl⟩))
    (fun os started H enc _=>storeOffers_lifted os started H enc)
theorem storeOffers_card:Rows.StoreOffersCardSaid:=
  Claim7.holds_tied_plain_at .later [] [.data] true (true, "834974f09f41892157c36901e70b4ab6f14d5290977dc85458caf343113352fd") false
    storeOffers_holds (fun _ h=>by cases h) (by kernel_rfl) (fun _ h=>by cases h) storeOffers_row_tie rfl ⟨rfl,rfl⟩ (by kernel_rfl) rfl
    (fun f fn hf hfn => by
      obtain rfl : f = 4 := Option.some.inj ((show Tryz.prog.funcNamed "braid/braidlaw12.StoreOffers" = some 4 by kernel_rfl).symm.trans hf) |>.symm
      obtain rfl : fn = Tryz.f4 := (Option.some.inj (Tryz.func4.symm.trans hfn)).symm
      exact ⟨by kernel_rfl, fun j t ht => by
        rw [Tryz.params4] at ht
        have hm : t ∈ [27, 39, 55] := by simpa using Array.mem_of_getElem? ht
        have hall : ([27, 39, 55].all fun u => !Tryz.prog.wantsStandIn u) = true := by kernel_rfl
        exact (show Tryz.prog.wantsStandIn t = false by simpa using List.all_eq_true.1 hall t hm)⟩)
    (by kernel_rfl)
end Go.Proofs.YtaapnlnileblaaaGreatDoor.L
