/-
  Part 15 of the lemmas of these laws: BuilderWrites.
-/
import Derived.Test.YtaapnlnileblaaaGreatDoorPBw14
set_option linter.unusedVariables false
set_option linter.unusedSimpArgs false
open Go.Proofs.Tryz
namespace Go.Proofs.YtaapnlnileblaaaGreatDoor
namespace W
open Go.RowKit G
set_option maxRecDepth 20000
set_option maxHeartbeats 8000000
attribute [local irreducible] RS RX RY Code.wp bodyPost J Ent.blk Ent.irow Ent.iown Ent.wrow Ent.wown Ent.gown Ent.all Ent.emp
instance:Ents prog 122:=⟨.mk func122 (by kernel_rfl) rfl⟩
instance:Fld prog 25 1 1:=⟨_,_,1,underlying25,rfl,by kernel_rfl,by decide,rfl⟩
instance:Ents prog 23:=⟨.mk func23 (by kernel_rfl) rfl⟩
instance:Ents prog 54:=⟨.mk func54 (by kernel_rfl) rfl⟩
instance:Ents prog 87:=⟨.mk func87 (by kernel_rfl) rfl⟩
instance:Ents prog 55:=⟨.mk func55 (by kernel_rfl) rfl⟩
instance:Ents prog 24:=⟨.mk func24 (by kernel_rfl) rfl⟩
instance:Ents prog 89:=⟨.mk func89 (by kernel_rfl) rfl⟩
instance:Ents prog 60:=⟨.mk func60 (by kernel_rfl) rfl⟩
instance:Ents prog 90:=⟨.mk func90 (by kernel_rfl) rfl⟩
@[reducible] def bdC(r:S.BdV)(q:OpA×Option Addr×Nat×Nat):Value:= .tuple #[.agg (opC q.1).toArray, .slice q.2.1 q.2.2.1 q.2.2.2, .agg (ints .u8 r.i).toArray, .int .i64 r.e]
@[reducible] def bdP(r:S.BdV)(q:OpA×Option Addr×Nat×Nat):List Ent:=[.wrow .u8 32 q.1.pa q.1.o.n q.1.o.ids, .irow .u8 q.2.1 q.2.2.1 r.b]
def BdP(r:S.BdV)(q:OpA×Option Addr×Nat×Nat):Prop:=q.1.o=r.o∧q.1.o.n≤q.1.pc
theorem bBuildR(x:Int)(hx:0≤x∧x<4294967296){S0:Nat→Prop}(a:Option Addr)(n c:Nat)(ids:List Int)(st:Int)(hs:0≤st∧st<18446744073709551616)(o:S.OpV)(ho:o.ok)(TK:TypeId)(w:World)(K0:Kst w TK)(D0:WRow .u8 32 S0 w a n ids)(hc:n≤c)(hn:n≤1000):
  Calls prog 55 #[.int .u32 x, .slice a n c, .int .u64 st, .agg (acC o).toArray] w (Gv w (bdC (S.bldR x n ids st o)) (bdP (S.bldR x n ids st o)) (BdP (S.bldR x n ids st o))):=bBuild x hx a n c ids st hs o ho TK w K0 D0 hc hn
theorem rBuildR(x:Int)(hx:0≤x∧x<4294967296){S0:Nat→Prop}(a:Option Addr)(n c:Nat)(ids:List Int)(st:Int)(hs:0≤st∧st<18446744073709551616)(o:S.OpV)(ho:o.ok)(w:World)(D0:WRow .u8 32 S0 w a n ids)(hc:n≤c)(hn:n≤1000):
  Calls prog 90 #[.int .u32 x, .slice a n c, .int .u64 st, .agg (acC o).toArray] w (Gv w (bdC (S.bldR x n ids st o)) (bdP (S.bldR x n ids st o)) (BdP (S.bldR x n ids st o))):=rBuild x hx a n c ids st hs o ho w D0 hc hn
theorem bFirst2{S0:Nat→Prop}(a:Option Addr)(e:Int)(w:World)(O:GRow inC 1 S0 w a 2 [e,0]):
  Calls prog 88 #[.slice a 2 2] w (Ret w fun v _=>v= .int .i64 e):=by
 refine J.enter 14 func88 rfl rfl ?_;refine run ?_;refine J.loopS (A:=Int) (fun p=>[(7, .int .i64 p)]) [4,8,9,10,11,12,13,14] (fun p=>(0≤p∧p≤2)∧(0<p→e=0)) (fun p=>2 - p.toNat) 0 (by kernel_rfl) ⟨by omega,fun h=>by omega⟩ (fun p j hI=>?_);obtain⟨hI,he⟩:=hI;refine run ?_;refine J.ifd rfl (fun c1=>?_) (fun c1=>?_)
 ·have hq:([e,0]:List Int)[p.toNat]? =some (if p=0 then e else 0):=by
   rcases(show p=0∨p=1 by omega)with h|h
   ·subst h;rfl
   subst h;rfl
  refine run ?_;refine J.ifn rfl (fun c2=>?_) (fun c2=>?_)
  ·have e0:p=0:=by
    rcases(show p=0∨p=1 by omega)with h|h
    ·exact h
    rw[if_neg (by omega)]at c2;exact absurd rfl c2
   refine run ?_;exact J.fin (congrArg _ (if_pos e0))
  refine run ?_;refine J.nextS (p+1) ⟨rfl,trivial⟩ (by kernel_rfl) ⟨by omega,fun _=>?_⟩ (by omega);rcases(show p=0∨p=1 by omega)with h|h
  ·rw[if_pos h]at c2;exact c2
  exact he (by omega)
 refine run ?_;exact J.fin (congrArg _ (he (by omega)).symm)
theorem stHeads2{S0:Nat→Prop}(s:ShA)(TK:TypeId)(w:World)(K0:Kst w TK)(H:ShR S0 w s)(hL:ShL s)(hok:S.okR s.V):
  Calls prog 87 #[.agg (shC s).toArray] w (Gv w (fun q:Option Addr×Nat×Nat=> .tuple #[.slice q.1 q.2.1 q.2.2, .int .i64 s.ver, .int .i64 0]) (fun q=>[.wrow .u8 32 q.1 q.2.1 s.hs]) fun q=>q.2.1≤100∧q.2.1≤q.2.2∧q.2.1=s.hn):=by
 have hcp:=H.cap;refine J.enter 15 func87 rfl rfl ?_;refine run ?_;refine J.box rfl rfl rfl fun b1=>?_
 refine run ?_;refine J.callp rfl rfl (fun w' M=>shCheck s _ w' (K0.ext M.ext) (H.ext M.ext) hL) ?_;rw[S.chkH_0 hok];refine run ?_;refine J.regionR [.blk b1 (shC s) 25] [(0, .q),(1, .q),(3, .q),(4, .q),(2, .e),(5, .q),(6, .q),(7, .q)] mixed (by kernel_rfl) (by repeat(first|exact List.Sublist.refl _|refine List.Sublist.cons_cons _ ?_|refine List.Sublist.cons _ ?_)) ?_;refine run ?_;refine J.call rfl rfl (fun w' M=>cloneW _ _ _ _ _ (H.hr.ext M.ext) hcp.2.1 (by omega)) fun q hq=>?_
 refine run ?_;refine J.re (.wown 29 .u8 32 q.1 s.hn q.2 s.hs) (.wrow .u8 32 q.1 s.hn s.hs) (fun S w=>wown_wrow) ?_;exact J.finG (q.1,s.hn,q.2) rfl ⟨hcp.2.2.2,hq,rfl⟩ sb
theorem bWrite(x:Int)(hx:0≤x∧x<4294967296){S0:Nat→Prop}(s:StA)(o:S.OpV)(ho:o.ok)(TK:TypeId)(w:World)(K0:Kst w TK)(H:StR S0 w s):
  Calls prog 48 #[.agg (srC s).toArray, .int .u32 x, .agg (acC o).toArray] w (Gv w (bdC (S.wrtR s.V x o)) (bdP (S.wrtR s.V x o)) (BdP (S.wrtR s.V x o))):=by
 have hcp:=H.sh.cap;refine J.enter 55 func48 rfl rfl ?_;refine run ?_;refine J.box rfl rfl rfl fun b1=>?_
 refine J.box rfl rfl rfl fun b2=>?_
 refine J.alloc rfl fun b3=>?_
 refine run ?_;refine J.alloc rfl fun b4=>?_
 refine run ?_;refine J.call rfl rfl (fun w' M=>stGraph s TK w' (K0.ext M.ext) (H.ext M.ext)) fun q hq=>?_
 dsimp only[grE,List.cons_append,List.nil_append];refine run ?_;refine J.alloc rfl fun b5=>?_
 refine run ?_;refine J.ifn rfl (fun c1=>?_) (fun c1=>?_)
 ·obtain⟨k1,k2⟩:=S.chkT_ne c1;rw[S.wrt_8 k1,k2];refine run ?_;refine J.bz rfl ?_;refine run ?_;refine J.nilR .u8 (J.nilW .u8 32 ?_);exact J.finG (⟨S.OpV.zero,none,0⟩,none,0,0) rfl ⟨rfl,Nat.le_refl _⟩ sb
 have hok:=S.chkT_iff.1 c1;have F:=S.ok_fineT H.g hok;obtain⟨n1,n4⟩:=ok_len H.sh hok.1.2.1;rw[S.grT_0 hok]at hq;have hqs:=GrP.sz hq ⟨F.fine.good,F.fine.le⟩;have hqok:=hq.ok (refWholeOk H.sh);have hqP:=GrP.P hq;refine run ?_;refine J.callp rfl rfl (fun w' M=>bStamp q TK w' (K0.ext M.ext) (GrR.own hqok hq.cap hqs w' M)) ?_;rw[hqP];refine run ?_;refine J.call rfl rfl (fun w' M=>stHeads2 s.sh TK w' (K0.ext M.ext) (H.sh.ext M.ext) H.L hok.1.2.1) fun d hd=>?_
 obtain⟨ha,hn,hc⟩:=d;dsimp only at hd⊢;obtain⟨hn1,hn2,rfl⟩:=hd;refine run ?_;refine J.b2V (p:=S.stmE (S.whole s.sh.V.ps)) (q:=0) inC (fun _=>rfl) rfl rfl rfl rfl rfl rfl rfl fun b6=>?_
 refine J.callp rfl rfl (fun w' M=>(RG.own' (a:=some ⟨b6,0,none⟩) w' M).elim fun _ k0=>bFirst2 _ _ w' k0) ?_;refine run ?_;refine J.ifn rfl (fun c2=>?_) (fun c2=>?_)
 ·rw[S.wrt_s hok c2];refine run ?_;refine J.bz rfl ?_;refine run ?_;refine J.nilR .u8 (J.nilW .u8 32 ?_);exact J.finG (⟨S.OpV.zero,none,0⟩,none,0,0) rfl ⟨rfl,Nat.le_refl _⟩ sb
 have hsu:0≤S.stmV (S.whole s.sh.V.ps)∧S.stmV (S.whole s.sh.V.ps)<18446744073709551616:=⟨(S.stm_rng c2).1,Int.lt_of_le_of_lt (S.stm_rng c2).2 (by decide)⟩
 have hhs:s.sh.hs=S.hdI (S.whole s.sh.V.ps):=F.hs;have hhn:S.hdN (S.whole s.sh.V.ps)=s.sh.hn:=by
  have h1:(S.hdI (S.whole s.sh.V.ps)).length=32*S.hdN (S.whole s.sh.V.ps):=(S.hd_all F.fine).1;have h2:=H.sh.hr.len;rw[←hhs]at h1;omega
 have ew:=S.wrt_0 (x:=x) (o:=o) hok c2;rw[show S.hdN (S.whole s.V.sh.ps)=s.sh.hn from hhn,show S.hdI (S.whole s.V.sh.ps)=s.sh.hs from hhs.symm]at ew;rw[ew];have hf:(S.bldR x s.sh.hn s.sh.hs (S.stmV (S.whole s.sh.V.ps)) o).fit:=S.bld_fit ho hsu H.sh.hr.len;have hA:=hf.i;refine run ?_;refine J.call rfl rfl (fun w' M=>(RW.row' (a:=ha) w' M).elim fun _ k0=>bBuildR x hx ha s.sh.hn hc s.sh.hs (S.stmV (S.whole s.sh.V.ps)) hsu o ho TK w' (K0.ext M.ext) k0 hn2 (by omega)) fun u hu=>?_
 refine run ?_;exact J.finG u rfl hu sb
theorem rWrite(x:Int)(hx:0≤x∧x<4294967296){S0:Nat→Prop}(s:StA)(o:S.OpV)(ho:o.ok)(w:World)(H:StR S0 w s):
  Calls prog 49 #[.agg (srC s).toArray, .int .u32 x, .agg (acC o).toArray] w (Gv w (bdC (S.wrtR s.V x o)) (bdP (S.wrtR s.V x o)) (BdP (S.wrtR s.V x o))):=by
 have hcp:=H.sh.cap;refine J.enter 41 func49 rfl rfl ?_;refine run ?_;refine J.box rfl rfl rfl fun b1=>?_
 refine J.box rfl rfl rfl fun b2=>?_
 refine J.alloc rfl fun b3=>?_
 refine run ?_;refine J.alloc rfl fun b4=>?_
 refine run ?_;refine J.call rfl rfl (fun w' M=>refStGraph s w' (H.ext M.ext)) fun q hq=>?_
 dsimp only[grE,List.cons_append,List.nil_append];refine run ?_;refine J.alloc rfl fun b5=>?_
 refine run ?_;refine J.ifn rfl (fun c1=>?_) (fun c1=>?_)
 ·obtain⟨k1,k2⟩:=S.chkT_ne c1;rw[S.wrt_8 k1,k2];refine run ?_;refine J.bz rfl ?_;refine run ?_;refine J.nilR .u8 (J.nilW .u8 32 ?_);exact J.finG (⟨S.OpV.zero,none,0⟩,none,0,0) rfl ⟨rfl,Nat.le_refl _⟩ sb
 have hok:=S.chkT_iff.1 c1;have F:=S.ok_fineT H.g hok;rw[S.grT_0 hok]at hq;have hqs:=GrP.sz hq ⟨F.fine.good,F.fine.le⟩;have hqok:=hq.ok (refWholeOk H.sh);have hqP:=GrP.P hq;refine run ?_;refine J.callp rfl rfl (fun w' M=>rStamp q w' (GrR.own hqok hq.cap hqs w' M)) ?_;rw[hqP];refine run ?_;refine J.ifn rfl (fun c2=>?_) (fun c2=>?_)
 ·rw[S.wrt_s hok c2];refine run ?_;refine J.bz rfl ?_;refine run ?_;refine J.nilR .u8 (J.nilW .u8 32 ?_);exact J.finG (⟨S.OpV.zero,none,0⟩,none,0,0) rfl ⟨rfl,Nat.le_refl _⟩ sb
 have hsu:0≤S.stmV q.P∧S.stmV q.P<18446744073709551616:=by rw[hqP];exact⟨(S.stm_rng c2).1,Int.lt_of_le_of_lt (S.stm_rng c2).2 (by decide)⟩
 have hqc:S.chkG q.m q.ids q.ops=0:=by
  have h:=hok.1.2.1.2.1;rw[←hqP]at h;exact h
 have ew:=S.wrt_0 (x:=x) (o:=o) hok c2;rw[show S.whole s.V.sh.ps=q.P from hqP.symm]at ew;rw[ew];have hhl:=(S.hd_all (g:=q.P) (hqP▸F.fine)).1;have hhm:S.hdN q.P≤70:=Nat.le_trans (S.numF_le _ _) hqs.1;have hf:(S.bldR x (S.hdN q.P) (S.hdI q.P) (S.stmV q.P) o).fit:=S.bld_fit ho hsu hhl;have hA:=hf.i;rw[←hqP];refine run ?_;refine J.regionR [.blk b5 (grC q) 57, .blk b2 (acC o) 35] [(0, .q),(1, .q),(3, .q),(4, .q),(2, .e),(5, .e),(6, .q),(7, .q),(8, .q),(9, .q),(10, .e),(11, .q),(12, .e),(13, .q)] mixed (by kernel_rfl) (by repeat(first|exact List.Sublist.refl _|refine List.Sublist.cons_cons _ ?_|refine List.Sublist.cons _ ?_)) ?_;refine run ?_;refine J.call rfl rfl (fun w' M=>refTop q w' (GrR.own hqok hq.cap hqs w' M) hqc) fun d hd=>?_
 obtain⟨ha,hn,hc⟩:=d;dsimp only at hd⊢;subst hd;refine J.fact (.wown 29 .u8 32 ha (S.hdN q.P) hc (S.hdI q.P)) (fun _ _ h=>(wown_len h).2) fun hnc=>?_
 refine run ?_;refine J.call rfl rfl (fun w' M=>(RW.own' (a:=ha) w' M).elim fun _ k0=>rBuildR x hx ha (S.hdN q.P) hc (S.hdI q.P) (S.stmV q.P) hsu o ho w' k0 hnc (by omega)) fun u hu=>?_
 refine run ?_;exact J.finG u rfl hu sb
end W
namespace W
open Go.RowKit G
set_option maxRecDepth 20000
set_option maxHeartbeats 2500000
attribute [local irreducible] RS RX RY Code.wp bodyPost J Ent.blk Ent.irow Ent.iown Ent.wrow Ent.wown Ent.gown Ent.all Ent.emp
instance:Ents prog 15:=⟨.mk func15 (by kernel_rfl) rfl⟩
instance:Ents prog 47:=⟨.mk func47 (by kernel_rfl) rfl⟩
instance:Ents prog 33:=⟨.mk func33 (by kernel_rfl) rfl⟩
instance:Ents prog 48:=⟨.mk func48 (by kernel_rfl) rfl⟩
instance:Ents prog 49:=⟨.mk func49 (by kernel_rfl) rfl⟩
instance:Ents prog 44:=⟨.mk func44 (by kernel_rfl) rfl⟩
instance:Ents prog 38:=⟨.mk func38 (by kernel_rfl) rfl⟩
instance:Und prog 5 (.int .u8):=⟨underlying5⟩
instance:Ents prog 27:=⟨.mk func27 (by kernel_rfl) rfl⟩
theorem builderWrites{S0:Nat→Prop}(s:StA)(x:Int)(hx:0≤x∧x<4294967296)(o:S.OpV)(hr:o.rng)(h0:o.n=0)(TK:TypeId)(w:World)(K0:Kst w TK)(G:StI S0 w s):
  Calls prog 10 #[.agg (srC s).toArray, .int .u32 x, .agg (acC o).toArray] w (Ret w fun v _=>v= .bool true):=by
 refine J.enter 62 func10 rfl rfl ?_;refine run ?_;refine J.box rfl rfl rfl fun b1=>?_
 refine J.box rfl rfl rfl fun b2=>?_
 refine run ?_;refine J.call rfl rfl (fun w' M=>refStGreat s w' (G.ext M.ext)) fun q1 hq1=>?_
 refine run ?_;refine J.sp rfl rfl rfl (fun c2=>?_) (fun c2=>?_)
 ·refine run ?_;exact J.fin rfl
 refine run ?_;refine J.callp rfl rfl (fun w' M=>lawGreat24 o w') ?_;refine run ?_;refine J.ifd rfl (fun c3=>?_) (fun c3=>?_)
 ·refine run ?_;exact J.fin rfl
 have H:=G.st (hq1 c2);have ho:o.ok:=hr.ok fun h=>by
  rcases h with h|h
  ·omega
  exact c3 h
 have hf:=S.wrt_fit (x:=x) H.g ho;have hA:=hf.i;have hb:=hf.b;refine run ?_;refine J.call rfl rfl (fun w' M=>refStTwin s w' (H.ext M.ext)) fun t ht=>?_
 refine run ?_;refine J.alloc rfl fun b3=>?_
 refine run ?_;refine J.call rfl rfl (fun w' M=>bWrite x hx t o ho TK w' (K0.ext M.ext) (ht.own H.z w' M)) fun y hy=>?_
 rw[ht.V]at hy⊢;refine run ?_;refine J.alloc rfl fun b6=>?_
 refine J.alloc rfl fun b7=>?_
 refine run ?_;refine J.call rfl rfl (fun w' M=>rWrite x hx s o ho w' (H.ext M.ext)) fun u hu=>?_
 refine run ?_;refine J.alloc rfl fun b8=>?_
 refine J.alloc rfl fun b9=>?_
 obtain⟨⟨yo,yp,yc⟩,ya,yn,yd⟩:=y;obtain⟨⟨uo,up,uc⟩,ua,un,ud⟩:=u;obtain⟨hy1,hy2⟩:=hy;obtain⟨hu1,hu2⟩:=hu;dsimp only at hy1 hy2 hu1 hu2⊢;subst hy1 hu1;have hvo:=hf.o;refine J.fact (.irow .u8 ya yn (S.wrtR s.V x o).b) (fun _ _ h=>by unfold Ent.irow at h;exact IRow.len h) fun hyl=>?_
 refine J.fact (.irow .u8 ua un (S.wrtR s.V x o).b) (fun _ _ h=>by unfold Ent.irow at h;exact IRow.len h) fun hul=>?_
 refine run ?_;refine J.callp rfl rfl (fun w' M=>(RW.row' (a:=yp) w' M).elim fun _ k0=>(RW.row' (a:=up) w' M).elim fun _ k1=>sameO _ _ hvo hvo _ _ _ _ w' k0 k1) ?_;refine run ?_;refine J.spd rfl rfl rfl (fun _=>?_) (fun c=>absurd (S.sameO_refl _) c);refine run ?_;refine J.callp rfl rfl (fun w' M=>(RI.row' (a:=ya) w' M).elim fun _ k0=>(RI.row' (a:=ua) w' M).elim fun _ k1=>sameBytes _ _ _ _ _ _ _ _ w' k0 k1 (by omega) (by omega)) ?_;refine run ?_;refine J.spd rfl rfl rfl (fun _=>?_) (fun c=>absurd rfl c);refine run ?_;refine J.spd rfl rfl rfl (fun _=>?_) (fun c=>absurd rfl c);refine run ?_;refine J.spe rfl rfl rfl (fun _=>?_) (fun c=>absurd rfl c);refine run ?_;refine J.callp rfl rfl (fun w' M=>refStSame t s w' (ht.own H.z w' M) (H.ext M.ext)) ?_;refine run ?_;exact J.fin (congrArg _ (decide_eq_true (S.eqT_same ht.V)))
end W
end Go.Proofs.YtaapnlnileblaaaGreatDoor
