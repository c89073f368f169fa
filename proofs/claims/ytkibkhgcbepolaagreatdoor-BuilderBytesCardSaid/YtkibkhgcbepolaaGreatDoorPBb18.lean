/-
  Part 18 of the lemmas of these laws: BuilderBytes.
-/
import Derived.Test.YtkibkhgcbepolaaGreatDoorPBb17
set_option linter.unusedVariables false
set_option linter.unusedSimpArgs false
open Go.Proofs.Tryz
namespace Go.Proofs.YtkibkhgcbepolaaGreatDoor
namespace W
open Go.RowKit G
set_option maxRecDepth 20000
set_option maxHeartbeats 8000000
attribute [local irreducible] RS RX RY Code.wp bodyPost J Ent.blk Ent.irow Ent.iown Ent.wrow Ent.wown Ent.gown Ent.all Ent.emp
instance:Ents prog 80:=⟨.mk func80 (by kernel_rfl) rfl⟩
instance:Ents prog 16:=⟨.mk func16 (by kernel_rfl) rfl⟩
instance:Ents prog 17:=⟨.mk func17 (by kernel_rfl) rfl⟩
@[reducible] def bdC(r:S.BdV)(q:OpA×Option Addr×Nat×Nat):Value:= .tuple #[.agg (opC q.1).toArray, .slice q.2.1 q.2.2.1 q.2.2.2, .agg (ints .u8 r.i).toArray, .int .i64 r.e]
@[reducible] def bdP(r:S.BdV)(q:OpA×Option Addr×Nat×Nat):List Ent:=[.wrow .u8 32 q.1.pa q.1.o.n q.1.o.ids, .irow .u8 q.2.1 q.2.2.1 r.b]
def BdP(r:S.BdV)(q:OpA×Option Addr×Nat×Nat):Prop:=q.1.o=r.o∧q.1.o.n≤q.1.pc
theorem bBuildR(x:Int)(hx:0≤x∧x<4294967296){S0:Nat→Prop}(a:Option Addr)(n c:Nat)(ids:List Int)(st:Int)(hs:0≤st∧st<18446744073709551616)(o:S.OpV)(ho:o.ok)(TK:TypeId)(w:World)(K0:Kst w TK)(D0:WRow .u8 32 S0 w a n ids)(hc:n≤c)(hn:n≤1000):
  Calls prog 17 #[.int .u32 x, .slice a n c, .int .u64 st, .agg (acC o).toArray] w (Gv w (bdC (S.bldR x n ids st o)) (bdP (S.bldR x n ids st o)) (BdP (S.bldR x n ids st o))):=bBuild x hx a n c ids st hs o ho TK w K0 D0 hc hn
theorem bFirst2{S0:Nat→Prop}(a:Option Addr)(e:Int)(w:World)(O:GRow inC 1 S0 w a 2 [e,0]):
  Calls prog 99 #[.slice a 2 2] w (Ret w fun v _=>v= .int .i64 e):=by
 refine J.enter 14 func99 rfl rfl ?_;refine run ?_;refine J.loopS (A:=Int) (fun p=>[(7, .int .i64 p)]) [4,8,9,10,11,12,13,14] (fun p=>(0≤p∧p≤2)∧(0<p→e=0)) (fun p=>2 - p.toNat) 0 (by kernel_rfl) ⟨by omega,fun h=>by omega⟩ (fun p j hI=>?_);obtain⟨hI,he⟩:=hI;refine run ?_;refine J.ifd rfl (fun c1=>?_) (fun c1=>?_)
 ·have hq:([e,0]:List Int)[p.toNat]? =some (if p=0 then e else 0):=by
   rcases(show p=0∨p=1 by omega)with h|h
   ·subst h;rfl
   subst h;rfl
  refine run ?_;refine J.ifn rfl (fun c2=>?_) (fun c2=>?_)
  ·have e0:p=0:=by
    rcases(show p=0∨p=1 by omega)with h|h
    ·exact h
    rw[if_neg (by omega)]at c2;exact absurd rfl c2
   refine run ?_;exact J.fin (congrArg _ (if_pos e0))
  refine run ?_;refine J.nextS (p+1) ⟨rfl,trivial⟩ (by kernel_rfl) ⟨by omega,fun _=>?_⟩ (by omega);rcases(show p=0∨p=1 by omega)with h|h
  ·rw[if_pos h]at c2;exact c2
  exact he (by omega)
 refine run ?_;exact J.fin (congrArg _ (he (by omega)).symm)
theorem stHeads2{S0:Nat→Prop}(s:ShA)(TK:TypeId)(w:World)(K0:Kst w TK)(H:ShR S0 w s)(hL:ShL s)(hok:S.okR s.V):
  Calls prog 70 #[.agg (shC s).toArray] w (Gv w (fun q:Option Addr×Nat×Nat=> .tuple #[.slice q.1 q.2.1 q.2.2, .int .i64 s.ver, .int .i64 0]) (fun q=>[.wrow .u8 32 q.1 q.2.1 s.hs]) fun q=>q.2.1≤100∧q.2.1≤q.2.2∧q.2.1=s.hn):=by
 have hcp:=H.cap;refine J.enter 15 func70 rfl rfl ?_;refine run ?_;refine J.box rfl rfl rfl fun b1=>?_
 refine run ?_;refine J.callp rfl rfl (fun w' M=>shCheck s _ w' (K0.ext M.ext) (H.ext M.ext) hL) ?_;rw[S.chkH_0 hok];refine run ?_;refine J.regionR [.blk b1 (shC s) 53] [(0, .q),(1, .q),(3, .q),(4, .q),(2, .e),(5, .q),(6, .q),(7, .q)] mixed (by kernel_rfl) (by repeat(first|exact List.Sublist.refl _|refine List.Sublist.cons_cons _ ?_|refine List.Sublist.cons _ ?_)) ?_;refine run ?_;refine J.call rfl rfl (fun w' M=>cloneW _ _ _ _ _ (H.hr.ext M.ext) hcp.2.1 (by omega)) fun q hq=>?_
 refine run ?_;refine J.re (.wown 24 .u8 32 q.1 s.hn q.2 s.hs) (.wrow .u8 32 q.1 s.hn s.hs) (fun S w=>wown_wrow) ?_;exact J.finG (q.1,s.hn,q.2) rfl ⟨hcp.2.2.2,hq,rfl⟩ sb
theorem bWrite(x:Int)(hx:0≤x∧x<4294967296){S0:Nat→Prop}(s:StA)(o:S.OpV)(ho:o.ok)(TK:TypeId)(w:World)(K0:Kst w TK)(H:StR S0 w s):
  Calls prog 20 #[.agg (srC s).toArray, .int .u32 x, .agg (acC o).toArray] w (Gv w (bdC (S.wrtR s.V x o)) (bdP (S.wrtR s.V x o)) (BdP (S.wrtR s.V x o))):=by
 have hcp:=H.sh.cap;refine J.enter 55 func20 rfl rfl ?_;refine run ?_;refine J.box rfl rfl rfl fun b1=>?_
 refine J.box rfl rfl rfl fun b2=>?_
 refine J.alloc rfl fun b3=>?_
 refine run ?_;refine J.alloc rfl fun b4=>?_
 refine run ?_;refine J.call rfl rfl (fun w' M=>stGraph s TK w' (K0.ext M.ext) (H.ext M.ext)) fun q hq=>?_
 dsimp only[grE,List.cons_append,List.nil_append];refine run ?_;refine J.alloc rfl fun b5=>?_
 refine run ?_;refine J.ifn rfl (fun c1=>?_) (fun c1=>?_)
 ·obtain⟨k1,k2⟩:=S.chkT_ne c1;rw[S.wrt_8 k1,k2];refine run ?_;refine J.bz rfl ?_;refine run ?_;refine J.nilR .u8 (J.nilW .u8 32 ?_);exact J.finG (⟨S.OpV.zero,none,0⟩,none,0,0) rfl ⟨rfl,Nat.le_refl _⟩ sb
 have hok:=S.chkT_iff.1 c1;have F:=S.ok_fineT H.g hok;obtain⟨n1,n4⟩:=ok_len H.sh hok.1.2.1;rw[S.grT_0 hok]at hq;have hqs:=GrP.sz hq ⟨F.fine.good,F.fine.le⟩;have hqok:=hq.ok (refWholeOk H.sh);have hqP:=GrP.P hq;refine run ?_;refine J.callp rfl rfl (fun w' M=>bStamp q TK w' (K0.ext M.ext) (GrR.own hqok hq.cap hqs w' M)) ?_;rw[hqP];refine run ?_;refine J.call rfl rfl (fun w' M=>stHeads2 s.sh TK w' (K0.ext M.ext) (H.sh.ext M.ext) H.L hok.1.2.1) fun d hd=>?_
 obtain⟨ha,hn,hc⟩:=d;dsimp only at hd⊢;obtain⟨hn1,hn2,rfl⟩:=hd;refine run ?_;refine J.b2V (p:=S.stmE (S.whole s.sh.V.ps)) (q:=0) inC (fun _=>rfl) rfl rfl rfl rfl rfl rfl rfl fun b6=>?_
 refine J.callp rfl rfl (fun w' M=>(RG.own' (a:=some ⟨b6,0,none⟩) w' M).elim fun _ k0=>bFirst2 _ _ w' k0) ?_;refine run ?_;refine J.ifn rfl (fun c2=>?_) (fun c2=>?_)
 ·rw[S.wrt_s hok c2];refine run ?_;refine J.bz rfl ?_;refine run ?_;refine J.nilR .u8 (J.nilW .u8 32 ?_);exact J.finG (⟨S.OpV.zero,none,0⟩,none,0,0) rfl ⟨rfl,Nat.le_refl _⟩ sb
 have hsu:0≤S.stmV (S.whole s.sh.V.ps)∧S.stmV (S.whole s.sh.V.ps)<18446744073709551616:=⟨(S.stm_rng c2).1,Int.lt_of_le_of_lt (S.stm_rng c2).2 (by decide)⟩
 have hhs:s.sh.hs=S.hdI (S.whole s.sh.V.ps):=F.hs;have hhn:S.hdN (S.whole s.sh.V.ps)=s.sh.hn:=by
  have h1:(S.hdI (S.whole s.sh.V.ps)).length=32*S.hdN (S.whole s.sh.V.ps):=(S.hd_all F.fine).1;have h2:=H.sh.hr.len;rw[←hhs]at h1;omega
 have ew:=S.wrt_0 (x:=x) (o:=o) hok c2;rw[show S.hdN (S.whole s.V.sh.ps)=s.sh.hn from hhn,show S.hdI (S.whole s.V.sh.ps)=s.sh.hs from hhs.symm]at ew;rw[ew];have hf:(S.bldR x s.sh.hn s.sh.hs (S.stmV (S.whole s.sh.V.ps)) o).fit:=S.bld_fit ho hsu H.sh.hr.len;have hA:=hf.i;refine run ?_;refine J.call rfl rfl (fun w' M=>(RW.row' (a:=ha) w' M).elim fun _ k0=>bBuildR x hx ha s.sh.hn hc s.sh.hs (S.stmV (S.whole s.sh.V.ps)) hsu o ho TK w' (K0.ext M.ext) k0 hn2 (by omega)) fun u hu=>?_
 refine run ?_;exact J.finG u rfl hu sb
end W
namespace G
open Go.RowKit
section
variable{S0:Nat→Prop}{w0:World}{L:List Ent}{P:Program}{ops:Array Oper}{K:List Value→World→Prop}{rest:List (Oper×Kd)}{l:List Value}{m:Md}{d:Tmp}{ty t e:TypeId}{pos:String}{af:Array Edge}{kd:Kd}{α:Type}
theorem J.bnG{n sz by_:Nat}{parts:Array (Nat×Operand)}{zs vs:List Value}(f:α→List Value)(qs:List α)(hf:∀x,(f x).length=sz)[U:Und P t (.slice e)][I:Inf P e sz by_ zs]{l':Nat→List Value}(hk:okE m kd=true)(hv:(parts.toList.map Prod.snd).map (ev l)=vs)(hc:vs.flatMap (·.cells.toList)=qs.flatMap f)(hcs:∀v∈vs,v.cells.size=sz)
  (kk:∀b,J S0 w0 (.gown f sz e (some ⟨b,0,none⟩) n n qs::L) (RY S0 w0 m P ops K rest (l' b)))(hp:parts.toList=enumV 0 (parts.toList.map Prod.snd):=by rfl)(hl2:vs.length=n:=by rfl)(hq:qs.length=n:=by rfl)(hz:0<sz:=by decide)(hn:Nat.ble n 1000=true:=by rfl)(hz2:Nat.ble sz 1000=true:=by rfl)(h0:Nat.ble 1 n=true:=by rfl)
  (hl:∀b,l.set d (.slice (some ⟨b,0,none⟩) n n)=l' b:=by intro b;dsimp only[List.set]):J S0 w0 L (RY S0 w0 m P ops K ((⟨some d, .buildSlice t n parts,ty,pos,af,none⟩,kd)::rest) l):=
 J.eff hk fun w M K' hK => RS.buildSlice (vs := vs) (cs := qs.flatMap f) U.h I.h hz hn hz2 hp hv hl2 hc hcs h0 fun b w' e1 s1 x1 B => RS.nil (hK _ w' x1 (by
  rw [hl]
  exact kk b w' (M.new x1 (gown_blk (lst := qs) ⟨by subst e1; exact Nat.le_refl _, B⟩ hf rfl hq (by have := Nat.le_of_ble_eq_true hn; omega)))))
end
end G
namespace W
open Go.RowKit G
set_option maxRecDepth 20000
set_option maxHeartbeats 8000000
attribute [local irreducible] RS RX RY Code.wp bodyPost J Ent.blk Ent.irow Ent.iown Ent.wrow Ent.wown Ent.gown Ent.all Ent.emp
instance:Und prog 48 (.slice 5):=⟨underlying48⟩
theorem StZ.off{v:S.StV}{o:S.OpV}(hz:StZ v)(hg:S.StG v)(h:S.okT v)(hv:S.verE o=0):StZ (S.offT v o):=by
 by_cases c:S.judT v o=1
 ·rw[S.off_1 c];obtain⟨a1,a2⟩:=S.com_add hg h hv c;have F:=S.ok_fineT hg h;obtain⟨_,_,b3,b4,_⟩:=S.add_fine F.fine.good.1 a1;rw[a2]at b3 b4;have hle:=b3.le;have hcp:=F.cap;have hps:=F.ps;refine⟨fun p hp=>?_,⟨?_,?_⟩,fun _=>?_,?_⟩
  ·obtain⟨i,hi,rfl⟩:=List.mem_map.1 hp;obtain⟨h1,h2⟩:=S.prt_size (S.putP (S.whole v.sh.ps) (S.idOf o) o) v.sh.ps.length i;exact⟨by omega,by omega⟩
  ·show(S.madeS _ _).ps.length≤6;rw[S.made_len];omega
  ·exact Nat.le_trans (S.numF_le _ _) (Nat.le_trans hle (by decide))
  ·exact Nat.le_trans (S.allN_made b3) (Nat.le_trans hle (by decide))
  show v.n+1≤70;omega
 rw[S.off_no c];exact hz
instance:Ents prog 100:=⟨.mk func100 (by kernel_rfl) rfl⟩
instance:Ents prog 193:=⟨.mk func193 (by kernel_rfl) rfl⟩
instance:Ents prog 41:=⟨.mk func41 (by kernel_rfl) rfl⟩
instance:Ents prog 101:=⟨.mk func101 (by kernel_rfl) rfl⟩
instance:Ents prog 102:=⟨.mk func102 (by kernel_rfl) rfl⟩
theorem refStNew(c n:Int)(w:World):
  Calls prog 18 #[.int .i64 c, .int .i64 n] w (Gv w (fun q:StA=> .tuple #[.agg (srC q).toArray, .int .i64 (S.nwTE c n)]) (fun q=>stE q) (StK (S.nwT c n))):=by
 have bad:¬((1≤c∧c≤40)∧1≤n∧n≤4)→S.nwT c n=S.StV.zero∧S.nwTE c n=2:=S.nwT_2;refine J.enter 25 func18 rfl rfl ?_;refine run ?_;refine J.alloc rfl fun b1=>?_
 refine run ?_;refine J.call rfl rfl (fun w' M=>shOne (refShNew n w')) fun u hu=>?_
 refine run ?_;refine J.alloc rfl fun b2=>?_
 refine run ?_;refine J.spd rfl rfl rfl (fun c1=>?_) (fun c1=>?_)
 ·obtain⟨e1,e2⟩:=bad (by omega);rw[e2];refine run ?_;refine J.nilWo 24 .u8 32 ?_;refine J.nilSh ?_;exact J.finG StA.zero rfl (stZero e1) sb
 refine run ?_;refine J.spd rfl rfl rfl (fun c2=>?_) (fun c2=>?_)
 ·obtain⟨e1,e2⟩:=bad (by omega);rw[e2];refine run ?_;refine J.nilWo 24 .u8 32 ?_;refine J.nilSh ?_;exact J.finG StA.zero rfl (stZero e1) sb
 refine run ?_;refine J.ifn rfl (fun c3=>?_) (fun c3=>?_)
 ·obtain⟨e1,e2⟩:=bad fun h=>c3 (if_pos h.2);rw[e2];refine run ?_;refine J.nilWo 24 .u8 32 ?_;refine J.nilSh ?_;exact J.finG StA.zero rfl (stZero e1) sb
 have hn:1≤n∧n≤4:=Classical.byContradiction fun h=>by
  rw[show S.nwE n=2 from if_neg h]at c3;exact absurd c3 (by decide)
 obtain⟨e1,e2⟩:=S.nwT_0 (c:=c) (n:=n) ⟨by omega,hn⟩;rw[e2];refine run ?_;refine J.nilWo 24 .u8 32 ?_;refine J.front (.wown 24 .u8 32 none 0 0 []) ?_;refine J.front (shW u) ?_;refine J.finG ⟨c,u,none,0,0,[]⟩ rfl ⟨?_,hu.k⟩ sb;rw[e1];have e4:u.V=S.nwS n:=hu.V;unfold StA.V;dsimp only;rw[e4,show S.nwS n=S.madeS S.PG.nil n.toNat from if_pos hn]
theorem refStAsked{S0 S1:Nat→Prop}(s:StA)(z:OpA)(w:World)(H:StR S0 w s)(R:OpR S1 w z):
  Calls prog 101 #[.agg (srC s).toArray, .agg (opC z).toArray] w (Ret w fun v _=>v= .int .i64 (S.askE s.V z.o)):=by
 refine J.enter 8 func101 rfl rfl ?_;refine run ?_;refine J.box rfl rfl rfl fun b1=>?_
 refine J.box rfl rfl rfl fun b2=>?_
 refine run ?_;refine J.callp rfl rfl (fun w' M=>refStCheck s w' (H.ext M.ext)) ?_;refine run ?_;refine J.ifn rfl (fun c1=>?_) (fun c1=>?_)
 ·obtain⟨k1,k2⟩:=S.chkT_ne c1;refine run ?_;exact J.fin (congrArg _ (S.askE_8 k1).symm)
 refine run ?_;refine J.callp rfl rfl (fun w' M=>verifyOR z.o R.ok _ _ _ (R.row.ext M.ext) R.cap) ?_;refine run ?_;exact J.fin (congrArg _ (S.askE_v (S.chkT_iff.1 c1)).symm)
theorem refJudgedT{S0 S1:Nat→Prop}(s:StA)(z:OpA)(w:World)(H:StR S0 w s)(R:OpR S1 w z)(hv:S.verE z.o=0):
  Calls prog 193 #[.agg (srC s).toArray, .agg (opC z).toArray] w (Ret w fun v _=>v= .int .u8 (S.judT s.V z.o)):=by
 have hcp:=H.cap;have h20:=R.ok.n;have hA:=S.sha_arr (S.encS z.o);have hck:=S.check_zero.1 (S.verE_check hv);refine J.enter 21 func193 rfl rfl ?_;refine run ?_;refine J.box rfl rfl rfl fun b1=>?_
 refine J.box rfl rfl rfl fun b2=>?_
 refine run ?_;refine J.regionX [(0, .q),(1, .q),(2, .q),(3, .e),(4, .e),(5, .q)] mixed (by kernel_rfl) ?_;refine run ?_;refine J.callp rfl rfl (fun w' M=>ofO z.o R.ok _ _ _ (R.row.ext M.ext) R.cap hck.1 (fun hk=>S.fine4 hck.2.2.2.2.2.2 hk)) ?_;refine run ?_;refine J.callp rfl rfl (fun w' M=>refAt _ _ _ _ _ w' (H.os.ext M.ext) hA (by omega)) ?_;refine run ?_;have a1:(0≤S.atS s.on s.os (S.sha (S.encS z.o)))↔S.inS s.on s.os (S.sha (S.encS z.o)):=by rw[←Int.not_lt,S.at_neg,Classical.not_not]
 refine J.ifd rfl (fun c1=>?_) (fun c1=>?_)
 ·refine run ?_;exact J.fin (congrArg _ (S.jud_5 (a1.1 c1)).symm)
 have c1':¬S.inS s.V.n s.V.os (S.idOf z.o):=fun h=>c1 (a1.2 h);refine run ?_;refine J.callp rfl rfl (fun w' M=>refAll _ _ _ _ _ _ _ _ w' (H.os.ext M.ext) (R.row.ext M.ext) (by omega) (by omega)) ?_;refine run ?_;refine J.ifnot rfl (fun c2=>?_) (fun c2=>?_)
 ·refine run ?_;exact J.fin (congrArg _ (S.jud_6 c1' (of_decide_eq_false c2)).symm)
 have c2:=of_decide_eq_true c2;refine run ?_;refine J.ife rfl (fun c3=>?_) (fun c3=>?_)
 ·refine run ?_;exact J.fin (congrArg _ (S.jud_8 c1' c2 c3).symm)
 refine run ?_;exact J.fin (congrArg _ (S.jud_1 c1' c2 c3).symm)
theorem refOfferedT{S0 S1:Nat→Prop}(s:StA)(z:OpA)(w:World)(H:StR S0 w s)(R:OpR S1 w z)(hok:S.okT s.V)(hv:S.verE z.o=0):
  Calls prog 102 #[.agg (srC s).toArray, .agg (opC z).toArray] w (Gv w (fun q:StA=> .tuple #[.agg (srC q).toArray, .int .u8 (S.judT s.V z.o)]) (fun q=>stE q) (StK (S.offT s.V z.o))):=by
 have hcp:=H.cap;have hA:=S.sha_arr (S.encS z.o);have hck:=S.check_zero.1 (S.verE_check hv);have F:=S.ok_fineT H.g hok;obtain⟨n1,n4⟩:=ok_len H.sh hok.1.2.1;have hle:=H.sh.le H.L n4;have hwg:=S.whole_good (ps:=s.sh.V.ps) H.sh.ml;have hll:s.sh.V.ps.length=s.sh.pn:=by rw[List.length_map,H.sh.pr.len]
 refine J.enter 36 func102 rfl rfl ?_;refine run ?_;refine J.box rfl rfl rfl fun b1=>?_
 refine J.box rfl rfl rfl fun b2=>?_
 refine J.alloc rfl fun b3=>?_
 refine run ?_;refine J.callp rfl rfl (fun w' M=>refJudgedT s z w' (H.ext M.ext) (R.ext M.ext) hv) ?_;refine run ?_;refine J.call rfl rfl (fun w' M=>refStTwin s w' (H.ext M.ext)) fun t ht=>?_
 refine run ?_;refine J.alloc rfl fun b4=>?_
 refine run ?_;refine J.ife rfl (fun c2=>?_) (fun c2=>?_)
 ·obtain⟨a1,a2⟩:=S.com_add H.g hok hv c2;obtain⟨_,_,b3f,b4f,_⟩:=S.add_fine F.fine.good.1 a1;rw[a2]at b3f b4f;refine run ?_;refine J.callp rfl rfl (fun w' M=>ofO z.o R.ok _ _ _ (R.row.ext M.ext) R.cap hck.1 (fun hk=>S.fine4 hck.2.2.2.2.2.2 hk)) ?_;refine run ?_;refine J.alloc rfl fun b5=>?_
  refine run ?_;refine J.regionX [(0, .q),(1, .q),(3, .q),(4, .q),(6, .q),(7, .q),(8, .q),(9, .q),(2, .e),(5, .e),(10, .e),(11, .q),(12, .g)] mixed (by kernel_rfl) ?_;refine run ?_;refine J.call rfl rfl (fun w' M=>refWhole s.sh w' (H.sh.ext M.ext) H.L n4) fun q hq=>?_
  dsimp only[grE,List.cons_append,List.nil_append];have hqs:=GrP.sz (P:=S.whole s.sh.V.ps) hq ⟨F.fine.good,F.fine.le⟩;have hqok:=hq.ok (refWholeOk H.sh);have hqP:q.P=S.whole s.sh.V.ps:=GrP.P hq;have hqm:q.m=(S.whole s.sh.V.ps).m:=hq.m;have hqn:q.n=q.m:=by rw[hq.n,hwg.2,hqm]
  have h60:(S.whole s.sh.V.ps).m≤60:=F.fine.le;refine run ?_;refine J.call rfl rfl (fun w' M=>refPut q (S.sha (S.encS z.o)) z w' (GrR.own hqok hq.cap hqs w' M) hA (R.ext M.ext) hqn (by omega)) fun r hr=>?_
  dsimp only[grE,List.cons_append,List.nil_append];have hq1:q.m=(S.whole s.sh.V.ps).m:=congrArg S.PG.m hqP;have hq2:q.ids=(S.whole s.sh.V.ps).ids:=congrArg S.PG.ids hqP;have hq3:q.ops=(S.whole s.sh.V.ps).ops:=congrArg S.PG.ops hqP;rw[hq1,hq2,hq3]at hr;have hrP:r.P=S.putP (S.whole s.sh.V.ps) (S.idOf z.o) z.o:=GrP.P hr;have hro:∀o∈(S.putP (S.whole s.sh.V.ps) (S.idOf z.o) z.o).ops,o.ok:=fun o ho=>by
   rcases List.mem_append.1 ho with h|h
   ·exact refWholeOk H.sh o (List.mem_of_mem_take h)
   rcases List.mem_cons.1 h with rfl|h
   ·exact R.ok
   exact refWholeOk H.sh o (List.mem_of_mem_drop h)
  have hrs:=GrP.sz (P:=S.putP (S.whole s.sh.V.ps) (S.idOf z.o) z.o) hr ⟨b3f.good,b3f.le⟩;have hrc:S.chkG r.m r.ids r.ops=0:=by
   have h:=(S.chkP_fine b3f.good.1).2 b3f;have h:S.chkP (S.putP (S.whole s.sh.V.ps) (S.idOf z.o) z.o)=0:=h;rw[←hrP]at h;exact h
  refine run ?_;refine J.call rfl rfl (fun w' M=>shOne (refMade r s.sh.pn w' (GrR.own (hr.ok hro) hr.cap hrs w' M) hrc n4)) fun u hu=>?_
  rw[hrP]at hu;refine run ?_;refine J.b1W rfl rfl hA fun bb=>?_
  have hton:t.on=s.on:=congrArg S.StV.n ht.V;refine J.apW rfl rfl RW.own' fun a' c'=>?_
  refine run ?_;refine J.front (.wown 24 .u8 32 a' (t.on+1) c' (t.os++S.sha (S.encS z.o))) ?_;refine J.front (shW u) ?_;refine J.finG ⟨t.cap,u,a',t.on+1,c',t.os++S.sha (S.encS z.o)⟩ rfl ⟨?_,hu.k⟩ sb;rw[S.off_1 c2];have e1:t.cap=s.cap:=congrArg S.StV.cap ht.V;have e2:t.on=s.on:=congrArg S.StV.n ht.V;have e3:t.os=s.os:=congrArg S.StV.os ht.V;have e4:u.V=_:=hu.V;unfold StA.V S.comT;dsimp only;rw[e1,e2,e3,e4,←hll]
 refine run ?_;refine J.finG t rfl ⟨?_,ht.k⟩ sb;rw[S.off_no c2];exact ht.V
theorem refStOffer{S0 S1:Nat→Prop}(s:StA)(z:OpA)(w:World)(H:StR S0 w s)(R:OpR S1 w z):
  Calls prog 19 #[.agg (srC s).toArray, .agg (opC z).toArray] w (Gv w (fun q:StA=> .tuple #[.agg (srC q).toArray, .int .u8 (S.ofJ s.V z.o), .int .i64 (S.askE s.V z.o)]) (fun q=>stE q) (StK (S.ofS s.V z.o))):=by
 refine J.enter 23 func19 rfl rfl ?_;refine run ?_;refine J.box rfl rfl rfl fun b1=>?_
 refine J.box rfl rfl rfl fun b2=>?_
 refine J.alloc rfl fun b3=>?_
 refine run ?_;refine J.callp rfl rfl (fun w' M=>refStAsked s z w' (H.ext M.ext) (R.ext M.ext)) ?_;refine run ?_;refine J.ifn rfl (fun c1=>?_) (fun c1=>?_)
 ·rw[(S.of_no c1).2];refine run ?_;refine J.nilWo 24 .u8 32 ?_;refine J.nilSh ?_;exact J.finG StA.zero rfl (stZero (S.of_no c1).1) sb
 obtain⟨hok,hv⟩:=S.askE_0 c1;rw[(S.of_yes c1).1,(S.of_yes c1).2,c1];refine run ?_;refine J.call rfl rfl (fun w' M=>refOfferedT s z w' (H.ext M.ext) (R.ext M.ext) hok hv) fun q hq=>?_
 refine run ?_;refine J.alloc rfl fun b4=>?_
 refine run ?_;exact J.finG q rfl hq sb
end W
namespace S
open G
/-! ### the third operation -/
/-! ### new stores -/
theorem nw_ok{c n:Int}(h:(1≤c∧c≤40)∧1≤n∧n≤4):okT (nwT c n)∧StG (nwT c n)∧whole (nwT c n).sh.ps=PG.nil:=by
 rw[(nwT_0 h).1];obtain⟨m1,m2⟩:=ok_made (n:=n.toNat) nil_fine (by omega);refine⟨⟨⟨h.1,m1,?_,?_⟩,fun i hi=>absurd hi (Nat.not_lt_zero _)⟩,⟨fun p hp=>((made_good nil_fine.good nil_fine.rising).mem hp).1.1,rfl⟩,m2⟩
 ·show((0:Nat):Int)≤c;omega
 ·rfl
/-! ### the example -/
/-! ### runs in parts -/
/-! ### what was committed is there -/
/-! ### other shards -/
/-! ### what is missing -/
end S
namespace W
open Go.RowKit G
set_option maxRecDepth 20000
set_option maxHeartbeats 8000000
attribute [local irreducible] RS RX RY Code.wp bodyPost J Ent.blk Ent.irow Ent.iown Ent.wrow Ent.wown Ent.gown Ent.all Ent.emp
theorem StZ.zero:StZ S.StV.zero:=⟨fun p hp=>(by cases hp),⟨Nat.zero_le _,Nat.zero_le _⟩,fun _=>Nat.zero_le _,Nat.zero_le _⟩
theorem StZ.nw(c n:Int):StZ (S.nwT c n):=by
 by_cases h:(1≤c∧c≤40)∧1≤n∧n≤4
 ·rw[(S.nwT_0 h).1];refine⟨fun p hp=>?_,⟨?_,Nat.zero_le _⟩,fun _=>Nat.le_trans (S.allN_made S.nil_fine) (Nat.zero_le _),Nat.zero_le _⟩
  ·obtain⟨i,hi,rfl⟩:=List.mem_map.1 hp;obtain⟨h1,h2⟩:=S.prt_size S.PG.nil n.toNat i;exact⟨Nat.le_trans h1 (Nat.zero_le _),Nat.le_trans h2 (Nat.zero_le _)⟩
  show(S.madeS _ _).ps.length≤6;rw[S.made_len];omega
 rw[(S.nwT_2 h).1];exact StZ.zero
end W
namespace S
open G
def hbN:OpV:=⟨0,0,1,0,0,0,0,0,0,[], .empty, .empty⟩
def hbA:OpV:=⟨0,4,1,0,0,0,0,0,0,[], .empty, .empty⟩
theorem hb_okN:hbN.ok:=⟨by decide,by decide,by decide,by decide,by decide,by decide,by decide,by decide,by decide,by decide,by decide⟩
theorem hb_okA:hbA.ok:=⟨by decide,by decide,by decide,by decide,by decide,by decide,by decide,by decide,by decide,by decide,by decide⟩
theorem hb_signE:signE 5 hbA=0:=signE_zero.2 ⟨by decide,check_zero.2 ⟨(by decide:(0:Nat)≤4),rising_nil,isG_pub 5 (by decide),(by decide:(4:Int)≤1000000000000),(by decide:(0:Int)<500000003),(by decide:(0:Int)<500000003), .inl ⟨rfl,rfl,rfl,rfl,rfl,rfl⟩⟩⟩
noncomputable def hbO:OpV:=signS 5 hbA
theorem hb_is:hbO.n=0∧hbO.ids=[]∧hbO.st=4:=by
 unfold hbO;rw[signS_eq hb_signE];exact⟨rfl,rfl,rfl⟩
theorem hb_ok:hbO.ok:=signS_ok 5 hbA hb_okA
theorem hb_ver:verE hbO=0:=(sign_good hb_okA rfl hb_signE).2.2.2.2.2.2
theorem hb_nw:nwT 3 1=⟨3,madeS PG.nil 1,0,[]⟩:=(nwT_0 (by decide)).1
theorem hb_okT:okT (nwT 3 1)∧StG (nwT 3 1)∧whole (nwT 3 1).sh.ps=PG.nil:=nw_ok (by decide)
theorem hb_jud:judT (nwT 3 1) hbO=1:=by
 rw[hb_nw];refine jud_1 (fun⟨i,hi,_⟩=>absurd hi (Nat.not_lt_zero _)) (fun j hj=>?_) (by decide);rw[hb_is.1]at hj;exact absurd hj (Nat.not_lt_zero _)
noncomputable def hbT:StV:=comT (nwT 3 1) hbO
theorem hbT_of:ofS (nwT 3 1) hbO=hbT∧askE (nwT 3 1) hbO=0:=by
 have e:askE (nwT 3 1) hbO=0:=(askE_v hb_okT.1).trans hb_ver;exact⟨(of_yes e).1.trans (off_1 hb_jud),e⟩
theorem putP_nil0(x:List Int)(o:OpV):putP PG.nil x o=⟨1,x,[o]⟩:=by
 unfold putP insW insO PG.nil;simp
theorem rising_one{x:List Int}:Rising 1 x:=fun i hi=>absurd hi (Nat.not_lt_zero _)
theorem hd_one{x:List Int}{o:OpV}(hf:(⟨1,x,[o]⟩:PG).fine)(hx:x.length=32)(ho:o.n=0):hdN ⟨1,x,[o]⟩=1∧hdI ⟨1,x,[o]⟩=x:=by
 obtain⟨h1,h2,h3⟩:=hd_all hf;refine idsG_ext h1 (by rw[hx]) h2 rising_one fun y=>(h3 y).trans ⟨fun h=>h.1,fun h=>⟨h,fun z u hu=>?_⟩⟩;obtain⟨i,hi,_,e⟩:=hu;obtain rfl:i=0:=by
  have:i<1:=hi;omega
 have e:o=u:=e;subst e;rw[ho];exact fun⟨k,hk,_⟩=>absurd hk (Nat.not_lt_zero _)
theorem nxt_one{o:OpV}(h:o.st=4):nxtS [o]=5:=by
 show stp 0 o=5;unfold stp;rw[h];decide
theorem pre_one{x:List Int}(hx:x.length=32):preE 1 x=0∧preN 1 x=1∧preL 1 x=x:=by
 have e:preE 1 x=0:=preE_0 (by decide) rising_one;refine⟨e,(pre_yes e).1,(pre_yes e).2.trans ?_⟩;exact List.take_of_length_le (by rw[hx];decide)
theorem bld_one{x:List Int}(hx:x.length=32):(bldR 6 1 x 5 hbN).e=0∧(bldR 6 1 x 5 hbN).o.st=5∧(bldR 6 1 x 5 hbN).o.n=1∧(bldR 6 1 x 5 hbN).o.ids=x:=by
 obtain⟨p1,p2,p3⟩:=pre_one hx
 have hs : signE 6 (bldO 1 x 5 hbN) = 0 := signE_zero.2 ⟨by decide, check_zero.2 ⟨by show preN 1 x ≤ 4; exact preN_le _ _, by
  show Rising (preN 1 x) (preL 1 x)
  rw [p2]
  exact rising_one, isG_pub 6 (by decide), (by decide : (5 : Int) ≤ 1000000000000), (by decide : (0 : Int) < 500000003), (by decide : (0 : Int) < 500000003), .inl ⟨rfl, rfl, rfl, rfl, rfl, rfl⟩⟩⟩
 have he:bldE 6 1 x 5 hbN=0:=(bldE_2 p1).trans hs;refine⟨he,?_⟩;show(bldV 6 1 x 5 hbN).st=5∧(bldV 6 1 x 5 hbN).n=1∧(bldV 6 1 x 5 hbN).ids=x;rw[(bld_yes he).1,signS_eq hs];exact⟨rfl,p2,p3⟩
theorem hbT_ok:okT hbT∧StG hbT∧whole hbT.sh.ps=⟨1,idOf hbO,[hbO]⟩:=by
 obtain⟨h1,h2,h3⟩:=com_ok hb_okT.2.1 hb_okT.1 hb_ver hb_jud;rw[hb_okT.2.2,putP_nil0]at h3;exact⟨h1,h2,h3⟩
theorem hbT_fine:(whole hbT.sh.ps).fine:=(ok_fineT hbT_ok.2.1 hbT_ok.1).fine
theorem hbT_hd:hdN (whole hbT.sh.ps)=1∧hdI (whole hbT.sh.ps)=idOf hbO:=by
 have h:=hbT_fine;rw[hbT_ok.2.2]at h⊢;exact hd_one h (idOf_len _) hb_is.1
theorem hbT_stm:stmE (whole hbT.sh.ps)=0∧stmV (whole hbT.sh.ps)=5:=by
 have hn:nxtS (whole hbT.sh.ps).ops=5:=by
  rw[hbT_ok.2.2];exact nxt_one hb_is.2.2
 have e:=stmE_0 ((chkP_fine hbT_fine.good.1).2 hbT_fine) (by rw[hn];decide);exact⟨e,(stmV_yes e).trans hn⟩
theorem hb_wrt:(wrtR hbT 6 hbN).e=0∧(wrtR hbT 6 hbN).o.st=5∧(wrtR hbT 6 hbN).o.n=1∧(wrtR hbT 6 hbN).o.ids=idOf hbO:=by
 rw[wrt_0 hbT_ok.1 hbT_stm.1,hbT_hd.1,hbT_hd.2,hbT_stm.2];exact bld_one (idOf_len _)
theorem hb_nil:preE 0 []=0∧preN 0 []=0∧preL 0 []=[]:=⟨preE_0 (by decide) rising_nil,(pre_yes (preE_0 (by decide) rising_nil)).1,(pre_yes (preE_0 (by decide) rising_nil)).2⟩
theorem hb_stm0:stmE PG.nil=0∧stmV PG.nil=0:=by
 have e:=stmE_0 (g:=PG.nil) hx_chk (by decide);exact⟨e,stmV_yes e⟩
def hbI(k:Int):List Int:=k::List.replicate 31 0
def hbF:List Int:=hbI 1++(hbI 2++(hbI 3++(hbI 4++hbI 5)))
theorem hb_arr {k : Int} (h : 0 ≤ k ∧ k < 256) : Arr .u8 32 (hbI k) := ⟨rfl, fun x hx => by
 rcases List.mem_cons.1 hx with rfl | h2
 ·exact h
 ·rw [List.eq_of_mem_replicate h2]; decide⟩
theorem hb_five:preE 5 hbF=0∧preN 5 hbF=4∧preL 5 hbF=hbF.take 128:=by
 have e:preE 5 hbF=0:=preE_0 (by decide) (by decide+kernel);exact⟨e,(pre_yes e).1,(pre_yes e).2⟩
end S
namespace W
open Go.RowKit G
set_option maxRecDepth 20000
set_option maxHeartbeats 8000000
attribute [local irreducible] RS RX RY Code.wp bodyPost J Ent.blk Ent.irow Ent.iown Ent.wrow Ent.wown Ent.gown Ent.all Ent.emp
instance:Siz prog 33 6:=⟨by kernel_rfl⟩
instance:Ents prog 14:=⟨.mk func14 (by kernel_rfl) rfl⟩
instance:Ents prog 13:=⟨.mk func13 (by kernel_rfl) rfl⟩
instance:Ents prog 18:=⟨.mk func18 (by kernel_rfl) rfl⟩
instance:Ents prog 19:=⟨.mk func19 (by kernel_rfl) rfl⟩
instance:Ents prog 20:=⟨.mk func20 (by kernel_rfl) rfl⟩
instance:Ents prog 103:=⟨.mk func103 (by kernel_rfl) rfl⟩
theorem none24(w:World):Calls prog 14 #[] w (Ret w fun v _=>v= .agg (acC S.hbN).toArray):=by
 refine J.enter 2 func14 rfl rfl ?_;refine run ?_;refine J.alloc rfl fun b1=>?_
 refine run ?_;exact J.fin rfl
theorem five24(w:World):Calls prog 103 #[] w (Gv w (fun q:Nat=> .slice (some ⟨q,0,none⟩) 5 5) (fun q=>[.wown 24 .u8 32 (some ⟨q,0,none⟩) 5 5 S.hbF]) fun _=>True):=by
 refine J.enter 7 func103 rfl rfl ?_;refine run ?_;refine J.bI .u8 (List.replicate 32 0) [(0,1)] (S.hbI 1) rfl rfl rfl rfl ?_;refine run ?_;refine J.bI .u8 (List.replicate 32 0) [(0,2)] (S.hbI 2) rfl rfl rfl rfl ?_;refine run ?_;refine J.bI .u8 (List.replicate 32 0) [(0,3)] (S.hbI 3) rfl rfl rfl rfl ?_;refine run ?_;refine J.bI .u8 (List.replicate 32 0) [(0,4)] (S.hbI 4) rfl rfl rfl rfl ?_;refine run ?_;refine J.bI .u8 (List.replicate 32 0) [(0,5)] (S.hbI 5) rfl rfl rfl rfl ?_;refine run ?_
 refine J.bnG (vs := [.agg (ints .u8 (S.hbI 1)).toArray, .agg (ints .u8 (S.hbI 2)).toArray, .agg (ints .u8 (S.hbI 3)).toArray, .agg (ints .u8 (S.hbI 4)).toArray, .agg (ints .u8 (S.hbI 5)).toArray]) idC [⟨S.hbI 1, rfl⟩, ⟨S.hbI 2, rfl⟩, ⟨S.hbI 3, rfl⟩, ⟨S.hbI 4, rfl⟩, ⟨S.hbI 5, rfl⟩] idC_len rfl rfl rfl (fun v hv => by
  simp only [List.mem_cons, List.not_mem_nil, or_false] at hv
  rcases hv with rfl | rfl | rfl | rfl | rfl <;> rfl) fun b => ?_
 refine run ?_;have e:flatI [⟨S.hbI 1,rfl⟩,⟨S.hbI 2,rfl⟩,⟨S.hbI 3,rfl⟩,⟨S.hbI 4,rfl⟩,⟨S.hbI 5,rfl⟩]=S.hbF:=by decide
 have hbd:Bd .u8 S.hbF:=fun x hx=>by
  have k:=fun(i:Int) (hi:0≤i∧i<256)=>(S.hb_arr hi).2;rcases List.mem_append.1 hx with h|h
  ·exact k 1 (by decide) x h
  rcases List.mem_append.1 h with h|h
  ·exact k 2 (by decide) x h
  rcases List.mem_append.1 h with h|h
  ·exact k 3 (by decide) x h
  rcases List.mem_append.1 h with h|h
  ·exact k 4 (by decide) x h
  exact k 5 (by decide) x h
 refine J.re (.gown idC 32 24 (some ⟨b,0,none⟩) 5 5 [⟨S.hbI 1,rfl⟩,⟨S.hbI 2,rfl⟩,⟨S.hbI 3,rfl⟩,⟨S.hbI 4,rfl⟩,⟨S.hbI 5,rfl⟩]) (.wown 24 .u8 32 (some ⟨b,0,none⟩) 5 5 S.hbF) (fun _ _ h=>e▸gown_wown (e.symm▸hbd) h) ?_;exact J.finG b rfl trivial sb
theorem bdAlive(TK:TypeId)(w:World)(K0:Kst w TK):Calls prog 21 #[] w (Ret w fun v _=>v= .bool true):=by
 have hbZ:StZ S.hbT:=by
  have h:=(StZ.nw 3 1).off S.hb_okT.2.1 S.hb_okT.1 S.hb_ver;rwa[S.off_1 S.hb_jud]at h
 have hA:Arr .u8 32 (S.idOf S.hbO):=S.sha_arr _;have hbk:S.hbO.k=1:=by
  unfold S.hbO;rw[S.signS_eq S.hb_signE];rfl
 have hrI:Arr .u8 32 (S.wrtR S.hbT 6 S.hbN).i:=(S.wrt_fit S.hbT_ok.2.1 S.hb_okN).i;refine J.enter 107 func21 rfl rfl ?_;refine run ?_;refine J.call rfl rfl (fun w' M=>bPreds (S0:=no) none 0 0 [] w' WRow.nil (Nat.le_refl _) (by decide)) fun l hl=>?_
 rw[S.hb_nil.1,S.hb_nil.2.1,S.hb_nil.2.2];refine run ?_;refine J.callp rfl rfl (fun w' M=>bStamp (S0:=no) GrA.nil TK w' (K0.ext M.ext) ⟨WRow.nil,GRow.nil' opC_len,Inns.nil,fun z hz=>(by cases hz),Nat.le_refl _,Nat.le_refl _,Nat.zero_le _,Nat.zero_le _⟩) ?_;rw[show GrA.nil.P=S.PG.nil from rfl,S.hb_stm0.1,S.hb_stm0.2];refine run ?_;refine J.callp rfl rfl (fun w' M=>none24 w') ?_;refine run ?_;refine J.call rfl rfl (fun w' M=>signBR (S0:=no) 5 (by decide) ⟨S.hbA,none,0⟩ w' ⟨S.hb_okA,WRow.nil,Nat.le_refl _⟩) fun q hq=>?_
 obtain⟨⟨o,pa,pc⟩,e⟩:=q;obtain⟨h1,h2,h3⟩:=hq;dsimp only at h1 h2 h3⊢;obtain rfl:o=S.hbO:=h2;refine run ?_;refine J.alloc rfl fun b1=>?_
 refine run ?_;refine J.call rfl rfl (fun w' M=>refStNew 3 1 w') fun u hu=>?_
 rw[show S.nwTE 3 1=0 from rfl];refine run ?_;refine J.alloc rfl fun b2=>?_
 refine run ?_;refine J.call rfl rfl (fun w' M=>(RW.row' (a:=pa) w' M).elim fun _ k=>refStOffer u ⟨S.hbO,pa,pc⟩ w' (hu.own (StZ.nw 3 1) w' M) ⟨S.hb_ok,k,h1⟩) fun t ht=>?_
 rw[hu.V,S.hbT_of.1]at ht;rw[hu.V,S.hbT_of.2];refine run ?_;refine J.alloc rfl fun b3=>?_
 refine run ?_;refine J.joinX (A:=OpA×Nat) (fun u=>[(12, .pointer (some ⟨u.2,0,none⟩)),(15, .int .i64 0)]) [13,14,44,45,46,47,48,49,50,51] (fun u=>[.blk u.2 (opC u.1) 37, .wrow .u8 32 u.1.pa u.1.o.n u.1.o.ids, .blk b1 (opC ⟨S.hbO,pa,pc⟩) 37, .wrow .u8 32 pa S.hbO.n S.hbO.ids]) (fun u=>u.1.o.st=5∧u.1.o.n=1∧u.1.o.ids=S.idOf S.hbO) ?_ (fun u j1 hu6=>?_)
 ·refine J.regionW [.blk b3 (srC t) 55] mixed ?_;refine J.wst (A:=(OpA×Option Addr×Nat×Nat)×Nat×Unit) (fun p=>[(12, .pointer (some ⟨p.2.1,0,none⟩)),(44,bdC (S.wrtR S.hbT 6 S.hbN) p.1),(45, .agg (srC t).toArray),(46, .agg (acC S.hbN).toArray),(47,bdC (S.wrtR S.hbT 6 S.hbN) p.1),(48, .agg (opC p.1.1).toArray),(49, .slice p.1.2.1 p.1.2.2.1 p.1.2.2.2),(50, .agg (ints .u8 (S.wrtR S.hbT 6 S.hbN).i).toArray),(51, .int .i64 (S.wrtR S.hbT 6 S.hbN).e)]) [] (fun p=>[.blk p.2.1 [.int .u32 0, .slice none 0 0, .int .u64 0, .int .u8 0, .string .empty, .int .u8 0, .int .i64 0, .int .u64 0, .string .empty, .int .u32 0, .int .u32 0] 37, .wrow .u8 32 p.1.1.pa p.1.1.o.n p.1.1.o.ids, .irow .u8 p.1.2.1 p.1.2.2.1 (S.wrtR S.hbT 6 S.hbN).b, .blk b3 (srC t) 55,shW t.sh, .wown 24 .u8 32 t.oa t.on t.oc t.os, .blk b1 (opC ⟨S.hbO,pa,pc⟩) 37, .wrow .u8 32 pa S.hbO.n S.hbO.ids]) (fun p=>BdP (S.wrtR S.hbT 6 S.hbN) p.1∧True) 5 (bs 14 511) (fun p j hp=>?_) (fun st0=>?_)
  ·obtain⟨q,bg,_⟩:=p;obtain⟨hq,_⟩:=hp
   try dsimp only
   try dsimp only at hq
   refine J.wfin [(9, .e),(10, .e),(11, .q),(12, .e),(13, .q)] (by kernel_rfl) ?_;refine run ?_;refine J.alloc rfl fun bi=>?_
   refine run ?_;refine run ?_;refine run ?_;have e1:q.1.o.n=1:=by rw[hq.1];exact S.hb_wrt.2.2.1
   have e2:q.1.o.ids=S.idOf S.hbO:=by rw[hq.1];exact S.hb_wrt.2.2.2
   have e3:q.1.o.st=5:=by rw[hq.1];exact S.hb_wrt.2.1
   rw[S.hb_wrt.1];refine J.front (.wrow .u8 32 pa S.hbO.n S.hbO.ids) ?_;refine J.front (.blk b1 (opC ⟨S.hbO,pa,pc⟩) 37) ?_;refine J.front (.wrow .u8 32 q.1.pa q.1.o.n q.1.o.ids) ?_;refine J.front (.blk bg (opC q.1) 37) ?_;refine J.drop (E:=[.blk bg (opC q.1) 37, .wrow .u8 32 q.1.pa q.1.o.n q.1.o.ids, .blk b1 (opC ⟨S.hbO,pa,pc⟩) 37, .wrow .u8 32 pa S.hbO.n S.hbO.ids]) sb ?_;exact J.cut (q.1,bg) ⟨rfl,rfl,trivial⟩ (by kernel_rfl) ⟨e3,e1,e2⟩
  refine J.wst (A:=(OpA×Option Addr×Nat×Nat)×Nat×Unit) (fun p=>[(14, .pointer (some ⟨p.2.1,0,none⟩)),(44,bdC (S.wrtR S.hbT 6 S.hbN) p.1),(45, .agg (srC t).toArray),(46, .agg (acC S.hbN).toArray),(47,bdC (S.wrtR S.hbT 6 S.hbN) p.1),(48, .agg (opC p.1.1).toArray),(49, .slice p.1.2.1 p.1.2.2.1 p.1.2.2.2),(50, .agg (ints .u8 (S.wrtR S.hbT 6 S.hbN).i).toArray),(51, .int .i64 (S.wrtR S.hbT 6 S.hbN).e)]) [] (fun p=>[.blk p.2.1 (ints .u8 (List.replicate 32 0)) 24, .wrow .u8 32 p.1.1.pa p.1.1.o.n p.1.1.o.ids, .irow .u8 p.1.2.1 p.1.2.2.1 (S.wrtR S.hbT 6 S.hbN).b, .blk b3 (srC t) 55,shW t.sh, .wown 24 .u8 32 t.oa t.on t.oc t.os, .blk b1 (opC ⟨S.hbO,pa,pc⟩) 37, .wrow .u8 32 pa S.hbO.n S.hbO.ids]) (fun p=>BdP (S.wrtR S.hbT 6 S.hbN) p.1∧True) 5 (bs 14 767) (fun p j hp=>?_) (fun st1=>?_)
  ·obtain⟨q,bi,_⟩:=p;obtain⟨hq,_⟩:=hp
   try dsimp only
   try dsimp only at hq
   refine J.wfin [(8, .e),(10, .e),(11, .q),(12, .e),(13, .q)] (by kernel_rfl) ?_;refine run ?_;refine J.alloc rfl fun bg=>?_
   refine run ?_;refine run ?_;refine run ?_;have e1:q.1.o.n=1:=by rw[hq.1];exact S.hb_wrt.2.2.1
   have e2:q.1.o.ids=S.idOf S.hbO:=by rw[hq.1];exact S.hb_wrt.2.2.2
   have e3:q.1.o.st=5:=by rw[hq.1];exact S.hb_wrt.2.1
   rw[S.hb_wrt.1];refine J.front (.wrow .u8 32 pa S.hbO.n S.hbO.ids) ?_;refine J.front (.blk b1 (opC ⟨S.hbO,pa,pc⟩) 37) ?_;refine J.front (.wrow .u8 32 q.1.pa q.1.o.n q.1.o.ids) ?_;refine J.front (.blk bg (opC q.1) 37) ?_;refine J.drop (E:=[.blk bg (opC q.1) 37, .wrow .u8 32 q.1.pa q.1.o.n q.1.o.ids, .blk b1 (opC ⟨S.hbO,pa,pc⟩) 37, .wrow .u8 32 pa S.hbO.n S.hbO.ids]) sb ?_;exact J.cut (q.1,bg) ⟨rfl,rfl,trivial⟩ (by kernel_rfl) ⟨e3,e1,e2⟩
  refine J.wst (A:=(OpA×Option Addr×Nat×Nat)×Unit) (fun p=>[(45, .agg (srC t).toArray),(46, .agg (acC S.hbN).toArray),(47,bdC (S.wrtR S.hbT 6 S.hbN) p.1)]) [] (fun p=>[.wrow .u8 32 p.1.1.pa p.1.1.o.n p.1.1.o.ids, .irow .u8 p.1.2.1 p.1.2.2.1 (S.wrtR S.hbT 6 S.hbN).b, .blk b3 (srC t) 55,shW t.sh, .wown 24 .u8 32 t.oa t.on t.oc t.os, .blk b1 (opC ⟨S.hbO,pa,pc⟩) 37, .wrow .u8 32 pa S.hbO.n S.hbO.ids]) (fun p=>BdP (S.wrtR S.hbT 6 S.hbN) p.1∧True) 11 (bs 14 7) (fun p j hp=>?_) (fun st2=>?_)
  ·obtain⟨q,_⟩:=p;obtain⟨hq,_⟩:=hp
   try dsimp only
   try dsimp only at hq
   refine J.wnode [(3, .q),(4, .q),(5, .q),(6, .q),(7, .q)] [8,9] 5 (bs 14 255) (by kernel_rfl) ?_;refine run ?_;refine J.nil ?_;refine J.wbr ?_ ?_
   ·refine J.alloc rfl fun bg=>?_
    refine J.nil ?_;exact st0 (q,bg,()) _ _ _ ⟨rfl,rfl,rfl,rfl,rfl,rfl,rfl,rfl,rfl,trivial⟩ (by kernel_rfl) (by kernel_rfl) ⟨hq,trivial⟩ inferInstance
   refine J.wbr ?_ ?_
   ·refine J.alloc rfl fun bi=>?_
    refine J.nil ?_;exact st1 (q,bi,()) _ _ _ ⟨rfl,rfl,rfl,rfl,rfl,rfl,rfl,rfl,rfl,trivial⟩ (by kernel_rfl) (by kernel_rfl) ⟨hq,trivial⟩ inferInstance
   exact J.wbr0
  refine J.wst (A:=(OpA×Option Addr×Nat×Nat)×Nat×Unit) (fun p=>[(12, .pointer (some ⟨p.2.1,0,none⟩)),(45, .agg (srC t).toArray),(46, .agg (acC S.hbN).toArray),(47,bdC (S.wrtR S.hbT 6 S.hbN) p.1)]) [] (fun p=>[.blk p.2.1 [.int .u32 0, .slice none 0 0, .int .u64 0, .int .u8 0, .string .empty, .int .u8 0, .int .i64 0, .int .u64 0, .string .empty, .int .u32 0, .int .u32 0] 37, .wrow .u8 32 p.1.1.pa p.1.1.o.n p.1.1.o.ids, .irow .u8 p.1.2.1 p.1.2.2.1 (S.wrtR S.hbT 6 S.hbN).b, .blk b3 (srC t) 55,shW t.sh, .wown 24 .u8 32 t.oa t.on t.oc t.os, .blk b1 (opC ⟨S.hbO,pa,pc⟩) 37, .wrow .u8 32 pa S.hbO.n S.hbO.ids]) (fun p=>BdP (S.wrtR S.hbT 6 S.hbN) p.1∧True) 10 (bs 14 263) (fun p j hp=>?_) (fun st3=>?_)
  ·obtain⟨q,bg,_⟩:=p;obtain⟨hq,_⟩:=hp
   try dsimp only
   try dsimp only at hq
   refine J.wfin [(3, .q),(4, .q),(5, .q),(6, .q),(7, .q),(9, .e),(10, .e),(11, .q),(12, .e),(13, .q)] (by kernel_rfl) ?_;refine run ?_;refine J.alloc rfl fun bi=>?_
   refine run ?_;refine run ?_;refine run ?_;have e1:q.1.o.n=1:=by rw[hq.1];exact S.hb_wrt.2.2.1
   have e2:q.1.o.ids=S.idOf S.hbO:=by rw[hq.1];exact S.hb_wrt.2.2.2
   have e3:q.1.o.st=5:=by rw[hq.1];exact S.hb_wrt.2.1
   rw[S.hb_wrt.1];refine J.front (.wrow .u8 32 pa S.hbO.n S.hbO.ids) ?_;refine J.front (.blk b1 (opC ⟨S.hbO,pa,pc⟩) 37) ?_;refine J.front (.wrow .u8 32 q.1.pa q.1.o.n q.1.o.ids) ?_;refine J.front (.blk bg (opC q.1) 37) ?_;refine J.drop (E:=[.blk bg (opC q.1) 37, .wrow .u8 32 q.1.pa q.1.o.n q.1.o.ids, .blk b1 (opC ⟨S.hbO,pa,pc⟩) 37, .wrow .u8 32 pa S.hbO.n S.hbO.ids]) sb ?_;exact J.cut (q.1,bg) ⟨rfl,rfl,trivial⟩ (by kernel_rfl) ⟨e3,e1,e2⟩
  refine J.wst (A:=Nat×Nat×Unit) (fun p=>[(12, .pointer (some ⟨p.1,0,none⟩)),(14, .pointer (some ⟨p.2.1,0,none⟩)),(45, .agg (srC t).toArray),(46, .agg (acC S.hbN).toArray)]) [] (fun p=>[.blk p.1 [.int .u32 0, .slice none 0 0, .int .u64 0, .int .u8 0, .string .empty, .int .u8 0, .int .i64 0, .int .u64 0, .string .empty, .int .u32 0, .int .u32 0] 37, .blk p.2.1 (ints .u8 (List.replicate 32 0)) 24, .blk b3 (srC t) 55,shW t.sh, .wown 24 .u8 32 t.oa t.on t.oc t.os, .blk b1 (opC ⟨S.hbO,pa,pc⟩) 37, .wrow .u8 32 pa S.hbO.n S.hbO.ids]) (fun p=>True) 10 (bs 14 771) (fun p j hp=>?_) (fun st4=>?_)
  ·obtain⟨bg,bi,_⟩:=p;obtain _:=hp
   try dsimp only
   refine J.wfin [(2, .e),(3, .q),(4, .q),(5, .q),(6, .q),(7, .q),(10, .e),(11, .q),(12, .e),(13, .q)] (by kernel_rfl) ?_;refine run ?_;refine J.call rfl rfl (fun w' M=>by have h:=bWrite 6 (by decide) t S.hbN S.hb_okN TK w' (K0.ext M.ext) (ht.own hbZ w' M);rwa[ht.V]at h) fun q hq=>?_
   refine run ?_;refine run ?_;refine run ?_;have e1:q.1.o.n=1:=by rw[hq.1];exact S.hb_wrt.2.2.1
   have e2:q.1.o.ids=S.idOf S.hbO:=by rw[hq.1];exact S.hb_wrt.2.2.2
   have e3:q.1.o.st=5:=by rw[hq.1];exact S.hb_wrt.2.1
   rw[S.hb_wrt.1];refine J.front (.wrow .u8 32 pa S.hbO.n S.hbO.ids) ?_;refine J.front (.blk b1 (opC ⟨S.hbO,pa,pc⟩) 37) ?_;refine J.front (.wrow .u8 32 q.1.pa q.1.o.n q.1.o.ids) ?_;refine J.front (.blk bg (opC q.1) 37) ?_;refine J.drop (E:=[.blk bg (opC q.1) 37, .wrow .u8 32 q.1.pa q.1.o.n q.1.o.ids, .blk b1 (opC ⟨S.hbO,pa,pc⟩) 37, .wrow .u8 32 pa S.hbO.n S.hbO.ids]) sb ?_;exact J.cut (q.1,bg) ⟨rfl,rfl,trivial⟩ (by kernel_rfl) ⟨e3,e1,e2⟩
  refine J.wst (A:=Nat×Unit) (fun p=>[(12, .pointer (some ⟨p.1,0,none⟩)),(45, .agg (srC t).toArray),(46, .agg (acC S.hbN).toArray)]) [] (fun p=>[.blk p.1 [.int .u32 0, .slice none 0 0, .int .u64 0, .int .u8 0, .string .empty, .int .u8 0, .int .i64 0, .int .u64 0, .string .empty, .int .u32 0, .int .u32 0] 37, .blk b3 (srC t) 55,shW t.sh, .wown 24 .u8 32 t.oa t.on t.oc t.os, .blk b1 (opC ⟨S.hbO,pa,pc⟩) 37, .wrow .u8 32 pa S.hbO.n S.hbO.ids]) (fun p=>True) 11 (bs 14 259) (fun p j hp=>?_) (fun st5=>?_)
  ·obtain⟨bg,_⟩:=p;obtain _:=hp
   try dsimp only
   refine J.wnode [] [2,9] 10 (bs 14 259) (by kernel_rfl) ?_;refine run ?_;refine J.nil ?_;refine J.wbr ?_ ?_
   ·refine J.call rfl rfl (fun w' M=>by have h:=bWrite 6 (by decide) t S.hbN S.hb_okN TK w' (K0.ext M.ext) (ht.own hbZ w' M);rwa[ht.V]at h) fun q hq=>?_
    refine J.nil ?_;refine J.front (.irow .u8 q.2.1 q.2.2.1 (S.wrtR S.hbT 6 S.hbN).b) ?_;refine J.front (.wrow .u8 32 q.1.pa q.1.o.n q.1.o.ids) ?_;refine J.front (.blk bg [.int .u32 0, .slice none 0 0, .int .u64 0, .int .u8 0, .string .empty, .int .u8 0, .int .i64 0, .int .u64 0, .string .empty, .int .u32 0, .int .u32 0] 37) ?_;exact st3 (q,bg,()) _ _ _ ⟨rfl,rfl,rfl,rfl,trivial⟩ (by kernel_rfl) (by kernel_rfl) ⟨hq,trivial⟩ inferInstance
   refine J.wbr ?_ ?_
   ·refine J.alloc rfl fun bi=>?_
    refine J.nil ?_;refine J.front (.blk bi (ints .u8 (List.replicate 32 0)) 24) ?_;refine J.front (.blk bg [.int .u32 0, .slice none 0 0, .int .u64 0, .int .u8 0, .string .empty, .int .u8 0, .int .i64 0, .int .u64 0, .string .empty, .int .u32 0, .int .u32 0] 37) ?_;exact st4 (bg,bi,()) _ _ _ ⟨rfl,rfl,rfl,rfl,trivial⟩ (by kernel_rfl) (by kernel_rfl) trivial inferInstance
   exact J.wbr0
  refine J.wst (A:=(OpA×Option Addr×Nat×Nat)×Nat×Unit) (fun p=>[(14, .pointer (some ⟨p.2.1,0,none⟩)),(45, .agg (srC t).toArray),(46, .agg (acC S.hbN).toArray),(47,bdC (S.wrtR S.hbT 6 S.hbN) p.1)]) [] (fun p=>[.blk p.2.1 (ints .u8 (List.replicate 32 0)) 24, .wrow .u8 32 p.1.1.pa p.1.1.o.n p.1.1.o.ids, .irow .u8 p.1.2.1 p.1.2.2.1 (S.wrtR S.hbT 6 S.hbN).b, .blk b3 (srC t) 55,shW t.sh, .wown 24 .u8 32 t.oa t.on t.oc t.os, .blk b1 (opC ⟨S.hbO,pa,pc⟩) 37, .wrow .u8 32 pa S.hbO.n S.hbO.ids]) (fun p=>BdP (S.wrtR S.hbT 6 S.hbN) p.1∧True) 10 (bs 14 519) (fun p j hp=>?_) (fun st6=>?_)
  ·obtain⟨q,bi,_⟩:=p;obtain⟨hq,_⟩:=hp
   try dsimp only
   try dsimp only at hq
   refine J.wfin [(3, .q),(4, .q),(5, .q),(6, .q),(7, .q),(8, .e),(10, .e),(11, .q),(12, .e),(13, .q)] (by kernel_rfl) ?_;refine run ?_;refine J.alloc rfl fun bg=>?_
   refine run ?_;refine run ?_;refine run ?_;have e1:q.1.o.n=1:=by rw[hq.1];exact S.hb_wrt.2.2.1
   have e2:q.1.o.ids=S.idOf S.hbO:=by rw[hq.1];exact S.hb_wrt.2.2.2
   have e3:q.1.o.st=5:=by rw[hq.1];exact S.hb_wrt.2.1
   rw[S.hb_wrt.1];refine J.front (.wrow .u8 32 pa S.hbO.n S.hbO.ids) ?_;refine J.front (.blk b1 (opC ⟨S.hbO,pa,pc⟩) 37) ?_;refine J.front (.wrow .u8 32 q.1.pa q.1.o.n q.1.o.ids) ?_;refine J.front (.blk bg (opC q.1) 37) ?_;refine J.drop (E:=[.blk bg (opC q.1) 37, .wrow .u8 32 q.1.pa q.1.o.n q.1.o.ids, .blk b1 (opC ⟨S.hbO,pa,pc⟩) 37, .wrow .u8 32 pa S.hbO.n S.hbO.ids]) sb ?_;exact J.cut (q.1,bg) ⟨rfl,rfl,trivial⟩ (by kernel_rfl) ⟨e3,e1,e2⟩
  refine J.wst (A:=Nat×Unit) (fun p=>[(14, .pointer (some ⟨p.1,0,none⟩)),(45, .agg (srC t).toArray),(46, .agg (acC S.hbN).toArray)]) [] (fun p=>[.blk p.1 (ints .u8 (List.replicate 32 0)) 24, .blk b3 (srC t) 55,shW t.sh, .wown 24 .u8 32 t.oa t.on t.oc t.os, .blk b1 (opC ⟨S.hbO,pa,pc⟩) 37, .wrow .u8 32 pa S.hbO.n S.hbO.ids]) (fun p=>True) 11 (bs 14 515) (fun p j hp=>?_) (fun st7=>?_)
  ·obtain⟨bi,_⟩:=p;obtain _:=hp
   try dsimp only
   refine J.wnode [] [2,8] 10 (bs 14 515) (by kernel_rfl) ?_;refine run ?_;refine J.nil ?_;refine J.wbr ?_ ?_
   ·refine J.call rfl rfl (fun w' M=>by have h:=bWrite 6 (by decide) t S.hbN S.hb_okN TK w' (K0.ext M.ext) (ht.own hbZ w' M);rwa[ht.V]at h) fun q hq=>?_
    refine J.nil ?_;refine J.front (.irow .u8 q.2.1 q.2.2.1 (S.wrtR S.hbT 6 S.hbN).b) ?_;refine J.front (.wrow .u8 32 q.1.pa q.1.o.n q.1.o.ids) ?_;refine J.front (.blk bi (ints .u8 (List.replicate 32 0)) 24) ?_;exact st6 (q,bi,()) _ _ _ ⟨rfl,rfl,rfl,rfl,trivial⟩ (by kernel_rfl) (by kernel_rfl) ⟨hq,trivial⟩ inferInstance
   refine J.wbr ?_ ?_
   ·refine J.alloc rfl fun bg=>?_
    refine J.nil ?_;exact st4 (bg,bi,()) _ _ _ ⟨rfl,rfl,rfl,rfl,trivial⟩ (by kernel_rfl) (by kernel_rfl) trivial inferInstance
   exact J.wbr0
  refine J.wst (A:=Unit) (fun p=>[(45, .agg (srC t).toArray),(46, .agg (acC S.hbN).toArray)]) [] (fun p=>[.blk b3 (srC t) 55,shW t.sh, .wown 24 .u8 32 t.oa t.on t.oc t.os, .blk b1 (opC ⟨S.hbO,pa,pc⟩) 37, .wrow .u8 32 pa S.hbO.n S.hbO.ids]) (fun p=>True) 12 (bs 14 3) (fun p j hp=>?_) (fun st8=>?_)
  ·obtain _:=p;obtain _:=hp
   try dsimp only
   refine J.wnode [] [2,8,9] 11 (bs 14 3) (by kernel_rfl) ?_;refine run ?_;refine J.nil ?_;refine J.wbr ?_ ?_
   ·refine J.call rfl rfl (fun w' M=>by have h:=bWrite 6 (by decide) t S.hbN S.hb_okN TK w' (K0.ext M.ext) (ht.own hbZ w' M);rwa[ht.V]at h) fun q hq=>?_
    refine J.nil ?_;exact st2 (q,()) _ _ _ ⟨rfl,rfl,rfl,trivial⟩ (by kernel_rfl) (by kernel_rfl) ⟨hq,trivial⟩ inferInstance
   refine J.wbr ?_ ?_
   ·refine J.alloc rfl fun bg=>?_
    refine J.nil ?_;exact st5 (bg,()) _ _ _ ⟨rfl,rfl,rfl,trivial⟩ (by kernel_rfl) (by kernel_rfl) trivial inferInstance
   refine J.wbr ?_ ?_
   ·refine J.alloc rfl fun bi=>?_
    refine J.nil ?_;exact st7 (bi,()) _ _ _ ⟨rfl,rfl,rfl,trivial⟩ (by kernel_rfl) (by kernel_rfl) trivial inferInstance
   exact J.wbr0
  refine J.wst (A:=Nat×Nat×Unit) (fun p=>[(12, .pointer (some ⟨p.1,0,none⟩)),(14, .pointer (some ⟨p.2.1,0,none⟩)),(45, .agg (srC t).toArray)]) [] (fun p=>[.blk p.1 [.int .u32 0, .slice none 0 0, .int .u64 0, .int .u8 0, .string .empty, .int .u8 0, .int .i64 0, .int .u64 0, .string .empty, .int .u32 0, .int .u32 0] 37, .blk p.2.1 (ints .u8 (List.replicate 32 0)) 24, .blk b3 (srC t) 55,shW t.sh, .wown 24 .u8 32 t.oa t.on t.oc t.os, .blk b1 (opC ⟨S.hbO,pa,pc⟩) 37, .wrow .u8 32 pa S.hbO.n S.hbO.ids]) (fun p=>True) 11 (bs 14 769) (fun p j hp=>?_) (fun st9=>?_)
  ·obtain⟨bg,bi,_⟩:=p;obtain _:=hp
   try dsimp only
   refine J.wfin [(1, .e),(2, .e),(3, .q),(4, .q),(5, .q),(6, .q),(7, .q),(10, .e),(11, .q),(12, .e),(13, .q)] (by kernel_rfl) ?_;refine run ?_;refine J.callp rfl rfl (fun w' M=>none24 w') ?_;refine run ?_;refine J.call rfl rfl (fun w' M=>by have h:=bWrite 6 (by decide) t S.hbN S.hb_okN TK w' (K0.ext M.ext) (ht.own hbZ w' M);rwa[ht.V]at h) fun q hq=>?_
   refine run ?_;refine run ?_;refine run ?_;have e1:q.1.o.n=1:=by rw[hq.1];exact S.hb_wrt.2.2.1
   have e2:q.1.o.ids=S.idOf S.hbO:=by rw[hq.1];exact S.hb_wrt.2.2.2
   have e3:q.1.o.st=5:=by rw[hq.1];exact S.hb_wrt.2.1
   rw[S.hb_wrt.1];refine J.front (.wrow .u8 32 pa S.hbO.n S.hbO.ids) ?_;refine J.front (.blk b1 (opC ⟨S.hbO,pa,pc⟩) 37) ?_;refine J.front (.wrow .u8 32 q.1.pa q.1.o.n q.1.o.ids) ?_;refine J.front (.blk bg (opC q.1) 37) ?_;refine J.drop (E:=[.blk bg (opC q.1) 37, .wrow .u8 32 q.1.pa q.1.o.n q.1.o.ids, .blk b1 (opC ⟨S.hbO,pa,pc⟩) 37, .wrow .u8 32 pa S.hbO.n S.hbO.ids]) sb ?_;exact J.cut (q.1,bg) ⟨rfl,rfl,trivial⟩ (by kernel_rfl) ⟨e3,e1,e2⟩
  refine J.wst (A:=Nat×Unit) (fun p=>[(12, .pointer (some ⟨p.1,0,none⟩)),(45, .agg (srC t).toArray)]) [] (fun p=>[.blk p.1 [.int .u32 0, .slice none 0 0, .int .u64 0, .int .u8 0, .string .empty, .int .u8 0, .int .i64 0, .int .u64 0, .string .empty, .int .u32 0, .int .u32 0] 37, .blk b3 (srC t) 55,shW t.sh, .wown 24 .u8 32 t.oa t.on t.oc t.os, .blk b1 (opC ⟨S.hbO,pa,pc⟩) 37, .wrow .u8 32 pa S.hbO.n S.hbO.ids]) (fun p=>True) 12 (bs 14 257) (fun p j hp=>?_) (fun st10=>?_)
  ·obtain⟨bg,_⟩:=p;obtain _:=hp
   try dsimp only
   refine J.wnode [] [1,9] 11 (bs 14 257) (by kernel_rfl) ?_;refine run ?_;refine J.nil ?_;refine J.wbr ?_ ?_
   ·refine J.callp rfl rfl (fun w' M=>none24 w') ?_;refine J.nil ?_;exact st5 (bg,()) _ _ _ ⟨rfl,rfl,rfl,trivial⟩ (by kernel_rfl) (by kernel_rfl) trivial inferInstance
   refine J.wbr ?_ ?_
   ·refine J.alloc rfl fun bi=>?_
    refine J.nil ?_;refine J.front (.blk bi (ints .u8 (List.replicate 32 0)) 24) ?_;refine J.front (.blk bg [.int .u32 0, .slice none 0 0, .int .u64 0, .int .u8 0, .string .empty, .int .u8 0, .int .i64 0, .int .u64 0, .string .empty, .int .u32 0, .int .u32 0] 37) ?_;exact st9 (bg,bi,()) _ _ _ ⟨rfl,rfl,rfl,trivial⟩ (by kernel_rfl) (by kernel_rfl) trivial inferInstance
   exact J.wbr0
  refine J.wst (A:=Nat×Unit) (fun p=>[(14, .pointer (some ⟨p.1,0,none⟩)),(45, .agg (srC t).toArray)]) [] (fun p=>[.blk p.1 (ints .u8 (List.replicate 32 0)) 24, .blk b3 (srC t) 55,shW t.sh, .wown 24 .u8 32 t.oa t.on t.oc t.os, .blk b1 (opC ⟨S.hbO,pa,pc⟩) 37, .wrow .u8 32 pa S.hbO.n S.hbO.ids]) (fun p=>True) 12 (bs 14 513) (fun p j hp=>?_) (fun st11=>?_)
  ·obtain⟨bi,_⟩:=p;obtain _:=hp
   try dsimp only
   refine J.wnode [] [1,8] 11 (bs 14 513) (by kernel_rfl) ?_;refine run ?_;refine J.nil ?_;refine J.wbr ?_ ?_
   ·refine J.callp rfl rfl (fun w' M=>none24 w') ?_;refine J.nil ?_;exact st7 (bi,()) _ _ _ ⟨rfl,rfl,rfl,trivial⟩ (by kernel_rfl) (by kernel_rfl) trivial inferInstance
   refine J.wbr ?_ ?_
   ·refine J.alloc rfl fun bg=>?_
    refine J.nil ?_;exact st9 (bg,bi,()) _ _ _ ⟨rfl,rfl,rfl,trivial⟩ (by kernel_rfl) (by kernel_rfl) trivial inferInstance
   exact J.wbr0
  refine J.wnode [(0, .q)] [1,8,9] 12 (bs 14 1) (by kernel_rfl) ?_;refine run ?_;refine J.nil ?_;refine J.wbr ?_ ?_
  ·refine J.callp rfl rfl (fun w' M=>none24 w') ?_;refine J.nil ?_;exact st8 () _ _ _ ⟨rfl,rfl,trivial⟩ (by kernel_rfl) (by kernel_rfl) trivial inferInstance
  refine J.wbr ?_ ?_
  ·refine J.alloc rfl fun bg=>?_
   refine J.nil ?_;exact st10 (bg,()) _ _ _ ⟨rfl,rfl,trivial⟩ (by kernel_rfl) (by kernel_rfl) trivial inferInstance
  refine J.wbr ?_ ?_
  ·refine J.alloc rfl fun bi=>?_
   refine J.nil ?_;exact st11 (bi,()) _ _ _ ⟨rfl,rfl,trivial⟩ (by kernel_rfl) (by kernel_rfl) trivial inferInstance
  exact J.wbr0
 obtain⟨z,bz⟩:=u;obtain⟨hz1,hz2,hz3⟩:=hu6;dsimp only at hz1 hz2 hz3⊢;refine run ?_;refine J.call rfl rfl (fun w' M=>five24 w') fun q5 _=>?_
 refine run ?_;refine J.call rfl rfl (fun w' M=>(RW.own' (a:=some ⟨q5,0,none⟩) w' M).elim fun _ k=>bPreds _ 5 5 S.hbF w' k (Nat.le_refl _) (by decide)) fun f hf=>?_
 rw[S.hb_five.1,S.hb_five.2.1,S.hb_five.2.2];refine run ?_;refine J.regionX [(0, .q),(1, .q),(2, .q),(3, .q),(4, .q),(5, .q),(6, .q),(7, .q),(8, .q),(9, .q),(10, .q),(11, .q),(12, .q),(13, .q),(14, .q),(15, .q),(16, .q),(17, .q),(18, .q),(19, .q),(20, .q),(21, .q),(22, .q),(23, .q),(24, .q),(25, .q),(26, .q),(27, .q),(28, .q),(29, .q),(30, .q),(31, .q),(32, .q),(33, .q),(34, .q),(35, .q),(36, .e),(37, .e),(38, .e),(39, .q),(40, .q),(41, .q),(42, .q),(43, .q),(44, .q),(45, .q),(46, .e),(47, .q),(48, .e),(49, .q),(50, .q)] mixed (by kernel_rfl) ?_;refine run ?_;refine J.spe rfl rfl rfl (fun _=>?_) (fun c=>absurd hz1 c);refine run ?_;refine J.callp rfl rfl (fun w' M=>(RW.row' (a:=pa) w' M).elim fun _ k=>ofO S.hbO S.hb_ok _ _ _ k h1 (by rw[S.hb_is.1];decide) (fun h=>by rw[hbk]at h;exact absurd h (by decide))) ?_;refine run ?_;refine J.b1W rfl rfl hA fun bx=>?_
 refine run ?_;refine J.callp rfl rfl (fun w' M=>(RW.row' (a:=z.pa) w' M).elim fun _ k0=>(RW.own' (a:=some ⟨bx,0,none⟩) w' M).elim fun _ k1=>sameIDs _ _ _ _ _ _ _ _ w' k0 k1 (by omega) (by omega)) ?_;rw[show decide (z.o.ids=S.idOf S.hbO)=true from decide_eq_true hz3];refine run ?_;refine J.call rfl rfl (fun w' M=>five24 w') fun q6 _=>?_
 refine run ?_;refine J.callp rfl rfl (fun w' M=>(RW.own' (a:=f.1) w' M).elim fun _ k0=>(RW.own' (a:=some ⟨q6,0,none⟩) w' M).elim fun _ k1=>sameIDs _ _ _ _ _ _ _ _ w' k0 (wTk k1 4 5 (by decide) (by decide)) (by omega) (by omega)) ?_;refine run ?_;exact J.fin rfl
instance:Ents prog 21:=⟨.mk func21 (by kernel_rfl) rfl⟩
instance:Ents prog 23:=⟨.mk func23 (by kernel_rfl) rfl⟩
instance:Ents prog 24:=⟨.mk func24 (by kernel_rfl) rfl⟩
instance:Fld prog 37 3 3:=⟨_,_,6,underlying37,rfl,by kernel_rfl,by decide,rfl⟩
def BldQ(x:Int)(n:Nat)(ids:List Int)(st:Int)(o:S.OpV)(q:OpA×Option Addr×Nat×Nat):Prop:=BldP x n ids st o q∧q.2.2.1≤q.2.2.2
theorem encQ{S0:Nat→Prop}(z:OpA)(w:World)(R:OpR S0 w z)(hc:S.checkE z.o=0):
  Calls prog 97 #[.agg (opC z).toArray] w (Gv w (fun q:Option Addr×Nat×Nat=> .tuple #[.slice q.1 q.2.1 q.2.2, .int .i64 0]) (fun q=>[.irow .u8 q.1 q.2.1 (S.encS z.o)]) fun q=>q.2.1≤q.2.2):=
 Gv.of (encodeO z.o R.ok _ _ w R.row R.cap) fun v w' _ ⟨a',n',c',xs,hv,O,hx⟩=>⟨(a',n',c'),by rw[hv,hc],O.own.cap.1,sep1 (by rw[if_pos hc]at hx;subst hx;exact iown_irow (iown_ok O))⟩
theorem judgeQ{S0:Nat→Prop}(a:Option Addr)(n c:Nat)(bs:List Int)(TK:TypeId)(w:World)(K0:Kst w TK)(R0:IRow .u8 S0 w a n bs)(hc:n≤c)(hn:n≤400):
  Calls prog 24 #[.slice a n c] w (Gv w (fun q:Option Addr×Nat=> .tuple #[.agg (opC ⟨S.jdO bs,q.1,q.2⟩).toArray, .agg (ints .u8 (S.jdI bs)).toArray, .int .u8 (S.jdV bs)]) (fun q=>[.wrow .u8 32 q.1 (S.jdO bs).n (S.jdO bs).ids]) fun q=>(S.jdO bs).n≤q.2):=
 Gv.of (judgeOf a n c bs TK w K0 R0 hc (by omega)) fun v w' _ ⟨a',c',hv,hcc,W⟩=>⟨(a',c'),hv,hcc,sep1 (wrow_i W)⟩
theorem bBuildQ(x:Int)(hx:0≤x∧x<4294967296){S0:Nat→Prop}(a:Option Addr)(n c:Nat)(ids:List Int)(st:Int)(hs:0≤st∧st<18446744073709551616)(o:S.OpV)(ho:o.ok)(TK:TypeId)(w:World)(K0:Kst w TK)(D0:WRow .u8 32 S0 w a n ids)(hc:n≤c)(hn:n≤1000):
  Calls prog 17 #[.int .u32 x, .slice a n c, .int .u64 st, .agg (acC o).toArray] w (Gv w (bldC x n ids st o) (bldP x n ids st o) (BldQ x n ids st o)):=by
 have hok:=bldO_ok (n:=n) (ids:=ids) ho hs;have h4:=S.preN_le n ids;refine J.enter 56 func17 rfl rfl ?_;refine run ?_;refine J.box rfl rfl rfl fun b1=>?_
 refine J.alloc rfl fun b2=>?_
 refine run ?_;refine J.alloc rfl fun b3=>?_
 refine run ?_;refine J.call rfl rfl (fun w' M=>bPreds a n c ids w' (D0.ext M.ext) hc hn) fun q hq=>?_
 refine run ?_;refine J.ifn rfl (fun c1=>?_) (fun c1=>?_)
 ·have he:=S.bldE_1 (x:=x) (st:=st) (o:=o) c1;obtain⟨e1,e2,e3⟩:=S.bld_no (x:=x) (n:=n) (ids:=ids) (st:=st) (o:=o) (by rw[he];exact c1);refine run ?_;refine J.bz rfl ?_;refine run ?_;refine J.nilR .u8 (J.nilW .u8 32 ?_);refine J.finG (⟨S.OpV.zero,none,0⟩,none,0,0) ?_ ⟨⟨e1.symm,Nat.le_refl _⟩,Nat.le_refl _⟩ ?_
  ·unfold bldC;rw[he,e3];rfl
  unfold bldP;rw[e2];exact .cons_cons _ (.cons_cons _ (List.nil_sublist _))
 have he:=S.bldE_2 (x:=x) (st:=st) (o:=o) c1;refine run ?_;refine J.call rfl rfl (fun w' M=>(RW.own' (a:=q.1) w' M).elim fun _ k0=>signB x hx ⟨S.bldO n ids st o,q.1,q.2⟩ TK w' (K0.ext M.ext) ⟨hok,k0,hq⟩) fun z hz=>?_
 obtain⟨⟨zo,zp,zc⟩,ze⟩:=z;obtain⟨hz1,hz2,hz3⟩:=hz;dsimp only at hz1 hz2 hz3⊢;subst hz2 hz3;refine run ?_;refine J.alloc rfl fun b4=>?_
 refine run ?_;refine J.ifn rfl (fun c2=>?_) (fun c2=>?_)
 ·obtain⟨e1,e2,e3⟩:=S.bld_no (x:=x) (n:=n) (ids:=ids) (st:=st) (o:=o) (by rw[he];exact c2);refine run ?_;refine J.bz rfl ?_;refine run ?_;refine J.nilR .u8 (J.nilW .u8 32 ?_);refine J.finG (⟨S.OpV.zero,none,0⟩,none,0,0) ?_ ⟨⟨e1.symm,Nat.le_refl _⟩,Nat.le_refl _⟩ ?_
  ·unfold bldC;rw[he,e3];rfl
  unfold bldP;rw[e2];exact .cons_cons _ (.cons_cons _ (List.nil_sublist _))
 refine J.fact (.wown 24 .u8 32 q.1 (S.preN n ids) q.2 (S.preL n ids)) (fun _ _ h=>(wown_len h).1) fun hpl=>?_
 have hg:=S.sign_good hok hpl c2;have hck:S.checkE (S.signS x (S.bldO n ids st o))=0:=hg.2.2.1;have hso:=S.signS_ok x _ hok;have hA:Arr .u8 32 (S.sha (S.encS (S.signS x (S.bldO n ids st o)))):=S.sha_arr _;obtain⟨e1,e2,e3⟩:=S.bld_yes (x:=x) (n:=n) (ids:=ids) (st:=st) (o:=o) (by rw[he];exact c2);refine run ?_;refine J.call rfl rfl (fun w' M=>(RW.row' (a:=zp) w' M).elim fun _ k0=>encQ ⟨S.signS x (S.bldO n ids st o),zp,zc⟩ w' ⟨hso,k0,hz1⟩ hck) fun y hy=>?_
 refine run ?_;refine J.callp rfl rfl (fun w' M=>(RW.row' (a:=zp) w' M).elim fun _ k0=>idO (S.signS x (S.bldO n ids st o)) hso zp zc _ w' (K0.ext M.ext) k0 hz1) ?_;rw[if_pos hck,hck];refine run ?_;refine J.alloc rfl fun b5=>?_
 refine run ?_;refine J.regionR [.blk b5 (ints .u8 (S.sha (S.encS (S.signS x (S.bldO n ids st o))))) 24, .blk b4 (opC ⟨S.signS x (S.bldO n ids st o),zp,zc⟩) 37] [(0, .q),(1, .q),(2, .q),(3, .q),(4, .q),(5, .e),(6, .e),(7, .e),(8, .q),(9, .e),(10, .q)] mixed (by kernel_rfl) (by repeat(first|exact List.Sublist.refl _|refine List.Sublist.cons_cons _ ?_|refine List.Sublist.cons _ ?_)) ?_;refine run ?_;refine J.b2V (p:=0) (q:=0) inC (fun _=>rfl) rfl rfl rfl rfl rfl rfl rfl fun b6=>?_
 refine J.callp rfl rfl (fun w' M=>(RG.own' (a:=some ⟨b6,0,none⟩) w' M).elim fun _ k0=>bFirst _ w' k0) ?_;refine run ?_;refine J.front (.wrow .u8 32 zp (S.signS x (S.bldO n ids st o)).n (S.signS x (S.bldO n ids st o)).ids) ?_;refine J.finG (⟨S.signS x (S.bldO n ids st o),zp,zc⟩,y) ?_ ⟨⟨e1.symm,hz1⟩,hy⟩ ?_
 ·unfold bldC;rw[he,c2,e3]
 unfold bldP;rw[e2]
 repeat(first|exact List.nil_sublist _|refine List.Sublist.cons_cons _ ?_|refine List.Sublist.cons _ ?_)
theorem builderBytes{S0:Nat→Prop}(x:Int)(hx:0≤x∧x<4294967296)(a:Option Addr)(n c:Nat)(ids:List Int)(st:Int)(hs:0≤st∧st<18446744073709551616)(o:S.OpV)(hr:o.rng)(h0:o.n=0)(TK:TypeId)(w:World)(K0:Kst w TK)(D0:WRow .u8 32 S0 w a n ids)(hc:n≤c):
  Calls prog 4 #[.int .u32 x, .slice a n c, .int .u64 st, .agg (acC o).toArray] w (Ret w fun v _=>v= .bool true):=by
 refine J.enter 93 func4 rfl rfl ?_;refine run ?_;refine J.box rfl rfl rfl fun b1=>?_
 refine run ?_;refine J.callp rfl rfl (fun w' M=>bdAlive TK w' (K0.ext M.ext)) ?_;refine run ?_;refine J.spd rfl rfl rfl (fun c1=>?_) (fun c1=>?_)
 ·refine run ?_;exact J.fin rfl
 refine run ?_;refine J.callp rfl rfl (fun w' M=>lawGreat24 o w') ?_;refine run ?_;refine J.spd rfl rfl rfl (fun c3=>?_) (fun c3=>?_)
 ·refine run ?_;exact J.fin rfl
 have ho:o.ok:=hr.ok fun h=>by
  rcases h with h|h
  ·omega
  exact c3 h
 have hA:=S.bldI_arr x n ids st o;refine run ?_;refine J.call rfl rfl (fun w' M=>bBuildQ x hx a n c ids st hs o ho TK w' (K0.ext M.ext) (D0.ext M.ext) hc (by omega)) fun y hy=>?_
 obtain⟨⟨yo,yp,yc⟩,ya,yn,yd⟩:=y;obtain⟨⟨hy1,hy2⟩,hy3⟩:=hy;dsimp only at hy1 hy2 hy3⊢;subst hy1;refine J.fact (.irow .u8 ya yn (S.bldB x n ids st o)) (fun _ _ h=>by unfold Ent.irow at h;exact IRow.len h) fun hyl=>?_
 refine run ?_;refine J.alloc rfl fun b2=>?_
 refine J.alloc rfl fun b3=>?_
 refine run ?_;refine J.ifn rfl (fun d1=>?_) (fun d1=>?_)
 ·obtain⟨e1,e2,e3⟩:=S.bld_no d1;obtain rfl:yn=0:=by
   rw[e2]at hyl;exact hyl.symm
  refine run ?_;exact J.fin rfl
 obtain⟨e1,e2,e3⟩:=S.bld_yes d1;have hso:(S.bldV x n ids st o).ok:=S.bldV_ok (S.bldO_okS ho hs);have hp:S.preE n ids=0:=Classical.byContradiction fun h=>by
  rw[S.bldE_1 h]at d1;exact h d1
 obtain⟨p1,p2⟩:=S.pre_yes hp;have hsg:S.signE x (S.bldO n ids st o)=0:=by
  have h:=d1;rw[S.bldE_2 hp]at h;exact h
 have hpl:(S.bldO n ids st o).ids.length=32*(S.bldO n ids st o).n:=by
  show(S.preL n ids).length=32*S.preN n ids;rw[p1,p2,List.length_take,D0.len];omega
 have hgd:=S.sign_good (S.bldO_okS ho hs) hpl hsg;rw[←e1]at hgd e2 e3;have hvl:(S.bldV x n ids st o).ids.length=32*(S.bldV x n ids st o).n:=by
  rw[e1,S.signS_eq hsg];exact hpl
 obtain⟨jv,jo⟩:=S.jd_enc hso.rng hvl hgd.2.2.1;rw[if_pos hgd.2.2.2.2.2.2]at jv;obtain⟨jo1,jo2⟩:=jo hgd.2.2.2.2.2.2;have h400:=S.enc_400 hvl hgd.2.2.1;rw[e2]at hyl⊢;refine run ?_;refine J.call rfl rfl (fun w' M=>(RI.row' (a:=ya) w' M).elim fun _ k=>judgeQ ya yn yd _ TK w' (K0.ext M.ext) k hy3 (by omega)) fun q hq=>?_
 obtain⟨qa,qc⟩:=q;rw[jo1]at hq;dsimp only at hq⊢;rw[jv,jo1,jo2];have hA2:Arr .u8 32 (S.sha (S.encS (S.bldV x n ids st o))):=S.sha_arr _;refine run ?_;refine J.alloc rfl fun b4=>?_
 refine J.alloc rfl fun b5=>?_
 refine run ?_;have hact:(S.bldV x n ids st o).k=o.k∧(S.bldV x n ids st o).key=o.key∧(S.bldV x n ids st o).vk=o.vk∧(S.bldV x n ids st o).num=o.num∧(S.bldV x n ids st o).bits=o.bits∧(S.bldV x n ids st o).t=o.t:=by
  rw[e1,S.signS_eq hsg];exact⟨rfl,rfl,rfl,rfl,rfl,rfl⟩
 have hnn:(S.bldV x n ids st o).n=min n 4:=by
  rw[e1,S.signS_eq hsg];exact p1
 have hids:(S.bldV x n ids st o).ids=ids.take (32*min n 4):=by
  rw[e1,S.signS_eq hsg];exact p2
 have hris:S.Rising n ids:=Classical.byContradiction fun h=>by
  rw[S.preE_32 (by omega) h]at hp;exact absurd hp (by decide)
 refine J.mn rfl rfl rfl ?_ (hr:=min4 n);refine run ?_;refine J.regionX [(0, .q),(1, .q),(2, .q),(3, .q),(4, .q),(5, .q),(6, .q),(7, .q),(8, .q),(9, .q),(10, .q),(11, .q),(12, .q),(13, .e),(14, .q),(15, .q),(16, .q),(17, .q),(18, .q),(19, .q),(20, .q),(21, .q),(22, .q),(23, .q),(24, .q),(25, .q),(26, .q),(27, .q),(28, .q),(29, .q),(30, .q),(31, .q),(32, .q),(33, .e),(34, .q),(35, .q),(36, .q),(37, .e),(38, .q),(39, .q)] mixed (by kernel_rfl) ?_;refine run ?_;refine J.spd rfl rfl rfl (fun _=>?_) (fun c=>absurd e3.symm c);refine run ?_;refine J.callp rfl rfl (fun w' M=>(RW.row' (a:=yp) w' M).elim fun _ k0=>(RW.row' (a:=qa) w' M).elim fun _ k1=>sameO _ _ hso hso _ _ _ _ w' k0 k1) ?_;refine run ?_;refine J.spd rfl rfl rfl (fun _=>?_) (fun c=>absurd (S.sameO_refl _) c);refine run ?_;refine J.eqR rfl rfl rfl (fits_actD _ _ _ _ _ _) (fits_actD _ _ _ _ _ _) (S.eqA6 _ _ _ _ _ _ _ _ _ _ _ _) ?_;refine run ?_;refine J.spd rfl rfl rfl (fun _=>?_) (fun c=>absurd hact c);refine run ?_;refine J.spe rfl rfl rfl (fun _=>?_) (fun c=>absurd hgd.2.1 c);refine run ?_;refine J.callp rfl rfl (fun w' M=>(RW.row' (a:=yp) w' M).elim fun _ k0=>sameIDs _ _ _ _ _ (min n 4) _ _ w' k0 ((wTk D0 (min n 4) c (by omega) (by omega)).ext M.ext) (by omega) (by omega)) ?_;refine run ?_;refine J.spd rfl rfl rfl (fun _=>?_) (fun c=>absurd hids c);refine run ?_;refine J.callp rfl rfl (fun w' M=>risingR _ _ _ _ w' (D0.ext M.ext) hc (by omega)) ?_;refine run ?_;exact J.fin (congrArg _ (decide_eq_true hris))
end W
end Go.Proofs.YtkibkhgcbepolaaGreatDoor
