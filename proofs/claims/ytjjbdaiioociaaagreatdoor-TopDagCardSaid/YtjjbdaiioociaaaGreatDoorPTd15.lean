/-
  Part 15 of the lemmas of these laws: TopDag.
-/
import Derived.Test.YtjjbdaiioociaaaGreatDoorPTd14
set_option linter.unusedVariables false
set_option linter.unusedSimpArgs false
open Go.Proofs.Tryz
namespace Go.Proofs.YtjjbdaiioociaaaGreatDoor
namespace W
open Go.RowKit G
set_option maxRecDepth 20000
set_option maxHeartbeats 8000000
attribute [local irreducible] RS RX RY Code.wp bodyPost J Ent.blk Ent.iown Ent.wrow Ent.wown Ent.gown Ent.all Ent.emp
instance:Ents prog 105:=⟨.mk func105 (by kernel_rfl) rfl⟩
instance:Inf prog 5 1 1 [.int .u8 0]:=⟨TI.of (v:= .int .u8 0) (by kernel_rfl) rfl⟩
instance:Ents prog 138:=⟨.mk func138 (by kernel_rfl) rfl⟩
theorem stAsked{S0 S1:Nat→Prop}(s:StA)(z:OpA)(TK:TypeId)(w:World)(K0:Kst w TK)(H:StR S0 w s)(R:OpR S1 w z):
  Calls prog 91 #[.agg (srC s).toArray, .agg (opC z).toArray] w (Ret w fun v _=>v= .int .i64 (S.askE s.V z.o)):=by
 refine J.enter 11 func91 rfl rfl ?_;refine run ?_;refine J.box rfl rfl rfl fun b1=>?_
 refine J.box rfl rfl rfl fun b2=>?_
 refine run ?_;refine J.callp rfl rfl (fun w' M=>stCheck s _ w' (K0.ext M.ext) (H.ext M.ext)) ?_;refine run ?_;refine J.ifn rfl (fun c1=>?_) (fun c1=>?_)
 ·obtain⟨k1,k2⟩:=S.chkT_ne c1;rw[k2];refine run ?_;exact J.fin (congrArg _ (S.askE_8 k1).symm)
 refine run ?_;refine J.callp rfl rfl (fun w' M=>verifyO z.o R.ok _ _ _ _ (K0.ext M.ext) (R.row.ext M.ext) R.cap) ?_;refine run ?_;exact J.fin (congrArg _ (S.askE_v (S.chkT_iff.1 c1)).symm)
theorem stVerdict{S0 S1:Nat→Prop}(s:StA)(z:OpA)(w:World)(H:StR S0 w s)(R:OpR S1 w z)(hv:s.on=s.sh.ver):
  Calls prog 92 #[.agg (srC s).toArray, .agg (opC z).toArray, .agg (ints .u8 (S.idOf z.o)).toArray] w (Ret w fun v _=>v= .int .u8 (S.judT s.V z.o)):=by
 have hcp:=H.cap;have h20:=R.ok.n;have hA:=S.sha_arr (S.encS z.o);show Calls prog 92 ([.agg (srC s).toArray, .agg (opC z).toArray, .agg (ints .u8 (S.idOf z.o)).toArray]:List Value).toArray w _;refine J.enterR 18 func92 rfl rfl ?_;refine run ?_;refine J.box rfl rfl rfl fun b3=>?_
 refine J.box rfl rfl rfl fun b4=>?_
 refine J.box rfl rfl rfl fun b5=>?_
 refine J.alloc rfl fun b6=>?_
 refine run ?_;refine J.callp rfl rfl (fun w' M=>hasID _ _ _ _ _ w' (H.os.ext M.ext) hA (by omega)) ?_;refine run ?_;refine J.ifd rfl (fun c1=>?_) (fun c1=>?_)
 ·refine run ?_;refine J.toM ?_;refine run ?_;exact J.fin (congrArg _ (S.jud_5 c1).symm)
 refine run ?_;refine J.call rfl rfl (fun w' M=>stMissing0 s z w') fun m _=>?_
 refine run ?_;refine J.front (.blk b3 (srC s) 74) ?_;refine J.front (.blk b6 [.int .u8 0] 5) ?_;unfold J;intro w1 M1;have x1:Ext w w1:=M1.ext;have d36:=blk_two M1;have hB6:=blkC b6 M1;have hB3:=blkC b3 M1;obtain⟨S6,hS6,h6⟩:=M1.get .here;obtain⟨S3,hS3,h3⟩:=M1.get (.there .here);have hb6:w.heap.size≤b6:=(hS6 b6 (blk_e h6).1).1.resolve_left fun h=>h;have hb3:w.heap.size≤b3:=(hS3 b3 (blk_e h3).1).1.resolve_left fun h=>h;have hit:=missIter s z m.1 m.2 _ _ w1 (blkC m.1 M1) (blkC m.2 M1) (H.os.ext x1) (R.row.ext x1) (by omega) (by omega);refine(wpIn_wide (n:=9)).1 ?_;refine wpIn_rangeFunc_ownF (F:=Fence.wide) (n:=9) (w:=w1) (gf:=175) rfl (by decide) (by rw[eval_fr];rfl) trivial (enters_run Ents.h) hit (fun h k=>belowK_t h k) (belowK_b (Nat.le_refl _)) (Below.refl _ _) (fun x=>rfl)
  (fun(k:List IdB) (Wb:World)=>k=[]∧Ext w Wb∧Blk Wb b3 (srC s) 74∧Blk Wb b6 [.int .u8 0] 5)
  (fun c _ Wb=>c= .ret∧Ext w Wb∧Blk Wb b6 [.int .u8 6] 5)
  (fun k A B row ⟨h0,hx,h1,h2⟩ hg hr=>⟨h0,ext_own hx x1.size hg hr,blk_own h1 hg hr,blk_own h2 hg hr⟩)
  (fun c k A B row ⟨h0,hx,h1⟩ hg hr=>⟨h0,ext_own hx x1.size hg hr,blk_own h1 hg hr⟩)
  ⟨rfl,x1,hB3,hB6⟩ (fun x=>fr [.agg (srC s).toArray, .agg (opC z).toArray, .agg (ints .u8 (S.idOf z.o)).toArray, .pointer (some ⟨b3,0,none⟩), .pointer (some ⟨b4,0,none⟩), .pointer (some ⟨b5,0,none⟩), .pointer (some ⟨b6,0,none⟩), .pointer (some ⟨b3,4,none⟩), .slice s.oa s.on s.oc, .agg (ints .u8 (S.idOf z.o)).toArray, .bool (decide (S.inS s.on s.os (S.idOf z.o))), .agg (srC s).toArray, .agg (opC z).toArray, .func (.func 175) #[] #[.pointer (some ⟨m.1,0,none⟩), .pointer (some ⟨m.2,0,none⟩)], .agg (ints .u8 x.1).toArray,undef,undef,undef,undef,undef,undef]) ?_ ?_ ?_ ?_
 ·intro r x Wb K hK;rw[zip1 (fun _ _ _=>rfl)];exact wpIn_skip hK
 ·intro r pre x Wb hI hlen;obtain⟨rfl,hx,i3,i6⟩:=hI;refine J.at (memB1 i6) ?_;refine J.dblk (J.dsq (J.dreg ?_));refine run ?_;refine J.dret ?_;unfold J;intro w2 M2;refine⟨others_pr M2.pr fun b h=>⟨_,_,h▸i6⟩,rfl,pr_ext hx M2.pr fun b h=>h▸hb6,blkC b6 M2⟩
 ·intro D ks Wb hD ⟨hk1,hk2⟩ ⟨h0,hx,i3,i6⟩ hK;subst h0;have hall:S.allI s.on s.os z.o.n z.o.ids:=S.abs_none.1 hk1.symm;show Code.wp _ (Code.seq _ _) _ ⟨([.agg (srC s).toArray, .agg (opC z).toArray, .agg (ints .u8 (S.idOf z.o)).toArray, .pointer (some ⟨b3,0,none⟩), .pointer (some ⟨b4,0,none⟩), .pointer (some ⟨b5,0,none⟩), .pointer (some ⟨b6,0,none⟩), .pointer (some ⟨b3,4,none⟩), .slice s.oa s.on s.oc, .agg (ints .u8 (S.idOf z.o)).toArray, .bool (decide (S.inS s.on s.os (S.idOf z.o))), .agg (srC s).toArray, .agg (opC z).toArray, .func (.func 175) #[] #[.pointer (some ⟨m.1,0,none⟩), .pointer (some ⟨m.2,0,none⟩)],undef,undef,undef,undef,undef,undef,undef]:List Value).toArray,markD D⟩ Wb;refine(wpIn_wide (n:=9)).1 ?_;refine J.at (memD2 hx hK i3 i6 d36 (Nat.le_trans x1.size hD) hb3 hb6) ?_;refine J.dsq (ro:=none) (J.dsq (J.dreg ?_));refine run ?_;refine J.dnil (J.dthn (P:=prog) (J.dife rfl (fun c3=>?_) (fun c3=>?_)))
  ·refine J.dsq (J.dreg ?_);refine run ?_;refine J.dnil (J.dthn (P:=prog) (J.dret ?_));refine J.retM ?_;refine run ?_;exact J.fin (congrArg _ (S.jud_8 c1 hall (by show(s.on:Int)=s.cap;omega)).symm)
  refine J.dskip (J.dthn (P:=prog) (J.dsq (J.dreg ?_)));refine run ?_;refine J.dnil (J.dthn (P:=prog) (J.dret ?_));refine J.retM ?_;refine run ?_;exact J.fin (congrArg _ (S.jud_1 c1 hall (by show(s.on:Int)≠s.cap;omega)).symm)
 intro D c pre Wb hD ⟨hp,hn⟩ ⟨hc,hx,i6⟩ hK;subst hc;have hall:¬S.allI s.on s.os z.o.n z.o.ids:=fun h=>by have:=S.abs_none.2 h;omega
 refine J.at (memD1 hx hK i6 (Nat.le_trans x1.size hD) hb6) ?_;refine J.dret (ro:=none) ?_;show J no w _ (bodyPostM Fence.wide 9 _ _ _ .ret ⟨([.agg (srC s).toArray, .agg (opC z).toArray, .agg (ints .u8 (S.idOf z.o)).toArray, .pointer (some ⟨b3,0,none⟩), .pointer (some ⟨b4,0,none⟩), .pointer (some ⟨b5,0,none⟩), .pointer (some ⟨b6,0,none⟩), .pointer (some ⟨b3,4,none⟩), .slice s.oa s.on s.oc, .agg (ints .u8 (S.idOf z.o)).toArray, .bool (decide (S.inS s.on s.os (S.idOf z.o))), .agg (srC s).toArray, .agg (opC z).toArray, .func (.func 175) #[] #[.pointer (some ⟨m.1,0,none⟩), .pointer (some ⟨m.2,0,none⟩)],undef,undef,undef,undef,undef,undef,undef]:List Value).toArray,markD D⟩);refine J.retM ?_;refine run ?_;exact J.fin (congrArg _ (S.jud_6 c1 hall).symm)
instance:Inf prog 74 5 88 [.int .i64 0, .slice none 0 0, .slice none 0 0, .int .i64 0, .slice none 0 0]:=⟨TI.of (v:= .agg #[.int .i64 0, .slice none 0 0, .slice none 0 0, .int .i64 0, .slice none 0 0]) (by kernel_rfl) rfl⟩
instance:Ents prog 139:=⟨.mk func139 (by kernel_rfl) rfl⟩
instance:Siz prog 74 5:=⟨by kernel_rfl⟩
theorem cloneGr{S0:Nat→Prop}(a:Option Addr)(n c:Nat)(l:List GrA)(w:World)(D0:GRow (fun g:GrA=>grC g) 2 S0 w a n l)(hn:n≤1000):
  Calls prog 139 #[.slice a n c] w (Gv w (fun q:Option Addr×Nat=> .slice q.1 n q.2) (fun q=>[.gown (fun g:GrA=>grC g) 2 65 q.1 n q.2 l]) fun _=>True):=by
 refine J.enter 7 func139 rfl rfl ?_;refine run ?_;refine J.ifb rfl (fun c1=>?_) (fun c1=>?_)
 ·obtain⟨rfl,rfl⟩:=D0.none (by decide) c1;refine run ?_;refine J.nilG (fun g:GrA=>grC g) 2 65 grC_len ?_;exact J.finG (none,0) rfl trivial (.cons_cons _ (List.nil_sublist _))
 refine run ?_;refine J.b0G (fun g:GrA=>grC g) grC_len rfl fun b=>?_
 refine run ?_;refine J.apG rfl rfl (RG.arg D0) grC_one fun a' c'=>?_
 refine run ?_;refine J.re (.gown (fun g:GrA=>grC g) 2 65 a' (0+n) c' ([]++l)) (.gown (fun g:GrA=>grC g) 2 65 a' n c' l) (fun S w h=>by rw[Nat.zero_add]at h;exact h) ?_;exact J.finG (a',c') (by rw[Nat.zero_add]) trivial (.cons_cons _ (List.nil_sublist _))
structure TwO where
 (i:Nat)(D:List GrA)
theorem mid_at{α:Type}{D l:List α}{i:Nat}{x:α}(hD:D.length=i)(h:l[i]? =some x):(D++l.drop i)[((i:Nat):Int).toNat]? =some x:=by
 rw[Int.toNat_natCast,List.getElem?_append_right (by omega),hD,Nat.sub_self,List.getElem?_drop,Nat.add_zero];exact h
theorem stTwin{S0:Nat→Prop}(s:StA)(w:World)(H:StR S0 w s):
  Calls prog 93 #[.agg (srC s).toArray] w (Gv w (fun q:StA=> .agg (srC q).toArray) (fun q=>stE q) (StK s.V)):=by
 have P0:=H.sh.pr;have hl:=P0.len;have hcp:=H.sh.cap;have hcp2:=H.cap;refine J.enter 76 func93 rfl rfl ?_;refine run ?_;refine J.box rfl rfl rfl fun b1=>?_
 refine J.alloc rfl fun b2=>?_
 refine run ?_;refine J.regionX [(0, .q),(1, .q),(2, .q),(4, .q),(5, .q),(3, .e),(7, .q),(8, .q),(6, .e),(9, .g),(10, .q),(11, .g)] mixed (by kernel_rfl) ?_;refine run ?_;refine J.call rfl rfl (fun w' M=>cloneW s.sh.ha s.sh.hn s.sh.hc s.sh.hs w' (H.sh.hr.ext M.ext) hcp.2.1 (by omega)) fun q1 hq1=>?_
 refine run ?_;refine J.call rfl rfl (fun w' M=>cloneW s.oa s.on s.oc s.os w' (H.os.ext M.ext) hcp2.1 (by omega)) fun q2 hq2=>?_
 obtain⟨ha,hc⟩:=q1;obtain⟨oa,oc⟩:=q2;dsimp only at hq1 hq2⊢;refine run ?_;refine J.call rfl rfl (fun w' M=>cloneGr s.sh.pa s.sh.pn s.sh.pc s.sh.gs w' (P0.ext M.ext) (by omega)) fun q3 hq3=>?_
 obtain⟨pa,pc⟩:=q3;dsimp only at hq3⊢;refine run ?_;refine J.noA ?_;refine J.re (.gown (fun g:GrA=>grC g) 2 65 pa s.sh.pn pc s.sh.gs) (.gown (fun g:GrA=>grC g) 2 65 pa s.sh.pn pc ([]++s.sh.gs.drop 0)) (fun _ _ h=>h) ?_;refine J.re (.all []) (.all (([]:List GrA).map grAll)) (fun _ _ h=>h) ?_;refine J.front (.wown 23 .u8 32 oa s.on oc s.os) ?_;refine J.front (.wown 23 .u8 32 ha s.sh.hn hc s.sh.hs) ?_;refine J.front (.blk b1 [.int .i64 s.cap, .slice pa s.sh.pn pc, .slice ha s.sh.hn hc, .int .i64 s.sh.ver, .slice oa s.on oc] 74) ?_;refine J.front (.all (([]:List GrA).map grAll)) ?_;refine J.front (.gown (fun g:GrA=>grC g) 2 65 pa s.sh.pn pc ([]++s.sh.gs.drop 0)) ?_;refine J.drop (E:=[.gown (fun g:GrA=>grC g) 2 65 pa s.sh.pn pc ([]++s.sh.gs.drop 0), .all (([]:List GrA).map grAll), .blk b1 [.int .i64 s.cap, .slice pa s.sh.pn pc, .slice ha s.sh.hn hc, .int .i64 s.sh.ver, .slice oa s.on oc] 74, .wown 23 .u8 32 ha s.sh.hn hc s.sh.hs, .wown 23 .u8 32 oa s.on oc s.os, .blk b2 [.int .i64 0, .slice none 0 0, .slice none 0 0, .int .i64 0, .slice none 0 0] 74]) sb ?_;refine J.loop (A:=TwO) (fun p=>[(26, .int .i64 (p.i:Nat))]) [3,4,5,27,28,29,30,31,32,33,34,35,36,37,38,39,40,41,42,43,44,45,46,47,48,49,50,51,52,53,54,55,56,57,58,59,60,61,62,63,64,65,66,67,68,69,70,71,72,73,74,75] (fun p=>[.gown (fun g:GrA=>grC g) 2 65 pa s.sh.pn pc (p.D++s.sh.gs.drop p.i), .all (p.D.map grAll), .blk b1 [.int .i64 s.cap, .slice pa s.sh.pn pc, .slice ha s.sh.hn hc, .int .i64 s.sh.ver, .slice oa s.on oc] 74, .wown 23 .u8 32 ha s.sh.hn hc s.sh.hs, .wown 23 .u8 32 oa s.on oc s.os, .blk b2 [.int .i64 0, .slice none 0 0, .slice none 0 0, .int .i64 0, .slice none 0 0] 74]) (fun p=>p.i≤s.sh.pn∧p.D.length=p.i∧p.D.map GrA.P=s.sh.V.ps.take p.i∧∀x∈p.D,GrK x) (fun p=>s.sh.pn - p.i) ⟨0,[]⟩ (by kernel_rfl) ⟨Nat.zero_le _,rfl,rfl,fun z hz=>by cases hz⟩ (fun p j hI=>?_)
 obtain⟨hp,hD,hps,hpk⟩:=hI;refine run ?_;refine J.ifd rfl (fun c1=>?_) (fun c1=>?_)
 ·obtain⟨g,hg⟩:=P0.ex (i:=(p.i:Nat)) (by omega);have hg':=hg;rw[Int.toNat_natCast]at hg';have G:=H.sh.g hg';have hgl:=G.len;have hgc:=G.cap;have G0:=G.ops;have hz1:(p.D++s.sh.gs.drop p.i)[((p.i:Nat):Int).toNat]? =some g:=mid_at hD hg';have hll:(p.D++s.sh.gs.drop p.i).length=s.sh.pn:=by rw[List.length_append,List.length_drop];omega
  refine J.fact (.gown (fun g:GrA=>grC g) 2 65 pa s.sh.pn pc (p.D++s.sh.gs.drop p.i)) (fun _ _ h=>(gown_e h).1.some (by omega)) fun hpa=>?_
  have hpb:∃b o,pa=some ⟨b,o,none⟩:=hpa.elim fun b h=>⟨b,0,h⟩
  refine run ?_;refine J.regionX [(0, .q),(1, .c),(2, .q),(3, .q),(4, .q),(5, .q),(7, .q),(8, .q),(9, .q),(10, .q),(6, .e),(11, .e),(12, .q),(13, .q),(14, .g),(15, .q),(16, .q),(17, .g)] mixed (by kernel_rfl) ?_;refine run ?_;refine J.ncP rfl hpb rfl ?_;refine run ?_;refine J.ncP rfl hpb rfl ?_;refine run ?_;refine J.call rfl rfl (fun w' M=>cloneW g.ia g.m g.ic g.ids w' (G.ids.ext M.ext) hgc.1 (by omega)) fun q1 hq1=>?_
  obtain⟨ia,ic⟩:=q1;dsimp only at hq1⊢;refine run ?_;refine J.call rfl rfl (fun w' M=>cloneO g.oa g.n g.oc g.zs w' (G0.ext M.ext) (by omega)) fun q2 hq2=>?_
  obtain⟨za,zc⟩:=q2;dsimp only;refine run ?_;refine J.ncP rfl hpb rfl ?_;refine run ?_;refine J.stGf (f:=fun g:GrA=>grC g) (o:=0) (q0:=g) (q:=(⟨ia,g.oa,g.m,g.n,ic,g.oc,g.ids,g.zs⟩:GrA)) rfl rfl hz1 rfl ?_;have hz2:((p.D++s.sh.gs.drop p.i).set ((p.i:Nat):Int).toNat (⟨ia,g.oa,g.m,g.n,ic,g.oc,g.ids,g.zs⟩:GrA))[((p.i:Nat):Int).toNat]? =some ⟨ia,g.oa,g.m,g.n,ic,g.oc,g.ids,g.zs⟩:=by rw[List.getElem?_set,if_pos rfl,if_pos (by omega)]
  refine run ?_;refine J.ncP rfl hpb rfl ?_;refine run ?_;refine J.stGf (f:=fun g:GrA=>grC g) (o:=1) (q0:=(⟨ia,g.oa,g.m,g.n,ic,g.oc,g.ids,g.zs⟩:GrA)) (q:=(⟨ia,za,g.m,g.n,ic,zc,g.ids,g.zs⟩:GrA)) rfl rfl hz2 rfl ?_;have e1:((p.D++s.sh.gs.drop p.i).set ((p.i:Nat):Int).toNat (⟨ia,g.oa,g.m,g.n,ic,g.oc,g.ids,g.zs⟩:GrA)).set ((p.i:Nat):Int).toNat (⟨ia,za,g.m,g.n,ic,zc,g.ids,g.zs⟩:GrA)=(p.D++[(⟨ia,za,g.m,g.n,ic,zc,g.ids,g.zs⟩:GrA)])++s.sh.gs.drop (p.i+1):=by rw[List.set_set,Int.toNat_natCast,S.set_mid hD hg']
  rw[e1];have hz3:((p.D++[(⟨ia,za,g.m,g.n,ic,zc,g.ids,g.zs⟩:GrA)])++s.sh.gs.drop (p.i+1))[((p.i:Nat):Int).toNat]? =some ⟨ia,za,g.m,g.n,ic,zc,g.ids,g.zs⟩:=by
   rw[Int.toNat_natCast,List.append_assoc,List.getElem?_append_right (by omega),hD,Nat.sub_self];rfl
  refine run ?_;refine J.ncP rfl hpb rfl ?_;refine run ?_;refine J.noA ?_;refine J.re (.gown opC 11 34 za g.n zc g.zs) (.gown opC 11 34 za g.n zc ([]++g.zs.drop 0)) (fun _ _ h=>h) ?_;refine J.re (.all []) (.all (([]:List OpA).map (opE 23))) (fun _ _ h=>h) ?_;refine J.front (.wown 23 .u8 32 ia g.m ic g.ids) ?_;refine J.front (.all (p.D.map grAll)) ?_;refine J.front (.gown (fun g:GrA=>grC g) 2 65 pa s.sh.pn pc ((p.D++[(⟨ia,za,g.m,g.n,ic,zc,g.ids,g.zs⟩:GrA)])++s.sh.gs.drop (p.i+1))) ?_;refine J.front (.all (([]:List OpA).map (opE 23))) ?_;refine J.front (.gown opC 11 34 za g.n zc ([]++g.zs.drop 0)) ?_;refine J.drop (E:=[.gown opC 11 34 za g.n zc ([]++g.zs.drop 0), .all (([]:List OpA).map (opE 23)), .gown (fun g:GrA=>grC g) 2 65 pa s.sh.pn pc ((p.D++[(⟨ia,za,g.m,g.n,ic,zc,g.ids,g.zs⟩:GrA)])++s.sh.gs.drop (p.i+1)), .all (p.D.map grAll), .wown 23 .u8 32 ia g.m ic g.ids, .blk b1 [.int .i64 s.cap, .slice pa s.sh.pn pc, .slice ha s.sh.hn hc, .int .i64 s.sh.ver, .slice oa s.on oc] 74, .wown 23 .u8 32 ha s.sh.hn hc s.sh.hs, .wown 23 .u8 32 oa s.on oc s.os, .blk b2 [.int .i64 0, .slice none 0 0, .slice none 0 0, .int .i64 0, .slice none 0 0] 74]) sb ?_
  refine J.loop (A:=TwA) (fun e=>[(55, .int .i64 (e.i:Nat))]) [5,56,57,58,59,60,61,62,63,64,65,66,67,68,69,70,71,72,73,74] (fun e=>[.gown opC 11 34 za g.n zc (e.D++g.zs.drop e.i), .all (e.D.map (opE 23)), .gown (fun g:GrA=>grC g) 2 65 pa s.sh.pn pc ((p.D++[(⟨ia,za,g.m,g.n,ic,zc,g.ids,g.zs⟩:GrA)])++s.sh.gs.drop (p.i+1)), .all (p.D.map grAll), .wown 23 .u8 32 ia g.m ic g.ids, .blk b1 [.int .i64 s.cap, .slice pa s.sh.pn pc, .slice ha s.sh.hn hc, .int .i64 s.sh.ver, .slice oa s.on oc] 74, .wown 23 .u8 32 ha s.sh.hn hc s.sh.hs, .wown 23 .u8 32 oa s.on oc s.os, .blk b2 [.int .i64 0, .slice none 0 0, .slice none 0 0, .int .i64 0, .slice none 0 0] 74]) (fun e=>e.i≤g.n∧e.D.length=e.i∧e.D.map OpA.o=(g.zs.take e.i).map OpA.o∧∀z∈e.D,z.o.n≤z.pc) (fun e=>g.n - e.i) ⟨0,[]⟩ (by kernel_rfl) ⟨Nat.zero_le _,rfl,rfl,fun z hz=>by cases hz⟩ (fun e j2 hE=>?_);obtain⟨he,hED,hEo,hEc⟩:=hE;refine run ?_;refine J.ifd rfl (fun d1=>?_) (fun d1=>?_)
  ·obtain⟨z,hzz⟩:=G0.ex (i:=(e.i:Nat)) (by omega);have R:=G.op hzz;rw[Int.toNat_natCast]at hzz;have hy2:(e.D++g.zs.drop e.i)[((e.i:Nat):Int).toNat]? =some z:=mid_at hED hzz;refine run ?_;refine J.regionX [(0, .q),(1, .q),(2, .q),(3, .q),(4, .q),(5, .q),(6, .q),(7, .q),(8, .q),(9, .q),(10, .q),(11, .q),(12, .q),(13, .e),(14, .q),(15, .q),(16, .g)] mixed (by kernel_rfl) ?_;refine run ?_;refine J.ncP rfl hpb rfl ?_;refine run ?_;refine J.ncP rfl hpb rfl ?_;refine run ?_;refine J.call rfl rfl (fun w' M=>cloneW _ _ _ _ w' (R.row.ext M.ext) R.cap (by have:=R.ok.n;omega)) fun q hq=>?_
   refine run ?_;refine J.stGf (f:=opC) (o:=1) (q0:=z) (q:=⟨z.o,q.1,q.2⟩) rfl rfl hy2 rfl ?_;have e2:(e.D++g.zs.drop e.i).set ((e.i:Nat):Int).toNat (⟨z.o,q.1,q.2⟩:OpA)=(e.D++[(⟨z.o,q.1,q.2⟩:OpA)])++g.zs.drop (e.i+1):=by rw[Int.toNat_natCast,S.set_mid hED hzz]
   rw[e2];refine run ?_;refine J.snocA (e.D.map (opE 23)) (.wown 23 .u8 32 q.1 z.o.n q.2 z.o.ids) ?_;refine J.re (.all (e.D.map (opE 23)++[.wown 23 .u8 32 q.1 z.o.n q.2 z.o.ids])) (.all ((e.D++[(⟨z.o,q.1,q.2⟩:OpA)]).map (opE 23))) (fun _ _ h=>by rw[List.map_append];exact h) ?_
   exact J.next ⟨e.i + 1, e.D ++ [⟨z.o, q.1, q.2⟩]⟩ ⟨rfl, trivial⟩ (by kernel_rfl) ⟨by dsimp only; omega, by simp [hED], by dsimp only; rw [List.map_append, hEo, List.take_add_one, hzz, Option.toList_some, List.map_append]; rfl, fun y hy => by
    rcases List.mem_append.1 hy with h | h
    ·exact hEc y h
    rw [List.mem_singleton] at h; subst h; exact hq⟩ (by dsimp only; omega)
  obtain⟨ei,D⟩:=e;dsimp only at he hED hEo hEc d1⊢;obtain rfl:ei=g.n:=by omega
  rw[List.drop_of_length_le (by have:=G0.len;omega),List.append_nil];have hDo:D.map OpA.o=g.ops:=by rw[hEo,List.take_of_length_le (by have:=G0.len;omega)];rfl
  refine run ?_;refine J.triG (⟨ia,za,g.m,g.n,ic,zc,g.ids,D⟩:GrA) ?_;refine J.snocA (p.D.map grAll) (grAll ⟨ia,za,g.m,g.n,ic,zc,g.ids,D⟩) ?_;refine J.re (.all (p.D.map grAll++[grAll ⟨ia,za,g.m,g.n,ic,zc,g.ids,D⟩])) (.all ((p.D++[(⟨ia,za,g.m,g.n,ic,zc,g.ids,D⟩:GrA)]).map grAll)) (fun _ _ h=>by rw[List.map_append];exact h) ?_;refine J.re (.gown (fun g:GrA=>grC g) 2 65 pa s.sh.pn pc ((p.D++[(⟨ia,za,g.m,g.n,ic,zc,g.ids,g.zs⟩:GrA)])++s.sh.gs.drop (p.i+1))) (.gown (fun g:GrA=>grC g) 2 65 pa s.sh.pn pc ((p.D++[(⟨ia,za,g.m,g.n,ic,zc,g.ids,D⟩:GrA)])++s.sh.gs.drop (p.i+1))) (fun _ _ h=>gown_reG (by simp only[List.flatMap_append];rfl) (by simp only[List.length_append,List.length_cons]) h) ?_;refine J.front (.all ((p.D++[(⟨ia,za,g.m,g.n,ic,zc,g.ids,D⟩:GrA)]).map grAll)) ?_;refine J.front (.gown (fun g:GrA=>grC g) 2 65 pa s.sh.pn pc ((p.D++[(⟨ia,za,g.m,g.n,ic,zc,g.ids,D⟩:GrA)])++s.sh.gs.drop (p.i+1))) ?_
  exact J.next ⟨p.i + 1, p.D ++ [⟨ia, za, g.m, g.n, ic, zc, g.ids, D⟩]⟩ ⟨rfl, trivial⟩ (by kernel_rfl) ⟨by dsimp only; omega, by simp [hD], gsTake hg' (by unfold GrA.P GrA.ops; dsimp only; rw [hDo]; rfl) hps, fun y hy => by
   rcases List.mem_append.1 hy with h | h
   ·exact hpk y h
   rw [List.mem_singleton] at h
   subst h
   exact ⟨fun z hz => G.opz z.o (by rw [← hDo]; exact List.mem_map.2 ⟨z, hz, rfl⟩), hEc⟩⟩ (by dsimp only; omega)
 obtain⟨pi,D⟩:=p;dsimp only at hp hD hps hpk c1⊢;obtain rfl:pi=s.sh.pn:=by omega
 rw[List.drop_of_length_le (by omega),List.append_nil];have hps:D.map GrA.P=s.sh.V.ps:=hps.trans (List.take_of_length_le (by rw[List.length_map,hl];exact Nat.le_refl _));refine run ?_;refine J.pair (.gown (fun g:GrA=>grC g) 2 65 pa s.sh.pn pc D) (.all (D.map grAll)) ?_;refine J.snocA [.gown (fun g:GrA=>grC g) 2 65 pa s.sh.pn pc D, .all (D.map grAll)] (.wown 23 .u8 32 ha s.sh.hn hc s.sh.hs) ?_;refine J.re (.all ([.gown (fun g:GrA=>grC g) 2 65 pa s.sh.pn pc D, .all (D.map grAll)]++[.wown 23 .u8 32 ha s.sh.hn hc s.sh.hs])) (shW ⟨pa,s.sh.pn,pc,D,ha,s.sh.hn,hc,s.sh.hs,s.sh.ver⟩) (fun _ _ h=>by unfold shW;exact h) ?_;refine J.front (shW ⟨pa,s.sh.pn,pc,D,ha,s.sh.hn,hc,s.sh.hs,s.sh.ver⟩) ?_;exact J.finG ⟨s.cap,⟨pa,s.sh.pn,pc,D,ha,s.sh.hn,hc,s.sh.hs,s.sh.ver⟩,oa,s.on,oc,s.os⟩ rfl ⟨by unfold StA.V ShA.V;dsimp only;rw[hps],hpk⟩ sb
instance:Ents prog 91:=⟨.mk func91 (by kernel_rfl) rfl⟩
instance:SInf prog 74 [(0,1),(1,3),(4,1)]:=⟨_,underlying74,by kernel_rfl,by kernel_rfl⟩
instance:Ents prog 92:=⟨.mk func92 (by kernel_rfl) rfl⟩
instance:Ents prog 93:=⟨.mk func93 (by kernel_rfl) rfl⟩
instance:Ents prog 56:=⟨.mk func56 (by kernel_rfl) rfl⟩
instance:Ents prog 55:=⟨.mk func55 (by kernel_rfl) rfl⟩
instance:Und prog 42 (.slice 5):=⟨underlying42⟩
instance:Ents prog 53:=⟨.mk func53 (by kernel_rfl) rfl⟩
theorem StZ.off{v:S.StV}{o:S.OpV}(hz:StZ v)(hg:S.StG v)(h:S.okT v)(hv:S.verE o=0):StZ (S.offT v o):=by
 by_cases c:S.judT v o=1
 ·rw[S.off_1 c];obtain⟨a1,a2⟩:=S.com_add hg h hv c;have F:=S.ok_fineT hg h;obtain⟨_,_,b3,b4,_⟩:=S.add_fine F.fine.good.1 a1;rw[a2]at b3 b4;have hle:=b3.le;have hcp:=F.cap;have hps:=F.ps;refine⟨fun p hp=>?_,⟨?_,?_⟩,fun _=>?_,?_⟩
  ·obtain⟨i,hi,rfl⟩:=List.mem_map.1 hp;obtain⟨h1,h2⟩:=S.prt_size (S.putP (S.whole v.sh.ps) (S.idOf o) o) v.sh.ps.length i;exact⟨by omega,by omega⟩
  ·show(S.madeS _ _).ps.length≤6;rw[S.made_len];omega
  ·exact Nat.le_trans (S.numF_le _ _) (Nat.le_trans hle (by decide))
  ·exact Nat.le_trans (S.allN_made b3) (Nat.le_trans hle (by decide))
  show v.n+1≤70;omega
 rw[S.off_no c];exact hz
theorem StZ.run{v:S.StV}{l:List S.OpV}(hz:StZ v)(hg:S.StG v)(h:S.okT v)(hl:∀o∈l,S.verE o=0):∀i,i≤l.length→StZ (S.runT v l i)
 |0,_=>hz
 |i+1,hi=>by
  obtain⟨k1,k2⟩:=S.run_ok hg h hl i (by omega);rw[S.runT];exact(StZ.run hz hg h hl i (by omega)).off k2 k1 (hl _ (by rw[S.getD_at (by omega)];exact List.getElem_mem _))
theorem jud_bd(v:S.StV)(o:S.OpV):0≤S.judT v o∧S.judT v o<256:=by
 rcases S.jud_or v o with h|h|h|h<;>rw[h]<;>decide
theorem stOffer{S0 S1:Nat→Prop}(s:StA)(z:OpA)(TK:TypeId)(w:World)(K0:Kst w TK)(H:StR S0 w s)(R:OpR S1 w z):
  Calls prog 55 #[.agg (srC s).toArray, .agg (opC z).toArray] w (Gv w (fun q:StA=> .tuple #[.agg (srC q).toArray, .int .u8 (S.ofJ s.V z.o), .int .i64 (S.askE s.V z.o)]) (fun q=>stE q) (StK (S.ofS s.V z.o))):=by
 have hcp:=H.cap;have hA:=S.sha_arr (S.encS z.o);refine J.enter 55 func55 rfl rfl ?_;refine run ?_;refine J.box rfl rfl rfl fun b1=>?_
 refine J.box rfl rfl rfl fun b2=>?_
 refine J.alloc rfl fun b3=>?_
 refine run ?_;refine J.callp rfl rfl (fun w' M=>stAsked s z _ w' (K0.ext M.ext) (H.ext M.ext) (R.ext M.ext)) ?_;refine run ?_;refine J.ifn rfl (fun c1=>?_) (fun c1=>?_)
 ·rw[(S.of_no c1).2];refine run ?_;refine J.nilSh (J.nilWo 23 .u8 32 ?_);refine J.front (shW ShA.zero) ?_;exact J.finG StA.zero rfl (stZero (S.of_no c1).1) sb
 obtain⟨hok,hv⟩:=S.askE_0 c1;have hchk:=S.verE_check hv;have hver:(s.on:Int)=s.sh.ver:=hok.1.2.2.2;rw[(S.of_yes c1).1,(S.of_yes c1).2,c1];refine run ?_;refine J.callp rfl rfl (fun w' M=>idO z.o R.ok _ _ _ _ (K0.ext M.ext) (R.row.ext M.ext) R.cap) ?_;rw[if_pos hchk];refine run ?_;refine J.alloc rfl fun b4=>?_
 refine run ?_;refine J.callp rfl rfl (fun w' M=>stVerdict s z w' (H.ext M.ext) (R.ext M.ext) hver) ?_;refine run ?_;refine J.call rfl rfl (fun w' M=>stTwin s w' (H.ext M.ext)) fun t ht=>?_
 refine run ?_;refine J.alloc rfl fun b5=>?_
 refine run ?_;refine J.ife rfl (fun c2=>?_) (fun c2=>?_)
 ·obtain⟨a1,a2⟩:=S.com_add H.g hok hv c2;obtain⟨p1,p2,p3⟩:=S.pu_0 hok.1.2.1 a1;rw[a2]at p2;refine run ?_;refine J.call rfl rfl (fun w' M=>shOne (shPut s.sh z TK w' (K0.ext M.ext) (H.sh.ext M.ext) H.L (R.ext M.ext))) fun r hr=>?_
  rw[show S.puE s.sh.V z.o=0 from p1,show S.puI s.sh.V z.o=S.idOf z.o from p3];refine run ?_;refine J.alloc rfl fun b6=>?_
  refine J.alloc rfl fun b7=>?_
  refine run ?_;refine J.regionG [.blk b6 (shC r) 72, .blk b5 (srC t) 74, .blk b4 (ints .u8 (S.sha (S.encS z.o))) 23] [7,9] [8] mixed ?_;refine J.gfin [(0, .q),(1, .q),(2, .q),(3, .q),(6, .q),(4, .e),(5, .e),(7, .g),(8, .c),(9, .g)] (by kernel_rfl) ?_;refine run ?_;refine J.b1W rfl rfl hA fun bb=>?_
  refine run ?_;have hton:t.on=s.on:=congrArg S.StV.n ht.V;refine J.apW rfl rfl RW.own' fun a' c'=>?_
  refine J.sw rfl ?_;refine run ?_;refine J.front (.wown 23 .u8 32 a' (t.on+1) c' (t.os++S.sha (S.encS z.o))) ?_;refine J.front (shW r) ?_;refine J.finG ⟨t.cap,r,a',t.on+1,c',t.os++S.sha (S.encS z.o)⟩ rfl ⟨?_,hr.k⟩ sb;rw[S.off_1 c2];have e1:t.cap=s.cap:=congrArg S.StV.cap ht.V;have e2:t.on=s.on:=congrArg S.StV.n ht.V;have e3:t.os=s.os:=congrArg S.StV.os ht.V;have e4:r.V=S.puS s.sh.V z.o:=hr.V;unfold StA.V S.comT;dsimp only;rw[e1,e2,e3,e4,show S.puS s.sh.V z.o=_ from p2]
 refine run ?_;refine J.finG t rfl ⟨?_,ht.k⟩ sb;rw[S.off_no c2];exact ht.V
structure RnA where
 (i:Nat)(t:StA)(a:Option Addr)(c:Nat)
theorem stRun{S0 S1:Nat→Prop}(s:StA)(a:Option Addr)(n c:Nat)(zs:List OpA)(TK:TypeId)(w:World)(K0:Kst w TK)(H:StR S0 w s)(O:GRow opC 11 S1 w a n zs)(I0:Inns opI S1 w zs)(hok:∀z∈zs,z.o.ok)(hn:n≤100000):
  Calls prog 59 #[.agg (srC s).toArray, .slice a n c] w (Gv w (fun q:StA×Option Addr×Nat=> .tuple #[.agg (srC q.1).toArray, .slice q.2.1 (S.runL s.V (zs.map OpA.o)).length q.2.2, .int .i64 (S.runE s.V (zs.map OpA.o))]) (fun q=>[shW q.1.sh, .wown 23 .u8 32 q.1.oa q.1.on q.1.oc q.1.os, .iown 5 .u8 q.2.1 (S.runL s.V (zs.map OpA.o)).length q.2.2 (S.runL s.V (zs.map OpA.o))]) fun q=>StK (S.runS s.V (zs.map OpA.o)) q.1):=by
 have hl:=O.len;obtain⟨ops,hops⟩:=ex (zs.map OpA.o);have hol:ops.length=n:=by rw[hops,List.length_map,hl]
 have opR:∀ {i:Nat} {z:OpA},zs[i]? =some z→OpR S1 w z∧ops.getD i S.OpV.zero=z.o:=fun {i z} h=>by
  have hm:=List.mem_of_getElem? h;have h1:=I0 z hm ⟨.u8,32,z.pa,z.o.n,z.pc,z.o.ids⟩ (List.mem_singleton.2 rfl);exact⟨⟨hok z hm,h1.1,h1.2⟩,by rw[hops,List.getD_eq_getElem?_getD,List.getElem?_map,h];rfl⟩
 rw[←hops];refine J.enter 66 func59 rfl rfl ?_;refine run ?_;refine J.box rfl rfl rfl fun b1=>?_
 refine J.alloc rfl fun b2=>?_
 refine run ?_;refine J.callp rfl rfl (fun w' M=>stCheck s _ w' (K0.ext M.ext) (H.ext M.ext)) ?_;refine run ?_;refine J.ifn rfl (fun c1=>?_) (fun c1=>?_)
 ·obtain⟨k1,k2⟩:=S.chkT_ne c1;have he:=S.runE_8 (l:=ops) k1;obtain⟨e1,e2⟩:=S.run_no (v:=s.V) (l:=ops) (by rw[he];decide);rw[he,e2,k2];refine run ?_;refine J.nilI 5 .u8 ?_;refine J.nilWo 23 .u8 32 ?_;refine J.nilSh ?_;exact J.finG (StA.zero,none,0) rfl (stZero e1) sb
 have hokT:=S.chkT_iff.1 c1;refine run ?_;refine J.ifd rfl (fun c2=>?_) (fun c2=>?_)
 ·have he:=S.runE_4 (l:=ops) hokT (by omega);obtain⟨e1,e2⟩:=S.run_no (v:=s.V) (l:=ops) (by rw[he];decide);rw[he,e2];refine run ?_;refine J.nilI 5 .u8 ?_;refine J.nilWo 23 .u8 32 ?_;refine J.nilSh ?_;exact J.finG (StA.zero,none,0) rfl (stZero e1) sb
 have h60:¬60<ops.length:=by omega
 have hev:=S.runE_v (l:=ops) hokT h60;refine run ?_;refine J.loopS (A:=Nat) (fun p=>[(30, .int .i64 (p:Nat))]) [9,10,31,32,33,34,35,36,37,38,39,40] (fun p=>p≤n∧∀k,k<p→S.verE (ops.getD k S.OpV.zero)=0) (fun p=>n - p) 0 (by kernel_rfl) ⟨Nat.zero_le _,fun i hi=>by omega⟩ (fun p j hI=>?_);obtain⟨hp,hI⟩:=hI;refine run ?_;refine J.ifd rfl (fun c3=>?_) (fun c3=>?_)
 ·obtain⟨z,hz⟩:=O.ex (i:=(p:Nat)) (by omega);have hz':=hz;rw[Int.toNat_natCast]at hz';obtain⟨R,hzo⟩:=opR hz';refine run ?_;refine J.alloc rfl fun b3=>?_
  refine run ?_;refine J.callp rfl rfl (fun w' M=>verifyO z.o R.ok _ _ _ _ (K0.ext M.ext) (R.row.ext M.ext) R.cap) ?_;refine run ?_;refine J.ifn rfl (fun c4=>?_) (fun c4=>?_)
  ·have he:S.runE s.V ops=S.verE z.o:=by
    rw[hev,←hzo];exact S.verL_first (by omega) hI (by rw[hzo];exact c4)
   obtain⟨e1,e2⟩:=S.run_no (v:=s.V) (l:=ops) (by rw[he];exact c4);rw[he,e2];refine run ?_;refine J.nilI 5 .u8 ?_;refine J.nilWo 23 .u8 32 ?_;refine J.nilSh ?_;exact J.finG (StA.zero,none,0) rfl (stZero e1) sb
  refine run ?_;refine J.nextS (p+1) ⟨rfl,trivial⟩ (by kernel_rfl) ⟨by omega,fun k hk=>?_⟩ (by omega);rcases Nat.lt_or_ge k p with h|h
  ·exact hI k h
  obtain rfl:k=p:=by omega
  rw[hzo];exact c4
 have hvl:S.verL ops=0:=S.verL_all fun k hk=>hI k (by omega);have hvo:=S.verL_zero.1 hvl;have he:S.runE s.V ops=0:=hev.trans hvl;obtain⟨e1,e2⟩:=S.run_yes he;rw[he,e1,e2,S.runJ_len,hol];have hrun:=fun i hi=>S.run_ok H.g hokT hvo i hi;have hsz:=fun i hi=>H.z.run H.g hokT hvo i hi;refine run ?_;refine J.call rfl rfl (fun w' M=>stTwin s w' (H.ext M.ext)) fun t ht=>?_
 refine run ?_;refine J.alloc rfl fun b4=>?_
 refine run ?_;refine J.nilI 5 .u8 ?_;refine J.front (.blk b1 (srC s) 74) ?_;refine J.front (.iown 5 .u8 none 0 0 []) ?_;refine J.front (.wown 23 .u8 32 t.oa t.on t.oc t.os) ?_;refine J.front (shW t.sh) ?_;refine J.front (.blk b4 (srC t) 74) ?_;refine J.loop (A:=RnA) (fun p=>[(12, .slice p.a p.i p.c),(45, .int .i64 (p.i:Nat))]) [14,15,16,17,46,47,48,49,50,51,52,53,54,55,56,57,58,59,60,61,62,63,64,65] (fun p=>[.blk b4 (srC p.t) 74,shW p.t.sh, .wown 23 .u8 32 p.t.oa p.t.on p.t.oc p.t.os, .iown 5 .u8 p.a p.i p.c (S.runJ s.V ops p.i), .blk b1 (srC s) 74, .blk b2 [.int .i64 0, .slice none 0 0, .slice none 0 0, .int .i64 0, .slice none 0 0] 74]) (fun p=>p.i≤n∧StK (S.runT s.V ops p.i) p.t) (fun p=>n - p.i) ⟨0,t,none,0⟩ (by kernel_rfl) ⟨Nat.zero_le _,ht⟩ (fun p j hI=>?_) sb;obtain⟨hp,hT⟩:=hI;refine run ?_;refine J.ifd rfl (fun c3=>?_) (fun c3=>?_)
 ·obtain⟨z,hz⟩:=O.ex (i:=(p.i:Nat)) (by omega);have hz':=hz;rw[Int.toNat_natCast]at hz';obtain⟨R,hzo⟩:=opR hz';have hvz:S.verE z.o=0:=by rw[←hzo];exact hvo _ (by rw[S.getD_at (by omega)];exact List.getElem_mem _)
  have hbd:=jud_bd (S.runT s.V ops p.i) z.o;have hask:S.askE (S.runT s.V ops p.i) z.o=0:=by rw[S.askE_v (hrun p.i (by omega)).1,hvz]
  obtain⟨f1,f2⟩:=S.of_yes hask;refine run ?_;refine J.alloc rfl fun b5=>?_
  refine run ?_;refine J.call rfl rfl (fun w' M=>stOffer p.t z TK w' (K0.ext M.ext) (hT.own (hsz p.i (by omega)) w' M) (R.ext M.ext)) fun u hu=>?_
  rw[hT.V,f1]at hu;rw[hT.V,f2,hask];refine run ?_;refine J.alloc rfl fun b6=>?_
  refine run ?_;refine J.regionR [.blk b6 (srC u) 74] [(0, .q),(1, .q),(2, .q),(3, .e),(4, .e),(5, .e),(6, .q)] mixed (by kernel_rfl) (by repeat(first|exact List.Sublist.refl _|refine List.Sublist.cons_cons _ ?_|refine List.Sublist.cons _ ?_)) ?_;refine run ?_;refine J.b1 rfl rfl fun bb=>?_
  refine J.apI rfl rfl RI.own' fun a' c'=>?_
  have e3:S.runJ s.V ops p.i++[S.judT (S.runT s.V ops p.i) z.o]=S.runJ s.V ops (p.i+1):=by rw[S.runJ,hzo]
  rw[e3];refine run ?_;refine J.front (.iown 5 .u8 a' (p.i+1) c' (S.runJ s.V ops (p.i+1))) ?_;refine J.front (.wown 23 .u8 32 u.oa u.on u.oc u.os) ?_;refine J.front (shW u.sh) ?_;refine J.front (.blk b4 (srC u) 74) ?_;refine J.drop (E:=[.blk b4 (srC u) 74,shW u.sh, .wown 23 .u8 32 u.oa u.on u.oc u.os, .iown 5 .u8 a' (p.i+1) c' (S.runJ s.V ops (p.i+1)), .blk b1 (srC s) 74, .blk b2 [.int .i64 0, .slice none 0 0, .slice none 0 0, .int .i64 0, .slice none 0 0] 74]) sb ?_;exact J.next ⟨p.i+1,u,a',c'⟩ ⟨rfl,rfl,trivial⟩ (by kernel_rfl) ⟨by dsimp only;omega,by dsimp only;rw[S.runT,hzo];exact hu⟩ (by dsimp only;omega)
 obtain⟨pi,t',ra,rc⟩:=p;dsimp only at hp hT c3⊢;obtain rfl:pi=n:=by omega
 refine run ?_;exact J.finG (t',ra,rc) rfl hT sb
theorem stSince{S0:Nat→Prop}(s:StA)(k:Int)(TK:TypeId)(w:World)(K0:Kst w TK)(H:StR S0 w s):
  Calls prog 63 #[.agg (srC s).toArray, .int .i64 k] w (Gv w (fun q:Option Addr×Nat=> .tuple #[.slice q.1 (S.sinN s.V k) q.2, .int .i64 (S.sinE s.V k)]) (fun q=>[.wown 23 .u8 32 q.1 (S.sinN s.V k) q.2 (S.sinL s.V k)]) fun q=>S.sinN s.V k≤q.2):=by
 have hcp:=H.cap;refine J.enter 24 func63 rfl rfl ?_;refine run ?_;refine J.box rfl rfl rfl fun b1=>?_
 refine run ?_;refine J.callp rfl rfl (fun w' M=>stCheck s _ w' (K0.ext M.ext) (H.ext M.ext)) ?_;refine run ?_;refine J.ifn rfl (fun c1=>?_) (fun c1=>?_)
 ·obtain⟨k1,k2⟩:=S.chkT_ne c1;have he:=S.sinE_8 (k:=k) k1;obtain⟨e1,e2⟩:=S.sin_no (v:=s.V) (k:=k) (by rw[he];decide);rw[he,e1,e2,k2];refine run ?_;refine J.nilWo 23 .u8 32 ?_;exact J.finG (none,0) rfl (Nat.le_refl _) sb
 have hok:=S.chkT_iff.1 c1;have bad:¬(0≤k∧k≤s.V.n)→S.sinE s.V k=2∧S.sinN s.V k=0∧S.sinL s.V k=[]:=fun h=>by
  have he:=S.sinE_2 hok h;obtain⟨e1,e2⟩:=S.sin_no (v:=s.V) (k:=k) (by rw[he];decide);exact⟨he,e1,e2⟩
 refine run ?_;refine J.spd rfl rfl rfl (fun c2=>?_) (fun c2=>?_)
 ·obtain⟨he,e1,e2⟩:=bad (by omega);rw[he,e1,e2];refine run ?_;refine J.nilWo 23 .u8 32 ?_;exact J.finG (none,0) rfl (Nat.le_refl _) sb
 refine run ?_;refine J.ifd rfl (fun c3=>?_) (fun c3=>?_)
 ·obtain⟨he,e1,e2⟩:=bad (fun h=>by have h1:k≤(s.on:Int):=h.2;omega);rw[he,e1,e2];refine run ?_;refine J.nilWo 23 .u8 32 ?_;exact J.finG (none,0) rfl (Nat.le_refl _) sb
 have he:=S.sinE_0 hok (k:=k) ⟨by omega,by show k≤(s.on:Int);omega⟩;obtain⟨e1,e2⟩:=S.sin_yes he;rw[he,e1,e2];refine run ?_;refine J.call rfl rfl (fun w' M=>cloneW _ (s.on - k.toNat) _ _ w' (wDp (H.os.ext M.ext) k.toNat s.oc (by omega) hcp.1) (by omega) (by omega)) fun q hq=>?_
 refine run ?_;exact J.finG q rfl hq sb
theorem stNew(c n:Int)(w:World):
  Calls prog 52 #[.int .i64 c, .int .i64 n] w (Gv w (fun q:StA=> .tuple #[.agg (srC q).toArray, .int .i64 (S.nwTE c n)]) (fun q=>stE q) (StK (S.nwT c n))):=by
 have bad:¬((1≤c∧c≤40)∧1≤n∧n≤4)→S.nwT c n=S.StV.zero∧S.nwTE c n=2:=S.nwT_2;refine J.enter 25 func52 rfl rfl ?_;refine run ?_;refine J.alloc rfl fun b1=>?_
 refine run ?_;refine J.call rfl rfl (fun w' M=>shOne (shNew n w')) fun u hu=>?_
 refine run ?_;refine J.alloc rfl fun b2=>?_
 refine run ?_;refine J.spd rfl rfl rfl (fun c1=>?_) (fun c1=>?_)
 ·obtain⟨e1,e2⟩:=bad (by omega);rw[e2];refine run ?_;refine J.nilWo 23 .u8 32 ?_;refine J.nilSh ?_;exact J.finG StA.zero rfl (stZero e1) sb
 refine run ?_;refine J.spd rfl rfl rfl (fun c2=>?_) (fun c2=>?_)
 ·obtain⟨e1,e2⟩:=bad (by omega);rw[e2];refine run ?_;refine J.nilWo 23 .u8 32 ?_;refine J.nilSh ?_;exact J.finG StA.zero rfl (stZero e1) sb
 refine run ?_;refine J.ifn rfl (fun c3=>?_) (fun c3=>?_)
 ·obtain⟨e1,e2⟩:=bad fun h=>c3 (if_pos h.2);rw[e2];refine run ?_;refine J.nilWo 23 .u8 32 ?_;refine J.nilSh ?_;exact J.finG StA.zero rfl (stZero e1) sb
 have hn:1≤n∧n≤4:=Classical.byContradiction fun h=>by
  rw[show S.nwE n=2 from if_neg h]at c3;exact absurd c3 (by decide)
 obtain⟨e1,e2⟩:=S.nwT_0 (c:=c) (n:=n) ⟨by omega,hn⟩;rw[e2];refine run ?_;refine J.nilWo 23 .u8 32 ?_;refine J.front (.wown 23 .u8 32 none 0 0 []) ?_;refine J.front (shW u) ?_;refine J.finG ⟨c,u,none,0,0,[]⟩ rfl ⟨?_,hu.k⟩ sb;rw[e1];have e4:u.V=S.nwS n:=hu.V;unfold StA.V;dsimp only;rw[e4,show S.nwS n=S.madeS S.PG.nil n.toNat from if_pos hn]
end W
namespace S
open G
theorem sel_rising{f:Nat→Bool}{n:Nat}{l:List Int}(hl:l.length=32*n)(hr:Rising n l):(selF f l n).length=32*numF f n∧Rising (numF f n) (selF f l n)∧∀x,inS (numF f n) (selF f l n) x↔∃k,k<n∧f k=true∧idAt l k=x:=by
 obtain⟨h1,h2,h3⟩:=sel_all (f:=f) (g:=idG n l) (idG_good hl) hr n (Nat.le_refl _);refine⟨h1.1,h2,fun x=>?_⟩;have:inS (numF f n) (selF f l n) x↔∃o,(selP f (idG n l) n).has x o:=has_in (g:=selP f (idG n l) n);refine this.trans ⟨fun⟨o,ho⟩=>?_,fun⟨k,hk,h4,h5⟩=>⟨_,(h3 x _).2 ⟨k,hk,h4,h5,rfl⟩⟩⟩;obtain⟨k,hk,h4,h5,_⟩:=(h3 x o).1 ho;exact⟨k,hk,h4,h5⟩
/-! ### the third operation -/
def hxP:OpV:=⟨64,0,1,0,0,0,280029583,157840741,0,[], .empty, .empty⟩
theorem hx_pub3:pubS 3=64:=by decide+kernel
theorem hx_non3:nonceS 3 (msgS (hxA.wit 3))=317751998:=by decide+kernel
theorem hx_r3:pubS 317751998=907203284:=by
 unfold pubS;rw[pw_fast _ _ _ (by decide) (by decide)];decide+kernel
theorem hx_e3:sigE 3 (msgS (hxA.wit 3))=280029583:=by
 unfold sigE;rw[hx_non3,hx_r3,hx_pub3];decide+kernel
theorem hx_s3:sigS 3 (msgS (hxA.wit 3))=157840741:=by
 unfold sigS;rw[hx_non3,hx_e3];decide
theorem hx_signE3:signE 3 hxA=0:=signE_zero.2 ⟨by decide,check_zero.2 ⟨(by decide:(0:Nat)≤4),rising_nil,isG_pub 3 (by decide),(by decide:(0:Int)≤1000000000000),(by decide:(0:Int)<500000003),(by decide:(0:Int)<500000003), .inl ⟨rfl,rfl,rfl,rfl,rfl,rfl⟩⟩⟩
theorem hx_sign3:signS 3 hxA=hxP:=by
 unfold signS;rw[if_pos hx_signE3,hx_e3,hx_s3];unfold OpV.wit;rw[hx_pub3];rfl
theorem hx_okP:hxP.ok:=⟨by decide,by decide,by decide,by decide,by decide,by decide,by decide,by decide,by decide,by decide,by decide⟩
theorem hx_verP:verE hxP=0:=by
 have:=(sign_good hx_okA rfl hx_signE3).2.2.2.2.2.2;rwa[hx_sign3]at this
/-! ### new stores -/
theorem nw_ok{c n:Int}(h:(1≤c∧c≤40)∧1≤n∧n≤4):okT (nwT c n)∧StG (nwT c n)∧whole (nwT c n).sh.ps=PG.nil:=by
 rw[(nwT_0 h).1];obtain⟨m1,m2⟩:=ok_made (n:=n.toNat) nil_fine (by omega);refine⟨⟨⟨h.1,m1,?_,?_⟩,fun i hi=>absurd hi (Nat.not_lt_zero _)⟩,⟨fun p hp=>((made_good nil_fine.good nil_fine.rising).mem hp).1.1,rfl⟩,m2⟩
 ·show((0:Nat):Int)≤c;omega
 ·rfl
/-! ### the example -/
/-! ### runs in parts -/
/-! ### what was committed is there -/
/-! ### other shards -/
/-! ### what is missing -/
/-! ### orders as places -/
structure OrdX(g:PG)(l:List Nat):Prop where
 nd:l.Nodup
 lt:∀x∈l,x<g.m
 sq:Seqd (prS g.m g.ids g.ops) l
def osX(g:PG)(l:List Nat):List Int:=l.flatMap fun i=>idAt g.ids i
theorem idAt_len32{ids:List Int}{m i:Nat}(hl:ids.length=32*m)(hi:i<m):(idAt ids i).length=32:=by
 unfold idAt;rw[List.length_take,List.length_drop,hl];omega
theorem osX_snoc(g:PG)(l:List Nat)(x:Nat):osX g (l++[x])=osX g l++idAt g.ids x:=by unfold osX;simp
theorem osX_at{g:PG}(hg:g.good):∀ {l:List Nat} {k:Nat},(∀x∈l,x<g.m)→k<l.length→idAt (osX g l) k=idAt g.ids (l.getD k 0)
 |[],_,_,hk=>absurd hk (Nat.not_lt_zero _)
 |x::l,k,h,hk=>by
  have e:osX g (x::l)=idAt g.ids x++osX g l:=by unfold osX;rw[List.flatMap_cons]
  rw[e,idAt_app (n:=1) (by rw[idAt_len32 hg.1 (h x (List.mem_cons_self ..))])];cases k with
  |zero=>
   rw[if_pos (by decide)];unfold idAt;rw[Nat.mul_zero,List.drop_zero,List.take_take];rfl
  |succ k=>
   rw[if_neg (by omega),Nat.add_sub_cancel,osX_at hg (fun y hy=>h y (List.mem_cons_of_mem _ hy)) (by simpa using hk)];rfl
/-! ### a store into which a graph is put in an order -/
structure AtX(g:PG)(l:List Nat)(i:Nat)(v:StV):Prop where
 ok:okT v
 sg:StG v
 n:v.n=i
 os:v.os=osX g (l.take i)
 cap:v.cap=40
 part:PartG g l i (whole v.sh.ps)
theorem AtX.first(g:PG)(l:List Nat){n:Int}(h:1≤n∧n≤4):AtX g l 0 (nwT 40 n):=by
 obtain⟨h1,h2,h3⟩:=nw_ok (c:=40) (n:=n) ⟨by decide,h⟩;have e:=(nwT_0 (c:=40) (n:=n) ⟨by decide,h⟩).1;exact⟨h1,h2,by rw[e],by rw[e];rfl,by rw[e],by rw[h3];exact part_zero g l⟩
theorem AtX.next{g:PG}(F:g.fine){l:List Nat}(O:OrdX g l){i:Nat}{v:StV}(A:AtX g l i v)(hi:i<l.length)(hm:g.m≤39){o:OpV}(ho:g.ops.getD (l.getD i 0) OpV.zero=o):
  askE v o=0∧ofJ v o=1∧AtX g l (i+1) (ofS v o)∧puE v.sh o=0∧puI v.sh o=idAt g.ids (l.getD i 0)∧puS v.sh o=(ofS v o).sh:=by
 obtain⟨h1,h2,h3⟩:=part_add F O.nd O.lt O.sq A.part hi;rw[ho]at h1 h2 h3;obtain⟨c1,c2,c3,c4,c5⟩:=addE_zero.1 h1;have T:=ok_fineT A.sg A.ok;have hk:askE v o=0:=(askE_v A.ok).trans c2;have hid:idOf o=idAt g.ids (l.getD i 0):=by rw[←h2,(addP_yes h1).2]
 have hl:=nodup_len O.nd (m:=List.range g.m) fun x hx=>List.mem_range.2 (O.lt x hx);rw[List.length_range]at hl;have hj:judT v o=1:=jud_1 (fun k=>c3 ((T.same _).1 k)) (fun j hj=>(T.same _).2 (c4 j hj)) (by rw[A.n,A.cap];omega);have e:ofS v o=comT v o:=(of_yes hk).1.trans (off_1 hj);obtain⟨k1,k2,k3⟩:=com_ok A.sg A.ok c2 hj;obtain⟨a1,a2⟩:=com_add A.sg A.ok c2 hj;obtain⟨p1,p2,p3⟩:=pu_0 A.ok.1.2.1 a1;refine⟨hk,(of_yes hk).2.trans hj,?_,p1,p3.trans hid,?_⟩
 ·rw[e];refine⟨k1,k2,?_,?_,A.cap,?_⟩
  ·show v.n+1=i+1;rw[A.n]
  ·show v.os++idOf o=_;rw[take_snoc_get l i hi,osX_snoc,A.os,hid]
  ·rw[k3,←a2];exact h3
 ·rw[e,p2,a2];rfl
theorem AtX.all{g:PG}(F:g.fine){l:List Nat}(O:OrdX g l)(hl:g.m≤l.length){v:StV}(A:AtX g l l.length v):whole v.sh.ps=g:=part_all F O.nd O.lt hl A.part
theorem at_ex{g:PG}(F:g.fine){l:List Nat}(O:OrdX g l)(hm:g.m≤39):∀i,i≤l.length→∃v,AtX g l i v
 |0,_=>⟨_,AtX.first g l (n:=1) (by decide)⟩
 |i+1,hi=>by
  obtain⟨v,A⟩:=at_ex F O hm i (by omega);exact⟨_,(A.next F O (by omega) hm rfl).2.2.1⟩
theorem OrdX.length{g:PG}{l:List Nat}(O:OrdX g l)(hl:g.m≤l.length):l.length=g.m:=by
 have h:=nodup_len O.nd (m:=List.range g.m) fun x hx=>List.mem_range.2 (O.lt x hx);rw[List.length_range]at h;omega
/-! ### the graph of the first of them -/
theorem part_ops{g q:PG}(F:g.fine){l:List Nat}(O:OrdX g l){i:Nat}(P:PartG g l i q)(hi:i≤l.length):lstE ((l.take i).map fun a=>g.ops.getD a OpV.zero)=0∧lstP ((l.take i).map fun a=>g.ops.getD a OpV.zero)=q:=by
 refine lst_perm P.fine ((List.perm_ext_iff_of_nodup ?_ ?_).2 fun o=>?_)
 ·refine nodup_map_on (fun a ha b hb e=>?_) (O.nd.sublist (List.take_sublist _ _));have h1:=O.lt a (List.mem_of_mem_take ha);have h2:=O.lt b (List.mem_of_mem_take hb);exact rising_inj F.rising h1 h2 (by rw[←fine_idOf F h1,e,fine_idOf F h2])
 ·have h:=idsP_nodup P.fine.rising;rw[←fine_map P.fine]at h;exact List.Pairwise.of_map idOf (fun a b h e=>h (congrArg idOf e)) h
 ·rw[List.mem_map];constructor
  ·rintro⟨a,ha,rfl⟩;obtain⟨k,hk,rfl⟩:=take_getD_ex ha hi;obtain⟨j,hj,_,e⟩:=(P.has _ _).2 ⟨k,hk,rfl,rfl⟩;rw[←e,getD_at (by rw[P.fine.good.2];exact hj)];exact List.getElem_mem _
  ·intro ho;obtain⟨j,hj,e⟩:=List.getElem_of_mem ho;obtain⟨k,hk,_,e2⟩:=(P.has (idAt q.ids j) o).1 ⟨j,by rw[←P.fine.good.2];exact hj,rfl,by rw[getD_at hj,e]⟩;exact⟨_,mem_take_getD hk hi,e2.symm⟩
/-! ### depths -/
def mxX(d:Nat→Nat)(ps:List Nat):Nat:=ps.foldl (fun a p=>max a (d p+1)) 0
theorem mxX_ge{d:Nat→Nat}:∀ {ps:List Nat} {a0:Nat},a0≤ps.foldl (fun a p=>max a (d p+1)) a0∧∀p∈ps,d p+1≤ps.foldl (fun a p=>max a (d p+1)) a0
 |[],a0=>⟨Nat.le_refl _,fun p hp=>by cases hp⟩
 |q::ps,a0=>by
  obtain⟨h1,h2⟩:=mxX_ge (d:=d) (ps:=ps) (a0:=max a0 (d q+1));rw[List.foldl_cons];refine⟨by omega,fun p hp=>?_⟩;rcases List.mem_cons.1 hp with rfl|hp
  ·omega
  ·exact h2 p hp
theorem mxX_le{d:Nat→Nat}{b:Nat}:∀ {ps:List Nat} {a0:Nat},a0≤b→(∀p∈ps,d p+1≤b)→ps.foldl (fun a p=>max a (d p+1)) a0≤b
 |[],a0,h,_=>h
 |q::ps,a0,h,h2=>by
  rw[List.foldl_cons];exact mxX_le (by have:=h2 q (List.mem_cons_self ..);omega) fun p hp=>h2 p (List.mem_cons_of_mem _ hp)
theorem mxX_congr{d e:Nat→Nat}:∀ {ps:List Nat} {a0:Nat},(∀p∈ps,d p=e p)→ps.foldl (fun a p=>max a (d p+1)) a0=ps.foldl (fun a p=>max a (e p+1)) a0
 |[],a0,_=>rfl
 |q::ps,a0,h=>by
  rw[List.foldl_cons,List.foldl_cons,h q (List.mem_cons_self ..)];exact mxX_congr fun p hp=>h p (List.mem_cons_of_mem _ hp)
def dpX(P:Nat→List Nat):List Nat→Nat→Nat
 |[],_=>0
 |x::r,y=>if y=x then mxX (dpX P r) (P x)else dpX P r y
def dpL(P:Nat→List Nat)(l:List Nat):Nat→Nat:=dpX P l.reverse
theorem dpL_snoc(P:Nat→List Nat)(l:List Nat)(x y:Nat):dpL P (l++[x]) y=if y=x then mxX (dpL P l) (P x)else dpL P l y:=by
 unfold dpL;rw[List.reverse_append];rfl
theorem dpL_out{P:Nat→List Nat}{y:Nat}:∀ {l:List Nat},y∉l→dpL P l y=0:=fun {l} h=>by
 have:∀ {r:List Nat},y∉r→dpX P r y=0:=fun {r}=>by
  induction r with
  |nil=>exact fun _=>rfl
  |cons x r ih=>
   intro h;rw[dpX,if_neg (fun e=>h (by rw[e];exact List.mem_cons_self ..))];exact ih fun k=>h (List.mem_cons_of_mem _ k)
 exact this (fun k=>h (List.mem_reverse.1 k))
def IsDp(P:Nat→List Nat)(N:Nat)(d:Nat→Nat):Prop:=∀i,i<N→d i=mxX d (P i)
theorem dpL_take{P:Nat→List Nat}{l:List Nat}(hn:l.Nodup)(hs:Seqd P l):∀k,k≤l.length→∀y∈l.take k,dpL P (l.take k) y=mxX (dpL P (l.take k)) (P y)
 |0,_,y,hy=>by simp at hy
 |k+1,hk,y,hy=>by
  have hx:l.getD k 0∉l.take k:=getD_notin hn (by omega);rw[take_snoc_get l k (by omega)]at hy⊢;have same:∀ps:List Nat,(∀p∈ps,p∈l.take k)→mxX (dpL P (l.take k++[l.getD k 0])) ps=mxX (dpL P (l.take k)) ps:=fun ps h=>mxX_congr fun p hp=>by
   rw[dpL_snoc,if_neg (show ¬p=l.getD k 0 from fun e=>hx (e▸h p hp))]
  rw[dpL_snoc];by_cases c:y=l.getD k 0
  ·rw[if_pos c,c,same _ (hs k (by omega))]
  ·rw[if_neg c];have hy2:y∈l.take k:=(List.mem_append.1 hy).elim id fun h=>absurd (List.mem_singleton.1 h) c;obtain⟨j,hj,e⟩:=take_getD_ex hy2 (by omega)
   rw [same _ fun p hp => by
    rw [← e] at hp
    have := hs j (by omega) p hp
    exact (List.take_subset_take_left (l := l) (by omega : j ≤ k)) this]
   exact dpL_take hn hs k (by omega) y hy2
theorem dpL_is{P:Nat→List Nat}{N:Nat}{l:List Nat}(hn:l.Nodup)(hs:Seqd P l)(ha:∀i,i<N→i∈l):IsDp P N (dpL P l):=fun i hi=>by
 have:=dpL_take hn hs l.length (Nat.le_refl _) i (by rw[List.take_length];exact ha i hi);rwa[List.take_length]at this
theorem isDp_uniq{P:Nat→List Nat}{N:Nat}{l:List Nat}{d e:Nat→Nat}(hs:Seqd P l)(hb:∀x∈l,x<N)(hd:IsDp P N d)(he:IsDp P N e):∀x∈l,d x=e x:=by
 have key:∀k,k≤l.length→∀x∈l.take k,d x=e x:=by
  intro k
  induction k with
  |zero=>intro _ x hx;simp at hx
  |succ k ih=>
   intro hk x hx;rw[take_snoc_get l k (by omega)]at hx;rcases List.mem_append.1 hx with h|h
   ·exact ih (by omega) x h
   ·obtain rfl:=List.mem_singleton.1 h;have hm:=hb _ (getD_mem (show k<l.length by omega));rw[hd _ hm,he _ hm];exact mxX_congr fun p hp=>ih (by omega) p (hs k (by omega) p hp)
 exact fun x hx=>key l.length (Nat.le_refl _) x (by rw[List.take_length];exact hx)
theorem isDp_le{P:Nat→List Nat}{N:Nat}{l:List Nat}{d:Nat→Nat}(hs:Seqd P l)(hb:∀x∈l,x<N)(hd:IsDp P N d):∀k,k<l.length→d (l.getD k 0)≤k:=fun k=>by
 induction k using Nat.strongRecOn with
 |_ k ih=>
  intro hk;rw[hd _ (hb _ (getD_mem hk))];refine mxX_le (Nat.zero_le _) fun p hp=>?_
  obtain⟨j,hj,e⟩:=take_getD_ex (hs k hk p hp) (by omega);have:=ih j hj (by omega);rw[e]at this;omega
theorem isDp_pr{P:Nat→List Nat}{N:Nat}{d:Nat→Nat}(hd:IsDp P N d){i p:Nat}(hi:i<N)(hp:p∈P i):d p+1≤d i:=by
 rw[hd i hi];exact mxX_ge.2 p hp
/-! ### rounds -/
structure RdX(g:PG)(v:StV):Prop where
 ok:okT v
 sg:StG v
 cap:v.cap=40
 sub:∀x o,(whole v.sh.ps).has x o→g.has x o
theorem RdX.le{g:PG}{v:StV}(R:RdX g v):v.n≤g.m:=by
 have T:=ok_fineT R.sg R.ok;have hin:∀k,k<(whole v.sh.ps).m→inS g.m g.ids (idAt (whole v.sh.ps).ids k):=fun k hk=>has_in.2 ⟨_,R.sub _ _ ⟨k,hk,rfl,rfl⟩⟩
 have h := nodup_len (l := (List.range (whole v.sh.ps).m).map fun k => ixS g.m g.ids (idAt (whole v.sh.ps).ids k)) (m := List.range g.m) (nodup_map_on (fun a ha b hb e => by
  have ha := List.mem_range.1 ha
  have hb := List.mem_range.1 hb
  exact rising_inj T.fine.rising ha hb (by rw [← (ix_in (hin a ha)).2, e, (ix_in (hin b hb)).2])) List.nodup_range) fun x hx => by
  obtain⟨k,hk,rfl⟩:=List.mem_map.1 hx;exact List.mem_range.2 (ix_in (hin k (List.mem_range.1 hk))).1
 rw[List.length_map,List.length_range,List.length_range,T.m]at h;exact h
theorem RdX.off{g:PG}{v:StV}(R:RdX g v){o:OpV}(hv:verE o=0)(ho:g.has (idOf o) o):RdX g (offT v o)∧(∀x,inS v.n v.os x→inS (offT v o).n (offT v o).os x)∧(allI v.n v.os o.n o.ids→g.m≤39→inS (offT v o).n (offT v o).os (idOf o)):=by
 obtain⟨k1,k2⟩:=off_ok R.sg R.ok hv;by_cases c:judT v o=1
 ·obtain⟨_,_,m3⟩:=com_ok R.sg R.ok hv c;rw[off_1 c]at k1 k2⊢;have T:=ok_fineT R.sg R.ok;refine⟨⟨k1,k2,R.cap,fun x u h=>?_⟩,fun x hx=>(inS_app1 R.sg.os (idOf_len o)).2 (.inl hx),fun _ _=>(inS_app1 R.sg.os (idOf_len o)).2 (.inr rfl)⟩;rw[m3]at h;rcases(putP_has T.fine.good (idOf_len _) o x u).1 h with h|⟨rfl,rfl⟩
  ·exact R.sub x u h
  ·exact ho
 ·rw[off_no c];refine⟨R,fun _ h=>h,fun ha hm=>?_⟩;rcases jud_or v o with h|h|h|h
  ·unfold judT at h;split at h
   ·assumption
   ·split at h<;>exact absurd h (by decide)
  ·exact Classical.byContradiction fun c1=>by
    have hle:=R.le;exact c (jud_1 c1 ha (by rw[R.cap];omega))
  ·exact Classical.byContradiction fun c1=>by
    have hle:=R.le;exact c (jud_1 c1 ha (by rw[R.cap];omega))
  ·exact absurd h c
theorem RdX.run{g:PG}{v:StV}(R:RdX g v){l:List OpV}(hl:∀o∈l,verE o=0∧g.has (idOf o) o):∀i,i≤l.length→RdX g (runT v l i)
 |0,_=>R
 |i+1,hi=>by
  have ho:=hl (l.getD i OpV.zero) (by rw[getD_at (by omega)];exact List.getElem_mem _);rw[runT];exact((RdX.run R hl i (by omega)).off ho.1 ho.2).1
theorem RdX.keep{g:PG}{v:StV}(R:RdX g v){l:List OpV}(hl:∀o∈l,verE o=0∧g.has (idOf o) o){k:Nat}{x:List Int}(hx:inS (runT v l k).n (runT v l k).os x):∀j,k≤j→j≤l.length→inS (runT v l j).n (runT v l j).os x:=fun j hkj=>by
 obtain⟨d,rfl⟩:=Nat.le.dest hkj;clear hkj
 induction d with
 |zero=>exact fun _=>hx
 |succ d ih=>
  intro hj;have ho:=hl (l.getD (k+d) OpV.zero) (by rw[getD_at (by omega)];exact List.getElem_mem _);rw[←Nat.add_assoc,runT];exact((R.run hl (k+d) (by omega)).off ho.1 ho.2).2.1 x (ih (by omega))
structure RnX(g:PG)(d:Nat→Nat)(r:Nat)(v:StV):Prop where
 R:RdX g v
 done:∀i,i<g.m→d i<r→inS v.n v.os (idAt g.ids i)
theorem RnX.first(g:PG)(d:Nat→Nat){n:Int}(h:1≤n∧n≤4):RnX g d 0 (nwT 40 n):=by
 obtain⟨h1,h2,h3⟩:=nw_ok (c:=40) (n:=n) ⟨by decide,h⟩;have e:=(nwT_0 (c:=40) (n:=n) ⟨by decide,h⟩).1;exact⟨⟨h1,h2,by rw[e],fun x o k=>by rw[h3]at k;exact absurd k (nil_has x o)⟩,fun i _ hi=>absurd hi (Nat.not_lt_zero _)⟩
theorem RnX.next{g:PG}(F:g.fine){d:Nat→Nat}(hd:IsDp (prS g.m g.ids g.ops) g.m d){r:Nat}{v:StV}(N:RnX g d r v){l:List OpV}(hl:∀o∈l,verE o=0∧g.has (idOf o) o)(ha:∀i,i<g.m→g.ops.getD i OpV.zero∈l)(hm:g.m≤39)(h60:l.length≤60):
  runE v l=0∧(runL v l).length=l.length∧RnX g d (r+1) (runS v l):=by
 obtain⟨R,hdn⟩:=N;have e:runE v l=0:=(runE_v R.ok (by omega)).trans (verL_zero.2 fun o ho=>(hl o ho).1);obtain⟨e1,e2⟩:=run_yes e;rw[e1,e2,runJ_len];refine⟨e,rfl,R.run hl _ (Nat.le_refl _),fun i hi hr=>?_⟩;have hh:g.has (idAt g.ids i) (g.ops.getD i OpV.zero):=⟨i,hi,rfl,rfl⟩
 obtain⟨k,hk,ek⟩:=List.getElem_of_mem (ha i hi);rw[←getD_at (d:=OpV.zero) hk]at ek;have hok:=hl _ (ha i hi);have hid:idOf (g.ops.getD i OpV.zero)=idAt g.ids i:=(F.own _ _ hh).2;refine R.keep hl (k:=k+1) ?_ l.length hk (Nat.le_refl _);rw[runT,ek,←hid];refine((R.run hl k (by omega)).off hok.1 hok.2).2.2 (fun j hj=>?_) hm;have hin:=F.opens _ _ hh j hj;obtain⟨p1,p2⟩:=ix_in hin;have hp:=isDp_pr hd hi (p:=ixS g.m g.ids (idAt (g.ops.getD i OpV.zero).ids j)) (by unfold prS;exact List.mem_map.2 ⟨j,List.mem_range.2 hj,rfl⟩);have h1:=hdn _ p1 (by omega);rw[p2]at h1;exact R.keep hl (k:=0) h1 k (Nat.zero_le _) (by omega)
theorem RnX.all{g:PG}(F:g.fine){d:Nat→Nat}{r:Nat}{v:StV}(N:RnX g d r v)(hr:∀i,i<g.m→d i<r):whole v.sh.ps=g:=by
 have T:=ok_fineT N.R.sg N.R.ok;refine PG.ext_has T.fine.good F.good T.fine.rising F.rising fun x o=>⟨N.R.sub x o,?_⟩
 rintro⟨i,hi,rfl,rfl⟩;obtain⟨u,hu⟩:=has_in.1 ((T.same _).1 (N.done i hi (hr i hi)));rw[has_fun F.rising ⟨i,hi,rfl,rfl⟩ (N.R.sub _ _ hu)];exact hu
/-! ### what is reached -/
def CloX(P:Nat→List Nat)(C:Nat→Prop):Prop:=∀x,C x→∀p∈P x,C p
def bX(f:List Bool)(x:Nat):Prop:=f.getD x false=true
structure VisX(P:Nat→List Nat)(i:Nat)(f f':List Bool):Prop where
 len:f'.length=f.length
 up:∀x,bX f x→bX f' x
 at_:bX f' i
 cl:∀x,bX f' x→¬bX f x→∀p∈P x,bX f' p
 sub:∀C,CloX P C→C i→∀x,bX f' x→bX f x∨C x
structure VisL(P:Nat→List Nat)(i:Nat)(f:List Bool)(j:Nat)(f':List Bool):Prop where
 len:f'.length=f.length
 up:∀x,bX f x→bX f' x
 at_:bX f' i
 cl:∀x,bX f' x→¬bX f x→x≠i→∀p∈P x,bX f' p
 dn:∀p∈(P i).take j,bX f' p
 sub:∀C,CloX P C→C i→∀x,bX f' x→bX f x∨C x
theorem bX_set{f:List Bool}{i x:Nat}(hi:i<f.length):bX (f.set i true) x↔x=i∨bX f x:=by
 unfold bX;rw[List.getD_eq_getElem?_getD,List.getElem?_set];by_cases c:i=x
 ·subst c;rw[if_pos rfl,if_pos hi];exact⟨fun _=> .inl rfl,fun _=>rfl⟩
 ·rw[if_neg c,List.getD_eq_getElem?_getD];exact⟨.inr,fun h=>h.resolve_left fun e=>c e.symm⟩
theorem VisX.same{P:Nat→List Nat}{i:Nat}{f:List Bool}(h:bX f i):VisX P i f f:=⟨rfl,fun _ h=>h,h,fun x h1 h2=>absurd h1 h2,fun _ _ _ x hx=> .inl hx⟩
theorem VisL.first{P:Nat→List Nat}{i:Nat}{f:List Bool}(hi:i<f.length):VisL P i f 0 (f.set i true):=
 ⟨List.length_set,fun x h=>(bX_set hi).2 (.inr h),(bX_set hi).2 (.inl rfl),fun x h1 h2 h3=>((bX_set hi).1 h1).elim (fun e=>absurd e h3) fun h=>absurd h h2,fun p hp=>by simp at hp,fun C hC hi2 x hx=>((bX_set hi).1 hx).elim (fun e=> .inr (e▸hi2)) .inl⟩
theorem VisL.next{P:Nat→List Nat}{i:Nat}{f f1 f2:List Bool}{j:Nat}(h:VisL P i f j f1)(hj:j<(P i).length)(k:VisX P ((P i).getD j 0) f1 f2):VisL P i f (j+1) f2 where
 len:=k.len.trans h.len
 up:=fun x hx=>k.up x (h.up x hx)
 at_:=k.up _ h.at_
 cl:=fun x h1 h2 h3 p hp=>by
  by_cases c:bX f1 x
  ·exact k.up p (h.cl x c h2 h3 p hp)
  ·exact k.cl x h1 c p hp
 dn:=fun p hp=>by
  rw[take_snoc_get _ j hj]at hp;rcases List.mem_append.1 hp with hp|hp
  ·exact k.up p (h.dn p hp)
  ·obtain rfl:=List.mem_singleton.1 hp;exact k.at_
 sub:=fun C hC hi x hx=>(k.sub C hC (hC i hi _ (getD_mem hj)) x hx).elim (fun h1=>h.sub C hC hi x h1) .inr
theorem VisL.done{P:Nat→List Nat}{i:Nat}{f f':List Bool}(h:VisL P i f (P i).length f'):VisX P i f f':=by
 refine⟨h.len,h.up,h.at_,fun x h1 h2 p hp=>?_,h.sub⟩;by_cases c:x=i
 ·subst c;exact h.dn p (by rw[List.take_length];exact hp)
 ·exact h.cl x h1 h2 c p hp
structure RchX(P:Nat→List Nat)(js:List Nat)(f:List Bool):Prop where
 cl:∀x,bX f x→∀p∈P x,bX f p
 at_:∀j∈js,bX f j
 sub:∀C,CloX P C→(∀j∈js,C j)→∀x,bX f x→C x
theorem RchX.first{P:Nat→List Nat}{n:Nat}:RchX P [] (List.replicate n false):=by
 have no:∀x,¬bX (List.replicate n false) x:=fun x h=>by
  unfold bX at h;rw[List.getD_eq_getElem?_getD,List.getElem?_replicate]at h;split at h<;>exact absurd h (by decide)
 exact⟨fun x h=>absurd h (no x),fun j hj=>(by cases hj),fun C _ _ x hx=>absurd hx (no x)⟩
theorem RchX.next{P:Nat→List Nat}{js:List Nat}{f f':List Bool}{i:Nat}(h:RchX P js f)(k:VisX P i f f'):RchX P (js++[i]) f' where
 cl:=fun x h1 p hp=>by
  by_cases c:bX f x
  ·exact k.up p (h.cl x c p hp)
  ·exact k.cl x h1 c p hp
 at_:=fun j hj=>(List.mem_append.1 hj).elim (fun hj=>k.up j (h.at_ j hj)) fun hj=>by
  obtain rfl:=List.mem_singleton.1 hj;exact k.at_
 sub:=fun C hC hj x hx=>(k.sub C hC (hj i (List.mem_append_right _ (List.mem_singleton.2 rfl))) x hx).elim (fun h1=>h.sub C hC (fun j hj2=>hj j (List.mem_append_left _ hj2)) x h1) id
theorem below_is{g Q:PG}(F:g.fine){l:List Nat}(O:OrdX g l){i:Nat}(Pt:PartG g l i Q)(hi:i≤l.length){js:List Nat}{f:List Bool}(R:RchX (prS g.m g.ids g.ops) js f)(hj:∀a,a∈js↔a<g.m∧inS (hdN Q) (hdI Q) (idAt g.ids a)):
  selP (fun a=>f.getD a false) g g.m=Q:=by
 obtain⟨s1,s2,s3⟩:=sel_all (f:=fun a=>f.getD a false) F.good F.rising g.m (Nat.le_refl _);obtain⟨_,_,d3⟩:=hd_all Pt.fine;have hQ:∀a,a<g.m→(inS Q.m Q.ids (idAt g.ids a)↔a∈l.take i):=fun a ha=>by
  constructor
  ·intro h;obtain⟨u,hu⟩:=has_in.1 h;obtain⟨k,hk,e,_⟩:=(Pt.has _ _).1 hu;obtain rfl:=rising_inj F.rising ha (O.lt _ (getD_mem (by omega))) e;exact mem_take_getD hk hi
  ·intro h;obtain⟨k,hk,rfl⟩:=take_getD_ex h hi;exact has_in.2 ⟨_,(Pt.has _ _).2 ⟨k,hk,rfl,rfl⟩⟩
 have hC:CloX (prS g.m g.ids g.ops) fun a=>a∈l.take i:=fun a ha p hp=>by
  obtain⟨k,hk,rfl⟩:=take_getD_ex ha hi;exact List.take_subset_take_left (l:=l) (by omega:k≤i) (O.sq k (by omega) p hp)
 have h1:∀a,bX f a→a∈l.take i:=R.sub _ hC fun a ha=>by
  obtain⟨a1,a2⟩:=(hj a).1 ha;exact(hQ a a1).1 ((d3 _).1 a2).1
 have h2:∀n k,i - k≤n→k<i→bX f (l.getD k 0):=by
  intro n
  induction n with
  |zero=>intro k h hk;omega
  |succ n ih=>
   intro k hn hk;have ha:=O.lt _ (getD_mem (show k<l.length by omega));have hin:=(hQ _ ha).2 (mem_take_getD hk hi);by_cases c:inS (hdN Q) (hdI Q) (idAt g.ids (l.getD k 0))
   ·exact R.at_ _ ((hj _).2 ⟨ha,c⟩)
   ·obtain⟨x,u,hu,hx⟩:∃x u,Q.has x u∧inS u.n u.ids (idAt g.ids (l.getD k 0)):=Classical.byContradiction fun h=>c ((d3 _).2 ⟨hin,fun x u hu hx=>h ⟨x,u,hu,hx⟩⟩);obtain⟨k2,hk2,rfl,rfl⟩:=(Pt.has _ _).1 hu;have ha2:=O.lt _ (getD_mem (show k2<l.length by omega));obtain⟨j,hj2,ej⟩:=hx;have hp:l.getD k 0∈prS g.m g.ids g.ops (l.getD k2 0):=by
     unfold prS;exact List.mem_map.2 ⟨j,List.mem_range.2 hj2,by rw[ej,ix_eq F.rising ha]⟩
    obtain⟨k3,hk3,e3⟩:=take_getD_ex (O.sq k2 (by omega) _ hp) (by omega);have:k3=k:=by
     apply Classical.byContradiction;intro ne;rcases Nat.lt_or_ge k3 k with h|h
     ·have:=mem_take_getD (l:=l) h (by omega);rw[e3]at this;exact getD_notin O.nd (by omega) this
     ·have:=mem_take_getD (l:=l) (show k<k3 by omega) (by omega);rw[←e3]at this;exact getD_notin O.nd (by omega) this
    subst this;exact R.cl _ (ih k2 (by omega) hk2) _ hp
 refine PG.ext_has s1 Pt.fine.good s2 Pt.fine.rising fun x o=>?_
 rw[s3,Pt.has];constructor
 ·rintro⟨a,ha,hf,rfl,rfl⟩;obtain⟨k,hk,e⟩:=take_getD_ex (h1 a hf) hi;exact⟨k,hk,by rw[e],by rw[e]⟩
 ·rintro⟨k,hk,rfl,rfl⟩;exact⟨_,O.lt _ (getD_mem (by omega)),h2 (i - k) k (Nat.le_refl _) hk,rfl,rfl⟩
theorem lost_is{g Q:PG}(F:g.fine){l:List Nat}(O:OrdX g l)(hl:g.m≤l.length){i:Nat}(Pt:PartG g l i Q)(hi:i≤l.length):
  numF (absF Q.m Q.ids g.ids) g.m=g.m - i∧∀x,inS (numF (absF Q.m Q.ids g.ids) g.m) (selF (absF Q.m Q.ids g.ids) g.ids g.m) x→∃k,i≤k∧k<l.length∧idAt g.ids (l.getD k 0)=x:=by
 obtain⟨r1,r2,r3⟩:=sel_rising (f:=absF Q.m Q.ids g.ids) F.good.1 F.rising;have hab:∀a,a<g.m→(absF Q.m Q.ids g.ids a=true↔a∉l.take i):=fun a ha=>by
  unfold absF;rw[decide_eq_true_iff];refine not_congr ?_;constructor
  ·intro h;obtain⟨u,hu⟩:=has_in.1 h;obtain⟨k,hk,e,_⟩:=(Pt.has _ _).1 hu;obtain rfl:=rising_inj F.rising ha (O.lt _ (getD_mem (by omega))) e;exact mem_take_getD hk hi
  ·intro h;obtain⟨k,hk,rfl⟩:=take_getD_ex h hi;exact has_in.2 ⟨_,(Pt.has _ _).2 ⟨k,hk,rfl,rfl⟩⟩
 refine⟨?_,fun x hx=>?_⟩
 ·have e:numF (absF Q.m Q.ids g.ids) g.m=((List.range g.m).filter fun a=>decide (a∉l.take i)).length:=by
   have:∀n,n≤g.m→numF (absF Q.m Q.ids g.ids) n=((List.range n).filter fun a=>decide (a∉l.take i)).length:=by
    intro n
    induction n with
    |zero=>intro _;rfl
    |succ n ih=>
     intro hn;rw[numF,ih (by omega),List.range_succ,List.filter_append,List.length_append];congr 1;by_cases c:n∉l.take i
     ·rw[(hab n (by omega)).2 c,List.filter_cons_of_pos (by simpa using c)];rfl
     ·rw[Bool.eq_false_iff.2 fun h=>c ((hab n (by omega)).1 h),List.filter_cons_of_neg (by simpa using c)];rfl
   exact this g.m (Nat.le_refl _)
  rw[e];have hp:((List.range g.m).filter fun a=>decide (a∉l.take i)).Perm (l.drop i):=(List.perm_ext_iff_of_nodup (List.nodup_range.sublist List.filter_sublist) (O.nd.sublist (List.drop_sublist _ _))).2 fun a=>by
   rw[List.mem_filter,List.mem_range,decide_eq_true_iff];constructor
   ·rintro⟨a1,a2⟩;have:=nodup_all O.nd O.lt hl a1;rw[←List.take_append_drop i l]at this;exact(List.mem_append.1 this).resolve_left a2
   ·intro h;refine⟨O.lt a (List.mem_of_mem_drop h),fun h2=>?_⟩;have hn:=O.nd;rw[←List.take_append_drop i l,List.nodup_append]at hn;exact hn.2.2 a h2 a h rfl
  rw[hp.length_eq,List.length_drop,O.length hl]
 ·obtain⟨a,ha,hf,rfl⟩:=(r3 x).1 hx;have h1:=(hab a ha).1 hf;obtain⟨k,hk,e⟩:=List.getElem_of_mem (nodup_all O.nd O.lt hl ha);rw[←getD_at (d:=0) hk]at e;refine⟨k,?_,hk,by rw[e]⟩;apply Classical.byContradiction;intro c;exact h1 (e▸mem_take_getD (by omega) hi)
end S
namespace W
open Go.RowKit G
set_option maxRecDepth 20000
set_option maxHeartbeats 8000000
attribute [local irreducible] RS RX RY Code.wp bodyPost J Ent.blk Ent.iown Ent.wrow Ent.wown Ent.gown Ent.all Ent.emp
instance:Sca prog 112:=⟨_,underlying112,rfl⟩
instance:Sca prog 110:=⟨_,underlying110,rfl⟩
instance:Ents prog 51:=⟨.mk func51 (by kernel_rfl) rfl⟩
instance:Ents prog 49:=⟨.mk func49 (by kernel_rfl) rfl⟩
theorem Mpi.ext{w w':World}{b:Nat}{l:List IdV}(h:Mpi w b l)(k:Ext w w'):Mpi w' b l:=by
  obtain⟨es,c,h1,h2⟩:=h;exact⟨es,c,by rw[k.block b (Array.getElem?_eq_some_iff.1 h1).1];exact h1,h2⟩
theorem Mpi.pr{S:Nat→Prop}{w w':World}{b:Nat}{l:List IdV}(h:Mpi w b l)(k:Pr S w w')(hn:¬S b):Mpi w' b l:=by
  obtain⟨es,c,h1,h2⟩:=h;exact⟨es,c,by rw[k.block b (Array.getElem?_eq_some_iff.1 h1).1 hn];exact h1,h2⟩
section
variable{S0:Nat→Prop}{w0:World}{L:List Ent}{P:Program}{ops:Array Oper}{K:List Value→World→Prop}{rest:List (Oper×Kd)}{l:List Value}{m:Md}{d:Tmp}{ty:TypeId}{pos:String}{af:Array Edge}{kd:Kd}{t k e el:TypeId}{x y z:Operand}
theorem J.lookMq{l':List Value}{b i:Nat}{lst:List IdV}{q:IdV}[U:Und P t (.map k el)][U2:Und P k (.array 32 e)][U3:Und P e (.int .u8)][Z:Siz P e 1](hM:Mpi w0 b lst)(hx:ev l x= .map (some b))(hy:ev l y= .agg (idC q).toArray)(hi:lst.findIdx? (fun u=>decide (q.xs=u.xs))=some i)
    (kk:J no w0 L (RY no w0 m P ops K rest l'))(hl:l.set d (.int .i64 (i:Nat))=l':=by dsimp only[List.set]):
    J no w0 L (RY no w0 m P ops K ((⟨some d, .lookup t x y false,ty,pos,af,none⟩, .q)::rest) l):=
  J.val (fun w M => by
    have hr := run_lookI (P := P) (w := w) (x := q) U.h U2.h U3.h Z.h (hM.ext M.ext) hi
    simp [execOp, hx, hy, hr, Result.andThen]) kk hl
end
theorem mpiC{S0:Nat→Prop}{w0:World}{L:List Ent}{F:Ent→List Ent}(b:Nat){l:List IdV}[R:RE L (mpiE b l) F]{w:World}(M:Mem S0 w0 L w):Mpi w b l:=by
  obtain⟨S,_,h2⟩:=M.get (R.h (mpiE b l)).same;exact h2.2
def dnB(n:Nat)(l:List Nat):List Bool:=(List.range n).map fun i=>decide (i∈l)
theorem dnB_len(n:Nat)(l:List Nat):(dnB n l).length=n:=by simp[dnB]
theorem dnB_first(n:Nat):dnB n []=List.replicate n false:=by
  unfold dnB;rw[List.map_congr_left (g:=fun _=>false) fun i _=>decide_eq_false (List.not_mem_nil)];rw[List.map_const',List.length_range]
theorem dnB_get{n i:Nat}(l:List Nat)(h:i<n):(dnB n l)[i]? =some (decide (i∈l)):=by
  unfold dnB;rw[List.getElem?_map,List.getElem?_range h];rfl
theorem dnB_set{n i:Nat}(l:List Nat)(h:i<n):(dnB n l).set i true=dnB n (l++[i]):=by
  apply List.ext_getElem?;intro j;rw[List.getElem?_set];by_cases c:i=j
  · subst c
    rw[if_pos rfl,if_pos (by rw[dnB_len];exact h),dnB_get _ h,decide_eq_true (List.mem_append_right _ (List.mem_singleton.2 rfl))]
  · rw[if_neg c]
    by_cases hj:j<n
    · rw[dnB_get _ hj,dnB_get _ hj]
      congr 1;rw[decide_eq_decide];exact⟨fun h=>List.mem_append_left _ h,fun h=>(List.mem_append.1 h).elim id fun h=>absurd (List.mem_singleton.1 h).symm c⟩
    · rw[List.getElem?_eq_none (by rw[dnB_len];omega),List.getElem?_eq_none (by rw[dnB_len];omega)]
def rdX(P:Nat→List Nat)(l:List Nat)(i:Nat):Prop:=i∉l∧∀p∈P i,p∈l
instance(P:Nat→List Nat)(l:List Nat)(i:Nat):Decidable (rdX P l i):=by unfold rdX;infer_instance
theorem ordP2{S1:Nat→Prop}(x:List Int)(b6 b5 bd bm m ix:Nat)(T6 T5:TypeId)(l:List IdV)(f:List Bool)(y:Bool)(w:World)(hB6:Blk w b6 [.slice (some ⟨bd,0,none⟩) m m] T6)(hB5:Blk w b5 [.map (some bm)] T5)(D:GRow boC 1 S1 w (some ⟨bd,0,none⟩) m f)(hM:Mpi w bm l)(hx:Arr .u8 32 x)(hix:l.findIdx? (fun u=>decide (x=u.xs))=some ix)(hy:f[((ix:Nat):Int).toNat]? =some y)(hm:m≤1000):
    Calls prog 51 #[.agg (ints .u8 x).toArray, .pointer (some ⟨b6,0,none⟩), .pointer (some ⟨b5,0,none⟩)] w (Ret w fun v _=>v= .bool (!y)):=by
  have hlt:=(List.getElem?_eq_some_iff.1 hy).1;have hlen:=D.len;rw[Int.toNat_natCast]at hlt;refine J.enter 9 func51 rfl rfl ?_;refine run ?_;refine J.box rfl rfl rfl fun b1=>?_
  refine run ?_;refine J.regionX [(0, .q),(1, .q),(2, .q),(3, .q),(4, .q),(5, .q),(6, .q),(7, .q)] mixed (by kernel_rfl) ?_;refine run ?_;refine J.ldOq hB6 rfl ?_;refine J.ldOq hB5 rfl ?_;refine run ?_;refine J.lookMq (q:=⟨x,hx.1⟩) hM rfl rfl hix ?_;refine run ?_;exact J.fin rfl
theorem idxOrd{S1 S2:Nat→Prop}(a:Option Addr)(n c:Nat)(ps:List Int)(b6 b5 bd bm m:Nat)(T6 T5:TypeId)(ids:List Int)(l:List IdV)(f:List Bool)(w:World)(hB6:Blk w b6 [.slice (some ⟨bd,0,none⟩) m m] T6)(hB5:Blk w b5 [.map (some bm)] T5)(D:GRow boC 1 S1 w (some ⟨bd,0,none⟩) m f)(hM:Mpi w bm l)(D1:WRow .u8 32 S2 w a n ps)(hl1:l.length=m)(hl2:flatI l=ids)(hr:S.Rising m ids)(hin:S.allI m ids n ps)(hm:m≤1000)(hn:n≤1000):
    Calls prog 90 #[.slice a n c, .func (.func 51) #[] #[.pointer (some ⟨b6,0,none⟩), .pointer (some ⟨b5,0,none⟩)]] w (Gv w (fun r:Int=> .int .i64 r) (fun _=>[]) fun r=>0≤r↔¬∀j,j<n→f.getD (S.ixS m ids (S.idAt ps j)) false=true):=by
  have hl:=D1.len;have hlen:=D.len;refine J.enter 17 func90 rfl rfl ?_;refine run ?_;refine J.loopS (A:=Int) (fun p=>[(8, .int .i64 p)]) [4,5,9,10,11,12,13,14,15,16,17,18] (fun q=>(0≤q∧q≤n)∧∀i,i<q.toNat→f.getD (S.ixS m ids (S.idAt ps i)) false=true) (fun q=>n - q.toNat) 0 (by kernel_rfl) ⟨by omega,fun i hi=>by omega⟩ (fun q j hI=>?_);obtain⟨h1,hI⟩:=hI;refine run ?_;refine J.ifd rfl (fun c1=>?_) (fun c1=>?_)
  · have hiq:=hin q.toNat (by omega)
    have hix:=S.ix_in hiq;obtain⟨y,hy⟩:∃y,f[((S.ixS m ids (S.idAt ps q.toNat):Nat):Int).toNat]? =some y:=⟨_,List.getElem?_eq_getElem (by rw[Int.toNat_natCast];omega)⟩
    have ey:f.getD (S.ixS m ids (S.idAt ps q.toNat)) false=y:=by rw[Int.toNat_natCast]at hy;rw[List.getD_eq_getElem?_getD,hy];rfl
    refine run ?_;refine J.callvp rfl rfl rfl (fun w' M=>ordP2 _ b6 b5 bd bm m _ T6 T5 l f y w' (hB6.ext M.ext) (hB5.ext M.ext) (D.ext M.ext) (hM.ext M.ext) (D1.elt_arr (by omega)) (find_ix hl1 hl2 hr hiq) hy hm) ?_;refine run ?_;cases y with
    |true=>
      refine run ?_;refine J.nextS (q+1) ⟨rfl,trivial⟩ (by kernel_rfl) ⟨by omega,fun i hi=>?_⟩ (by omega);rcases Nat.lt_or_ge i q.toNat with e|e
      · exact hI i e
      · obtain rfl:i=q.toNat:=by omega
        exact ey
    |false=>
      refine run ?_;exact J.finG q rfl ⟨fun _ h=>(by rw[h q.toNat (by omega)]at ey;cases ey),fun _=>by omega⟩ (List.nil_sublist _)
  refine run ?_;exact J.finG (-1) rfl ⟨fun h=>by omega,fun h=>absurd (fun i hi=>hI i (by omega)) h⟩ (List.nil_sublist _)
theorem hasOrd{S1 S2:Nat→Prop}(a:Option Addr)(n c:Nat)(ps:List Int)(b6 b5 bd bm m:Nat)(T6 T5:TypeId)(ids:List Int)(l:List IdV)(f:List Bool)(w:World)(hB6:Blk w b6 [.slice (some ⟨bd,0,none⟩) m m] T6)(hB5:Blk w b5 [.map (some bm)] T5)(D:GRow boC 1 S1 w (some ⟨bd,0,none⟩) m f)(hM:Mpi w bm l)(D1:WRow .u8 32 S2 w a n ps)(hl1:l.length=m)(hl2:flatI l=ids)(hr:S.Rising m ids)(hin:S.allI m ids n ps)(hm:m≤1000)(hn:n≤1000):
    Calls prog 50 #[.slice a n c, .func (.func 51) #[] #[.pointer (some ⟨b6,0,none⟩), .pointer (some ⟨b5,0,none⟩)]] w (Ret w fun v _=>v= .bool (decide (¬∀j,j<n→f.getD (S.ixS m ids (S.idAt ps j)) false=true))):=by
  refine J.enter 7 func50 rfl rfl ?_;refine run ?_;refine J.call rfl rfl (fun w' M=>idxOrd a n c ps b6 b5 bd bm m T6 T5 ids l f w' (hB6.ext M.ext) (hB5.ext M.ext) (D.ext M.ext) (hM.ext M.ext) (D1.ext M.ext) hl1 hl2 hr hin hm hn) fun r hr2=>?_
  refine run ?_;exact J.fin (congrArg _ (decide_eq_decide.2 hr2))
theorem ordP1{S0 S1:Nat→Prop}(g:GrA)(i:Int)(rd:List Nat)(b6 b1 b5 bd bm:Nat)(T6 T1 T5:TypeId)(l:List IdV)(w:World)(hB6:Blk w b6 [.slice (some ⟨bd,0,none⟩) g.m g.m] T6)(hB1:Blk w b1 (grC g) T1)(hB5:Blk w b5 [.map (some bm)] T5)(D:GRow boC 1 S1 w (some ⟨bd,0,none⟩) g.m (dnB g.m rd))(hM:Mpi w bm l)(G:GrR S0 w g)(h0:S.chkG g.m g.ids g.ops=0)(hl1:l.length=g.m)(hl2:flatI l=g.ids)(hi:0≤i∧i<g.m):
    Calls prog 49 #[.int .i64 i, .pointer (some ⟨b6,0,none⟩), .pointer (some ⟨b1,0,none⟩), .pointer (some ⟨b5,0,none⟩)] w (Ret w fun v _=>v= .bool (decide (rdX (S.prS g.m g.ids g.ops) rd i.toNat))):=by
  have G0:=G.ops;have hl:=G.len;have hcp:=G.cap;obtain⟨_,hmn,_,hr,ho,_⟩:=S.chkG_zero.1 h0;have hy:(dnB g.m rd)[i.toNat]? =some (decide (i.toNat∈rd)):=dnB_get rd (by omega);obtain⟨z,hz⟩:=G0.ex (i:=i) (by omega);have R:=G.op hz;have R0:=R.row;have h40:=R.ok.n;have hzo:=GrA.opAt hz;have hoi:=ho i.toNat (by omega);rw[hzo]at hoi;have hP:∀Q:Nat→Prop,(∀p∈S.prS g.m g.ids g.ops i.toNat,Q p)↔∀j,j<z.o.n→Q (S.ixS g.m g.ids (S.idAt z.o.ids j)):=fun Q=>by
    unfold S.prS;rw[hzo];exact⟨fun h j hj=>h _ (List.mem_map.2 ⟨j,List.mem_range.2 hj,rfl⟩),fun h p hp=>by obtain⟨j,hj,rfl⟩:=List.mem_map.1 hp;exact h j (List.mem_range.1 hj)⟩
  have hQ:(∀j,j<z.o.n→(dnB g.m rd).getD (S.ixS g.m g.ids (S.idAt z.o.ids j)) false=true)↔∀p∈S.prS g.m g.ids g.ops i.toNat,p∈rd:=by
    rw[hP];refine forall_congr' fun j=>forall_congr' fun hj=>?_
    rw[List.getD_eq_getElem?_getD,dnB_get rd (S.ix_in (hoi j hj)).1];exact decide_eq_true_iff
  refine J.enter 18 func49 rfl rfl ?_;refine run ?_;refine J.ldOq hB6 rfl ?_;refine run ?_;by_cases hd:i.toNat∈rd
  · rw[decide_eq_true hd]
    refine run ?_;rw[show decide (rdX (S.prS g.m g.ids g.ops) rd i.toNat)=false from decide_eq_false fun h=>h.1 hd];exact J.fin rfl
  · rw[decide_eq_false hd]
    refine run ?_;refine J.ldOq hB1 rfl ?_;refine run ?_;refine J.fn rfl rfl rfl ?_;refine run ?_;refine J.callp rfl rfl (fun w' M=>hasOrd z.pa z.o.n z.pc z.o.ids b6 b5 bd bm g.m T6 T5 g.ids l (dnB g.m rd) w' (hB6.ext M.ext) (hB5.ext M.ext) (D.ext M.ext) (hM.ext M.ext) (R0.ext M.ext) hl1 hl2 hr hoi (by omega) (by omega)) ?_;refine run ?_;refine J.fin (congrArg _ ?_);rw[Bool.eq_iff_iff];simpa [rdX,hd]using hQ
instance:Inf prog 110 1 8 [.map none]:=⟨TI.of (v:= .map none) (by kernel_rfl) rfl⟩
instance:Siz prog 110 1:=⟨by kernel_rfl⟩
instance:Inf prog 112 1 24 [.slice none 0 0]:=⟨TI.of (v:= .slice none 0 0) (by kernel_rfl) rfl⟩
instance:Siz prog 112 1:=⟨by kernel_rfl⟩
theorem rdX_ex{g:S.PG}(hg:g.fine){l:List Nat}(O:S.OrdX g l)(hl:l.length<g.m):∃r,r<g.m∧rdX (S.prS g.m g.ids g.ops) l r:=by
  apply Classical.byContradiction;intro h;have:=S.order_full hg O.nd O.lt O.sq fun i hi hp=>Classical.byContradiction fun hn=>h ⟨i,hi,hn,hp⟩;omega
theorem OrdX.snoc{g:S.PG}{l:List Nat}(O:S.OrdX g l){r:Nat}(hr:r<g.m)(h:rdX (S.prS g.m g.ids g.ops) l r):S.OrdX g (l++[r]) where
  nd := List.nodup_append.2 ⟨O.nd, by simp, fun a ha b hb e => by
    obtain rfl := List.mem_singleton.1 hb
    exact h.1 (e ▸ ha)⟩
  lt:=fun x hx=>(List.mem_append.1 hx).elim (O.lt x) fun hx=>by
    obtain rfl:=List.mem_singleton.1 hx;exact hr
  sq:=O.sq.snoc (d:=l.length) fun p hp=>by rw[List.take_length];exact h.2 p hp
theorem OrdX.nil(g:S.PG):S.OrdX g []:=⟨List.nodup_nil,fun x hx=>(by cases hx),fun i hi=>absurd hi (Nat.not_lt_zero _)⟩
structure OrA where
  (l:List Nat)(n:Nat)(a:Option Addr)(c:Nat)
theorem ancOrder{S0:Nat→Prop}(g:GrA)(TK:TypeId)(w:World)(K0:Kst w TK)(G:GrR S0 w g)(h0:S.chkG g.m g.ids g.ops=0):
    Calls prog 16 #[.agg (grC g).toArray] w (Gv w (fun q:OrA=> .tuple #[.slice q.a g.m q.c, .int .i64 0]) (fun q=>[.wown 23 .u8 32 q.a g.m q.c (S.osX g.P q.l)]) fun q=>S.OrdX g.P q.l∧q.l.length=g.m):=by
  have D0:=G.ids;have hl:=G.len;have hcp:=G.cap;obtain⟨_,hmn,_,hr,ho,_⟩:=S.chkG_zero.1 h0;have F:g.P.fine:=(S.chk_fine (g:=g.P) D0.len).1 h0;obtain⟨l,hl1,hl2⟩:=chunks g.m g.ids D0.len;have GI:=wrow_grow hl2 hl1 D0;refine J.enter 45 func16 rfl rfl ?_;refine run ?_;refine J.box rfl rfl rfl fun b1=>?_
  refine run ?_;refine J.callp rfl rfl (fun w' M=>(by have:=dagCheck g TK w' (K0.ext M.ext) (G.ext M.ext);rwa[h0]at this)) ?_;refine run ?_;refine J.call rfl rfl (fun w' M=>ancPlaces g l w' (GI.ext M.ext) hr hl2 (by omega)) fun bm _=>?_
  refine run ?_;refine J.alloc rfl fun b5=>?_
  refine run ?_;refine J.mkG boC false (fun _=>rfl) rfl rfl rfl rfl fun bd=>?_
  rw[←dnB_first];refine run ?_;refine J.alloc rfl fun b6=>?_
  refine run ?_;refine J.fn (fs:=[]) (us:=[.pointer (some ⟨b6,0,none⟩), .pointer (some ⟨b1,0,none⟩), .pointer (some ⟨b5,0,none⟩)]) rfl rfl rfl ?_;refine run ?_;refine J.nilWo 23 .u8 32 ?_;refine J.loop (A:=OrA) (fun p=>[(8, .slice p.a p.n p.c),(25, .int .i64 (p.n:Nat))]) [9,26,27,28,29,30,31,32,33,34,35,36,37,38,39,40,41,42,43,44] (fun p=>[.wown 23 .u8 32 p.a p.n p.c (S.osX g.P p.l), .blk b6 [.slice (some ⟨bd,0,none⟩) g.m g.m] 112, .gown boC 1 4 (some ⟨bd,0,none⟩) g.m g.m (dnB g.m p.l), .blk b5 [.map (some bm)] 110,mpiE bm l, .blk b1 (grC g) 65]) (fun p=>(p.n=p.l.length∧p.n≤g.m)∧S.OrdX g.P p.l) (fun p=>g.m - p.n) ⟨[],0,none,0⟩ (by kernel_rfl) ⟨⟨rfl,Nat.zero_le _⟩,OrdX.nil g.P⟩ (fun p j hI=>?_);obtain⟨rd,rn,oa,oc⟩:=p;obtain⟨⟨hn,hp⟩,O⟩:=hI;dsimp only at hn hp O⊢;refine run ?_;refine J.ifd rfl (fun c1=>?_) (fun c1=>?_)
  · obtain⟨r,hr1,hr2⟩:=rdX_ex F O (show rd.length<g.P.m from by show rd.length<g.m;omega)
    have hr1:r<g.m:=hr1;have hr2:rdX (S.prS g.m g.ids g.ops) rd r:=hr2;refine run ?_;refine J.loopS (A:=Int) (fun i=>[(9, .int .i64 i)]) [27,28,29,30,31,32] (fun i=>0≤i∧i.toNat≤r) (fun i=>r - i.toNat) 0 (by kernel_rfl) ⟨by decide,Nat.zero_le _⟩ (fun i j2 hi=>?_);refine run ?_;refine J.callvp rfl rfl rfl (fun w' M=>(RG.own' (a:=some ⟨bd,0,none⟩) w' M).elim fun _ k0=>ordP1 g i rd b6 b1 b5 bd bm _ _ _ l w' (blkC b6 M) (blkC b1 M) (blkC b5 M) k0 (mpiC bm M) (G.ext M.ext) h0 hl1 hl2 ⟨by omega,by omega⟩) ?_;refine run ?_;rw[←decide_not];refine J.ifd rfl (fun c2=>?_) (fun c2=>?_)
    · have hne:i.toNat≠r:=fun e=>c2 (e▸hr2)
      refine run ?_;exact J.nextS (i+1) ⟨rfl,trivial⟩ (by kernel_rfl) ⟨by omega,by omega⟩ (by omega)
    have c2:rdX (S.prS g.m g.ids g.ops) rd i.toNat:=Classical.not_not.1 c2;have him:i.toNat<g.m:=by omega
    have hA:Arr .u8 32 (elt 32 g.ids i.toNat):=D0.elt_arr (by omega);have hos:S.osX g.P rd++elt 32 g.ids i.toNat=S.osX g.P (rd++[i.toNat]):=(S.osX_snoc g.P rd i.toNat).symm;have hlen:(rd++[i.toNat]).length=rd.length+1:=by rw[List.length_append];rfl
    refine run ?_;refine J.stG1 rfl rfl (q:=true) rfl ?_;rw[dnB_set rd him];refine run ?_;refine J.b1W rfl rfl hA fun bb=>?_
    refine run ?_;refine J.apW rfl rfl RW.own' fun a' c'=>?_
    rw[hos];refine run ?_;exact J.next ⟨rd++[i.toNat],rn+1,a',c'⟩ ⟨rfl,rfl,trivial⟩ (by kernel_rfl) ⟨⟨by dsimp only;omega,by dsimp only;omega⟩,OrdX.snoc (g:=g.P) O him c2⟩ (by dsimp only;omega)
  obtain rfl:rn=g.m:=by omega
  refine run ?_;exact J.finG ⟨rd,g.m,oa,oc⟩ rfl ⟨O,hn.symm⟩ sb
instance:Ents prog 104:=⟨.mk func104 (by kernel_rfl) rfl⟩
instance:Ents prog 16:=⟨.mk func16 (by kernel_rfl) rfl⟩
theorem ancLook{S0:Nat→Prop}(g:GrA)(x:List Int)(TK:TypeId)(w:World)(K0:Kst w TK)(G:GrR S0 w g)(h0:S.chkG g.m g.ids g.ops=0)(hx:Arr .u8 32 x)(hin:S.inS g.m g.ids x):
    Calls prog 104 #[.agg (grC g).toArray, .agg (ints .u8 x).toArray] w (Ret w fun v _=>v= .tuple #[.int .i64 (S.ixS g.m g.ids x:Nat), .int .i64 0]):=by
  have D0:=G.ids;have hcp:=G.cap;obtain⟨_,_,_,hr,_,_⟩:=S.chkG_zero.1 h0;refine J.enter 22 func104 rfl rfl ?_;refine run ?_;refine J.box rfl rfl rfl fun b1=>?_
  refine J.box rfl rfl rfl fun b2=>?_
  refine run ?_;refine J.callp rfl rfl (fun w' M=>(by have:=dagCheck g TK w' (K0.ext M.ext) (G.ext M.ext);rwa[h0]at this)) ?_;refine run ?_
  refine J.callp rfl rfl (fun w' M => (by
    have := bsID g.ia g.m g.ic g.ids x w' (D0.ext M.ext) hx hr (by omega)
    rwa [decide_eq_true hin, S.spotS_ix hr hin] at this)) ?_
  refine run ?_;exact J.fin rfl
def lsD(n:Nat)(d:Nat→Nat):List Int:=(List.range n).map fun i=>((d i:Nat):Int)
theorem lsD_len(n:Nat)(d:Nat→Nat):(lsD n d).length=n:=by simp[lsD]
theorem lsD_get{n i:Nat}(d:Nat→Nat)(h:i<n):(lsD n d)[((i:Nat):Int).toNat]? =some ((d i:Nat):Int):=by
  unfold lsD;rw[Int.toNat_natCast,List.getElem?_map,List.getElem?_range h];rfl
theorem lsD_congr{n:Nat}{d e:Nat→Nat}(h:∀i,d i=e i):lsD n d=lsD n e:=by rw[funext h]
theorem lsD_zero(n:Nat):lsD n (fun _=>0)=List.replicate n 0:=by
  unfold lsD;rw[List.map_const',List.length_range];rfl
theorem lsD_set{n i:Nat}(d:Nat→Nat)(v:Nat)(h:i<n):(lsD n d).set i ((v:Nat):Int)=lsD n fun y=>if y=i then v else d y:=by
  apply List.ext_getElem?;intro j;rw[List.getElem?_set];by_cases c:i=j
  · subst c
    have:=lsD_get (fun y=>if y=i then v else d y) h;rw[Int.toNat_natCast]at this;rw[if_pos rfl,if_pos (by rw[lsD_len];exact h),this,if_pos rfl]
  · rw[if_neg c]
    by_cases hj:j<n
    · have h1:=lsD_get (fun y=>if y=i then v else d y) hj
      have h2:=lsD_get d hj;rw[Int.toNat_natCast]at h1 h2;rw[h1,h2,if_neg (Ne.symm c)]
    · rw[List.getElem?_eq_none (by rw[lsD_len];omega),List.getElem?_eq_none (by rw[lsD_len];omega)]
def dpI(P:Nat→List Nat)(r:List Nat)(x j:Nat):Nat→Nat:=fun y=>if y=x then S.mxX (S.dpL P r) ((P x).take j)else S.dpL P r y
theorem dpI_first{P:Nat→List Nat}{r:List Nat}{x:Nat}(hx:x∉r)(y:Nat):dpI P r x 0 y=S.dpL P r y:=by
  unfold dpI;split
  · rename_i e
    rw[e,S.dpL_out hx];rfl
  · rfl
theorem dpI_last{P:Nat→List Nat}{r:List Nat}{x:Nat}(y:Nat):dpI P r x (P x).length y=S.dpL P (r++[x]) y:=by
  unfold dpI;rw[S.dpL_snoc,List.take_length]
theorem dpI_next{P:Nat→List Nat}{r:List Nat}{x j p:Nat}(hj:(P x)[j]? =some p)(hx:x∉r)(hp:p∈r)(y:Nat):(if y=x then max (dpI P r x j x) (dpI P r x j p+1)else dpI P r x j y)=dpI P r x (j+1) y:=by
  have hne:¬p=x:=fun e=>hx (e▸hp);unfold dpI;rw[if_pos rfl,if_neg hne,List.take_add_one,hj];unfold S.mxX;rw[Option.toList_some,List.foldl_append];split
  · rfl
  · rfl
theorem dpX_le(P:Nat→List Nat):∀(r:List Nat) (y:Nat),S.dpX P r y≤r.length
  |[],y=>Nat.le_refl _
  |x::r,y=>by
    rw[S.dpX,List.length_cons];split
    · exact S.mxX_le (Nat.zero_le _) fun p _=>Nat.succ_le_succ (dpX_le P r p)
    · exact Nat.le_succ_of_le (dpX_le P r y)
theorem dpI_le(P:Nat→List Nat)(r:List Nat)(x j y:Nat):dpI P r x j y≤r.length+1:=by
  have h:∀y,S.dpL P r y≤r.length:=fun y=>by
    have:=dpX_le P r.reverse y;rwa[List.length_reverse]at this
  unfold dpI;split
  · exact S.mxX_le (Nat.zero_le _) fun p _=>Nat.succ_le_succ (h p)
  · exact Nat.le_succ_of_le (h y)
theorem ancDepth{S0:Nat→Prop}(g:GrA)(x:List Int)(TK:TypeId)(w:World)(K0:Kst w TK)(G:GrR S0 w g)(h0:S.chkG g.m g.ids g.ops=0)(hx:Arr .u8 32 x)(hin:S.inS g.m g.ids x):
    Calls prog 58 #[.agg (grC g).toArray, .agg (ints .u8 x).toArray] w (Gv w (fun n:Nat=> .tuple #[.int .i64 (n:Nat), .int .i64 0]) (fun _=>[]) fun n=>∃d,S.IsDp (S.prS g.m g.ids g.ops) g.m d∧n=d (S.ixS g.m g.ids x)):=by
  have D0:=G.ids;have G0:=G.ops;have hl:=G.len;have hcp:=G.cap;obtain⟨_,hmn,_,hr,ho,_⟩:=S.chkG_zero.1 h0;have F:g.P.fine:=(S.chk_fine (g:=g.P) D0.len).1 h0;obtain⟨l,hl1,hl2⟩:=chunks g.m g.ids D0.len;have GI:=wrow_grow hl2 hl1 D0;have hix:=S.ix_in hin;obtain⟨P,hP⟩:=ex (S.prS g.m g.ids g.ops);rw[←hP];refine J.enter 80 func58 rfl rfl ?_;refine run ?_;refine J.box rfl rfl rfl fun b1=>?_
  refine J.box rfl rfl rfl fun b2=>?_
  refine run ?_;refine J.callp rfl rfl (fun w' M=>ancLook g x TK w' (K0.ext M.ext) (G.ext M.ext) h0 hx hin) ?_;refine run ?_;refine J.call rfl rfl (fun w' M=>ancPlaces g l w' (GI.ext M.ext) hr hl2 (by omega)) fun bm _=>?_
  refine run ?_;refine J.call rfl rfl (fun w' M=>ancOrder g TK w' (K0.ext M.ext) (G.ext M.ext) h0) fun q hq=>?_
  obtain⟨rd,rn,oa,oc⟩:=q;obtain⟨O,hrl⟩:=hq;dsimp only at O hrl⊢;have hP0:S.prS g.P.m g.P.ids g.P.ops=P:=hP.symm;have hsq:=O.sq;rw[hP0]at hsq;have hlt:∀y∈rd,y<g.m:=O.lt;refine run ?_;refine J.mkG inC 0 (fun _=>rfl) rfl rfl rfl rfl fun bd=>?_
  rw[←lsD_zero];refine J.re (.gown inC 1 3 (some ⟨bd,0,none⟩) g.m g.m (lsD g.m fun _=>0)) (.gown inC 1 3 (some ⟨bd,0,none⟩) g.m g.m (lsD g.m (S.dpL P (rd.take 0)))) (fun _ _ h=>h) ?_;refine run ?_;refine J.loop (A:=Nat) (fun k=>[(40, .int .i64 (k:Nat))]) [12,14,41,42,43,44,45,46,47,48,49,50,51,52,53,54,55,56,57,58,59,60,61,62,63,64,65,66,67,68,69,70,71,72,73,74,75,76,77] (fun k=>[.gown inC 1 3 (some ⟨bd,0,none⟩) g.m g.m (lsD g.m (S.dpL P (rd.take k))), .wown 23 .u8 32 oa g.m oc (S.osX g.P rd),mpiE bm l, .blk b2 (ints .u8 x) 23, .blk b1 (grC g) 65]) (fun k=>k≤g.m) (fun k=>g.m - k) 0 (by kernel_rfl) (Nat.zero_le _) (fun k j hk=>?_);refine run ?_;refine J.ifd rfl (fun c1=>?_) (fun c1=>?_)
  · have hkm:k<g.m:=by omega
    obtain⟨xi,hxi⟩:=ex (rd.getD k 0);have hxm:xi<g.m:=hxi▸hlt _ (S.getD_mem (by omega));have hxn:xi∉rd.take k:=hxi▸S.getD_notin O.nd (by omega);have he:elt 32 (S.osX g.P rd) k=S.idAt g.ids xi:=by rw[hxi];exact S.osX_at F.good hlt (by omega)
    have hA:Arr .u8 32 (S.idAt g.ids xi):=D0.elt_arr (by omega);have hfx:l.findIdx? (fun u=>decide (S.idAt g.ids xi=u.xs))=some xi:=by
      have:=find_ix hl1 hl2 hr (x:=S.idAt g.ids xi) ⟨xi,hxm,rfl⟩;rwa[S.ix_eq hr hxm]at this
    obtain⟨z,hz⟩:=G0.ex (i:=((xi:Nat):Int)) (by omega);have R:=G.op hz;have R0:=R.row;have h40:=R.ok.n;have hz':=hz;rw[Int.toNat_natCast]at hz';have hzo:=GrA.opAt hz';have hoi:=ho xi (by omega);rw[hzo]at hoi;have hpl:(P xi).length=z.o.n:=by rw[hP,S.prS_len,hzo]
    refine run ?_;rw[Int.toNat_natCast,he];refine J.alloc rfl fun b3=>?_
    refine run ?_;refine J.regionX [(0, .q),(1, .q),(2, .q),(3, .q),(4, .q),(5, .q),(6, .q),(7, .q),(8, .q),(9, .q)] mixed (by kernel_rfl) ?_;refine run ?_;refine J.lookM (q:=⟨S.idAt g.ids xi,hA.1⟩) rfl rfl hfx ?_;refine run ?_;refine J.re (.gown inC 1 3 (some ⟨bd,0,none⟩) g.m g.m (lsD g.m (S.dpL P (rd.take k)))) (.gown inC 1 3 (some ⟨bd,0,none⟩) g.m g.m (lsD g.m (dpI P (rd.take k) xi 0))) (fun _ _ h=>by rw[lsD_congr (dpI_first hxn)];exact h) ?_;refine J.loop (A:=Nat) (fun i=>[(53, .int .i64 (i:Nat))]) [14,54,55,56,57,58,59,60,61,62,63,64,65,66,67,68,69,70,71,72,73,74,75,76] (fun i=>[.blk b3 (ints .u8 (S.idAt g.ids xi)) 23, .gown inC 1 3 (some ⟨bd,0,none⟩) g.m g.m (lsD g.m (dpI P (rd.take k) xi i)), .wown 23 .u8 32 oa g.m oc (S.osX g.P rd),mpiE bm l, .blk b2 (ints .u8 x) 23, .blk b1 (grC g) 65]) (fun i=>i≤z.o.n) (fun i=>z.o.n - i) 0 (by kernel_rfl) (Nat.zero_le _) (fun i j2 hi=>?_);refine run ?_;refine J.ifd rfl (fun c2=>?_) (fun c2=>?_)
    · have hAi:Arr .u8 32 (elt 32 z.o.ids i):=R0.elt_arr (by omega)
      have hini:S.inS g.m g.ids (elt 32 z.o.ids i):=hoi i (by omega);have hixi:=S.ix_in hini;have hfi:=find_ix hl1 hl2 hr hini;have hPi:(P xi)[i]? =some (S.ixS g.m g.ids (elt 32 z.o.ids i)):=by
        have:=S.prS_get g.m g.ids g.ops xi i (by rw[hzo];omega);rw[←hP,hzo]at this;rw[List.getElem?_eq_getElem (by omega)];rw[List.getD_eq_getElem?_getD,List.getElem?_eq_getElem (by omega),Option.getD_some]at this;rw[this];rfl
      obtain⟨p,hp⟩:=ex (S.ixS g.m g.ids (elt 32 z.o.ids i));rw[←hp]at hixi hfi hPi;have hpr:p∈rd.take k:=hsq k (by omega) p (by rw[←hxi];exact List.mem_of_getElem? hPi);obtain⟨d,hd⟩:=ex (dpI P (rd.take k) xi i);have hnext:=dpI_next hPi hxn hpr;rw[←hd]at hnext;rw[←hd];have hb1:d xi≤(rd.take k).length+1:=hd▸dpI_le P (rd.take k) xi i xi;have hb2:d p≤(rd.take k).length+1:=hd▸dpI_le P (rd.take k) xi i p;have htl:(rd.take k).length≤70:=by rw[List.length_take];omega
      have hg1:=lsD_get d hxm;have hg2:=lsD_get d hixi.1;refine run ?_;rw[Int.toNat_natCast];refine J.alloc rfl fun b4=>?_
      refine run ?_;refine J.regionX [(0, .q),(1, .q),(2, .q),(3, .q),(4, .q),(5, .q),(6, .q),(7, .q),(8, .q),(9, .q),(10, .q),(11, .q),(12, .q),(13, .q),(14, .q),(15, .q),(16, .q),(17, .q),(18, .q),(19, .g)] mixed (by kernel_rfl) ?_;refine run ?_;refine J.lookM (q:=⟨S.idAt g.ids xi,hA.1⟩) rfl rfl hfx ?_;refine run ?_;refine J.lookM (q:=⟨S.idAt g.ids xi,hA.1⟩) rfl rfl hfx ?_;refine run ?_;refine J.lookM (q:=⟨elt 32 z.o.ids i,hAi.1⟩) rfl rfl hfi ?_;refine run ?_;refine J.stG1 (i:=((xi:Nat):Int)) (q:=if((d p:Nat):Int)+1>((d xi:Nat):Int)then((d p:Nat):Int)+1 else((d xi:Nat):Int)) rfl rfl rfl ?_;rw[Int.toNat_natCast xi,show(if((d p:Nat):Int)+1>((d xi:Nat):Int)then((d p:Nat):Int)+1 else((d xi:Nat):Int))=((max (d xi) (d p+1):Nat):Int)from by split<;>omega,lsD_set _ _ hxm,lsD_congr hnext];refine run ?_;refine J.drop (E:=[.blk b3 (ints .u8 (S.idAt g.ids xi)) 23, .gown inC 1 3 (some ⟨bd,0,none⟩) g.m g.m (lsD g.m (dpI P (rd.take k) xi (i+1))), .wown 23 .u8 32 oa g.m oc (S.osX g.P rd),mpiE bm l, .blk b2 (ints .u8 x) 23, .blk b1 (grC g) 65]) sb ?_;exact J.next (i+1) ⟨rfl,trivial⟩ (by kernel_rfl) (by omega) (by omega)
    obtain rfl:i=z.o.n:=by omega
    have htk:rd.take (k+1)=rd.take k++[xi]:=by rw[S.take_snoc_get rd k (by omega),←hxi]
    have hlast:=dpI_last (P:=P) (r:=rd.take k) (x:=xi);rw[hpl,←htk]at hlast;rw[lsD_congr hlast];refine run ?_;refine J.drop (E:=[.gown inC 1 3 (some ⟨bd,0,none⟩) g.m g.m (lsD g.m (S.dpL P (rd.take (k+1)))), .wown 23 .u8 32 oa g.m oc (S.osX g.P rd),mpiE bm l, .blk b2 (ints .u8 x) 23, .blk b1 (grC g) 65]) sb ?_;exact J.next (k+1) ⟨rfl,trivial⟩ (by kernel_rfl) (by omega) (by omega)
  obtain rfl:k=g.m:=by omega
  have htk:rd.take g.m=rd:=List.take_of_length_le (by omega);rw[htk];have hg:=lsD_get (n:=g.m) (S.dpL P rd) hix.1;refine run ?_;exact J.finG (S.dpL P rd (S.ixS g.m g.ids x)) rfl ⟨S.dpL P rd,S.dpL_is O.nd hsq (fun i hi=>S.nodup_all O.nd hlt (by omega) hi),rfl⟩ sb
instance:Ents prog 112:=⟨.mk func112 (by kernel_rfl) rfl⟩
theorem find_no{m:Nat}{ids x:List Int}{l:List IdV}(hl:l.length=m)(he:flatI l=ids)(hx:¬S.inS m ids x):l.findIdx? (fun u=>decide (x=u.xs))=none:=by
  rw[List.findIdx?_eq_none_iff];intro u hu;obtain⟨i,hi,rfl⟩:=List.getElem_of_mem hu;exact decide_eq_false fun h=>hx ⟨i,by omega,by rw[idv_at he (List.getElem?_eq_getElem hi),h]⟩
section
variable{P:Program}{w:World}{k e el t b:Nat}
theorem run_look2{x:IdV}{l:List IdV}{o:Option Nat}(ht:P.underlying t=some (.map k el))(hel:(P.info? el).map (fun i=>i.zero)=some (some (.int .i64 0)))(hu:P.underlying k=some (.array 32 e))(he:P.underlying e=some (.int .u8))(hs:P.cellsOf e=1)(hm:Mpi w b l)(hx:l.findIdx? (fun y=>decide (x.xs=y.xs))=o):
    (Instr.lookup t (.map (some b)) (.agg (idC x).toArray) true).run P w= .ok (.tuple #[.int .i64 (o.getD 0:Nat), .bool o.isSome]) w:=by
  subst hx;obtain⟨es,c,h1,h2⟩:=hm;have hf:=run_findKey' (P:=P) (w:=w) (x:=x) hu he hs h2;have hck:=run_ckArr (P:=P) (w:=w) hu he hs x.h es.isEmpty 9998;cases ho:l.findIdx? (fun y=>decide (x.xs=y.xs))with
  |some i=>
    rw[ho]at hf;simp[Instr.lookup,run_underlying ht,MapKept.run_getObj_map h1,hck,hf,Result.andThen]
  |none=>
    rw[ho]at hf;obtain⟨inf,i1,i2⟩:=Option.map_eq_some_iff.1 hel;have hz1:(zeroValue el).run P w= .ok (.int .i64 0) w:=by simp[zeroValue,typeInfo,i1,i2]
    simp[Instr.lookup,run_underlying ht,MapKept.run_getObj_map h1,hck,hf,hz1,Result.andThen]
end
section
variable{S0:Nat→Prop}{w0:World}{L:List Ent}{P:Program}{ops:Array Oper}{K:List Value→World→Prop}{rest:List (Oper×Kd)}{l:List Value}{m:Md}{d:Tmp}{ty:TypeId}{pos:String}{af:Array Edge}{kd:Kd}{t k e el:TypeId}{x y z:Operand}
theorem J.lookM2q{l':List Value}{b:Nat}{o:Option Nat}{lst:List IdV}{q:IdV}[U:Und P t (.map k el)][U2:Und P k (.array 32 e)][U3:Und P e (.int .u8)][Z:Siz P e 1](hM:Mpi w0 b lst)(hx:ev l x= .map (some b))(hy:ev l y= .agg (idC q).toArray)(hi:lst.findIdx? (fun u=>decide (q.xs=u.xs))=o)(hel:(P.info? el).map (fun i=>i.zero)=some (some (.int .i64 0)))
    (kk:J no w0 L (RY no w0 m P ops K rest l'))(hl:l.set d (.tuple #[.int .i64 (o.getD 0:Nat), .bool o.isSome])=l':=by dsimp only[List.set]):
    J no w0 L (RY no w0 m P ops K ((⟨some d, .lookup t x y true,ty,pos,af,none⟩, .q)::rest) l):=
  J.val (fun w M => by
    have hr := run_look2 (P := P) (w := w) (x := q) U.h hel U2.h U3.h Z.h (hM.ext M.ext) hi
    simp [execOp, hx, hy, hr, Result.andThen]) kk hl
end
def kpM(m:Nat)(ids:List Int)(y:IdV):Bool:=decide (¬S.inS m ids y.xs)
theorem kpm_filter(m:Nat)(is:List Int){l:List IdV}{hs:List Int}(he:flatI l=hs):∀k,k≤l.length→S.selF (S.absF m is hs) hs k=flatI ((l.take k).filter (kpM m is))∧S.numF (S.absF m is hs) k=((l.take k).filter (kpM m is)).length
  |0,_=>⟨rfl,rfl⟩
  |k+1,hk=>by
    obtain⟨h1,h2⟩:=kpm_filter m is he k (by omega);obtain⟨y,hy⟩:∃y,l[k]? =some y:=⟨_,List.getElem?_eq_getElem (by omega)⟩
    have hi:=idv_at he hy;have hb:S.absF m is hs k=kpM m is y:=by unfold S.absF kpM;rw[hi]
    rw[S.selF,S.numF,h1,h2,hb,hi,List.take_add_one,hy,Option.toList_some,List.filter_append];cases h:kpM m is y with
    |true=>rw[List.filter_cons_of_pos h,List.filter_nil];exact⟨by unfold flatI;simp,by simp⟩
    |false=>rw[List.filter_cons_of_neg (by rw[h];decide),List.filter_nil];exact⟨by simp,by simp⟩
theorem ancMis1(x:List Int)(b bm m:Nat)(T:TypeId)(ids:List Int)(ll:List IdV)(w:World)(hB:Blk w b [.map (some bm)] T)(hM:Mpi w bm ll)(hx:Arr .u8 32 x)(hq1:ll.length=m)(hq2:flatI ll=ids)(hr:S.Rising m ids):
    Calls prog 112 #[.agg (ints .u8 x).toArray, .pointer (some ⟨b,0,none⟩)] w (Ret w fun v _=>v= .bool (decide (S.inS m ids x))):=by
  refine J.enter 11 func112 rfl rfl ?_;refine run ?_;refine J.box rfl rfl rfl fun b1=>?_
  refine run ?_;refine J.ldOq hB rfl ?_;refine run ?_;by_cases hin:S.inS m ids x
  · refine J.lookM2q (q:=⟨x,hx.1⟩) hM rfl rfl (find_ix hq1 hq2 hr hin) (by kernel_rfl) ?_
    refine run ?_;exact J.fin (congrArg _ (decide_eq_true hin).symm)
  · refine J.lookM2q (q:=⟨x,hx.1⟩) hM rfl rfl (find_no hq1 hq2 hin) (by kernel_rfl) ?_
    refine run ?_;exact J.fin (congrArg _ (decide_eq_false hin).symm)
theorem idxMis{S2:Nat→Prop}(a:Option Addr)(n c:Nat)(l:List IdV)(b bm m:Nat)(T:TypeId)(ids:List Int)(ll:List IdV)(w:World)(D0:GRow idC 32 S2 w a n l)(hn:n≤1000)(hA:∀y∈l,Arr .u8 32 y.xs)(hB:Blk w b [.map (some bm)] T)(hM:Mpi w bm ll)(hq1:ll.length=m)(hq2:flatI ll=ids)(hr:S.Rising m ids):
    Calls prog 90 #[.slice a n c, .func (.func 112) #[] #[.pointer (some ⟨b,0,none⟩)]] w (Gv w (fun r:Int=> .int .i64 r) (fun _=>[]) fun r=>(r= -1∧l.filter (kpM m ids)=l)∨∃i:Nat,r=(i:Nat)∧i<n∧(l.take (i+1)).filter (kpM m ids)=l.take i):=by
  have hl:=D0.len;refine J.enter 17 func90 rfl rfl ?_;refine run ?_;refine J.loopS (A:=Int) (fun p=>[(8, .int .i64 p)]) [4,5,9,10,11,12,13,14,15,16,17,18] (fun p=>(0≤p∧p≤n)∧(l.take p.toNat).filter (kpM m ids)=l.take p.toNat) (fun p=>n - p.toNat) 0 (by kernel_rfl) ⟨by omega,rfl⟩ (fun p j hI=>?_);obtain⟨h1,hI⟩:=hI;refine run ?_;refine J.ifd rfl (fun c1=>?_) (fun c1=>?_)
  · obtain⟨y,hy⟩:=D0.ex (i:=p) (by omega)
    have e:(l.take (p.toNat+1)).filter (kpM m ids)=l.take p.toNat++if kpM m ids y then [y]else []:=by
      rw[List.take_add_one,hy,Option.toList_some,List.filter_append,hI];cases h:kpM m ids y with
      |true=>rw[List.filter_cons_of_pos h];rfl
      |false=>rw[List.filter_cons_of_neg (by rw[h];decide)];rfl
    refine run ?_;refine J.ldGa (i:=p) (sz:=32) (off:=0) rfl (RG.arg D0) ?_ (q:=y) (hf:=idC_all y) (hn:=idC_len y);refine run ?_;refine J.callvp rfl rfl rfl (fun w' M=>ancMis1 y.xs b bm m T ids ll w' (hB.ext M.ext) (hM.ext M.ext) (hA y (List.mem_of_getElem? hy)) hq1 hq2 hr) ?_;refine run ?_;refine J.ifd rfl (fun c2=>?_) (fun c2=>?_)
    · refine run ?_
      refine J.finG p rfl (.inr ⟨p.toNat,by omega,by omega,?_⟩) (List.nil_sublist _);rw[e,show kpM m ids y=false from decide_eq_false (not_not_intro c2)];simp
    · refine run ?_
      refine J.nextS (p+1) ⟨rfl,trivial⟩ (by kernel_rfl) ⟨by omega,?_⟩ (by omega);rw[show(p+1).toNat=p.toNat+1 by omega,e,show kpM m ids y=true from decide_eq_true c2,List.take_add_one,hy];rfl
  refine run ?_;refine J.finG (-1) rfl (.inl ⟨rfl,?_⟩) (List.nil_sublist _);rwa[List.take_of_length_le (by omega)]at hI
theorem delMis(a:Option Addr)(n c:Nat)(l:List IdV)(b bm m:Nat)(T:TypeId)(ids:List Int)(ll:List IdV)(w:World)(hO:GOwn idC 32 0 w 23 a n c l)(hn:n≤1000)(hA:∀y∈l,Arr .u8 32 y.xs)(hB:Blk w b [.map (some bm)] T)(hM:Mpi w bm ll)(hq1:ll.length=m)(hq2:flatI ll=ids)(hr:S.Rising m ids)(hne:¬obk a=some b)(hne2:¬obk a=some bm):
    Calls prog 99 #[.slice a n c, .func (.func 112) #[] #[.pointer (some ⟨b,0,none⟩)]] w (Gw w idC 32 23 a (l.filter (kpM m ids))):=by
  have hlen:=hO.len;have hcn:=hO.capn;have hcm:=hO.own.cap.2;refine J.enterG 40 hO func99 rfl rfl ?_;refine run ?_;refine J.call rfl rfl (fun w' M=>(RG.own' (a:=a) w' M).elim fun _ k0=>idxMis a n c l b bm m T ids ll w' k0 hn hA (hB.pr M.pr hne) (hM.pr M.pr hne2) hq1 hq2 hr) fun r hrr=>?_
  refine run ?_;refine J.ife rfl (fun c1=>?_) (fun c1=>?_)
  · have hf:l.filter (kpM m ids)=l:=hrr.elim (fun h=>h.2) fun⟨i,h,_⟩=>by omega
    rw[hf];refine run ?_;exact J.finW rfl
  obtain⟨i,rfl,hi,hf⟩:∃i:Nat,r=(i:Nat)∧i<n∧(l.take (i+1)).filter (kpM m ids)=l.take i:=hrr.resolve_left fun h=>c1 h.1;obtain⟨g,rfl⟩:=hO.some (by omega);refine run ?_;refine J.loop (A:=DlA) (fun p=>[(5, .int .i64 (p.i:Nat)),(6, .int .i64 (p.j:Nat))]) [7,16,17,18,19,20,21,22,23,24,25,26,27,28,29,30,31,32,33,34,35] (fun p=>[.gown idC 32 23 (some ⟨g,0,none⟩) n c p.l]) (fun p=>p.i<p.j∧p.j≤n∧p.l.length=n∧p.l.take p.i=(l.take p.j).filter (kpM m ids)∧p.l.drop p.j=l.drop p.j) (fun p=>n - p.j) ⟨i,i+1,l⟩ (by kernel_rfl) ⟨Nat.lt_succ_self _,hi,hlen,hf.symm,rfl⟩ (fun p j hI=>?_);obtain⟨h1,h2,h3,h4,h5⟩:=hI;refine run ?_;refine J.ifd rfl (fun c2=>?_) (fun c2=>?_)
  · obtain⟨y,hy⟩:∃y,p.l[((p.j:Nat):Int).toNat]? =some y:=⟨_,List.getElem?_eq_getElem (by omega)⟩
    have hy':l[p.j]? =some y:=by
      have e:=congrArg (fun q:List IdV=>q[0]?) h5;simp only[List.getElem?_drop,Nat.add_zero]at e;rw[←e];rw[Int.toNat_natCast]at hy;exact hy
    have e:(l.take (p.j+1)).filter (kpM m ids)=p.l.take p.i++if kpM m ids y then [y]else []:=by
      rw[List.take_add_one,hy',Option.toList_some,List.filter_append,h4];cases h:kpM m ids y with
      |true=>rw[List.filter_cons_of_pos h];rfl
      |false=>rw[List.filter_cons_of_neg (by rw[h];decide)];rfl
    have ed:p.l.drop (p.j+1)=l.drop (p.j+1):=by
      have e:=congrArg (List.drop 1) h5;rwa[List.drop_drop,List.drop_drop]at e
    refine run ?_;refine J.ldGa (i:=((p.j:Nat):Int)) (sz:=32) (off:=0) rfl RG.own' ?_ (q:=y) (hf:=idC_all y) (hn:=idC_len y);refine run ?_;refine J.alloc rfl fun b4=>?_
    refine run ?_;refine J.callvp rfl rfl rfl (fun w' M=>ancMis1 y.xs b bm m T ids ll w' (hB.pr M.pr hne) (hM.pr M.pr hne2) (hA y (List.mem_of_getElem? hy')) hq1 hq2 hr) ?_;refine run ?_;refine J.ifnot rfl (fun c3=>?_) (fun c3=>?_)
    · have c3:=of_decide_eq_false c3
      refine run ?_;refine J.stG (f:=idC) (q:=y) rfl rfl rfl ?_ (hv:=ints_cellB _ _);refine run ?_;rw[Int.toNat_natCast];refine J.drop (E:=[.gown idC 32 23 (some ⟨g,0,none⟩) n c (p.l.set p.i y)]) sb ?_;refine J.next ⟨p.i+1,p.j+1,p.l.set p.i y⟩ ⟨rfl,rfl,trivial⟩ (by kernel_rfl) ⟨by dsimp only;omega,by dsimp only;omega,by dsimp only;rw[List.length_set];exact h3,?_,?_⟩ (by dsimp only;omega)
      · dsimp only
        rw[e,show kpM m ids y=true from decide_eq_true c3,if_pos rfl,List.take_add_one,List.getElem?_set,if_pos rfl,if_pos (by omega),Option.toList_some,List.take_set_of_le (Nat.le_refl _)]
      · dsimp only
        rw[List.drop_set_of_lt (by omega)];exact ed
    · have c3:=of_decide_eq_true c3
      refine run ?_;refine J.drop (E:=[.gown idC 32 23 (some ⟨g,0,none⟩) n c p.l]) sb ?_;refine J.next ⟨p.i,p.j+1,p.l⟩ ⟨rfl,rfl,trivial⟩ (by kernel_rfl) ⟨by dsimp only;omega,by dsimp only;omega,h3,?_,ed⟩ (by dsimp only;omega);dsimp only;rw[e,show kpM m ids y=false from decide_eq_false (not_not_intro c3)];simp
  obtain⟨pi,pj,pl⟩:=p;dsimp only at h1 h2 h3 h4 h5 c2⊢;obtain rfl:pj=n:=by omega
  rw[List.take_of_length_le (show l.length≤pj by omega)]at h4;have hfl:(l.filter (kpM m ids)).length=pi:=by rw[←h4,List.length_take];omega
  refine J.cur idC 32 23 g pj c pl fun cur hcur=>?_
  obtain⟨k1,k2,_,_,_⟩:=hcur;refine run ?_;refine J.clr (o:=pi*32) (q:=pj - pi) (show Value.slice (some ⟨g,0+((pi:Nat):Int).toNat*32,none⟩) (pj - ((pi:Nat):Int).toNat) (c - ((pi:Nat):Int).toNat)= .slice (some ⟨g,pi*32,none⟩) (pj - pi) (c - pi)from by rw[Int.toNat_natCast,Nat.zero_add]) (fun cs2 hcs2=>?_) (hfit:=by rw[k1];omega);obtain⟨k3,k4⟩:=hcs2;refine run ?_;refine J.ruc idC 32 23 g pi c (l.filter (kpM m ids)) idC_len (by rw[k3,k1]) (by rw[k4,←h4,←flat_take idC 32 idC_len,←k2,List.take_take,Nat.min_eq_left (by omega)]) (by omega) hcm hfl ?_;exact J.finW (a':=some ⟨g,0,none⟩) (n':=pi) (c':=c) (by exact sl3 rfl (by omega) rfl)
instance:Und prog 26 (.int .u64):=⟨underlying26⟩
instance:Und prog 9 .string:=⟨underlying9⟩
instance:Ents prog 161:=⟨.mk func161 (by kernel_rfl) rfl⟩
instance:Ents prog 179:=⟨.mk func179 (by kernel_rfl) rfl⟩
instance:Ents prog 153:=⟨.mk func153 (by kernel_rfl) rfl⟩
instance:Ents prog 154:=⟨.mk func154 (by kernel_rfl) rfl⟩
instance:Ents prog 113:=⟨.mk func113 (by kernel_rfl) rfl⟩
instance:Ents prog 114:=⟨.mk func114 (by kernel_rfl) rfl⟩
section
variable{S0:Nat→Prop}{w0:World}{L:List Ent}{P:Program}{ops:Array Oper}{K:List Value→World→Prop}{rest:List (Oper×Kd)}{l:List Value}{m:Md}{d:Tmp}{xt ty:TypeId}{pos:String}{af:Array Edge}{kd:Kd}{x y:Operand}{k:IntKind}{i:Int}{s:ByteArray}
theorem J.idxTb{l':Int→List Value}[U:Und P xt .string](hk:pureK kd=true)(hx:ev l x= .string s)(hy:ev l y= .int k i)(hi:0≤i∧i<13)(kk:∀v,(0≤v∧v<256)→J S0 w0 L (RY S0 w0 m P ops K rest (l' v)))(hs:Nat.ble 13 s.size=true:=by kernel_rfl)(hl:∀v,l.set d (.int .u8 v)=l' v:=by intro v;dsimp only[List.set]):
    J S0 w0 L (RY S0 w0 m P ops K ((⟨some d, .index xt x y,ty,pos,af,none⟩,kd)::rest) l):=
  J.pur hk (fun w=>D.indexStr hx hy U.h ⟨hi.1,by have:=Nat.le_of_ble_eq_true hs;omega⟩) (kk _ ((bys_bd s).get _)) (hl _)
end
theorem insSorted{S0:Nat→Prop}(a:Option Addr)(n c:Nat)(ids:List Int)(w:World)(D0:WRow .u8 32 S0 w a n ids)(hr:S.Rising n ids)(hn:n≤12):
    Calls prog 179 #[.slice a n c, .int .i64 0, .int .i64 (n:Nat), .func (.func 89) #[] #[]] w (Ret w fun v _=>v= .tuple #[]):=by
  have hl:=D0.len;refine J.enter 49 func179 rfl rfl ?_;refine run ?_;refine J.loopS (A:=Int) (fun p=>[(8, .int .i64 p)]) [9,12,13,14,15,16,17,18,19,20,21,22,23,24,25,26,27,28,29,30,31,32,33,34,35,36,37,38,39,40,41,42,43,44,45,46,47,48,49,50,51,52] (fun p=>1≤p) (fun p=>n - p.toNat) 1 (by kernel_rfl) (by decide) (fun p j hI=>?_);refine run ?_;refine J.ifd rfl (fun c1=>?_) (fun c1=>?_)
  · have h1:=D0.elt_arr (i:=p.toNat) (by omega)
    have h2:=D0.elt_arr (i:=(p - 1).toNat) (by omega);have hc:¬S.cmpS (S.idAt ids p.toNat) (S.idAt ids (p - 1).toNat)<0:=fun h=>by
      have:=S.rising_lt hr (p - 1).toNat p.toNat (by omega) (by omega);have h3:=S.cmpS_trans h this;rw[S.cmpS_self]at h3;exact absurd h3 (by decide)
    have hc:¬S.cmpS (elt 32 ids p.toNat) (elt 32 ids (p - 1).toNat)<0:=hc;refine run ?_;refine J.loopS (A:=Int) (fun q=>[(9, .int .i64 q)]) [18,19,20,21,22,23,24,25,26,27,28,29,30,31,32,33,34,35,36,37,38,39,40,41,42,43,44,45,46,47,48,49,50,51,52] (fun q=>q=p) (fun q=>0) p (by kernel_rfl) rfl (fun q j2 hq=>?_);obtain rfl:q=p:=hq;refine run ?_;refine J.regionX [(0, .q),(1, .q),(2, .q),(3, .q),(4, .q),(5, .q),(6, .q),(7, .q),(8, .q),(9, .q),(10, .q),(11, .q),(12, .q),(13, .q),(14, .e),(15, .q),(16, .q)] mixed (by kernel_rfl) ?_;refine run ?_;rw[show decide (q>(0:Int))=true from decide_eq_true (by omega)];refine run ?_;refine J.callvp rfl rfl rfl (fun w' M=>dcmp _ _ h1 h2 w') ?_;refine run ?_;rw[decide_eq_false hc];refine run ?_;exact J.nextS (q+1) ⟨rfl,trivial⟩ (by kernel_rfl) (by omega) (by omega)
  refine run ?_;exact J.fin rfl
theorem bitsLen64(x:Int)(hx:0≤x∧x<13)(w:World):Calls prog 161 #[.int .u64 x] w (Gv w (fun r:Int=> .int .i64 r) (fun _=>[]) fun _=>True):=by
  refine J.enter 24 func161 rfl rfl ?_;refine run ?_;refine J.ifd rfl (fun c=>by omega) (fun c1=>?_);refine run ?_;refine J.ifd rfl (fun c=>by omega) (fun c2=>?_);refine run ?_;refine J.ifd rfl (fun c=>by omega) (fun c3=>?_);refine run ?_;refine J.idxTb rfl rfl rfl hx fun v hv=>?_
  refine run ?_;exact J.finG _ rfl trivial sb
theorem bitsLen(x:Int)(hx:0≤x∧x<13)(w:World):Calls prog 154 #[.int .u64 x] w (Gv w (fun r:Int=> .int .i64 r) (fun _=>[]) fun _=>True):=by
  refine J.enter 7 func154 rfl rfl ?_;refine run ?_;refine J.call rfl rfl (fun w' M=>bitsLen64 x hx w') fun r _=>?_
  refine run ?_;exact J.finG r rfl trivial sb
theorem pdqSorted{S0:Nat→Prop}(a:Option Addr)(n c:Nat)(lim0:Int)(ids:List Int)(w:World)(D0:WRow .u8 32 S0 w a n ids)(hr:S.Rising n ids)(hn:n≤12):
    Calls prog 153 #[.slice a n c, .int .i64 0, .int .i64 (n:Nat), .int .i64 lim0, .func (.func 89) #[] #[]] w (Ret w fun v _=>v= .tuple #[]):=by
  refine J.enter 143 func153 rfl rfl ?_;refine run ?_;refine J.loopS (A:=Unit) (fun p=>[(1, .int .i64 0),(2, .int .i64 (n:Nat)),(3, .int .i64 lim0),(10, .bool true),(11, .bool true)]) [12,13,14,15,16,17,18,19,20,21,22,23,24,25,26,27,28,29,30,31,32,33,34,35,36,37,38,39,40,41,42,43,44,45,46,47,48,49,50,51,52,53,54,55,56,57,58,59,60,61,62,63,64,65,66,67,68,69,70,71,72,73,74,75,76,77,78,79,80,81,82,83,84,85,86,87,88,89,90,91,92,93,94,95,96,97,98,99,100,101,102,103,104,105,106,107,108,109,110,111,112,113,114,115,116,117,118,119,120,121,122,123,124,125,126,127,128,129,130,131,132,133,134,135,136,137,138,139,140,141,142,143,144,145,146,147] (fun p=>True) (fun p=>0) () (by kernel_rfl) trivial (fun p j hI=>?_);refine run ?_;refine J.ifd rfl (fun c1=>?_) (fun c1=>absurd (by omega) c1);refine run ?_;refine J.callp rfl rfl (fun w' M=>insSorted a n c ids w' (D0.ext M.ext) hr hn) ?_;refine run ?_;exact J.fin rfl
theorem sortSorted{S0:Nat→Prop}(a:Option Addr)(n c:Nat)(ids:List Int)(w:World)(D0:WRow .u8 32 S0 w a n ids)(hr:S.Rising n ids)(hn:n≤12):
    Calls prog 113 #[.slice a n c, .func (.func 89) #[] #[]] w (Ret w fun v _=>v= .tuple #[]):=by
  refine J.enter 12 func113 rfl rfl ?_;refine run ?_;refine J.call rfl rfl (fun w' M=>bitsLen (n:Nat) (by omega) w') fun r _=>?_
  refine run ?_;refine J.callp rfl rfl (fun w' M=>pdqSorted a n c r ids w' (D0.ext M.ext) hr hn) ?_;refine run ?_;exact J.fin rfl
theorem compSorted{S0:Nat→Prop}(a:Option Addr)(n c:Nat)(ids:List Int)(w:World)(D0:WRow .u8 32 S0 w a n ids)(hr:S.Rising n ids)(hn:n≤1000):
    Calls prog 114 #[.slice a n c] w (Ret w fun v _=>v= .slice a n c):=by
  have hl:=D0.len;refine J.enter 60 func114 rfl rfl ?_;refine run ?_;refine J.ifd rfl (fun c1=>?_) (fun c1=>?_)
  · refine run ?_
    exact J.fin rfl
  refine run ?_;refine J.loopS (A:=Int) (fun p=>[(3, .int .i64 p)]) [2,4,5,10,11,12,13,14,15,16,17,18,19,20,21,22,23,24,25,26,27,28,29,30,31,32,33,34,35,36,37,38,39,40,41,42,43,44,45,46,47,48,49,50,51,52,53,54,55,56,57,58,59] (fun p=>1≤p) (fun p=>n - p.toNat) 1 (by kernel_rfl) (by decide) (fun p j hI=>?_);refine run ?_;refine J.ifd rfl (fun c2=>?_) (fun c2=>?_)
  · have h1:=D0.elt_arr (i:=p.toNat) (by omega)
    have h2:=D0.elt_arr (i:=(p - 1).toNat) (by omega);have hc:¬S.idAt ids p.toNat=S.idAt ids (p - 1).toNat:=fun h=>by
      have:=S.rising_inj hr (by omega) (by omega) h;omega
    refine run ?_;refine J.regionX [(0, .q),(1, .q),(2, .q),(3, .q),(4, .q),(5, .q),(6, .q),(7, .q),(8, .q),(9, .q)] mixed (by kernel_rfl) ?_;refine run ?_;refine J.ifd rfl (fun c3=>absurd c3 hc) (fun c3=>?_);refine run ?_;exact J.nextS (p+1) ⟨rfl,trivial⟩ (by kernel_rfl) (by omega) (by omega)
  refine run ?_;exact J.fin rfl
theorem ancMissing{S0 S1:Nat→Prop}(g:GrA)(a:Option Addr)(n c:Nat)(ids:List Int)(TK:TypeId)(w:World)(K0:Kst w TK)(G:GrR S0 w g)(h0:S.chkG g.m g.ids g.ops=0)(D1:WRow .u8 32 S1 w a n ids)(hc:n≤c)(hrr:S.Rising n ids)(hn:n≤12):
    Calls prog 66 #[.agg (grC g).toArray, .slice a n c] w (Gv w (fun q:Option Addr×Nat×Nat=> .tuple #[.slice q.1 q.2.1 q.2.2, .int .i64 0]) (fun q=>[.wown 23 .u8 32 q.1 q.2.1 q.2.2 (S.selF (S.absF g.m g.ids ids) ids n)]) fun q=>q.2.1=S.numF (S.absF g.m g.ids ids) n):=by
  have D0:=G.ids;have hcp:=G.cap;obtain⟨_,_,_,hr,_,_⟩:=S.chkG_zero.1 h0;obtain⟨l,hl1,hl2⟩:=chunks g.m g.ids D0.len;have GI:=wrow_grow hl2 hl1 D0;obtain⟨l0,hh1,hh2⟩:=chunks n ids D1.len;have hAh:∀y∈l0,Arr .u8 32 y.xs:=fun y hy=>⟨y.h,fun v hv=>D1.bd v (by rw[←hh2];unfold flatI;exact List.mem_flatMap.2 ⟨y,hy,hv⟩)⟩
  obtain⟨hf1,hf2⟩:=kpm_filter g.m g.ids hh2 n (by omega);rw[List.take_of_length_le (by omega)]at hf1 hf2;have hf1:=hf1.symm;have hf2:=hf2.symm;have hfb:Bd .u8 (flatI (l0.filter (kpM g.m g.ids))):=fun v hv=>by
    unfold flatI at hv;obtain⟨y,hy,hyv⟩:=List.mem_flatMap.1 hv;exact(hAh y (List.mem_filter.1 hy).1).2 v hyv
  obtain⟨_,ke2,_⟩:=S.sel_rising (f:=S.absF g.m g.ids ids) D1.len hrr;have hle:=S.numF_le (S.absF g.m g.ids ids) n;obtain⟨kn,hkn⟩:=ex (S.numF (S.absF g.m g.ids ids) n);obtain⟨kI,hkI⟩:=ex (S.selF (S.absF g.m g.ids ids) ids n);rw[←hkn]at hf2 ke2 hle⊢;rw[←hkI]at hf1 ke2⊢;refine J.enter 25 func66 rfl rfl ?_;refine run ?_;refine J.box rfl rfl rfl fun b1=>?_
  refine run ?_;refine J.callp rfl rfl (fun w' M=>(by have:=dagCheck g TK w' (K0.ext M.ext) (G.ext M.ext);rwa[h0]at this)) ?_;refine run ?_;refine J.ifd rfl (fun c1=>by omega) (fun c1=>?_);refine run ?_;refine J.call rfl rfl (fun w' M=>ancPlaces g l w' (GI.ext M.ext) hr hl2 (by omega)) fun bm _=>?_
  refine run ?_;refine J.alloc rfl fun b7=>?_
  refine run ?_;refine J.call rfl rfl (fun w' M=>cloneW a n c ids w' (D1.ext M.ext) hc (by omega)) fun qh hqh=>?_
  refine run ?_;refine J.fn (fs:=[]) (us:=[.pointer (some ⟨b7,0,none⟩)]) rfl rfl rfl ?_;refine J.re (.wown 23 .u8 32 qh.1 n qh.2 ids) (.gown idC 32 23 qh.1 n qh.2 l0) (fun _ _ h=>wown_gown hh2 hh1 h) ?_
  refine J.callG rfl (fun w' M hO' => by
    obtain ⟨S1, S2, h1, h2, h3⟩ := M.two (.gown idC 32 23 qh.1 n qh.2 l0) (mpiE bm l)
    obtain ⟨S3, S4, g1, g2, g3⟩ := M.two (.gown idC 32 23 qh.1 n qh.2 l0) (.blk b7 [.map (some bm)] 110)
    exact delMis qh.1 n qh.2 l0 b7 bm g.m _ g.ids l w' hO' (by omega) hAh (blk_e g3).2 h3.2 hl1 hl2 hr (fun he => g1 b7 ((gown_e g2).2 _ he) (blk_e g3).1) (fun he => h1 bm ((gown_e h2).2 _ he) h3.1)) fun ha' hc' => ?_
  rw[hf2];refine run ?_;refine J.re (.gown idC 32 23 ha' kn hc' (l0.filter (kpM g.m g.ids))) (.wown 23 .u8 32 ha' kn hc' kI) (fun _ _ h=>hf1▸gown_wown hfb h) ?_;refine run ?_;refine J.callp rfl rfl (fun w' M=>(RW.own' (a:=ha') w' M).elim fun _ k0=>sortSorted ha' kn hc' kI w' k0 ke2 (by omega)) ?_;refine run ?_;refine J.callp rfl rfl (fun w' M=>(RW.own' (a:=ha') w' M).elim fun _ k0=>compSorted ha' kn hc' kI w' k0 ke2 (by omega)) ?_;refine run ?_;exact J.finG (ha',kn,hc') rfl rfl sb
end W
end Go.Proofs.YtjjbdaiioociaaaGreatDoor
