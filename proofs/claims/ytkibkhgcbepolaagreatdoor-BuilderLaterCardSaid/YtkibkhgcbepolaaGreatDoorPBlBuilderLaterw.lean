/-
  What this law alone needs.
-/
import Derived.Test.YtkibkhgcbepolaaGreatDoorPBl14
namespace Go.Proofs.YtkibkhgcbepolaaGreatDoor.W
open Go.RowKit Go.Proofs.YtkibkhgcbepolaaGreatDoor.G
set_option linter.unusedVariables false
set_option linter.unusedSimpArgs false
set_option maxRecDepth 20000
set_option maxHeartbeats 8000000
attribute [local irreducible] RS RX RY Code.wp bodyPost J Ent.blk Ent.irow Ent.iown Ent.wrow Ent.wown Ent.gown Ent.all Ent.emp
instance:Ents Tryz.prog 21:=⟨.mk Tryz.func21 (by kernel_rfl) rfl⟩
instance:Ents Tryz.prog 27:=⟨.mk Tryz.func27 (by kernel_rfl) rfl⟩
instance:Ents Tryz.prog 23:=⟨.mk Tryz.func23 (by kernel_rfl) rfl⟩
instance:Ents Tryz.prog 32:=⟨.mk Tryz.func32 (by kernel_rfl) rfl⟩
theorem builderLater{S0:Nat→Prop}(s:StA)(x:Int)(hx:0≤x∧x<4294967296)(o:S.OpV)(hr:o.rng)(h0:o.n=0)(o2:S.OpV)(hr2:o2.rng)(h02:o2.n=0)(TK:TypeId)(w:World)(K0:Kst w TK)(G:StI S0 w s):
  Calls Tryz.prog 6 #[.agg (srC s).toArray, .int .u32 x, .agg (acC o).toArray, .agg (acC o2).toArray] w (Ret w fun v _=>v= .bool true):=by
 refine J.enter 120 Tryz.func6 rfl rfl ?_;refine run ?_;refine J.box rfl rfl rfl fun b1=>?_
 refine J.box rfl rfl rfl fun b2=>?_
 refine J.box rfl rfl rfl fun b3=>?_
 refine run ?_;refine J.callp rfl rfl (fun w' M=>bdAlive TK w' (K0.ext M.ext)) ?_;refine run ?_;refine J.call rfl rfl (fun w' M=>refStGreat s w' (G.ext M.ext)) fun q1 hq1=>?_
 refine run ?_;refine J.sp rfl rfl rfl (fun c1=>?_) (fun c1=>?_)
 ·refine run ?_;exact J.fin rfl
 have H:=G.st (hq1 c1);refine run ?_;refine J.callp rfl rfl (fun w' M=>refStCheck s w' (H.ext M.ext)) ?_;refine run ?_;refine J.spn rfl rfl rfl (fun c2=>?_) (fun c2=>?_)
 ·refine run ?_;exact J.fin rfl
 have hok:=S.chkT_iff.1 c2;refine run ?_;refine J.callp rfl rfl (fun w' M=>lawGreat24 o w') ?_;refine run ?_;refine J.spd rfl rfl rfl (fun c3=>?_) (fun c3=>?_)
 ·refine run ?_;exact J.fin rfl
 refine run ?_;refine J.callp rfl rfl (fun w' M=>lawGreat24 o2 w') ?_;refine run ?_;refine J.spd rfl rfl rfl (fun c4=>?_) (fun c4=>?_)
 ·refine run ?_;exact J.fin rfl
 have ho:o.ok:=hr.ok fun h=>by
  rcases h with h|h
  ·omega
  exact c3 h
 have ho2:o2.ok:=hr2.ok fun h=>by
  rcases h with h|h
  ·omega
  exact c4 h
 have hf:=S.wrt_fit (x:=x) H.g ho;have hA:=hf.i;have F:=S.ok_fineT H.g hok;refine run ?_;refine J.call rfl rfl (fun w' M=>bWrite x hx s o ho TK w' (K0.ext M.ext) (H.ext M.ext)) fun y hy=>?_
 refine run ?_;refine J.alloc rfl fun b4=>?_
 refine J.alloc rfl fun b5=>?_
 refine run ?_;refine J.ifn rfl (fun d1=>?_) (fun d1=>?_)
 ·refine run ?_;exact J.fin rfl
 obtain⟨⟨yo,yp,yc⟩,ya,yn,yd⟩:=y;obtain⟨hy1,hy2⟩:=hy;dsimp only at hy1 hy2⊢;subst hy1;obtain⟨r1,r2,r3,r4,_⟩:=S.wrt_good H.g hok ho d1;have hvo:=hf.o;refine run ?_;refine J.call rfl rfl (fun w' M=>refStGraph s w' (H.ext M.ext)) fun g hg=>?_
 rw[S.grT_0 hok]at hg;dsimp only[grE,List.cons_append,List.nil_append];have hgs:=GrP.sz (P:=S.whole s.sh.V.ps) hg ⟨F.fine.good,F.fine.le⟩;have hgok:=hg.ok (refWholeOk H.sh);have hzl:g.zs.length=g.n:=by
  have h:=congrArg List.length hg.ops;unfold GrA.ops at h;rw[List.length_map]at h;rw[h,hg.n]
 refine run ?_;refine J.alloc rfl fun b6=>?_
 refine run ?_;refine J.loopS (A:=Nat) (fun p=>[(16, .int .i64 (p:Nat))]) [62,63,64,65,66,67,68,69,70,71,72,73,74,75,76,77] (fun p=>p≤g.n) (fun p=>g.n - p) 0 (by kernel_rfl) (Nat.zero_le _) (fun p j hI=>?_);refine run ?_;refine J.ifd rfl (fun d2=>?_) (fun d2=>?_)
 ·obtain⟨z,hz⟩:∃z,g.zs[((p:Nat):Int).toNat]? =some z:=⟨_,List.getElem?_eq_getElem (by rw[Int.toNat_natCast];omega)⟩
  have hzm:z.o∈(S.whole s.V.sh.ps).ops:=by
   show z.o∈(S.whole s.sh.V.ps).ops;rw[←hg.ops];unfold GrA.ops;exact List.mem_map.2 ⟨z,List.mem_of_getElem? hz,rfl⟩
  have hlt:=S.nxt_lt hzm;refine run ?_;refine J.regionX [(0, .q),(1, .q),(2, .q),(3, .q),(4, .q),(5, .q),(6, .q),(7, .q),(8, .q)] mixed (by kernel_rfl) ?_;refine run ?_;refine J.ifd rfl (fun d3=>?_) (fun d3=>?_)
  ·exact absurd d3 (by omega)
  refine run ?_;exact J.nextS (p+1) ⟨rfl,trivial⟩ (by kernel_rfl) (by omega) (by omega)
 refine run ?_;refine J.call rfl rfl (fun w' M=>(RW.row' (a:=yp) w' M).elim fun _ k=>stOfferF s ⟨(S.wrtR s.V x o).o,yp,yc⟩ TK w' r2 hok (K0.ext M.ext) (H.ext M.ext) ⟨hvo,k,hy2⟩) fun u hu=>?_
 dsimp only at hu⊢;refine run ?_;refine J.alloc rfl fun b7=>?_
 by_cases hj:S.judT s.V (S.wrtR s.V x o).o=1
 ·rw[hj];obtain⟨k1,k2,k3⟩:=S.com_ok H.g hok r2 hj;rw[S.off_1 hj]at hu;have zu:=H.z.off H.g hok r2;rw[S.off_1 hj]at zu;have hf2:=S.wrt_fit (x:=x) k2 ho2;have hA2:=hf2.i;have hvo2:=hf2.o;refine run ?_;refine J.call rfl rfl (fun w' M=>bWrite x hx u o2 ho2 TK w' (K0.ext M.ext) (hu.own zu w' M)) fun y2 hy2'=>?_
  rw[hu.V]at hy2'⊢;obtain⟨⟨po,pp,pc⟩,pa,pn,pd⟩:=y2;obtain⟨hp1,hp2⟩:=hy2';dsimp only at hp1 hp2⊢;subst hp1;refine run ?_;refine J.alloc rfl fun b8=>?_
  refine J.alloc rfl fun b9=>?_
  refine run ?_;refine J.regionX [(0, .q),(1, .q),(2, .q),(3, .q),(4, .q),(5, .q),(6, .q),(7, .q),(8, .q),(9, .q),(10, .q),(11, .q),(12, .q),(14, .q),(13, .e),(15, .q),(16, .q),(17, .q),(18, .q),(19, .q)] mixed (by kernel_rfl) ?_;refine run ?_;refine J.spn rfl rfl rfl (fun d5=>?_) (fun d5=>?_)
  ·refine run ?_;exact J.fin rfl
  obtain⟨t1,t2,t3,t4,_⟩:=S.wrt_good k2 k1 ho2 d5;have hck:=S.check_zero.1 (S.verE_check t2);have hst:(S.wrtR (S.comT s.V (S.wrtR s.V x o).o) x o2).o.st=(S.wrtR s.V x o).o.st+1:=by
   rw[t3,k3];exact S.nxt_add r3
  have hyst:=hvo.st;have hck1:=S.check_zero.1 (S.verE_check r2);refine run ?_;refine J.add rfl rfl rfl ?_ (hw:=W.u64 (by have:=hck1.2.2.2.1;omega));refine run ?_;refine J.spe rfl rfl rfl (fun _=>?_) (fun c=>absurd hst c);refine run ?_;refine J.callp rfl rfl (fun w' M=>(RW.row' (a:=pp) w' M).elim fun _ k=>ofO _ hvo2 _ _ _ k hp2 hck.1 (fun hk=>S.fine4 hck.2.2.2.2.2.2 hk)) ?_;have hA3:Arr .u8 32 (S.sha (S.encS (S.wrtR (S.comT s.V (S.wrtR s.V x o).o) x o2).o)):=S.sha_arr _;refine run ?_;exact J.fin (congrArg _ (by simp[show S.sha (S.encS (S.wrtR (S.comT s.V (S.wrtR s.V x o).o) x o2).o)=_ from t1.symm]))
 refine run ?_;refine J.ifn rfl (fun d3=>?_) (fun d3=>absurd d3 hj);refine run ?_;exact J.fin rfl
end Go.Proofs.YtkibkhgcbepolaaGreatDoor.W
