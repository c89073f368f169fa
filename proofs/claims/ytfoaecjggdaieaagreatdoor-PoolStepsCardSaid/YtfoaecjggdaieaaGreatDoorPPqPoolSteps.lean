/-
  PoolSteps: Step and Run return what the reference returns, and leave the pool as it is. Condition: the table digest.constants is as its initialiser lays it (tied by the card).
-/
import Derived.Test.YtfoaecjggdaieaaGreatDoorPPqPoolStepsb
namespace Go.Proofs.YtfoaecjggdaieaaGreatDoor.W
open Go.RowKit Go.Proofs.YtfoaecjggdaieaaGreatDoor.G
set_option linter.unusedVariables false
set_option linter.unusedSimpArgs false
set_option maxRecDepth 20000
set_option maxHeartbeats 8000000
attribute [local irreducible] RS RX RY Code.wp bodyPost J Ent.blk Ent.irow Ent.iown Ent.wrow Ent.wown Ent.grow Ent.gown Ent.all Ent.emp
instance:Ents Tryz.prog 8:=⟨.mk Tryz.func8 (by kernel_rfl) rfl⟩
instance:Ents Tryz.prog 10:=⟨.mk Tryz.func10 (by kernel_rfl) rfl⟩
instance:Ents Tryz.prog 11:=⟨.mk Tryz.func11 (by kernel_rfl) rfl⟩
instance:Ents Tryz.prog 14:=⟨.mk Tryz.func14 (by kernel_rfl) rfl⟩
instance:Und Tryz.prog 4 .bool:=⟨Tryz.underlying4⟩
theorem poolSteps{S0 S1:Nat→Prop}(p:PlA)(a:Option Addr)(m c:Nat)(xs:List Int)(i:Int)(TK:TypeId)(w:World)(K0:Kst w TK)(G:PlI S0 w p)(D0:GRow inC 1 S1 w a m xs):
  Calls Tryz.prog 3 #[.agg (plC p).toArray, .slice a m c, .int .i64 i] w (Ret w fun v _=>v= .bool true):=by
 refine J.enter 97 Tryz.func3 rfl rfl ?_;refine run ?_;refine J.box rfl rfl rfl fun b1=>?_
 refine run ?_;refine J.call rfl rfl (fun w' M=>refPGreat p w' (G.ext M.ext)) fun g hg=>?_
 refine run ?_;cases g with
 |true=>
  refine run ?_;exact J.fin rfl
 |false=>
 have R:=plR_i G (hg rfl);refine run ?_;refine J.spd rfl rfl rfl (fun c1=>?_) (fun c1=>?_)
 ·refine run ?_;refine J.spd rfl rfl rfl (fun c2=>?_) (fun c2=>?_)
  ·refine run ?_;exact J.fin rfl
  refine run ?_;refine J.ifd rfl (fun c3=>?_) (fun c3=>?_)
  ·refine run ?_;exact J.fin rfl
  refine run ?_;refine J.call rfl rfl (fun w' M=>refPTwin p w' (R.ext M.ext)) fun q hq=>?_
  refine run ?_;refine J.alloc rfl fun b2=>?_
  refine run ?_;refine J.call rfl rfl (fun w' M=>poolStep1 q i TK w' (K0.ext M.ext) (PlR.own hq w' M)) fun u1 hu1=>?_
  obtain⟨u1,n1,e1⟩:=u1;obtain⟨hu1,hn1,he1⟩:=hu1;dsimp only at hu1 hn1 he1⊢;refine run ?_;refine J.alloc rfl fun b3=>?_
  refine run ?_;refine J.call rfl rfl (fun w' M=>refPStep1 p i w' (R.ext M.ext)) fun u2 hu2=>?_
  obtain⟨u2,n2,e2⟩:=u2;obtain⟨hu2,hn2,he2⟩:=hu2;dsimp only at hu2 hn2 he2⊢;refine run ?_;refine J.alloc rfl fun b4=>?_
  refine run ?_;refine J.call rfl rfl (fun w' M=>poolRun q a m c xs TK w' (K0.ext M.ext) (PlR.own hq w' M) (D0.ext M.ext) (by omega)) fun u3 hu3=>?_
  obtain⟨u3,n3,e3⟩:=u3;obtain⟨hu3,hn3,he3⟩:=hu3;dsimp only at hu3 hn3 he3⊢;refine run ?_;refine J.alloc rfl fun b5=>?_
  refine run ?_;refine J.call rfl rfl (fun w' M=>refPRun p a m c xs w' (R.ext M.ext) (D0.ext M.ext) (by omega)) fun u4 hu4=>?_
  obtain⟨u4,n4,e4⟩:=u4;obtain⟨hu4,hn4,he4⟩:=hu4;dsimp only at hu4 hn4 he4⊢;rw[hq.V]at hu1 hn1 he1 hu3 hn3 he3;subst hn1 hn2 hn3 hn4 he1 he2 he3 he4;refine run ?_;refine J.alloc rfl fun b6=>?_
  refine run ?_;refine J.callp rfl rfl (fun w' M=>refPSame u1 u2 w' (PlR.ownF hu1 w' M) (PlR.ownF hu2 w' M) (hu1.k.V.trans hu2.k.V.symm)) ?_;refine run ?_;rw[beq_self_eq_true];refine run ?_;refine J.spe rfl rfl rfl (fun _=>?_) (fun c=>absurd rfl c);refine run ?_;refine J.callp rfl rfl (fun w' M=>refPSame u3 u4 w' (PlR.ownF hu3 w' M) (PlR.ownF hu4 w' M) (hu3.k.V.trans hu4.k.V.symm)) ?_;refine run ?_;refine J.spe rfl rfl rfl (fun _=>?_) (fun c=>absurd rfl c);refine run ?_;refine J.spe rfl rfl rfl (fun _=>?_) (fun c=>absurd rfl c);refine run ?_;refine J.callp rfl rfl (fun w' M=>refPSame q p w' (PlR.own hq w' M) (R.ext M.ext) hq.V) ?_;refine run ?_;exact J.fin rfl
 refine run ?_;refine J.ifd rfl (fun c3=>?_) (fun c3=>?_)
 ·refine run ?_;exact J.fin rfl
 refine run ?_;refine J.call rfl rfl (fun w' M=>refPTwin p w' (R.ext M.ext)) fun q hq=>?_
 refine run ?_;refine J.alloc rfl fun b2=>?_
 refine run ?_;refine J.call rfl rfl (fun w' M=>poolStep1 q i TK w' (K0.ext M.ext) (PlR.own hq w' M)) fun u1 hu1=>?_
 obtain⟨u1,n1,e1⟩:=u1;obtain⟨hu1,hn1,he1⟩:=hu1;dsimp only at hu1 hn1 he1⊢;refine run ?_;refine J.alloc rfl fun b3=>?_
 refine run ?_;refine J.call rfl rfl (fun w' M=>refPStep1 p i w' (R.ext M.ext)) fun u2 hu2=>?_
 obtain⟨u2,n2,e2⟩:=u2;obtain⟨hu2,hn2,he2⟩:=hu2;dsimp only at hu2 hn2 he2⊢;refine run ?_;refine J.alloc rfl fun b4=>?_
 refine run ?_;refine J.call rfl rfl (fun w' M=>poolRun q a m c xs TK w' (K0.ext M.ext) (PlR.own hq w' M) (D0.ext M.ext) (by omega)) fun u3 hu3=>?_
 obtain⟨u3,n3,e3⟩:=u3;obtain⟨hu3,hn3,he3⟩:=hu3;dsimp only at hu3 hn3 he3⊢;refine run ?_;refine J.alloc rfl fun b5=>?_
 refine run ?_;refine J.call rfl rfl (fun w' M=>refPRun p a m c xs w' (R.ext M.ext) (D0.ext M.ext) (by omega)) fun u4 hu4=>?_
 obtain⟨u4,n4,e4⟩:=u4;obtain⟨hu4,hn4,he4⟩:=hu4;dsimp only at hu4 hn4 he4⊢;rw[hq.V]at hu1 hn1 he1 hu3 hn3 he3;subst hn1 hn2 hn3 hn4 he1 he2 he3 he4;refine run ?_;refine J.alloc rfl fun b6=>?_
 refine run ?_;refine J.callp rfl rfl (fun w' M=>refPSame u1 u2 w' (PlR.ownF hu1 w' M) (PlR.ownF hu2 w' M) (hu1.k.V.trans hu2.k.V.symm)) ?_;refine run ?_;rw[beq_self_eq_true];refine run ?_;refine J.spe rfl rfl rfl (fun _=>?_) (fun c=>absurd rfl c);refine run ?_;refine J.callp rfl rfl (fun w' M=>refPSame u3 u4 w' (PlR.ownF hu3 w' M) (PlR.ownF hu4 w' M) (hu3.k.V.trans hu4.k.V.symm)) ?_;refine run ?_;refine J.spe rfl rfl rfl (fun _=>?_) (fun c=>absurd rfl c);refine run ?_;refine J.spe rfl rfl rfl (fun _=>?_) (fun c=>absurd rfl c);refine run ?_;refine J.callp rfl rfl (fun w' M=>refPSame q p w' (PlR.own hq w' M) (R.ext M.ext) hq.V) ?_;refine run ?_;exact J.fin rfl
end Go.Proofs.YtfoaecjggdaieaaGreatDoor.W
namespace Go.Proofs.YtfoaecjggdaieaaGreatDoor.L
open Go Go.Proofs.YtfoaecjggdaieaaGreatDoor Go.Proofs.YtfoaecjggdaieaaGreatDoor.G Go.Proofs.YtfoaecjggdaieaaGreatDoor.W
open Go.ChangeShapes Go.WideShapes Go.ChangeAt Go.RowKit
set_option linter.unusedVariables false
set_option maxRecDepth 100000
theorem poolSteps_door(os:Os)(args:Array Value):laidMetH Tryz.prog [("braid/digest.constants",Rows.laid_braid_digest_constants)] ((World.doorLaid Tryz.prog 400 os).forCall (fun _ _=>0) ⟨#[],args,[]⟩).memory:=
  laidMetH_of_parts3 (fuel:=8) (laidMet_of_run' 8 (by kernel_rfl) (by kernel_rfl)) (by kernel_rfl) (by kernel_rfl)
theorem poolSteps_lifted(os:Os)(started:os.Started)(H:Type)(enc:TypeId×Value→H):
    ReturnsInHanded {} Tryz.checked os 3 .any (fun w args=>(Rows.poolStepsSpec.pre enc Tryz.prog Tryz.f3 [] false w args∧laidMetH Tryz.prog [("braid/digest.constants",Rows.laid_braid_digest_constants)] w)∧sizedMet enc Tryz.prog Tryz.f3 (OpenSpec.ofChange Rows.poolStepsSpec) false w args)
      (Rows.poolStepsSpec.post enc Tryz.prog Tryz.f3 false true false false):=by
  refine returnsInHanded_of_change_and (C:=Tryz.checked) (X:=fun w _=>laidMetH Tryz.prog [("braid/digest.constants",Rows.laid_braid_digest_constants)] w) (fun _ _ _ hh h=>h.of_heap hh) own started (by kernel_rfl) Tryz.func3
    (ChangeSpec.witness_shaped (enc:=enc) (C:=Tryz.checked) (os:=os) (X:=fun w _=>laidMetH Tryz.prog [("braid/digest.constants",Rows.laid_braid_digest_constants)] w) false (World.doorLaid Tryz.prog 400 os) #[.agg #[.int .i64 0, .slice none 0 0, .slice none 0 0, .slice none 0 0], .slice none 0 0, .int .i64 0] 8 rfl (World.shaped_of_RefB (by kernel_rfl) (by kernel_rfl)) (by kernel_rfl) (by kernel_rfl) (by kernel_rfl) (poolSteps_door os _)) ?_
  intro W base args ds gs before hval0 hW _ _ hL _;have hval:∀(j:Nat) t v,Tryz.f3.params[j]? =some t→args[j]? =some v→Value.okWide Tryz.prog W .any base t v:=hval0;have hW':=hW;obtain⟨p,q,hA0,hV,rfl,hfz,hnd⟩:=hW;have hA:DataW.TrodAll enc Tryz.prog W 0 (fun _=>true) true Tryz.f3.params.toList args.toList ds p:=hA0;rw[Tryz.params3]at hA hval;obtain⟨v0,vs0,d0,ds0,p0,q0,hargs,rfl,rfl,h0,r0⟩:=trodAll_cons hA;obtain⟨v1,vs1,d1,ds1,p1,q1,e1,rfl,rfl,h1,r1⟩:=trodAll_cons r0;obtain⟨v2,vs2,d2,ds2,p2,q2,e2,rfl,rfl,h2,r2⟩:=trodAll_cons r1;obtain⟨rfl,rfl,rfl⟩:=trodAll_nil r2;subst e2;subst e1;obtain rfl:args= #[v0,v1,v2]:=by cases args;simp_all
  obtain⟨rfl,rfl⟩:=trodVars_none hV;obtain⟨cs0,rfl,_⟩:=okWide_struct Tryz.underlying26 (hval 0 26 v0 rfl rfl);obtain⟨a1,m1,c1,rfl⟩:=okWide_slice Tryz.underlying27 (hval 1 27 v1 rfl rfl);obtain⟨n2,rfl⟩:=okWide_int Tryz.underlying3 (hval 2 3 v2 rfl rfl);have k0:=h0;have lt0:∀x∈p0,x.block<W.heap.size:=by obtain⟨m,hm⟩:=k0;exact DataW.trod_lt m _ _ _ hm
  obtain⟨fuel0,hf0⟩:=h0;obtain⟨p0,hcs0,hG0⟩:=pool_in hf0;have hv0:(Value.agg cs0)= .agg (plC p0).toArray:=by
    congr 1;apply Array.ext';exact hcs0
  have k1:=h1;have lt1:∀x∈p1,x.block<W.heap.size:=by obtain⟨m,hm⟩:=k1;exact DataW.trod_lt m _ _ _ hm
  obtain⟨fuel1,hf1⟩:=h1;obtain⟨_,_,_,fs1,he1,hc1,hR1⟩:=intsS_in hf1;obtain⟨rfl,rfl,rfl⟩:=Value.slice.inj (List.cons.inj he1).1;have k2:=h2;have lt2:∀x∈p2,x.block<W.heap.size:=by obtain⟨m,hm⟩:=k2;exact DataW.trod_lt m _ _ _ hm
  obtain⟨fuel2,hf2⟩:=h2;obtain⟨_,he2,hx2⟩:=int_in Tryz.underlying3 hf2;have hl2:IntKind.min .i64= -9223372036854775808∧IntKind.max .i64=9223372036854775807:=by decide
  obtain rfl:=(Value.int.inj (List.cons.inj he2).1).2;have K0:=of_laid hL;clear hA0 hval0;have hwalk:=poolSteps p0 a1 m1 c1 fs1 n2 0 W K0 hG0 hR1;rw[←hv0]at hwalk;refine hwalk.mono fun e W' hret=>?_
  obtain⟨v,rfl,bel,rfl⟩:=hret;exact⟨_,rfl,_,_,_,[],_,[],hW',trodAll_mk1 (shut_bool Tryz.underlying4 _),(trodAll_cons_mk (Below.trod laidOut (by kernel_rfl) (of_decide_eq_true (by kernel_rfl)) k0 bel lt0) (trodAll_cons_mk (Below.trod laidOut (by kernel_rfl) (of_decide_eq_true (by kernel_rfl)) k1 bel lt1) (trodAll_cons_mk (Below.trod laidOut (by kernel_rfl) (of_decide_eq_true (by kernel_rfl)) k2 bel lt2) trodAll_mk0))),rfl,bel.frame _,fun h=>by cases h⟩
theorem poolSteps_closed:joinedFacts Tryz.prog 3 Tryz.f3 Rows.poolStepsSpec Rows.poolStepsRow=true:=by
  unfold joinedFacts;rw[poolSteps_f1,poolSteps_f2,poolSteps_f3,poolSteps_f4]
  kernel_rfl
theorem poolSteps_holds:Rows.PoolStepsSaid:=
  OpenClaim.holds_of_wide 3 Tryz.f3 rfl rfl rfl rfl rfl rfl rfl ⟨rfl,rfl,rfl,rfl,rfl⟩ rfl rfl rfl rfl rfl (by kernel_rfl) Tryz.func3 poolSteps_closed
    (of_decide_eq_true (by kernel_rfl)) (by unfold Func.isWrapper;first|(rw[if_pos (by decide+kernel)];kernel_rfl)|(rw[if_neg (by decide+kernel)];exact⟨rfl,rfl⟩))
    (fun os started H enc _=>poolSteps_lifted os started H enc)
theorem poolSteps_card:Rows.PoolStepsCardSaid:=
  Claim7.holds_tied_plain_at .later [] [.data] true (true, "a8d80fc8e61850ac956e92974a507f8242847565356b489832ef312e3c5ef41c") false
    poolSteps_holds (fun _ h=>by cases h) (by kernel_rfl) (fun _ h=>by cases h) poolSteps_row_tie rfl ⟨rfl,rfl⟩ (by kernel_rfl) rfl
    (fun f fn hf hfn => by
      obtain rfl : f = 3 := Option.some.inj ((show Tryz.prog.funcNamed "braid/braidlaw18.PoolSteps" = some 3 by kernel_rfl).symm.trans hf) |>.symm
      obtain rfl : fn = Tryz.f3 := (Option.some.inj (Tryz.func3.symm.trans hfn)).symm
      exact ⟨by kernel_rfl, fun j t ht => by
        rw [Tryz.params3] at ht
        have hm : t ∈ [26, 27, 3] := by simpa using Array.mem_of_getElem? ht
        have hall : ([26, 27, 3].all fun u => !Tryz.prog.wantsStandIn u) = true := by kernel_rfl
        exact (show Tryz.prog.wantsStandIn t = false by simpa using List.all_eq_true.1 hall t hm)⟩)
    (by kernel_rfl)
end Go.Proofs.YtfoaecjggdaieaaGreatDoor.L
