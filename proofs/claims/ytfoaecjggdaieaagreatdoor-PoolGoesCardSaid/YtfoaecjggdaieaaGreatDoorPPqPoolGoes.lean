/-
  PoolGoes: as long as a job waits or is in a hand, and Done has room, some worker can do a step; steps lose no ticket; a worker that cannot do one changes nothing. Condition: the table digest.constants is as its initialiser lays it (tied by the card).
-/
import Derived.Test.YtfoaecjggdaieaaGreatDoorPPqPoolGoesb
namespace Go.Proofs.YtfoaecjggdaieaaGreatDoor.W
open Go.RowKit Go.Proofs.YtfoaecjggdaieaaGreatDoor.G
set_option linter.unusedVariables false
set_option linter.unusedSimpArgs false
set_option maxRecDepth 20000
set_option maxHeartbeats 2000000
attribute [local irreducible] RS RX RY Code.wp bodyPost J Ent.blk Ent.irow Ent.iown Ent.wrow Ent.wown Ent.grow Ent.gown Ent.all Ent.emp
instance:Ents Tryz.prog 15:=⟨.mk Tryz.func15 (by kernel_rfl) rfl⟩
instance:Ents Tryz.prog 8:=⟨.mk Tryz.func8 (by kernel_rfl) rfl⟩
instance:Ents Tryz.prog 10:=⟨.mk Tryz.func10 (by kernel_rfl) rfl⟩
instance:Ents Tryz.prog 14:=⟨.mk Tryz.func14 (by kernel_rfl) rfl⟩
instance:Und Tryz.prog 4 .bool:=⟨Tryz.underlying4⟩
theorem one_step{v:S.PlV}(h:S.vldP v){i:Nat}(hi:i<v.hs.length):S.runE v [((i:Nat):Int)]=0∧S.runV v [((i:Nat):Int)]=S.stepP v i∧S.runM v [((i:Nat):Int)]=S.stepN v i:=by
 have e : S.runE v [((i : Nat) : Int)] = 0 := S.runE_0 h (by simp) (fun x hx => by
  rw [List.mem_singleton] at hx
  rw [hx]
  omega)
 obtain⟨h1,h2⟩:=S.run_yes e;exact⟨e,h1,h2.trans (Nat.add_zero _)⟩
theorem goes_end{v:S.PlV}(h:S.Vld v){so bu:Bool}(h1:bu=true↔(0<v.js.length∨∃k,k<v.hs.length∧(S.stgP v k).s≠0))(h2:so=true↔∃k,k<v.hs.length∧S.canP v k)(hd:v.ds.length≠60):so=bu:=by
 have h60:v.ds.length<60:=by have:=h.c.2.2.2.2.2;omega
 rw[Bool.eq_iff_iff,h1,h2];constructor
 ·rintro⟨k,hk,hc⟩;rcases hc with⟨_,c⟩|c|⟨c,_⟩
  ·exact .inl c
  ·exact .inr ⟨k,hk,by omega⟩
  exact .inr ⟨k,hk,c⟩
 rintro(hj|⟨k,hk,hc⟩)
 ·have h0:0<v.hs.length:=h.c.2.2.2.1;refine⟨0,h0,?_⟩;rcases S.hand_s (h.hand h0)with c|c|c
  ·exact .inl ⟨c,hj⟩
  ·exact .inr (.inl c)
  exact .inr (.inr ⟨by omega,by omega,h60⟩)
 refine⟨k,hk,?_⟩;rcases S.hand_s (h.hand hk)with c|c|c
 ·exact absurd c hc
 ·exact .inr (.inl c)
 exact .inr (.inr ⟨by omega,by omega,h60⟩)
theorem ex_snoc{i:Nat}{Q:Nat→Prop}:(∃k,k<i+1∧Q k)↔(∃k,k<i∧Q k)∨Q i:=by
 constructor
 ·rintro⟨k,hk,h⟩;rcases Nat.lt_or_ge k i with c|c
  ·exact .inl ⟨k,c,h⟩
  obtain rfl:k=i:=by omega
  exact .inr h
 rintro(⟨k,hk,h⟩|h)
 ·exact⟨k,by omega,h⟩
 exact⟨i,by omega,h⟩
structure GoA where
 (i:Nat)(bu so:Bool)
theorem poolGoes{S0:Nat→Prop}(p:PlA)(TK:TypeId)(w:World)(K0:Kst w TK)(G:PlI S0 w p):
  Calls Tryz.prog 7 #[.agg (plC p).toArray] w (Ret w fun v _=>v= .bool true):=by
 refine J.enter 98 Tryz.func7 rfl rfl ?_;refine run ?_;refine J.box rfl rfl rfl fun b1=>?_
 refine run ?_;refine J.callp rfl rfl (fun w' M=>plAlive TK w' (K0.ext M.ext)) ?_;refine run ?_;refine J.call rfl rfl (fun w' M=>refPGreat p w' (G.ext M.ext)) fun g hg=>?_
 refine run ?_;cases g with
 |true=>
  refine run ?_;exact J.fin rfl
 |false=>
 have R:=plR_i G (hg rfl);refine run ?_;refine J.callp rfl rfl (fun w' M=>refPCheck p w' (R.ext M.ext)) ?_;refine run ?_;refine J.spn rfl rfl rfl (fun c1=>?_) (fun c1=>?_)
 ·refine run ?_;exact J.fin rfl
 have hv:=S.vldE_ok.1 c1;have hvl:=(S.vld_iff p.V).1 hv;have hhl:=R.hl;have hjl:=R.jl;have hdl:=R.dl;have hcp:=R.cap;have G2:=R.hr;refine run ?_;refine J.loop (A:=GoA) (fun q=>[(4, .bool q.bu),(5, .bool q.so),(6, .int .i64 (q.i:Nat))]) [2,7,8,9,27,28,29,30,31,32,33,34,35,36,37,38,39,40,41,42,43,44,45,46,47,48,49,50,51,52,53,54,55,56,57,58,59,60,61,62,63,64,65,66,67,68,69,70,71,72,73,74,75,76,77,78,79,80,81,82,83,84,85,86] (fun q=>[.blk b1 (plC p) 26]) (fun q=>q.i≤p.hn∧(q.bu=true↔(0<p.V.js.length∨∃k,k<q.i∧(S.stgP p.V k).s≠0))∧(q.so=true↔∃k,k<q.i∧S.canP p.V k)) (fun q=>p.hn - q.i) ⟨0,decide ((p.jn:Int)>0),false⟩ (by kernel_rfl) ⟨Nat.zero_le _,?_,?_⟩ (fun q j hI=>?_)
 ·rw[decide_eq_true_eq];constructor
  ·exact fun h=> .inl (by omega)
  rintro(h|⟨k,hk,_⟩)
  ·omega
  exact absurd hk (Nat.not_lt_zero k)
 ·constructor
  ·intro h;cases h
  rintro⟨k,hk,_⟩;exact absurd hk (Nat.not_lt_zero k)
 obtain⟨hi,hbu,hso⟩:=hI;obtain⟨i,bu,so⟩:=q;dsimp only at hi hbu hso⊢;refine run ?_;refine J.ifd rfl (fun d1=>?_) (fun d1=>?_)
 ·obtain⟨h0,hh0⟩:=R.hr.ex (i:=(i:Nat)) (by omega);have hst:S.stgP p.V i=h0.V:=PlA.hAt hh0;have hs0:(S.stgP p.V i).s=h0.s:=congrArg S.HdV.s hst;refine run0 ?_;refine J.joinX (A:=Bool) (fun u=>[(4, .bool u)]) [34,35,36,37,38,39,40,41,42,43] (fun u=>[.blk b1 (plC p) 26]) (fun u=>u=true↔(0<p.V.js.length∨∃k,k<i+1∧(S.stgP p.V k).s≠0)) ?_ (fun bu2 j2 hb2=>?_)
  ·cases bu with
   |true=>
    refine run ?_;exact J.cut true ⟨rfl,trivial⟩ (by kernel_rfl) (by rw[ex_snoc,←or_assoc,←hbu];exact⟨fun _=> .inl rfl,fun _=>rfl⟩)
   |false=>
    refine run ?_;refine J.cut (h0.s != 0) ⟨rfl,trivial⟩ (by kernel_rfl) ?_;rw[ex_snoc,←or_assoc,←hbu,hs0];simp
  obtain⟨o1,o2,o3⟩:=one_step hv (i:=i) (by omega);have hvs:=hvl.step (i:=i) (by omega);have hkp:=S.step_kept hvl (i:=i) (by omega);refine run ?_;refine J.call rfl rfl (fun w' M=>poolStep1 p (i:Nat) TK w' (K0.ext M.ext) (R.ext M.ext)) fun u1 hu1=>?_
  obtain⟨u1,n1,e1⟩:=u1;obtain⟨hu1,hn1,he1⟩:=hu1;dsimp only at hu1 hn1 he1⊢;rw[o1]at he1;rw[o2]at hu1;rw[o3]at hn1;subst he1
  have hdid : decide ((0 : Int) < ((n1 : Nat) : Int)) = decide (S.canP p.V i) := decide_eq_decide.2 (by
   rw [hn1]
   unfold S.stepN
   split
   ·exact ⟨fun _ => by assumption, fun _ => by decide⟩
   exact ⟨fun h => absurd h (by decide), fun h => by contradiction⟩)
  rw[hdid];have hvv:S.vldE u1.V=0:=S.vldE_0 (by rw[hu1.k.V];exact(S.vld_iff _).2 hvs);refine run ?_;refine J.alloc rfl fun b7=>?_
  refine J.staw rfl rfl ?_;refine J.as rfl ?_;refine J.as rfl ?_;refine J.nilN ?_;refine run0 ?_;refine J.joinX (A:=Unit) (fun u=>[(67, .bool false)]) [51,52,53,54,55,56,57,58,59,60,61,62,63,64,65,66] (fun u=>[.blk b7 (plC u1) 26, .grow jbC 2 u1.ja u1.jn u1.js, .gown hdC 48 67 u1.ha u1.hn u1.hc u1.hs, .gown jdC 45 61 u1.da u1.dn u1.dc u1.ds, .all (u1.js.map jbE), .all (u1.hs.map hdE), .all (u1.ds.map jdE), .blk b1 (plC p) 26]) (fun u=>True) ?_ (fun u j2 hu=>?_)
  ·refine run ?_;refine J.callp rfl rfl (fun w' M=>refPCheck u1 w' (PlR.ownF hu1 w' M)) ?_;rw[hvv];refine run ?_;refine J.spt rfl rfl rfl (fun c2=>?_) (fun c2=>?_)
   ·have hno:¬S.canP p.V i:=of_decide_eq_false c2;have hsv:u1.V=p.V:=by rw[hu1.k.V];exact(S.step_no hno).1
    refine run ?_;refine J.callp rfl rfl (fun w' M=>refPSame p u1 w' (R.ext M.ext) (PlR.ownF hu1 w' M) hsv.symm) ?_;refine run ?_;exact J.cut () ⟨rfl,trivial⟩ (by kernel_rfl) trivial
   refine run ?_;exact J.cut () ⟨rfl,trivial⟩ (by kernel_rfl) trivial
  have hn1:=hu1.k.n;refine run ?_;refine J.regionX [(0, .q),(1, .q),(2, .q),(3, .q),(7, .q),(8, .q),(9, .q),(10, .q),(4, .e),(5, .q),(6, .q),(11, .e),(12, .q),(13, .q),(14, .q)] mixed (by kernel_rfl) ?_;refine run ?_;refine J.call rfl rfl (fun w' M=>refTickets u1 w' (PlR.ownF hu1 w' M)) fun t1 ht1=>?_
  refine run ?_;refine J.call rfl rfl (fun w' M=>refTickets p w' (R.ext M.ext)) fun t2 ht2=>?_
  refine run ?_;have hjn1:u1.V.js.length=u1.jn:=by rw[hu1.k.V];exact hu1.jn
  have hlen:u1.jn+t1.2.1=p.jn+t2.2.1:=by
   rw[ht1.1,ht2.1,←hjn1,←hjl,←S.allF_len,←S.allF_len,hu1.k.V];exact hkp.1.length_eq
  refine J.ifn rfl (fun c=>?_) (fun _=>?_)
  ·exact absurd (by omega) c
  cases so with
  |true=>
   refine run ?_;refine J.drop (E:=[.blk b1 (plC p) 26]) sb ?_;exact J.next ⟨i+1,bu2,true⟩ ⟨rfl,rfl,rfl,trivial⟩ (by kernel_rfl) ⟨by dsimp only;omega,hb2,by rw[ex_snoc,←hso];exact⟨fun _=> .inl rfl,fun _=>rfl⟩⟩ (by dsimp only;omega)
  |false=>
   refine run ?_;refine J.drop (E:=[.blk b1 (plC p) 26]) sb ?_;exact J.next ⟨i+1,bu2,decide (S.canP p.V i)⟩ ⟨rfl,rfl,rfl,trivial⟩ (by kernel_rfl) ⟨by dsimp only;omega,hb2,by dsimp only;rw[ex_snoc,←hso];simp⟩ (by dsimp only;omega)
 obtain rfl:i=p.hn:=by omega
 rw[←hhl]at hbu hso;refine run ?_;by_cases h60:p.dn=60
 ·cases hsb:(so==bu)with
  |true=>
   refine run ?_;exact J.fin rfl
  |false=>
   refine run ?_;exact J.fin (congrArg _ (by rw[h60];rfl))
 have e:=goes_end hvl hbu hso (by omega);rw[e,beq_self_eq_true];refine run ?_;exact J.fin rfl
end Go.Proofs.YtfoaecjggdaieaaGreatDoor.W
namespace Go.Proofs.YtfoaecjggdaieaaGreatDoor.L
open Go Go.Proofs.YtfoaecjggdaieaaGreatDoor Go.Proofs.YtfoaecjggdaieaaGreatDoor.G Go.Proofs.YtfoaecjggdaieaaGreatDoor.W
open Go.ChangeShapes Go.WideShapes Go.ChangeAt Go.RowKit
set_option linter.unusedVariables false
set_option maxRecDepth 100000
theorem poolGoes_door(os:Os)(args:Array Value):laidMetH Tryz.prog [("braid/digest.constants",Rows.laid_braid_digest_constants)] ((World.doorLaid Tryz.prog 400 os).forCall (fun _ _=>0) ⟨#[],args,[]⟩).memory:=
  laidMetH_of_parts3 (fuel:=8) (laidMet_of_run' 8 (by kernel_rfl) (by kernel_rfl)) (by kernel_rfl) (by kernel_rfl)
theorem poolGoes_lifted(os:Os)(started:os.Started)(H:Type)(enc:TypeId×Value→H):
    ReturnsInHanded {} Tryz.checked os 7 .any (fun w args=>(Rows.poolGoesSpec.pre enc Tryz.prog Tryz.f7 [] false w args∧laidMetH Tryz.prog [("braid/digest.constants",Rows.laid_braid_digest_constants)] w)∧sizedMet enc Tryz.prog Tryz.f7 (OpenSpec.ofChange Rows.poolGoesSpec) false w args)
      (Rows.poolGoesSpec.post enc Tryz.prog Tryz.f7 false true false false):=by
  refine returnsInHanded_of_change_and (C:=Tryz.checked) (X:=fun w _=>laidMetH Tryz.prog [("braid/digest.constants",Rows.laid_braid_digest_constants)] w) (fun _ _ _ hh h=>h.of_heap hh) own started (by kernel_rfl) Tryz.func7
    (ChangeSpec.witness_shaped (enc:=enc) (C:=Tryz.checked) (os:=os) (X:=fun w _=>laidMetH Tryz.prog [("braid/digest.constants",Rows.laid_braid_digest_constants)] w) false (World.doorLaid Tryz.prog 400 os) #[.agg #[.int .i64 0, .slice none 0 0, .slice none 0 0, .slice none 0 0]] 8 rfl (World.shaped_of_RefB (by kernel_rfl) (by kernel_rfl)) (by kernel_rfl) (by kernel_rfl) (by kernel_rfl) (poolGoes_door os _)) ?_
  intro W base args ds gs before hval0 hW _ _ hL _;have hval:∀(j:Nat) t v,Tryz.f7.params[j]? =some t→args[j]? =some v→Value.okWide Tryz.prog W .any base t v:=hval0;have hW':=hW;obtain⟨p,q,hA0,hV,rfl,hfz,hnd⟩:=hW;have hA:DataW.TrodAll enc Tryz.prog W 0 (fun _=>true) true Tryz.f7.params.toList args.toList ds p:=hA0;rw[Tryz.params7]at hA hval;obtain⟨v0,vs0,d0,ds0,p0,q0,hargs,rfl,rfl,h0,r0⟩:=trodAll_cons hA;obtain⟨rfl,rfl,rfl⟩:=trodAll_nil r0;obtain rfl:args= #[v0]:=by cases args;simp_all
  obtain⟨rfl,rfl⟩:=trodVars_none hV;obtain⟨cs0,rfl,_⟩:=okWide_struct Tryz.underlying26 (hval 0 26 v0 rfl rfl);have k0:=h0;have lt0:∀x∈p0,x.block<W.heap.size:=by obtain⟨m,hm⟩:=k0;exact DataW.trod_lt m _ _ _ hm
  obtain⟨fuel0,hf0⟩:=h0;obtain⟨p0,hcs0,hG0⟩:=pool_in hf0;have hv0:(Value.agg cs0)= .agg (plC p0).toArray:=by
    congr 1;apply Array.ext';exact hcs0
  have K0:=of_laid hL;clear hA0 hval0;have hwalk:=poolGoes p0 0 W K0 hG0;rw[←hv0]at hwalk;refine hwalk.mono fun e W' hret=>?_
  obtain⟨v,rfl,bel,rfl⟩:=hret;exact⟨_,rfl,_,_,_,[],_,[],hW',trodAll_mk1 (shut_bool Tryz.underlying4 _),(trodAll_cons_mk (Below.trod laidOut (by kernel_rfl) (of_decide_eq_true (by kernel_rfl)) k0 bel lt0) trodAll_mk0),rfl,bel.frame _,fun h=>by cases h⟩
theorem poolGoes_closed:joinedFacts Tryz.prog 7 Tryz.f7 Rows.poolGoesSpec Rows.poolGoesRow=true:=by
  unfold joinedFacts;rw[poolGoes_f1,poolGoes_f2,poolGoes_f3,poolGoes_f4]
  kernel_rfl
theorem poolGoes_holds:Rows.PoolGoesSaid:=
  OpenClaim.holds_of_wide 7 Tryz.f7 rfl rfl rfl rfl rfl rfl rfl ⟨rfl,rfl,rfl,rfl,rfl⟩ rfl rfl rfl rfl rfl (by kernel_rfl) Tryz.func7 poolGoes_closed
    (of_decide_eq_true (by kernel_rfl)) (by unfold Func.isWrapper;first|(rw[if_pos (by decide+kernel)];kernel_rfl)|(rw[if_neg (by decide+kernel)];exact⟨rfl,rfl⟩))
    (fun os started H enc _=>poolGoes_lifted os started H enc)
theorem poolGoes_card:Rows.PoolGoesCardSaid:=
  Claim7.holds_tied_plain_at .later [] [.data] true (true, "a8d80fc8e61850ac956e92974a507f8242847565356b489832ef312e3c5ef41c") false
    poolGoes_holds (fun _ h=>by cases h) (by kernel_rfl) (fun _ h=>by cases h) poolGoes_row_tie rfl ⟨rfl,rfl⟩ (by kernel_rfl) rfl
    (fun f fn hf hfn => by
      obtain rfl : f = 7 := Option.some.inj ((show Tryz.prog.funcNamed "braid/braidlaw18.PoolGoes" = some 7 by kernel_rfl).symm.trans hf) |>.symm
      obtain rfl : fn = Tryz.f7 := (Option.some.inj (Tryz.func7.symm.trans hfn)).symm
      exact ⟨by kernel_rfl, fun j t ht => by
        rw [Tryz.params7] at ht
        have hm : t ∈ [26] := by simpa using Array.mem_of_getElem? ht
        have hall : ([26].all fun u => !Tryz.prog.wantsStandIn u) = true := by kernel_rfl
        exact (show Tryz.prog.wantsStandIn t = false by simpa using List.all_eq_true.1 hall t hm)⟩)
    (by kernel_rfl)
end Go.Proofs.YtfoaecjggdaieaaGreatDoor.L
