/-
  StoreMissing: Missing returns just the predecessors that are not in the store, and an operation that is not there is Waiting exactly if there are any. Condition: the table digest.constants is as its initialiser lays it (tied by the card).
-/
import Derived.Test.YtaapnlnileblaaaGreatDoorPS4StoreMissingb
namespace Go.Proofs.YtaapnlnileblaaaGreatDoor.W
open Go.RowKit Go.Proofs.YtaapnlnileblaaaGreatDoor.G
set_option linter.unusedVariables false
set_option linter.unusedSimpArgs false
set_option maxRecDepth 20000
set_option maxHeartbeats 8000000
attribute [local irreducible] RS RX RY Code.wp bodyPost J Ent.blk Ent.iown Ent.wrow Ent.wown Ent.gown Ent.all Ent.emp
instance:Ents Tryz.prog 39:=⟨.mk Tryz.func39 (by kernel_rfl) rfl⟩
instance:Ents Tryz.prog 40:=⟨.mk Tryz.func40 (by kernel_rfl) rfl⟩
instance:Ents Tryz.prog 21:=⟨.mk Tryz.func21 (by kernel_rfl) rfl⟩
instance:Ents Tryz.prog 19:=⟨.mk Tryz.func19 (by kernel_rfl) rfl⟩
theorem storeMissing{S0 S1:Nat→Prop}(s:StA)(z:OpA)(TK:TypeId)(w:World)(K0:Kst w TK)(G:StI S0 w s)(hr:z.o.rng)(row:WRow .u8 32 S1 w z.pa z.o.n z.o.ids)(cap:z.o.n≤z.pc):
  Calls Tryz.prog 9 #[.agg (srC s).toArray, .agg (opC z).toArray] w (Ret w fun v _=>v= .bool true):=by
 refine J.enter 121 Tryz.func9 rfl rfl ?_;refine run ?_;refine J.box rfl rfl rfl fun b1=>?_
 refine J.box rfl rfl rfl fun b2=>?_
 refine run ?_;refine J.b1G opC z opC_len rfl rfl rfl fun b3=>?_
 refine run ?_;refine J.call rfl rfl (fun w' M=>(RG.own' (a:=some ⟨b3,0,none⟩) w' M).elim fun _ k0=>stFit (S2:=fun _=>True) s _ 1 1 [z] w' (G.ext M.ext) (grI_ops (k0.weaken fun _ _ _=>trivial) (fun y hy=>by obtain rfl:=List.mem_singleton.1 hy;exact⟨hr,cap,(row.ext M.ext).weaken fun _ _ _=>trivial⟩) (Nat.le_refl _))) fun f hf=>?_
 cases f with
 |false=>
  refine run ?_;refine J.callp rfl rfl (fun w' M=>stAlive TK w' (K0.ext M.ext)) ?_;refine run ?_;exact J.fin rfl
 |true=>
 obtain⟨h1,h2,h3,h4,h5⟩:=hf rfl;have H:=G.st h1;have R:OpR S1 w z:=⟨hr.ok (h4.2.2.2 0 Nat.one_pos),row,cap⟩
 have hv:S.verE z.o=0:=h5 z (List.mem_singleton.2 rfl);have he:S.askE s.V z.o=0:=(S.askE_v h2).trans hv;obtain⟨m1,m2,m3⟩:=S.ms_mem he row.len;have hchk:=S.verE_check hv;have hcp:=H.cap;have h40:=R.ok.n;have hml:S.msN s.V z.o≤40:=by
  rw[(S.ms_yes he).1];exact Nat.le_trans (S.numF_le _ _) h40
 have hA:=S.sha_arr (S.encS z.o);refine run ?_;refine J.call rfl rfl (fun w' M=>stMissing s z TK w' (K0.ext M.ext) (H.ext M.ext) (R.ext M.ext)) fun q hq=>?_
 rw[he];refine run ?_;refine J.call rfl rfl (fun w' M=>stOffer s z TK w' (K0.ext M.ext) (H.ext M.ext) (R.ext M.ext)) fun u hu=>?_
 rw[he,(S.of_yes he).2];refine run ?_;refine J.alloc rfl fun b4=>?_
 refine run ?_;refine J.callp rfl rfl (fun w' M=>idO z.o R.ok _ _ _ _ (K0.ext M.ext) (R.row.ext M.ext) R.cap) ?_;rw[if_pos hchk,hchk];refine run ?_;refine J.alloc rfl fun b5=>?_
 refine run ?_;refine J.callp rfl rfl (fun w' M=>stHas s _ TK w' (K0.ext M.ext) (H.ext M.ext) hA) ?_;rw[S.hasT_0 h2,S.chkT_0 h2];refine run ?_;refine J.callp rfl rfl (fun w' M=>(RW.own' (a:=q.1) w' M).elim fun _ k0=>risingR _ _ _ _ w' k0 hq (by omega)) ?_;rw[decide_eq_true m2];refine run ?_;refine J.callp rfl rfl (fun w' M=>(RW.own' (a:=q.1) w' M).elim fun _ k1=>refAll _ _ _ _ _ _ _ _ w' (row.ext M.ext) k1 (by omega) (by omega)) ?_;rw[show decide (S.allI z.o.n z.o.ids (S.msN s.V z.o) (S.msL s.V z.o))=true from decide_eq_true fun j hj=>((m3 _).1 ⟨j,hj,rfl⟩).1];refine run ?_;refine J.loopS (A:=Nat) (fun p=>[(14, .int .i64 (p:Nat))]) [15,16,73,74,75,76,77,78,79,80,81,82,83,84,85,86,87,88,89,90,91,92,93,94,95,96,97,98,99,100,101,102,103] (fun p=>p≤z.o.n) (fun p=>z.o.n - p) 0 (by kernel_rfl) (Nat.zero_le _) (fun p j hI=>?_);refine run ?_;refine J.ifd rfl (fun d1=>?_) (fun d1=>?_)
 ·obtain⟨y,hy⟩:=ex (elt 32 z.o.ids ((p:Nat):Int).toNat);have hy':S.idAt z.o.ids p=y:=by rw[hy,Int.toNat_natCast];rfl
  have hyA:Arr .u8 32 y:=hy▸row.elt_arr (by omega);have hin:S.inS z.o.n z.o.ids y:=⟨p,by omega,hy'⟩
  refine run ?_;refine J.regionX [(0, .q),(1, .q),(2, .q),(3, .q),(4, .q),(5, .q),(6, .e),(7, .q),(8, .q),(9, .q),(10, .q),(11, .q)] mixed (by kernel_rfl) ?_;refine run ?_;refine J.callp rfl rfl (fun w' M=>stHas s y TK w' (K0.ext M.ext) (H.ext M.ext) hyA) ?_;rw[S.hasT_0 h2,S.chkT_0 h2];refine run ?_;refine J.callp rfl rfl (fun w' M=>(RW.own' (a:=q.1) w' M).elim fun _ k0=>refAt _ _ _ _ y w' k0 hyA (by omega)) ?_;refine run ?_;refine J.ifb rfl (fun c=>?_) (fun c=>?_)
  ·exfalso;have hB:(0≤S.atS (S.msN s.V z.o) (S.msL s.V z.o) y)↔¬S.inS s.V.n s.V.os y:=by
    have h:=S.at_neg (m:=S.msN s.V z.o) (ids:=S.msL s.V z.o) (x:=y);have h2:=m3 y;constructor
    ·intro k ka;have k2:¬S.inS (S.msN s.V z.o) (S.msL s.V z.o) y:=fun hh=>(h2.1 hh).2 ka;have:=h.2 k2;omega
    intro k;have hh:=h2.2 ⟨hin,k⟩;have:¬(S.atS (S.msN s.V z.o) (S.msL s.V z.o) y<0):=fun e=>h.1 e hh;omega
   by_cases k:S.inS s.on s.os y
   ·rw[decide_eq_true k,decide_eq_false (fun e=>(hB.1 e) k)]at c;cases c
   rw[decide_eq_false k,decide_eq_true (hB.2 k)]at c;cases c
  refine run ?_;exact J.nextS (p+1) ⟨rfl,trivial⟩ (by kernel_rfl) (by omega) (by omega)
 have hmz:=S.ms_zero he;by_cases a1:S.inS s.V.n s.V.os (S.idOf z.o)
 ·rw[S.jud_5 a1,show decide (S.inS s.V.n s.V.os (S.sha (S.encS z.o)))=true from decide_eq_true a1];refine run ?_;refine J.callp rfl rfl (fun w' M=>stAlive TK w' (K0.ext M.ext)) ?_;refine run ?_;exact J.fin rfl
 rw[show decide (S.inS s.V.n s.V.os (S.sha (S.encS z.o)))=false from decide_eq_false a1];by_cases a2:S.allI s.V.n s.V.os z.o.n z.o.ids
 ·have e0:=hmz.2 a2;have hj:S.judT s.V z.o=8∨S.judT s.V z.o=1:=by
   by_cases a3:(s.V.n:Int)=s.V.cap
   ·exact .inl (S.jud_8 a1 a2 a3)
   exact .inr (S.jud_1 a1 a2 a3)
  rcases hj with hj|hj<;>rw[hj,e0]
  ·refine run ?_;refine J.callp rfl rfl (fun w' M=>stAlive TK w' (K0.ext M.ext)) ?_;refine run ?_;exact J.fin rfl
  refine run ?_;refine J.callp rfl rfl (fun w' M=>stAlive TK w' (K0.ext M.ext)) ?_;refine run ?_;exact J.fin rfl
 have e0:0<S.msN s.V z.o:=Nat.pos_of_ne_zero fun h=>a2 (hmz.1 h);rw[S.jud_6 a1 a2];have e1:(0:Int)<(S.msN s.V z.o:Nat):=by omega
 refine run ?_;refine J.sp rfl rfl rfl (fun c=>?_) (fun c=>?_)
 ·refine run ?_;refine J.callp rfl rfl (fun w' M=>stAlive TK w' (K0.ext M.ext)) ?_;refine run ?_;exact J.fin rfl
 exact absurd c (by simp[e0])
end Go.Proofs.YtaapnlnileblaaaGreatDoor.W
namespace Go.Proofs.YtaapnlnileblaaaGreatDoor.L
open Go Go.Proofs.YtaapnlnileblaaaGreatDoor Go.Proofs.YtaapnlnileblaaaGreatDoor.G Go.Proofs.YtaapnlnileblaaaGreatDoor.W
open Go.ChangeShapes Go.WideShapes Go.ChangeAt Go.RowKit
set_option linter.unusedVariables false
set_option maxRecDepth 100000
theorem storeMissing_door(os:Os)(args:Array Value):laidMetH Tryz.prog [("braid/digest.constants",Rows.laid_braid_digest_constants)] ((World.doorLaid Tryz.prog 400 os).forCall (fun _ _=>0) ⟨#[],args,[]⟩).memory:=
  laidMetH_of_parts3 (fuel:=8) (laidMet_of_run' 8 (by kernel_rfl) (by kernel_rfl)) (by kernel_rfl) (by kernel_rfl)
theorem storeMissing_lifted(os:Os)(started:os.Started)(H:Type)(enc:TypeId×Value→H):
    ReturnsInHanded {} Tryz.checked os 9 .any (fun w args=>(Rows.storeMissingSpec.pre enc Tryz.prog Tryz.f9 [] false w args∧laidMetH Tryz.prog [("braid/digest.constants",Rows.laid_braid_digest_constants)] w)∧sizedMet enc Tryz.prog Tryz.f9 (OpenSpec.ofChange Rows.storeMissingSpec) false w args)
      (Rows.storeMissingSpec.post enc Tryz.prog Tryz.f9 false true false false):=by
  refine returnsInHanded_of_change_and (C:=Tryz.checked) (X:=fun w _=>laidMetH Tryz.prog [("braid/digest.constants",Rows.laid_braid_digest_constants)] w) (fun _ _ _ hh h=>h.of_heap hh) own started (by kernel_rfl) Tryz.func9
    (ChangeSpec.witness_shaped (enc:=enc) (C:=Tryz.checked) (os:=os) (X:=fun w _=>laidMetH Tryz.prog [("braid/digest.constants",Rows.laid_braid_digest_constants)] w) false (World.doorLaid Tryz.prog 400 os) #[.agg #[.int .i64 0, .slice none 0 0, .slice none 0 0, .int .i64 0, .slice none 0 0], .agg #[.int .u32 0, .slice none 0 0, .int .u64 0, .int .u8 0, .string .empty, .int .u8 0, .int .i64 0, .int .u64 0, .string .empty, .int .u32 0, .int .u32 0]] 8 rfl (World.shaped_of_RefB (by kernel_rfl) (by kernel_rfl)) (by kernel_rfl) (by kernel_rfl) (by kernel_rfl) (storeMissing_door os _)) ?_
  intro W base args ds gs before hval0 hW _ _ hL _;have hval:∀(j:Nat) t v,Tryz.f9.params[j]? =some t→args[j]? =some v→Value.okWide Tryz.prog W .any base t v:=hval0;have hW':=hW;obtain⟨p,q,hA0,hV,rfl,hfz,hnd⟩:=hW;have hA:DataW.TrodAll enc Tryz.prog W 0 (fun _=>true) true Tryz.f9.params.toList args.toList ds p:=hA0;rw[Tryz.params9]at hA hval;obtain⟨v0,vs0,d0,ds0,p0,q0,hargs,rfl,rfl,h0,r0⟩:=trodAll_cons hA;obtain⟨v1,vs1,d1,ds1,p1,q1,e1,rfl,rfl,h1,r1⟩:=trodAll_cons r0;obtain⟨rfl,rfl,rfl⟩:=trodAll_nil r1;subst e1;obtain rfl:args= #[v0,v1]:=by cases args;simp_all
  obtain⟨rfl,rfl⟩:=trodVars_none hV;obtain⟨cs0,rfl,_⟩:=okWide_struct Tryz.underlying27 (hval 0 27 v0 rfl rfl);obtain⟨cs1,rfl,_⟩:=okWide_struct Tryz.underlying39 (hval 1 39 v1 rfl rfl);have k0:=h0;have lt0:∀x∈p0,x.block<W.heap.size:=by obtain⟨m,hm⟩:=k0;exact DataW.trod_lt m _ _ _ hm
  obtain⟨fuel0,hf0⟩:=h0;obtain⟨s0,hcs0,hG0⟩:=store_in hf0;have hv0:(Value.agg cs0)= .agg (srC s0).toArray:=by
    congr 1;apply Array.ext';exact hcs0
  have k1:=h1;have lt1:∀x∈p1,x.block<W.heap.size:=by obtain⟨m,hm⟩:=k1;exact DataW.trod_lt m _ _ _ hm
  obtain⟨fuel1,hf1⟩:=h1;obtain⟨o1,pa1,pc1,hcs1,hr1,hc1,hR1⟩:=op_in hf1;have hv1:(Value.agg cs1)= .agg ([.int .u32 o1.au, .slice pa1 o1.n pc1, .int .u64 o1.st, .int .u8 o1.k, .string o1.key, .int .u8 o1.vk, .int .i64 o1.num, .int .u64 o1.bits, .string o1.t, .int .u32 o1.e, .int .u32 o1.s]:List Value).toArray:=by
    congr 1;apply Array.ext';exact hcs1
  have K0:=of_laid hL;clear hA0 hval0;have hwalk:=storeMissing s0 ⟨o1,pa1,pc1⟩ 0 W K0 hG0 hr1 hR1 hc1;rw[←hv0,←hv1]at hwalk;refine hwalk.mono fun e W' hret=>?_
  obtain⟨v,rfl,bel,rfl⟩:=hret;exact⟨_,rfl,_,_,_,[],_,[],hW',trodAll_mk1 (shut_bool Tryz.underlying4 _),(trodAll_cons_mk (Below.trod laidOut (by kernel_rfl) (of_decide_eq_true (by kernel_rfl)) k0 bel lt0) (trodAll_cons_mk (Below.trod laidOut (by kernel_rfl) (of_decide_eq_true (by kernel_rfl)) k1 bel lt1) trodAll_mk0)),rfl,bel.frame _,fun h=>by cases h⟩
theorem storeMissing_closed:joinedFacts Tryz.prog 9 Tryz.f9 Rows.storeMissingSpec Rows.storeMissingRow=true:=by
  unfold joinedFacts;rw[storeMissing_f1,storeMissing_f2,storeMissing_f3,storeMissing_f4]
  kernel_rfl
theorem storeMissing_holds:Rows.StoreMissingSaid:=
  OpenClaim.holds_of_wide 9 Tryz.f9 rfl rfl rfl rfl rfl rfl rfl ⟨rfl,rfl,rfl,rfl,rfl⟩ rfl rfl rfl rfl rfl (by kernel_rfl) Tryz.func9 storeMissing_closed
    (of_decide_eq_true (by kernel_rfl)) (by unfold Func.isWrapper;first|(rw[if_pos (by decide+kernel)];kernel_rfl)|(rw[if_neg (by decide+kernel)];exact⟨rfl,rfl⟩))
    (fun os started H enc _=>storeMissing_lifted os started H enc)
theorem storeMissing_card:Rows.StoreMissingCardSaid:=
  Claim7.holds_tied_plain_at .later [] [.data] true (true, "834974f09f41892157c36901e70b4ab6f14d5290977dc85458caf343113352fd") false
    storeMissing_holds (fun _ h=>by cases h) (by kernel_rfl) (fun _ h=>by cases h) storeMissing_row_tie rfl ⟨rfl,rfl⟩ (by kernel_rfl) rfl
    (fun f fn hf hfn => by
      obtain rfl : f = 9 := Option.some.inj ((show Tryz.prog.funcNamed "braid/braidlaw12.StoreMissing" = some 9 by kernel_rfl).symm.trans hf) |>.symm
      obtain rfl : fn = Tryz.f9 := (Option.some.inj (Tryz.func9.symm.trans hfn)).symm
      exact ⟨by kernel_rfl, fun j t ht => by
        rw [Tryz.params9] at ht
        have hm : t ∈ [27, 39] := by simpa using Array.mem_of_getElem? ht
        have hall : ([27, 39].all fun u => !Tryz.prog.wantsStandIn u) = true := by kernel_rfl
        exact (show Tryz.prog.wantsStandIn t = false by simpa using List.all_eq_true.1 hall t hm)⟩)
    (by kernel_rfl)
end Go.Proofs.YtaapnlnileblaaaGreatDoor.L
