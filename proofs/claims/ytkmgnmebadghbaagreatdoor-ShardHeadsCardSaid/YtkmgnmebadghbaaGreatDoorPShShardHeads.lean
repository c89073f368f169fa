/-
  ShardHeads: the heads are those of the graph, the version is how many operations it has, and what Put makes of the heads. Condition: the table digest.constants is as its initialiser lays it (tied by the card).
-/
import Derived.Test.YtkmgnmebadghbaaGreatDoorPSh16
namespace Go.Proofs.YtkmgnmebadghbaaGreatDoor.L
open Go Go.Proofs.YtkmgnmebadghbaaGreatDoor Go.Proofs.YtkmgnmebadghbaaGreatDoor.G Go.Proofs.YtkmgnmebadghbaaGreatDoor.W
open Go.ChangeShapes Go.WideShapes Go.ChangeAt Go.RowKit
set_option linter.unusedVariables false
set_option maxRecDepth 100000
theorem shardHeads_door(os:Os)(args:Array Value):laidMetH Tryz.prog [("braid/digest.constants",Rows.laid_braid_digest_constants)] ((World.doorLaid Tryz.prog 400 os).forCall (fun _ _=>0) ⟨#[],args,[]⟩).memory:=
  laidMetH_of_parts3 (fuel:=8) (laidMet_of_run' 8 (by kernel_rfl) (by kernel_rfl)) (by kernel_rfl) (by kernel_rfl)
theorem shardHeads_lifted(os:Os)(started:os.Started)(H:Type)(enc:TypeId×Value→H):
    ReturnsInHanded {} Tryz.checked os 6 .any (fun w args=>(Rows.shardHeadsSpec.pre enc Tryz.prog Tryz.f6 [] false w args∧laidMetH Tryz.prog [("braid/digest.constants",Rows.laid_braid_digest_constants)] w)∧sizedMet enc Tryz.prog Tryz.f6 (OpenSpec.ofChange Rows.shardHeadsSpec) false w args)
      (Rows.shardHeadsSpec.post enc Tryz.prog Tryz.f6 false true false false):=by
  refine returnsInHanded_of_change_and (C:=Tryz.checked) (X:=fun w _=>laidMetH Tryz.prog [("braid/digest.constants",Rows.laid_braid_digest_constants)] w) (fun _ _ _ hh h=>h.of_heap hh) own started (by kernel_rfl) Tryz.func6
    (ChangeSpec.witness_shaped (enc:=enc) (C:=Tryz.checked) (os:=os) (X:=fun w _=>laidMetH Tryz.prog [("braid/digest.constants",Rows.laid_braid_digest_constants)] w) false (World.doorLaid Tryz.prog 400 os) #[.agg #[.slice none 0 0, .slice none 0 0, .int .i64 0], .agg #[.int .u32 0, .slice none 0 0, .int .u64 0, .int .u8 0, .string .empty, .int .u8 0, .int .i64 0, .int .u64 0, .string .empty, .int .u32 0, .int .u32 0]] 8 rfl (World.shaped_of_RefB (by kernel_rfl) (by kernel_rfl)) (by kernel_rfl) (by kernel_rfl) (by kernel_rfl) (shardHeads_door os _)) ?_
  intro W base args ds gs before hval0 hW _ _ hL _;have hval:∀(j:Nat) t v,Tryz.f6.params[j]? =some t→args[j]? =some v→Value.okWide Tryz.prog W .any base t v:=hval0;have hW':=hW;obtain⟨p,q,hA0,hV,rfl,hfz,hnd⟩:=hW;have hA:DataW.TrodAll enc Tryz.prog W 0 (fun _=>true) true Tryz.f6.params.toList args.toList ds p:=hA0;rw[Tryz.params6]at hA hval;obtain⟨v0,vs0,d0,ds0,p0,q0,hargs,rfl,rfl,h0,r0⟩:=trodAll_cons hA;obtain⟨v1,vs1,d1,ds1,p1,q1,e1,rfl,rfl,h1,r1⟩:=trodAll_cons r0;obtain⟨rfl,rfl,rfl⟩:=trodAll_nil r1;subst e1;obtain rfl:args= #[v0,v1]:=by cases args;simp_all
  obtain⟨rfl,rfl⟩:=trodVars_none hV;obtain⟨cs0,rfl,_⟩:=okWide_struct Tryz.underlying25 (hval 0 25 v0 rfl rfl);obtain⟨cs1,rfl,_⟩:=okWide_struct Tryz.underlying54 (hval 1 54 v1 rfl rfl);have k0:=h0;have lt0:∀x∈p0,x.block<W.heap.size:=by obtain⟨m,hm⟩:=k0;exact DataW.trod_lt m _ _ _ hm
  obtain⟨fuel0,hf0⟩:=h0;obtain⟨s0,hcs0,hG0⟩:=shards_in hf0;have hv0:(Value.agg cs0)= .agg (shC s0).toArray:=by
    congr 1;apply Array.ext';exact hcs0
  have k1:=h1;have lt1:∀x∈p1,x.block<W.heap.size:=by obtain⟨m,hm⟩:=k1;exact DataW.trod_lt m _ _ _ hm
  obtain⟨fuel1,hf1⟩:=h1;obtain⟨o1,pa1,pc1,hcs1,hr1,hc1,hR1⟩:=op_in hf1;have hv1:(Value.agg cs1)= .agg ([.int .u32 o1.au, .slice pa1 o1.n pc1, .int .u64 o1.st, .int .u8 o1.k, .string o1.key, .int .u8 o1.vk, .int .i64 o1.num, .int .u64 o1.bits, .string o1.t, .int .u32 o1.e, .int .u32 o1.s]:List Value).toArray:=by
    congr 1;apply Array.ext';exact hcs1
  have K0:=of_laid hL;clear hA0 hval0;have hwalk:=shardHeads s0 ⟨o1,pa1,pc1⟩ 0 W K0 hG0 hr1 hR1 hc1;rw[←hv0,←hv1]at hwalk;refine hwalk.mono fun e W' hret=>?_
  obtain⟨v,rfl,bel,rfl⟩:=hret;exact⟨_,rfl,_,_,_,[],_,[],hW',trodAll_mk1 (shut_bool Tryz.underlying4 _),(trodAll_cons_mk (Below.trod laidOut (by kernel_rfl) (of_decide_eq_true (by kernel_rfl)) k0 bel lt0) (trodAll_cons_mk (Below.trod laidOut (by kernel_rfl) (of_decide_eq_true (by kernel_rfl)) k1 bel lt1) trodAll_mk0)),rfl,bel.frame _,fun h=>by cases h⟩
theorem shardHeads_closed:joinedFacts Tryz.prog 6 Tryz.f6 Rows.shardHeadsSpec Rows.shardHeadsRow=true:=by
  unfold joinedFacts;rw[shardHeads_f1,shardHeads_f2,shardHeads_f3,shardHeads_f4]
  kernel_rfl
theorem shardHeads_holds:Rows.ShardHeadsSaid:=
  OpenClaim.holds_of_wide 6 Tryz.f6 rfl rfl rfl rfl rfl rfl rfl ⟨rfl,rfl,rfl,rfl,rfl⟩ rfl rfl rfl rfl rfl (by kernel_rfl) Tryz.func6 shardHeads_closed
    (of_decide_eq_true (by kernel_rfl)) (by unfold Func.isWrapper;first|(rw[if_pos (by decide+kernel)];kernel_rfl)|(rw[if_neg (by decide+kernel)];exact⟨rfl,rfl⟩))
    (fun os started H enc _=>shardHeads_lifted os started H enc)
theorem shardHeads_card:Rows.ShardHeadsCardSaid:=
  Claim7.holds_tied_plain_at .later [] [.data] true (true, "b77e1e1f9fa75a27e8fe6291a7ee2c94acf9ddad987ab8ff726f635ebd6978e7") false
    shardHeads_holds (fun _ h=>by cases h) (by kernel_rfl) (fun _ h=>by cases h) shardHeads_row_tie rfl ⟨rfl,rfl⟩ (by kernel_rfl) rfl
    (fun f fn hf hfn => by
      obtain rfl : f = 6 := Option.some.inj ((show Tryz.prog.funcNamed "braid/braidlaw11.ShardHeads" = some 6 by kernel_rfl).symm.trans hf) |>.symm
      obtain rfl : fn = Tryz.f6 := (Option.some.inj (Tryz.func6.symm.trans hfn)).symm
      exact ⟨by kernel_rfl, fun j t ht => by
        rw [Tryz.params6] at ht
        have hm : t ∈ [25, 54] := by simpa using Array.mem_of_getElem? ht
        have hall : ([25, 54].all fun u => !Tryz.prog.wantsStandIn u) = true := by kernel_rfl
        exact (show Tryz.prog.wantsStandIn t = false by simpa using List.all_eq_true.1 hall t hm)⟩)
    (by kernel_rfl)
end Go.Proofs.YtkmgnmebadghbaaGreatDoor.L
