/-
  TopSign: digests, signatures, bytes and verdicts agree. Condition: the table digest.constants is as its initialiser lays it (tied by the card).
-/
import Derived.Test.YtfoaecjggdaieaaDoorPTs11
namespace Go.Proofs.YtfoaecjggdaieaaDoor.L
open Go Go.Proofs.YtfoaecjggdaieaaDoor Go.Proofs.YtfoaecjggdaieaaDoor.G Go.Proofs.YtfoaecjggdaieaaDoor.W
open Go.ChangeShapes Go.WideShapes Go.ChangeAt Go.RowKit
set_option linter.unusedVariables false
set_option maxRecDepth 100000
theorem topSign_door(os:Os)(args:Array Value):laidMetH Tryd.prog [("braid/digest.constants",Rows.laid_braid_digest_constants)] ((World.doorLaid Tryd.prog 400 os).forCall (fun _ _=>0) ⟨#[],args,[]⟩).memory:=
  laidMetH_of_parts3 (fuel:=8) (laidMet_of_run' 8 (by kernel_rfl) (by kernel_rfl)) (by kernel_rfl) (by kernel_rfl)
theorem topSign_lifted(os:Os)(started:os.Started)(H:Type)(enc:TypeId×Value→H):
    ReturnsInHanded {} Tryd.checked os 3 .any (fun w args=>(Rows.topSignSpec.pre enc Tryd.prog Tryd.f3 [] false w args∧laidMetH Tryd.prog [("braid/digest.constants",Rows.laid_braid_digest_constants)] w)∧sizedMet enc Tryd.prog Tryd.f3 (OpenSpec.ofChange Rows.topSignSpec) false w args)
      (Rows.topSignSpec.post enc Tryd.prog Tryd.f3 false true false false):=by
  refine returnsInHanded_of_change_and (C:=Tryd.checked) (X:=fun w _=>laidMetH Tryd.prog [("braid/digest.constants",Rows.laid_braid_digest_constants)] w) (fun _ _ _ hh h=>h.of_heap hh) own started (by kernel_rfl) Tryd.func3
    (ChangeSpec.witness_shaped (enc:=enc) (C:=Tryd.checked) (os:=os) (X:=fun w _=>laidMetH Tryd.prog [("braid/digest.constants",Rows.laid_braid_digest_constants)] w) false (World.doorLaid Tryd.prog 400 os) #[.int .u32 0, .agg #[.int .u32 0, .slice none 0 0, .int .u64 0, .int .u8 0, .string .empty, .int .u8 0, .int .i64 0, .int .u64 0, .string .empty, .int .u32 0, .int .u32 0], .int .i64 0, .int .u8 0] 8 rfl (World.shaped_of_RefB (by kernel_rfl) (by kernel_rfl)) (by kernel_rfl) (by kernel_rfl) (by kernel_rfl) (topSign_door os _)) ?_
  intro W base args ds gs before hval0 hW _ _ hL _;have hval:∀(j:Nat) t v,Tryd.f3.params[j]? =some t→args[j]? =some v→Value.okWide Tryd.prog W .any base t v:=hval0;have hW':=hW;obtain⟨p,q,hA0,hV,rfl,hfz,hnd⟩:=hW;have hA:DataW.TrodAll enc Tryd.prog W 0 (fun _=>true) true Tryd.f3.params.toList args.toList ds p:=hA0;rw[Tryd.params3]at hA hval;obtain⟨v0,vs0,d0,ds0,p0,q0,hargs,rfl,rfl,h0,r0⟩:=trodAll_cons hA;obtain⟨v1,vs1,d1,ds1,p1,q1,e1,rfl,rfl,h1,r1⟩:=trodAll_cons r0;obtain⟨v2,vs2,d2,ds2,p2,q2,e2,rfl,rfl,h2,r2⟩:=trodAll_cons r1;obtain⟨v3,vs3,d3,ds3,p3,q3,e3,rfl,rfl,h3,r3⟩:=trodAll_cons r2;obtain⟨rfl,rfl,rfl⟩:=trodAll_nil r3;subst e3;subst e2;subst e1;obtain rfl:args= #[v0,v1,v2,v3]:=by cases args;simp_all
  obtain⟨rfl,rfl⟩:=trodVars_none hV;obtain⟨n0,rfl⟩:=okWide_int Tryd.underlying22 (hval 0 22 v0 rfl rfl);obtain⟨cs1,rfl,_⟩:=okWide_struct Tryd.underlying32 (hval 1 32 v1 rfl rfl);obtain⟨n2,rfl⟩:=okWide_int Tryd.underlying3 (hval 2 3 v2 rfl rfl);obtain⟨n3,rfl⟩:=okWide_int Tryd.underlying5 (hval 3 5 v3 rfl rfl);have k0:=h0;have lt0:∀x∈p0,x.block<W.heap.size:=by obtain⟨m,hm⟩:=k0;exact DataW.trod_lt m _ _ _ hm
  obtain⟨fuel0,hf0⟩:=h0;obtain⟨_,he0,hx0⟩:=int_in Tryd.underlying22 hf0;have hl0:IntKind.min .u32=0∧IntKind.max .u32=4294967295:=by decide
  obtain rfl:=(Value.int.inj (List.cons.inj he0).1).2;have k1:=h1;have lt1:∀x∈p1,x.block<W.heap.size:=by obtain⟨m,hm⟩:=k1;exact DataW.trod_lt m _ _ _ hm
  obtain⟨fuel1,hf1⟩:=h1;obtain⟨o1,pa1,pc1,hcs1,hr1,hc1,hR1⟩:=op_in hf1;have hv1:(Value.agg cs1)= .agg ([.int .u32 o1.au, .slice pa1 o1.n pc1, .int .u64 o1.st, .int .u8 o1.k, .string o1.key, .int .u8 o1.vk, .int .i64 o1.num, .int .u64 o1.bits, .string o1.t, .int .u32 o1.e, .int .u32 o1.s]:List Value).toArray:=by
    congr 1;apply Array.ext';exact hcs1
  have k2:=h2;have lt2:∀x∈p2,x.block<W.heap.size:=by obtain⟨m,hm⟩:=k2;exact DataW.trod_lt m _ _ _ hm
  obtain⟨fuel2,hf2⟩:=h2;obtain⟨_,he2,hx2⟩:=int_in Tryd.underlying3 hf2;have hl2:IntKind.min .i64= -9223372036854775808∧IntKind.max .i64=9223372036854775807:=by decide
  obtain rfl:=(Value.int.inj (List.cons.inj he2).1).2;have k3:=h3;have lt3:∀x∈p3,x.block<W.heap.size:=by obtain⟨m,hm⟩:=k3;exact DataW.trod_lt m _ _ _ hm
  obtain⟨fuel3,hf3⟩:=h3;obtain⟨_,he3,hx3⟩:=int_in Tryd.underlying5 hf3;have hl3:IntKind.min .u8=0∧IntKind.max .u8=255:=by decide
  obtain rfl:=(Value.int.inj (List.cons.inj he3).1).2;have K0:=of_laid hL;clear hA0 hval0;have hwalk:=topSign n0 (by omega) o1 hr1 pa1 pc1 n2 n3 (by omega) 0 W K0 hR1 hc1;rw[←hv1]at hwalk;refine hwalk.mono fun e W' hret=>?_
  obtain⟨v,rfl,bel,rfl⟩:=hret;exact⟨_,rfl,_,_,_,[],_,[],hW',trodAll_mk1 (shut_bool Tryd.underlying4 _),(trodAll_cons_mk (Below.trod laidOut (by kernel_rfl) (of_decide_eq_true (by kernel_rfl)) k0 bel lt0) (trodAll_cons_mk (Below.trod laidOut (by kernel_rfl) (of_decide_eq_true (by kernel_rfl)) k1 bel lt1) (trodAll_cons_mk (Below.trod laidOut (by kernel_rfl) (of_decide_eq_true (by kernel_rfl)) k2 bel lt2) (trodAll_cons_mk (Below.trod laidOut (by kernel_rfl) (of_decide_eq_true (by kernel_rfl)) k3 bel lt3) trodAll_mk0)))),rfl,bel.frame _,fun h=>by cases h⟩
theorem topSign_closed:joinedFacts Tryd.prog 3 Tryd.f3 Rows.topSignSpec Rows.topSignRow=true:=by
  unfold joinedFacts;rw[topSign_f1,topSign_f2,topSign_f3,topSign_f4]
  kernel_rfl
theorem topSign_holds:Rows.TopSignSaid:=
  OpenClaim.holds_of_wide 3 Tryd.f3 rfl rfl rfl rfl rfl rfl rfl ⟨rfl,rfl,rfl,rfl,rfl⟩ rfl rfl rfl rfl rfl (by kernel_rfl) Tryd.func3 topSign_closed
    (of_decide_eq_true (by kernel_rfl)) (by unfold Func.isWrapper;first|(rw[if_pos (by decide+kernel)];kernel_rfl)|(rw[if_neg (by decide+kernel)];exact⟨rfl,rfl⟩))
    (fun os started H enc _=>topSign_lifted os started H enc)
theorem topSign_card:Rows.TopSignCardSaid:=
  Claim7.holds_tied_plain_at .later [] [.data] true (true, "a747aaf020fbec03000733adeba7b61568de4ece9955e229cfb5211a24dfcd12") false
    topSign_holds (fun _ h=>by cases h) (by kernel_rfl) (fun _ h=>by cases h) topSign_row_tie rfl ⟨rfl,rfl⟩ (by kernel_rfl) rfl
    (fun f fn hf hfn => by
      obtain rfl : f = 3 := Option.some.inj ((show Tryd.prog.funcNamed "braid/braidtop.TopSign" = some 3 by kernel_rfl).symm.trans hf) |>.symm
      obtain rfl : fn = Tryd.f3 := (Option.some.inj (Tryd.func3.symm.trans hfn)).symm
      exact ⟨by kernel_rfl, fun j t ht => by
        rw [Tryd.params3] at ht
        have hm : t ∈ [22, 32, 3, 5] := by simpa using Array.mem_of_getElem? ht
        have hall : ([22, 32, 3, 5].all fun u => !Tryd.prog.wantsStandIn u) = true := by kernel_rfl
        exact (show Tryd.prog.wantsStandIn t = false by simpa using List.all_eq_true.1 hall t hm)⟩)
    (by kernel_rfl)
end Go.Proofs.YtfoaecjggdaieaaDoor.L
