/-
  StoreFinds: New, Has, Missing, Graph and Since answer as the reference does. Condition: the table digest.constants is as its initialiser lays it (tied by the card).
-/
import Derived.Test.YtaapnlnileblaaaGreatDoorPSfStoreFindsb
namespace Go.Proofs.YtaapnlnileblaaaGreatDoor.W
open Go.RowKit Go.Proofs.YtaapnlnileblaaaGreatDoor.G
set_option linter.unusedVariables false
set_option linter.unusedSimpArgs false
set_option maxRecDepth 20000
set_option maxHeartbeats 8000000
attribute [local irreducible] RS RX RY Code.wp bodyPost J Ent.blk Ent.iown Ent.wrow Ent.wown Ent.gown Ent.all Ent.emp
instance:Ents Tryz.prog 15:=⟨.mk Tryz.func15 (by kernel_rfl) rfl⟩
instance:Ents Tryz.prog 17:=⟨.mk Tryz.func17 (by kernel_rfl) rfl⟩
instance:Ents Tryz.prog 18:=⟨.mk Tryz.func18 (by kernel_rfl) rfl⟩
instance:Ents Tryz.prog 19:=⟨.mk Tryz.func19 (by kernel_rfl) rfl⟩
instance:Ents Tryz.prog 20:=⟨.mk Tryz.func20 (by kernel_rfl) rfl⟩
instance:Ents Tryz.prog 21:=⟨.mk Tryz.func21 (by kernel_rfl) rfl⟩
instance:Ents Tryz.prog 22:=⟨.mk Tryz.func22 (by kernel_rfl) rfl⟩
instance:Ents Tryz.prog 25:=⟨.mk Tryz.func25 (by kernel_rfl) rfl⟩
instance:Ents Tryz.prog 26:=⟨.mk Tryz.func26 (by kernel_rfl) rfl⟩
instance:Ents Tryz.prog 27:=⟨.mk Tryz.func27 (by kernel_rfl) rfl⟩
theorem StZ.zero:StZ S.StV.zero:=⟨fun p hp=>(by cases hp),⟨Nat.zero_le _,Nat.zero_le _⟩,fun _=>Nat.zero_le _,Nat.zero_le _⟩
theorem StZ.nw(c n:Int):StZ (S.nwT c n):=by
 by_cases h:(1≤c∧c≤40)∧1≤n∧n≤4
 ·rw[(S.nwT_0 h).1];refine⟨fun p hp=>?_,⟨?_,Nat.zero_le _⟩,fun _=>Nat.le_trans (S.allN_made S.nil_fine) (Nat.zero_le _),Nat.zero_le _⟩
  ·obtain⟨i,hi,rfl⟩:=List.mem_map.1 hp;obtain⟨h1,h2⟩:=S.prt_size S.PG.nil n.toNat i;exact⟨Nat.le_trans h1 (Nat.zero_le _),Nat.le_trans h2 (Nat.zero_le _)⟩
  show(S.madeS _ _).ps.length≤6;rw[S.made_len];omega
 rw[(S.nwT_2 h).1];exact StZ.zero
theorem gr_all{S0:Nat→Prop}{w:World}{s:StA}(H:StR S0 w s):(S.grT s.V).good∧(S.grT s.V).m≤60∧∀o∈(S.grT s.V).ops,o.ok:=by
 by_cases h:S.okT s.V
 ·rw[S.grT_0 h];have F:=S.ok_fineT H.g h;exact⟨F.fine.good,F.fine.le,refWholeOk H.sh⟩
 rw[S.grT_8 h];exact⟨S.nil_good,Nat.zero_le _,fun o ho=>by cases ho⟩
theorem ms_le{s:StA}{o:S.OpV}(ho:o.n≤40):S.msN s.V o≤40:=by
 unfold S.msN;split
 ·exact Nat.le_trans (S.numF_le _ _) ho
 exact Nat.zero_le _
theorem sin_le{S0:Nat→Prop}{w:World}{s:StA}(H:StR S0 w s)(k:Int):S.sinN s.V k≤70:=by
 unfold S.sinN;split
 ·exact Nat.le_trans (Nat.sub_le _ _) H.cap.2
 exact Nat.zero_le _
theorem storeFinds{S0 S1:Nat→Prop}(c n:Int)(s:StA)(x:List Int)(z:OpA)(k:Int)(TK:TypeId)(w:World)(K0:Kst w TK)(G:StI S0 w s)(hx:Arr .u8 32 x)(hr:z.o.rng)(row:WRow .u8 32 S1 w z.pa z.o.n z.o.ids)(cap:z.o.n≤z.pc):
  Calls Tryz.prog 3 #[.int .i64 c, .int .i64 n, .agg (srC s).toArray, .agg (ints .u8 x).toArray, .agg (opC z).toArray, .int .i64 k] w (Ret w fun v _=>v= .bool true):=by
 refine J.enter 146 Tryz.func3 rfl rfl ?_;refine run ?_;refine J.box rfl rfl rfl fun b1=>?_
 refine J.box rfl rfl rfl fun b2=>?_
 refine J.box rfl rfl rfl fun b3=>?_
 refine run ?_;refine J.call rfl rfl (fun w' M=>refStGreat s w' (G.ext M.ext)) fun g hg=>?_
 refine run ?_;refine J.sp rfl rfl rfl (fun c1=>?_) (fun c1=>?_)
 ·refine run ?_;exact J.fin rfl
 refine run ?_;refine J.callp rfl rfl (fun w' M=>great z.o z.pa z.pc w') ?_;refine run ?_;refine J.ifd rfl (fun c2=>?_) (fun c2=>?_)
 ·refine run ?_;exact J.fin rfl
 have H:=G.st (hg c1);have R:OpR S1 w z:=⟨hr.ok c2,row,cap⟩
 have h40:=R.ok.n;have hml:=ms_le (s:=s) h40;have hsl:=sin_le H k;obtain⟨a1,a2,a3⟩:=gr_all H;refine run ?_;refine J.call rfl rfl (fun w' M=>stNew c n w') fun u1 hu1=>?_
 refine run ?_;refine J.alloc rfl fun b4=>?_
 refine run ?_;refine J.call rfl rfl (fun w' M=>refStNew c n w') fun u2 hu2=>?_
 refine run ?_;refine J.alloc rfl fun b5=>?_
 refine run ?_;refine J.callp rfl rfl (fun w' M=>stHas s x _ w' (K0.ext M.ext) (H.ext M.ext) hx) ?_;refine run ?_;refine J.callp rfl rfl (fun w' M=>refStHas s x w' (H.ext M.ext) hx) ?_;refine run ?_;refine J.call rfl rfl (fun w' M=>stMissing s z _ w' (K0.ext M.ext) (H.ext M.ext) (R.ext M.ext)) fun m1 hm1=>?_
 refine run ?_;refine J.call rfl rfl (fun w' M=>refStMissing s z w' (H.ext M.ext) (R.ext M.ext)) fun m2 hm2=>?_
 refine run ?_;refine J.call rfl rfl (fun w' M=>stGraph s _ w' (K0.ext M.ext) (H.ext M.ext)) fun g1 hg1=>?_
 dsimp only[grE,List.cons_append,List.nil_append];refine run ?_;refine J.alloc rfl fun b6=>?_
 refine run ?_;refine J.call rfl rfl (fun w' M=>refStGraph s w' (H.ext M.ext)) fun g2 hg2=>?_
 dsimp only[grE,List.cons_append,List.nil_append];refine run ?_;refine J.alloc rfl fun b7=>?_
 refine run ?_;refine J.call rfl rfl (fun w' M=>stSince s k _ w' (K0.ext M.ext) (H.ext M.ext)) fun i1 hi1=>?_
 refine run ?_;refine J.call rfl rfl (fun w' M=>refStSince s k w' (H.ext M.ext)) fun i2 hi2=>?_
 have s1:=GrP.sz hg1 ⟨a1,a2⟩;have s2:=GrP.sz hg2 ⟨a1,a2⟩;refine run ?_;refine J.regionX [(0, .q),(1, .q),(2, .e),(3, .q),(4, .q),(5, .q),(6, .q),(7, .q),(8, .q),(9, .q),(11, .q),(10, .e),(12, .e),(13, .q),(14, .q),(15, .q),(16, .q),(17, .q),(18, .q),(19, .q),(20, .q),(21, .q),(22, .q),(23, .q),(24, .q),(25, .q),(26, .q),(27, .q),(28, .e),(29, .q),(30, .q),(31, .q),(32, .q),(33, .q),(34, .q),(35, .q),(36, .q),(37, .q),(38, .e),(39, .q),(40, .q),(41, .q),(42, .q),(43, .q),(44, .q),(45, .q),(46, .q),(47, .q),(48, .e),(49, .q),(50, .q),(51, .q),(52, .q),(53, .q),(54, .q),(55, .q)] mixed (by kernel_rfl) ?_;refine run ?_;refine J.callp rfl rfl (fun w' M=>refStSame u1 u2 w' (hu1.own (StZ.nw c n) w' M) (hu2.own (StZ.nw c n) w' M)) ?_;rw[show decide (S.eqT u1.V u2.V)=true from decide_eq_true (S.eqT_same (hu1.V.trans hu2.V.symm))];refine run ?_;refine J.spe rfl rfl rfl (fun _=>?_) (fun c=>absurd rfl c);refine run ?_;refine J.callp rfl rfl (fun w' M=>stCheck s _ w' (K0.ext M.ext) (H.ext M.ext)) ?_;refine run ?_;refine J.callp rfl rfl (fun w' M=>refStCheck s w' (H.ext M.ext)) ?_;refine run ?_;refine J.spe rfl rfl rfl (fun _=>?_) (fun c=>absurd rfl c);refine run ?_;refine J.sp rfl rfl rfl (fun _=>?_) (fun c=>absurd c (by simp));refine run ?_;refine J.spe rfl rfl rfl (fun _=>?_) (fun c=>absurd rfl c);refine run ?_;refine J.callp rfl rfl (fun w' M=>(RW.own' (a:=m1.1) w' M).elim fun _ k0=>(RW.own' (a:=m2.1) w' M).elim fun _ k1=>sameIDs _ _ _ _ _ _ _ _ w' k0 k1 (by omega) (by omega)) ?_;refine run ?_;refine J.spd rfl rfl rfl (fun _=>?_) (fun c=>absurd rfl c);refine run ?_;refine J.spe rfl rfl rfl (fun _=>?_) (fun c=>absurd rfl c);refine run ?_;refine J.callp rfl rfl (fun w' M=>refGSame g1 g2 w' (GrR.own (hg1.ok a3) hg1.cap s1 w' M) (GrR.own (hg2.ok a3) hg2.cap s2 w' M)) ?_;refine run ?_
 have hgs:g1.ids=g2.ids∧g1.ops=g2.ops:=⟨hg1.ids.trans hg2.ids.symm,hg1.ops.trans hg2.ops.symm⟩
 refine J.spd rfl rfl rfl (fun _=>?_) (fun c=>absurd hgs c);refine run ?_;refine J.spe rfl rfl rfl (fun _=>?_) (fun c=>absurd rfl c);refine run ?_;refine J.callp rfl rfl (fun w' M=>(RW.own' (a:=i1.1) w' M).elim fun _ k0=>(RW.own' (a:=i2.1) w' M).elim fun _ k1=>sameIDs _ _ _ _ _ _ _ _ w' k0 k1 (by omega) (by omega)) ?_;refine run ?_;refine J.spd rfl rfl rfl (fun _=>?_) (fun c=>absurd rfl c);refine run ?_;exact J.fin (congrArg _ (by simp))
end Go.Proofs.YtaapnlnileblaaaGreatDoor.W
namespace Go.Proofs.YtaapnlnileblaaaGreatDoor.L
open Go Go.Proofs.YtaapnlnileblaaaGreatDoor Go.Proofs.YtaapnlnileblaaaGreatDoor.G Go.Proofs.YtaapnlnileblaaaGreatDoor.W
open Go.ChangeShapes Go.WideShapes Go.ChangeAt Go.RowKit
set_option linter.unusedVariables false
set_option maxRecDepth 100000
theorem storeFinds_door(os:Os)(args:Array Value):laidMetH Tryz.prog [("braid/digest.constants",Rows.laid_braid_digest_constants)] ((World.doorLaid Tryz.prog 400 os).forCall (fun _ _=>0) ⟨#[],args,[]⟩).memory:=
  laidMetH_of_parts3 (fuel:=8) (laidMet_of_run' 8 (by kernel_rfl) (by kernel_rfl)) (by kernel_rfl) (by kernel_rfl)
theorem storeFinds_lifted(os:Os)(started:os.Started)(H:Type)(enc:TypeId×Value→H):
    ReturnsInHanded {} Tryz.checked os 3 .any (fun w args=>(Rows.storeFindsSpec.pre enc Tryz.prog Tryz.f3 [] false w args∧laidMetH Tryz.prog [("braid/digest.constants",Rows.laid_braid_digest_constants)] w)∧sizedMet enc Tryz.prog Tryz.f3 (OpenSpec.ofChange Rows.storeFindsSpec) false w args)
      (Rows.storeFindsSpec.post enc Tryz.prog Tryz.f3 false true false false):=by
  refine returnsInHanded_of_change_and (C:=Tryz.checked) (X:=fun w _=>laidMetH Tryz.prog [("braid/digest.constants",Rows.laid_braid_digest_constants)] w) (fun _ _ _ hh h=>h.of_heap hh) own started (by kernel_rfl) Tryz.func3
    (ChangeSpec.witness_shaped (enc:=enc) (C:=Tryz.checked) (os:=os) (X:=fun w _=>laidMetH Tryz.prog [("braid/digest.constants",Rows.laid_braid_digest_constants)] w) false (World.doorLaid Tryz.prog 400 os) #[.int .i64 0, .int .i64 0, .agg #[.int .i64 0, .slice none 0 0, .slice none 0 0, .int .i64 0, .slice none 0 0], .agg (ints .u8 (List.replicate 32 0)).toArray, .agg #[.int .u32 0, .slice none 0 0, .int .u64 0, .int .u8 0, .string .empty, .int .u8 0, .int .i64 0, .int .u64 0, .string .empty, .int .u32 0, .int .u32 0], .int .i64 0] 8 rfl (World.shaped_of_RefB (by kernel_rfl) (by kernel_rfl)) (by kernel_rfl) (by kernel_rfl) (by kernel_rfl) (storeFinds_door os _)) ?_
  intro W base args ds gs before hval0 hW _ _ hL _;have hval:∀(j:Nat) t v,Tryz.f3.params[j]? =some t→args[j]? =some v→Value.okWide Tryz.prog W .any base t v:=hval0;have hW':=hW;obtain⟨p,q,hA0,hV,rfl,hfz,hnd⟩:=hW;have hA:DataW.TrodAll enc Tryz.prog W 0 (fun _=>true) true Tryz.f3.params.toList args.toList ds p:=hA0;rw[Tryz.params3]at hA hval;obtain⟨v0,vs0,d0,ds0,p0,q0,hargs,rfl,rfl,h0,r0⟩:=trodAll_cons hA;obtain⟨v1,vs1,d1,ds1,p1,q1,e1,rfl,rfl,h1,r1⟩:=trodAll_cons r0;obtain⟨v2,vs2,d2,ds2,p2,q2,e2,rfl,rfl,h2,r2⟩:=trodAll_cons r1;obtain⟨v3,vs3,d3,ds3,p3,q3,e3,rfl,rfl,h3,r3⟩:=trodAll_cons r2;obtain⟨v4,vs4,d4,ds4,p4,q4,e4,rfl,rfl,h4,r4⟩:=trodAll_cons r3;obtain⟨v5,vs5,d5,ds5,p5,q5,e5,rfl,rfl,h5,r5⟩:=trodAll_cons r4;obtain⟨rfl,rfl,rfl⟩:=trodAll_nil r5;subst e5;subst e4;subst e3;subst e2;subst e1;obtain rfl:args= #[v0,v1,v2,v3,v4,v5]:=by cases args;simp_all
  obtain⟨rfl,rfl⟩:=trodVars_none hV;obtain⟨n0,rfl⟩:=okWide_int Tryz.underlying3 (hval 0 3 v0 rfl rfl);obtain⟨n1,rfl⟩:=okWide_int Tryz.underlying3 (hval 1 3 v1 rfl rfl);obtain⟨cs2,rfl,_⟩:=okWide_struct Tryz.underlying27 (hval 2 27 v2 rfl rfl);obtain⟨cs3,rfl,_⟩:=okWide_array Tryz.underlying29 (hval 3 29 v3 rfl rfl);obtain⟨cs4,rfl,_⟩:=okWide_struct Tryz.underlying39 (hval 4 39 v4 rfl rfl);obtain⟨n5,rfl⟩:=okWide_int Tryz.underlying3 (hval 5 3 v5 rfl rfl);have k0:=h0;have lt0:∀x∈p0,x.block<W.heap.size:=by obtain⟨m,hm⟩:=k0;exact DataW.trod_lt m _ _ _ hm
  obtain⟨fuel0,hf0⟩:=h0;obtain⟨_,he0,hx0⟩:=int_in Tryz.underlying3 hf0;have hl0:IntKind.min .i64= -9223372036854775808∧IntKind.max .i64=9223372036854775807:=by decide
  obtain rfl:=(Value.int.inj (List.cons.inj he0).1).2;have k1:=h1;have lt1:∀x∈p1,x.block<W.heap.size:=by obtain⟨m,hm⟩:=k1;exact DataW.trod_lt m _ _ _ hm
  obtain⟨fuel1,hf1⟩:=h1;obtain⟨_,he1,hx1⟩:=int_in Tryz.underlying3 hf1;have hl1:IntKind.min .i64= -9223372036854775808∧IntKind.max .i64=9223372036854775807:=by decide
  obtain rfl:=(Value.int.inj (List.cons.inj he1).1).2;have k2:=h2;have lt2:∀x∈p2,x.block<W.heap.size:=by obtain⟨m,hm⟩:=k2;exact DataW.trod_lt m _ _ _ hm
  obtain⟨fuel2,hf2⟩:=h2;obtain⟨s2,hcs2,hG2⟩:=store_in hf2;have hv2:(Value.agg cs2)= .agg (srC s2).toArray:=by
    congr 1;apply Array.ext';exact hcs2
  have k3:=h3;have lt3:∀x∈p3,x.block<W.heap.size:=by obtain⟨m,hm⟩:=k3;exact DataW.trod_lt m _ _ _ hm
  obtain⟨fuel3,hf3⟩:=h3;obtain⟨xs3,hcs3,hA3⟩:=id_in hf3;have hv3:(Value.agg cs3)= .agg (ints .u8 xs3).toArray:=by
    congr 1;apply Array.ext';exact hcs3
  have k4:=h4;have lt4:∀x∈p4,x.block<W.heap.size:=by obtain⟨m,hm⟩:=k4;exact DataW.trod_lt m _ _ _ hm
  obtain⟨fuel4,hf4⟩:=h4;obtain⟨o4,pa4,pc4,hcs4,hr4,hc4,hR4⟩:=op_in hf4;have hv4:(Value.agg cs4)= .agg ([.int .u32 o4.au, .slice pa4 o4.n pc4, .int .u64 o4.st, .int .u8 o4.k, .string o4.key, .int .u8 o4.vk, .int .i64 o4.num, .int .u64 o4.bits, .string o4.t, .int .u32 o4.e, .int .u32 o4.s]:List Value).toArray:=by
    congr 1;apply Array.ext';exact hcs4
  have k5:=h5;have lt5:∀x∈p5,x.block<W.heap.size:=by obtain⟨m,hm⟩:=k5;exact DataW.trod_lt m _ _ _ hm
  obtain⟨fuel5,hf5⟩:=h5;obtain⟨_,he5,hx5⟩:=int_in Tryz.underlying3 hf5;have hl5:IntKind.min .i64= -9223372036854775808∧IntKind.max .i64=9223372036854775807:=by decide
  obtain rfl:=(Value.int.inj (List.cons.inj he5).1).2;have K0:=of_laid hL;clear hA0 hval0;have hwalk:=storeFinds n0 n1 s2 xs3 ⟨o4,pa4,pc4⟩ n5 0 W K0 hG2 hA3 hr4 hR4 hc4;rw[←hv2,←hv3,←hv4]at hwalk;refine hwalk.mono fun e W' hret=>?_
  obtain⟨v,rfl,bel,rfl⟩:=hret;exact⟨_,rfl,_,_,_,[],_,[],hW',trodAll_mk1 (shut_bool Tryz.underlying4 _),(trodAll_cons_mk (Below.trod laidOut (by kernel_rfl) (of_decide_eq_true (by kernel_rfl)) k0 bel lt0) (trodAll_cons_mk (Below.trod laidOut (by kernel_rfl) (of_decide_eq_true (by kernel_rfl)) k1 bel lt1) (trodAll_cons_mk (Below.trod laidOut (by kernel_rfl) (of_decide_eq_true (by kernel_rfl)) k2 bel lt2) (trodAll_cons_mk (Below.trod laidOut (by kernel_rfl) (of_decide_eq_true (by kernel_rfl)) k3 bel lt3) (trodAll_cons_mk (Below.trod laidOut (by kernel_rfl) (of_decide_eq_true (by kernel_rfl)) k4 bel lt4) (trodAll_cons_mk (Below.trod laidOut (by kernel_rfl) (of_decide_eq_true (by kernel_rfl)) k5 bel lt5) trodAll_mk0)))))),rfl,bel.frame _,fun h=>by cases h⟩
theorem storeFinds_closed:joinedFacts Tryz.prog 3 Tryz.f3 Rows.storeFindsSpec Rows.storeFindsRow=true:=by
  unfold joinedFacts;rw[storeFinds_f1,storeFinds_f2,storeFinds_f3,storeFinds_f4]
  kernel_rfl
theorem storeFinds_holds:Rows.StoreFindsSaid:=
  OpenClaim.holds_of_wide 3 Tryz.f3 rfl rfl rfl rfl rfl rfl rfl ⟨rfl,rfl,rfl,rfl,rfl⟩ rfl rfl rfl rfl rfl (by kernel_rfl) Tryz.func3 storeFinds_closed
    (of_decide_eq_true (by kernel_rfl)) (by unfold Func.isWrapper;first|(rw[if_pos (by decide+kernel)];kernel_rfl)|(rw[if_neg (by decide+kernel)];exact⟨rfl,rfl⟩))
    (fun os started H enc _=>storeFinds_lifted os started H enc)
theorem storeFinds_card:Rows.StoreFindsCardSaid:=
  Claim7.holds_tied_plain_at .later [] [.data] true (true, "834974f09f41892157c36901e70b4ab6f14d5290977dc85458caf343113352fd") false
    storeFinds_holds (fun _ h=>by cases h) (by kernel_rfl) (fun _ h=>by cases h) storeFinds_row_tie rfl ⟨rfl,rfl⟩ (by kernel_rfl) rfl
    (fun f fn hf hfn => by
      obtain rfl : f = 3 := Option.some.inj ((show Tryz.prog.funcNamed "braid/braidlaw12.StoreFinds" = some 3 by kernel_rfl).symm.trans hf) |>.symm
      obtain rfl : fn = Tryz.f3 := (Option.some.inj (Tryz.func3.symm.trans hfn)).symm
      exact ⟨by kernel_rfl, fun j t ht => by
        rw [Tryz.params3] at ht
        have hm : t ∈ [3, 3, 27, 29, 39, 3] := by simpa using Array.mem_of_getElem? ht
        have hall : ([3, 3, 27, 29, 39, 3].all fun u => !Tryz.prog.wantsStandIn u) = true := by kernel_rfl
        exact (show Tryz.prog.wantsStandIn t = false by simpa using List.all_eq_true.1 hall t hm)⟩)
    (by kernel_rfl)
end Go.Proofs.YtaapnlnileblaaaGreatDoor.L
