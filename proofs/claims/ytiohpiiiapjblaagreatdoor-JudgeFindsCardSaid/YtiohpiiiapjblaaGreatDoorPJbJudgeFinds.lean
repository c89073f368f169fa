/-
  JudgeFinds: Of and Fine return the results of the reference for any bytes, and share no memory with them. Condition: the table digest.constants is as its initialiser lays it (tied by the card).
-/
import Derived.Test.YtiohpiiiapjblaaGreatDoorPJb12
namespace Go.Proofs.YtiohpiiiapjblaaGreatDoor.W
open Go.RowKit Go.Proofs.YtiohpiiiapjblaaGreatDoor.G
set_option linter.unusedVariables false
set_option maxRecDepth 20000
set_option maxHeartbeats 8000000
attribute [local irreducible] RS RX
theorem E11 : Enters Tryz.prog 11 := .mk Tryz.func11 (by kernel_rfl) rfl
theorem judgeFinds {S0 : Nat → Prop} (a : Option Addr) (n c : Nat) (bs : List Int) (TK : TypeId) (w : World) (K0 : Kst w TK) (R0 : IRow .u8 S0 w a n bs) (hc : n ≤ c) :
  Calls Tryz.prog 3 #[.slice a n c] w (Ret w fun v _ => v = .bool true) := by
 replace R0 := R0.weaken (T := fun k => k < w.heap.size) (fun k hk _ => hk)
 have hbl := R0.len
 have hbd := R0.bd
 have hKl := K0.lt
 have hjI := S.jdI_arr bs
 have hjo := S.jdO_ok hbd
 have hE := Ext.refl w
 refine enterU 62 Tryz.func3 rfl rfl ?_
 refine sq fun K1 hK1 => ?_
 refine RS.asB rfl ?_
 refine nl hK1 ?_
 refine wp_seq_k (fun K2 hK2 => ?_)
 refine sq fun K3 hK3 => ?_
 refine RS.mvS rfl ?_
 refine RS.o (D.len rfl Tryz.underlying22) ?_
 refine RS.o (D.gt rfl rfl) ?_
 refine nl hK3 ?_
 refine C.ifd rfl (fun c4 => ?_) (fun c4 => ?_)
 ·refine wp_seq_k (fun K5 hK5 => ?_)
  refine region ?_
  refine RS.asB rfl ?_
  refine nl hK5 ?_
  refine wp_ret ?_
  refine retB rfl rfl ?_
  exact ⟨_, rfl, hE, rfl⟩
 refine wp_skip ?_
 refine hK2 _ _ ?_
 refine sq fun K6 hK6 => ?_
 refine RS.buildNone Tryz.underlying22 T5 (fun b7 w7 e7 s7 x7 B7 => ?_)
 refine RS.nm ?_
 replace hE := Ext.tr hE x7
 replace K0 := K0.ext x7
 replace R0 := R0.ext x7
 have zw7 := x7.size
 have OU : IOwn w.heap.size w7 5 .u8 (some ⟨b7, 0, none⟩) 0 0 [] := IOwn.of_blk B7 rfl rfl (by omega) (Bd.nil _) (by decide)
 refine RS.mvS rfl ?_
 refine RS.appendI OU R0 rfl rfl Tryz.underlying22 T5 rfl (by omega) (by decide) (by omega) (fun a8 c8 w8 N8 x8 => ?_)
 refine RS.nm ?_
 replace hE := hE.trans (x8.below (by intros; try (first | (intro _ _) | (intro _) | skip); first | omega | (have hq := OU.lo _ (by assumption); first | omega | (dsimp only at *; omega))) (by intros; try (first | (intro _ _) | (intro _) | skip); first | omega | (dsimp only at *; omega) | (simp_all; done) | (simp at *; omega)))
 replace K0 := K0.pr x8 (by intros; try (first | (intro _ _) | (intro _) | skip); first | omega | (have hq := OU.lo _ (by assumption); first | omega | (dsimp only at *; omega)))
 replace R0 := R0.pr x8 (by intros; try (first | (intro _ _) | (intro _) | skip); first | omega | (have hq := OU.lo _ (by assumption); first | omega | (dsimp only at *; omega)))
 have zw8 := x8.size
 replace OU := N8
 refine RS.nm ?_
 rw [List.nil_append] at OU
 have lOU := OU.len
 have pOU := OU.own.pre
 have hOU := OU.lo
 obtain ⟨bU, hU1, hU2⟩ : ∃ bU, (n = 0 ∨ a8 = some ⟨bU, 0, none⟩) ∧ w.heap.size ≤ bU ∧ bU < w8.heap.size := by
  by_cases h0 : n = 0
  ·exact ⟨b7, .inl h0, by omega, by omega⟩
  obtain ⟨g, hg⟩ := OU.some (by omega)
  have := OU.lo g (by rw [hg]; rfl)
  exact ⟨g, .inr hg, by omega, by omega⟩
 refine RS.asS rfl ?_
 refine nl hK6 ?_
 refine sq fun K9 hK9 => ?_
 refine RS.mvS rfl ?_
 refine RS.call E8 (judgeOf _ _ _ _ _ _ K0 OU.row pOU (by omega)) rfl (fun v10 w10 x10 A10 => ?_)
 replace hE := Ext.tr hE x10
 replace K0 := K0.ext x10
 replace R0 := R0.ext x10
 replace OU := OU.ext x10
 have zw10 := x10.size
 obtain ⟨aJ, cJ, rfl, hcJ, DJ⟩ := A10
 replace DJ := DJ.weaken (T := fun k => bU < k ∧ k < w10.heap.size) (fun k hk h => by omega)
 refine RS.nm ?_
 refine RS.move (v := .tuple _) rfl ?_
 refine RS.extract (v := .agg _) rfl rfl ?_
 refine RS.extract (v := .agg _) rfl rfl ?_
 refine RS.extract (v := .int _ _) rfl rfl ?_
 refine RS.alloc T33 (fun b11 w11 e11 s11 x11 B11 => ?_)
 refine RS.nm ?_
 replace hE := Ext.tr hE x11
 replace K0 := K0.ext x11
 replace R0 := R0.ext x11
 replace OU := OU.ext x11
 replace DJ := DJ.ext x11
 have zw11 := x11.size
 refine RS.alloc T35 (fun b12 w12 e12 s12 x12 B12 => ?_)
 refine RS.nm ?_
 replace hE := Ext.tr hE x12
 replace K0 := K0.ext x12
 replace R0 := R0.ext x12
 replace OU := OU.ext x12
 replace DJ := DJ.ext x12
 replace B11 := B11.ext x12
 have zw12 := x12.size
 have A12 : IArr .u8 w12 b12 32 (List.replicate 32 0) [] 35 := IArr.zero B12
 clear B12
 refine RS.storeAggB rfl rfl C33 (by decide) rfl rfl B11 rfl (fun w13 y13 N13 => ?_)
 replace hE := hE.trans (y13.belo)
 replace K0 := K0.sto y13
 replace R0 := R0.sto y13
 replace OU := OU.st y13 (by intros; try (first | (intro _ _) | (intro _) | skip); first | omega | (have hq := hOU _ (by assumption); first | omega | (dsimp only at *; omega)))
 replace DJ := DJ.sto y13
 replace A12 := A12.sto y13
 have zw13 := y13.size
 replace B11 := N13
 refine RS.storeArr A12 rfl rfl C35 (by decide) hjI.1 hjI.2 (fun w14 y14 N14 => ?_)
 replace hE := hE.trans (y14.belo)
 replace K0 := K0.sto y14
 replace R0 := R0.sto y14
 replace OU := OU.st y14 (by intros; try (first | (intro _ _) | (intro _) | skip); first | omega | (have hq := hOU _ (by assumption); first | omega | (dsimp only at *; omega)))
 replace DJ := DJ.sto y14
 replace B11 := B11.sto y14
 have zw14 := y14.size
 replace A12 := N14
 refine RS.asI rfl ?_
 refine nl hK9 ?_
 refine sq fun K15 hK15 => ?_
 refine RS.mvS rfl ?_
 refine RS.call E9 (judgeOfR _ _ _ _ _ R0 hc (by omega)) rfl (fun v16 w16 x16 A16 => ?_)
 replace hE := Ext.tr hE x16
 replace K0 := K0.ext x16
 replace R0 := R0.ext x16
 replace OU := OU.ext x16
 replace DJ := DJ.ext x16
 replace B11 := B11.ext x16
 replace A12 := A12.ext x16
 have zw16 := x16.size
 obtain ⟨aK, cK, rfl, hcK, DK⟩ := A16
 replace DK := DK.weaken (T := fun k => bU < k ∧ k < w16.heap.size) (fun k hk h => by omega)
 refine RS.nm ?_
 refine RS.move (v := .tuple _) rfl ?_
 refine RS.extract (v := .agg _) rfl rfl ?_
 refine RS.extract (v := .agg _) rfl rfl ?_
 refine RS.extract (v := .int _ _) rfl rfl ?_
 refine RS.alloc T33 (fun b17 w17 e17 s17 x17 B17 => ?_)
 refine RS.nm ?_
 replace hE := Ext.tr hE x17
 replace K0 := K0.ext x17
 replace R0 := R0.ext x17
 replace OU := OU.ext x17
 replace DJ := DJ.ext x17
 replace B11 := B11.ext x17
 replace A12 := A12.ext x17
 replace DK := DK.ext x17
 have zw17 := x17.size
 refine RS.alloc T35 (fun b18 w18 e18 s18 x18 B18 => ?_)
 refine RS.nm ?_
 replace hE := Ext.tr hE x18
 replace K0 := K0.ext x18
 replace R0 := R0.ext x18
 replace OU := OU.ext x18
 replace DJ := DJ.ext x18
 replace B11 := B11.ext x18
 replace A12 := A12.ext x18
 replace DK := DK.ext x18
 replace B17 := B17.ext x18
 have zw18 := x18.size
 have A18 : IArr .u8 w18 b18 32 (List.replicate 32 0) [] 35 := IArr.zero B18
 clear B18
 refine RS.storeAggB rfl rfl C33 (by decide) rfl rfl B17 rfl (fun w19 y19 N19 => ?_)
 replace hE := hE.trans (y19.belo)
 replace K0 := K0.sto y19
 replace R0 := R0.sto y19
 replace OU := OU.st y19 (by intros; try (first | (intro _ _) | (intro _) | skip); first | omega | (have hq := hOU _ (by assumption); first | omega | (dsimp only at *; omega)))
 replace DJ := DJ.sto y19
 replace B11 := B11.sto y19
 replace A12 := A12.sto y19
 replace DK := DK.sto y19
 replace A18 := A18.sto y19
 have zw19 := y19.size
 replace B17 := N19
 refine RS.storeArr A18 rfl rfl C35 (by decide) hjI.1 hjI.2 (fun w20 y20 N20 => ?_)
 replace hE := hE.trans (y20.belo)
 replace K0 := K0.sto y20
 replace R0 := R0.sto y20
 replace OU := OU.st y20 (by intros; try (first | (intro _ _) | (intro _) | skip); first | omega | (have hq := hOU _ (by assumption); first | omega | (dsimp only at *; omega)))
 replace DJ := DJ.sto y20
 replace B11 := B11.sto y20
 replace A12 := A12.sto y20
 replace DK := DK.sto y20
 replace B17 := B17.sto y20
 have zw20 := y20.size
 replace A18 := N20
 refine RS.asI rfl ?_
 refine nl hK15 ?_
 refine sq fun K21 hK21 => ?_
 refine RS.mvS rfl ?_
 refine RS.call E10 (judgeFine _ _ _ _ _ _ K0 OU.row pOU (by omega)) rfl (fun v22 w22 x22 A22 => ?_)
 replace hE := Ext.tr hE x22
 replace K0 := K0.ext x22
 replace R0 := R0.ext x22
 replace OU := OU.ext x22
 replace DJ := DJ.ext x22
 replace B11 := B11.ext x22
 replace A12 := A12.ext x22
 replace DK := DK.ext x22
 replace B17 := B17.ext x22
 replace A18 := A18.ext x22
 have zw22 := x22.size
 subst A22
 refine RS.nm ?_
 refine RS.asB rfl ?_
 refine nl hK21 ?_
 refine wp_seq_k (fun K23 hK23 => ?_)
 refine sq fun K24 hK24 => ?_
 refine RS.asI rfl ?_
 refine nl hK24 ?_
 refine wp_block ?_
 refine C.loop (A := Int) (fun p => [(11, .int .i64 p)]) [32, 33, 34, 35, 36, 37, 38, 39, 40, 41, 42, 43] (fun p w' => Pr (fun k => k = bU) w22 w' ∧ ((0 ≤ p ∧ p ≤ n) ∧ ∃ ys, IOwn w.heap.size w' 5 .u8 a8 (0 + n) c8 ys)) (fun p => (n - p.toNat)) 0 (by kernel_rfl) ?_ ?_
 ·exact ⟨Pr.refl _ _, ⟨by omega, by omega⟩, _, OU⟩
 rintro p j w25 ⟨x25, hI⟩
 replace hE := hE.trans (x25.belo)
 replace K0 := K0.pro x25
 replace R0 := R0.pro x25
 replace DJ := DJ.pro x25
 replace B11 := B11.pro x25
 replace A12 := A12.pro x25
 replace DK := DK.pro x25
 replace B17 := B17.pro x25
 replace A18 := A18.pro x25
 have zw25 := x25.size
 obtain ⟨h1, ys, OU⟩ := hI
 have lOU := OU.len
 refine C.norm (by simp only [upd, junk, List.map_cons, List.map_nil, List.set_cons_succ, List.set_cons_zero]; exact rfl) ?_
 refine wp_seq_k (fun K26 hK26 => ?_)
 refine sq fun K27 hK27 => ?_
 refine RS.mvI rfl ?_
 refine RS.mvS rfl ?_
 refine RS.o (D.len rfl Tryz.underlying22) ?_
 refine RS.o (D.lt rfl rfl) ?_
 refine nl hK27 ?_
 refine C.ifd rfl (fun c28 => ?_) (fun c28 => ?_)
 ·refine wp_skip ?_
  refine hK26 _ _ ?_
  refine wp_seq_k (fun K29 hK29 => ?_)
  refine wp_block ?_
  obtain rfl : a8 = some ⟨bU, 0, none⟩ := hU1.resolve_left (by omega)
  refine region ?_
  refine RS.mvS rfl ?_
  refine RS.mvI rfl ?_
  refine RS.idx OU.row rfl rfl Tryz.underlying22 C5 (by omega) (fun b30 o30 v30 h30 q30 r30 => ?_)
  refine RS.nm ?_
  simp only [lim] at r30
  refine RS.o (D.load rfl Tryz.underlying5 rfl (h30)) ?_
  refine RS.o (D.add rfl rfl (W.u8m _)) ?_
  refine RS.o (D.indexAddr rfl rfl Tryz.underlying22 C5 (by decide) rfl (by omega)) ?_
  refine RS.storeI OU rfl rfl C5 (by omega) (by simp only [lim]; omega) (fun w31 y31 N31 => ?_)
  replace hE := hE.trans (y31.belo)
  replace x25 := x25.stno y31
  replace K0 := K0.sto y31
  replace R0 := R0.sto y31
  replace DJ := DJ.sto y31
  replace B11 := B11.sto y31
  replace A12 := A12.sto y31
  replace DK := DK.sto y31
  replace B17 := B17.sto y31
  replace A18 := A18.sto y31
  have zw31 := y31.size
  replace OU := N31
  refine nl hK29 ?_
  refine region ?_
  refine RS.mvI rfl ?_
  refine RS.o (D.add rfl rfl (W.i64 (by omega))) ?_
  refine RS.asI rfl ?_
  refine RS.nil ?_
  change Nx _ _ _ _ _ _ _ _
  refine C.next (p + 1) ⟨rfl, trivial⟩ (by kernel_rfl) ?_ ?_
  ·exact ⟨x25, ⟨by omega, by omega⟩, _, OU⟩
  omega
 refine wp_exit ?_
 refine hK23 _ _ ?_
 refine sq fun K32 hK32 => ?_
 refine RS.o (D.loadAgg rfl Tryz.underlying33 rfl C33 (by decide) rfl (B11.cellsN 11 rfl)) ?_
 refine RS.o (D.loadAgg rfl Tryz.underlying33 rfl C33 (by decide) rfl (B17.cellsN 11 rfl)) ?_
 refine RS.call E11 (sameO _ _ hjo.1 hjo.1 _ _ _ _ _ DJ DK) rfl (fun v33 w33 x33 A33 => ?_)
 replace hE := Ext.tr hE x33
 replace K0 := K0.ext x33
 replace R0 := R0.ext x33
 replace OU := OU.ext x33
 replace DJ := DJ.ext x33
 replace B11 := B11.ext x33
 replace A12 := A12.ext x33
 replace DK := DK.ext x33
 replace B17 := B17.ext x33
 replace A18 := A18.ext x33
 have zw33 := x33.size
 subst A33
 refine RS.nm ?_
 refine RS.mvB rfl ?_
 refine RS.splitb 47 rfl rfl (fun c34 => ?_) (fun c34 => ?_)
 ·refine RS.nm ?_
  refine RS.wt 47 ?_
  refine RS.o (D.loadAgg rfl Tryz.underlying35 rfl C35 (by decide) (by rw [ints_length, A12.len]) A12.cells) ?_
  refine RS.wt 47 ?_
  refine RS.o (D.loadAgg rfl Tryz.underlying35 rfl C35 (by decide) (by rw [ints_length, A18.len]) A18.cells) ?_
  refine RS.wt 47 ?_
  refine RS.o (D.eqI rfl rfl Tryz.underlying35 Tryz.underlying5 C5 (by kernel_rfl) hjI.1 hjI.1 (by decide)) ?_
  refine RS.pick (v := .bool _) rfl rfl ?_
  refine RS.mvB rfl ?_
  refine RS.splitb 52 rfl rfl (fun c35 => ?_) (fun c35 => ?_)
  ·refine RS.nm ?_
   refine RS.wt 52 ?_
   refine RS.mvI rfl ?_
   refine RS.wt 52 ?_
   refine RS.mvI rfl ?_
   refine RS.wt 52 ?_
   refine RS.o (D.eq rfl rfl) ?_
   refine RS.pick (v := .bool _) rfl rfl ?_
   refine RS.mvB rfl ?_
   refine RS.splite 57 rfl rfl (fun c36 => ?_) (fun c36 => ?_)
   ·refine RS.nm ?_
    refine RS.wt 57 ?_
    refine RS.mvB rfl ?_
    refine RS.wt 57 ?_
    refine RS.mvI rfl ?_
    refine RS.wt 57 ?_
    refine RS.o (D.eq rfl rfl) ?_
    refine RS.wt 57 ?_
    refine RS.o (D.eqB rfl rfl Tryz.underlying4) ?_
    refine RS.pick (v := .bool _) rfl rfl ?_
    refine RS.asB rfl ?_
    refine nl hK32 ?_
    refine wp_ret ?_
    refine retB rfl rfl ?_
    exact ⟨_, rfl, hE, congrArg Value.bool (beq_self_eq_true _)⟩
   refine RS.nm ?_
   exact absurd rfl c36
  refine RS.nm ?_
  exact Bool.noConfusion ((decide_eq_true rfl).symm.trans c35)
 refine RS.nm ?_
 exact Bool.noConfusion ((decide_eq_true (S.sameO_refl _)).symm.trans c34)
end Go.Proofs.YtiohpiiiapjblaaGreatDoor.W
namespace Go.Proofs.YtiohpiiiapjblaaGreatDoor.L
open Go Go.Proofs.YtiohpiiiapjblaaGreatDoor Go.Proofs.YtiohpiiiapjblaaGreatDoor.G Go.Proofs.YtiohpiiiapjblaaGreatDoor.W
open Go.ChangeShapes Go.WideShapes Go.ChangeAt Go.RowKit
set_option linter.unusedVariables false
set_option maxRecDepth 100000
theorem judgeFinds_door (os : Os) (args : Array Value) : laidMetH Tryz.prog [("braid/digest.constants", Rows.laid_braid_digest_constants)] ((World.doorLaid Tryz.prog 400 os).forCall (fun _ _ => 0) ⟨#[], args, []⟩).memory :=
  laidMetH_of_parts3 (fuel := 8) (laidMet_of_run' 8 (by kernel_rfl) (by kernel_rfl)) (by kernel_rfl) (by kernel_rfl)
theorem judgeFinds_lifted (os : Os) (started : os.Started) (H : Type) (enc : TypeId × Value → H) :
    ReturnsInHanded {} Tryz.checked os 3 .any (fun w args => (Rows.judgeFindsSpec.pre enc Tryz.prog Tryz.f3 [] false w args ∧ laidMetH Tryz.prog [("braid/digest.constants", Rows.laid_braid_digest_constants)] w) ∧ sizedMet enc Tryz.prog Tryz.f3 (OpenSpec.ofChange Rows.judgeFindsSpec) false w args)
      (Rows.judgeFindsSpec.post enc Tryz.prog Tryz.f3 false true false false) := by
  refine returnsInHanded_of_change_and (C := Tryz.checked) (X := fun w _ => laidMetH Tryz.prog [("braid/digest.constants", Rows.laid_braid_digest_constants)] w) (fun _ _ _ hh h => h.of_heap hh) own started (by kernel_rfl) Tryz.func3
    (ChangeSpec.witness_shaped (enc := enc) (C := Tryz.checked) (os := os) (X := fun w _ => laidMetH Tryz.prog [("braid/digest.constants", Rows.laid_braid_digest_constants)] w) false (World.doorLaid Tryz.prog 400 os) #[.slice none 0 0] 8 rfl (World.shaped_of_RefB (by kernel_rfl) (by kernel_rfl)) (by kernel_rfl) (by kernel_rfl) (by kernel_rfl) (judgeFinds_door os _)) ?_
  intro W base args ds gs before hval0 hW _ _ hL _
  have hval : ∀ (j : Nat) t v, Tryz.f3.params[j]? = some t → args[j]? = some v → Value.okWide Tryz.prog W .any base t v := hval0
  have hW' := hW
  obtain ⟨p, q, hA0, hV, rfl, hfz, hnd⟩ := hW
  have hA : DataW.TrodAll enc Tryz.prog W 0 (fun _ => true) true Tryz.f3.params.toList args.toList ds p := hA0
  rw [Tryz.params3] at hA hval
  obtain ⟨v0, vs0, d0, ds0, p0, q0, hargs, rfl, rfl, h0, r0⟩ := trodAll_cons hA
  obtain ⟨rfl, rfl, rfl⟩ := trodAll_nil r0
  obtain rfl : args = #[v0] := by cases args; simp_all
  obtain ⟨rfl, rfl⟩ := trodVars_none hV
  obtain ⟨a0, m0, c0, rfl⟩ := okWide_slice Tryz.underlying22 (hval 0 22 v0 rfl rfl)
  have k0 := h0
  have lt0 : ∀ x ∈ p0, x.block < W.heap.size := by obtain ⟨m, hm⟩ := k0; exact DataW.trod_lt m _ _ _ hm
  obtain ⟨fuel0, hf0⟩ := h0
  obtain ⟨_, _, _, xs0, he0, hc0, hR0⟩ := bytesS_in hf0
  obtain ⟨rfl, rfl, rfl⟩ := Value.slice.inj (List.cons.inj he0).1
  have K0 := of_laid hL
  clear hA0 hval0
  have hwalk := judgeFinds a0 m0 c0 xs0 0 W K0 hR0 hc0
  refine hwalk.mono fun e W' hret => ?_
  obtain ⟨v, rfl, bel, rfl⟩ := hret
  exact ⟨_, rfl, _, _, _, [], _, [], hW', trodAll_mk1 (shut_bool Tryz.underlying4 _), (trodAll_cons_mk (Below.trod laidOut (by kernel_rfl) (of_decide_eq_true (by kernel_rfl)) k0 bel lt0) trodAll_mk0), rfl, bel.frame _, fun h => by cases h⟩
theorem judgeFinds_holds : Rows.JudgeFindsSaid :=
  OpenClaim.holds_of_wide 3 Tryz.f3 rfl rfl rfl rfl rfl rfl rfl ⟨rfl, rfl, rfl, rfl, rfl⟩ rfl rfl rfl rfl rfl (by kernel_rfl) Tryz.func3 (by kernel_rfl)
    (of_decide_eq_true (by kernel_rfl)) (by unfold Func.isWrapper; first | (rw [if_pos (by decide +kernel)]; kernel_rfl) | (rw [if_neg (by decide +kernel)]; exact ⟨rfl, rfl⟩))
    (fun os started H enc _ => judgeFinds_lifted os started H enc)
theorem judgeFinds_card : Rows.JudgeFindsCardSaid :=
  Claim7.holds_tied_plain_at .later [] [.data] true (true, "5f1a454c20384897b10aae27f0fb7605c8ace21901f8afa9a203fa82d3013071") false
    judgeFinds_holds (fun _ h => by cases h) (by kernel_rfl) (fun _ h => by cases h) judgeFinds_row_tie rfl ⟨rfl, rfl⟩ (by kernel_rfl) rfl
    (fun f fn hf hfn => by
      obtain rfl : f = 3 := Option.some.inj ((show Tryz.prog.funcNamed "braid/braidlaw08.JudgeFinds" = some 3 by kernel_rfl).symm.trans hf) |>.symm
      obtain rfl : fn = Tryz.f3 := (Option.some.inj (Tryz.func3.symm.trans hfn)).symm
      exact ⟨by kernel_rfl, fun j t ht => by
        rw [Tryz.params3] at ht
        have hm : t ∈ [22] := by simpa using Array.mem_of_getElem? ht
        have hall : ([22].all fun u => !Tryz.prog.wantsStandIn u) = true := by kernel_rfl
        exact (show Tryz.prog.wantsStandIn t = false by simpa using List.all_eq_true.1 hall t hm)⟩)
    (by kernel_rfl)
end Go.Proofs.YtiohpiiiapjblaaGreatDoor.L
