/-
  Part 14 of the lemmas of these laws: BuilderDoes.
-/
import Derived.Test.YtakbhjagiofbgaaGreatDoorPBd13
set_option linter.unusedSimpArgs false
namespace Go.Proofs.YtakbhjagiofbgaaGreatDoor.W
open Go.RowKit Go.Proofs.YtakbhjagiofbgaaGreatDoor.G
set_option linter.unusedVariables false
set_option linter.unusedSimpArgs false
set_option maxRecDepth 20000
set_option maxHeartbeats 1000000
attribute [local irreducible] RS RX RY Code.wp bodyPost J Ent.blk Ent.irow Ent.iown Ent.wrow Ent.wown Ent.grow Ent.gown Ent.all Ent.emp
instance : Ents Tryz.prog 49 := ⟨.mk Tryz.func49 (by kernel_rfl) rfl⟩
instance : Ents Tryz.prog 52 := ⟨.mk Tryz.func52 (by kernel_rfl) rfl⟩
instance : Ents Tryz.prog 53 := ⟨.mk Tryz.func53 (by kernel_rfl) rfl⟩
instance : Ents Tryz.prog 54 := ⟨.mk Tryz.func54 (by kernel_rfl) rfl⟩
instance : Ents Tryz.prog 55 := ⟨.mk Tryz.func55 (by kernel_rfl) rfl⟩
instance : Ents Tryz.prog 57 := ⟨.mk Tryz.func57 (by kernel_rfl) rfl⟩
theorem bldI_arr (x : Int) (n : Nat) (ids : List Int) (st : Int) (o : S.OpV) : Arr .u8 32 (S.bldI x n ids st o) := by
  unfold S.bldI
  split
  · exact S.sha_arr _
  · exact ⟨by simp, fun x hx => by rw [List.mem_replicate] at hx; rw [hx.2]; simp only [lim]; omega⟩
theorem bldV_ok {x : Int} {n : Nat} {ids : List Int} {st : Int} {o : S.OpV} (ho : (S.bldO n ids st o).ok) : (S.bldV x n ids st o).ok := by
  unfold S.bldV
  split
  · exact S.signS_ok x _ ho
  · exact S.OpV.zero_ok
theorem bldB_len {x : Int} {n : Nat} {ids : List Int} {st : Int} {o : S.OpV} (ho : (S.bldO n ids st o).ok) (hl : ids.length = 32 * n) : (S.bldB x n ids st o).length ≤ 400 := by
  by_cases h : S.bldE x n ids st o = 0
  · rw [(S.bld_yes h).2.1]
    have hp : S.preE n ids = 0 := Classical.byContradiction fun c => by rw [S.bldE_1 c] at h; exact c h
    rw [S.bldE_2 hp] at h
    have hpl : (S.bldO n ids st o).ids.length = 32 * (S.bldO n ids st o).n := by
      show (S.preL n ids).length = 32 * S.preN n ids
      rw [(S.pre_yes hp).1, (S.pre_yes hp).2, List.length_take]
      omega
    have hg := S.sign_good ho hpl h
    refine S.enc_400 ?_ hg.2.2.1
    rw [S.signS_eq h]
    exact hpl
  · rw [(S.bld_no h).2.1]
    exact Nat.zero_le _
theorem builderDoes {S0 S1 : Nat → Prop} (a : Option Addr) (n c : Nat) (ids : List Int) (g : GrA) (x : Int) (hx : 0 ≤ x ∧ x < 4294967296) (st : Int) (hs : 0 ≤ st ∧ st < 18446744073709551616) (o : S.OpV) (hr : o.rng) (h0 : o.n = 0) (TK : TypeId) (w : World) (K0 : Kst w TK) (D0 : WRow .u8 32 S0 w a n ids) (hc : n ≤ c) (G : GrI S1 w g) :
    Calls Tryz.prog 9 #[.slice a n c, .agg (grC g).toArray, .int .u32 x, .int .u64 st, .agg (acC o).toArray] w (Ret w fun v _ => v = .bool true) := by
  have hlen := D0.len
  have ai := bldI_arr x n ids st o
  refine J.enter 120 Tryz.func9 rfl rfl ?_
  refine run ?_
  refine J.box rfl rfl rfl fun b1 => ?_
  refine J.box rfl rfl rfl fun b2 => ?_
  refine run ?_
  refine J.spd rfl rfl rfl (fun c1 => ?_) (fun c1 => ?_)
  · refine run ?_
    exact J.fin rfl
  refine run ?_
  refine J.call rfl rfl (fun w' M => refGreat g w' (G.ext M.ext)) fun q1 hq1 => ?_
  refine run ?_
  refine J.sp rfl rfl rfl (fun c2 => ?_) (fun c2 => ?_)
  · refine run ?_
    exact J.fin rfl
  refine run ?_
  refine J.callp rfl rfl (fun w' M => lawGreat24 o w') ?_
  refine run ?_
  refine J.ifd rfl (fun c3 => ?_) (fun c3 => ?_)
  · refine run ?_
    exact J.fin rfl
  have G := G.gr (hq1 c2)
  have ho : o.ok := hr.ok fun h => by
    rcases h with h | h
    · omega
    · exact c3 h
  have hbo := bldO_ok (n := n) (ids := ids) ho hs
  have hvo := bldV_ok (x := x) hbo
  have hbl := bldB_len (x := x) hbo hlen
  have hpn := S.preN_le n ids
  refine run ?_
  refine J.b0W .u8 rfl fun b3 => ?_
  refine run ?_
  refine J.apW rfl rfl (RW.arg D0) fun a5 c5 => ?_
  rw [Nat.zero_add n, List.nil_append ids]
  refine J.fact (.wown 43 .u8 32 a5 n c5 ids) (fun _ _ h => (wown_len h).2) fun hc5 => ?_
  refine run ?_
  refine J.call rfl rfl (fun w' M => (RW.own' (a := a5) w' M).elim fun _ k0 => bPreds a5 n c5 ids w' k0 hc5 (by omega)) fun l hl => ?_
  refine run ?_
  refine J.call rfl rfl (fun w' M => rPreds a n c ids w' (D0.ext M.ext) hc (by omega)) fun m hm => ?_
  refine run ?_
  refine J.callp rfl rfl (fun w' M => bStamp g TK w' (K0.ext M.ext) (G.ext M.ext)) ?_
  refine run ?_
  refine J.callp rfl rfl (fun w' M => rStamp g w' (G.ext M.ext)) ?_
  refine run ?_
  refine J.call rfl rfl (fun w' M => (RW.own' (a := a5) w' M).elim fun _ k0 => bBuild x hx a5 n c5 ids st hs o ho TK w' (K0.ext M.ext) k0 hc5 (by omega)) fun y hy => ?_
  refine run ?_
  refine J.alloc rfl fun b6 => ?_
  refine J.alloc rfl fun b7 => ?_
  refine run ?_
  refine J.call rfl rfl (fun w' M => rBuild x hx a n c ids st hs o ho w' (D0.ext M.ext) hc (by omega)) fun u hu => ?_
  refine run ?_
  refine J.alloc rfl fun b8 => ?_
  refine J.alloc rfl fun b9 => ?_
  obtain ⟨⟨yo, yp, yc⟩, ya, yn, yd⟩ := y
  obtain ⟨⟨uo, up, uc⟩, ua, un, ud⟩ := u
  obtain ⟨hy1, hy2⟩ := hy
  obtain ⟨hu1, hu2⟩ := hu
  dsimp only at hy1 hy2 hu1 hu2 ⊢
  subst hy1 hu1
  refine J.fact (.irow .u8 ya yn (S.bldB x n ids st o)) (fun _ _ h => by unfold Ent.irow at h; exact IRow.len h) fun hyl => ?_
  refine J.fact (.irow .u8 ua un (S.bldB x n ids st o)) (fun _ _ h => by unfold Ent.irow at h; exact IRow.len h) fun hul => ?_
  refine run ?_
  refine J.callp rfl rfl (fun w' M => (RW.own' (a := l.1) w' M).elim fun _ k0 => (RW.own' (a := m.1) w' M).elim fun _ k1 => sameIDs _ _ _ _ _ _ _ _ w' k0 k1 (by omega) (by omega)) ?_
  refine run ?_
  refine J.spd rfl rfl rfl (fun _ => ?_) (fun c => absurd rfl c)
  refine run ?_
  refine J.spe rfl rfl rfl (fun _ => ?_) (fun c => absurd rfl c)
  refine run ?_
  refine J.spe rfl rfl rfl (fun _ => ?_) (fun c => absurd rfl c)
  refine run ?_
  refine J.spe rfl rfl rfl (fun _ => ?_) (fun c => absurd rfl c)
  refine run ?_
  refine J.callp rfl rfl (fun w' M => (RW.row' (a := yp) w' M).elim fun _ k0 => (RW.row' (a := up) w' M).elim fun _ k1 => sameO _ _ hvo hvo _ _ _ _ w' k0 k1) ?_
  refine run ?_
  refine J.spd rfl rfl rfl (fun _ => ?_) (fun c => absurd (S.sameO_refl _) c)
  refine run ?_
  refine J.callp rfl rfl (fun w' M => (RI.row' (a := ya) w' M).elim fun _ k0 => (RI.row' (a := ua) w' M).elim fun _ k1 => sameBytes _ _ _ _ _ _ _ _ w' k0 k1 (by omega) (by omega)) ?_
  refine run ?_
  refine J.spd rfl rfl rfl (fun _ => ?_) (fun c => absurd rfl c)
  refine run ?_
  refine J.spd rfl rfl rfl (fun _ => ?_) (fun c => absurd rfl c)
  refine run ?_
  refine J.spe rfl rfl rfl (fun _ => ?_) (fun c => absurd rfl c)
  refine run ?_
  refine J.callp rfl rfl (fun w' M => (RW.own' (a := a5) w' M).elim fun _ k0 => sameIDs _ _ _ _ _ _ _ _ w' k0 (D0.ext M.ext) (by omega) (by omega)) ?_
  refine run ?_
  exact J.fin (congrArg _ (decide_eq_true rfl))
end Go.Proofs.YtakbhjagiofbgaaGreatDoor.W
