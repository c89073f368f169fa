/-
  JudgeSigned: what a secret signs is fine, with the operation and its id; with another Sig it is judged just as it is verified. Condition: the table digest.constants is as its initialiser lays it (tied by the card).
-/
import Derived.Test.YtiohpiiiapjblaaGreatDoorPJa12
namespace Go.Proofs.YtiohpiiiapjblaaGreatDoor.W
open Go.RowKit Go.Proofs.YtiohpiiiapjblaaGreatDoor.G
set_option linter.unusedVariables false
set_option maxRecDepth 20000
set_option maxHeartbeats 8000000
attribute [local irreducible] RS RX
theorem E11 : Enters Tryz.prog 11 := .mk Tryz.func11 (by kernel_rfl) rfl
theorem E27 : Enters Tryz.prog 27 := .mk Tryz.func27 (by kernel_rfl) rfl
theorem E28 : Enters Tryz.prog 28 := .mk Tryz.func28 (by kernel_rfl) rfl
theorem E32 : Enters Tryz.prog 32 := .mk Tryz.func32 (by kernel_rfl) rfl
theorem judgeSigned {S0 : Nat → Prop} (x : Int) (hx : 0 ≤ x ∧ x < 4294967296) (o : S.OpV) (hr : o.rng) (pa : Option Addr) (pc : Nat) (e s : Int) (he : 0 ≤ e ∧ e < 4294967296) (hs : 0 ≤ s ∧ s < 4294967296) (TK : TypeId) (w : World) (K0 : Kst w TK) (D0 : WRow .u8 32 S0 w pa o.n o.ids) (hc : o.n ≤ pc) :
  Calls Tryz.prog 7 #[.int .u32 x, .agg ([.int .u32 o.au, .slice pa o.n pc, .int .u64 o.st, .int .u8 o.k, .string o.key, .int .u8 o.vk, .int .i64 o.num, .int .u64 o.bits, .string o.t, .int .u32 o.e, .int .u32 o.s] : List Value).toArray, .agg ([.int .u32 e, .int .u32 s] : List Value).toArray] w (Ret w fun v _ => v = .bool true) := by
 replace D0 := D0.weaken (T := fun k => k < w.heap.size) (fun k hk _ => hk)
 have el := D0.len
 have hKl := K0.lt
 have hE := Ext.refl w
 refine enter (args := [.int .u32 x, .agg ([.int .u32 o.au, .slice pa o.n pc, .int .u64 o.st, .int .u8 o.k, .string o.key, .int .u8 o.vk, .int .i64 o.num, .int .u64 o.bits, .string o.t, .int .u32 o.e, .int .u32 o.s] : List Value).toArray, .agg ([.int .u32 e, .int .u32 s] : List Value).toArray]) (l := [.int .u32 x, .agg ([.int .u32 o.au, .slice pa o.n pc, .int .u64 o.st, .int .u8 o.k, .string o.key, .int .u8 o.vk, .int .i64 o.num, .int .u64 o.bits, .string o.t, .int .u32 o.e, .int .u32 o.s] : List Value).toArray, .agg ([.int .u32 e, .int .u32 s] : List Value).toArray, undef, undef, undef, undef, undef, undef, undef, undef, undef, undef, undef, undef, undef, undef, undef, undef, undef, undef, undef, undef, undef, undef, undef, undef, undef, undef, undef, undef, undef, undef, undef, undef, undef, undef, undef, undef, undef, undef, undef, undef, undef, undef, undef, undef, undef, undef, undef, undef, undef, undef, undef, undef, undef, undef, undef, undef, undef, undef, undef, undef, undef, undef, undef, undef, undef, undef, undef, undef, undef, undef, undef, undef, undef, undef, undef, undef, undef, undef, undef, undef, undef, undef, undef, undef, undef, undef, undef, undef, undef, undef]) Tryz.func7 rfl rfl ?_
 refine wp_seq_k (fun K1 hK1 => ?_)
 refine region ?_
 refine RS.box rfl rfl (fun b2 w2 e2 s2 x2 B2 => ?_)
 refine RS.norm (by dsimp only [List.set]) ?_
 replace hE := Ext.tr hE x2
 replace K0 := K0.ext x2
 replace D0 := D0.ext x2
 have zw2 := x2.size
 refine RS.box rfl rfl (fun b3 w3 e3 s3 x3 B3 => ?_)
 refine RS.norm (by dsimp only [List.set]) ?_
 replace hE := Ext.tr hE x3
 replace K0 := K0.ext x3
 replace D0 := D0.ext x3
 replace B2 := B2.ext x3
 have zw3 := x3.size
 refine RS.assign (v := .bool false) rfl ?_
 refine RS.nil ?_
 refine hK1 _ _ ?_
 try clear hK1
 refine wp_seq_k (fun K4 hK4 => ?_)
 refine wp_seq_k (fun K5 hK5 => ?_)
 refine region ?_
 refine RS.o (D.loadAgg rfl Tryz.underlying33 rfl C33 (by decide) rfl (B2.cellsN 11 rfl)) ?_
 refine RS.call E19 (great o _ _ _) rfl (fun v6 w6 x6 A6 => ?_)
 replace hE := Ext.tr hE x6
 replace K0 := K0.ext x6
 replace D0 := D0.ext x6
 replace B2 := B2.ext x6
 replace B3 := B3.ext x6
 have zw6 := x6.size
 subst A6
 refine RS.norm (by dsimp only [List.set]) ?_
 refine RS.nil ?_
 refine hK5 _ _ ?_
 try clear hK5
 refine C.ifb rfl (fun c7 => ?_) (fun c7 => ?_)
 ·have hG := c7
  refine wp_seq_k (fun K8 hK8 => ?_)
  refine region ?_
  refine RS.call E32 (aliveJ _ _ K0) rfl (fun v9 w9 x9 A9 => ?_)
  replace hE := Ext.tr hE x9
  replace K0 := K0.ext x9
  replace D0 := D0.ext x9
  replace B2 := B2.ext x9
  replace B3 := B3.ext x9
  have zw9 := x9.size
  subst A9
  refine RS.norm (by dsimp only [List.set]) ?_
  refine RS.assign (v := .bool _) rfl ?_
  refine RS.nil ?_
  refine hK8 _ _ ?_
  try clear hK8
  refine wp_ret ?_
  refine ret (rs := [.tmp 6]) (vs := [.bool _]) (v := (.bool _)) rfl ⟨rfl, trivial⟩ rfl ?_
  exact ⟨_, rfl, hE, rfl⟩
 ·have hG := of_decide_eq_false c7
  have ho : o.ok := hr.ok hG
  have hso := S.signS_ok x o ho
  refine wp_skip ?_
  refine hK4 _ _ ?_
  try clear hK4
  refine wp_seq_k (fun K10 hK10 => ?_)
  refine region ?_
  refine RS.move (v := .int _ _) rfl ?_
  refine RS.o (D.loadAgg rfl Tryz.underlying33 rfl C33 (by decide) rfl (B2.cellsN 11 rfl)) ?_
  refine RS.call E23 (signO _ hx o ho _ _ _ _ K0 D0 hc) rfl (fun v11 w11 x11 A11 => ?_)
  replace hE := Ext.tr hE x11
  replace K0 := K0.ext x11
  replace D0 := D0.ext x11
  replace B2 := B2.ext x11
  replace B3 := B3.ext x11
  have zw11 := x11.size
  obtain ⟨aG, cG, rfl, hcG, RG⟩ := A11
  replace RG := RG.weaken (T := fun k => k < w11.heap.size) (fun k hk _ => hk)
  have gl := RG.len
  refine RS.norm (by dsimp only [List.set]) ?_
  refine RS.move (v := .tuple _) rfl ?_
  refine RS.extract (v := .agg _) rfl rfl ?_
  refine RS.extract (v := .int _ _) rfl rfl ?_
  refine RS.alloc T33 (fun b12 w12 e12 s12 x12 B12 => ?_)
  refine RS.norm (by dsimp only [List.set]) ?_
  replace hE := Ext.tr hE x12
  replace K0 := K0.ext x12
  replace D0 := D0.ext x12
  replace B2 := B2.ext x12
  replace B3 := B3.ext x12
  replace RG := RG.ext x12
  have zw12 := x12.size
  refine RS.storeAggB rfl rfl C33 (by decide) rfl rfl B12 rfl (fun w13 y13 N13 => ?_)
  replace hE := hE.trans (y13.below (by intros; try (first | (intro _ _) | (intro _) | skip); first | omega | (dsimp only at *; omega) | (simp_all; done) | (simp at *; omega)))
  replace K0 := K0.st y13 (by intros; try (first | (intro _ _) | (intro _) | skip); first | omega | (dsimp only at *; omega) | (simp_all; done) | (simp at *; omega))
  replace D0 := D0.st y13 (by intros; try (first | (intro _ _) | (intro _) | skip); first | omega | (dsimp only at *; omega) | (simp_all; done) | (simp at *; omega))
  replace B2 := B2.st y13 (by intros; try (first | (intro _ _) | (intro _) | skip); first | omega | (dsimp only at *; omega) | (simp_all; done) | (simp at *; omega))
  replace B3 := B3.st y13 (by intros; try (first | (intro _ _) | (intro _) | skip); first | omega | (dsimp only at *; omega) | (simp_all; done) | (simp at *; omega))
  replace RG := RG.st y13 (by intros; try (first | (intro _ _) | (intro _) | skip); first | omega | (dsimp only at *; omega) | (simp_all; done) | (simp at *; omega))
  have zw13 := y13.size
  replace B12 := N13
  refine RS.assign (v := .int _ _) rfl ?_
  refine RS.nil ?_
  refine hK10 _ _ ?_
  try clear hK10
  refine wp_seq_k (fun K14 hK14 => ?_)
  refine wp_seq_k (fun K15 hK15 => ?_)
  refine region ?_
  refine RS.move (v := .int _ _) rfl ?_
  refine RS.o (D.ne rfl rfl) ?_
  refine RS.nil ?_
  refine hK15 _ _ ?_
  try clear hK15
  refine C.ifn rfl (fun c16 => ?_) (fun c16 => ?_)
  ·have hz := c16
   refine wp_seq_k (fun K17 hK17 => ?_)
   refine region ?_
   refine RS.call E32 (aliveJ _ _ K0) rfl (fun v18 w18 x18 A18 => ?_)
   replace hE := Ext.tr hE x18
   replace K0 := K0.ext x18
   replace D0 := D0.ext x18
   replace B2 := B2.ext x18
   replace B3 := B3.ext x18
   replace RG := RG.ext x18
   replace B12 := B12.ext x18
   have zw18 := x18.size
   subst A18
   refine RS.norm (by dsimp only [List.set]) ?_
   refine RS.assign (v := .bool _) rfl ?_
   refine RS.nil ?_
   refine hK17 _ _ ?_
   try clear hK17
   refine wp_ret ?_
   refine ret (rs := [.tmp 6]) (vs := [.bool _]) (v := (.bool _)) rfl ⟨rfl, trivial⟩ rfl ?_
   exact ⟨_, rfl, hE, rfl⟩
  ·have hz := c16
   obtain ⟨g1, g2, g3, g4, g5, g6, g7⟩ := S.sign_good ho el hz
   have h400 := S.enc_400 gl g3
   obtain ⟨e0, e12⟩ := S.jd_enc (S.OpV.ok.rng hso) gl g3
   rw [if_pos g7] at e0
   obtain ⟨e1, e2⟩ := e12 g7
   have hsh := S.sha_arr (S.encS (S.signS x o))
   have hso2 := S.OpV.sig_ok hso he hs
   refine wp_skip ?_
   refine hK14 _ _ ?_
   try clear hK14
   refine wp_seq_k (fun K19 hK19 => ?_)
   refine region ?_
   refine RS.o (D.loadAgg rfl Tryz.underlying33 rfl C33 (by decide) rfl (B12.cellsN 11 rfl)) ?_
   refine RS.call E29 (encodeO (S.signS x o) hso _ _ _ RG hcG) rfl (fun v20 w20 x20 A20 => ?_)
   replace hE := Ext.tr hE x20
   replace K0 := K0.ext x20
   replace D0 := D0.ext x20
   replace B2 := B2.ext x20
   replace B3 := B3.ext x20
   replace RG := RG.ext x20
   replace B12 := B12.ext x20
   have zw20 := x20.size
   obtain ⟨aOE, nOE, cOE, xsOE, rfl, OE, hxs⟩ := A20
   rw [if_pos g3] at hxs
   rw [show S.checkE (S.signS x o) = 0 from g3]
   subst hxs
   have hOE := OE.lo
   have lOE := OE.len
   have pOE := OE.own.pre
   refine RS.norm (by dsimp only [List.set]) ?_
   refine RS.move (v := .tuple _) rfl ?_
   refine RS.extract (v := .slice _ _ _) rfl rfl ?_
   refine RS.extract (v := .int _ _) rfl rfl ?_
   refine RS.assign (v := .slice _ _ _) rfl ?_
   refine RS.assign (v := .int _ _) rfl ?_
   refine RS.nil ?_
   refine hK19 _ _ ?_
   try clear hK19
   refine wp_seq_k (fun K21 hK21 => ?_)
   refine region ?_
   refine RS.move (v := .slice _ _ _) rfl ?_
   refine RS.call E8 (judgeOf _ _ _ _ _ _ K0 OE.row pOE (by omega)) rfl (fun v22 w22 x22 A22 => ?_)
   replace hE := Ext.tr hE x22
   replace K0 := K0.ext x22
   replace D0 := D0.ext x22
   replace B2 := B2.ext x22
   replace B3 := B3.ext x22
   replace RG := RG.ext x22
   replace B12 := B12.ext x22
   replace OE := OE.ext x22
   have zw22 := x22.size
   obtain ⟨aJ, cJ, rfl, hcJ, DJ⟩ := A22
   rw [e1] at hcJ DJ
   rw [e0, e1, e2]
   replace DJ := DJ.weaken (T := fun k => k < w22.heap.size) (fun k hk _ => hk)
   refine RS.norm (by dsimp only [List.set]) ?_
   refine RS.move (v := .tuple _) rfl ?_
   refine RS.extract (v := .agg _) rfl rfl ?_
   refine RS.extract (v := .agg _) rfl rfl ?_
   refine RS.extract (v := .int _ _) rfl rfl ?_
   refine RS.alloc T33 (fun b23 w23 e23 s23 x23 B23 => ?_)
   refine RS.norm (by dsimp only [List.set]) ?_
   replace hE := Ext.tr hE x23
   replace K0 := K0.ext x23
   replace D0 := D0.ext x23
   replace B2 := B2.ext x23
   replace B3 := B3.ext x23
   replace RG := RG.ext x23
   replace B12 := B12.ext x23
   replace OE := OE.ext x23
   replace DJ := DJ.ext x23
   have zw23 := x23.size
   refine RS.alloc T35 (fun b24 w24 e24 s24 x24 B24 => ?_)
   refine RS.norm (by dsimp only [List.set]) ?_
   replace hE := Ext.tr hE x24
   replace K0 := K0.ext x24
   replace D0 := D0.ext x24
   replace B2 := B2.ext x24
   replace B3 := B3.ext x24
   replace RG := RG.ext x24
   replace B12 := B12.ext x24
   replace OE := OE.ext x24
   replace DJ := DJ.ext x24
   replace B23 := B23.ext x24
   have zw24 := x24.size
   have A24 : IArr .u8 w24 b24 32 (List.replicate 32 0) [] 35 := IArr.zero B24
   clear B24
   refine RS.storeAggB rfl rfl C33 (by decide) rfl rfl B23 rfl (fun w25 y25 N25 => ?_)
   replace hE := hE.trans (y25.below (by intros; try (first | (intro _ _) | (intro _) | skip); first | omega | (dsimp only at *; omega) | (simp_all; done) | (simp at *; omega)))
   replace K0 := K0.st y25 (by intros; try (first | (intro _ _) | (intro _) | skip); first | omega | (dsimp only at *; omega) | (simp_all; done) | (simp at *; omega))
   replace D0 := D0.st y25 (by intros; try (first | (intro _ _) | (intro _) | skip); first | omega | (dsimp only at *; omega) | (simp_all; done) | (simp at *; omega))
   replace B2 := B2.st y25 (by intros; try (first | (intro _ _) | (intro _) | skip); first | omega | (dsimp only at *; omega) | (simp_all; done) | (simp at *; omega))
   replace B3 := B3.st y25 (by intros; try (first | (intro _ _) | (intro _) | skip); first | omega | (dsimp only at *; omega) | (simp_all; done) | (simp at *; omega))
   replace RG := RG.st y25 (by intros; try (first | (intro _ _) | (intro _) | skip); first | omega | (dsimp only at *; omega) | (simp_all; done) | (simp at *; omega))
   replace B12 := B12.st y25 (by intros; try (first | (intro _ _) | (intro _) | skip); first | omega | (dsimp only at *; omega) | (simp_all; done) | (simp at *; omega))
   replace OE := OE.st y25 (by intros; try (first | (intro _ _) | (intro _) | skip); first | omega | (have hq := hOE _ (by assumption); first | omega | (dsimp only at *; omega)))
   replace DJ := DJ.st y25 (by intros; try (first | (intro _ _) | (intro _) | skip); first | omega | (dsimp only at *; omega) | (simp_all; done) | (simp at *; omega))
   replace A24 := A24.st y25 (by intros; try (first | (intro _ _) | (intro _) | skip); first | omega | (dsimp only at *; omega) | (simp_all; done) | (simp at *; omega))
   have zw25 := y25.size
   replace B23 := N25
   refine RS.storeArr A24 rfl rfl C35 (by decide) hsh.1 hsh.2 (fun w26 y26 N26 => ?_)
   replace hE := hE.trans (y26.below (by intros; try (first | (intro _ _) | (intro _) | skip); first | omega | (dsimp only at *; omega) | (simp_all; done) | (simp at *; omega)))
   replace K0 := K0.st y26 (by intros; try (first | (intro _ _) | (intro _) | skip); first | omega | (dsimp only at *; omega) | (simp_all; done) | (simp at *; omega))
   replace D0 := D0.st y26 (by intros; try (first | (intro _ _) | (intro _) | skip); first | omega | (dsimp only at *; omega) | (simp_all; done) | (simp at *; omega))
   replace B2 := B2.st y26 (by intros; try (first | (intro _ _) | (intro _) | skip); first | omega | (dsimp only at *; omega) | (simp_all; done) | (simp at *; omega))
   replace B3 := B3.st y26 (by intros; try (first | (intro _ _) | (intro _) | skip); first | omega | (dsimp only at *; omega) | (simp_all; done) | (simp at *; omega))
   replace RG := RG.st y26 (by intros; try (first | (intro _ _) | (intro _) | skip); first | omega | (dsimp only at *; omega) | (simp_all; done) | (simp at *; omega))
   replace B12 := B12.st y26 (by intros; try (first | (intro _ _) | (intro _) | skip); first | omega | (dsimp only at *; omega) | (simp_all; done) | (simp at *; omega))
   replace OE := OE.st y26 (by intros; try (first | (intro _ _) | (intro _) | skip); first | omega | (have hq := hOE _ (by assumption); first | omega | (dsimp only at *; omega)))
   replace DJ := DJ.st y26 (by intros; try (first | (intro _ _) | (intro _) | skip); first | omega | (dsimp only at *; omega) | (simp_all; done) | (simp at *; omega))
   replace B23 := B23.st y26 (by intros; try (first | (intro _ _) | (intro _) | skip); first | omega | (dsimp only at *; omega) | (simp_all; done) | (simp at *; omega))
   have zw26 := y26.size
   replace A24 := N26
   refine RS.assign (v := .int _ _) rfl ?_
   refine RS.nil ?_
   refine hK21 _ _ ?_
   try clear hK21
   refine wp_seq_k (fun K27 hK27 => ?_)
   refine region ?_
   refine RS.o (D.loadAgg rfl Tryz.underlying33 rfl C33 (by decide) rfl (B12.cellsN 11 rfl)) ?_
   refine RS.call E30 (idO _ hso _ _ _ _ K0 RG hcG) rfl (fun v28 w28 x28 A28 => ?_)
   replace hE := Ext.tr hE x28
   replace K0 := K0.ext x28
   replace D0 := D0.ext x28
   replace B2 := B2.ext x28
   replace B3 := B3.ext x28
   replace RG := RG.ext x28
   replace B12 := B12.ext x28
   replace OE := OE.ext x28
   replace DJ := DJ.ext x28
   replace B23 := B23.ext x28
   replace A24 := A24.ext x28
   have zw28 := x28.size
   subst A28
   rw [if_pos g3, g3]
   refine RS.norm (by dsimp only [List.set]) ?_
   refine RS.move (v := .tuple _) rfl ?_
   refine RS.extract (v := .agg _) rfl rfl ?_
   refine RS.extract (v := .int _ _) rfl rfl ?_
   refine RS.alloc T35 (fun b29 w29 e29 s29 x29 B29 => ?_)
   refine RS.norm (by dsimp only [List.set]) ?_
   replace hE := Ext.tr hE x29
   replace K0 := K0.ext x29
   replace D0 := D0.ext x29
   replace B2 := B2.ext x29
   replace B3 := B3.ext x29
   replace RG := RG.ext x29
   replace B12 := B12.ext x29
   replace OE := OE.ext x29
   replace DJ := DJ.ext x29
   replace B23 := B23.ext x29
   replace A24 := A24.ext x29
   have zw29 := x29.size
   have A29 : IArr .u8 w29 b29 32 (List.replicate 32 0) [] 35 := IArr.zero B29
   clear B29
   refine RS.storeArr A29 rfl rfl C35 (by decide) hsh.1 hsh.2 (fun w30 y30 N30 => ?_)
   replace hE := hE.trans (y30.below (by intros; try (first | (intro _ _) | (intro _) | skip); first | omega | (dsimp only at *; omega) | (simp_all; done) | (simp at *; omega)))
   replace K0 := K0.st y30 (by intros; try (first | (intro _ _) | (intro _) | skip); first | omega | (dsimp only at *; omega) | (simp_all; done) | (simp at *; omega))
   replace D0 := D0.st y30 (by intros; try (first | (intro _ _) | (intro _) | skip); first | omega | (dsimp only at *; omega) | (simp_all; done) | (simp at *; omega))
   replace B2 := B2.st y30 (by intros; try (first | (intro _ _) | (intro _) | skip); first | omega | (dsimp only at *; omega) | (simp_all; done) | (simp at *; omega))
   replace B3 := B3.st y30 (by intros; try (first | (intro _ _) | (intro _) | skip); first | omega | (dsimp only at *; omega) | (simp_all; done) | (simp at *; omega))
   replace RG := RG.st y30 (by intros; try (first | (intro _ _) | (intro _) | skip); first | omega | (dsimp only at *; omega) | (simp_all; done) | (simp at *; omega))
   replace B12 := B12.st y30 (by intros; try (first | (intro _ _) | (intro _) | skip); first | omega | (dsimp only at *; omega) | (simp_all; done) | (simp at *; omega))
   replace OE := OE.st y30 (by intros; try (first | (intro _ _) | (intro _) | skip); first | omega | (have hq := hOE _ (by assumption); first | omega | (dsimp only at *; omega)))
   replace DJ := DJ.st y30 (by intros; try (first | (intro _ _) | (intro _) | skip); first | omega | (dsimp only at *; omega) | (simp_all; done) | (simp at *; omega))
   replace B23 := B23.st y30 (by intros; try (first | (intro _ _) | (intro _) | skip); first | omega | (dsimp only at *; omega) | (simp_all; done) | (simp at *; omega))
   replace A24 := A24.st y30 (by intros; try (first | (intro _ _) | (intro _) | skip); first | omega | (dsimp only at *; omega) | (simp_all; done) | (simp at *; omega))
   have zw30 := y30.size
   replace A29 := N30
   refine RS.assign (v := .int _ _) rfl ?_
   refine RS.nil ?_
   refine hK27 _ _ ?_
   try clear hK27
   refine wp_seq_k (fun K31 hK31 => ?_)
   refine wp_seq_k (fun K32 hK32 => ?_)
   refine region ?_
   refine RS.move (v := .int _ _) rfl ?_
   refine RS.o (D.ne rfl rfl) ?_
   refine RS.move (v := .bool _) rfl ?_
   refine RS.splitn 49 rfl rfl (fun c33 => ?_) (fun c33 => ?_)
   ·refine RS.norm (by dsimp only [List.set]) ?_
    exact absurd rfl c33
   ·refine RS.norm (by dsimp only [List.set]) ?_
    refine RS.wantB 49 rfl rfl rfl ?_
    refine RS.move (v := .int _ _) rfl ?_
    refine RS.wantB 49 rfl rfl rfl ?_
    refine RS.o (D.ne rfl rfl) ?_
    refine RS.pick (v := .bool _) rfl rfl ?_
    refine RS.move (v := .bool _) rfl ?_
    refine RS.splitn 53 rfl rfl (fun c34 => ?_) (fun c34 => ?_)
    ·refine RS.norm (by dsimp only [List.set]) ?_
     exact absurd rfl c34
    ·refine RS.norm (by dsimp only [List.set]) ?_
     refine RS.wantB 53 rfl rfl rfl ?_
     refine RS.move (v := .int _ _) rfl ?_
     refine RS.wantB 53 rfl rfl rfl ?_
     refine RS.o (D.ne rfl rfl) ?_
     refine RS.pick (v := .bool _) rfl rfl ?_
     refine RS.move (v := .bool _) rfl ?_
     refine RS.splitn 57 rfl rfl (fun c35 => ?_) (fun c35 => ?_)
     ·refine RS.norm (by dsimp only [List.set]) ?_
      exact absurd rfl c35
     ·refine RS.norm (by dsimp only [List.set]) ?_
      refine RS.wantB 57 rfl rfl rfl ?_
      refine RS.o (D.loadAgg rfl Tryz.underlying33 rfl C33 (by decide) rfl (B23.cellsN 11 rfl)) ?_
      refine RS.wantB 57 rfl rfl rfl ?_
      refine RS.o (D.loadAgg rfl Tryz.underlying33 rfl C33 (by decide) rfl (B12.cellsN 11 rfl)) ?_
      refine RS.wantB 57 rfl rfl rfl ?_
      refine RS.call E11 (sameO _ _ hso hso _ _ _ _ _ DJ RG) rfl (fun v36 w36 x36 A36 => ?_)
      replace hE := Ext.tr hE x36
      replace K0 := K0.ext x36
      replace D0 := D0.ext x36
      replace B2 := B2.ext x36
      replace B3 := B3.ext x36
      replace RG := RG.ext x36
      replace B12 := B12.ext x36
      replace OE := OE.ext x36
      replace DJ := DJ.ext x36
      replace B23 := B23.ext x36
      replace A24 := A24.ext x36
      replace A29 := A29.ext x36
      have zw36 := x36.size
      subst A36
      refine RS.norm (by dsimp only [List.set]) ?_
      refine RS.wantB 57 rfl rfl rfl ?_
      refine RS.o (D.not rfl) ?_
      refine RS.pick (v := .bool _) rfl rfl ?_
      refine RS.move (v := .bool _) rfl ?_
      refine RS.splitnot 63 rfl rfl (fun c37 => ?_) (fun c37 => ?_)
      ·refine RS.norm (by dsimp only [List.set]) ?_
       exact Bool.noConfusion ((decide_eq_true (S.sameO_refl _)).symm.trans c37)
      ·refine RS.norm (by dsimp only [List.set]) ?_
       refine RS.wantB 63 rfl rfl rfl ?_
       refine RS.o (D.loadAgg rfl Tryz.underlying35 rfl C35 (by decide) (by rw [ints_length, A24.len]) A24.cells) ?_
       refine RS.wantB 63 rfl rfl rfl ?_
       refine RS.o (D.loadAgg rfl Tryz.underlying35 rfl C35 (by decide) (by rw [ints_length, A29.len]) A29.cells) ?_
       refine RS.wantB 63 rfl rfl rfl ?_
       refine RS.o (D.neI rfl rfl Tryz.underlying35 Tryz.underlying5 C5 (by kernel_rfl) hsh.1 hsh.1 (by decide)) ?_
       refine RS.pick (v := .bool _) rfl rfl ?_
       refine RS.nil ?_
       refine hK32 _ _ ?_
       try clear hK32
       refine C.ifb rfl (fun c38 => ?_) (fun c38 => ?_)
       ·exact absurd rfl (of_decide_eq_true c38)
       ·refine wp_skip ?_
        refine hK31 _ _ ?_
        try clear hK31
        refine wp_seq_k (fun K39 hK39 => ?_)
        refine region ?_
        refine RS.o (D.loadAgg rfl Tryz.underlying31 rfl C31 (by decide) rfl (B3.cellsN 2 rfl)) ?_
        refine RS.o (D.fieldL 9 rfl Tryz.underlying33 rfl C31 (by decide) rfl) ?_
        refine RS.storeAggB rfl rfl C31 (by decide) rfl rfl B12 rfl (fun w40 y40 N40 => ?_)
        replace hE := hE.trans (y40.below (by intros; try (first | (intro _ _) | (intro _) | skip); first | omega | (dsimp only at *; omega) | (simp_all; done) | (simp at *; omega)))
        replace K0 := K0.st y40 (by intros; try (first | (intro _ _) | (intro _) | skip); first | omega | (dsimp only at *; omega) | (simp_all; done) | (simp at *; omega))
        replace D0 := D0.st y40 (by intros; try (first | (intro _ _) | (intro _) | skip); first | omega | (dsimp only at *; omega) | (simp_all; done) | (simp at *; omega))
        replace B2 := B2.st y40 (by intros; try (first | (intro _ _) | (intro _) | skip); first | omega | (dsimp only at *; omega) | (simp_all; done) | (simp at *; omega))
        replace B3 := B3.st y40 (by intros; try (first | (intro _ _) | (intro _) | skip); first | omega | (dsimp only at *; omega) | (simp_all; done) | (simp at *; omega))
        replace RG := RG.st y40 (by intros; try (first | (intro _ _) | (intro _) | skip); first | omega | (dsimp only at *; omega) | (simp_all; done) | (simp at *; omega))
        replace B23 := B23.st y40 (by intros; try (first | (intro _ _) | (intro _) | skip); first | omega | (dsimp only at *; omega) | (simp_all; done) | (simp at *; omega))
        replace A24 := A24.st y40 (by intros; try (first | (intro _ _) | (intro _) | skip); first | omega | (dsimp only at *; omega) | (simp_all; done) | (simp at *; omega))
        replace A29 := A29.st y40 (by intros; try (first | (intro _ _) | (intro _) | skip); first | omega | (dsimp only at *; omega) | (simp_all; done) | (simp at *; omega))
        have zw40 := y40.size
        replace B12 := N40
        refine RS.nil ?_
        refine hK39 _ _ ?_
        try clear hK39
        refine wp_seq_k (fun K41 hK41 => ?_)
        refine wp_seq_k (fun K42 hK42 => ?_)
        refine region ?_
        refine RS.o (D.loadAgg rfl Tryz.underlying33 rfl C33 (by decide) rfl (B12.cellsN 11 rfl)) ?_
        refine RS.call E33 (checkOR ((S.signS x o).sig e s) hso2 _ _ _ RG hcG) rfl (fun v43 w43 x43 A43 => ?_)
        replace hE := Ext.tr hE x43
        replace K0 := K0.ext x43
        replace D0 := D0.ext x43
        replace B2 := B2.ext x43
        replace B3 := B3.ext x43
        replace RG := RG.ext x43
        replace B12 := B12.ext x43
        replace B23 := B23.ext x43
        replace A24 := A24.ext x43
        replace A29 := A29.ext x43
        have zw43 := x43.size
        subst A43
        refine RS.norm (by dsimp only [List.set]) ?_
        refine RS.o (D.ne rfl rfl) ?_
        refine RS.nil ?_
        refine hK42 _ _ ?_
        try clear hK42
        refine C.ifn rfl (fun c44 => ?_) (fun c44 => ?_)
        ·have hk := c44
         refine wp_seq_k (fun K45 hK45 => ?_)
         refine region ?_
         refine RS.call E32 (aliveJ _ _ K0) rfl (fun v46 w46 x46 A46 => ?_)
         replace hE := Ext.tr hE x46
         replace K0 := K0.ext x46
         replace D0 := D0.ext x46
         replace B2 := B2.ext x46
         replace B3 := B3.ext x46
         replace RG := RG.ext x46
         replace B12 := B12.ext x46
         replace B23 := B23.ext x46
         replace A24 := A24.ext x46
         replace A29 := A29.ext x46
         have zw46 := x46.size
         subst A46
         refine RS.norm (by dsimp only [List.set]) ?_
         refine RS.assign (v := .bool _) rfl ?_
         refine RS.nil ?_
         refine hK45 _ _ ?_
         try clear hK45
         refine wp_ret ?_
         refine ret (rs := [.tmp 6]) (vs := [.bool _]) (v := (.bool _)) rfl ⟨rfl, trivial⟩ rfl ?_
         exact ⟨_, rfl, hE, rfl⟩
        ·have hk := c44
         have h402 := S.enc_400 (o := ((S.signS x o).sig e s)) gl hk
         obtain ⟨f0, _⟩ := S.jd_enc (S.OpV.ok.rng hso2) gl hk
         refine wp_skip ?_
         refine hK41 _ _ ?_
         try clear hK41
         refine wp_seq_k (fun K47 hK47 => ?_)
         refine region ?_
         refine RS.o (D.loadAgg rfl Tryz.underlying33 rfl C33 (by decide) rfl (B12.cellsN 11 rfl)) ?_
         refine RS.call E29 (encodeO ((S.signS x o).sig e s) hso2 _ _ _ RG hcG) rfl (fun v48 w48 x48 A48 => ?_)
         replace hE := Ext.tr hE x48
         replace K0 := K0.ext x48
         replace D0 := D0.ext x48
         replace B2 := B2.ext x48
         replace B3 := B3.ext x48
         replace RG := RG.ext x48
         replace B12 := B12.ext x48
         replace B23 := B23.ext x48
         replace A24 := A24.ext x48
         replace A29 := A29.ext x48
         have zw48 := x48.size
         obtain ⟨aOG, nOG, cOG, xsOG, rfl, OG, hxs⟩ := A48
         rw [if_pos hk] at hxs
         rw [show S.checkE ((S.signS x o).sig e s) = 0 from hk]
         subst hxs
         have hOG := OG.lo
         have lOG := OG.len
         have pOG := OG.own.pre
         refine RS.norm (by dsimp only [List.set]) ?_
         refine RS.move (v := .tuple _) rfl ?_
         refine RS.extract (v := .slice _ _ _) rfl rfl ?_
         refine RS.extract (v := .int _ _) rfl rfl ?_
         refine RS.assign (v := .slice _ _ _) rfl ?_
         refine RS.assign (v := .int _ _) rfl ?_
         refine RS.nil ?_
         refine hK47 _ _ ?_
         try clear hK47
         refine wp_seq_k (fun K49 hK49 => ?_)
         refine region ?_
         refine RS.assign (v := .int .u8 4) rfl ?_
         refine RS.nil ?_
         refine hK49 _ _ ?_
         try clear hK49
         refine wp_seq_k (fun K50 hK50 => ?_)
         refine wp_seq_k (fun K51 hK51 => ?_)
         refine region ?_
         refine RS.o (D.loadAgg rfl Tryz.underlying33 rfl C33 (by decide) rfl (B12.cellsN 11 rfl)) ?_
         refine RS.call E25 (verifyO ((S.signS x o).sig e s) hso2 _ _ _ _ K0 RG hcG) rfl (fun v52 w52 x52 A52 => ?_)
         replace hE := Ext.tr hE x52
         replace K0 := K0.ext x52
         replace D0 := D0.ext x52
         replace B2 := B2.ext x52
         replace B3 := B3.ext x52
         replace RG := RG.ext x52
         replace B12 := B12.ext x52
         replace B23 := B23.ext x52
         replace A24 := A24.ext x52
         replace A29 := A29.ext x52
         replace OG := OG.ext x52
         have zw52 := x52.size
         subst A52
         refine RS.norm (by dsimp only [List.set]) ?_
         refine RS.o (D.eq rfl rfl) ?_
         refine RS.nil ?_
         refine hK51 _ _ ?_
         try clear hK51
         refine C.ife rfl (fun c53 => ?_) (fun c53 => ?_)
         ·have hv := c53
          rw [if_pos hv] at f0
          refine region ?_
          refine RS.assign (v := .int .u8 0) rfl ?_
          refine RS.nil ?_
          refine hK50 _ _ ?_
          try clear hK50
          refine wp_seq_k (fun K54 hK54 => ?_)
          refine region ?_
          refine RS.move (v := .int _ _) rfl ?_
          refine RS.o (D.eq rfl rfl) ?_
          refine RS.move (v := .bool _) rfl ?_
          refine RS.splite 84 rfl rfl (fun c55 => ?_) (fun c55 => ?_)
          ·refine RS.norm (by dsimp only [List.set]) ?_
           refine RS.wantB 84 rfl rfl rfl ?_
           refine RS.move (v := .slice _ _ _) rfl ?_
           refine RS.wantB 84 rfl rfl rfl ?_
           refine RS.call E34 (verdictW _ _ _ _ _ _ K0 OG.row pOG (by omega)) rfl (fun v56 w56 x56 A56 => ?_)
           replace hE := Ext.tr hE x56
           replace K0 := K0.ext x56
           replace D0 := D0.ext x56
           replace B2 := B2.ext x56
           replace B3 := B3.ext x56
           replace RG := RG.ext x56
           replace B12 := B12.ext x56
           replace B23 := B23.ext x56
           replace A24 := A24.ext x56
           replace A29 := A29.ext x56
           replace OG := OG.ext x56
           have zw56 := x56.size
           subst A56
           refine RS.norm (by dsimp only [List.set]) ?_
           refine RS.wantB 84 rfl rfl rfl ?_
           refine RS.move (v := .int _ _) rfl ?_
           refine RS.wantB 84 rfl rfl rfl ?_
           refine RS.o (D.eq rfl rfl) ?_
           refine RS.pick (v := .bool _) rfl rfl ?_
           refine RS.move (v := .bool _) rfl ?_
           refine RS.splite 90 rfl rfl (fun c57 => ?_) (fun c57 => ?_)
           ·refine RS.norm (by dsimp only [List.set]) ?_
            refine RS.wantB 90 rfl rfl rfl ?_
            refine RS.call E32 (aliveJ _ _ K0) rfl (fun v58 w58 x58 A58 => ?_)
            replace hE := Ext.tr hE x58
            replace K0 := K0.ext x58
            replace D0 := D0.ext x58
            replace B2 := B2.ext x58
            replace B3 := B3.ext x58
            replace RG := RG.ext x58
            replace B12 := B12.ext x58
            replace B23 := B23.ext x58
            replace A24 := A24.ext x58
            replace A29 := A29.ext x58
            replace OG := OG.ext x58
            have zw58 := x58.size
            subst A58
            refine RS.norm (by dsimp only [List.set]) ?_
            refine RS.pick (v := .bool _) rfl rfl ?_
            refine RS.assign (v := .bool _) rfl ?_
            refine RS.nil ?_
            refine hK54 _ _ ?_
            try clear hK54
            refine wp_ret ?_
            refine ret (rs := [.tmp 6]) (vs := [.bool _]) (v := (.bool _)) rfl ⟨rfl, trivial⟩ rfl ?_
            exact ⟨_, rfl, hE, rfl⟩
           ·refine RS.norm (by dsimp only [List.set]) ?_
            exact absurd f0 c57
          ·refine RS.norm (by dsimp only [List.set]) ?_
           exact absurd rfl c55
         ·have hv := c53
          rw [if_neg hv] at f0
          refine wp_skip ?_
          refine hK50 _ _ ?_
          try clear hK50
          refine wp_seq_k (fun K59 hK59 => ?_)
          refine region ?_
          refine RS.move (v := .int _ _) rfl ?_
          refine RS.o (D.eq rfl rfl) ?_
          refine RS.move (v := .bool _) rfl ?_
          refine RS.splite 84 rfl rfl (fun c60 => ?_) (fun c60 => ?_)
          ·refine RS.norm (by dsimp only [List.set]) ?_
           refine RS.wantB 84 rfl rfl rfl ?_
           refine RS.move (v := .slice _ _ _) rfl ?_
           refine RS.wantB 84 rfl rfl rfl ?_
           refine RS.call E34 (verdictW _ _ _ _ _ _ K0 OG.row pOG (by omega)) rfl (fun v61 w61 x61 A61 => ?_)
           replace hE := Ext.tr hE x61
           replace K0 := K0.ext x61
           replace D0 := D0.ext x61
           replace B2 := B2.ext x61
           replace B3 := B3.ext x61
           replace RG := RG.ext x61
           replace B12 := B12.ext x61
           replace B23 := B23.ext x61
           replace A24 := A24.ext x61
           replace A29 := A29.ext x61
           replace OG := OG.ext x61
           have zw61 := x61.size
           subst A61
           refine RS.norm (by dsimp only [List.set]) ?_
           refine RS.wantB 84 rfl rfl rfl ?_
           refine RS.move (v := .int _ _) rfl ?_
           refine RS.wantB 84 rfl rfl rfl ?_
           refine RS.o (D.eq rfl rfl) ?_
           refine RS.pick (v := .bool _) rfl rfl ?_
           refine RS.move (v := .bool _) rfl ?_
           refine RS.splite 90 rfl rfl (fun c62 => ?_) (fun c62 => ?_)
           ·refine RS.norm (by dsimp only [List.set]) ?_
            refine RS.wantB 90 rfl rfl rfl ?_
            refine RS.call E32 (aliveJ _ _ K0) rfl (fun v63 w63 x63 A63 => ?_)
            replace hE := Ext.tr hE x63
            replace K0 := K0.ext x63
            replace D0 := D0.ext x63
            replace B2 := B2.ext x63
            replace B3 := B3.ext x63
            replace RG := RG.ext x63
            replace B12 := B12.ext x63
            replace B23 := B23.ext x63
            replace A24 := A24.ext x63
            replace A29 := A29.ext x63
            replace OG := OG.ext x63
            have zw63 := x63.size
            subst A63
            refine RS.norm (by dsimp only [List.set]) ?_
            refine RS.pick (v := .bool _) rfl rfl ?_
            refine RS.assign (v := .bool _) rfl ?_
            refine RS.nil ?_
            refine hK59 _ _ ?_
            try clear hK59
            refine wp_ret ?_
            refine ret (rs := [.tmp 6]) (vs := [.bool _]) (v := (.bool _)) rfl ⟨rfl, trivial⟩ rfl ?_
            exact ⟨_, rfl, hE, rfl⟩
           ·refine RS.norm (by dsimp only [List.set]) ?_
            exact absurd f0 c62
          ·refine RS.norm (by dsimp only [List.set]) ?_
           exact absurd rfl c60
end Go.Proofs.YtiohpiiiapjblaaGreatDoor.W
namespace Go.Proofs.YtiohpiiiapjblaaGreatDoor.L
open Go Go.Proofs.YtiohpiiiapjblaaGreatDoor Go.Proofs.YtiohpiiiapjblaaGreatDoor.G Go.Proofs.YtiohpiiiapjblaaGreatDoor.W
open Go.ChangeShapes Go.WideShapes Go.ChangeAt Go.RowKit
set_option linter.unusedVariables false
set_option maxRecDepth 100000
theorem judgeSigned_door (os : Os) (args : Array Value) : laidMetH Tryz.prog [("braid/digest.constants", Rows.laid_braid_digest_constants)] ((World.doorLaid Tryz.prog 400 os).forCall (fun _ _ => 0) ⟨#[], args, []⟩).memory :=
  laidMetH_of_parts3 (fuel := 8) (laidMet_of_run' 8 (by kernel_rfl) (by kernel_rfl)) (by kernel_rfl) (by kernel_rfl)
theorem judgeSigned_lifted (os : Os) (started : os.Started) (H : Type) (enc : TypeId × Value → H) :
    ReturnsInHanded {} Tryz.checked os 7 .any (fun w args => (Rows.judgeSignedSpec.pre enc Tryz.prog Tryz.f7 [] false w args ∧ laidMetH Tryz.prog [("braid/digest.constants", Rows.laid_braid_digest_constants)] w) ∧ sizedMet enc Tryz.prog Tryz.f7 (OpenSpec.ofChange Rows.judgeSignedSpec) false w args)
      (Rows.judgeSignedSpec.post enc Tryz.prog Tryz.f7 false true false false) := by
  refine returnsInHanded_of_change_and (C := Tryz.checked) (X := fun w _ => laidMetH Tryz.prog [("braid/digest.constants", Rows.laid_braid_digest_constants)] w) (fun _ _ _ hh h => h.of_heap hh) own started (by kernel_rfl) Tryz.func7
    (ChangeSpec.witness_shaped (enc := enc) (C := Tryz.checked) (os := os) (X := fun w _ => laidMetH Tryz.prog [("braid/digest.constants", Rows.laid_braid_digest_constants)] w) false (World.doorLaid Tryz.prog 400 os) #[.int .u32 0, .agg #[.int .u32 0, .slice none 0 0, .int .u64 0, .int .u8 0, .string .empty, .int .u8 0, .int .i64 0, .int .u64 0, .string .empty, .int .u32 0, .int .u32 0], .agg #[.int .u32 0, .int .u32 0]] 8 rfl (World.shaped_of_RefB (by kernel_rfl) (by kernel_rfl)) (by kernel_rfl) (by kernel_rfl) (by kernel_rfl) (judgeSigned_door os _)) ?_
  intro W base args ds gs before hval0 hW _ _ hL _
  have hval : ∀ (j : Nat) t v, Tryz.f7.params[j]? = some t → args[j]? = some v → Value.okWide Tryz.prog W .any base t v := hval0
  have hW' := hW
  obtain ⟨p, q, hA0, hV, rfl, hfz, hnd⟩ := hW
  have hA : DataW.TrodAll enc Tryz.prog W 0 (fun _ => true) true Tryz.f7.params.toList args.toList ds p := hA0
  rw [Tryz.params7] at hA hval
  obtain ⟨v0, vs0, d0, ds0, p0, q0, hargs, rfl, rfl, h0, r0⟩ := trodAll_cons hA
  obtain ⟨v1, vs1, d1, ds1, p1, q1, e1, rfl, rfl, h1, r1⟩ := trodAll_cons r0
  obtain ⟨v2, vs2, d2, ds2, p2, q2, e2, rfl, rfl, h2, r2⟩ := trodAll_cons r1
  obtain ⟨rfl, rfl, rfl⟩ := trodAll_nil r2
  subst e2
  subst e1
  obtain rfl : args = #[v0, v1, v2] := by cases args; simp_all
  obtain ⟨rfl, rfl⟩ := trodVars_none hV
  obtain ⟨n0, rfl⟩ := okWide_int Tryz.underlying23 (hval 0 23 v0 rfl rfl)
  obtain ⟨cs1, rfl, _⟩ := okWide_struct Tryz.underlying33 (hval 1 33 v1 rfl rfl)
  obtain ⟨cs2, rfl, _⟩ := okWide_struct Tryz.underlying31 (hval 2 31 v2 rfl rfl)
  have k0 := h0
  have lt0 : ∀ x ∈ p0, x.block < W.heap.size := by obtain ⟨m, hm⟩ := k0; exact DataW.trod_lt m _ _ _ hm
  obtain ⟨fuel0, hf0⟩ := h0
  obtain ⟨_, he0, hx0⟩ := int_in Tryz.underlying23 hf0
  have hl0 : IntKind.min .u32 = 0 ∧ IntKind.max .u32 = 4294967295 := by decide
  obtain rfl := (Value.int.inj (List.cons.inj he0).1).2
  have k1 := h1
  have lt1 : ∀ x ∈ p1, x.block < W.heap.size := by obtain ⟨m, hm⟩ := k1; exact DataW.trod_lt m _ _ _ hm
  obtain ⟨fuel1, hf1⟩ := h1
  obtain ⟨o1, pa1, pc1, hcs1, hr1, hc1, hR1⟩ := op_in hf1
  have hv1 : (Value.agg cs1) = .agg ([.int .u32 o1.au, .slice pa1 o1.n pc1, .int .u64 o1.st, .int .u8 o1.k, .string o1.key, .int .u8 o1.vk, .int .i64 o1.num, .int .u64 o1.bits, .string o1.t, .int .u32 o1.e, .int .u32 o1.s] : List Value).toArray := by
    congr 1
    apply Array.ext'
    exact hcs1
  have k2 := h2
  have lt2 : ∀ x ∈ p2, x.block < W.heap.size := by obtain ⟨m, hm⟩ := k2; exact DataW.trod_lt m _ _ _ hm
  obtain ⟨fuel2, hf2⟩ := h2
  obtain ⟨e2, s2, hcs2, he2, hs2⟩ := sig_in hf2
  have hv2 : (Value.agg cs2) = .agg ([.int .u32 e2, .int .u32 s2] : List Value).toArray := by
    congr 1
    apply Array.ext'
    exact hcs2
  have K0 := of_laid hL
  clear hA0 hval0
  have hwalk := judgeSigned n0 (by omega) o1 hr1 pa1 pc1 e2 s2 he2 hs2 0 W K0 hR1 hc1
  rw [← hv1, ← hv2] at hwalk
  refine hwalk.mono fun e W' hret => ?_
  obtain ⟨v, rfl, bel, rfl⟩ := hret
  exact ⟨_, rfl, _, _, _, [], _, [], hW', trodAll_mk1 (shut_bool Tryz.underlying4 _), (trodAll_cons_mk (Below.trod laidOut (by kernel_rfl) (of_decide_eq_true (by kernel_rfl)) k0 bel lt0) (trodAll_cons_mk (Below.trod laidOut (by kernel_rfl) (of_decide_eq_true (by kernel_rfl)) k1 bel lt1) (trodAll_cons_mk (Below.trod laidOut (by kernel_rfl) (of_decide_eq_true (by kernel_rfl)) k2 bel lt2) trodAll_mk0))), rfl, bel.frame _, fun h => by cases h⟩
theorem judgeSigned_holds : Rows.JudgeSignedSaid :=
  OpenClaim.holds_of_wide 7 Tryz.f7 rfl rfl rfl rfl rfl rfl rfl ⟨rfl, rfl, rfl, rfl, rfl⟩ rfl rfl rfl rfl rfl (by kernel_rfl) Tryz.func7 (by kernel_rfl)
    (of_decide_eq_true (by kernel_rfl)) (by unfold Func.isWrapper; first | (rw [if_pos (by decide +kernel)]; kernel_rfl) | (rw [if_neg (by decide +kernel)]; exact ⟨rfl, rfl⟩))
    (fun os started H enc _ => judgeSigned_lifted os started H enc)
theorem judgeSigned_card : Rows.JudgeSignedCardSaid :=
  Claim7.holds_tied_plain_at .later [] [.data] true (true, "5f1a454c20384897b10aae27f0fb7605c8ace21901f8afa9a203fa82d3013071") false
    judgeSigned_holds (fun _ h => by cases h) (by kernel_rfl) (fun _ h => by cases h) judgeSigned_row_tie rfl ⟨rfl, rfl⟩ (by kernel_rfl) rfl
    (fun f fn hf hfn => by
      obtain rfl : f = 7 := Option.some.inj ((show Tryz.prog.funcNamed "braid/braidlaw08.JudgeSigned" = some 7 by kernel_rfl).symm.trans hf) |>.symm
      obtain rfl : fn = Tryz.f7 := (Option.some.inj (Tryz.func7.symm.trans hfn)).symm
      exact ⟨by kernel_rfl, fun j t ht => by
        rw [Tryz.params7] at ht
        have hm : t ∈ [23, 33, 31] := by simpa using Array.mem_of_getElem? ht
        have hall : ([23, 33, 31].all fun u => !Tryz.prog.wantsStandIn u) = true := by kernel_rfl
        exact (show Tryz.prog.wantsStandIn t = false by simpa using List.all_eq_true.1 hall t hm)⟩)
    (by kernel_rfl)
end Go.Proofs.YtiohpiiiapjblaaGreatDoor.L
