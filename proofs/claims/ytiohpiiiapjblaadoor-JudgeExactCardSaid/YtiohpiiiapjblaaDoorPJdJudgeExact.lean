/-
  JudgeExact: bytes are fine exactly if they are those of an operation that is signed, they are the only ones for it, its id is their digest, and what the verdict is otherwise. Condition: the table digest.constants is as its initialiser lays it (tied by the card).
-/
import Derived.Test.YtiohpiiiapjblaaDoorPJd11
namespace Go.Proofs.YtiohpiiiapjblaaDoor.W
open Go.RowKit Go.Proofs.YtiohpiiiapjblaaDoor.G
set_option linter.unusedVariables false
set_option maxRecDepth 20000
set_option maxHeartbeats 8000000
attribute [local irreducible] RS RX
theorem E33 : Enters Tryd.prog 33 := .mk Tryd.func33 (by kernel_rfl) rfl
theorem judgeExact {S0 : Nat → Prop} (a : Option Addr) (n c : Nat) (bs : List Int) (TK : TypeId) (w : World) (K0 : Kst w TK) (R0 : IRow .u8 S0 w a n bs) (hc : n ≤ c) :
  Calls Tryd.prog 7 #[.slice a n c] w (Ret w fun v _ => v = .bool true) := by
 replace R0 := R0.weaken (T := fun k => k < w.heap.size) (fun k hk _ => hk)
 have hbl := R0.len
 have hbd := R0.bd
 have hKl := K0.lt
 have hE := Ext.refl w
 refine enter (args := [.slice a n c]) (l := [.slice a n c, undef, undef, undef, undef, undef, undef, undef, undef, undef, undef, undef, undef, undef, undef, undef, undef, undef, undef, undef, undef, undef, undef, undef, undef, undef, undef, undef, undef, undef, undef, undef, undef, undef, undef, undef, undef, undef, undef, undef, undef, undef, undef, undef, undef, undef, undef, undef, undef, undef, undef, undef, undef, undef, undef, undef, undef, undef, undef, undef, undef, undef, undef, undef, undef, undef, undef, undef, undef, undef, undef, undef, undef, undef, undef, undef, undef, undef, undef, undef, undef, undef, undef, undef, undef, undef, undef, undef, undef, undef, undef, undef, undef, undef, undef, undef, undef, undef, undef, undef, undef, undef, undef, undef, undef, undef, undef]) Tryd.func7 rfl rfl ?_
 refine wp_seq_k (fun K1 hK1 => ?_)
 refine region ?_
 refine RS.assign (v := .bool false) rfl ?_
 refine RS.nil ?_
 refine hK1 _ _ ?_
 try clear hK1
 refine wp_seq_k (fun K2 hK2 => ?_)
 refine wp_seq_k (fun K3 hK3 => ?_)
 refine region ?_
 refine RS.move (v := .slice _ _ _) rfl ?_
 refine RS.o (D.len rfl Tryd.underlying35) ?_
 refine RS.o (D.gt rfl rfl) ?_
 refine RS.nil ?_
 refine hK3 _ _ ?_
 try clear hK3
 refine C.ifd rfl (fun c4 => ?_) (fun c4 => ?_)
 ·have hn := c4
  refine wp_seq_k (fun K5 hK5 => ?_)
  refine region ?_
  refine RS.call E33 (aliveJ _ _ K0) rfl (fun v6 w6 x6 A6 => ?_)
  replace hE := Ext.tr hE x6
  replace K0 := K0.ext x6
  replace R0 := R0.ext x6
  have zw6 := x6.size
  subst A6
  refine RS.norm (by dsimp only [List.set]) ?_
  refine RS.assign (v := .bool _) rfl ?_
  refine RS.nil ?_
  refine hK5 _ _ ?_
  try clear hK5
  refine wp_ret ?_
  refine ret (rs := [.tmp 2]) (vs := [.bool _]) (v := (.bool _)) rfl ⟨rfl, trivial⟩ rfl ?_
  exact ⟨_, rfl, hE, rfl⟩
 ·have hn := c4
  refine wp_skip ?_
  refine hK2 _ _ ?_
  try clear hK2
  refine wp_seq_k (fun K7 hK7 => ?_)
  refine region ?_
  refine RS.move (v := .slice _ _ _) rfl ?_
  refine RS.call E34 (judgeOf _ _ _ _ _ _ K0 R0 hc (by omega)) rfl (fun v8 w8 x8 A8 => ?_)
  replace hE := Ext.tr hE x8
  replace K0 := K0.ext x8
  replace R0 := R0.ext x8
  have zw8 := x8.size
  obtain ⟨aJ, cJ, rfl, hcJ, DJ⟩ := A8
  have hjI := S.jdI_arr bs
  replace DJ := DJ.weaken (T := fun k => k < w8.heap.size) (fun k hk _ => hk)
  refine RS.norm (by dsimp only [List.set]) ?_
  refine RS.move (v := .tuple _) rfl ?_
  refine RS.extract (v := .agg _) rfl rfl ?_
  refine RS.extract (v := .agg _) rfl rfl ?_
  refine RS.extract (v := .int _ _) rfl rfl ?_
  refine RS.alloc T32 (fun b9 w9 e9 s9 x9 B9 => ?_)
  refine RS.norm (by dsimp only [List.set]) ?_
  replace hE := Ext.tr hE x9
  replace K0 := K0.ext x9
  replace R0 := R0.ext x9
  replace DJ := DJ.ext x9
  have zw9 := x9.size
  refine RS.alloc T42 (fun b10 w10 e10 s10 x10 B10 => ?_)
  refine RS.norm (by dsimp only [List.set]) ?_
  replace hE := Ext.tr hE x10
  replace K0 := K0.ext x10
  replace R0 := R0.ext x10
  replace DJ := DJ.ext x10
  replace B9 := B9.ext x10
  have zw10 := x10.size
  have A10 : IArr .u8 w10 b10 32 (List.replicate 32 0) [] 42 := IArr.zero B10
  clear B10
  refine RS.storeAggB rfl rfl C32 (by decide) rfl rfl B9 rfl (fun w11 y11 N11 => ?_)
  replace hE := hE.trans (y11.below (by intros; try (first | (intro _ _) | (intro _) | skip); first | omega | (dsimp only at *; omega) | (simp_all; done) | (simp at *; omega)))
  replace K0 := K0.st y11 (by intros; try (first | (intro _ _) | (intro _) | skip); first | omega | (dsimp only at *; omega) | (simp_all; done) | (simp at *; omega))
  replace R0 := R0.st y11 (by intros; try (first | (intro _ _) | (intro _) | skip); first | omega | (dsimp only at *; omega) | (simp_all; done) | (simp at *; omega))
  replace DJ := DJ.st y11 (by intros; try (first | (intro _ _) | (intro _) | skip); first | omega | (dsimp only at *; omega) | (simp_all; done) | (simp at *; omega))
  replace A10 := A10.st y11 (by intros; try (first | (intro _ _) | (intro _) | skip); first | omega | (dsimp only at *; omega) | (simp_all; done) | (simp at *; omega))
  have zw11 := y11.size
  replace B9 := N11
  refine RS.storeArr A10 rfl rfl C42 (by decide) hjI.1 hjI.2 (fun w12 y12 N12 => ?_)
  replace hE := hE.trans (y12.below (by intros; try (first | (intro _ _) | (intro _) | skip); first | omega | (dsimp only at *; omega) | (simp_all; done) | (simp at *; omega)))
  replace K0 := K0.st y12 (by intros; try (first | (intro _ _) | (intro _) | skip); first | omega | (dsimp only at *; omega) | (simp_all; done) | (simp at *; omega))
  replace R0 := R0.st y12 (by intros; try (first | (intro _ _) | (intro _) | skip); first | omega | (dsimp only at *; omega) | (simp_all; done) | (simp at *; omega))
  replace DJ := DJ.st y12 (by intros; try (first | (intro _ _) | (intro _) | skip); first | omega | (dsimp only at *; omega) | (simp_all; done) | (simp at *; omega))
  replace B9 := B9.st y12 (by intros; try (first | (intro _ _) | (intro _) | skip); first | omega | (dsimp only at *; omega) | (simp_all; done) | (simp at *; omega))
  have zw12 := y12.size
  replace A10 := N12
  refine RS.assign (v := .int _ _) rfl ?_
  refine RS.nil ?_
  refine hK7 _ _ ?_
  try clear hK7
  refine wp_seq_k (fun K13 hK13 => ?_)
  refine wp_seq_k (fun K14 hK14 => ?_)
  refine region ?_
  refine RS.move (v := .slice _ _ _) rfl ?_
  refine RS.o (D.len rfl Tryd.underlying35) ?_
  refine RS.o (D.gt rfl rfl) ?_
  refine RS.nil ?_
  refine hK14 _ _ ?_
  try clear hK14
  refine C.ifd rfl (fun c15 => ?_) (fun c15 => ?_)
  ·have hv := S.jd_long (b := bs) (by omega)
   rw [hv]
   refine wp_seq_k (fun K16 hK16 => ?_)
   refine region ?_
   refine RS.move (v := .int _ _) rfl ?_
   refine RS.o (D.eq rfl rfl) ?_
   refine RS.move (v := .bool _) rfl ?_
   refine RS.splite 27 rfl rfl (fun c17 => ?_) (fun c17 => ?_)
   ·refine RS.norm (by dsimp only [List.set]) ?_
    refine RS.wantB 27 rfl rfl rfl ?_
    refine RS.move (v := .slice _ _ _) rfl ?_
    refine RS.wantB 27 rfl rfl rfl ?_
    refine RS.call E35 (judgeFine _ _ _ _ _ _ K0 R0 hc (by omega)) rfl (fun v18 w18 x18 A18 => ?_)
    replace hE := Ext.tr hE x18
    replace K0 := K0.ext x18
    replace R0 := R0.ext x18
    replace DJ := DJ.ext x18
    replace B9 := B9.ext x18
    replace A10 := A10.ext x18
    have zw18 := x18.size
    subst A18
    rw [hv]
    refine RS.norm (by dsimp only [List.set]) ?_
    refine RS.wantB 27 rfl rfl rfl ?_
    refine RS.o (D.not rfl) ?_
    refine RS.pick (v := .bool _) rfl rfl ?_
    refine RS.move (v := .bool _) rfl ?_
    refine RS.splitnot 32 rfl rfl (fun c19 => ?_) (fun c19 => ?_)
    ·refine RS.norm (by dsimp only [List.set]) ?_
     refine RS.wantB 32 rfl rfl rfl ?_
     refine RS.call E33 (aliveJ _ _ K0) rfl (fun v20 w20 x20 A20 => ?_)
     replace hE := Ext.tr hE x20
     replace K0 := K0.ext x20
     replace R0 := R0.ext x20
     replace DJ := DJ.ext x20
     replace B9 := B9.ext x20
     replace A10 := A10.ext x20
     have zw20 := x20.size
     subst A20
     refine RS.norm (by dsimp only [List.set]) ?_
     refine RS.pick (v := .bool _) rfl rfl ?_
     refine RS.assign (v := .bool _) rfl ?_
     refine RS.nil ?_
     refine hK16 _ _ ?_
     try clear hK16
     refine wp_ret ?_
     refine ret (rs := [.tmp 2]) (vs := [.bool _]) (v := (.bool _)) rfl ⟨rfl, trivial⟩ rfl ?_
     exact ⟨_, rfl, hE, rfl⟩
    ·refine RS.norm (by dsimp only [List.set]) ?_
     exact absurd c19 (by decide)
   ·refine RS.norm (by dsimp only [List.set]) ?_
    exact absurd rfl c17
  ·have hl := c15
   refine wp_skip ?_
   refine hK13 _ _ ?_
   try clear hK13
   refine wp_seq_k (fun K21 hK21 => ?_)
   refine region ?_
   refine RS.move (v := .slice _ _ _) rfl ?_
   refine RS.call E31 (decodeO _ _ _ _ _ R0 hc (by omega)) rfl (fun v22 w22 x22 A22 => ?_)
   replace hE := Ext.tr hE x22
   replace K0 := K0.ext x22
   replace R0 := R0.ext x22
   replace DJ := DJ.ext x22
   replace B9 := B9.ext x22
   replace A10 := A10.ext x22
   have zw22 := x22.size
   obtain ⟨aD, cD, rfl, hcD, DD⟩ := A22
   obtain ⟨hok, hdl⟩ := S.decO_ok hbd
   replace DD := DD.weaken (T := fun k => k < w22.heap.size) (fun k hk _ => hk)
   refine RS.norm (by dsimp only [List.set]) ?_
   refine RS.move (v := .tuple _) rfl ?_
   refine RS.extract (v := .agg _) rfl rfl ?_
   refine RS.extract (v := .int _ _) rfl rfl ?_
   refine RS.alloc T32 (fun b23 w23 e23 s23 x23 B23 => ?_)
   refine RS.norm (by dsimp only [List.set]) ?_
   replace hE := Ext.tr hE x23
   replace K0 := K0.ext x23
   replace R0 := R0.ext x23
   replace DJ := DJ.ext x23
   replace B9 := B9.ext x23
   replace A10 := A10.ext x23
   replace DD := DD.ext x23
   have zw23 := x23.size
   refine RS.storeAggB rfl rfl C32 (by decide) rfl rfl B23 rfl (fun w24 y24 N24 => ?_)
   replace hE := hE.trans (y24.below (by intros; try (first | (intro _ _) | (intro _) | skip); first | omega | (dsimp only at *; omega) | (simp_all; done) | (simp at *; omega)))
   replace K0 := K0.st y24 (by intros; try (first | (intro _ _) | (intro _) | skip); first | omega | (dsimp only at *; omega) | (simp_all; done) | (simp at *; omega))
   replace R0 := R0.st y24 (by intros; try (first | (intro _ _) | (intro _) | skip); first | omega | (dsimp only at *; omega) | (simp_all; done) | (simp at *; omega))
   replace DJ := DJ.st y24 (by intros; try (first | (intro _ _) | (intro _) | skip); first | omega | (dsimp only at *; omega) | (simp_all; done) | (simp at *; omega))
   replace B9 := B9.st y24 (by intros; try (first | (intro _ _) | (intro _) | skip); first | omega | (dsimp only at *; omega) | (simp_all; done) | (simp at *; omega))
   replace A10 := A10.st y24 (by intros; try (first | (intro _ _) | (intro _) | skip); first | omega | (dsimp only at *; omega) | (simp_all; done) | (simp at *; omega))
   replace DD := DD.st y24 (by intros; try (first | (intro _ _) | (intro _) | skip); first | omega | (dsimp only at *; omega) | (simp_all; done) | (simp at *; omega))
   have zw24 := y24.size
   replace B23 := N24
   refine RS.assign (v := .int _ _) rfl ?_
   refine RS.nil ?_
   refine hK21 _ _ ?_
   try clear hK21
   refine wp_seq_k (fun K25 hK25 => ?_)
   refine wp_seq_k (fun K26 hK26 => ?_)
   refine region ?_
   refine RS.move (v := .int _ _) rfl ?_
   refine RS.o (D.ne rfl rfl) ?_
   refine RS.nil ?_
   refine hK26 _ _ ?_
   try clear hK26
   refine C.ifn rfl (fun c27 => ?_) (fun c27 => ?_)
   ·have hv := S.jd_form (b := bs) (by omega) c27
    rw [hv]
    refine wp_seq_k (fun K28 hK28 => ?_)
    refine region ?_
    refine RS.move (v := .int _ _) rfl ?_
    refine RS.o (D.eq rfl rfl) ?_
    refine RS.move (v := .bool _) rfl ?_
    refine RS.splite 44 rfl rfl (fun c29 => ?_) (fun c29 => ?_)
    ·refine RS.norm (by dsimp only [List.set]) ?_
     refine RS.wantB 44 rfl rfl rfl ?_
     refine RS.move (v := .slice _ _ _) rfl ?_
     refine RS.wantB 44 rfl rfl rfl ?_
     refine RS.call E35 (judgeFine _ _ _ _ _ _ K0 R0 hc (by omega)) rfl (fun v30 w30 x30 A30 => ?_)
     replace hE := Ext.tr hE x30
     replace K0 := K0.ext x30
     replace R0 := R0.ext x30
     replace DJ := DJ.ext x30
     replace B9 := B9.ext x30
     replace A10 := A10.ext x30
     replace DD := DD.ext x30
     replace B23 := B23.ext x30
     have zw30 := x30.size
     subst A30
     rw [hv]
     refine RS.norm (by dsimp only [List.set]) ?_
     refine RS.wantB 44 rfl rfl rfl ?_
     refine RS.o (D.not rfl) ?_
     refine RS.pick (v := .bool _) rfl rfl ?_
     refine RS.move (v := .bool _) rfl ?_
     refine RS.splitnot 49 rfl rfl (fun c31 => ?_) (fun c31 => ?_)
     ·refine RS.norm (by dsimp only [List.set]) ?_
      refine RS.wantB 49 rfl rfl rfl ?_
      refine RS.call E33 (aliveJ _ _ K0) rfl (fun v32 w32 x32 A32 => ?_)
      replace hE := Ext.tr hE x32
      replace K0 := K0.ext x32
      replace R0 := R0.ext x32
      replace DJ := DJ.ext x32
      replace B9 := B9.ext x32
      replace A10 := A10.ext x32
      replace DD := DD.ext x32
      replace B23 := B23.ext x32
      have zw32 := x32.size
      subst A32
      refine RS.norm (by dsimp only [List.set]) ?_
      refine RS.pick (v := .bool _) rfl rfl ?_
      refine RS.assign (v := .bool _) rfl ?_
      refine RS.nil ?_
      refine hK28 _ _ ?_
      try clear hK28
      refine wp_ret ?_
      refine ret (rs := [.tmp 2]) (vs := [.bool _]) (v := (.bool _)) rfl ⟨rfl, trivial⟩ rfl ?_
      exact ⟨_, rfl, hE, rfl⟩
     ·refine RS.norm (by dsimp only [List.set]) ?_
      exact absurd c31 (by decide)
    ·refine RS.norm (by dsimp only [List.set]) ?_
     exact absurd rfl c29
   ·have hz := c27
    have hg := S.dec_good hbd hz
    refine wp_skip ?_
    refine hK25 _ _ ?_
    try clear hK25
    refine wp_seq_k (fun K33 hK33 => ?_)
    refine wp_seq_k (fun K34 hK34 => ?_)
    refine region ?_
    refine RS.o (D.loadAgg rfl Tryd.underlying32 rfl C32 (by decide) rfl (B23.cellsN 11 rfl)) ?_
    refine RS.call E27 (verifyO _ hok _ _ _ _ K0 DD hcD) rfl (fun v35 w35 x35 A35 => ?_)
    replace hE := Ext.tr hE x35
    replace K0 := K0.ext x35
    replace R0 := R0.ext x35
    replace DJ := DJ.ext x35
    replace B9 := B9.ext x35
    replace A10 := A10.ext x35
    replace DD := DD.ext x35
    replace B23 := B23.ext x35
    have zw35 := x35.size
    subst A35
    refine RS.norm (by dsimp only [List.set]) ?_
    refine RS.o (D.ne rfl rfl) ?_
    refine RS.nil ?_
    refine hK34 _ _ ?_
    try clear hK34
    refine C.ifn rfl (fun c36 => ?_) (fun c36 => ?_)
    ·have hv := S.jd_sig (b := bs) (by omega) hz c36
     rw [hv]
     refine wp_seq_k (fun K37 hK37 => ?_)
     refine region ?_
     refine RS.move (v := .int _ _) rfl ?_
     refine RS.o (D.eq rfl rfl) ?_
     refine RS.move (v := .bool _) rfl ?_
     refine RS.splite 57 rfl rfl (fun c38 => ?_) (fun c38 => ?_)
     ·refine RS.norm (by dsimp only [List.set]) ?_
      refine RS.wantB 57 rfl rfl rfl ?_
      refine RS.move (v := .slice _ _ _) rfl ?_
      refine RS.wantB 57 rfl rfl rfl ?_
      refine RS.call E35 (judgeFine _ _ _ _ _ _ K0 R0 hc (by omega)) rfl (fun v39 w39 x39 A39 => ?_)
      replace hE := Ext.tr hE x39
      replace K0 := K0.ext x39
      replace R0 := R0.ext x39
      replace DJ := DJ.ext x39
      replace B9 := B9.ext x39
      replace A10 := A10.ext x39
      replace DD := DD.ext x39
      replace B23 := B23.ext x39
      have zw39 := x39.size
      subst A39
      rw [hv]
      refine RS.norm (by dsimp only [List.set]) ?_
      refine RS.wantB 57 rfl rfl rfl ?_
      refine RS.o (D.not rfl) ?_
      refine RS.pick (v := .bool _) rfl rfl ?_
      refine RS.move (v := .bool _) rfl ?_
      refine RS.splitnot 62 rfl rfl (fun c40 => ?_) (fun c40 => ?_)
      ·refine RS.norm (by dsimp only [List.set]) ?_
       refine RS.wantB 62 rfl rfl rfl ?_
       refine RS.call E33 (aliveJ _ _ K0) rfl (fun v41 w41 x41 A41 => ?_)
       replace hE := Ext.tr hE x41
       replace K0 := K0.ext x41
       replace R0 := R0.ext x41
       replace DJ := DJ.ext x41
       replace B9 := B9.ext x41
       replace A10 := A10.ext x41
       replace DD := DD.ext x41
       replace B23 := B23.ext x41
       have zw41 := x41.size
       subst A41
       refine RS.norm (by dsimp only [List.set]) ?_
       refine RS.pick (v := .bool _) rfl rfl ?_
       refine RS.assign (v := .bool _) rfl ?_
       refine RS.nil ?_
       refine hK37 _ _ ?_
       try clear hK37
       refine wp_ret ?_
       refine ret (rs := [.tmp 2]) (vs := [.bool _]) (v := (.bool _)) rfl ⟨rfl, trivial⟩ rfl ?_
       exact ⟨_, rfl, hE, rfl⟩
      ·refine RS.norm (by dsimp only [List.set]) ?_
       exact absurd c40 (by decide)
     ·refine RS.norm (by dsimp only [List.set]) ?_
      exact absurd rfl c38
    ·have hv := S.jd_fine (b := bs) (by omega) hz c36
     obtain ⟨e1, e2⟩ := S.jd_zero hv
     rw [hv]
     have hsh := S.sha_arr bs
     rw [e1] at B9 DJ hcJ
     rw [e2, hg.2] at A10
     rw [e1, e2]
     refine wp_skip ?_
     refine hK33 _ _ ?_
     try clear hK33
     refine wp_seq_k (fun K42 hK42 => ?_)
     refine region ?_
     refine RS.o (D.loadAgg rfl Tryd.underlying32 rfl C32 (by decide) rfl (B9.cellsN 11 rfl)) ?_
     refine RS.call E14 (encodeO _ hok _ _ _ DJ hcJ) rfl (fun v43 w43 x43 A43 => ?_)
     replace hE := Ext.tr hE x43
     replace K0 := K0.ext x43
     replace R0 := R0.ext x43
     replace DJ := DJ.ext x43
     replace B9 := B9.ext x43
     replace A10 := A10.ext x43
     replace DD := DD.ext x43
     replace B23 := B23.ext x43
     have zw43 := x43.size
     obtain ⟨aE, nE, cE, xs, rfl, OE, hxs⟩ := A43
     rw [if_pos hg.1, hg.2] at hxs
     rw [hg.1]
     rw [hxs] at OE
     have hOE := OE.lo
     have lOE := OE.len
     refine RS.norm (by dsimp only [List.set]) ?_
     refine RS.move (v := .tuple _) rfl ?_
     refine RS.extract (v := .slice _ _ _) rfl rfl ?_
     refine RS.extract (v := .int _ _) rfl rfl ?_
     refine RS.assign (v := .slice _ _ _) rfl ?_
     refine RS.assign (v := .int _ _) rfl ?_
     refine RS.nil ?_
     refine hK42 _ _ ?_
     try clear hK42
     refine wp_seq_k (fun K44 hK44 => ?_)
     refine region ?_
     refine RS.move (v := .slice _ _ _) rfl ?_
     refine RS.call E36 (sum _ _ _ _ _ _ K0 R0 hc (by omega)) rfl (fun v45 w45 x45 A45 => ?_)
     replace hE := Ext.tr hE x45
     replace K0 := K0.ext x45
     replace R0 := R0.ext x45
     replace DJ := DJ.ext x45
     replace B9 := B9.ext x45
     replace A10 := A10.ext x45
     replace DD := DD.ext x45
     replace B23 := B23.ext x45
     replace OE := OE.ext x45
     have zw45 := x45.size
     subst A45
     refine RS.norm (by dsimp only [List.set]) ?_
     refine RS.move (v := .tuple _) rfl ?_
     refine RS.extract (v := .agg _) rfl rfl ?_
     refine RS.extract (v := .int _ _) rfl rfl ?_
     refine RS.alloc T42 (fun b46 w46 e46 s46 x46 B46 => ?_)
     refine RS.norm (by dsimp only [List.set]) ?_
     replace hE := Ext.tr hE x46
     replace K0 := K0.ext x46
     replace R0 := R0.ext x46
     replace DJ := DJ.ext x46
     replace B9 := B9.ext x46
     replace A10 := A10.ext x46
     replace DD := DD.ext x46
     replace B23 := B23.ext x46
     replace OE := OE.ext x46
     have zw46 := x46.size
     have A46 : IArr .u8 w46 b46 32 (List.replicate 32 0) [] 42 := IArr.zero B46
     clear B46
     refine RS.storeArr A46 rfl rfl C42 (by decide) hsh.1 hsh.2 (fun w47 y47 N47 => ?_)
     replace hE := hE.trans (y47.below (by intros; try (first | (intro _ _) | (intro _) | skip); first | omega | (dsimp only at *; omega) | (simp_all; done) | (simp at *; omega)))
     replace K0 := K0.st y47 (by intros; try (first | (intro _ _) | (intro _) | skip); first | omega | (dsimp only at *; omega) | (simp_all; done) | (simp at *; omega))
     replace R0 := R0.st y47 (by intros; try (first | (intro _ _) | (intro _) | skip); first | omega | (dsimp only at *; omega) | (simp_all; done) | (simp at *; omega))
     replace DJ := DJ.st y47 (by intros; try (first | (intro _ _) | (intro _) | skip); first | omega | (dsimp only at *; omega) | (simp_all; done) | (simp at *; omega))
     replace B9 := B9.st y47 (by intros; try (first | (intro _ _) | (intro _) | skip); first | omega | (dsimp only at *; omega) | (simp_all; done) | (simp at *; omega))
     replace A10 := A10.st y47 (by intros; try (first | (intro _ _) | (intro _) | skip); first | omega | (dsimp only at *; omega) | (simp_all; done) | (simp at *; omega))
     replace DD := DD.st y47 (by intros; try (first | (intro _ _) | (intro _) | skip); first | omega | (dsimp only at *; omega) | (simp_all; done) | (simp at *; omega))
     replace B23 := B23.st y47 (by intros; try (first | (intro _ _) | (intro _) | skip); first | omega | (dsimp only at *; omega) | (simp_all; done) | (simp at *; omega))
     replace OE := OE.st y47 (by intros; try (first | (intro _ _) | (intro _) | skip); first | omega | (have hq := hOE _ (by assumption); first | omega | (dsimp only at *; omega)))
     have zw47 := y47.size
     replace A46 := N47
     refine RS.assign (v := .int _ _) rfl ?_
     refine RS.nil ?_
     refine hK44 _ _ ?_
     try clear hK44
     refine wp_seq_k (fun K48 hK48 => ?_)
     refine region ?_
     refine RS.move (v := .int _ _) rfl ?_
     refine RS.o (D.eq rfl rfl) ?_
     refine RS.move (v := .bool _) rfl ?_
     refine RS.splite 77 rfl rfl (fun c49 => ?_) (fun c49 => ?_)
     ·refine RS.norm (by dsimp only [List.set]) ?_
      refine RS.wantB 77 rfl rfl rfl ?_
      refine RS.move (v := .slice _ _ _) rfl ?_
      refine RS.wantB 77 rfl rfl rfl ?_
      refine RS.call E35 (judgeFine _ _ _ _ _ _ K0 R0 hc (by omega)) rfl (fun v50 w50 x50 A50 => ?_)
      replace hE := Ext.tr hE x50
      replace K0 := K0.ext x50
      replace R0 := R0.ext x50
      replace DJ := DJ.ext x50
      replace B9 := B9.ext x50
      replace A10 := A10.ext x50
      replace DD := DD.ext x50
      replace B23 := B23.ext x50
      replace OE := OE.ext x50
      replace A46 := A46.ext x50
      have zw50 := x50.size
      subst A50
      rw [hv]
      refine RS.norm (by dsimp only [List.set]) ?_
      refine RS.pick (v := .bool _) rfl rfl ?_
      refine RS.move (v := .bool _) rfl ?_
      refine RS.splitb 81 rfl rfl (fun c51 => ?_) (fun c51 => ?_)
      ·refine RS.norm (by dsimp only [List.set]) ?_
       refine RS.wantB 81 rfl rfl rfl ?_
       refine RS.o (D.loadAgg rfl Tryd.underlying32 rfl C32 (by decide) rfl (B9.cellsN 11 rfl)) ?_
       refine RS.wantB 81 rfl rfl rfl ?_
       refine RS.o (D.loadAgg rfl Tryd.underlying32 rfl C32 (by decide) rfl (B23.cellsN 11 rfl)) ?_
       refine RS.wantB 81 rfl rfl rfl ?_
       refine RS.call E23 (sameO _ _ hok hok _ _ _ _ _ DJ DD) rfl (fun v52 w52 x52 A52 => ?_)
       replace hE := Ext.tr hE x52
       replace K0 := K0.ext x52
       replace R0 := R0.ext x52
       replace DJ := DJ.ext x52
       replace B9 := B9.ext x52
       replace A10 := A10.ext x52
       replace DD := DD.ext x52
       replace B23 := B23.ext x52
       replace OE := OE.ext x52
       replace A46 := A46.ext x52
       have zw52 := x52.size
       subst A52
       refine RS.norm (by dsimp only [List.set]) ?_
       refine RS.pick (v := .bool _) rfl rfl ?_
       refine RS.move (v := .bool _) rfl ?_
       refine RS.splitb 86 rfl rfl (fun c53 => ?_) (fun c53 => ?_)
       ·refine RS.norm (by dsimp only [List.set]) ?_
        refine RS.wantB 86 rfl rfl rfl ?_
        refine RS.move (v := .int _ _) rfl ?_
        refine RS.wantB 86 rfl rfl rfl ?_
        refine RS.o (D.eq rfl rfl) ?_
        refine RS.pick (v := .bool _) rfl rfl ?_
        refine RS.move (v := .bool _) rfl ?_
        refine RS.splite 90 rfl rfl (fun c54 => ?_) (fun c54 => ?_)
        ·refine RS.norm (by dsimp only [List.set]) ?_
         refine RS.wantB 90 rfl rfl rfl ?_
         refine RS.move (v := .slice _ _ _) rfl ?_
         refine RS.wantB 90 rfl rfl rfl ?_
         refine RS.move (v := .slice _ _ _) rfl ?_
         refine RS.wantB 90 rfl rfl rfl ?_
         refine RS.call E22 (sameBytes _ _ _ _ _ _ _ _ _ R0 OE.row (by omega) (by omega)) rfl (fun v55 w55 x55 A55 => ?_)
         replace hE := Ext.tr hE x55
         replace K0 := K0.ext x55
         replace R0 := R0.ext x55
         replace DJ := DJ.ext x55
         replace B9 := B9.ext x55
         replace A10 := A10.ext x55
         replace DD := DD.ext x55
         replace B23 := B23.ext x55
         replace OE := OE.ext x55
         replace A46 := A46.ext x55
         have zw55 := x55.size
         subst A55
         refine RS.norm (by dsimp only [List.set]) ?_
         refine RS.pick (v := .bool _) rfl rfl ?_
         refine RS.move (v := .bool _) rfl ?_
         refine RS.splitb 95 rfl rfl (fun c56 => ?_) (fun c56 => ?_)
         ·refine RS.norm (by dsimp only [List.set]) ?_
          refine RS.wantB 95 rfl rfl rfl ?_
          refine RS.move (v := .int _ _) rfl ?_
          refine RS.wantB 95 rfl rfl rfl ?_
          refine RS.o (D.eq rfl rfl) ?_
          refine RS.pick (v := .bool _) rfl rfl ?_
          refine RS.move (v := .bool _) rfl ?_
          refine RS.splite 99 rfl rfl (fun c57 => ?_) (fun c57 => ?_)
          ·refine RS.norm (by dsimp only [List.set]) ?_
           refine RS.wantB 99 rfl rfl rfl ?_
           refine RS.o (D.loadAgg rfl Tryd.underlying42 rfl C42 (by decide) (by rw [ints_length, A10.len]) A10.cells) ?_
           refine RS.wantB 99 rfl rfl rfl ?_
           refine RS.o (D.loadAgg rfl Tryd.underlying42 rfl C42 (by decide) (by rw [ints_length, A46.len]) A46.cells) ?_
           refine RS.wantB 99 rfl rfl rfl ?_
           refine RS.o (D.eqI rfl rfl Tryd.underlying42 Tryd.underlying5 C5 (by kernel_rfl) hsh.1 hsh.1 (by decide)) ?_
           refine RS.pick (v := .bool _) rfl rfl ?_
           refine RS.move (v := .bool _) rfl ?_
           refine RS.splitb 104 rfl rfl (fun c58 => ?_) (fun c58 => ?_)
           ·refine RS.norm (by dsimp only [List.set]) ?_
            refine RS.wantB 104 rfl rfl rfl ?_
            refine RS.call E33 (aliveJ _ _ K0) rfl (fun v59 w59 x59 A59 => ?_)
            replace hE := Ext.tr hE x59
            replace K0 := K0.ext x59
            replace R0 := R0.ext x59
            replace DJ := DJ.ext x59
            replace B9 := B9.ext x59
            replace A10 := A10.ext x59
            replace DD := DD.ext x59
            replace B23 := B23.ext x59
            replace OE := OE.ext x59
            replace A46 := A46.ext x59
            have zw59 := x59.size
            subst A59
            refine RS.norm (by dsimp only [List.set]) ?_
            refine RS.pick (v := .bool _) rfl rfl ?_
            refine RS.assign (v := .bool _) rfl ?_
            refine RS.nil ?_
            refine hK48 _ _ ?_
            try clear hK48
            refine wp_ret ?_
            refine ret (rs := [.tmp 2]) (vs := [.bool _]) (v := (.bool _)) rfl ⟨rfl, trivial⟩ rfl ?_
            exact ⟨_, rfl, hE, rfl⟩
           ·refine RS.norm (by dsimp only [List.set]) ?_
            exact Bool.noConfusion ((decide_eq_true rfl).symm.trans c58)
          ·refine RS.norm (by dsimp only [List.set]) ?_
           exact absurd rfl c57
         ·refine RS.norm (by dsimp only [List.set]) ?_
          exact Bool.noConfusion ((decide_eq_true rfl).symm.trans c56)
        ·refine RS.norm (by dsimp only [List.set]) ?_
         exact absurd rfl c54
       ·refine RS.norm (by dsimp only [List.set]) ?_
        exact Bool.noConfusion ((decide_eq_true (S.sameO_refl _)).symm.trans c53)
      ·refine RS.norm (by dsimp only [List.set]) ?_
       exact absurd c51 (by decide)
     ·refine RS.norm (by dsimp only [List.set]) ?_
      exact absurd rfl c49
end Go.Proofs.YtiohpiiiapjblaaDoor.W
namespace Go.Proofs.YtiohpiiiapjblaaDoor.L
open Go Go.Proofs.YtiohpiiiapjblaaDoor Go.Proofs.YtiohpiiiapjblaaDoor.G Go.Proofs.YtiohpiiiapjblaaDoor.W
open Go.ChangeShapes Go.WideShapes Go.ChangeAt Go.RowKit
set_option linter.unusedVariables false
set_option maxRecDepth 100000
theorem judgeExact_door (os : Os) (args : Array Value) : laidMetH Tryd.prog [("braid/digest.constants", Rows.laid_braid_digest_constants)] ((World.doorLaid Tryd.prog 400 os).forCall (fun _ _ => 0) ⟨#[], args, []⟩).memory :=
  laidMetH_of_parts3 (fuel := 8) (laidMet_of_run' 8 (by kernel_rfl) (by kernel_rfl)) (by kernel_rfl) (by kernel_rfl)
theorem judgeExact_lifted (os : Os) (started : os.Started) (H : Type) (enc : TypeId × Value → H) :
    ReturnsInHanded {} Tryd.checked os 7 .any (fun w args => (Rows.judgeExactSpec.pre enc Tryd.prog Tryd.f7 [] false w args ∧ laidMetH Tryd.prog [("braid/digest.constants", Rows.laid_braid_digest_constants)] w) ∧ sizedMet enc Tryd.prog Tryd.f7 (OpenSpec.ofChange Rows.judgeExactSpec) false w args)
      (Rows.judgeExactSpec.post enc Tryd.prog Tryd.f7 false true false false) := by
  refine returnsInHanded_of_change_and (C := Tryd.checked) (X := fun w _ => laidMetH Tryd.prog [("braid/digest.constants", Rows.laid_braid_digest_constants)] w) (fun _ _ _ hh h => h.of_heap hh) own started (by kernel_rfl) Tryd.func7
    (ChangeSpec.witness_shaped (enc := enc) (C := Tryd.checked) (os := os) (X := fun w _ => laidMetH Tryd.prog [("braid/digest.constants", Rows.laid_braid_digest_constants)] w) false (World.doorLaid Tryd.prog 400 os) #[.slice none 0 0] 8 rfl (World.shaped_of_RefB (by kernel_rfl) (by kernel_rfl)) (by kernel_rfl) (by kernel_rfl) (by kernel_rfl) (judgeExact_door os _)) ?_
  intro W base args ds gs before hval0 hW _ _ hL _
  have hval : ∀ (j : Nat) t v, Tryd.f7.params[j]? = some t → args[j]? = some v → Value.okWide Tryd.prog W .any base t v := hval0
  have hW' := hW
  obtain ⟨p, q, hA0, hV, rfl, hfz, hnd⟩ := hW
  have hA : DataW.TrodAll enc Tryd.prog W 0 (fun _ => true) true Tryd.f7.params.toList args.toList ds p := hA0
  rw [Tryd.params7] at hA hval
  obtain ⟨v0, vs0, d0, ds0, p0, q0, hargs, rfl, rfl, h0, r0⟩ := trodAll_cons hA
  obtain ⟨rfl, rfl, rfl⟩ := trodAll_nil r0
  obtain rfl : args = #[v0] := by cases args; simp_all
  obtain ⟨rfl, rfl⟩ := trodVars_none hV
  obtain ⟨a0, m0, c0, rfl⟩ := okWide_slice Tryd.underlying35 (hval 0 35 v0 rfl rfl)
  have k0 := h0
  have lt0 : ∀ x ∈ p0, x.block < W.heap.size := by obtain ⟨m, hm⟩ := k0; exact DataW.trod_lt m _ _ _ hm
  obtain ⟨fuel0, hf0⟩ := h0
  obtain ⟨_, _, _, xs0, he0, hc0, hR0⟩ := bytesS_in hf0
  obtain ⟨rfl, rfl, rfl⟩ := Value.slice.inj (List.cons.inj he0).1
  have K0 := of_laid hL
  clear hA0 hval0
  have hwalk := judgeExact a0 m0 c0 xs0 0 W K0 hR0 hc0
  refine hwalk.mono fun e W' hret => ?_
  obtain ⟨v, rfl, bel, rfl⟩ := hret
  exact ⟨_, rfl, _, _, _, [], _, [], hW', trodAll_mk1 (shut_bool Tryd.underlying4 _), (trodAll_cons_mk (Below.trod laidOut (by kernel_rfl) (of_decide_eq_true (by kernel_rfl)) k0 bel lt0) trodAll_mk0), rfl, bel.frame _, fun h => by cases h⟩
theorem judgeExact_holds : Rows.JudgeExactSaid :=
  OpenClaim.holds_of_wide 7 Tryd.f7 rfl rfl rfl rfl rfl rfl rfl ⟨rfl, rfl, rfl, rfl, rfl⟩ rfl rfl rfl rfl rfl (by kernel_rfl) Tryd.func7 (by kernel_rfl)
    (of_decide_eq_true (by kernel_rfl)) (by unfold Func.isWrapper; first | (rw [if_pos (by decide +kernel)]; kernel_rfl) | (rw [if_neg (by decide +kernel)]; exact ⟨rfl, rfl⟩))
    (fun os started H enc _ => judgeExact_lifted os started H enc)
theorem judgeExact_card : Rows.JudgeExactCardSaid :=
  Claim7.holds_tied_plain_at .later [] [.data] true (true, "104f35b6784b2ea38b5d6679d4fffd1631d93a9a6896487cdb425c06aa7787e8") false
    judgeExact_holds (fun _ h => by cases h) (by kernel_rfl) (fun _ h => by cases h) judgeExact_row_tie rfl ⟨rfl, rfl⟩ (by kernel_rfl) rfl
    (fun f fn hf hfn => by
      obtain rfl : f = 7 := Option.some.inj ((show Tryd.prog.funcNamed "braid/braidlaw08.JudgeExact" = some 7 by kernel_rfl).symm.trans hf) |>.symm
      obtain rfl : fn = Tryd.f7 := (Option.some.inj (Tryd.func7.symm.trans hfn)).symm
      exact ⟨by kernel_rfl, fun j t ht => by
        rw [Tryd.params7] at ht
        have hm : t ∈ [35] := by simpa using Array.mem_of_getElem? ht
        have hall : ([35].all fun u => !Tryd.prog.wantsStandIn u) = true := by kernel_rfl
        exact (show Tryd.prog.wantsStandIn t = false by simpa using List.all_eq_true.1 hall t hm)⟩)
    (by kernel_rfl)
end Go.Proofs.YtiohpiiiapjblaaDoor.L
