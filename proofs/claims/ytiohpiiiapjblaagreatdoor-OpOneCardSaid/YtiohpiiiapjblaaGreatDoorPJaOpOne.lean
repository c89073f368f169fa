/-
  OpOne: there is one operation for each string, and back; no operation has more than 400 bytes; its id is the digest of its bytes. Condition: the table digest.constants is as its initialiser lays it (tied by the card).
-/
import Derived.Test.YtiohpiiiapjblaaGreatDoorPJa12
namespace Go.Proofs.YtiohpiiiapjblaaGreatDoor.W
open Go.RowKit Go.Proofs.YtiohpiiiapjblaaGreatDoor.G
set_option linter.unusedVariables false
set_option maxRecDepth 20000
set_option maxHeartbeats 8000000
attribute [local irreducible] RS RX
theorem E11 : Enters Tryz.prog 11 := .mk Tryz.func11 (by kernel_rfl) rfl
theorem E27 : Enters Tryz.prog 27 := .mk Tryz.func27 (by kernel_rfl) rfl
theorem E28 : Enters Tryz.prog 28 := .mk Tryz.func28 (by kernel_rfl) rfl
theorem opOne {S0 S1 : Nat → Prop} (o : S.OpV) (hr : o.rng) (pa : Option Addr) (pc : Nat) (a : Option Addr) (n c : Nat) (bs : List Int) (TK : TypeId) (w : World) (K0 : Kst w TK) (D0 : WRow .u8 32 S0 w pa o.n o.ids) (hc : o.n ≤ pc) (R0 : IRow .u8 S1 w a n bs) (hcb : n ≤ c) :
  Calls Tryz.prog 6 #[.agg ([.int .u32 o.au, .slice pa o.n pc, .int .u64 o.st, .int .u8 o.k, .string o.key, .int .u8 o.vk, .int .i64 o.num, .int .u64 o.bits, .string o.t, .int .u32 o.e, .int .u32 o.s] : List Value).toArray, .slice a n c] w (Ret w fun v _ => v = .bool true) := by
 replace D0 := D0.weaken (T := fun k => k < w.heap.size) (fun k hk _ => hk)
 replace R0 := R0.weaken (T := fun k => k < w.heap.size) (fun k hk _ => hk)
 have el := D0.len
 have hbl := R0.len
 have hbd := R0.bd
 have hKl := K0.lt
 have hE := Ext.refl w
 refine enter (args := [.agg ([.int .u32 o.au, .slice pa o.n pc, .int .u64 o.st, .int .u8 o.k, .string o.key, .int .u8 o.vk, .int .i64 o.num, .int .u64 o.bits, .string o.t, .int .u32 o.e, .int .u32 o.s] : List Value).toArray, .slice a n c]) (l := [.agg ([.int .u32 o.au, .slice pa o.n pc, .int .u64 o.st, .int .u8 o.k, .string o.key, .int .u8 o.vk, .int .i64 o.num, .int .u64 o.bits, .string o.t, .int .u32 o.e, .int .u32 o.s] : List Value).toArray, .slice a n c, undef, undef, undef, undef, undef, undef, undef, undef, undef, undef, undef, undef, undef, undef, undef, undef, undef, undef, undef, undef, undef, undef, undef, undef, undef, undef, undef, undef, undef, undef, undef, undef, undef, undef, undef, undef, undef, undef, undef, undef, undef, undef, undef, undef, undef, undef, undef, undef, undef, undef, undef, undef, undef, undef, undef, undef, undef, undef, undef, undef, undef, undef, undef, undef, undef, undef, undef, undef, undef, undef, undef, undef, undef, undef, undef, undef, undef, undef, undef, undef, undef, undef, undef, undef, undef, undef, undef, undef, undef, undef, undef, undef, undef, undef, undef, undef, undef, undef, undef, undef, undef, undef]) Tryz.func6 rfl rfl ?_
 refine wp_seq_k (fun K1 hK1 => ?_)
 refine region ?_
 refine RS.box rfl rfl (fun b2 w2 e2 s2 x2 B2 => ?_)
 refine RS.norm (by dsimp only [List.set]) ?_
 replace hE := Ext.tr hE x2
 replace K0 := K0.ext x2
 replace D0 := D0.ext x2
 replace R0 := R0.ext x2
 have zw2 := x2.size
 refine RS.assign (v := .bool false) rfl ?_
 refine RS.nil ?_
 refine hK1 _ _ ?_
 try clear hK1
 refine wp_seq_k (fun K3 hK3 => ?_)
 refine wp_seq_k (fun K4 hK4 => ?_)
 refine region ?_
 refine RS.move (v := .slice _ _ _) rfl ?_
 refine RS.o (D.len rfl Tryz.underlying22) ?_
 refine RS.o (D.gt rfl rfl) ?_
 refine RS.nil ?_
 refine hK4 _ _ ?_
 try clear hK4
 refine C.ifd rfl (fun c5 => ?_) (fun c5 => ?_)
 ·refine wp_seq_k (fun K6 hK6 => ?_)
  refine region ?_
  refine RS.call E27 (aliveW _ _ K0) rfl (fun v7 w7 x7 A7 => ?_)
  replace hE := Ext.tr hE x7
  replace K0 := K0.ext x7
  replace D0 := D0.ext x7
  replace R0 := R0.ext x7
  replace B2 := B2.ext x7
  have zw7 := x7.size
  subst A7
  refine RS.norm (by dsimp only [List.set]) ?_
  refine RS.assign (v := .bool _) rfl ?_
  refine RS.nil ?_
  refine hK6 _ _ ?_
  try clear hK6
  refine wp_ret ?_
  refine ret (rs := [.tmp 4]) (vs := [.bool _]) (v := (.bool _)) rfl ⟨rfl, trivial⟩ rfl ?_
  exact ⟨_, rfl, hE, rfl⟩
 ·refine wp_skip ?_
  refine hK3 _ _ ?_
  try clear hK3
  refine wp_seq_k (fun K8 hK8 => ?_)
  refine wp_seq_k (fun K9 hK9 => ?_)
  refine region ?_
  refine RS.o (D.loadAgg rfl Tryz.underlying33 rfl C33 (by decide) rfl (B2.cellsN 11 rfl)) ?_
  refine RS.call E28 (fitW o hr _ _ _ D0 hc) rfl (fun v10 w10 x10 A10 => ?_)
  replace hE := Ext.tr hE x10
  replace K0 := K0.ext x10
  replace D0 := D0.ext x10
  replace R0 := R0.ext x10
  replace B2 := B2.ext x10
  have zw10 := x10.size
  subst A10
  refine RS.norm (by dsimp only [List.set]) ?_
  refine RS.nil ?_
  refine hK9 _ _ ?_
  try clear hK9
  refine C.ifb rfl (fun c11 => ?_) (fun c11 => ?_)
  ·have hF := of_decide_eq_true c11
   have ho : o.ok := hr.ok hF.1
   have h400 := S.enc_400 el hF.2
   have hsh := S.sha_arr (S.encS o)
   refine wp_seq_k (fun K12 hK12 => ?_)
   refine region ?_
   refine RS.o (D.loadAgg rfl Tryz.underlying33 rfl C33 (by decide) rfl (B2.cellsN 11 rfl)) ?_
   refine RS.call E29 (encodeO o ho _ _ _ D0 hc) rfl (fun v13 w13 x13 A13 => ?_)
   replace hE := Ext.tr hE x13
   replace K0 := K0.ext x13
   replace D0 := D0.ext x13
   replace R0 := R0.ext x13
   replace B2 := B2.ext x13
   have zw13 := x13.size
   obtain ⟨aOE, nOE, cOE, xsOE, rfl, OE, hxs⟩ := A13
   rw [if_pos hF.2] at hxs
   rw [show S.checkE o = 0 from hF.2]
   subst hxs
   have hOE := OE.lo
   have lOE := OE.len
   have pOE := OE.own.pre
   refine RS.norm (by dsimp only [List.set]) ?_
   refine RS.move (v := .tuple _) rfl ?_
   refine RS.extract (v := .slice _ _ _) rfl rfl ?_
   refine RS.extract (v := .int _ _) rfl rfl ?_
   refine RS.assign (v := .slice _ _ _) rfl ?_
   refine RS.assign (v := .int _ _) rfl ?_
   refine RS.nil ?_
   refine hK12 _ _ ?_
   try clear hK12
   refine wp_seq_k (fun K14 hK14 => ?_)
   refine region ?_
   refine RS.move (v := .slice _ _ _) rfl ?_
   refine RS.call E21 (decodeO _ _ _ _ _ OE.row pOE (by omega)) rfl (fun v15 w15 x15 A15 => ?_)
   replace hE := Ext.tr hE x15
   replace K0 := K0.ext x15
   replace D0 := D0.ext x15
   replace R0 := R0.ext x15
   replace B2 := B2.ext x15
   replace OE := OE.ext x15
   have zw15 := x15.size
   obtain ⟨aP, cP, rfl, hcP, DP⟩ := A15
   obtain ⟨q1, q2⟩ := S.dec_back hr el hF.2
   rw [q1] at hcP DP
   rw [q1, q2]
   replace DP := DP.weaken (T := (fun k => k < w15.heap.size)) (fun k hk _ => hk)
   refine RS.norm (by dsimp only [List.set]) ?_
   refine RS.move (v := .tuple _) rfl ?_
   refine RS.extract (v := .agg _) rfl rfl ?_
   refine RS.extract (v := .int _ _) rfl rfl ?_
   refine RS.alloc T33 (fun b16 w16 e16 s16 x16 B16 => ?_)
   refine RS.norm (by dsimp only [List.set]) ?_
   replace hE := Ext.tr hE x16
   replace K0 := K0.ext x16
   replace D0 := D0.ext x16
   replace R0 := R0.ext x16
   replace B2 := B2.ext x16
   replace OE := OE.ext x16
   replace DP := DP.ext x16
   have zw16 := x16.size
   refine RS.storeAggB rfl rfl C33 (by decide) rfl rfl B16 rfl (fun w17 y17 N17 => ?_)
   replace hE := hE.trans (y17.below (by intros; try (first | (intro _ _) | (intro _) | skip); first | omega | (dsimp only at *; omega) | (simp_all; done) | (simp at *; omega)))
   replace K0 := K0.st y17 (by intros; try (first | (intro _ _) | (intro _) | skip); first | omega | (dsimp only at *; omega) | (simp_all; done) | (simp at *; omega))
   replace D0 := D0.st y17 (by intros; try (first | (intro _ _) | (intro _) | skip); first | omega | (dsimp only at *; omega) | (simp_all; done) | (simp at *; omega))
   replace R0 := R0.st y17 (by intros; try (first | (intro _ _) | (intro _) | skip); first | omega | (dsimp only at *; omega) | (simp_all; done) | (simp at *; omega))
   replace B2 := B2.st y17 (by intros; try (first | (intro _ _) | (intro _) | skip); first | omega | (dsimp only at *; omega) | (simp_all; done) | (simp at *; omega))
   replace OE := OE.st y17 (by intros; try (first | (intro _ _) | (intro _) | skip); first | omega | (have hq := hOE _ (by assumption); first | omega | (dsimp only at *; omega)))
   replace DP := DP.st y17 (by intros; try (first | (intro _ _) | (intro _) | skip); first | omega | (dsimp only at *; omega) | (simp_all; done) | (simp at *; omega))
   have zw17 := y17.size
   replace B16 := N17
   refine RS.assign (v := .int _ _) rfl ?_
   refine RS.nil ?_
   refine hK14 _ _ ?_
   try clear hK14
   refine wp_seq_k (fun K18 hK18 => ?_)
   refine region ?_
   refine RS.o (D.loadAgg rfl Tryz.underlying33 rfl C33 (by decide) rfl (B2.cellsN 11 rfl)) ?_
   refine RS.call E30 (idO o ho _ _ _ _ K0 D0 hc) rfl (fun v19 w19 x19 A19 => ?_)
   replace hE := Ext.tr hE x19
   replace K0 := K0.ext x19
   replace D0 := D0.ext x19
   replace R0 := R0.ext x19
   replace B2 := B2.ext x19
   replace OE := OE.ext x19
   replace DP := DP.ext x19
   replace B16 := B16.ext x19
   have zw19 := x19.size
   subst A19
   rw [if_pos hF.2, show S.checkE o = 0 from hF.2]
   refine RS.norm (by dsimp only [List.set]) ?_
   refine RS.move (v := .tuple _) rfl ?_
   refine RS.extract (v := .agg _) rfl rfl ?_
   refine RS.extract (v := .int _ _) rfl rfl ?_
   refine RS.alloc T35 (fun b20 w20 e20 s20 x20 B20 => ?_)
   refine RS.norm (by dsimp only [List.set]) ?_
   replace hE := Ext.tr hE x20
   replace K0 := K0.ext x20
   replace D0 := D0.ext x20
   replace R0 := R0.ext x20
   replace B2 := B2.ext x20
   replace OE := OE.ext x20
   replace DP := DP.ext x20
   replace B16 := B16.ext x20
   have zw20 := x20.size
   have A20 : IArr .u8 w20 b20 32 (List.replicate 32 0) [] 35 := IArr.zero B20
   clear B20
   refine RS.storeArr A20 rfl rfl C35 (by decide) hsh.1 hsh.2 (fun w21 y21 N21 => ?_)
   replace hE := hE.trans (y21.below (by intros; try (first | (intro _ _) | (intro _) | skip); first | omega | (dsimp only at *; omega) | (simp_all; done) | (simp at *; omega)))
   replace K0 := K0.st y21 (by intros; try (first | (intro _ _) | (intro _) | skip); first | omega | (dsimp only at *; omega) | (simp_all; done) | (simp at *; omega))
   replace D0 := D0.st y21 (by intros; try (first | (intro _ _) | (intro _) | skip); first | omega | (dsimp only at *; omega) | (simp_all; done) | (simp at *; omega))
   replace R0 := R0.st y21 (by intros; try (first | (intro _ _) | (intro _) | skip); first | omega | (dsimp only at *; omega) | (simp_all; done) | (simp at *; omega))
   replace B2 := B2.st y21 (by intros; try (first | (intro _ _) | (intro _) | skip); first | omega | (dsimp only at *; omega) | (simp_all; done) | (simp at *; omega))
   replace OE := OE.st y21 (by intros; try (first | (intro _ _) | (intro _) | skip); first | omega | (have hq := hOE _ (by assumption); first | omega | (dsimp only at *; omega)))
   replace DP := DP.st y21 (by intros; try (first | (intro _ _) | (intro _) | skip); first | omega | (dsimp only at *; omega) | (simp_all; done) | (simp at *; omega))
   replace B16 := B16.st y21 (by intros; try (first | (intro _ _) | (intro _) | skip); first | omega | (dsimp only at *; omega) | (simp_all; done) | (simp at *; omega))
   have zw21 := y21.size
   replace A20 := N21
   refine RS.assign (v := .int _ _) rfl ?_
   refine RS.nil ?_
   refine hK18 _ _ ?_
   try clear hK18
   refine wp_seq_k (fun K22 hK22 => ?_)
   refine region ?_
   refine RS.move (v := .slice _ _ _) rfl ?_
   refine RS.call E31 (sum _ _ _ _ _ _ K0 OE.row pOE (by omega)) rfl (fun v23 w23 x23 A23 => ?_)
   replace hE := Ext.tr hE x23
   replace K0 := K0.ext x23
   replace D0 := D0.ext x23
   replace R0 := R0.ext x23
   replace B2 := B2.ext x23
   replace OE := OE.ext x23
   replace DP := DP.ext x23
   replace B16 := B16.ext x23
   replace A20 := A20.ext x23
   have zw23 := x23.size
   subst A23
   refine RS.norm (by dsimp only [List.set]) ?_
   refine RS.move (v := .tuple _) rfl ?_
   refine RS.extract (v := .agg _) rfl rfl ?_
   refine RS.extract (v := .int _ _) rfl rfl ?_
   refine RS.alloc T35 (fun b24 w24 e24 s24 x24 B24 => ?_)
   refine RS.norm (by dsimp only [List.set]) ?_
   replace hE := Ext.tr hE x24
   replace K0 := K0.ext x24
   replace D0 := D0.ext x24
   replace R0 := R0.ext x24
   replace B2 := B2.ext x24
   replace OE := OE.ext x24
   replace DP := DP.ext x24
   replace B16 := B16.ext x24
   replace A20 := A20.ext x24
   have zw24 := x24.size
   have A24 : IArr .u8 w24 b24 32 (List.replicate 32 0) [] 35 := IArr.zero B24
   clear B24
   refine RS.storeArr A24 rfl rfl C35 (by decide) hsh.1 hsh.2 (fun w25 y25 N25 => ?_)
   replace hE := hE.trans (y25.below (by intros; try (first | (intro _ _) | (intro _) | skip); first | omega | (dsimp only at *; omega) | (simp_all; done) | (simp at *; omega)))
   replace K0 := K0.st y25 (by intros; try (first | (intro _ _) | (intro _) | skip); first | omega | (dsimp only at *; omega) | (simp_all; done) | (simp at *; omega))
   replace D0 := D0.st y25 (by intros; try (first | (intro _ _) | (intro _) | skip); first | omega | (dsimp only at *; omega) | (simp_all; done) | (simp at *; omega))
   replace R0 := R0.st y25 (by intros; try (first | (intro _ _) | (intro _) | skip); first | omega | (dsimp only at *; omega) | (simp_all; done) | (simp at *; omega))
   replace B2 := B2.st y25 (by intros; try (first | (intro _ _) | (intro _) | skip); first | omega | (dsimp only at *; omega) | (simp_all; done) | (simp at *; omega))
   replace OE := OE.st y25 (by intros; try (first | (intro _ _) | (intro _) | skip); first | omega | (have hq := hOE _ (by assumption); first | omega | (dsimp only at *; omega)))
   replace DP := DP.st y25 (by intros; try (first | (intro _ _) | (intro _) | skip); first | omega | (dsimp only at *; omega) | (simp_all; done) | (simp at *; omega))
   replace B16 := B16.st y25 (by intros; try (first | (intro _ _) | (intro _) | skip); first | omega | (dsimp only at *; omega) | (simp_all; done) | (simp at *; omega))
   replace A20 := A20.st y25 (by intros; try (first | (intro _ _) | (intro _) | skip); first | omega | (dsimp only at *; omega) | (simp_all; done) | (simp at *; omega))
   have zw25 := y25.size
   replace A24 := N25
   refine RS.assign (v := .int _ _) rfl ?_
   refine RS.nil ?_
   refine hK22 _ _ ?_
   try clear hK22
   refine wp_seq_k (fun K26 hK26 => ?_)
   refine region ?_
   refine RS.move (v := .int _ _) rfl ?_
   refine RS.o (D.ne rfl rfl) ?_
   refine RS.move (v := .bool _) rfl ?_
   refine RS.splitn 45 rfl rfl (fun c27 => ?_) (fun c27 => ?_)
   ·refine RS.norm (by dsimp only [List.set]) ?_
    exact absurd rfl c27
   ·refine RS.norm (by dsimp only [List.set]) ?_
    refine RS.wantB 45 rfl rfl rfl ?_
    refine RS.move (v := .int _ _) rfl ?_
    refine RS.wantB 45 rfl rfl rfl ?_
    refine RS.o (D.ne rfl rfl) ?_
    refine RS.pick (v := .bool _) rfl rfl ?_
    refine RS.move (v := .bool _) rfl ?_
    refine RS.splitn 49 rfl rfl (fun c28 => ?_) (fun c28 => ?_)
    ·refine RS.norm (by dsimp only [List.set]) ?_
     exact absurd rfl c28
    ·refine RS.norm (by dsimp only [List.set]) ?_
     refine RS.wantB 49 rfl rfl rfl ?_
     refine RS.move (v := .int _ _) rfl ?_
     refine RS.wantB 49 rfl rfl rfl ?_
     refine RS.o (D.ne rfl rfl) ?_
     refine RS.pick (v := .bool _) rfl rfl ?_
     refine RS.move (v := .bool _) rfl ?_
     refine RS.splitn 53 rfl rfl (fun c29 => ?_) (fun c29 => ?_)
     ·refine RS.norm (by dsimp only [List.set]) ?_
      exact absurd rfl c29
     ·refine RS.norm (by dsimp only [List.set]) ?_
      refine RS.wantB 53 rfl rfl rfl ?_
      refine RS.move (v := .int _ _) rfl ?_
      refine RS.wantB 53 rfl rfl rfl ?_
      refine RS.o (D.ne rfl rfl) ?_
      refine RS.pick (v := .bool _) rfl rfl ?_
      refine RS.move (v := .bool _) rfl ?_
      refine RS.splitn 57 rfl rfl (fun c30 => ?_) (fun c30 => ?_)
      ·refine RS.norm (by dsimp only [List.set]) ?_
       exact absurd rfl c30
      ·refine RS.norm (by dsimp only [List.set]) ?_
       refine RS.wantB 57 rfl rfl rfl ?_
       refine RS.o (D.loadAgg rfl Tryz.underlying33 rfl C33 (by decide) rfl (B2.cellsN 11 rfl)) ?_
       refine RS.wantB 57 rfl rfl rfl ?_
       refine RS.o (D.loadAgg rfl Tryz.underlying33 rfl C33 (by decide) rfl (B16.cellsN 11 rfl)) ?_
       refine RS.wantB 57 rfl rfl rfl ?_
       refine RS.call E11 (sameO o o ho ho _ _ _ _ _ D0 DP) rfl (fun v31 w31 x31 A31 => ?_)
       replace hE := Ext.tr hE x31
       replace K0 := K0.ext x31
       replace D0 := D0.ext x31
       replace R0 := R0.ext x31
       replace B2 := B2.ext x31
       replace OE := OE.ext x31
       replace DP := DP.ext x31
       replace B16 := B16.ext x31
       replace A20 := A20.ext x31
       replace A24 := A24.ext x31
       have zw31 := x31.size
       subst A31
       refine RS.norm (by dsimp only [List.set]) ?_
       refine RS.wantB 57 rfl rfl rfl ?_
       refine RS.o (D.not rfl) ?_
       refine RS.pick (v := .bool _) rfl rfl ?_
       refine RS.move (v := .bool _) rfl ?_
       refine RS.splitnot 63 rfl rfl (fun c32 => ?_) (fun c32 => ?_)
       ·refine RS.norm (by dsimp only [List.set]) ?_
        exact Bool.noConfusion ((decide_eq_true (S.sameO_refl _)).symm.trans c32)
       ·refine RS.norm (by dsimp only [List.set]) ?_
        refine RS.wantB 63 rfl rfl rfl ?_
        refine RS.move (v := .slice _ _ _) rfl ?_
        refine RS.wantB 63 rfl rfl rfl ?_
        refine RS.o (D.len rfl Tryz.underlying22) ?_
        refine RS.wantB 63 rfl rfl rfl ?_
        refine RS.o (D.gt rfl rfl) ?_
        refine RS.pick (v := .bool _) rfl rfl ?_
        refine RS.move (v := .bool _) rfl ?_
        refine RS.splitd 68 rfl rfl (fun c33 => ?_) (fun c33 => ?_)
        ·refine RS.norm (by dsimp only [List.set]) ?_
         exfalso; omega
        ·refine RS.norm (by dsimp only [List.set]) ?_
         refine RS.wantB 68 rfl rfl rfl ?_
         refine RS.o (D.loadAgg rfl Tryz.underlying35 rfl C35 (by decide) (by rw [ints_length, A20.len]) A20.cells) ?_
         refine RS.wantB 68 rfl rfl rfl ?_
         refine RS.o (D.loadAgg rfl Tryz.underlying35 rfl C35 (by decide) (by rw [ints_length, A24.len]) A24.cells) ?_
         refine RS.wantB 68 rfl rfl rfl ?_
         refine RS.o (D.neI rfl rfl Tryz.underlying35 Tryz.underlying5 C5 (by kernel_rfl) hsh.1 hsh.1 (by decide)) ?_
         refine RS.pick (v := .bool _) rfl rfl ?_
         refine RS.nil ?_
         refine hK26 _ _ ?_
         try clear hK26
         refine C.ifb rfl (fun c34 => ?_) (fun c34 => ?_)
         ·exact absurd rfl (of_decide_eq_true c34)
         ·refine wp_skip ?_
          refine hK8 _ _ ?_
          try clear hK8
          refine wp_seq_k (fun K35 hK35 => ?_)
          refine region ?_
          refine RS.move (v := .slice _ _ _) rfl ?_
          refine RS.call E21 (decodeO _ _ _ _ _ R0 hcb (by omega)) rfl (fun v36 w36 x36 A36 => ?_)
          replace hE := Ext.tr hE x36
          replace K0 := K0.ext x36
          replace D0 := D0.ext x36
          replace R0 := R0.ext x36
          replace B2 := B2.ext x36
          replace OE := OE.ext x36
          replace DP := DP.ext x36
          replace B16 := B16.ext x36
          replace A20 := A20.ext x36
          replace A24 := A24.ext x36
          have zw36 := x36.size
          obtain ⟨aQ, cQ, rfl, hcQ, DQ⟩ := A36
          replace DQ := DQ.weaken (T := (fun k => k < w36.heap.size)) (fun k hk _ => hk)
          refine RS.norm (by dsimp only [List.set]) ?_
          refine RS.move (v := .tuple _) rfl ?_
          refine RS.extract (v := .agg _) rfl rfl ?_
          refine RS.extract (v := .int _ _) rfl rfl ?_
          refine RS.alloc T33 (fun b37 w37 e37 s37 x37 B37 => ?_)
          refine RS.norm (by dsimp only [List.set]) ?_
          replace hE := Ext.tr hE x37
          replace K0 := K0.ext x37
          replace D0 := D0.ext x37
          replace R0 := R0.ext x37
          replace B2 := B2.ext x37
          replace OE := OE.ext x37
          replace DP := DP.ext x37
          replace B16 := B16.ext x37
          replace A20 := A20.ext x37
          replace A24 := A24.ext x37
          replace DQ := DQ.ext x37
          have zw37 := x37.size
          refine RS.storeAggB rfl rfl C33 (by decide) rfl rfl B37 rfl (fun w38 y38 N38 => ?_)
          replace hE := hE.trans (y38.below (by intros; try (first | (intro _ _) | (intro _) | skip); first | omega | (dsimp only at *; omega) | (simp_all; done) | (simp at *; omega)))
          replace K0 := K0.st y38 (by intros; try (first | (intro _ _) | (intro _) | skip); first | omega | (dsimp only at *; omega) | (simp_all; done) | (simp at *; omega))
          replace D0 := D0.st y38 (by intros; try (first | (intro _ _) | (intro _) | skip); first | omega | (dsimp only at *; omega) | (simp_all; done) | (simp at *; omega))
          replace R0 := R0.st y38 (by intros; try (first | (intro _ _) | (intro _) | skip); first | omega | (dsimp only at *; omega) | (simp_all; done) | (simp at *; omega))
          replace B2 := B2.st y38 (by intros; try (first | (intro _ _) | (intro _) | skip); first | omega | (dsimp only at *; omega) | (simp_all; done) | (simp at *; omega))
          replace OE := OE.st y38 (by intros; try (first | (intro _ _) | (intro _) | skip); first | omega | (have hq := hOE _ (by assumption); first | omega | (dsimp only at *; omega)))
          replace DP := DP.st y38 (by intros; try (first | (intro _ _) | (intro _) | skip); first | omega | (dsimp only at *; omega) | (simp_all; done) | (simp at *; omega))
          replace B16 := B16.st y38 (by intros; try (first | (intro _ _) | (intro _) | skip); first | omega | (dsimp only at *; omega) | (simp_all; done) | (simp at *; omega))
          replace A20 := A20.st y38 (by intros; try (first | (intro _ _) | (intro _) | skip); first | omega | (dsimp only at *; omega) | (simp_all; done) | (simp at *; omega))
          replace A24 := A24.st y38 (by intros; try (first | (intro _ _) | (intro _) | skip); first | omega | (dsimp only at *; omega) | (simp_all; done) | (simp at *; omega))
          replace DQ := DQ.st y38 (by intros; try (first | (intro _ _) | (intro _) | skip); first | omega | (dsimp only at *; omega) | (simp_all; done) | (simp at *; omega))
          have zw38 := y38.size
          replace B37 := N38
          refine RS.assign (v := .int _ _) rfl ?_
          refine RS.nil ?_
          refine hK35 _ _ ?_
          try clear hK35
          refine wp_seq_k (fun K39 hK39 => ?_)
          refine wp_seq_k (fun K40 hK40 => ?_)
          refine region ?_
          refine RS.move (v := .int _ _) rfl ?_
          refine RS.o (D.ne rfl rfl) ?_
          refine RS.nil ?_
          refine hK40 _ _ ?_
          try clear hK40
          refine C.ifn rfl (fun c41 => ?_) (fun c41 => ?_)
          ·have he := c41
           rw [(S.dec_ne he).2]
           refine wp_seq_k (fun K42 hK42 => ?_)
           refine region ?_
           refine RS.move (v := .int _ _) rfl ?_
           refine RS.o (D.eq rfl rfl) ?_
           refine RS.move (v := .bool _) rfl ?_
           refine RS.splite 82 rfl rfl (fun c43 => ?_) (fun c43 => ?_)
           ·refine RS.norm (by dsimp only [List.set]) ?_
            refine RS.wantB 82 rfl rfl rfl ?_
            refine RS.call E27 (aliveW _ _ K0) rfl (fun v44 w44 x44 A44 => ?_)
            replace hE := Ext.tr hE x44
            replace K0 := K0.ext x44
            replace D0 := D0.ext x44
            replace R0 := R0.ext x44
            replace B2 := B2.ext x44
            replace OE := OE.ext x44
            replace DP := DP.ext x44
            replace B16 := B16.ext x44
            replace A20 := A20.ext x44
            replace A24 := A24.ext x44
            replace DQ := DQ.ext x44
            replace B37 := B37.ext x44
            have zw44 := x44.size
            subst A44
            refine RS.norm (by dsimp only [List.set]) ?_
            refine RS.pick (v := .bool _) rfl rfl ?_
            refine RS.assign (v := .bool _) rfl ?_
            refine RS.nil ?_
            refine hK42 _ _ ?_
            try clear hK42
            refine wp_ret ?_
            refine ret (rs := [.tmp 4]) (vs := [.bool _]) (v := (.bool _)) rfl ⟨rfl, trivial⟩ rfl ?_
            exact ⟨_, rfl, hE, rfl⟩
           ·refine RS.norm (by dsimp only [List.set]) ?_
            exact absurd rfl c43
          ·have he := c41
           have hdg := S.dec_good hbd he
           have hok := S.decO_ok hbd
           refine wp_skip ?_
           refine hK39 _ _ ?_
           try clear hK39
           refine wp_seq_k (fun K45 hK45 => ?_)
           refine region ?_
           refine RS.o (D.loadAgg rfl Tryz.underlying33 rfl C33 (by decide) rfl (B37.cellsN 11 rfl)) ?_
           refine RS.call E29 (encodeO (S.decO bs) hok.1 _ _ _ DQ hcQ) rfl (fun v46 w46 x46 A46 => ?_)
           replace hE := Ext.tr hE x46
           replace K0 := K0.ext x46
           replace D0 := D0.ext x46
           replace R0 := R0.ext x46
           replace B2 := B2.ext x46
           replace OE := OE.ext x46
           replace DP := DP.ext x46
           replace B16 := B16.ext x46
           replace A20 := A20.ext x46
           replace A24 := A24.ext x46
           replace DQ := DQ.ext x46
           replace B37 := B37.ext x46
           have zw46 := x46.size
           obtain ⟨aOG, nOG, cOG, xsOG, rfl, OG, hxs⟩ := A46
           rw [if_pos hdg.1] at hxs
           rw [show S.checkE (S.decO bs) = 0 from hdg.1]
           rw [hdg.2] at hxs
           rw [hxs] at OG
           have hOG := OG.lo
           have lOG := OG.len
           have pOG := OG.own.pre
           refine RS.norm (by dsimp only [List.set]) ?_
           refine RS.move (v := .tuple _) rfl ?_
           refine RS.extract (v := .slice _ _ _) rfl rfl ?_
           refine RS.extract (v := .int _ _) rfl rfl ?_
           refine RS.assign (v := .slice _ _ _) rfl ?_
           refine RS.assign (v := .int _ _) rfl ?_
           refine RS.nil ?_
           refine hK45 _ _ ?_
           try clear hK45
           refine wp_seq_k (fun K47 hK47 => ?_)
           refine region ?_
           refine RS.move (v := .int _ _) rfl ?_
           refine RS.o (D.eq rfl rfl) ?_
           refine RS.move (v := .bool _) rfl ?_
           refine RS.splite 92 rfl rfl (fun c48 => ?_) (fun c48 => ?_)
           ·refine RS.norm (by dsimp only [List.set]) ?_
            refine RS.wantB 92 rfl rfl rfl ?_
            refine RS.move (v := .slice _ _ _) rfl ?_
            refine RS.wantB 92 rfl rfl rfl ?_
            refine RS.move (v := .slice _ _ _) rfl ?_
            refine RS.wantB 92 rfl rfl rfl ?_
            refine RS.call E18 (sameBytes _ _ _ _ _ _ _ _ _ OG.row R0 (by omega) (by omega)) rfl (fun v49 w49 x49 A49 => ?_)
            replace hE := Ext.tr hE x49
            replace K0 := K0.ext x49
            replace D0 := D0.ext x49
            replace R0 := R0.ext x49
            replace B2 := B2.ext x49
            replace OE := OE.ext x49
            replace DP := DP.ext x49
            replace B16 := B16.ext x49
            replace A20 := A20.ext x49
            replace A24 := A24.ext x49
            replace DQ := DQ.ext x49
            replace B37 := B37.ext x49
            replace OG := OG.ext x49
            have zw49 := x49.size
            subst A49
            refine RS.norm (by dsimp only [List.set]) ?_
            refine RS.pick (v := .bool _) rfl rfl ?_
            refine RS.move (v := .bool _) rfl ?_
            refine RS.splitb 97 rfl rfl (fun c50 => ?_) (fun c50 => ?_)
            ·refine RS.norm (by dsimp only [List.set]) ?_
             refine RS.wantB 97 rfl rfl rfl ?_
             refine RS.o (D.loadAgg rfl Tryz.underlying33 rfl C33 (by decide) rfl (B37.cellsN 11 rfl)) ?_
             refine RS.wantB 97 rfl rfl rfl ?_
             refine RS.call E28 (fitW _ (S.OpV.ok.rng hok.1) _ _ _ DQ hcQ) rfl (fun v51 w51 x51 A51 => ?_)
             replace hE := Ext.tr hE x51
             replace K0 := K0.ext x51
             replace D0 := D0.ext x51
             replace R0 := R0.ext x51
             replace B2 := B2.ext x51
             replace OE := OE.ext x51
             replace DP := DP.ext x51
             replace B16 := B16.ext x51
             replace A20 := A20.ext x51
             replace A24 := A24.ext x51
             replace DQ := DQ.ext x51
             replace B37 := B37.ext x51
             replace OG := OG.ext x51
             have zw51 := x51.size
             subst A51
             refine RS.norm (by dsimp only [List.set]) ?_
             refine RS.pick (v := .bool _) rfl rfl ?_
             refine RS.move (v := .bool _) rfl ?_
             refine RS.splitb 101 rfl rfl (fun c52 => ?_) (fun c52 => ?_)
             ·refine RS.norm (by dsimp only [List.set]) ?_
              refine RS.wantB 101 rfl rfl rfl ?_
              refine RS.call E27 (aliveW _ _ K0) rfl (fun v53 w53 x53 A53 => ?_)
              replace hE := Ext.tr hE x53
              replace K0 := K0.ext x53
              replace D0 := D0.ext x53
              replace R0 := R0.ext x53
              replace B2 := B2.ext x53
              replace OE := OE.ext x53
              replace DP := DP.ext x53
              replace B16 := B16.ext x53
              replace A20 := A20.ext x53
              replace A24 := A24.ext x53
              replace DQ := DQ.ext x53
              replace B37 := B37.ext x53
              replace OG := OG.ext x53
              have zw53 := x53.size
              subst A53
              refine RS.norm (by dsimp only [List.set]) ?_
              refine RS.pick (v := .bool _) rfl rfl ?_
              refine RS.assign (v := .bool _) rfl ?_
              refine RS.nil ?_
              refine hK47 _ _ ?_
              try clear hK47
              refine wp_ret ?_
              refine ret (rs := [.tmp 4]) (vs := [.bool _]) (v := (.bool _)) rfl ⟨rfl, trivial⟩ rfl ?_
              exact ⟨_, rfl, hE, rfl⟩
             ·refine RS.norm (by dsimp only [List.set]) ?_
              exact absurd (S.dec_fit hbd he) (of_decide_eq_false c52)
            ·refine RS.norm (by dsimp only [List.set]) ?_
             exact Bool.noConfusion ((decide_eq_true rfl).symm.trans c50)
           ·refine RS.norm (by dsimp only [List.set]) ?_
            exact absurd rfl c48
  ·refine wp_skip ?_
   refine hK8 _ _ ?_
   try clear hK8
   refine wp_seq_k (fun K54 hK54 => ?_)
   refine region ?_
   refine RS.move (v := .slice _ _ _) rfl ?_
   refine RS.call E21 (decodeO _ _ _ _ _ R0 hcb (by omega)) rfl (fun v55 w55 x55 A55 => ?_)
   replace hE := Ext.tr hE x55
   replace K0 := K0.ext x55
   replace D0 := D0.ext x55
   replace R0 := R0.ext x55
   replace B2 := B2.ext x55
   have zw55 := x55.size
   obtain ⟨aQ, cQ, rfl, hcQ, DQ⟩ := A55
   replace DQ := DQ.weaken (T := (fun k => k < w55.heap.size)) (fun k hk _ => hk)
   refine RS.norm (by dsimp only [List.set]) ?_
   refine RS.move (v := .tuple _) rfl ?_
   refine RS.extract (v := .agg _) rfl rfl ?_
   refine RS.extract (v := .int _ _) rfl rfl ?_
   refine RS.alloc T33 (fun b56 w56 e56 s56 x56 B56 => ?_)
   refine RS.norm (by dsimp only [List.set]) ?_
   replace hE := Ext.tr hE x56
   replace K0 := K0.ext x56
   replace D0 := D0.ext x56
   replace R0 := R0.ext x56
   replace B2 := B2.ext x56
   replace DQ := DQ.ext x56
   have zw56 := x56.size
   refine RS.storeAggB rfl rfl C33 (by decide) rfl rfl B56 rfl (fun w57 y57 N57 => ?_)
   replace hE := hE.trans (y57.below (by intros; try (first | (intro _ _) | (intro _) | skip); first | omega | (dsimp only at *; omega) | (simp_all; done) | (simp at *; omega)))
   replace K0 := K0.st y57 (by intros; try (first | (intro _ _) | (intro _) | skip); first | omega | (dsimp only at *; omega) | (simp_all; done) | (simp at *; omega))
   replace D0 := D0.st y57 (by intros; try (first | (intro _ _) | (intro _) | skip); first | omega | (dsimp only at *; omega) | (simp_all; done) | (simp at *; omega))
   replace R0 := R0.st y57 (by intros; try (first | (intro _ _) | (intro _) | skip); first | omega | (dsimp only at *; omega) | (simp_all; done) | (simp at *; omega))
   replace B2 := B2.st y57 (by intros; try (first | (intro _ _) | (intro _) | skip); first | omega | (dsimp only at *; omega) | (simp_all; done) | (simp at *; omega))
   replace DQ := DQ.st y57 (by intros; try (first | (intro _ _) | (intro _) | skip); first | omega | (dsimp only at *; omega) | (simp_all; done) | (simp at *; omega))
   have zw57 := y57.size
   replace B56 := N57
   refine RS.assign (v := .int _ _) rfl ?_
   refine RS.nil ?_
   refine hK54 _ _ ?_
   try clear hK54
   refine wp_seq_k (fun K58 hK58 => ?_)
   refine wp_seq_k (fun K59 hK59 => ?_)
   refine region ?_
   refine RS.move (v := .int _ _) rfl ?_
   refine RS.o (D.ne rfl rfl) ?_
   refine RS.nil ?_
   refine hK59 _ _ ?_
   try clear hK59
   refine C.ifn rfl (fun c60 => ?_) (fun c60 => ?_)
   ·have he := c60
    rw [(S.dec_ne he).2]
    refine wp_seq_k (fun K61 hK61 => ?_)
    refine region ?_
    refine RS.move (v := .int _ _) rfl ?_
    refine RS.o (D.eq rfl rfl) ?_
    refine RS.move (v := .bool _) rfl ?_
    refine RS.splite 82 rfl rfl (fun c62 => ?_) (fun c62 => ?_)
    ·refine RS.norm (by dsimp only [List.set]) ?_
     refine RS.wantB 82 rfl rfl rfl ?_
     refine RS.call E27 (aliveW _ _ K0) rfl (fun v63 w63 x63 A63 => ?_)
     replace hE := Ext.tr hE x63
     replace K0 := K0.ext x63
     replace D0 := D0.ext x63
     replace R0 := R0.ext x63
     replace B2 := B2.ext x63
     replace DQ := DQ.ext x63
     replace B56 := B56.ext x63
     have zw63 := x63.size
     subst A63
     refine RS.norm (by dsimp only [List.set]) ?_
     refine RS.pick (v := .bool _) rfl rfl ?_
     refine RS.assign (v := .bool _) rfl ?_
     refine RS.nil ?_
     refine hK61 _ _ ?_
     try clear hK61
     refine wp_ret ?_
     refine ret (rs := [.tmp 4]) (vs := [.bool _]) (v := (.bool _)) rfl ⟨rfl, trivial⟩ rfl ?_
     exact ⟨_, rfl, hE, rfl⟩
    ·refine RS.norm (by dsimp only [List.set]) ?_
     exact absurd rfl c62
   ·have he := c60
    have hdg := S.dec_good hbd he
    have hok := S.decO_ok hbd
    refine wp_skip ?_
    refine hK58 _ _ ?_
    try clear hK58
    refine wp_seq_k (fun K64 hK64 => ?_)
    refine region ?_
    refine RS.o (D.loadAgg rfl Tryz.underlying33 rfl C33 (by decide) rfl (B56.cellsN 11 rfl)) ?_
    refine RS.call E29 (encodeO (S.decO bs) hok.1 _ _ _ DQ hcQ) rfl (fun v65 w65 x65 A65 => ?_)
    replace hE := Ext.tr hE x65
    replace K0 := K0.ext x65
    replace D0 := D0.ext x65
    replace R0 := R0.ext x65
    replace B2 := B2.ext x65
    replace DQ := DQ.ext x65
    replace B56 := B56.ext x65
    have zw65 := x65.size
    obtain ⟨aOG, nOG, cOG, xsOG, rfl, OG, hxs⟩ := A65
    rw [if_pos hdg.1] at hxs
    rw [show S.checkE (S.decO bs) = 0 from hdg.1]
    rw [hdg.2] at hxs
    rw [hxs] at OG
    have hOG := OG.lo
    have lOG := OG.len
    have pOG := OG.own.pre
    refine RS.norm (by dsimp only [List.set]) ?_
    refine RS.move (v := .tuple _) rfl ?_
    refine RS.extract (v := .slice _ _ _) rfl rfl ?_
    refine RS.extract (v := .int _ _) rfl rfl ?_
    refine RS.assign (v := .slice _ _ _) rfl ?_
    refine RS.assign (v := .int _ _) rfl ?_
    refine RS.nil ?_
    refine hK64 _ _ ?_
    try clear hK64
    refine wp_seq_k (fun K66 hK66 => ?_)
    refine region ?_
    refine RS.move (v := .int _ _) rfl ?_
    refine RS.o (D.eq rfl rfl) ?_
    refine RS.move (v := .bool _) rfl ?_
    refine RS.splite 92 rfl rfl (fun c67 => ?_) (fun c67 => ?_)
    ·refine RS.norm (by dsimp only [List.set]) ?_
     refine RS.wantB 92 rfl rfl rfl ?_
     refine RS.move (v := .slice _ _ _) rfl ?_
     refine RS.wantB 92 rfl rfl rfl ?_
     refine RS.move (v := .slice _ _ _) rfl ?_
     refine RS.wantB 92 rfl rfl rfl ?_
     refine RS.call E18 (sameBytes _ _ _ _ _ _ _ _ _ OG.row R0 (by omega) (by omega)) rfl (fun v68 w68 x68 A68 => ?_)
     replace hE := Ext.tr hE x68
     replace K0 := K0.ext x68
     replace D0 := D0.ext x68
     replace R0 := R0.ext x68
     replace B2 := B2.ext x68
     replace DQ := DQ.ext x68
     replace B56 := B56.ext x68
     replace OG := OG.ext x68
     have zw68 := x68.size
     subst A68
     refine RS.norm (by dsimp only [List.set]) ?_
     refine RS.pick (v := .bool _) rfl rfl ?_
     refine RS.move (v := .bool _) rfl ?_
     refine RS.splitb 97 rfl rfl (fun c69 => ?_) (fun c69 => ?_)
     ·refine RS.norm (by dsimp only [List.set]) ?_
      refine RS.wantB 97 rfl rfl rfl ?_
      refine RS.o (D.loadAgg rfl Tryz.underlying33 rfl C33 (by decide) rfl (B56.cellsN 11 rfl)) ?_
      refine RS.wantB 97 rfl rfl rfl ?_
      refine RS.call E28 (fitW _ (S.OpV.ok.rng hok.1) _ _ _ DQ hcQ) rfl (fun v70 w70 x70 A70 => ?_)
      replace hE := Ext.tr hE x70
      replace K0 := K0.ext x70
      replace D0 := D0.ext x70
      replace R0 := R0.ext x70
      replace B2 := B2.ext x70
      replace DQ := DQ.ext x70
      replace B56 := B56.ext x70
      replace OG := OG.ext x70
      have zw70 := x70.size
      subst A70
      refine RS.norm (by dsimp only [List.set]) ?_
      refine RS.pick (v := .bool _) rfl rfl ?_
      refine RS.move (v := .bool _) rfl ?_
      refine RS.splitb 101 rfl rfl (fun c71 => ?_) (fun c71 => ?_)
      ·refine RS.norm (by dsimp only [List.set]) ?_
       refine RS.wantB 101 rfl rfl rfl ?_
       refine RS.call E27 (aliveW _ _ K0) rfl (fun v72 w72 x72 A72 => ?_)
       replace hE := Ext.tr hE x72
       replace K0 := K0.ext x72
       replace D0 := D0.ext x72
       replace R0 := R0.ext x72
       replace B2 := B2.ext x72
       replace DQ := DQ.ext x72
       replace B56 := B56.ext x72
       replace OG := OG.ext x72
       have zw72 := x72.size
       subst A72
       refine RS.norm (by dsimp only [List.set]) ?_
       refine RS.pick (v := .bool _) rfl rfl ?_
       refine RS.assign (v := .bool _) rfl ?_
       refine RS.nil ?_
       refine hK66 _ _ ?_
       try clear hK66
       refine wp_ret ?_
       refine ret (rs := [.tmp 4]) (vs := [.bool _]) (v := (.bool _)) rfl ⟨rfl, trivial⟩ rfl ?_
       exact ⟨_, rfl, hE, rfl⟩
      ·refine RS.norm (by dsimp only [List.set]) ?_
       exact absurd (S.dec_fit hbd he) (of_decide_eq_false c71)
     ·refine RS.norm (by dsimp only [List.set]) ?_
      exact Bool.noConfusion ((decide_eq_true rfl).symm.trans c69)
    ·refine RS.norm (by dsimp only [List.set]) ?_
     exact absurd rfl c67
end Go.Proofs.YtiohpiiiapjblaaGreatDoor.W
namespace Go.Proofs.YtiohpiiiapjblaaGreatDoor.L
open Go Go.Proofs.YtiohpiiiapjblaaGreatDoor Go.Proofs.YtiohpiiiapjblaaGreatDoor.G Go.Proofs.YtiohpiiiapjblaaGreatDoor.W
open Go.ChangeShapes Go.WideShapes Go.ChangeAt Go.RowKit
set_option linter.unusedVariables false
set_option maxRecDepth 100000
theorem opOne_door (os : Os) (args : Array Value) : laidMetH Tryz.prog [("braid/digest.constants", Rows.laid_braid_digest_constants)] ((World.doorLaid Tryz.prog 400 os).forCall (fun _ _ => 0) ⟨#[], args, []⟩).memory :=
  laidMetH_of_parts3 (fuel := 8) (laidMet_of_run' 8 (by kernel_rfl) (by kernel_rfl)) (by kernel_rfl) (by kernel_rfl)
theorem opOne_lifted (os : Os) (started : os.Started) (H : Type) (enc : TypeId × Value → H) :
    ReturnsInHanded {} Tryz.checked os 6 .any (fun w args => (Rows.opOneSpec.pre enc Tryz.prog Tryz.f6 [] false w args ∧ laidMetH Tryz.prog [("braid/digest.constants", Rows.laid_braid_digest_constants)] w) ∧ sizedMet enc Tryz.prog Tryz.f6 (OpenSpec.ofChange Rows.opOneSpec) false w args)
      (Rows.opOneSpec.post enc Tryz.prog Tryz.f6 false true false false) := by
  refine returnsInHanded_of_change_and (C := Tryz.checked) (X := fun w _ => laidMetH Tryz.prog [("braid/digest.constants", Rows.laid_braid_digest_constants)] w) (fun _ _ _ hh h => h.of_heap hh) own started (by kernel_rfl) Tryz.func6
    (ChangeSpec.witness_shaped (enc := enc) (C := Tryz.checked) (os := os) (X := fun w _ => laidMetH Tryz.prog [("braid/digest.constants", Rows.laid_braid_digest_constants)] w) false (World.doorLaid Tryz.prog 400 os) #[.agg #[.int .u32 0, .slice none 0 0, .int .u64 0, .int .u8 0, .string .empty, .int .u8 0, .int .i64 0, .int .u64 0, .string .empty, .int .u32 0, .int .u32 0], .slice none 0 0] 8 rfl (World.shaped_of_RefB (by kernel_rfl) (by kernel_rfl)) (by kernel_rfl) (by kernel_rfl) (by kernel_rfl) (opOne_door os _)) ?_
  intro W base args ds gs before hval0 hW _ _ hL _
  have hval : ∀ (j : Nat) t v, Tryz.f6.params[j]? = some t → args[j]? = some v → Value.okWide Tryz.prog W .any base t v := hval0
  have hW' := hW
  obtain ⟨p, q, hA0, hV, rfl, hfz, hnd⟩ := hW
  have hA : DataW.TrodAll enc Tryz.prog W 0 (fun _ => true) true Tryz.f6.params.toList args.toList ds p := hA0
  rw [Tryz.params6] at hA hval
  obtain ⟨v0, vs0, d0, ds0, p0, q0, hargs, rfl, rfl, h0, r0⟩ := trodAll_cons hA
  obtain ⟨v1, vs1, d1, ds1, p1, q1, e1, rfl, rfl, h1, r1⟩ := trodAll_cons r0
  obtain ⟨rfl, rfl, rfl⟩ := trodAll_nil r1
  subst e1
  obtain rfl : args = #[v0, v1] := by cases args; simp_all
  obtain ⟨rfl, rfl⟩ := trodVars_none hV
  obtain ⟨cs0, rfl, _⟩ := okWide_struct Tryz.underlying33 (hval 0 33 v0 rfl rfl)
  obtain ⟨a1, m1, c1, rfl⟩ := okWide_slice Tryz.underlying22 (hval 1 22 v1 rfl rfl)
  have k0 := h0
  have lt0 : ∀ x ∈ p0, x.block < W.heap.size := by obtain ⟨m, hm⟩ := k0; exact DataW.trod_lt m _ _ _ hm
  obtain ⟨fuel0, hf0⟩ := h0
  obtain ⟨o0, pa0, pc0, hcs0, hr0, hc0, hR0⟩ := op_in hf0
  have hv0 : (Value.agg cs0) = .agg ([.int .u32 o0.au, .slice pa0 o0.n pc0, .int .u64 o0.st, .int .u8 o0.k, .string o0.key, .int .u8 o0.vk, .int .i64 o0.num, .int .u64 o0.bits, .string o0.t, .int .u32 o0.e, .int .u32 o0.s] : List Value).toArray := by
    congr 1
    apply Array.ext'
    exact hcs0
  have k1 := h1
  have lt1 : ∀ x ∈ p1, x.block < W.heap.size := by obtain ⟨m, hm⟩ := k1; exact DataW.trod_lt m _ _ _ hm
  obtain ⟨fuel1, hf1⟩ := h1
  obtain ⟨_, _, _, xs1, he1, hc1, hR1⟩ := bytesS_in hf1
  obtain ⟨rfl, rfl, rfl⟩ := Value.slice.inj (List.cons.inj he1).1
  have K0 := of_laid hL
  clear hA0 hval0
  have hwalk := opOne o0 hr0 pa0 pc0 a1 m1 c1 xs1 0 W K0 hR0 hc0 hR1 hc1
  rw [← hv0] at hwalk
  refine hwalk.mono fun e W' hret => ?_
  obtain ⟨v, rfl, bel, rfl⟩ := hret
  exact ⟨_, rfl, _, _, _, [], _, [], hW', trodAll_mk1 (shut_bool Tryz.underlying4 _), (trodAll_cons_mk (Below.trod laidOut (by kernel_rfl) (of_decide_eq_true (by kernel_rfl)) k0 bel lt0) (trodAll_cons_mk (Below.trod laidOut (by kernel_rfl) (of_decide_eq_true (by kernel_rfl)) k1 bel lt1) trodAll_mk0)), rfl, bel.frame _, fun h => by cases h⟩
theorem opOne_holds : Rows.OpOneSaid :=
  OpenClaim.holds_of_wide 6 Tryz.f6 rfl rfl rfl rfl rfl rfl rfl ⟨rfl, rfl, rfl, rfl, rfl⟩ rfl rfl rfl rfl rfl (by kernel_rfl) Tryz.func6 (by kernel_rfl)
    (of_decide_eq_true (by kernel_rfl)) (by unfold Func.isWrapper; first | (rw [if_pos (by decide +kernel)]; kernel_rfl) | (rw [if_neg (by decide +kernel)]; exact ⟨rfl, rfl⟩))
    (fun os started H enc _ => opOne_lifted os started H enc)
theorem opOne_card : Rows.OpOneCardSaid :=
  Claim7.holds_tied_plain_at .later [] [.data] true (true, "5f1a454c20384897b10aae27f0fb7605c8ace21901f8afa9a203fa82d3013071") false
    opOne_holds (fun _ h => by cases h) (by kernel_rfl) (fun _ h => by cases h) opOne_row_tie rfl ⟨rfl, rfl⟩ (by kernel_rfl) rfl
    (fun f fn hf hfn => by
      obtain rfl : f = 6 := Option.some.inj ((show Tryz.prog.funcNamed "braid/braidlaw06.OpOne" = some 6 by kernel_rfl).symm.trans hf) |>.symm
      obtain rfl : fn = Tryz.f6 := (Option.some.inj (Tryz.func6.symm.trans hfn)).symm
      exact ⟨by kernel_rfl, fun j t ht => by
        rw [Tryz.params6] at ht
        have hm : t ∈ [33, 22] := by simpa using Array.mem_of_getElem? ht
        have hall : ([33, 22].all fun u => !Tryz.prog.wantsStandIn u) = true := by kernel_rfl
        exact (show Tryz.prog.wantsStandIn t = false by simpa using List.all_eq_true.1 hall t hm)⟩)
    (by kernel_rfl)
end Go.Proofs.YtiohpiiiapjblaaGreatDoor.L
