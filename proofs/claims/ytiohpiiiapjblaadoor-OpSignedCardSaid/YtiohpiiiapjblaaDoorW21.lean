/-
  W21: walks of functions, printed by gen.py from the annotations ann21.py.
-/
import Derived.Test.YtiohpiiiapjblaaDoorW20

namespace Go.Proofs.YtiohpiiiapjblaaDoor.W
open Go.RowKit Go.Proofs.YtiohpiiiapjblaaDoor.G
set_option linter.unusedVariables false
set_option maxRecDepth 20000
set_option maxHeartbeats 8000000
attribute [local irreducible] RS RX

theorem E24 : Enters Tryd.prog 24 := .mk Tryd.func24 (by kernel_rfl) rfl
theorem E29 : Enters Tryd.prog 29 := .mk Tryd.func29 (by kernel_rfl) rfl
theorem opSigned {S0 : Nat → Prop} (x : Int) (hx : 0 ≤ x ∧ x < 4294967296) (o : S.OpV) (hr : o.rng) (pa : Option Addr) (pc : Nat) (TK : TypeId) (w : World) (K0 : Kst w TK) (D0 : WRow .u8 32 S0 w pa o.n o.ids) (hc : o.n ≤ pc) :
    Calls Tryd.prog 4 #[.int .u32 x, .agg ([.int .u32 o.au, .slice pa o.n pc, .int .u64 o.st, .int .u8 o.k, .string o.key, .int .u8 o.vk, .int .i64 o.num, .int .u64 o.bits, .string o.t, .int .u32 o.e, .int .u32 o.s] : List Value).toArray] w (Ret w fun v _ => v = .bool true) := by
  replace D0 := D0.weaken (T := fun k => k < w.heap.size) (fun k hk _ => hk)
  have e4 := D0.len
  have hKl := K0.lt
  have hb2 := S.pub_bd x
  have hE := Ext.refl w
  refine enter (args := [.int .u32 x, .agg ([.int .u32 o.au, .slice pa o.n pc, .int .u64 o.st, .int .u8 o.k, .string o.key, .int .u8 o.vk, .int .i64 o.num, .int .u64 o.bits, .string o.t, .int .u32 o.e, .int .u32 o.s] : List Value).toArray]) (l := [.int .u32 x, .agg ([.int .u32 o.au, .slice pa o.n pc, .int .u64 o.st, .int .u8 o.k, .string o.key, .int .u8 o.vk, .int .i64 o.num, .int .u64 o.bits, .string o.t, .int .u32 o.e, .int .u32 o.s] : List Value).toArray, undef, undef, undef, undef, undef, undef, undef, undef, undef, undef, undef, undef, undef, undef, undef, undef, undef, undef, undef, undef, undef, undef, undef, undef, undef, undef, undef, undef, undef, undef, undef, undef, undef, undef, undef, undef, undef, undef, undef, undef, undef, undef, undef, undef, undef, undef, undef, undef, undef, undef, undef, undef, undef, undef, undef, undef, undef, undef, undef, undef, undef, undef, undef, undef, undef, undef, undef, undef, undef, undef, undef, undef, undef, undef, undef, undef, undef, undef, undef, undef, undef, undef, undef, undef, undef, undef, undef, undef, undef, undef, undef, undef, undef, undef, undef, undef, undef, undef, undef, undef, undef, undef, undef, undef, undef, undef, undef, undef, undef, undef, undef, undef, undef, undef, undef, undef, undef, undef, undef, undef]) Tryd.func4 rfl rfl ?_
  refine wp_seq_k (fun K1 hK1 => ?_)
  refine region ?_
  refine RS.box rfl rfl (fun b2 w2 e2 s2 x2 B2 => ?_)
  refine RS.norm (by dsimp only [List.set]) ?_
  replace hE := Ext.tr hE x2
  replace K0 := K0.ext x2
  replace D0 := D0.ext x2
  have zw2 := x2.size
  refine RS.assign (v := .bool false) rfl ?_
  refine RS.nil ?_
  refine hK1 _ _ ?_
  try clear hK1
  refine wp_seq_k (fun K3 hK3 => ?_)
  refine wp_seq_k (fun K4 hK4 => ?_)
  refine region ?_
  refine RS.o (D.loadAgg rfl Tryd.underlying32 rfl C32 (by decide) rfl (B2.cellsN 11 rfl)) ?_
  refine RS.call E10 (great o _ _ _) rfl (fun v5 w5 x5 A5 => ?_)
  replace hE := Ext.tr hE x5
  replace K0 := K0.ext x5
  replace D0 := D0.ext x5
  replace B2 := B2.ext x5
  have zw5 := x5.size
  subst A5
  refine RS.norm (by dsimp only [List.set]) ?_
  refine RS.nil ?_
  refine hK4 _ _ ?_
  try clear hK4
  refine C.ifb rfl (fun c6 => ?_) (fun c6 => ?_)
  · have hG := c6
    refine wp_seq_k (fun K7 hK7 => ?_)
    refine region ?_
    refine RS.call E24 (aliveW _ _ K0) rfl (fun v8 w8 x8 A8 => ?_)
    replace hE := Ext.tr hE x8
    replace K0 := K0.ext x8
    replace D0 := D0.ext x8
    replace B2 := B2.ext x8
    have zw8 := x8.size
    subst A8
    refine RS.norm (by dsimp only [List.set]) ?_
    refine RS.assign (v := .bool _) rfl ?_
    refine RS.nil ?_
    refine hK7 _ _ ?_
    try clear hK7
    refine wp_ret ?_
    refine ret (rs := [.tmp 4]) (vs := [.bool _]) (v := (.bool _)) rfl ⟨rfl, trivial⟩ rfl ?_
    exact ⟨_, rfl, hE, rfl⟩
  · have hG := of_decide_eq_false c6
    have ho : o.ok := hr.ok hG
    have hso := S.signS_ok x o ho
    refine wp_skip ?_
    refine hK3 _ _ ?_
    try clear hK3
    refine wp_seq_k (fun K9 hK9 => ?_)
    refine region ?_
    refine RS.move (v := .int _ _) rfl ?_
    refine RS.o (D.loadAgg rfl Tryd.underlying32 rfl C32 (by decide) rfl (B2.cellsN 11 rfl)) ?_
    refine RS.call E25 (signO _ hx o ho _ _ _ _ K0 D0 hc) rfl (fun v10 w10 x10 A10 => ?_)
    replace hE := Ext.tr hE x10
    replace K0 := K0.ext x10
    replace D0 := D0.ext x10
    replace B2 := B2.ext x10
    have zw10 := x10.size
    obtain ⟨a10, c10, rfl, hcn, RG⟩ := A10
    replace RG := RG.weaken (T := fun k => k < w10.heap.size) (fun k hk _ => hk)
    refine RS.norm (by dsimp only [List.set]) ?_
    refine RS.move (v := .tuple _) rfl ?_
    refine RS.extract (v := .agg _) rfl rfl ?_
    refine RS.extract (v := .int _ _) rfl rfl ?_
    refine RS.alloc T32 (fun b11 w11 e11 s11 x11 B11 => ?_)
    refine RS.norm (by dsimp only [List.set]) ?_
    replace hE := Ext.tr hE x11
    replace K0 := K0.ext x11
    replace D0 := D0.ext x11
    replace B2 := B2.ext x11
    replace RG := RG.ext x11
    have zw11 := x11.size
    refine RS.storeAggB rfl rfl C32 (by decide) rfl rfl B11 rfl (fun w12 y12 N12 => ?_)
    replace hE := hE.trans (y12.below (by intros; try (first | (intro _ _) | (intro _) | skip); first | omega | (dsimp only at *; omega) | (simp_all; done) | (simp at *; omega)))
    replace K0 := K0.st y12 (by intros; try (first | (intro _ _) | (intro _) | skip); first | omega | (dsimp only at *; omega) | (simp_all; done) | (simp at *; omega))
    replace D0 := D0.st y12 (by intros; try (first | (intro _ _) | (intro _) | skip); first | omega | (dsimp only at *; omega) | (simp_all; done) | (simp at *; omega))
    replace B2 := B2.st y12 (by intros; try (first | (intro _ _) | (intro _) | skip); first | omega | (dsimp only at *; omega) | (simp_all; done) | (simp at *; omega))
    replace RG := RG.st y12 (by intros; try (first | (intro _ _) | (intro _) | skip); first | omega | (dsimp only at *; omega) | (simp_all; done) | (simp at *; omega))
    have zw12 := y12.size
    replace B11 := N12
    refine RS.assign (v := .int _ _) rfl ?_
    refine RS.nil ?_
    refine hK9 _ _ ?_
    try clear hK9
    refine wp_seq_k (fun K13 hK13 => ?_)
    refine region ?_
    refine RS.move (v := .int _ _) rfl ?_
    refine RS.call E26 (publicW _ hx _) rfl (fun v14 w14 x14 A14 => ?_)
    replace hE := Ext.tr hE x14
    replace K0 := K0.ext x14
    replace D0 := D0.ext x14
    replace B2 := B2.ext x14
    replace RG := RG.ext x14
    replace B11 := B11.ext x14
    have zw14 := x14.size
    subst A14
    refine RS.norm (by dsimp only [List.set]) ?_
    refine RS.move (v := .tuple _) rfl ?_
    refine RS.extract (v := .int _ _) rfl rfl ?_
    refine RS.extract (v := .int _ _) rfl rfl ?_
    refine RS.assign (v := .int _ _) rfl ?_
    refine RS.assign (v := .int _ _) rfl ?_
    refine RS.nil ?_
    refine hK13 _ _ ?_
    try clear hK13
    refine wp_seq_k (fun K15 hK15 => ?_)
    refine wp_seq_k (fun K16 hK16 => ?_)
    refine region ?_
    refine RS.move (v := .int _ _) rfl ?_
    refine RS.o (D.eq rfl rfl) ?_
    refine RS.nil ?_
    refine hK16 _ _ ?_
    try clear hK16
    refine C.ife rfl (fun c17 => ?_) (fun c17 => ?_)
    · have hz := c17
      obtain ⟨g1, g2, g3, g4, g5, g6, g7⟩ := S.sign_good ho e4 hz
      have hsec : S.secE x = 0 := S.secE_zero.2 (S.signE_zero.1 hz).1
      rw [show (if S.secE x = 0 then S.pubS x else 0) = S.pubS x from if_pos hsec, hsec]
      refine wp_seq_k (fun K18 hK18 => ?_)
      refine region ?_
      refine RS.o (D.loadAgg rfl Tryd.underlying32 rfl C32 (by decide) rfl (B11.cellsN 11 rfl)) ?_
      refine RS.call E12 (messageO (S.signS x o) hso _ _ _ RG hcn) rfl (fun v19 w19 x19 A19 => ?_)
      replace hE := Ext.tr hE x19
      replace K0 := K0.ext x19
      replace D0 := D0.ext x19
      replace B2 := B2.ext x19
      replace RG := RG.ext x19
      replace B11 := B11.ext x19
      have zw19 := x19.size
      obtain ⟨a19, n19, c19, xs, rfl, OM, hxs⟩ := A19
      rw [if_pos g4] at hxs
      rw [g4]
      rw [g5] at hxs
      subst hxs
      have hOM := OM.lo
      refine RS.norm (by dsimp only [List.set]) ?_
      refine RS.move (v := .tuple _) rfl ?_
      refine RS.extract (v := .slice _ _ _) rfl rfl ?_
      refine RS.extract (v := .int _ _) rfl rfl ?_
      refine RS.assign (v := .slice _ _ _) rfl ?_
      refine RS.assign (v := .int _ _) rfl ?_
      refine RS.nil ?_
      refine hK18 _ _ ?_
      try clear hK18
      refine wp_seq_k (fun K20 hK20 => ?_)
      refine region ?_
      refine RS.move (v := .int _ _) rfl ?_
      refine RS.o (D.ne rfl rfl) ?_
      refine RS.move (v := .bool _) rfl ?_
      refine RS.splitn 36 rfl rfl (fun c21 => ?_) (fun c21 => ?_)
      · refine RS.norm (by dsimp only [List.set]) ?_
        exact absurd rfl c21
      · refine RS.norm (by dsimp only [List.set]) ?_
        refine RS.wantB 36 rfl rfl rfl ?_
        refine RS.o (D.fieldL 0 rfl Tryd.underlying32 rfl C22 (by decide) rfl) ?_
        refine RS.wantB 36 rfl rfl rfl ?_
        refine RS.o (D.load rfl Tryd.underlying22 rfl (B11.cell rfl)) ?_
        refine RS.wantB 36 rfl rfl rfl ?_
        refine RS.move (v := .int _ _) rfl ?_
        refine RS.wantB 36 rfl rfl rfl ?_
        refine RS.o (D.ne rfl rfl) ?_
        refine RS.pick (v := .bool _) rfl rfl ?_
        refine RS.move (v := .bool _) rfl ?_
        refine RS.splitn 42 rfl rfl (fun c22 => ?_) (fun c22 => ?_)
        · refine RS.norm (by dsimp only [List.set]) ?_
          exact absurd g1 c22
        · refine RS.norm (by dsimp only [List.set]) ?_
          refine RS.wantB 42 rfl rfl rfl ?_
          refine RS.o (D.fieldL 2 rfl Tryd.underlying32 rfl C24 (by decide) rfl) ?_
          refine RS.wantB 42 rfl rfl rfl ?_
          refine RS.o (D.load rfl Tryd.underlying24 rfl (B11.cell rfl)) ?_
          refine RS.wantB 42 rfl rfl rfl ?_
          refine RS.o (D.fieldL 2 rfl Tryd.underlying32 rfl C24 (by decide) rfl) ?_
          refine RS.wantB 42 rfl rfl rfl ?_
          refine RS.o (D.load rfl Tryd.underlying24 rfl (B2.cell rfl)) ?_
          refine RS.wantB 42 rfl rfl rfl ?_
          refine RS.o (D.ne rfl rfl) ?_
          refine RS.pick (v := .bool _) rfl rfl ?_
          refine RS.move (v := .bool _) rfl ?_
          refine RS.splitn 49 rfl rfl (fun c23 => ?_) (fun c23 => ?_)
          · refine RS.norm (by dsimp only [List.set]) ?_
            exact absurd g2 c23
          · refine RS.norm (by dsimp only [List.set]) ?_
            refine RS.wantB 49 rfl rfl rfl ?_
            refine RS.o (D.fieldL 3 rfl Tryd.underlying32 rfl C28 (by decide) rfl) ?_
            refine RS.wantB 49 rfl rfl rfl ?_
            refine RS.o (D.loadAgg rfl Tryd.underlying28 rfl C28 (by decide) rfl (B11.cellsN 6 rfl)) ?_
            refine RS.wantB 49 rfl rfl rfl ?_
            refine RS.o (D.fieldL 3 rfl Tryd.underlying32 rfl C28 (by decide) rfl) ?_
            refine RS.wantB 49 rfl rfl rfl ?_
            refine RS.o (D.loadAgg rfl Tryd.underlying28 rfl C28 (by decide) rfl (B2.cellsN 6 rfl)) ?_
            refine RS.wantB 49 rfl rfl rfl ?_
            refine RS.o (D.neA rfl rfl Tryd.underlying28 rfl (by kernel_rfl) (by kernel_rfl) (by kernel_rfl)) ?_
            refine RS.pick (v := .bool _) rfl rfl ?_
            refine RS.move (v := .bool _) rfl ?_
            refine RS.splitb 56 rfl rfl (fun c24 => ?_) (fun c24 => ?_)
            · refine RS.norm (by dsimp only [List.set]) ?_
              exact Bool.noConfusion (((S.eqA6 _ _ _ _ _ _ _ _ _ _ _ _).trans (decide_eq_true (S.sign_act hz))).symm.trans (Eq.mp (Bool.not_eq_true' _) c24))
            · refine RS.norm (by dsimp only [List.set]) ?_
              refine RS.wantB 56 rfl rfl rfl ?_
              refine RS.o (D.loadAgg rfl Tryd.underlying32 rfl C32 (by decide) rfl (B11.cellsN 11 rfl)) ?_
              refine RS.wantB 56 rfl rfl rfl ?_
              refine RS.call E27 (verifyO (S.signS x o) hso _ _ _ _ K0 RG hcn) rfl (fun v25 w25 x25 A25 => ?_)
              replace hE := Ext.tr hE x25
              replace K0 := K0.ext x25
              replace D0 := D0.ext x25
              replace B2 := B2.ext x25
              replace RG := RG.ext x25
              replace B11 := B11.ext x25
              replace OM := OM.ext x25
              have zw25 := x25.size
              subst A25
              rw [g7]
              refine RS.norm (by dsimp only [List.set]) ?_
              refine RS.wantB 56 rfl rfl rfl ?_
              refine RS.o (D.ne rfl rfl) ?_
              refine RS.pick (v := .bool _) rfl rfl ?_
              refine RS.move (v := .bool _) rfl ?_
              refine RS.splitn 61 rfl rfl (fun c26 => ?_) (fun c26 => ?_)
              · refine RS.norm (by dsimp only [List.set]) ?_
                exact absurd rfl c26
              · refine RS.norm (by dsimp only [List.set]) ?_
                refine RS.wantB 61 rfl rfl rfl ?_
                refine RS.move (v := .int _ _) rfl ?_
                refine RS.wantB 61 rfl rfl rfl ?_
                refine RS.o (D.ne rfl rfl) ?_
                refine RS.pick (v := .bool _) rfl rfl ?_
                refine RS.move (v := .bool _) rfl ?_
                refine RS.splitn 65 rfl rfl (fun c27 => ?_) (fun c27 => ?_)
                · refine RS.norm (by dsimp only [List.set]) ?_
                  exact absurd rfl c27
                · refine RS.norm (by dsimp only [List.set]) ?_
                  refine RS.wantB 65 rfl rfl rfl ?_
                  refine RS.move (v := .int _ _) rfl ?_
                  refine RS.wantB 65 rfl rfl rfl ?_
                  refine RS.move (v := .slice _ _ _) rfl ?_
                  refine RS.wantB 65 rfl rfl rfl ?_
                  refine RS.o (D.fieldL 9 rfl Tryd.underlying32 rfl C30 (by decide) rfl) ?_
                  refine RS.wantB 65 rfl rfl rfl ?_
                  refine RS.o (D.loadAgg rfl Tryd.underlying30 rfl C30 (by decide) rfl (B11.cellsN 2 rfl)) ?_
                  refine RS.wantB 65 rfl rfl rfl ?_
                  refine RS.call E28 (verifyW _ (by omega) _ _ hso.e hso.s _ _ _ _ _ _ K0 OM.row OM.own.pre) rfl (fun v28 w28 x28 A28 => ?_)
                  replace hE := Ext.tr hE x28
                  replace K0 := K0.ext x28
                  replace D0 := D0.ext x28
                  replace B2 := B2.ext x28
                  replace RG := RG.ext x28
                  replace B11 := B11.ext x28
                  replace OM := OM.ext x28
                  have zw28 := x28.size
                  subst A28
                  rw [g6]
                  refine RS.norm (by dsimp only [List.set]) ?_
                  refine RS.wantB 65 rfl rfl rfl ?_
                  refine RS.o (D.ne rfl rfl) ?_
                  refine RS.pick (v := .bool _) rfl rfl ?_
                  refine RS.nil ?_
                  refine hK20 _ _ ?_
                  try clear hK20
                  refine C.ifn rfl (fun c29 => ?_) (fun c29 => ?_)
                  · exact absurd rfl c29
                  · refine wp_skip ?_
                    refine hK15 _ _ ?_
                    try clear hK15
                    refine wp_seq_k (fun K30 hK30 => ?_)
                    refine wp_seq_k (fun K31 hK31 => ?_)
                    refine region ?_
                    refine RS.o (D.loadAgg rfl Tryd.underlying32 rfl C32 (by decide) rfl (B2.cellsN 11 rfl)) ?_
                    refine RS.call E29 (fitW o hr _ _ _ D0 hc) rfl (fun v32 w32 x32 A32 => ?_)
                    replace hE := Ext.tr hE x32
                    replace K0 := K0.ext x32
                    replace D0 := D0.ext x32
                    replace B2 := B2.ext x32
                    replace RG := RG.ext x32
                    replace B11 := B11.ext x32
                    replace OM := OM.ext x32
                    have zw32 := x32.size
                    subst A32
                    refine RS.norm (by dsimp only [List.set]) ?_
                    refine RS.o (D.not rfl) ?_
                    refine RS.nil ?_
                    refine hK31 _ _ ?_
                    try clear hK31
                    refine C.ifnot rfl (fun c33 => ?_) (fun c33 => ?_)
                    · have hF := of_decide_eq_false c33
                      have hv := S.ver_not hF hG
                      refine wp_seq_k (fun K34 hK34 => ?_)
                      refine region ?_
                      refine RS.o (D.loadAgg rfl Tryd.underlying32 rfl C32 (by decide) rfl (B2.cellsN 11 rfl)) ?_
                      refine RS.call E27 (verifyO o ho _ _ _ _ K0 D0 hc) rfl (fun v35 w35 x35 A35 => ?_)
                      replace hE := Ext.tr hE x35
                      replace K0 := K0.ext x35
                      replace D0 := D0.ext x35
                      replace B2 := B2.ext x35
                      replace RG := RG.ext x35
                      replace B11 := B11.ext x35
                      replace OM := OM.ext x35
                      have zw35 := x35.size
                      subst A35
                      refine RS.norm (by dsimp only [List.set]) ?_
                      refine RS.o (D.ne rfl rfl) ?_
                      refine RS.move (v := .bool _) rfl ?_
                      refine RS.splitn 93 rfl rfl (fun c36 => ?_) (fun c36 => ?_)
                      · refine RS.norm (by dsimp only [List.set]) ?_
                        refine RS.wantB 93 rfl rfl rfl ?_
                        refine RS.o (D.loadAgg rfl Tryd.underlying32 rfl C32 (by decide) rfl (B2.cellsN 11 rfl)) ?_
                        refine RS.wantB 93 rfl rfl rfl ?_
                        refine RS.call E27 (verifyO o ho _ _ _ _ K0 D0 hc) rfl (fun v37 w37 x37 A37 => ?_)
                        replace hE := Ext.tr hE x37
                        replace K0 := K0.ext x37
                        replace D0 := D0.ext x37
                        replace B2 := B2.ext x37
                        replace RG := RG.ext x37
                        replace B11 := B11.ext x37
                        replace OM := OM.ext x37
                        have zw37 := x37.size
                        subst A37
                        refine RS.norm (by dsimp only [List.set]) ?_
                        refine RS.wantB 93 rfl rfl rfl ?_
                        refine RS.o (D.ne rfl rfl) ?_
                        refine RS.pick (v := .bool _) rfl rfl ?_
                        refine RS.move (v := .bool _) rfl ?_
                        refine RS.splitn 98 rfl rfl (fun c38 => ?_) (fun c38 => ?_)
                        · refine RS.norm (by dsimp only [List.set]) ?_
                          refine RS.wantB 98 rfl rfl rfl ?_
                          refine RS.call E24 (aliveW _ _ K0) rfl (fun v39 w39 x39 A39 => ?_)
                          replace hE := Ext.tr hE x39
                          replace K0 := K0.ext x39
                          replace D0 := D0.ext x39
                          replace B2 := B2.ext x39
                          replace RG := RG.ext x39
                          replace B11 := B11.ext x39
                          replace OM := OM.ext x39
                          have zw39 := x39.size
                          subst A39
                          refine RS.norm (by dsimp only [List.set]) ?_
                          refine RS.pick (v := .bool _) rfl rfl ?_
                          refine RS.assign (v := .bool _) rfl ?_
                          refine RS.nil ?_
                          refine hK34 _ _ ?_
                          try clear hK34
                          refine wp_ret ?_
                          refine ret (rs := [.tmp 4]) (vs := [.bool _]) (v := (.bool _)) rfl ⟨rfl, trivial⟩ rfl ?_
                          exact ⟨_, rfl, hE, rfl⟩
                        · refine RS.norm (by dsimp only [List.set]) ?_
                          exact absurd c38 hv.2
                      · refine RS.norm (by dsimp only [List.set]) ?_
                        exact absurd c36 hv.1
                    · have hF := of_decide_eq_true c33
                      refine wp_skip ?_
                      refine hK30 _ _ ?_
                      try clear hK30
                      refine wp_seq_k (fun K40 hK40 => ?_)
                      refine region ?_
                      refine RS.o (D.loadAgg rfl Tryd.underlying32 rfl C32 (by decide) rfl (B2.cellsN 11 rfl)) ?_
                      refine RS.call E12 (messageO o ho _ _ _ D0 hc) rfl (fun v41 w41 x41 A41 => ?_)
                      replace hE := Ext.tr hE x41
                      replace K0 := K0.ext x41
                      replace D0 := D0.ext x41
                      replace B2 := B2.ext x41
                      replace RG := RG.ext x41
                      replace B11 := B11.ext x41
                      replace OM := OM.ext x41
                      have zw41 := x41.size
                      obtain ⟨a41, n41, c41, xs, rfl, ON, hxs⟩ := A41
                      rw [if_pos (S.check_bare hF.2)] at hxs
                      rw [(S.check_bare hF.2)]
                      subst hxs
                      have hON := ON.lo
                      refine RS.norm (by dsimp only [List.set]) ?_
                      refine RS.move (v := .tuple _) rfl ?_
                      refine RS.extract (v := .slice _ _ _) rfl rfl ?_
                      refine RS.extract (v := .int _ _) rfl rfl ?_
                      refine RS.assign (v := .slice _ _ _) rfl ?_
                      refine RS.assign (v := .int _ _) rfl ?_
                      refine RS.nil ?_
                      refine hK40 _ _ ?_
                      try clear hK40
                      refine wp_seq_k (fun K42 hK42 => ?_)
                      refine regionX Ext [(0, .q), (1, .q), (2, .q), (3, .q), (5, .q), (6, .q), (7, .q), (8, .q), (9, .q), (4, .e), (10, .e), (11, .q), (12, .q), (13, .q), (14, .e), (15, .q), (16, .q)] mixed Ext.refl (fun h k => h.tr k) (by kernel_rfl) (fun w43 x43 => ?_)
                      replace hE := Ext.tr hE x43
                      replace K0 := K0.ext x43
                      replace D0 := D0.ext x43
                      replace B2 := B2.ext x43
                      replace RG := RG.ext x43
                      replace B11 := B11.ext x43
                      replace OM := OM.ext x43
                      replace ON := ON.ext x43
                      have zw43 := x43.size
                      refine RX.move (v := .int _ _) rfl ?_
                      refine RX.o (fun w' hw => D.eq rfl rfl) ?_
                      refine RX.move (v := .bool _) rfl ?_
                      refine RX.splite 108 rfl rfl (fun c44 => ?_) (fun c44 => ?_)
                      · refine RX.norm (by dsimp only [List.set]) ?_
                        refine RX.wantB 108 rfl rfl rfl ?_
                        refine RX.o (fun w' hw => D.loadAgg rfl Tryd.underlying32 rfl C32 (by decide) rfl ((B2.ext hw).cellsN 11 rfl)) ?_
                        refine RX.wantB 108 rfl rfl rfl ?_
                        refine RX.o (fun w' hw => D.fieldL 0 rfl Tryd.underlying32 rfl C22 (by decide) rfl) ?_
                        refine RX.wantB 108 rfl rfl rfl ?_
                        refine RX.o (fun w' hw => D.load rfl Tryd.underlying22 rfl ((B2.ext hw).cell rfl)) ?_
                        refine RX.wantB 108 rfl rfl rfl ?_
                        refine RX.move (v := .slice _ _ _) rfl ?_
                        refine RX.wantB 108 rfl rfl rfl ?_
                        refine RX.o (fun w' hw => D.fieldL 9 rfl Tryd.underlying32 rfl C30 (by decide) rfl) ?_
                        refine RX.wantB 108 rfl rfl rfl ?_
                        refine RX.o (fun w' hw => D.loadAgg rfl Tryd.underlying30 rfl C30 (by decide) rfl ((B2.ext hw).cellsN 2 rfl)) ?_
                        refine RX.wantB 108 rfl rfl rfl ?_
                        refine RX.eff ?_
                        refine RS.call E27 (verifyO o ho _ _ _ _ K0 D0 hc) rfl (fun v45 w45 x45 A45 => ?_)
                        replace hE := Ext.tr hE x45
                        replace K0 := K0.ext x45
                        replace D0 := D0.ext x45
                        replace B2 := B2.ext x45
                        replace RG := RG.ext x45
                        replace B11 := B11.ext x45
                        replace OM := OM.ext x45
                        replace ON := ON.ext x45
                        have zw45 := x45.size
                        subst A45
                        refine RS.norm (by dsimp only [List.set]) ?_
                        refine RS.nil ⟨x45, ?_⟩
                        refine RX.wantB 108 rfl rfl rfl ?_
                        refine RX.eff ?_
                        refine RS.call E28 (verifyW _ ho.au _ _ ho.e ho.s _ _ _ _ _ _ K0 ON.row ON.own.pre) rfl (fun v46 w46 x46 A46 => ?_)
                        replace hE := Ext.tr hE x46
                        replace K0 := K0.ext x46
                        replace D0 := D0.ext x46
                        replace B2 := B2.ext x46
                        replace RG := RG.ext x46
                        replace B11 := B11.ext x46
                        replace OM := OM.ext x46
                        replace ON := ON.ext x46
                        have zw46 := x46.size
                        subst A46
                        refine RS.norm (by dsimp only [List.set]) ?_
                        refine RS.nil ⟨x46, ?_⟩
                        refine RX.wantB 108 rfl rfl rfl ?_
                        refine RX.o (fun w' hw => D.eq rfl rfl) ?_
                        refine RX.pick (v := .bool _) rfl rfl ?_
                        refine RX.move (v := .bool _) rfl ?_
                        refine RX.splite 119 rfl rfl (fun c47 => ?_) (fun c47 => ?_)
                        · refine RX.norm (by dsimp only [List.set]) ?_
                          refine RX.wantB 119 rfl rfl rfl ?_
                          refine RX.eff ?_
                          refine RS.call E24 (aliveW _ _ K0) rfl (fun v48 w48 x48 A48 => ?_)
                          replace hE := Ext.tr hE x48
                          replace K0 := K0.ext x48
                          replace D0 := D0.ext x48
                          replace B2 := B2.ext x48
                          replace RG := RG.ext x48
                          replace B11 := B11.ext x48
                          replace OM := OM.ext x48
                          replace ON := ON.ext x48
                          have zw48 := x48.size
                          subst A48
                          refine RS.norm (by dsimp only [List.set]) ?_
                          refine RS.nil ⟨x48, ?_⟩
                          refine RX.pick (v := .bool _) rfl rfl ?_
                          refine RX.assign (v := .bool _) rfl ?_
                          refine RX.nil ?_
                          refine hK42 _ _ ?_
                          try clear hK42
                          refine wp_ret ?_
                          refine ret (rs := [.tmp 4]) (vs := [.bool _]) (v := (.bool _)) rfl ⟨rfl, trivial⟩ rfl ?_
                          exact ⟨_, rfl, hE, rfl⟩
                        · refine RX.norm (by dsimp only [List.set]) ?_
                          exact absurd (S.ver_fit hF) c47
                      · refine RX.norm (by dsimp only [List.set]) ?_
                        exact absurd rfl c44
    · have hz := c17
      refine wp_seq_k (fun K49 hK49 => ?_)
      refine region ?_
      refine RS.move (v := .int _ _) rfl ?_
      refine RS.o (D.eq rfl rfl) ?_
      refine RS.move (v := .bool _) rfl ?_
      refine RS.splite 75 rfl rfl (fun c50 => ?_) (fun c50 => ?_)
      · refine RS.norm (by dsimp only [List.set]) ?_
        have s1 := c50
        refine RS.wantB 75 rfl rfl rfl ?_
        refine RS.move (v := .int _ _) rfl ?_
        refine RS.wantB 75 rfl rfl rfl ?_
        refine RS.o (D.ne rfl rfl) ?_
        refine RS.pick (v := .bool _) rfl rfl ?_
        refine RS.move (v := .bool _) rfl ?_
        refine RS.splitn 79 rfl rfl (fun c51 => ?_) (fun c51 => ?_)
        · refine RS.norm (by dsimp only [List.set]) ?_
          have s2 := c51
          refine RS.wantB 79 rfl rfl rfl ?_
          refine RS.move (v := .int _ _) rfl ?_
          refine RS.wantB 79 rfl rfl rfl ?_
          refine RS.o (D.ne rfl rfl) ?_
          refine RS.pick (v := .bool _) rfl rfl ?_
          refine RS.move (v := .bool _) rfl ?_
          refine RS.splitn 83 rfl rfl (fun c52 => ?_) (fun c52 => ?_)
          · refine RS.norm (by dsimp only [List.set]) ?_
            have s3 := c52
            refine RS.wantB 83 rfl rfl rfl ?_
            refine RS.move (v := .int _ _) rfl ?_
            refine RS.wantB 83 rfl rfl rfl ?_
            refine RS.o (D.ne rfl rfl) ?_
            refine RS.pick (v := .bool _) rfl rfl ?_
            refine RS.nil ?_
            refine hK49 _ _ ?_
            try clear hK49
            refine C.ifn rfl (fun c53 => ?_) (fun c53 => ?_)
            · exact absurd (S.sign_err hz s1) (by rintro (h | h | h); exact s2 h; exact s3 h; exact c53 h)
            · refine wp_skip ?_
              refine hK15 _ _ ?_
              try clear hK15
              refine wp_seq_k (fun K54 hK54 => ?_)
              refine wp_seq_k (fun K55 hK55 => ?_)
              refine region ?_
              refine RS.o (D.loadAgg rfl Tryd.underlying32 rfl C32 (by decide) rfl (B2.cellsN 11 rfl)) ?_
              refine RS.call E29 (fitW o hr _ _ _ D0 hc) rfl (fun v56 w56 x56 A56 => ?_)
              replace hE := Ext.tr hE x56
              replace K0 := K0.ext x56
              replace D0 := D0.ext x56
              replace B2 := B2.ext x56
              replace RG := RG.ext x56
              replace B11 := B11.ext x56
              have zw56 := x56.size
              subst A56
              refine RS.norm (by dsimp only [List.set]) ?_
              refine RS.o (D.not rfl) ?_
              refine RS.nil ?_
              refine hK55 _ _ ?_
              try clear hK55
              refine C.ifnot rfl (fun c57 => ?_) (fun c57 => ?_)
              · have hF := of_decide_eq_false c57
                have hv := S.ver_not hF hG
                refine wp_seq_k (fun K58 hK58 => ?_)
                refine region ?_
                refine RS.o (D.loadAgg rfl Tryd.underlying32 rfl C32 (by decide) rfl (B2.cellsN 11 rfl)) ?_
                refine RS.call E27 (verifyO o ho _ _ _ _ K0 D0 hc) rfl (fun v59 w59 x59 A59 => ?_)
                replace hE := Ext.tr hE x59
                replace K0 := K0.ext x59
                replace D0 := D0.ext x59
                replace B2 := B2.ext x59
                replace RG := RG.ext x59
                replace B11 := B11.ext x59
                have zw59 := x59.size
                subst A59
                refine RS.norm (by dsimp only [List.set]) ?_
                refine RS.o (D.ne rfl rfl) ?_
                refine RS.move (v := .bool _) rfl ?_
                refine RS.splitn 93 rfl rfl (fun c60 => ?_) (fun c60 => ?_)
                · refine RS.norm (by dsimp only [List.set]) ?_
                  refine RS.wantB 93 rfl rfl rfl ?_
                  refine RS.o (D.loadAgg rfl Tryd.underlying32 rfl C32 (by decide) rfl (B2.cellsN 11 rfl)) ?_
                  refine RS.wantB 93 rfl rfl rfl ?_
                  refine RS.call E27 (verifyO o ho _ _ _ _ K0 D0 hc) rfl (fun v61 w61 x61 A61 => ?_)
                  replace hE := Ext.tr hE x61
                  replace K0 := K0.ext x61
                  replace D0 := D0.ext x61
                  replace B2 := B2.ext x61
                  replace RG := RG.ext x61
                  replace B11 := B11.ext x61
                  have zw61 := x61.size
                  subst A61
                  refine RS.norm (by dsimp only [List.set]) ?_
                  refine RS.wantB 93 rfl rfl rfl ?_
                  refine RS.o (D.ne rfl rfl) ?_
                  refine RS.pick (v := .bool _) rfl rfl ?_
                  refine RS.move (v := .bool _) rfl ?_
                  refine RS.splitn 98 rfl rfl (fun c62 => ?_) (fun c62 => ?_)
                  · refine RS.norm (by dsimp only [List.set]) ?_
                    refine RS.wantB 98 rfl rfl rfl ?_
                    refine RS.call E24 (aliveW _ _ K0) rfl (fun v63 w63 x63 A63 => ?_)
                    replace hE := Ext.tr hE x63
                    replace K0 := K0.ext x63
                    replace D0 := D0.ext x63
                    replace B2 := B2.ext x63
                    replace RG := RG.ext x63
                    replace B11 := B11.ext x63
                    have zw63 := x63.size
                    subst A63
                    refine RS.norm (by dsimp only [List.set]) ?_
                    refine RS.pick (v := .bool _) rfl rfl ?_
                    refine RS.assign (v := .bool _) rfl ?_
                    refine RS.nil ?_
                    refine hK58 _ _ ?_
                    try clear hK58
                    refine wp_ret ?_
                    refine ret (rs := [.tmp 4]) (vs := [.bool _]) (v := (.bool _)) rfl ⟨rfl, trivial⟩ rfl ?_
                    exact ⟨_, rfl, hE, rfl⟩
                  · refine RS.norm (by dsimp only [List.set]) ?_
                    exact absurd c62 hv.2
                · refine RS.norm (by dsimp only [List.set]) ?_
                  exact absurd c60 hv.1
              · have hF := of_decide_eq_true c57
                refine wp_skip ?_
                refine hK54 _ _ ?_
                try clear hK54
                refine wp_seq_k (fun K64 hK64 => ?_)
                refine region ?_
                refine RS.o (D.loadAgg rfl Tryd.underlying32 rfl C32 (by decide) rfl (B2.cellsN 11 rfl)) ?_
                refine RS.call E12 (messageO o ho _ _ _ D0 hc) rfl (fun v65 w65 x65 A65 => ?_)
                replace hE := Ext.tr hE x65
                replace K0 := K0.ext x65
                replace D0 := D0.ext x65
                replace B2 := B2.ext x65
                replace RG := RG.ext x65
                replace B11 := B11.ext x65
                have zw65 := x65.size
                obtain ⟨a65, n65, c65, xs, rfl, ON, hxs⟩ := A65
                rw [if_pos (S.check_bare hF.2)] at hxs
                rw [(S.check_bare hF.2)]
                subst hxs
                have hON := ON.lo
                refine RS.norm (by dsimp only [List.set]) ?_
                refine RS.move (v := .tuple _) rfl ?_
                refine RS.extract (v := .slice _ _ _) rfl rfl ?_
                refine RS.extract (v := .int _ _) rfl rfl ?_
                refine RS.assign (v := .slice _ _ _) rfl ?_
                refine RS.assign (v := .int _ _) rfl ?_
                refine RS.nil ?_
                refine hK64 _ _ ?_
                try clear hK64
                refine wp_seq_k (fun K66 hK66 => ?_)
                refine regionX Ext [(0, .q), (1, .q), (2, .q), (3, .q), (5, .q), (6, .q), (7, .q), (8, .q), (9, .q), (4, .e), (10, .e), (11, .q), (12, .q), (13, .q), (14, .e), (15, .q), (16, .q)] mixed Ext.refl (fun h k => h.tr k) (by kernel_rfl) (fun w67 x67 => ?_)
                replace hE := Ext.tr hE x67
                replace K0 := K0.ext x67
                replace D0 := D0.ext x67
                replace B2 := B2.ext x67
                replace RG := RG.ext x67
                replace B11 := B11.ext x67
                replace ON := ON.ext x67
                have zw67 := x67.size
                refine RX.move (v := .int _ _) rfl ?_
                refine RX.o (fun w' hw => D.eq rfl rfl) ?_
                refine RX.move (v := .bool _) rfl ?_
                refine RX.splite 108 rfl rfl (fun c68 => ?_) (fun c68 => ?_)
                · refine RX.norm (by dsimp only [List.set]) ?_
                  refine RX.wantB 108 rfl rfl rfl ?_
                  refine RX.o (fun w' hw => D.loadAgg rfl Tryd.underlying32 rfl C32 (by decide) rfl ((B2.ext hw).cellsN 11 rfl)) ?_
                  refine RX.wantB 108 rfl rfl rfl ?_
                  refine RX.o (fun w' hw => D.fieldL 0 rfl Tryd.underlying32 rfl C22 (by decide) rfl) ?_
                  refine RX.wantB 108 rfl rfl rfl ?_
                  refine RX.o (fun w' hw => D.load rfl Tryd.underlying22 rfl ((B2.ext hw).cell rfl)) ?_
                  refine RX.wantB 108 rfl rfl rfl ?_
                  refine RX.move (v := .slice _ _ _) rfl ?_
                  refine RX.wantB 108 rfl rfl rfl ?_
                  refine RX.o (fun w' hw => D.fieldL 9 rfl Tryd.underlying32 rfl C30 (by decide) rfl) ?_
                  refine RX.wantB 108 rfl rfl rfl ?_
                  refine RX.o (fun w' hw => D.loadAgg rfl Tryd.underlying30 rfl C30 (by decide) rfl ((B2.ext hw).cellsN 2 rfl)) ?_
                  refine RX.wantB 108 rfl rfl rfl ?_
                  refine RX.eff ?_
                  refine RS.call E27 (verifyO o ho _ _ _ _ K0 D0 hc) rfl (fun v69 w69 x69 A69 => ?_)
                  replace hE := Ext.tr hE x69
                  replace K0 := K0.ext x69
                  replace D0 := D0.ext x69
                  replace B2 := B2.ext x69
                  replace RG := RG.ext x69
                  replace B11 := B11.ext x69
                  replace ON := ON.ext x69
                  have zw69 := x69.size
                  subst A69
                  refine RS.norm (by dsimp only [List.set]) ?_
                  refine RS.nil ⟨x69, ?_⟩
                  refine RX.wantB 108 rfl rfl rfl ?_
                  refine RX.eff ?_
                  refine RS.call E28 (verifyW _ ho.au _ _ ho.e ho.s _ _ _ _ _ _ K0 ON.row ON.own.pre) rfl (fun v70 w70 x70 A70 => ?_)
                  replace hE := Ext.tr hE x70
                  replace K0 := K0.ext x70
                  replace D0 := D0.ext x70
                  replace B2 := B2.ext x70
                  replace RG := RG.ext x70
                  replace B11 := B11.ext x70
                  replace ON := ON.ext x70
                  have zw70 := x70.size
                  subst A70
                  refine RS.norm (by dsimp only [List.set]) ?_
                  refine RS.nil ⟨x70, ?_⟩
                  refine RX.wantB 108 rfl rfl rfl ?_
                  refine RX.o (fun w' hw => D.eq rfl rfl) ?_
                  refine RX.pick (v := .bool _) rfl rfl ?_
                  refine RX.move (v := .bool _) rfl ?_
                  refine RX.splite 119 rfl rfl (fun c71 => ?_) (fun c71 => ?_)
                  · refine RX.norm (by dsimp only [List.set]) ?_
                    refine RX.wantB 119 rfl rfl rfl ?_
                    refine RX.eff ?_
                    refine RS.call E24 (aliveW _ _ K0) rfl (fun v72 w72 x72 A72 => ?_)
                    replace hE := Ext.tr hE x72
                    replace K0 := K0.ext x72
                    replace D0 := D0.ext x72
                    replace B2 := B2.ext x72
                    replace RG := RG.ext x72
                    replace B11 := B11.ext x72
                    replace ON := ON.ext x72
                    have zw72 := x72.size
                    subst A72
                    refine RS.norm (by dsimp only [List.set]) ?_
                    refine RS.nil ⟨x72, ?_⟩
                    refine RX.pick (v := .bool _) rfl rfl ?_
                    refine RX.assign (v := .bool _) rfl ?_
                    refine RX.nil ?_
                    refine hK66 _ _ ?_
                    try clear hK66
                    refine wp_ret ?_
                    refine ret (rs := [.tmp 4]) (vs := [.bool _]) (v := (.bool _)) rfl ⟨rfl, trivial⟩ rfl ?_
                    exact ⟨_, rfl, hE, rfl⟩
                  · refine RX.norm (by dsimp only [List.set]) ?_
                    exact absurd (S.ver_fit hF) c71
                · refine RX.norm (by dsimp only [List.set]) ?_
                  exact absurd rfl c68
          · refine RS.norm (by dsimp only [List.set]) ?_
            refine RS.skipB (b := false) 83 rfl rfl rfl rfl ?_
            refine RS.norm (by dsimp only [putL, List.set]) ?_
            refine RS.skipB (b := false) 83 rfl rfl rfl rfl ?_
            refine RS.norm (by dsimp only [putL, List.set]) ?_
            refine RS.pick (v := .bool false) rfl rfl ?_
            refine RS.nil ?_
            refine hK49 _ _ ?_
            try clear hK49
            refine C.iff rfl ?_
            refine wp_skip ?_
            refine hK15 _ _ ?_
            try clear hK15
            refine wp_seq_k (fun K73 hK73 => ?_)
            refine wp_seq_k (fun K74 hK74 => ?_)
            refine region ?_
            refine RS.o (D.loadAgg rfl Tryd.underlying32 rfl C32 (by decide) rfl (B2.cellsN 11 rfl)) ?_
            refine RS.call E29 (fitW o hr _ _ _ D0 hc) rfl (fun v75 w75 x75 A75 => ?_)
            replace hE := Ext.tr hE x75
            replace K0 := K0.ext x75
            replace D0 := D0.ext x75
            replace B2 := B2.ext x75
            replace RG := RG.ext x75
            replace B11 := B11.ext x75
            have zw75 := x75.size
            subst A75
            refine RS.norm (by dsimp only [List.set]) ?_
            refine RS.o (D.not rfl) ?_
            refine RS.nil ?_
            refine hK74 _ _ ?_
            try clear hK74
            refine C.ifnot rfl (fun c76 => ?_) (fun c76 => ?_)
            · have hF := of_decide_eq_false c76
              have hv := S.ver_not hF hG
              refine wp_seq_k (fun K77 hK77 => ?_)
              refine region ?_
              refine RS.o (D.loadAgg rfl Tryd.underlying32 rfl C32 (by decide) rfl (B2.cellsN 11 rfl)) ?_
              refine RS.call E27 (verifyO o ho _ _ _ _ K0 D0 hc) rfl (fun v78 w78 x78 A78 => ?_)
              replace hE := Ext.tr hE x78
              replace K0 := K0.ext x78
              replace D0 := D0.ext x78
              replace B2 := B2.ext x78
              replace RG := RG.ext x78
              replace B11 := B11.ext x78
              have zw78 := x78.size
              subst A78
              refine RS.norm (by dsimp only [List.set]) ?_
              refine RS.o (D.ne rfl rfl) ?_
              refine RS.move (v := .bool _) rfl ?_
              refine RS.splitn 93 rfl rfl (fun c79 => ?_) (fun c79 => ?_)
              · refine RS.norm (by dsimp only [List.set]) ?_
                refine RS.wantB 93 rfl rfl rfl ?_
                refine RS.o (D.loadAgg rfl Tryd.underlying32 rfl C32 (by decide) rfl (B2.cellsN 11 rfl)) ?_
                refine RS.wantB 93 rfl rfl rfl ?_
                refine RS.call E27 (verifyO o ho _ _ _ _ K0 D0 hc) rfl (fun v80 w80 x80 A80 => ?_)
                replace hE := Ext.tr hE x80
                replace K0 := K0.ext x80
                replace D0 := D0.ext x80
                replace B2 := B2.ext x80
                replace RG := RG.ext x80
                replace B11 := B11.ext x80
                have zw80 := x80.size
                subst A80
                refine RS.norm (by dsimp only [List.set]) ?_
                refine RS.wantB 93 rfl rfl rfl ?_
                refine RS.o (D.ne rfl rfl) ?_
                refine RS.pick (v := .bool _) rfl rfl ?_
                refine RS.move (v := .bool _) rfl ?_
                refine RS.splitn 98 rfl rfl (fun c81 => ?_) (fun c81 => ?_)
                · refine RS.norm (by dsimp only [List.set]) ?_
                  refine RS.wantB 98 rfl rfl rfl ?_
                  refine RS.call E24 (aliveW _ _ K0) rfl (fun v82 w82 x82 A82 => ?_)
                  replace hE := Ext.tr hE x82
                  replace K0 := K0.ext x82
                  replace D0 := D0.ext x82
                  replace B2 := B2.ext x82
                  replace RG := RG.ext x82
                  replace B11 := B11.ext x82
                  have zw82 := x82.size
                  subst A82
                  refine RS.norm (by dsimp only [List.set]) ?_
                  refine RS.pick (v := .bool _) rfl rfl ?_
                  refine RS.assign (v := .bool _) rfl ?_
                  refine RS.nil ?_
                  refine hK77 _ _ ?_
                  try clear hK77
                  refine wp_ret ?_
                  refine ret (rs := [.tmp 4]) (vs := [.bool _]) (v := (.bool _)) rfl ⟨rfl, trivial⟩ rfl ?_
                  exact ⟨_, rfl, hE, rfl⟩
                · refine RS.norm (by dsimp only [List.set]) ?_
                  exact absurd c81 hv.2
              · refine RS.norm (by dsimp only [List.set]) ?_
                exact absurd c79 hv.1
            · have hF := of_decide_eq_true c76
              refine wp_skip ?_
              refine hK73 _ _ ?_
              try clear hK73
              refine wp_seq_k (fun K83 hK83 => ?_)
              refine region ?_
              refine RS.o (D.loadAgg rfl Tryd.underlying32 rfl C32 (by decide) rfl (B2.cellsN 11 rfl)) ?_
              refine RS.call E12 (messageO o ho _ _ _ D0 hc) rfl (fun v84 w84 x84 A84 => ?_)
              replace hE := Ext.tr hE x84
              replace K0 := K0.ext x84
              replace D0 := D0.ext x84
              replace B2 := B2.ext x84
              replace RG := RG.ext x84
              replace B11 := B11.ext x84
              have zw84 := x84.size
              obtain ⟨a84, n84, c84, xs, rfl, ON, hxs⟩ := A84
              rw [if_pos (S.check_bare hF.2)] at hxs
              rw [(S.check_bare hF.2)]
              subst hxs
              have hON := ON.lo
              refine RS.norm (by dsimp only [List.set]) ?_
              refine RS.move (v := .tuple _) rfl ?_
              refine RS.extract (v := .slice _ _ _) rfl rfl ?_
              refine RS.extract (v := .int _ _) rfl rfl ?_
              refine RS.assign (v := .slice _ _ _) rfl ?_
              refine RS.assign (v := .int _ _) rfl ?_
              refine RS.nil ?_
              refine hK83 _ _ ?_
              try clear hK83
              refine wp_seq_k (fun K85 hK85 => ?_)
              refine regionX Ext [(0, .q), (1, .q), (2, .q), (3, .q), (5, .q), (6, .q), (7, .q), (8, .q), (9, .q), (4, .e), (10, .e), (11, .q), (12, .q), (13, .q), (14, .e), (15, .q), (16, .q)] mixed Ext.refl (fun h k => h.tr k) (by kernel_rfl) (fun w86 x86 => ?_)
              replace hE := Ext.tr hE x86
              replace K0 := K0.ext x86
              replace D0 := D0.ext x86
              replace B2 := B2.ext x86
              replace RG := RG.ext x86
              replace B11 := B11.ext x86
              replace ON := ON.ext x86
              have zw86 := x86.size
              refine RX.move (v := .int _ _) rfl ?_
              refine RX.o (fun w' hw => D.eq rfl rfl) ?_
              refine RX.move (v := .bool _) rfl ?_
              refine RX.splite 108 rfl rfl (fun c87 => ?_) (fun c87 => ?_)
              · refine RX.norm (by dsimp only [List.set]) ?_
                refine RX.wantB 108 rfl rfl rfl ?_
                refine RX.o (fun w' hw => D.loadAgg rfl Tryd.underlying32 rfl C32 (by decide) rfl ((B2.ext hw).cellsN 11 rfl)) ?_
                refine RX.wantB 108 rfl rfl rfl ?_
                refine RX.o (fun w' hw => D.fieldL 0 rfl Tryd.underlying32 rfl C22 (by decide) rfl) ?_
                refine RX.wantB 108 rfl rfl rfl ?_
                refine RX.o (fun w' hw => D.load rfl Tryd.underlying22 rfl ((B2.ext hw).cell rfl)) ?_
                refine RX.wantB 108 rfl rfl rfl ?_
                refine RX.move (v := .slice _ _ _) rfl ?_
                refine RX.wantB 108 rfl rfl rfl ?_
                refine RX.o (fun w' hw => D.fieldL 9 rfl Tryd.underlying32 rfl C30 (by decide) rfl) ?_
                refine RX.wantB 108 rfl rfl rfl ?_
                refine RX.o (fun w' hw => D.loadAgg rfl Tryd.underlying30 rfl C30 (by decide) rfl ((B2.ext hw).cellsN 2 rfl)) ?_
                refine RX.wantB 108 rfl rfl rfl ?_
                refine RX.eff ?_
                refine RS.call E27 (verifyO o ho _ _ _ _ K0 D0 hc) rfl (fun v88 w88 x88 A88 => ?_)
                replace hE := Ext.tr hE x88
                replace K0 := K0.ext x88
                replace D0 := D0.ext x88
                replace B2 := B2.ext x88
                replace RG := RG.ext x88
                replace B11 := B11.ext x88
                replace ON := ON.ext x88
                have zw88 := x88.size
                subst A88
                refine RS.norm (by dsimp only [List.set]) ?_
                refine RS.nil ⟨x88, ?_⟩
                refine RX.wantB 108 rfl rfl rfl ?_
                refine RX.eff ?_
                refine RS.call E28 (verifyW _ ho.au _ _ ho.e ho.s _ _ _ _ _ _ K0 ON.row ON.own.pre) rfl (fun v89 w89 x89 A89 => ?_)
                replace hE := Ext.tr hE x89
                replace K0 := K0.ext x89
                replace D0 := D0.ext x89
                replace B2 := B2.ext x89
                replace RG := RG.ext x89
                replace B11 := B11.ext x89
                replace ON := ON.ext x89
                have zw89 := x89.size
                subst A89
                refine RS.norm (by dsimp only [List.set]) ?_
                refine RS.nil ⟨x89, ?_⟩
                refine RX.wantB 108 rfl rfl rfl ?_
                refine RX.o (fun w' hw => D.eq rfl rfl) ?_
                refine RX.pick (v := .bool _) rfl rfl ?_
                refine RX.move (v := .bool _) rfl ?_
                refine RX.splite 119 rfl rfl (fun c90 => ?_) (fun c90 => ?_)
                · refine RX.norm (by dsimp only [List.set]) ?_
                  refine RX.wantB 119 rfl rfl rfl ?_
                  refine RX.eff ?_
                  refine RS.call E24 (aliveW _ _ K0) rfl (fun v91 w91 x91 A91 => ?_)
                  replace hE := Ext.tr hE x91
                  replace K0 := K0.ext x91
                  replace D0 := D0.ext x91
                  replace B2 := B2.ext x91
                  replace RG := RG.ext x91
                  replace B11 := B11.ext x91
                  replace ON := ON.ext x91
                  have zw91 := x91.size
                  subst A91
                  refine RS.norm (by dsimp only [List.set]) ?_
                  refine RS.nil ⟨x91, ?_⟩
                  refine RX.pick (v := .bool _) rfl rfl ?_
                  refine RX.assign (v := .bool _) rfl ?_
                  refine RX.nil ?_
                  refine hK85 _ _ ?_
                  try clear hK85
                  refine wp_ret ?_
                  refine ret (rs := [.tmp 4]) (vs := [.bool _]) (v := (.bool _)) rfl ⟨rfl, trivial⟩ rfl ?_
                  exact ⟨_, rfl, hE, rfl⟩
                · refine RX.norm (by dsimp only [List.set]) ?_
                  exact absurd (S.ver_fit hF) c90
              · refine RX.norm (by dsimp only [List.set]) ?_
                exact absurd rfl c87
        · refine RS.norm (by dsimp only [List.set]) ?_
          refine RS.skipB (b := false) 79 rfl rfl rfl rfl ?_
          refine RS.norm (by dsimp only [putL, List.set]) ?_
          refine RS.skipB (b := false) 79 rfl rfl rfl rfl ?_
          refine RS.norm (by dsimp only [putL, List.set]) ?_
          refine RS.pick (v := .bool false) rfl rfl ?_
          refine RS.move (v := .bool _) rfl ?_
          refine RS.skipB (b := false) 83 rfl rfl rfl rfl ?_
          refine RS.norm (by dsimp only [putL, List.set]) ?_
          refine RS.skipB (b := false) 83 rfl rfl rfl rfl ?_
          refine RS.norm (by dsimp only [putL, List.set]) ?_
          refine RS.pick (v := .bool false) rfl rfl ?_
          refine RS.nil ?_
          refine hK49 _ _ ?_
          try clear hK49
          refine C.iff rfl ?_
          refine wp_skip ?_
          refine hK15 _ _ ?_
          try clear hK15
          refine wp_seq_k (fun K92 hK92 => ?_)
          refine wp_seq_k (fun K93 hK93 => ?_)
          refine region ?_
          refine RS.o (D.loadAgg rfl Tryd.underlying32 rfl C32 (by decide) rfl (B2.cellsN 11 rfl)) ?_
          refine RS.call E29 (fitW o hr _ _ _ D0 hc) rfl (fun v94 w94 x94 A94 => ?_)
          replace hE := Ext.tr hE x94
          replace K0 := K0.ext x94
          replace D0 := D0.ext x94
          replace B2 := B2.ext x94
          replace RG := RG.ext x94
          replace B11 := B11.ext x94
          have zw94 := x94.size
          subst A94
          refine RS.norm (by dsimp only [List.set]) ?_
          refine RS.o (D.not rfl) ?_
          refine RS.nil ?_
          refine hK93 _ _ ?_
          try clear hK93
          refine C.ifnot rfl (fun c95 => ?_) (fun c95 => ?_)
          · have hF := of_decide_eq_false c95
            have hv := S.ver_not hF hG
            refine wp_seq_k (fun K96 hK96 => ?_)
            refine region ?_
            refine RS.o (D.loadAgg rfl Tryd.underlying32 rfl C32 (by decide) rfl (B2.cellsN 11 rfl)) ?_
            refine RS.call E27 (verifyO o ho _ _ _ _ K0 D0 hc) rfl (fun v97 w97 x97 A97 => ?_)
            replace hE := Ext.tr hE x97
            replace K0 := K0.ext x97
            replace D0 := D0.ext x97
            replace B2 := B2.ext x97
            replace RG := RG.ext x97
            replace B11 := B11.ext x97
            have zw97 := x97.size
            subst A97
            refine RS.norm (by dsimp only [List.set]) ?_
            refine RS.o (D.ne rfl rfl) ?_
            refine RS.move (v := .bool _) rfl ?_
            refine RS.splitn 93 rfl rfl (fun c98 => ?_) (fun c98 => ?_)
            · refine RS.norm (by dsimp only [List.set]) ?_
              refine RS.wantB 93 rfl rfl rfl ?_
              refine RS.o (D.loadAgg rfl Tryd.underlying32 rfl C32 (by decide) rfl (B2.cellsN 11 rfl)) ?_
              refine RS.wantB 93 rfl rfl rfl ?_
              refine RS.call E27 (verifyO o ho _ _ _ _ K0 D0 hc) rfl (fun v99 w99 x99 A99 => ?_)
              replace hE := Ext.tr hE x99
              replace K0 := K0.ext x99
              replace D0 := D0.ext x99
              replace B2 := B2.ext x99
              replace RG := RG.ext x99
              replace B11 := B11.ext x99
              have zw99 := x99.size
              subst A99
              refine RS.norm (by dsimp only [List.set]) ?_
              refine RS.wantB 93 rfl rfl rfl ?_
              refine RS.o (D.ne rfl rfl) ?_
              refine RS.pick (v := .bool _) rfl rfl ?_
              refine RS.move (v := .bool _) rfl ?_
              refine RS.splitn 98 rfl rfl (fun c100 => ?_) (fun c100 => ?_)
              · refine RS.norm (by dsimp only [List.set]) ?_
                refine RS.wantB 98 rfl rfl rfl ?_
                refine RS.call E24 (aliveW _ _ K0) rfl (fun v101 w101 x101 A101 => ?_)
                replace hE := Ext.tr hE x101
                replace K0 := K0.ext x101
                replace D0 := D0.ext x101
                replace B2 := B2.ext x101
                replace RG := RG.ext x101
                replace B11 := B11.ext x101
                have zw101 := x101.size
                subst A101
                refine RS.norm (by dsimp only [List.set]) ?_
                refine RS.pick (v := .bool _) rfl rfl ?_
                refine RS.assign (v := .bool _) rfl ?_
                refine RS.nil ?_
                refine hK96 _ _ ?_
                try clear hK96
                refine wp_ret ?_
                refine ret (rs := [.tmp 4]) (vs := [.bool _]) (v := (.bool _)) rfl ⟨rfl, trivial⟩ rfl ?_
                exact ⟨_, rfl, hE, rfl⟩
              · refine RS.norm (by dsimp only [List.set]) ?_
                exact absurd c100 hv.2
            · refine RS.norm (by dsimp only [List.set]) ?_
              exact absurd c98 hv.1
          · have hF := of_decide_eq_true c95
            refine wp_skip ?_
            refine hK92 _ _ ?_
            try clear hK92
            refine wp_seq_k (fun K102 hK102 => ?_)
            refine region ?_
            refine RS.o (D.loadAgg rfl Tryd.underlying32 rfl C32 (by decide) rfl (B2.cellsN 11 rfl)) ?_
            refine RS.call E12 (messageO o ho _ _ _ D0 hc) rfl (fun v103 w103 x103 A103 => ?_)
            replace hE := Ext.tr hE x103
            replace K0 := K0.ext x103
            replace D0 := D0.ext x103
            replace B2 := B2.ext x103
            replace RG := RG.ext x103
            replace B11 := B11.ext x103
            have zw103 := x103.size
            obtain ⟨a103, n103, c103, xs, rfl, ON, hxs⟩ := A103
            rw [if_pos (S.check_bare hF.2)] at hxs
            rw [(S.check_bare hF.2)]
            subst hxs
            have hON := ON.lo
            refine RS.norm (by dsimp only [List.set]) ?_
            refine RS.move (v := .tuple _) rfl ?_
            refine RS.extract (v := .slice _ _ _) rfl rfl ?_
            refine RS.extract (v := .int _ _) rfl rfl ?_
            refine RS.assign (v := .slice _ _ _) rfl ?_
            refine RS.assign (v := .int _ _) rfl ?_
            refine RS.nil ?_
            refine hK102 _ _ ?_
            try clear hK102
            refine wp_seq_k (fun K104 hK104 => ?_)
            refine regionX Ext [(0, .q), (1, .q), (2, .q), (3, .q), (5, .q), (6, .q), (7, .q), (8, .q), (9, .q), (4, .e), (10, .e), (11, .q), (12, .q), (13, .q), (14, .e), (15, .q), (16, .q)] mixed Ext.refl (fun h k => h.tr k) (by kernel_rfl) (fun w105 x105 => ?_)
            replace hE := Ext.tr hE x105
            replace K0 := K0.ext x105
            replace D0 := D0.ext x105
            replace B2 := B2.ext x105
            replace RG := RG.ext x105
            replace B11 := B11.ext x105
            replace ON := ON.ext x105
            have zw105 := x105.size
            refine RX.move (v := .int _ _) rfl ?_
            refine RX.o (fun w' hw => D.eq rfl rfl) ?_
            refine RX.move (v := .bool _) rfl ?_
            refine RX.splite 108 rfl rfl (fun c106 => ?_) (fun c106 => ?_)
            · refine RX.norm (by dsimp only [List.set]) ?_
              refine RX.wantB 108 rfl rfl rfl ?_
              refine RX.o (fun w' hw => D.loadAgg rfl Tryd.underlying32 rfl C32 (by decide) rfl ((B2.ext hw).cellsN 11 rfl)) ?_
              refine RX.wantB 108 rfl rfl rfl ?_
              refine RX.o (fun w' hw => D.fieldL 0 rfl Tryd.underlying32 rfl C22 (by decide) rfl) ?_
              refine RX.wantB 108 rfl rfl rfl ?_
              refine RX.o (fun w' hw => D.load rfl Tryd.underlying22 rfl ((B2.ext hw).cell rfl)) ?_
              refine RX.wantB 108 rfl rfl rfl ?_
              refine RX.move (v := .slice _ _ _) rfl ?_
              refine RX.wantB 108 rfl rfl rfl ?_
              refine RX.o (fun w' hw => D.fieldL 9 rfl Tryd.underlying32 rfl C30 (by decide) rfl) ?_
              refine RX.wantB 108 rfl rfl rfl ?_
              refine RX.o (fun w' hw => D.loadAgg rfl Tryd.underlying30 rfl C30 (by decide) rfl ((B2.ext hw).cellsN 2 rfl)) ?_
              refine RX.wantB 108 rfl rfl rfl ?_
              refine RX.eff ?_
              refine RS.call E27 (verifyO o ho _ _ _ _ K0 D0 hc) rfl (fun v107 w107 x107 A107 => ?_)
              replace hE := Ext.tr hE x107
              replace K0 := K0.ext x107
              replace D0 := D0.ext x107
              replace B2 := B2.ext x107
              replace RG := RG.ext x107
              replace B11 := B11.ext x107
              replace ON := ON.ext x107
              have zw107 := x107.size
              subst A107
              refine RS.norm (by dsimp only [List.set]) ?_
              refine RS.nil ⟨x107, ?_⟩
              refine RX.wantB 108 rfl rfl rfl ?_
              refine RX.eff ?_
              refine RS.call E28 (verifyW _ ho.au _ _ ho.e ho.s _ _ _ _ _ _ K0 ON.row ON.own.pre) rfl (fun v108 w108 x108 A108 => ?_)
              replace hE := Ext.tr hE x108
              replace K0 := K0.ext x108
              replace D0 := D0.ext x108
              replace B2 := B2.ext x108
              replace RG := RG.ext x108
              replace B11 := B11.ext x108
              replace ON := ON.ext x108
              have zw108 := x108.size
              subst A108
              refine RS.norm (by dsimp only [List.set]) ?_
              refine RS.nil ⟨x108, ?_⟩
              refine RX.wantB 108 rfl rfl rfl ?_
              refine RX.o (fun w' hw => D.eq rfl rfl) ?_
              refine RX.pick (v := .bool _) rfl rfl ?_
              refine RX.move (v := .bool _) rfl ?_
              refine RX.splite 119 rfl rfl (fun c109 => ?_) (fun c109 => ?_)
              · refine RX.norm (by dsimp only [List.set]) ?_
                refine RX.wantB 119 rfl rfl rfl ?_
                refine RX.eff ?_
                refine RS.call E24 (aliveW _ _ K0) rfl (fun v110 w110 x110 A110 => ?_)
                replace hE := Ext.tr hE x110
                replace K0 := K0.ext x110
                replace D0 := D0.ext x110
                replace B2 := B2.ext x110
                replace RG := RG.ext x110
                replace B11 := B11.ext x110
                replace ON := ON.ext x110
                have zw110 := x110.size
                subst A110
                refine RS.norm (by dsimp only [List.set]) ?_
                refine RS.nil ⟨x110, ?_⟩
                refine RX.pick (v := .bool _) rfl rfl ?_
                refine RX.assign (v := .bool _) rfl ?_
                refine RX.nil ?_
                refine hK104 _ _ ?_
                try clear hK104
                refine wp_ret ?_
                refine ret (rs := [.tmp 4]) (vs := [.bool _]) (v := (.bool _)) rfl ⟨rfl, trivial⟩ rfl ?_
                exact ⟨_, rfl, hE, rfl⟩
              · refine RX.norm (by dsimp only [List.set]) ?_
                exact absurd (S.ver_fit hF) c109
            · refine RX.norm (by dsimp only [List.set]) ?_
              exact absurd rfl c106
      · refine RS.norm (by dsimp only [List.set]) ?_
        refine RS.skipB (b := false) 75 rfl rfl rfl rfl ?_
        refine RS.norm (by dsimp only [putL, List.set]) ?_
        refine RS.skipB (b := false) 75 rfl rfl rfl rfl ?_
        refine RS.norm (by dsimp only [putL, List.set]) ?_
        refine RS.pick (v := .bool false) rfl rfl ?_
        refine RS.move (v := .bool _) rfl ?_
        refine RS.skipB (b := false) 79 rfl rfl rfl rfl ?_
        refine RS.norm (by dsimp only [putL, List.set]) ?_
        refine RS.skipB (b := false) 79 rfl rfl rfl rfl ?_
        refine RS.norm (by dsimp only [putL, List.set]) ?_
        refine RS.pick (v := .bool false) rfl rfl ?_
        refine RS.move (v := .bool _) rfl ?_
        refine RS.skipB (b := false) 83 rfl rfl rfl rfl ?_
        refine RS.norm (by dsimp only [putL, List.set]) ?_
        refine RS.skipB (b := false) 83 rfl rfl rfl rfl ?_
        refine RS.norm (by dsimp only [putL, List.set]) ?_
        refine RS.pick (v := .bool false) rfl rfl ?_
        refine RS.nil ?_
        refine hK49 _ _ ?_
        try clear hK49
        refine C.iff rfl ?_
        refine wp_skip ?_
        refine hK15 _ _ ?_
        try clear hK15
        refine wp_seq_k (fun K111 hK111 => ?_)
        refine wp_seq_k (fun K112 hK112 => ?_)
        refine region ?_
        refine RS.o (D.loadAgg rfl Tryd.underlying32 rfl C32 (by decide) rfl (B2.cellsN 11 rfl)) ?_
        refine RS.call E29 (fitW o hr _ _ _ D0 hc) rfl (fun v113 w113 x113 A113 => ?_)
        replace hE := Ext.tr hE x113
        replace K0 := K0.ext x113
        replace D0 := D0.ext x113
        replace B2 := B2.ext x113
        replace RG := RG.ext x113
        replace B11 := B11.ext x113
        have zw113 := x113.size
        subst A113
        refine RS.norm (by dsimp only [List.set]) ?_
        refine RS.o (D.not rfl) ?_
        refine RS.nil ?_
        refine hK112 _ _ ?_
        try clear hK112
        refine C.ifnot rfl (fun c114 => ?_) (fun c114 => ?_)
        · have hF := of_decide_eq_false c114
          have hv := S.ver_not hF hG
          refine wp_seq_k (fun K115 hK115 => ?_)
          refine region ?_
          refine RS.o (D.loadAgg rfl Tryd.underlying32 rfl C32 (by decide) rfl (B2.cellsN 11 rfl)) ?_
          refine RS.call E27 (verifyO o ho _ _ _ _ K0 D0 hc) rfl (fun v116 w116 x116 A116 => ?_)
          replace hE := Ext.tr hE x116
          replace K0 := K0.ext x116
          replace D0 := D0.ext x116
          replace B2 := B2.ext x116
          replace RG := RG.ext x116
          replace B11 := B11.ext x116
          have zw116 := x116.size
          subst A116
          refine RS.norm (by dsimp only [List.set]) ?_
          refine RS.o (D.ne rfl rfl) ?_
          refine RS.move (v := .bool _) rfl ?_
          refine RS.splitn 93 rfl rfl (fun c117 => ?_) (fun c117 => ?_)
          · refine RS.norm (by dsimp only [List.set]) ?_
            refine RS.wantB 93 rfl rfl rfl ?_
            refine RS.o (D.loadAgg rfl Tryd.underlying32 rfl C32 (by decide) rfl (B2.cellsN 11 rfl)) ?_
            refine RS.wantB 93 rfl rfl rfl ?_
            refine RS.call E27 (verifyO o ho _ _ _ _ K0 D0 hc) rfl (fun v118 w118 x118 A118 => ?_)
            replace hE := Ext.tr hE x118
            replace K0 := K0.ext x118
            replace D0 := D0.ext x118
            replace B2 := B2.ext x118
            replace RG := RG.ext x118
            replace B11 := B11.ext x118
            have zw118 := x118.size
            subst A118
            refine RS.norm (by dsimp only [List.set]) ?_
            refine RS.wantB 93 rfl rfl rfl ?_
            refine RS.o (D.ne rfl rfl) ?_
            refine RS.pick (v := .bool _) rfl rfl ?_
            refine RS.move (v := .bool _) rfl ?_
            refine RS.splitn 98 rfl rfl (fun c119 => ?_) (fun c119 => ?_)
            · refine RS.norm (by dsimp only [List.set]) ?_
              refine RS.wantB 98 rfl rfl rfl ?_
              refine RS.call E24 (aliveW _ _ K0) rfl (fun v120 w120 x120 A120 => ?_)
              replace hE := Ext.tr hE x120
              replace K0 := K0.ext x120
              replace D0 := D0.ext x120
              replace B2 := B2.ext x120
              replace RG := RG.ext x120
              replace B11 := B11.ext x120
              have zw120 := x120.size
              subst A120
              refine RS.norm (by dsimp only [List.set]) ?_
              refine RS.pick (v := .bool _) rfl rfl ?_
              refine RS.assign (v := .bool _) rfl ?_
              refine RS.nil ?_
              refine hK115 _ _ ?_
              try clear hK115
              refine wp_ret ?_
              refine ret (rs := [.tmp 4]) (vs := [.bool _]) (v := (.bool _)) rfl ⟨rfl, trivial⟩ rfl ?_
              exact ⟨_, rfl, hE, rfl⟩
            · refine RS.norm (by dsimp only [List.set]) ?_
              exact absurd c119 hv.2
          · refine RS.norm (by dsimp only [List.set]) ?_
            exact absurd c117 hv.1
        · have hF := of_decide_eq_true c114
          refine wp_skip ?_
          refine hK111 _ _ ?_
          try clear hK111
          refine wp_seq_k (fun K121 hK121 => ?_)
          refine region ?_
          refine RS.o (D.loadAgg rfl Tryd.underlying32 rfl C32 (by decide) rfl (B2.cellsN 11 rfl)) ?_
          refine RS.call E12 (messageO o ho _ _ _ D0 hc) rfl (fun v122 w122 x122 A122 => ?_)
          replace hE := Ext.tr hE x122
          replace K0 := K0.ext x122
          replace D0 := D0.ext x122
          replace B2 := B2.ext x122
          replace RG := RG.ext x122
          replace B11 := B11.ext x122
          have zw122 := x122.size
          obtain ⟨a122, n122, c122, xs, rfl, ON, hxs⟩ := A122
          rw [if_pos (S.check_bare hF.2)] at hxs
          rw [(S.check_bare hF.2)]
          subst hxs
          have hON := ON.lo
          refine RS.norm (by dsimp only [List.set]) ?_
          refine RS.move (v := .tuple _) rfl ?_
          refine RS.extract (v := .slice _ _ _) rfl rfl ?_
          refine RS.extract (v := .int _ _) rfl rfl ?_
          refine RS.assign (v := .slice _ _ _) rfl ?_
          refine RS.assign (v := .int _ _) rfl ?_
          refine RS.nil ?_
          refine hK121 _ _ ?_
          try clear hK121
          refine wp_seq_k (fun K123 hK123 => ?_)
          refine regionX Ext [(0, .q), (1, .q), (2, .q), (3, .q), (5, .q), (6, .q), (7, .q), (8, .q), (9, .q), (4, .e), (10, .e), (11, .q), (12, .q), (13, .q), (14, .e), (15, .q), (16, .q)] mixed Ext.refl (fun h k => h.tr k) (by kernel_rfl) (fun w124 x124 => ?_)
          replace hE := Ext.tr hE x124
          replace K0 := K0.ext x124
          replace D0 := D0.ext x124
          replace B2 := B2.ext x124
          replace RG := RG.ext x124
          replace B11 := B11.ext x124
          replace ON := ON.ext x124
          have zw124 := x124.size
          refine RX.move (v := .int _ _) rfl ?_
          refine RX.o (fun w' hw => D.eq rfl rfl) ?_
          refine RX.move (v := .bool _) rfl ?_
          refine RX.splite 108 rfl rfl (fun c125 => ?_) (fun c125 => ?_)
          · refine RX.norm (by dsimp only [List.set]) ?_
            refine RX.wantB 108 rfl rfl rfl ?_
            refine RX.o (fun w' hw => D.loadAgg rfl Tryd.underlying32 rfl C32 (by decide) rfl ((B2.ext hw).cellsN 11 rfl)) ?_
            refine RX.wantB 108 rfl rfl rfl ?_
            refine RX.o (fun w' hw => D.fieldL 0 rfl Tryd.underlying32 rfl C22 (by decide) rfl) ?_
            refine RX.wantB 108 rfl rfl rfl ?_
            refine RX.o (fun w' hw => D.load rfl Tryd.underlying22 rfl ((B2.ext hw).cell rfl)) ?_
            refine RX.wantB 108 rfl rfl rfl ?_
            refine RX.move (v := .slice _ _ _) rfl ?_
            refine RX.wantB 108 rfl rfl rfl ?_
            refine RX.o (fun w' hw => D.fieldL 9 rfl Tryd.underlying32 rfl C30 (by decide) rfl) ?_
            refine RX.wantB 108 rfl rfl rfl ?_
            refine RX.o (fun w' hw => D.loadAgg rfl Tryd.underlying30 rfl C30 (by decide) rfl ((B2.ext hw).cellsN 2 rfl)) ?_
            refine RX.wantB 108 rfl rfl rfl ?_
            refine RX.eff ?_
            refine RS.call E27 (verifyO o ho _ _ _ _ K0 D0 hc) rfl (fun v126 w126 x126 A126 => ?_)
            replace hE := Ext.tr hE x126
            replace K0 := K0.ext x126
            replace D0 := D0.ext x126
            replace B2 := B2.ext x126
            replace RG := RG.ext x126
            replace B11 := B11.ext x126
            replace ON := ON.ext x126
            have zw126 := x126.size
            subst A126
            refine RS.norm (by dsimp only [List.set]) ?_
            refine RS.nil ⟨x126, ?_⟩
            refine RX.wantB 108 rfl rfl rfl ?_
            refine RX.eff ?_
            refine RS.call E28 (verifyW _ ho.au _ _ ho.e ho.s _ _ _ _ _ _ K0 ON.row ON.own.pre) rfl (fun v127 w127 x127 A127 => ?_)
            replace hE := Ext.tr hE x127
            replace K0 := K0.ext x127
            replace D0 := D0.ext x127
            replace B2 := B2.ext x127
            replace RG := RG.ext x127
            replace B11 := B11.ext x127
            replace ON := ON.ext x127
            have zw127 := x127.size
            subst A127
            refine RS.norm (by dsimp only [List.set]) ?_
            refine RS.nil ⟨x127, ?_⟩
            refine RX.wantB 108 rfl rfl rfl ?_
            refine RX.o (fun w' hw => D.eq rfl rfl) ?_
            refine RX.pick (v := .bool _) rfl rfl ?_
            refine RX.move (v := .bool _) rfl ?_
            refine RX.splite 119 rfl rfl (fun c128 => ?_) (fun c128 => ?_)
            · refine RX.norm (by dsimp only [List.set]) ?_
              refine RX.wantB 119 rfl rfl rfl ?_
              refine RX.eff ?_
              refine RS.call E24 (aliveW _ _ K0) rfl (fun v129 w129 x129 A129 => ?_)
              replace hE := Ext.tr hE x129
              replace K0 := K0.ext x129
              replace D0 := D0.ext x129
              replace B2 := B2.ext x129
              replace RG := RG.ext x129
              replace B11 := B11.ext x129
              replace ON := ON.ext x129
              have zw129 := x129.size
              subst A129
              refine RS.norm (by dsimp only [List.set]) ?_
              refine RS.nil ⟨x129, ?_⟩
              refine RX.pick (v := .bool _) rfl rfl ?_
              refine RX.assign (v := .bool _) rfl ?_
              refine RX.nil ?_
              refine hK123 _ _ ?_
              try clear hK123
              refine wp_ret ?_
              refine ret (rs := [.tmp 4]) (vs := [.bool _]) (v := (.bool _)) rfl ⟨rfl, trivial⟩ rfl ?_
              exact ⟨_, rfl, hE, rfl⟩
            · refine RX.norm (by dsimp only [List.set]) ?_
              exact absurd (S.ver_fit hF) c128
          · refine RX.norm (by dsimp only [List.set]) ?_
            exact absurd rfl c125

end Go.Proofs.YtiohpiiiapjblaaDoor.W
