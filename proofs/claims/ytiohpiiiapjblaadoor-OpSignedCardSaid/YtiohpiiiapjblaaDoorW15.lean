/-
  W15: walks of functions, printed by gen.py from the annotations ann15.py.
-/
import Derived.Test.YtiohpiiiapjblaaDoorW14

namespace Go.Proofs.YtiohpiiiapjblaaDoor.W
open Go.RowKit Go.Proofs.YtiohpiiiapjblaaDoor.G
set_option linter.unusedVariables false
set_option maxRecDepth 20000
set_option maxHeartbeats 8000000
attribute [local irreducible] RS RX

theorem C32 : Tryd.prog.cellsOf 32 = 11 := by kernel_rfl
theorem T30 : TI Tryd.prog 30 2 8 [.int .u32 0, .int .u32 0] := by
  have h : (Tryd.prog.info? 30).map (fun i => (i.size, i.bytes, i.zero)) = some (2, 8, some (.agg #[.int .u32 0, .int .u32 0])) := by kernel_rfl
  exact TI.of h rfl
theorem T32 : TI Tryd.prog 32 11 112 [.int .u32 0, .slice none 0 0, .int .u64 0, .int .u8 0, .string .empty, .int .u8 0, .int .i64 0, .int .u64 0, .string .empty, .int .u32 0, .int .u32 0] := by
  have h : (Tryd.prog.info? 32).map (fun i => (i.size, i.bytes, i.zero)) = some (11, 112, some (.agg #[.int .u32 0, .slice none 0 0, .int .u64 0, .int .u8 0, .string .empty, .int .u8 0, .int .i64 0, .int .u64 0, .string .empty, .int .u32 0, .int .u32 0])) := by kernel_rfl
  exact TI.of h rfl
theorem F30 : SI Tryd.prog 30 [(0, 1), (1, 1)] := ⟨_, Tryd.underlying30, by kernel_rfl, by kernel_rfl⟩
theorem E19 : Enters Tryd.prog 19 := .mk Tryd.func19 (by kernel_rfl) rfl
theorem E60 : Enters Tryd.prog 60 := .mk Tryd.func60 (by kernel_rfl) rfl
theorem E61 : Enters Tryd.prog 61 := .mk Tryd.func61 (by kernel_rfl) rfl
theorem E62 : Enters Tryd.prog 62 := .mk Tryd.func62 (by kernel_rfl) rfl
theorem E63 : Enters Tryd.prog 63 := .mk Tryd.func63 (by kernel_rfl) rfl
theorem checkOR {S0 : Nat → Prop} (o : S.OpV) (ho : o.ok) (pa : Option Addr) (pc : Nat) (w : World) (D0 : WRow .u8 32 S0 w pa o.n o.ids) (hc : o.n ≤ pc) :
    Calls Tryd.prog 21 #[.agg ([.int .u32 o.au, .slice pa o.n pc, .int .u64 o.st, .int .u8 o.k, .string o.key, .int .u8 o.vk, .int .i64 o.num, .int .u64 o.bits, .string o.t, .int .u32 o.e, .int .u32 o.s] : List Value).toArray] w (Ret w fun v _ => v = .int .i64 (S.checkE o)) := by
  replace D0 := D0.weaken (T := fun k => k < w.heap.size) (fun k hk _ => hk)
  have o1 := ho.au
  have o2 := ho.st
  have o3 := ho.k
  have o4 := ho.vk
  have o5 := ho.num
  have o6 := ho.bits
  have o7 := ho.e
  have o8 := ho.s
  have o9 := ho.n
  have o10 := ho.key
  have o11 := ho.t
  have hE := Ext.refl w
  refine enter (args := [.agg ([.int .u32 o.au, .slice pa o.n pc, .int .u64 o.st, .int .u8 o.k, .string o.key, .int .u8 o.vk, .int .i64 o.num, .int .u64 o.bits, .string o.t, .int .u32 o.e, .int .u32 o.s] : List Value).toArray]) (l := [.agg ([.int .u32 o.au, .slice pa o.n pc, .int .u64 o.st, .int .u8 o.k, .string o.key, .int .u8 o.vk, .int .i64 o.num, .int .u64 o.bits, .string o.t, .int .u32 o.e, .int .u32 o.s] : List Value).toArray, undef, undef, undef, undef, undef, undef, undef, undef, undef, undef, undef, undef, undef, undef, undef, undef, undef, undef, undef, undef, undef, undef, undef, undef, undef, undef, undef, undef, undef, undef, undef, undef, undef, undef, undef, undef, undef, undef, undef]) Tryd.func21 rfl rfl ?_
  refine wp_seq_k (fun K1 hK1 => ?_)
  refine region ?_
  refine RS.box rfl rfl (fun b2 w2 e2 s2 x2 B2 => ?_)
  refine RS.norm (by dsimp only [List.set]) ?_
  replace hE := Ext.tr hE x2
  replace D0 := D0.ext x2
  have zw2 := x2.size
  refine RS.assign (v := .int .i64 0) rfl ?_
  refine RS.nil ?_
  refine hK1 _ _ ?_
  try clear hK1
  refine wp_seq_k (fun K3 hK3 => ?_)
  refine wp_seq_k (fun K4 hK4 => ?_)
  refine region ?_
  refine RS.o (D.fieldL 1 rfl Tryd.underlying32 rfl C23 (by decide) rfl) ?_
  refine RS.o (D.load rfl Tryd.underlying23 rfl (B2.cell rfl)) ?_
  refine RS.o (D.len rfl Tryd.underlying23) ?_
  refine RS.o (D.gt rfl rfl) ?_
  refine RS.nil ?_
  refine hK4 _ _ ?_
  try clear hK4
  refine C.ifd rfl (fun c5 => ?_) (fun c5 => ?_)
  · have h4 := c5
    refine wp_seq_k (fun K6 hK6 => ?_)
    refine region ?_
    refine RS.assign (v := .int .i64 4) rfl ?_
    refine RS.nil ?_
    refine hK6 _ _ ?_
    try clear hK6
    refine wp_ret ?_
    refine ret (rs := [.tmp 2]) (vs := [.int _ _]) (v := (.int _ _)) rfl ⟨rfl, trivial⟩ rfl ?_
    refine ⟨_, rfl, hE, congrArg (Value.int .i64) ?_⟩
    exact S.check4 (by omega)
  · have h4 := c5
    refine wp_skip ?_
    refine hK3 _ _ ?_
    try clear hK3
    refine wp_seq_k (fun K7 hK7 => ?_)
    refine wp_seq_k (fun K8 hK8 => ?_)
    refine region ?_
    refine RS.o (D.fieldL 1 rfl Tryd.underlying32 rfl C23 (by decide) rfl) ?_
    refine RS.o (D.load rfl Tryd.underlying23 rfl (B2.cell rfl)) ?_
    refine RS.call E60 (risingR _ _ _ _ _ D0 hc (by omega)) rfl (fun v9 w9 x9 A9 => ?_)
    replace hE := Ext.tr hE x9
    replace D0 := D0.ext x9
    replace B2 := B2.ext x9
    have zw9 := x9.size
    subst A9
    refine RS.norm (by dsimp only [List.set]) ?_
    refine RS.o (D.not rfl) ?_
    refine RS.nil ?_
    refine hK8 _ _ ?_
    try clear hK8
    refine C.ifnot rfl (fun c10 => ?_) (fun c10 => ?_)
    · have hri := of_decide_eq_false c10
      refine wp_seq_k (fun K11 hK11 => ?_)
      refine region ?_
      refine RS.assign (v := .int .i64 32) rfl ?_
      refine RS.nil ?_
      refine hK11 _ _ ?_
      try clear hK11
      refine wp_ret ?_
      refine ret (rs := [.tmp 2]) (vs := [.int _ _]) (v := (.int _ _)) rfl ⟨rfl, trivial⟩ rfl ?_
      refine ⟨_, rfl, hE, congrArg (Value.int .i64) ?_⟩
      exact S.check32 (by omega) hri
    · have hri := of_decide_eq_true c10
      refine wp_skip ?_
      refine hK7 _ _ ?_
      try clear hK7
      refine wp_seq_k (fun K12 hK12 => ?_)
      refine wp_seq_k (fun K13 hK13 => ?_)
      refine region ?_
      refine RS.o (D.fieldL 0 rfl Tryd.underlying32 rfl C22 (by decide) rfl) ?_
      refine RS.o (D.load rfl Tryd.underlying22 rfl (B2.cell rfl)) ?_
      refine RS.call E61 (ref_Is _ (by omega) _) rfl (fun v14 w14 x14 A14 => ?_)
      replace hE := Ext.tr hE x14
      replace D0 := D0.ext x14
      replace B2 := B2.ext x14
      have zw14 := x14.size
      subst A14
      refine RS.norm (by dsimp only [List.set]) ?_
      refine RS.o (D.not rfl) ?_
      refine RS.move (v := .bool _) rfl ?_
      refine RS.splitnot 15 rfl rfl (fun c15 => ?_) (fun c15 => ?_)
      · refine RS.norm (by dsimp only [List.set]) ?_
        have hG := c15
        refine RS.skipB (b := true) 15 rfl rfl rfl rfl ?_
        refine RS.norm (by dsimp only [putL, List.set]) ?_
        refine RS.skipB (b := true) 15 rfl rfl rfl rfl ?_
        refine RS.norm (by dsimp only [putL, List.set]) ?_
        refine RS.skipB (b := true) 15 rfl rfl rfl rfl ?_
        refine RS.norm (by dsimp only [putL, List.set]) ?_
        refine RS.pick (v := .bool true) rfl rfl ?_
        refine RS.move (v := .bool _) rfl ?_
        refine RS.skipB (b := true) 20 rfl rfl rfl rfl ?_
        refine RS.norm (by dsimp only [putL, List.set]) ?_
        refine RS.skipB (b := true) 20 rfl rfl rfl rfl ?_
        refine RS.norm (by dsimp only [putL, List.set]) ?_
        refine RS.skipB (b := true) 20 rfl rfl rfl rfl ?_
        refine RS.norm (by dsimp only [putL, List.set]) ?_
        refine RS.skipB (b := true) 20 rfl rfl rfl rfl ?_
        refine RS.norm (by dsimp only [putL, List.set]) ?_
        refine RS.pick (v := .bool true) rfl rfl ?_
        refine RS.move (v := .bool _) rfl ?_
        refine RS.skipB (b := true) 26 rfl rfl rfl rfl ?_
        refine RS.norm (by dsimp only [putL, List.set]) ?_
        refine RS.skipB (b := true) 26 rfl rfl rfl rfl ?_
        refine RS.norm (by dsimp only [putL, List.set]) ?_
        refine RS.skipB (b := true) 26 rfl rfl rfl rfl ?_
        refine RS.norm (by dsimp only [putL, List.set]) ?_
        refine RS.skipB (b := true) 26 rfl rfl rfl rfl ?_
        refine RS.norm (by dsimp only [putL, List.set]) ?_
        refine RS.skipB (b := true) 26 rfl rfl rfl rfl ?_
        refine RS.norm (by dsimp only [putL, List.set]) ?_
        refine RS.pick (v := .bool true) rfl rfl ?_
        refine RS.move (v := .bool _) rfl ?_
        refine RS.skipB (b := true) 33 rfl rfl rfl rfl ?_
        refine RS.norm (by dsimp only [putL, List.set]) ?_
        refine RS.skipB (b := true) 33 rfl rfl rfl rfl ?_
        refine RS.norm (by dsimp only [putL, List.set]) ?_
        refine RS.skipB (b := true) 33 rfl rfl rfl rfl ?_
        refine RS.norm (by dsimp only [putL, List.set]) ?_
        refine RS.skipB (b := true) 33 rfl rfl rfl rfl ?_
        refine RS.norm (by dsimp only [putL, List.set]) ?_
        refine RS.skipB (b := true) 33 rfl rfl rfl rfl ?_
        refine RS.norm (by dsimp only [putL, List.set]) ?_
        refine RS.pick (v := .bool true) rfl rfl ?_
        refine RS.nil ?_
        refine hK13 _ _ ?_
        try clear hK13
        refine C.ift rfl ?_
        refine wp_seq_k (fun K16 hK16 => ?_)
        refine region ?_
        refine RS.assign (v := .int .i64 8) rfl ?_
        refine RS.nil ?_
        refine hK16 _ _ ?_
        try clear hK16
        refine wp_ret ?_
        refine ret (rs := [.tmp 2]) (vs := [.int _ _]) (v := (.int _ _)) rfl ⟨rfl, trivial⟩ rfl ?_
        refine ⟨_, rfl, hE, congrArg (Value.int .i64) ?_⟩
        refine S.check8 (by omega) hri (fun h => ?_)
        have := h.1
        simp_all
      · refine RS.norm (by dsimp only [List.set]) ?_
        have hG := c15
        refine RS.wantB 15 rfl rfl rfl ?_
        refine RS.o (D.fieldL 2 rfl Tryd.underlying32 rfl C24 (by decide) rfl) ?_
        refine RS.wantB 15 rfl rfl rfl ?_
        refine RS.o (D.load rfl Tryd.underlying24 rfl (B2.cell rfl)) ?_
        refine RS.wantB 15 rfl rfl rfl ?_
        refine RS.o (D.gt rfl rfl) ?_
        refine RS.pick (v := .bool _) rfl rfl ?_
        refine RS.move (v := .bool _) rfl ?_
        refine RS.splitd 20 rfl rfl (fun c17 => ?_) (fun c17 => ?_)
        · refine RS.norm (by dsimp only [List.set]) ?_
          have hS := c17
          refine RS.skipB (b := true) 20 rfl rfl rfl rfl ?_
          refine RS.norm (by dsimp only [putL, List.set]) ?_
          refine RS.skipB (b := true) 20 rfl rfl rfl rfl ?_
          refine RS.norm (by dsimp only [putL, List.set]) ?_
          refine RS.skipB (b := true) 20 rfl rfl rfl rfl ?_
          refine RS.norm (by dsimp only [putL, List.set]) ?_
          refine RS.skipB (b := true) 20 rfl rfl rfl rfl ?_
          refine RS.norm (by dsimp only [putL, List.set]) ?_
          refine RS.pick (v := .bool true) rfl rfl ?_
          refine RS.move (v := .bool _) rfl ?_
          refine RS.skipB (b := true) 26 rfl rfl rfl rfl ?_
          refine RS.norm (by dsimp only [putL, List.set]) ?_
          refine RS.skipB (b := true) 26 rfl rfl rfl rfl ?_
          refine RS.norm (by dsimp only [putL, List.set]) ?_
          refine RS.skipB (b := true) 26 rfl rfl rfl rfl ?_
          refine RS.norm (by dsimp only [putL, List.set]) ?_
          refine RS.skipB (b := true) 26 rfl rfl rfl rfl ?_
          refine RS.norm (by dsimp only [putL, List.set]) ?_
          refine RS.skipB (b := true) 26 rfl rfl rfl rfl ?_
          refine RS.norm (by dsimp only [putL, List.set]) ?_
          refine RS.pick (v := .bool true) rfl rfl ?_
          refine RS.move (v := .bool _) rfl ?_
          refine RS.skipB (b := true) 33 rfl rfl rfl rfl ?_
          refine RS.norm (by dsimp only [putL, List.set]) ?_
          refine RS.skipB (b := true) 33 rfl rfl rfl rfl ?_
          refine RS.norm (by dsimp only [putL, List.set]) ?_
          refine RS.skipB (b := true) 33 rfl rfl rfl rfl ?_
          refine RS.norm (by dsimp only [putL, List.set]) ?_
          refine RS.skipB (b := true) 33 rfl rfl rfl rfl ?_
          refine RS.norm (by dsimp only [putL, List.set]) ?_
          refine RS.skipB (b := true) 33 rfl rfl rfl rfl ?_
          refine RS.norm (by dsimp only [putL, List.set]) ?_
          refine RS.pick (v := .bool true) rfl rfl ?_
          refine RS.nil ?_
          refine hK13 _ _ ?_
          try clear hK13
          refine C.ift rfl ?_
          refine wp_seq_k (fun K18 hK18 => ?_)
          refine region ?_
          refine RS.assign (v := .int .i64 8) rfl ?_
          refine RS.nil ?_
          refine hK18 _ _ ?_
          try clear hK18
          refine wp_ret ?_
          refine ret (rs := [.tmp 2]) (vs := [.int _ _]) (v := (.int _ _)) rfl ⟨rfl, trivial⟩ rfl ?_
          refine ⟨_, rfl, hE, congrArg (Value.int .i64) ?_⟩
          refine S.check8 (by omega) hri (fun h => ?_)
          have := h.2.1
          omega
        · refine RS.norm (by dsimp only [List.set]) ?_
          have hS := c17
          refine RS.wantB 20 rfl rfl rfl ?_
          refine RS.o (D.fieldL 3 rfl Tryd.underlying32 rfl C28 (by decide) rfl) ?_
          refine RS.wantB 20 rfl rfl rfl ?_
          refine RS.o (D.loadAgg rfl Tryd.underlying28 rfl C28 (by decide) rfl (B2.cellsN 6 rfl)) ?_
          refine RS.wantB 20 rfl rfl rfl ?_
          refine RS.call E19 (checkActR _ _ _ _ _ _ o3 o4 o5 o6 (by omega) (by omega) _) rfl (fun v19 w19 x19 A19 => ?_)
          replace hE := Ext.tr hE x19
          replace D0 := D0.ext x19
          replace B2 := B2.ext x19
          have zw19 := x19.size
          subst A19
          refine RS.norm (by dsimp only [List.set]) ?_
          refine RS.wantB 20 rfl rfl rfl ?_
          refine RS.o (D.ne rfl rfl) ?_
          refine RS.pick (v := .bool _) rfl rfl ?_
          refine RS.move (v := .bool _) rfl ?_
          refine RS.splitn 26 rfl rfl (fun c20 => ?_) (fun c20 => ?_)
          · refine RS.norm (by dsimp only [List.set]) ?_
            have hA := c20
            refine RS.skipB (b := true) 26 rfl rfl rfl rfl ?_
            refine RS.norm (by dsimp only [putL, List.set]) ?_
            refine RS.skipB (b := true) 26 rfl rfl rfl rfl ?_
            refine RS.norm (by dsimp only [putL, List.set]) ?_
            refine RS.skipB (b := true) 26 rfl rfl rfl rfl ?_
            refine RS.norm (by dsimp only [putL, List.set]) ?_
            refine RS.skipB (b := true) 26 rfl rfl rfl rfl ?_
            refine RS.norm (by dsimp only [putL, List.set]) ?_
            refine RS.skipB (b := true) 26 rfl rfl rfl rfl ?_
            refine RS.norm (by dsimp only [putL, List.set]) ?_
            refine RS.pick (v := .bool true) rfl rfl ?_
            refine RS.move (v := .bool _) rfl ?_
            refine RS.skipB (b := true) 33 rfl rfl rfl rfl ?_
            refine RS.norm (by dsimp only [putL, List.set]) ?_
            refine RS.skipB (b := true) 33 rfl rfl rfl rfl ?_
            refine RS.norm (by dsimp only [putL, List.set]) ?_
            refine RS.skipB (b := true) 33 rfl rfl rfl rfl ?_
            refine RS.norm (by dsimp only [putL, List.set]) ?_
            refine RS.skipB (b := true) 33 rfl rfl rfl rfl ?_
            refine RS.norm (by dsimp only [putL, List.set]) ?_
            refine RS.skipB (b := true) 33 rfl rfl rfl rfl ?_
            refine RS.norm (by dsimp only [putL, List.set]) ?_
            refine RS.pick (v := .bool true) rfl rfl ?_
            refine RS.nil ?_
            refine hK13 _ _ ?_
            try clear hK13
            refine C.ift rfl ?_
            refine wp_seq_k (fun K21 hK21 => ?_)
            refine region ?_
            refine RS.assign (v := .int .i64 8) rfl ?_
            refine RS.nil ?_
            refine hK21 _ _ ?_
            try clear hK21
            refine wp_ret ?_
            refine ret (rs := [.tmp 2]) (vs := [.int _ _]) (v := (.int _ _)) rfl ⟨rfl, trivial⟩ rfl ?_
            refine ⟨_, rfl, hE, congrArg (Value.int .i64) ?_⟩
            refine S.check8 (by omega) hri (fun h => ?_)
            exact hA (S.actE_zero.2 h.2.2.2.2)
          · refine RS.norm (by dsimp only [List.set]) ?_
            have hA := c20
            refine RS.wantB 26 rfl rfl rfl ?_
            refine RS.o (D.fieldL 9 rfl Tryd.underlying32 rfl C30 (by decide) rfl) ?_
            refine RS.wantB 26 rfl rfl rfl ?_
            refine RS.o (D.fieldL 9 rfl Tryd.underlying30 rfl C22 (by decide) rfl) ?_
            refine RS.wantB 26 rfl rfl rfl ?_
            refine RS.o (D.load rfl Tryd.underlying22 rfl (B2.cell rfl)) ?_
            refine RS.wantB 26 rfl rfl rfl ?_
            refine RS.call E62 (ref_Exponent _ (by omega) _) rfl (fun v22 w22 x22 A22 => ?_)
            replace hE := Ext.tr hE x22
            replace D0 := D0.ext x22
            replace B2 := B2.ext x22
            have zw22 := x22.size
            subst A22
            refine RS.norm (by dsimp only [List.set]) ?_
            refine RS.wantB 26 rfl rfl rfl ?_
            refine RS.o (D.not rfl) ?_
            refine RS.pick (v := .bool _) rfl rfl ?_
            refine RS.move (v := .bool _) rfl ?_
            refine RS.splitnot 33 rfl rfl (fun c23 => ?_) (fun c23 => ?_)
            · refine RS.norm (by dsimp only [List.set]) ?_
              have hQ := of_decide_eq_false c23
              refine RS.skipB (b := true) 33 rfl rfl rfl rfl ?_
              refine RS.norm (by dsimp only [putL, List.set]) ?_
              refine RS.skipB (b := true) 33 rfl rfl rfl rfl ?_
              refine RS.norm (by dsimp only [putL, List.set]) ?_
              refine RS.skipB (b := true) 33 rfl rfl rfl rfl ?_
              refine RS.norm (by dsimp only [putL, List.set]) ?_
              refine RS.skipB (b := true) 33 rfl rfl rfl rfl ?_
              refine RS.norm (by dsimp only [putL, List.set]) ?_
              refine RS.skipB (b := true) 33 rfl rfl rfl rfl ?_
              refine RS.norm (by dsimp only [putL, List.set]) ?_
              refine RS.pick (v := .bool true) rfl rfl ?_
              refine RS.nil ?_
              refine hK13 _ _ ?_
              try clear hK13
              refine C.ift rfl ?_
              refine wp_seq_k (fun K24 hK24 => ?_)
              refine region ?_
              refine RS.assign (v := .int .i64 8) rfl ?_
              refine RS.nil ?_
              refine hK24 _ _ ?_
              try clear hK24
              refine wp_ret ?_
              refine ret (rs := [.tmp 2]) (vs := [.int _ _]) (v := (.int _ _)) rfl ⟨rfl, trivial⟩ rfl ?_
              refine ⟨_, rfl, hE, congrArg (Value.int .i64) ?_⟩
              refine S.check8 (by omega) hri (fun h => ?_)
              have := h.2.2.1
              omega
            · refine RS.norm (by dsimp only [List.set]) ?_
              have hQ := of_decide_eq_true c23
              refine RS.wantB 33 rfl rfl rfl ?_
              refine RS.o (D.fieldL 9 rfl Tryd.underlying32 rfl C30 (by decide) rfl) ?_
              refine RS.wantB 33 rfl rfl rfl ?_
              refine RS.o (D.fieldL 10 rfl Tryd.underlying30 rfl C22 (by decide) rfl) ?_
              refine RS.wantB 33 rfl rfl rfl ?_
              refine RS.o (D.load rfl Tryd.underlying22 rfl (B2.cell rfl)) ?_
              refine RS.wantB 33 rfl rfl rfl ?_
              refine RS.call E62 (ref_Exponent _ (by omega) _) rfl (fun v25 w25 x25 A25 => ?_)
              replace hE := Ext.tr hE x25
              replace D0 := D0.ext x25
              replace B2 := B2.ext x25
              have zw25 := x25.size
              subst A25
              refine RS.norm (by dsimp only [List.set]) ?_
              refine RS.wantB 33 rfl rfl rfl ?_
              refine RS.o (D.not rfl) ?_
              refine RS.pick (v := .bool _) rfl rfl ?_
              refine RS.nil ?_
              refine hK13 _ _ ?_
              try clear hK13
              refine C.ifnot rfl (fun c26 => ?_) (fun c26 => ?_)
              · try have hZ := of_decide_eq_false c26
                refine wp_seq_k (fun K27 hK27 => ?_)
                refine region ?_
                refine RS.assign (v := .int .i64 8) rfl ?_
                refine RS.nil ?_
                refine hK27 _ _ ?_
                try clear hK27
                refine wp_ret ?_
                refine ret (rs := [.tmp 2]) (vs := [.int _ _]) (v := (.int _ _)) rfl ⟨rfl, trivial⟩ rfl ?_
                refine ⟨_, rfl, hE, congrArg (Value.int .i64) ?_⟩
                refine S.check8 (by omega) hri (fun h => ?_)
                have := h.2.2.2.1
                omega
              · try have hZ := of_decide_eq_true c26
                refine wp_skip ?_
                refine hK12 _ _ ?_
                try clear hK12
                refine wp_seq_k (fun K28 hK28 => ?_)
                refine region ?_
                refine RS.assign (v := .int .i64 0) rfl ?_
                refine RS.nil ?_
                refine hK28 _ _ ?_
                try clear hK28
                refine wp_ret ?_
                refine ret (rs := [.tmp 2]) (vs := [.int _ _]) (v := (.int _ _)) rfl ⟨rfl, trivial⟩ rfl ?_
                refine ⟨_, rfl, hE, congrArg (Value.int .i64) ?_⟩
                exact S.check0 (by omega) hri ⟨by simpa using hG, by omega, hQ, hZ, S.actE_zero.1 hA⟩

theorem great (o : S.OpV) (pa : Option Addr) (pc : Nat) (w : World) :
    Calls Tryd.prog 10 #[.agg ([.int .u32 o.au, .slice pa o.n pc, .int .u64 o.st, .int .u8 o.k, .string o.key, .int .u8 o.vk, .int .i64 o.num, .int .u64 o.bits, .string o.t, .int .u32 o.e, .int .u32 o.s] : List Value).toArray] w (Ret w fun v _ => v = .bool (decide (20 < o.n ∨ 100 < o.key.size ∨ 100 < o.t.size))) := by
  have hE := Ext.refl w
  refine enter (args := [.agg ([.int .u32 o.au, .slice pa o.n pc, .int .u64 o.st, .int .u8 o.k, .string o.key, .int .u8 o.vk, .int .i64 o.num, .int .u64 o.bits, .string o.t, .int .u32 o.e, .int .u32 o.s] : List Value).toArray]) (l := [.agg ([.int .u32 o.au, .slice pa o.n pc, .int .u64 o.st, .int .u8 o.k, .string o.key, .int .u8 o.vk, .int .i64 o.num, .int .u64 o.bits, .string o.t, .int .u32 o.e, .int .u32 o.s] : List Value).toArray, undef, undef, undef, undef, undef, undef, undef, undef, undef, undef, undef, undef, undef, undef, undef, undef, undef, undef, undef, undef, undef]) Tryd.func10 rfl rfl ?_
  refine wp_seq_k (fun K1 hK1 => ?_)
  refine region ?_
  refine RS.box rfl rfl (fun b2 w2 e2 s2 x2 B2 => ?_)
  refine RS.norm (by dsimp only [List.set]) ?_
  replace hE := Ext.tr hE x2
  have zw2 := x2.size
  refine RS.assign (v := .bool false) rfl ?_
  refine RS.nil ?_
  refine hK1 _ _ ?_
  try clear hK1
  refine wp_seq_k (fun K3 hK3 => ?_)
  refine region ?_
  refine RS.o (D.fieldL 1 rfl Tryd.underlying32 rfl C23 (by decide) rfl) ?_
  refine RS.o (D.load rfl Tryd.underlying23 rfl (B2.cell rfl)) ?_
  refine RS.o (D.len rfl Tryd.underlying23) ?_
  refine RS.o (D.gt rfl rfl) ?_
  refine RS.move (v := .bool _) rfl ?_
  refine RS.splitd 7 rfl rfl (fun c4 => ?_) (fun c4 => ?_)
  · refine RS.norm (by dsimp only [List.set]) ?_
    refine RS.skipB (b := true) 7 rfl rfl rfl rfl ?_
    refine RS.norm (by dsimp only [putL, List.set]) ?_
    refine RS.skipB (b := true) 7 rfl rfl rfl rfl ?_
    refine RS.norm (by dsimp only [putL, List.set]) ?_
    refine RS.skipB (b := true) 7 rfl rfl rfl rfl ?_
    refine RS.norm (by dsimp only [putL, List.set]) ?_
    refine RS.skipB (b := true) 7 rfl rfl rfl rfl ?_
    refine RS.norm (by dsimp only [putL, List.set]) ?_
    refine RS.skipB (b := true) 7 rfl rfl rfl rfl ?_
    refine RS.norm (by dsimp only [putL, List.set]) ?_
    refine RS.pick (v := .bool true) rfl rfl ?_
    refine RS.move (v := .bool _) rfl ?_
    refine RS.skipB (b := true) 14 rfl rfl rfl rfl ?_
    refine RS.norm (by dsimp only [putL, List.set]) ?_
    refine RS.skipB (b := true) 14 rfl rfl rfl rfl ?_
    refine RS.norm (by dsimp only [putL, List.set]) ?_
    refine RS.skipB (b := true) 14 rfl rfl rfl rfl ?_
    refine RS.norm (by dsimp only [putL, List.set]) ?_
    refine RS.skipB (b := true) 14 rfl rfl rfl rfl ?_
    refine RS.norm (by dsimp only [putL, List.set]) ?_
    refine RS.skipB (b := true) 14 rfl rfl rfl rfl ?_
    refine RS.norm (by dsimp only [putL, List.set]) ?_
    refine RS.skipB (b := true) 14 rfl rfl rfl rfl ?_
    refine RS.norm (by dsimp only [putL, List.set]) ?_
    refine RS.pick (v := .bool true) rfl rfl ?_
    refine RS.assign (v := .bool _) rfl ?_
    refine RS.nil ?_
    refine hK3 _ _ ?_
    try clear hK3
    refine wp_ret ?_
    refine ret (rs := [.tmp 2]) (vs := [.bool _]) (v := (.bool _)) rfl ⟨rfl, trivial⟩ rfl ?_
    refine ⟨_, rfl, hE, congrArg Value.bool ?_⟩
    exact (decide_eq_true (by omega)).symm
  · refine RS.norm (by dsimp only [List.set]) ?_
    refine RS.wantB 7 rfl rfl rfl ?_
    refine RS.o (D.fieldL 3 rfl Tryd.underlying32 rfl C28 (by decide) rfl) ?_
    refine RS.wantB 7 rfl rfl rfl ?_
    refine RS.o (D.fieldL 4 rfl Tryd.underlying28 rfl C9 (by decide) rfl) ?_
    refine RS.wantB 7 rfl rfl rfl ?_
    refine RS.o (D.load rfl Tryd.underlying9 rfl (B2.cell rfl)) ?_
    refine RS.wantB 7 rfl rfl rfl ?_
    refine RS.o (D.lenStr rfl Tryd.underlying9) ?_
    refine RS.wantB 7 rfl rfl rfl ?_
    refine RS.o (D.gt rfl rfl) ?_
    refine RS.pick (v := .bool _) rfl rfl ?_
    refine RS.move (v := .bool _) rfl ?_
    refine RS.splitd 14 rfl rfl (fun c5 => ?_) (fun c5 => ?_)
    · refine RS.norm (by dsimp only [List.set]) ?_
      refine RS.skipB (b := true) 14 rfl rfl rfl rfl ?_
      refine RS.norm (by dsimp only [putL, List.set]) ?_
      refine RS.skipB (b := true) 14 rfl rfl rfl rfl ?_
      refine RS.norm (by dsimp only [putL, List.set]) ?_
      refine RS.skipB (b := true) 14 rfl rfl rfl rfl ?_
      refine RS.norm (by dsimp only [putL, List.set]) ?_
      refine RS.skipB (b := true) 14 rfl rfl rfl rfl ?_
      refine RS.norm (by dsimp only [putL, List.set]) ?_
      refine RS.skipB (b := true) 14 rfl rfl rfl rfl ?_
      refine RS.norm (by dsimp only [putL, List.set]) ?_
      refine RS.skipB (b := true) 14 rfl rfl rfl rfl ?_
      refine RS.norm (by dsimp only [putL, List.set]) ?_
      refine RS.pick (v := .bool true) rfl rfl ?_
      refine RS.assign (v := .bool _) rfl ?_
      refine RS.nil ?_
      refine hK3 _ _ ?_
      try clear hK3
      refine wp_ret ?_
      refine ret (rs := [.tmp 2]) (vs := [.bool _]) (v := (.bool _)) rfl ⟨rfl, trivial⟩ rfl ?_
      refine ⟨_, rfl, hE, congrArg Value.bool ?_⟩
      exact (decide_eq_true (by omega)).symm
    · refine RS.norm (by dsimp only [List.set]) ?_
      refine RS.wantB 14 rfl rfl rfl ?_
      refine RS.o (D.fieldL 3 rfl Tryd.underlying32 rfl C28 (by decide) rfl) ?_
      refine RS.wantB 14 rfl rfl rfl ?_
      refine RS.o (D.fieldL 5 rfl Tryd.underlying28 rfl C26 (by decide) rfl) ?_
      refine RS.wantB 14 rfl rfl rfl ?_
      refine RS.o (D.fieldL 8 rfl Tryd.underlying26 rfl C9 (by decide) rfl) ?_
      refine RS.wantB 14 rfl rfl rfl ?_
      refine RS.o (D.load rfl Tryd.underlying9 rfl (B2.cell rfl)) ?_
      refine RS.wantB 14 rfl rfl rfl ?_
      refine RS.o (D.lenStr rfl Tryd.underlying9) ?_
      refine RS.wantB 14 rfl rfl rfl ?_
      refine RS.o (D.gt rfl rfl) ?_
      refine RS.pick (v := .bool _) rfl rfl ?_
      refine RS.assign (v := .bool _) rfl ?_
      refine RS.nil ?_
      refine hK3 _ _ ?_
      try clear hK3
      refine wp_ret ?_
      refine ret (rs := [.tmp 2]) (vs := [.bool _]) (v := (.bool _)) rfl ⟨rfl, trivial⟩ rfl ?_
      refine ⟨_, rfl, hE, congrArg Value.bool ?_⟩
      exact decide_eq_decide.2 (by omega)

theorem bareR (o : S.OpV) (pa : Option Addr) (pc : Nat) (w : World) :
    Calls Tryd.prog 47 #[.agg ([.int .u32 o.au, .slice pa o.n pc, .int .u64 o.st, .int .u8 o.k, .string o.key, .int .u8 o.vk, .int .i64 o.num, .int .u64 o.bits, .string o.t, .int .u32 o.e, .int .u32 o.s] : List Value).toArray] w (Ret w fun v _ => v = .agg ([.int .u32 o.bare.au, .slice pa o.n pc, .int .u64 o.bare.st, .int .u8 o.bare.k, .string o.bare.key, .int .u8 o.bare.vk, .int .i64 o.bare.num, .int .u64 o.bare.bits, .string o.bare.t, .int .u32 o.bare.e, .int .u32 o.bare.s] : List Value).toArray) := by
  have hE := Ext.refl w
  refine enter (args := [.agg ([.int .u32 o.au, .slice pa o.n pc, .int .u64 o.st, .int .u8 o.k, .string o.key, .int .u8 o.vk, .int .i64 o.num, .int .u64 o.bits, .string o.t, .int .u32 o.e, .int .u32 o.s] : List Value).toArray]) (l := [.agg ([.int .u32 o.au, .slice pa o.n pc, .int .u64 o.st, .int .u8 o.k, .string o.key, .int .u8 o.vk, .int .i64 o.num, .int .u64 o.bits, .string o.t, .int .u32 o.e, .int .u32 o.s] : List Value).toArray, undef, undef, undef, undef, undef]) Tryd.func47 rfl rfl ?_
  refine wp_seq_k (fun K1 hK1 => ?_)
  refine region ?_
  refine RS.box rfl rfl (fun b2 w2 e2 s2 x2 B2 => ?_)
  refine RS.norm (by dsimp only [List.set]) ?_
  replace hE := Ext.tr hE x2
  have zw2 := x2.size
  refine RS.alloc T32 (fun b3 w3 e3 s3 x3 B3 => ?_)
  refine RS.norm (by dsimp only [List.set]) ?_
  replace hE := Ext.tr hE x3
  replace B2 := B2.ext x3
  have zw3 := x3.size
  refine RS.nil ?_
  refine hK1 _ _ ?_
  try clear hK1
  refine wp_seq_k (fun K4 hK4 => ?_)
  refine region ?_
  refine RS.o (D.buildS T30 F30 (ps := []) rfl rfl) ?_
  refine RS.o (D.fieldL 9 rfl Tryd.underlying32 rfl C30 (by decide) rfl) ?_
  refine RS.storeAggB rfl rfl C30 (by decide) rfl rfl B2 rfl (fun w5 y5 N5 => ?_)
  replace hE := hE.trans (y5.below (by intros; try (first | (intro _ _) | (intro _) | skip); first | omega | (dsimp only at *; omega) | (simp_all; done) | (simp at *; omega)))
  replace B3 := B3.st y5 (by intros; try (first | (intro _ _) | (intro _) | skip); first | omega | (dsimp only at *; omega) | (simp_all; done) | (simp at *; omega))
  have zw5 := y5.size
  replace B2 := N5
  refine RS.nil ?_
  refine hK4 _ _ ?_
  try clear hK4
  refine wp_seq_k (fun K6 hK6 => ?_)
  refine region ?_
  refine RS.o (D.loadAgg rfl Tryd.underlying32 rfl C32 (by decide) rfl (B2.cellsN 11 rfl)) ?_
  refine RS.storeAggB rfl rfl C32 (by decide) rfl rfl B3 rfl (fun w7 y7 N7 => ?_)
  replace hE := hE.trans (y7.below (by intros; try (first | (intro _ _) | (intro _) | skip); first | omega | (dsimp only at *; omega) | (simp_all; done) | (simp at *; omega)))
  replace B2 := B2.st y7 (by intros; try (first | (intro _ _) | (intro _) | skip); first | omega | (dsimp only at *; omega) | (simp_all; done) | (simp at *; omega))
  have zw7 := y7.size
  replace B3 := N7
  refine RS.nil ?_
  refine hK6 _ _ ?_
  try clear hK6
  refine wp_ret ?_
  refine ret (rs := [.cell 2 32]) (vs := [.agg _]) (v := (.agg _)) rfl ⟨⟨_, rfl, loadVar_agg Tryd.underlying32 rfl C32 (by decide) rfl (B3.cellsN 11 rfl)⟩, trivial⟩ rfl ?_
  exact ⟨_, rfl, hE, rfl⟩

theorem twin {S0 : Nat → Prop} (o : S.OpV) (ho : o.ok) (pa : Option Addr) (pc : Nat) (w : World) (D0 : WRow .u8 32 S0 w pa o.n o.ids) (hc : o.n ≤ pc) :
    Calls Tryd.prog 11 #[.agg ([.int .u32 o.au, .slice pa o.n pc, .int .u64 o.st, .int .u8 o.k, .string o.key, .int .u8 o.vk, .int .i64 o.num, .int .u64 o.bits, .string o.t, .int .u32 o.e, .int .u32 o.s] : List Value).toArray] w (Ret w fun v w' => ∃ a' c', v = .agg ([.int .u32 o.au, .slice a' o.n c', .int .u64 o.st, .int .u8 o.k, .string o.key, .int .u8 o.vk, .int .i64 o.num, .int .u64 o.bits, .string o.t, .int .u32 o.e, .int .u32 o.s] : List Value).toArray ∧ o.n ≤ c' ∧ WOwn w.heap.size w' 42 .u8 32 a' o.n c' o.ids) := by
  replace D0 := D0.weaken (T := fun k => k < w.heap.size) (fun k hk _ => hk)
  have o1 := ho.au
  have o2 := ho.st
  have o3 := ho.k
  have o4 := ho.vk
  have o5 := ho.num
  have o6 := ho.bits
  have o7 := ho.e
  have o8 := ho.s
  have o9 := ho.n
  have o10 := ho.key
  have o11 := ho.t
  have hE := Ext.refl w
  refine enter (args := [.agg ([.int .u32 o.au, .slice pa o.n pc, .int .u64 o.st, .int .u8 o.k, .string o.key, .int .u8 o.vk, .int .i64 o.num, .int .u64 o.bits, .string o.t, .int .u32 o.e, .int .u32 o.s] : List Value).toArray]) (l := [.agg ([.int .u32 o.au, .slice pa o.n pc, .int .u64 o.st, .int .u8 o.k, .string o.key, .int .u8 o.vk, .int .i64 o.num, .int .u64 o.bits, .string o.t, .int .u32 o.e, .int .u32 o.s] : List Value).toArray, undef, undef, undef, undef, undef, undef, undef, undef]) Tryd.func11 rfl rfl ?_
  refine wp_seq_k (fun K1 hK1 => ?_)
  refine region ?_
  refine RS.box rfl rfl (fun b2 w2 e2 s2 x2 B2 => ?_)
  refine RS.norm (by dsimp only [List.set]) ?_
  replace hE := Ext.tr hE x2
  replace D0 := D0.ext x2
  have zw2 := x2.size
  refine RS.alloc T32 (fun b3 w3 e3 s3 x3 B3 => ?_)
  refine RS.norm (by dsimp only [List.set]) ?_
  replace hE := Ext.tr hE x3
  replace D0 := D0.ext x3
  replace B2 := B2.ext x3
  have zw3 := x3.size
  refine RS.nil ?_
  refine hK1 _ _ ?_
  try clear hK1
  refine wp_seq_k (fun K4 hK4 => ?_)
  refine region ?_
  refine RS.buildNone Tryd.underlying23 T42 (fun b5 w5 e5 s5 x5 B5 => ?_)
  refine RS.norm (by dsimp only [List.set]) ?_
  replace hE := Ext.tr hE x5
  replace D0 := D0.ext x5
  replace B2 := B2.ext x5
  replace B3 := B3.ext x5
  have zw5 := x5.size
  have O1 : WOwn w3.heap.size w5 42 .u8 32 (some ⟨b5, 0, none⟩) 0 0 [] := WOwn.of_blk B5 rfl rfl (by omega) (Bd.nil _) (by decide)
  refine RS.o (D.fieldL 1 rfl Tryd.underlying32 rfl C23 (by decide) rfl) ?_
  refine RS.o (D.load rfl Tryd.underlying23 rfl (B2.cell rfl)) ?_
  refine RS.appendW O1 D0 rfl rfl Tryd.underlying23 T42 (by simp [ints]) (by decide) (by omega) (by decide) (by omega) (fun a6 c6 w6 N6 x6 => ?_)
  refine RS.norm (by dsimp only [List.set]) ?_
  replace hE := hE.trans (x6.below (by intros; try (first | (intro _ _) | (intro _) | skip); first | omega | (have hq := O1.los _ (by assumption); first | omega | (dsimp only at *; omega))) (by intros; try (first | (intro _ _) | (intro _) | skip); first | omega | (dsimp only at *; omega) | (simp_all; done) | (simp at *; omega)))
  replace D0 := D0.pr x6 (by intros; try (first | (intro _ _) | (intro _) | skip); first | omega | (have hq := O1.los _ (by assumption); first | omega | (dsimp only at *; omega)))
  replace B2 := B2.pr x6 (by intros; try (first | (intro _ _) | (intro _) | skip); first | omega | (have hq := O1.los _ (by assumption); first | omega | (dsimp only at *; omega)))
  replace B3 := B3.pr x6 (by intros; try (first | (intro _ _) | (intro _) | skip); first | omega | (have hq := O1.los _ (by assumption); first | omega | (dsimp only at *; omega)))
  have zw6 := x6.size
  replace O1 := N6
  refine RS.norm (by dsimp only [List.set]) ?_
  rw [Nat.zero_add, List.nil_append] at O1
  have hoc := O1.own.pre
  refine RS.o (D.fieldL 1 rfl Tryd.underlying32 rfl C23 (by decide) rfl) ?_
  refine RS.store rfl  rfl C23 rfl B2 rfl (fun w7 y7 N7 => ?_)
  replace hE := hE.trans (y7.below (by intros; try (first | (intro _ _) | (intro _) | skip); first | omega | (dsimp only at *; omega) | (simp_all; done) | (simp at *; omega)))
  replace D0 := D0.st y7 (by intros; try (first | (intro _ _) | (intro _) | skip); first | omega | (dsimp only at *; omega) | (simp_all; done) | (simp at *; omega))
  replace B3 := B3.st y7 (by intros; try (first | (intro _ _) | (intro _) | skip); first | omega | (dsimp only at *; omega) | (simp_all; done) | (simp at *; omega))
  replace O1 := O1.st y7 (by intros; try (first | (intro _ _) | (intro _) | skip); first | omega | (have hq := O1.own.lo _ (by assumption); first | omega | (dsimp only at *; omega)))
  have zw7 := y7.size
  replace B2 := N7
  refine RS.nil ?_
  refine hK4 _ _ ?_
  try clear hK4
  refine wp_seq_k (fun K8 hK8 => ?_)
  refine region ?_
  refine RS.o (D.loadAgg rfl Tryd.underlying32 rfl C32 (by decide) rfl (B2.cellsN 11 rfl)) ?_
  refine RS.storeAggB rfl rfl C32 (by decide) rfl rfl B3 rfl (fun w9 y9 N9 => ?_)
  replace hE := hE.trans (y9.below (by intros; try (first | (intro _ _) | (intro _) | skip); first | omega | (dsimp only at *; omega) | (simp_all; done) | (simp at *; omega)))
  replace D0 := D0.st y9 (by intros; try (first | (intro _ _) | (intro _) | skip); first | omega | (dsimp only at *; omega) | (simp_all; done) | (simp at *; omega))
  replace B2 := B2.st y9 (by intros; try (first | (intro _ _) | (intro _) | skip); first | omega | (dsimp only at *; omega) | (simp_all; done) | (simp at *; omega))
  replace O1 := O1.st y9 (by intros; try (first | (intro _ _) | (intro _) | skip); first | omega | (have hq := O1.own.lo _ (by assumption); first | omega | (dsimp only at *; omega)))
  have zw9 := y9.size
  replace B3 := N9
  refine RS.nil ?_
  refine hK8 _ _ ?_
  try clear hK8
  refine wp_ret ?_
  refine ret (rs := [.cell 2 32]) (vs := [.agg _]) (v := (.agg _)) rfl ⟨⟨_, rfl, loadVar_agg Tryd.underlying32 rfl C32 (by decide) rfl (B3.cellsN 11 rfl)⟩, trivial⟩ rfl ?_
  rw [Nat.zero_add]
  exact ⟨_, rfl, hE, _, _, rfl, hoc, O1.base (fun k hk => by have := O1.los k hk; omega)⟩

theorem sameO {S0 S1 : Nat → Prop} (o u : S.OpV) (ho : o.ok) (hu : u.ok) (pa qa : Option Addr) (pc qc : Nat) (w : World) (D0 : WRow .u8 32 S0 w pa o.n o.ids) (D1 : WRow .u8 32 S1 w qa u.n u.ids) :
    Calls Tryd.prog 23 #[.agg ([.int .u32 o.au, .slice pa o.n pc, .int .u64 o.st, .int .u8 o.k, .string o.key, .int .u8 o.vk, .int .i64 o.num, .int .u64 o.bits, .string o.t, .int .u32 o.e, .int .u32 o.s] : List Value).toArray, .agg ([.int .u32 u.au, .slice qa u.n qc, .int .u64 u.st, .int .u8 u.k, .string u.key, .int .u8 u.vk, .int .i64 u.num, .int .u64 u.bits, .string u.t, .int .u32 u.e, .int .u32 u.s] : List Value).toArray] w (Ret w fun v _ => v = .bool (decide (S.SameO o u))) := by
  have h1 := ho.n
  have h2 := hu.n
  have hE := Ext.refl w
  refine enter (args := [.agg ([.int .u32 o.au, .slice pa o.n pc, .int .u64 o.st, .int .u8 o.k, .string o.key, .int .u8 o.vk, .int .i64 o.num, .int .u64 o.bits, .string o.t, .int .u32 o.e, .int .u32 o.s] : List Value).toArray, .agg ([.int .u32 u.au, .slice qa u.n qc, .int .u64 u.st, .int .u8 u.k, .string u.key, .int .u8 u.vk, .int .i64 u.num, .int .u64 u.bits, .string u.t, .int .u32 u.e, .int .u32 u.s] : List Value).toArray]) (l := [.agg ([.int .u32 o.au, .slice pa o.n pc, .int .u64 o.st, .int .u8 o.k, .string o.key, .int .u8 o.vk, .int .i64 o.num, .int .u64 o.bits, .string o.t, .int .u32 o.e, .int .u32 o.s] : List Value).toArray, .agg ([.int .u32 u.au, .slice qa u.n qc, .int .u64 u.st, .int .u8 u.k, .string u.key, .int .u8 u.vk, .int .i64 u.num, .int .u64 u.bits, .string u.t, .int .u32 u.e, .int .u32 u.s] : List Value).toArray, undef, undef, undef, undef, undef, undef, undef, undef, undef, undef, undef, undef, undef, undef, undef, undef, undef, undef, undef, undef, undef, undef, undef, undef, undef, undef, undef, undef, undef, undef, undef, undef, undef, undef, undef, undef]) Tryd.func23 rfl rfl ?_
  refine wp_seq_k (fun K1 hK1 => ?_)
  refine region ?_
  refine RS.box rfl rfl (fun b2 w2 e2 s2 x2 B2 => ?_)
  refine RS.norm (by dsimp only [List.set]) ?_
  replace hE := Ext.tr hE x2
  replace D0 := D0.ext x2
  replace D1 := D1.ext x2
  have zw2 := x2.size
  refine RS.box rfl rfl (fun b3 w3 e3 s3 x3 B3 => ?_)
  refine RS.norm (by dsimp only [List.set]) ?_
  replace hE := Ext.tr hE x3
  replace D0 := D0.ext x3
  replace D1 := D1.ext x3
  replace B2 := B2.ext x3
  have zw3 := x3.size
  refine RS.assign (v := .bool false) rfl ?_
  refine RS.nil ?_
  refine hK1 _ _ ?_
  try clear hK1
  refine wp_seq_k (fun K4 hK4 => ?_)
  refine region ?_
  refine RS.o (D.fieldL 0 rfl Tryd.underlying32 rfl C22 (by decide) rfl) ?_
  refine RS.o (D.load rfl Tryd.underlying22 rfl (B2.cell rfl)) ?_
  refine RS.o (D.fieldL 0 rfl Tryd.underlying32 rfl C22 (by decide) rfl) ?_
  refine RS.o (D.load rfl Tryd.underlying22 rfl (B3.cell rfl)) ?_
  refine RS.o (D.eq rfl rfl) ?_
  refine RS.move (v := .bool _) rfl ?_
  refine RS.splite 10 rfl rfl (fun c5 => ?_) (fun c5 => ?_)
  · refine RS.norm (by dsimp only [List.set]) ?_
    have e1 := c5
    refine RS.wantB 10 rfl rfl rfl ?_
    refine RS.o (D.fieldL 1 rfl Tryd.underlying32 rfl C23 (by decide) rfl) ?_
    refine RS.wantB 10 rfl rfl rfl ?_
    refine RS.o (D.load rfl Tryd.underlying23 rfl (B2.cell rfl)) ?_
    refine RS.wantB 10 rfl rfl rfl ?_
    refine RS.o (D.fieldL 1 rfl Tryd.underlying32 rfl C23 (by decide) rfl) ?_
    refine RS.wantB 10 rfl rfl rfl ?_
    refine RS.o (D.load rfl Tryd.underlying23 rfl (B3.cell rfl)) ?_
    refine RS.wantB 10 rfl rfl rfl ?_
    refine RS.call E63 (sameIDs _ _ _ _ _ _ _ _ _ D0 D1 (by omega) (by omega)) rfl (fun v6 w6 x6 A6 => ?_)
    replace hE := Ext.tr hE x6
    replace D0 := D0.ext x6
    replace D1 := D1.ext x6
    replace B2 := B2.ext x6
    replace B3 := B3.ext x6
    have zw6 := x6.size
    subst A6
    refine RS.norm (by dsimp only [List.set]) ?_
    refine RS.pick (v := .bool _) rfl rfl ?_
    refine RS.move (v := .bool _) rfl ?_
    refine RS.splitb 17 rfl rfl (fun c7 => ?_) (fun c7 => ?_)
    · refine RS.norm (by dsimp only [List.set]) ?_
      have e2 := of_decide_eq_true c7
      refine RS.wantB 17 rfl rfl rfl ?_
      refine RS.o (D.fieldL 2 rfl Tryd.underlying32 rfl C24 (by decide) rfl) ?_
      refine RS.wantB 17 rfl rfl rfl ?_
      refine RS.o (D.load rfl Tryd.underlying24 rfl (B2.cell rfl)) ?_
      refine RS.wantB 17 rfl rfl rfl ?_
      refine RS.o (D.fieldL 2 rfl Tryd.underlying32 rfl C24 (by decide) rfl) ?_
      refine RS.wantB 17 rfl rfl rfl ?_
      refine RS.o (D.load rfl Tryd.underlying24 rfl (B3.cell rfl)) ?_
      refine RS.wantB 17 rfl rfl rfl ?_
      refine RS.o (D.eq rfl rfl) ?_
      refine RS.pick (v := .bool _) rfl rfl ?_
      refine RS.move (v := .bool _) rfl ?_
      refine RS.splite 24 rfl rfl (fun c8 => ?_) (fun c8 => ?_)
      · refine RS.norm (by dsimp only [List.set]) ?_
        have e3 := c8
        refine RS.wantB 24 rfl rfl rfl ?_
        refine RS.o (D.fieldL 3 rfl Tryd.underlying32 rfl C28 (by decide) rfl) ?_
        refine RS.wantB 24 rfl rfl rfl ?_
        refine RS.o (D.loadAgg rfl Tryd.underlying28 rfl C28 (by decide) rfl (B2.cellsN 6 rfl)) ?_
        refine RS.wantB 24 rfl rfl rfl ?_
        refine RS.o (D.fieldL 3 rfl Tryd.underlying32 rfl C28 (by decide) rfl) ?_
        refine RS.wantB 24 rfl rfl rfl ?_
        refine RS.o (D.loadAgg rfl Tryd.underlying28 rfl C28 (by decide) rfl (B3.cellsN 6 rfl)) ?_
        refine RS.wantB 24 rfl rfl rfl ?_
        refine RS.o (D.eqA rfl rfl Tryd.underlying28 rfl (by kernel_rfl) (by kernel_rfl) (by kernel_rfl)) ?_
        refine RS.pick (v := .bool _) rfl rfl ?_
        refine RS.move (v := .bool _) rfl ?_
        refine RS.splitb 31 rfl rfl (fun c9 => ?_) (fun c9 => ?_)
        · refine RS.norm (by dsimp only [List.set]) ?_
          have e4 := of_decide_eq_true ((S.eqA6 _ _ _ _ _ _ _ _ _ _ _ _).symm.trans c9)
          refine RS.wantB 31 rfl rfl rfl ?_
          refine RS.o (D.fieldL 9 rfl Tryd.underlying32 rfl C30 (by decide) rfl) ?_
          refine RS.wantB 31 rfl rfl rfl ?_
          refine RS.o (D.loadAgg rfl Tryd.underlying30 rfl C30 (by decide) rfl (B2.cellsN 2 rfl)) ?_
          refine RS.wantB 31 rfl rfl rfl ?_
          refine RS.o (D.fieldL 9 rfl Tryd.underlying32 rfl C30 (by decide) rfl) ?_
          refine RS.wantB 31 rfl rfl rfl ?_
          refine RS.o (D.loadAgg rfl Tryd.underlying30 rfl C30 (by decide) rfl (B3.cellsN 2 rfl)) ?_
          refine RS.wantB 31 rfl rfl rfl ?_
          refine RS.o (D.eqA rfl rfl Tryd.underlying30 rfl (by kernel_rfl) (by kernel_rfl) (by kernel_rfl)) ?_
          refine RS.pick (v := .bool _) rfl rfl ?_
          refine RS.assign (v := .bool _) rfl ?_
          refine RS.nil ?_
          refine hK4 _ _ ?_
          try clear hK4
          refine wp_ret ?_
          refine ret (rs := [.tmp 4]) (vs := [.bool _]) (v := (.bool _)) rfl ⟨rfl, trivial⟩ rfl ?_
          refine ⟨_, rfl, hE, congrArg Value.bool ?_⟩
          refine Eq.trans (S.eqS2 _ _ _ _) (decide_eq_decide.2 ?_)
          exact ⟨fun h => ⟨e1, e2, e3, e4, h⟩, fun h => h.2.2.2.2⟩
        · refine RS.norm (by dsimp only [List.set]) ?_
          have e4 := of_decide_eq_false ((S.eqA6 _ _ _ _ _ _ _ _ _ _ _ _).symm.trans c9)
          refine RS.skipB (b := false) 31 rfl rfl rfl rfl ?_
          refine RS.norm (by dsimp only [putL, List.set]) ?_
          refine RS.skipB (b := false) 31 rfl rfl rfl rfl ?_
          refine RS.norm (by dsimp only [putL, List.set]) ?_
          refine RS.skipB (b := false) 31 rfl rfl rfl rfl ?_
          refine RS.norm (by dsimp only [putL, List.set]) ?_
          refine RS.skipB (b := false) 31 rfl rfl rfl rfl ?_
          refine RS.norm (by dsimp only [putL, List.set]) ?_
          refine RS.skipB (b := false) 31 rfl rfl rfl rfl ?_
          refine RS.norm (by dsimp only [putL, List.set]) ?_
          refine RS.pick (v := .bool false) rfl rfl ?_
          refine RS.assign (v := .bool _) rfl ?_
          refine RS.nil ?_
          refine hK4 _ _ ?_
          try clear hK4
          refine wp_ret ?_
          refine ret (rs := [.tmp 4]) (vs := [.bool _]) (v := (.bool _)) rfl ⟨rfl, trivial⟩ rfl ?_
          refine ⟨_, rfl, hE, congrArg Value.bool ?_⟩
          refine (decide_eq_false (fun h => ?_)).symm
          exact absurd h.2.2.2.1 e4
      · refine RS.norm (by dsimp only [List.set]) ?_
        have e3 := c8
        refine RS.skipB (b := false) 24 rfl rfl rfl rfl ?_
        refine RS.norm (by dsimp only [putL, List.set]) ?_
        refine RS.skipB (b := false) 24 rfl rfl rfl rfl ?_
        refine RS.norm (by dsimp only [putL, List.set]) ?_
        refine RS.skipB (b := false) 24 rfl rfl rfl rfl ?_
        refine RS.norm (by dsimp only [putL, List.set]) ?_
        refine RS.skipB (b := false) 24 rfl rfl rfl rfl ?_
        refine RS.norm (by dsimp only [putL, List.set]) ?_
        refine RS.skipB (b := false) 24 rfl rfl rfl rfl ?_
        refine RS.norm (by dsimp only [putL, List.set]) ?_
        refine RS.pick (v := .bool false) rfl rfl ?_
        refine RS.move (v := .bool _) rfl ?_
        refine RS.skipB (b := false) 31 rfl rfl rfl rfl ?_
        refine RS.norm (by dsimp only [putL, List.set]) ?_
        refine RS.skipB (b := false) 31 rfl rfl rfl rfl ?_
        refine RS.norm (by dsimp only [putL, List.set]) ?_
        refine RS.skipB (b := false) 31 rfl rfl rfl rfl ?_
        refine RS.norm (by dsimp only [putL, List.set]) ?_
        refine RS.skipB (b := false) 31 rfl rfl rfl rfl ?_
        refine RS.norm (by dsimp only [putL, List.set]) ?_
        refine RS.skipB (b := false) 31 rfl rfl rfl rfl ?_
        refine RS.norm (by dsimp only [putL, List.set]) ?_
        refine RS.pick (v := .bool false) rfl rfl ?_
        refine RS.assign (v := .bool _) rfl ?_
        refine RS.nil ?_
        refine hK4 _ _ ?_
        try clear hK4
        refine wp_ret ?_
        refine ret (rs := [.tmp 4]) (vs := [.bool _]) (v := (.bool _)) rfl ⟨rfl, trivial⟩ rfl ?_
        refine ⟨_, rfl, hE, congrArg Value.bool ?_⟩
        refine (decide_eq_false (fun h => ?_)).symm
        exact absurd h.2.2.1 e3
    · refine RS.norm (by dsimp only [List.set]) ?_
      have e2 := of_decide_eq_false c7
      refine RS.skipB (b := false) 17 rfl rfl rfl rfl ?_
      refine RS.norm (by dsimp only [putL, List.set]) ?_
      refine RS.skipB (b := false) 17 rfl rfl rfl rfl ?_
      refine RS.norm (by dsimp only [putL, List.set]) ?_
      refine RS.skipB (b := false) 17 rfl rfl rfl rfl ?_
      refine RS.norm (by dsimp only [putL, List.set]) ?_
      refine RS.skipB (b := false) 17 rfl rfl rfl rfl ?_
      refine RS.norm (by dsimp only [putL, List.set]) ?_
      refine RS.skipB (b := false) 17 rfl rfl rfl rfl ?_
      refine RS.norm (by dsimp only [putL, List.set]) ?_
      refine RS.pick (v := .bool false) rfl rfl ?_
      refine RS.move (v := .bool _) rfl ?_
      refine RS.skipB (b := false) 24 rfl rfl rfl rfl ?_
      refine RS.norm (by dsimp only [putL, List.set]) ?_
      refine RS.skipB (b := false) 24 rfl rfl rfl rfl ?_
      refine RS.norm (by dsimp only [putL, List.set]) ?_
      refine RS.skipB (b := false) 24 rfl rfl rfl rfl ?_
      refine RS.norm (by dsimp only [putL, List.set]) ?_
      refine RS.skipB (b := false) 24 rfl rfl rfl rfl ?_
      refine RS.norm (by dsimp only [putL, List.set]) ?_
      refine RS.skipB (b := false) 24 rfl rfl rfl rfl ?_
      refine RS.norm (by dsimp only [putL, List.set]) ?_
      refine RS.pick (v := .bool false) rfl rfl ?_
      refine RS.move (v := .bool _) rfl ?_
      refine RS.skipB (b := false) 31 rfl rfl rfl rfl ?_
      refine RS.norm (by dsimp only [putL, List.set]) ?_
      refine RS.skipB (b := false) 31 rfl rfl rfl rfl ?_
      refine RS.norm (by dsimp only [putL, List.set]) ?_
      refine RS.skipB (b := false) 31 rfl rfl rfl rfl ?_
      refine RS.norm (by dsimp only [putL, List.set]) ?_
      refine RS.skipB (b := false) 31 rfl rfl rfl rfl ?_
      refine RS.norm (by dsimp only [putL, List.set]) ?_
      refine RS.skipB (b := false) 31 rfl rfl rfl rfl ?_
      refine RS.norm (by dsimp only [putL, List.set]) ?_
      refine RS.pick (v := .bool false) rfl rfl ?_
      refine RS.assign (v := .bool _) rfl ?_
      refine RS.nil ?_
      refine hK4 _ _ ?_
      try clear hK4
      refine wp_ret ?_
      refine ret (rs := [.tmp 4]) (vs := [.bool _]) (v := (.bool _)) rfl ⟨rfl, trivial⟩ rfl ?_
      refine ⟨_, rfl, hE, congrArg Value.bool ?_⟩
      refine (decide_eq_false (fun h => ?_)).symm
      exact absurd h.2.1 e2
  · refine RS.norm (by dsimp only [List.set]) ?_
    have e1 := c5
    refine RS.skipB (b := false) 10 rfl rfl rfl rfl ?_
    refine RS.norm (by dsimp only [putL, List.set]) ?_
    refine RS.skipB (b := false) 10 rfl rfl rfl rfl ?_
    refine RS.norm (by dsimp only [putL, List.set]) ?_
    refine RS.skipB (b := false) 10 rfl rfl rfl rfl ?_
    refine RS.norm (by dsimp only [putL, List.set]) ?_
    refine RS.skipB (b := false) 10 rfl rfl rfl rfl ?_
    refine RS.norm (by dsimp only [putL, List.set]) ?_
    refine RS.skipB (b := false) 10 rfl rfl rfl rfl ?_
    refine RS.norm (by dsimp only [putL, List.set]) ?_
    refine RS.pick (v := .bool false) rfl rfl ?_
    refine RS.move (v := .bool _) rfl ?_
    refine RS.skipB (b := false) 17 rfl rfl rfl rfl ?_
    refine RS.norm (by dsimp only [putL, List.set]) ?_
    refine RS.skipB (b := false) 17 rfl rfl rfl rfl ?_
    refine RS.norm (by dsimp only [putL, List.set]) ?_
    refine RS.skipB (b := false) 17 rfl rfl rfl rfl ?_
    refine RS.norm (by dsimp only [putL, List.set]) ?_
    refine RS.skipB (b := false) 17 rfl rfl rfl rfl ?_
    refine RS.norm (by dsimp only [putL, List.set]) ?_
    refine RS.skipB (b := false) 17 rfl rfl rfl rfl ?_
    refine RS.norm (by dsimp only [putL, List.set]) ?_
    refine RS.pick (v := .bool false) rfl rfl ?_
    refine RS.move (v := .bool _) rfl ?_
    refine RS.skipB (b := false) 24 rfl rfl rfl rfl ?_
    refine RS.norm (by dsimp only [putL, List.set]) ?_
    refine RS.skipB (b := false) 24 rfl rfl rfl rfl ?_
    refine RS.norm (by dsimp only [putL, List.set]) ?_
    refine RS.skipB (b := false) 24 rfl rfl rfl rfl ?_
    refine RS.norm (by dsimp only [putL, List.set]) ?_
    refine RS.skipB (b := false) 24 rfl rfl rfl rfl ?_
    refine RS.norm (by dsimp only [putL, List.set]) ?_
    refine RS.skipB (b := false) 24 rfl rfl rfl rfl ?_
    refine RS.norm (by dsimp only [putL, List.set]) ?_
    refine RS.pick (v := .bool false) rfl rfl ?_
    refine RS.move (v := .bool _) rfl ?_
    refine RS.skipB (b := false) 31 rfl rfl rfl rfl ?_
    refine RS.norm (by dsimp only [putL, List.set]) ?_
    refine RS.skipB (b := false) 31 rfl rfl rfl rfl ?_
    refine RS.norm (by dsimp only [putL, List.set]) ?_
    refine RS.skipB (b := false) 31 rfl rfl rfl rfl ?_
    refine RS.norm (by dsimp only [putL, List.set]) ?_
    refine RS.skipB (b := false) 31 rfl rfl rfl rfl ?_
    refine RS.norm (by dsimp only [putL, List.set]) ?_
    refine RS.skipB (b := false) 31 rfl rfl rfl rfl ?_
    refine RS.norm (by dsimp only [putL, List.set]) ?_
    refine RS.pick (v := .bool false) rfl rfl ?_
    refine RS.assign (v := .bool _) rfl ?_
    refine RS.nil ?_
    refine hK4 _ _ ?_
    try clear hK4
    refine wp_ret ?_
    refine ret (rs := [.tmp 4]) (vs := [.bool _]) (v := (.bool _)) rfl ⟨rfl, trivial⟩ rfl ?_
    refine ⟨_, rfl, hE, congrArg Value.bool ?_⟩
    refine (decide_eq_false (fun h => ?_)).symm
    exact absurd h.1 e1

end Go.Proofs.YtiohpiiiapjblaaDoor.W
