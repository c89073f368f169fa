/-
  W17: walks of functions, printed by gen.py from the annotations ann17.py.
-/
import Derived.Test.YtiohpiiiapjblaaDoorW16

namespace Go.Proofs.YtiohpiiiapjblaaDoor.W
open Go.RowKit Go.Proofs.YtiohpiiiapjblaaDoor.G
set_option linter.unusedVariables false
set_option maxRecDepth 20000
set_option maxHeartbeats 8000000
attribute [local irreducible] RS RX

theorem E12 : Enters Tryd.prog 12 := .mk Tryd.func12 (by kernel_rfl) rfl
theorem E14 : Enters Tryd.prog 14 := .mk Tryd.func14 (by kernel_rfl) rfl
theorem E21 : Enters Tryd.prog 21 := .mk Tryd.func21 (by kernel_rfl) rfl
theorem E36 : Enters Tryd.prog 36 := .mk Tryd.func36 (by kernel_rfl) rfl
theorem E47 : Enters Tryd.prog 47 := .mk Tryd.func47 (by kernel_rfl) rfl
theorem E48 : Enters Tryd.prog 48 := .mk Tryd.func48 (by kernel_rfl) rfl
theorem E49 : Enters Tryd.prog 49 := .mk Tryd.func49 (by kernel_rfl) rfl
theorem E50 : Enters Tryd.prog 50 := .mk Tryd.func50 (by kernel_rfl) rfl
theorem E87 : Enters Tryd.prog 87 := .mk Tryd.func87 (by kernel_rfl) rfl
theorem encodeO {S0 : Nat → Prop} (o : S.OpV) (ho : o.ok) (pa : Option Addr) (pc : Nat) (w : World) (D0 : WRow .u8 32 S0 w pa o.n o.ids) (hc : o.n ≤ pc) :
    Calls Tryd.prog 14 #[.agg ([.int .u32 o.au, .slice pa o.n pc, .int .u64 o.st, .int .u8 o.k, .string o.key, .int .u8 o.vk, .int .i64 o.num, .int .u64 o.bits, .string o.t, .int .u32 o.e, .int .u32 o.s] : List Value).toArray] w (Ret w fun v w' => ∃ a' n' c' xs, v = .tuple #[.slice a' n' c', .int .i64 (S.checkE o)] ∧ IOwn w.heap.size w' 5 .u8 a' n' c' xs ∧ xs = if S.checkE o = 0 then S.encS o else []) := by
  replace D0 := D0.weaken (T := fun k => k < w.heap.size) (fun k hk _ => hk)
  have o1 := ho.au
  have o2 := ho.st
  have o3 := ho.k
  have o4 := ho.vk
  have o5 := ho.num
  have o6 := ho.bits
  have o7 := ho.e
  have o8 := ho.s
  have o9 := ho.n
  have o10 := ho.key
  have o11 := ho.t
  have e4 := D0.len
  have e7 := S.numS_len o.e
  have e8 := S.numS_len o.s
  have hE := Ext.refl w
  refine enter (args := [.agg ([.int .u32 o.au, .slice pa o.n pc, .int .u64 o.st, .int .u8 o.k, .string o.key, .int .u8 o.vk, .int .i64 o.num, .int .u64 o.bits, .string o.t, .int .u32 o.e, .int .u32 o.s] : List Value).toArray]) (l := [.agg ([.int .u32 o.au, .slice pa o.n pc, .int .u64 o.st, .int .u8 o.k, .string o.key, .int .u8 o.vk, .int .i64 o.num, .int .u64 o.bits, .string o.t, .int .u32 o.e, .int .u32 o.s] : List Value).toArray, undef, undef, undef, undef, undef, undef, undef, undef, undef, undef, undef, undef, undef, undef, undef, undef, undef, undef, undef, undef, undef, undef, undef, undef, undef, undef, undef, undef, undef]) Tryd.func14 rfl rfl ?_
  refine wp_seq_k (fun K1 hK1 => ?_)
  refine region ?_
  refine RS.box rfl rfl (fun b2 w2 e2 s2 x2 B2 => ?_)
  refine RS.norm (by dsimp only [List.set]) ?_
  replace hE := Ext.tr hE x2
  replace D0 := D0.ext x2
  have zw2 := x2.size
  refine RS.assign (v := .slice none 0 0) rfl ?_
  refine RS.assign (v := .int .i64 0) rfl ?_
  refine RS.nil ?_
  refine hK1 _ _ ?_
  try clear hK1
  refine wp_seq_k (fun K3 hK3 => ?_)
  refine wp_seq_k (fun K4 hK4 => ?_)
  refine region ?_
  refine RS.o (D.loadAgg rfl Tryd.underlying32 rfl C32 (by decide) rfl (B2.cellsN 11 rfl)) ?_
  refine RS.call E20 (checkO o ho _ _ _ D0 hc) rfl (fun v5 w5 x5 A5 => ?_)
  replace hE := Ext.tr hE x5
  replace D0 := D0.ext x5
  replace B2 := B2.ext x5
  have zw5 := x5.size
  subst A5
  refine RS.norm (by dsimp only [List.set]) ?_
  refine RS.assign (v := .int _ _) rfl ?_
  refine RS.nil ?_
  refine hK4 _ _ ?_
  try clear hK4
  refine wp_seq_k (fun K6 hK6 => ?_)
  refine region ?_
  refine RS.move (v := .int _ _) rfl ?_
  refine RS.o (D.ne rfl rfl) ?_
  refine RS.nil ?_
  refine hK6 _ _ ?_
  try clear hK6
  refine C.ifn rfl (fun c7 => ?_) (fun c7 => ?_)
  · have hnz := c7
    refine wp_seq_k (fun K8 hK8 => ?_)
    refine region ?_
    refine RS.move (v := .int _ _) rfl ?_
    refine RS.assign (v := .slice none 0 0) rfl ?_
    refine RS.assign (v := .int _ _) rfl ?_
    refine RS.nil ?_
    refine hK8 _ _ ?_
    try clear hK8
    refine wp_ret ?_
    refine ret (rs := [.tmp 2, .tmp 3]) (vs := [.slice _ _ _, .int _ _]) (v := (.tuple #[.slice _ _ _, .int _ _])) rfl ⟨rfl, rfl, trivial⟩ rfl ?_
    exact ⟨_, rfl, hE, none, 0, 0, [], rfl, IOwn.nil _ _ _ _, (if_neg hnz).symm⟩
  · have hz := c7
    obtain ⟨q1, q2, q3⟩ := S.check_zero.1 hz
    have hml := S.msg_len o ho q1 e4
    have hzb : S.checkE o.bare = 0 := S.check_zero.2 ⟨q1, q2, q3.1, q3.2.1, (by show (0 : Int) < 500000003; decide), (by show (0 : Int) < 500000003; decide), q3.2.2.2.2⟩
    refine wp_skip ?_
    refine hK3 _ _ ?_
    try clear hK3
    refine wp_seq_k (fun K9 hK9 => ?_)
    refine region ?_
    refine RS.o (D.loadAgg rfl Tryd.underlying32 rfl C32 (by decide) rfl (B2.cellsN 11 rfl)) ?_
    refine RS.call E12 (messageO o ho _ _ _ D0 hc) rfl (fun v10 w10 x10 A10 => ?_)
    replace hE := Ext.tr hE x10
    replace D0 := D0.ext x10
    replace B2 := B2.ext x10
    have zw10 := x10.size
    obtain ⟨a10, n10, c10, xs, rfl, OM, hxs⟩ := A10
    rw [if_pos hzb] at hxs
    subst hxs
    have hOM := OM.len
    have pOM := OM.own.pre
    refine RS.norm (by dsimp only [List.set]) ?_
    refine RS.move (v := .tuple _) rfl ?_
    refine RS.extract (v := .slice _ _ _) rfl rfl ?_
    refine RS.extract (v := .int _ _) rfl rfl ?_
    refine RS.assign (v := .slice _ _ _) rfl ?_
    refine RS.assign (v := .int _ _) rfl ?_
    refine RS.nil ?_
    refine hK9 _ _ ?_
    try clear hK9
    refine wp_seq_k (fun K11 hK11 => ?_)
    refine regionX Ext [(0, .q), (1, .q), (2, .q), (3, .q), (4, .q), (6, .q), (7, .q), (8, .q), (9, .q), (5, .e), (10, .e), (11, .e), (12, .e), (13, .q), (14, .q)] mixed Ext.refl (fun h k => h.tr k) (by kernel_rfl) (fun w12 x12 => ?_)
    replace hE := Ext.tr hE x12
    replace D0 := D0.ext x12
    replace B2 := B2.ext x12
    replace OM := OM.ext x12
    have zw12 := x12.size
    refine RX.move (v := .slice _ _ _) rfl ?_
    refine RX.o (fun w' hw => D.fieldL 9 rfl Tryd.underlying32 rfl C30 (by decide) rfl) ?_
    refine RX.o (fun w' hw => D.fieldL 9 rfl Tryd.underlying30 rfl C22 (by decide) rfl) ?_
    refine RX.o (fun w' hw => D.load rfl Tryd.underlying22 rfl ((B2.ext hw).cell rfl)) ?_
    refine RX.o (fun w' hw => D.conv rfl Tryd.underlying22 Tryd.underlying24 (W.u64 (by omega))) ?_
    refine RX.o (fun w' hw => D.fieldL 9 rfl Tryd.underlying32 rfl C30 (by decide) rfl) ?_
    refine RX.o (fun w' hw => D.fieldL 10 rfl Tryd.underlying30 rfl C22 (by decide) rfl) ?_
    refine RX.o (fun w' hw => D.load rfl Tryd.underlying22 rfl ((B2.ext hw).cell rfl)) ?_
    refine RX.o (fun w' hw => D.conv rfl Tryd.underlying22 Tryd.underlying24 (W.u64 (by omega))) ?_
    refine RX.eff ?_
    refine RS.call E44 (numW _ (by omega) _) rfl (fun v13 w13 x13 A13 => ?_)
    replace hE := Ext.tr hE x13
    replace D0 := D0.ext x13
    replace B2 := B2.ext x13
    replace OM := OM.ext x13
    have zw13 := x13.size
    obtain ⟨a13, n13, c13, rfl, OA⟩ := A13
    have hOA := OA.len
    have pOA := OA.own.pre
    refine RS.norm (by dsimp only [List.set]) ?_
    refine RS.nil ⟨x13, ?_⟩
    refine RX.eff ?_
    refine RS.call E44 (numW _ (by omega) _) rfl (fun v14 w14 x14 A14 => ?_)
    replace hE := Ext.tr hE x14
    replace D0 := D0.ext x14
    replace B2 := B2.ext x14
    replace OM := OM.ext x14
    replace OA := OA.ext x14
    have zw14 := x14.size
    obtain ⟨a14, n14, c14, rfl, OB⟩ := A14
    have hOB := OB.len
    have pOB := OB.own.pre
    refine RS.norm (by dsimp only [List.set]) ?_
    refine RS.nil ⟨x14, ?_⟩
    refine RX.eff ?_
    refine RS.buildSlice (xs := [.tmp 17, .tmp 22, .tmp 27]) (vs := [.slice _ _ _, .slice _ _ _, .slice _ _ _]) (cs := [.slice _ _ _, .slice _ _ _, .slice _ _ _]) Tryd.underlying70 T35 (by decide) rfl rfl rfl rfl rfl rfl (by intro v hv; simp only [List.mem_cons, List.not_mem_nil, or_false] at hv; rcases hv with rfl | rfl | rfl <;> rfl) rfl (fun b15 w15 e15 s15 x15 B15 => ?_)
    refine RS.norm (by dsimp only [List.set]) ?_
    replace hE := Ext.tr hE x15
    replace D0 := D0.ext x15
    replace B2 := B2.ext x15
    replace OM := OM.ext x15
    replace OA := OA.ext x15
    replace OB := OB.ext x15
    have zw15 := x15.size
    refine RS.nil ⟨x15, ?_⟩
    refine RX.eff ?_
    refine RS.call E43 (concat [⟨a10, n10, c10, S.msgS o⟩, ⟨a13, n13, c13, S.numS o.e⟩, ⟨a14, n14, c14, S.numS o.s⟩] _ _ _ _ (PRow.of_blkE B15 rfl rfl ⟨⟨_, OM.row, pOM⟩, ⟨_, OA.row, pOA⟩, ⟨_, OB.row, pOB⟩, trivial⟩) (show (3 : Nat) ≤ 1000 by decide) (by simp [cat]; omega)) rfl (fun v16 w16 x16 A16 => ?_)
    replace hE := Ext.tr hE x16
    replace D0 := D0.ext x16
    replace B2 := B2.ext x16
    replace OM := OM.ext x16
    replace OA := OA.ext x16
    replace OB := OB.ext x16
    replace B15 := B15.ext x16
    have zw16 := x16.size
    obtain ⟨a16, n16, c16, rfl, O1⟩ := A16
    have ecat : cat [⟨a10, n10, c10, S.msgS o⟩, ⟨a13, n13, c13, S.numS o.e⟩, ⟨a14, n14, c14, S.numS o.s⟩] = S.encS o := by simp [cat, S.encS]
    rw [ecat] at O1
    refine RS.norm (by dsimp only [List.set]) ?_
    refine RS.nil ⟨x16, ?_⟩
    refine RX.assign (v := .slice _ _ _) rfl ?_
    refine RX.assign (v := .int .i64 0) rfl ?_
    refine RX.nil ?_
    refine hK11 _ _ ?_
    try clear hK11
    refine wp_ret ?_
    refine ret (rs := [.tmp 2, .tmp 3]) (vs := [.slice _ _ _, .int _ _]) (v := (.tuple #[.slice _ _ _, .int _ _])) rfl ⟨rfl, rfl, trivial⟩ rfl ?_
    exact ⟨_, rfl, hE, _, _, _, _, by rw [hz], O1.base (fun k hk => by have := O1.lo k hk; omega), (if_pos hz).symm⟩

theorem bytesOR {S0 : Nat → Prop} (o : S.OpV) (ho : o.ok) (pa : Option Addr) (pc : Nat) (w : World) (D0 : WRow .u8 32 S0 w pa o.n o.ids) (hc : o.n ≤ pc) (h4 : o.n ≤ 4) (hF : o.k = 4 → S.FineV o.vk o.num o.bits o.t) :
    Calls Tryd.prog 49 #[.agg ([.int .u32 o.au, .slice pa o.n pc, .int .u64 o.st, .int .u8 o.k, .string o.key, .int .u8 o.vk, .int .i64 o.num, .int .u64 o.bits, .string o.t, .int .u32 o.e, .int .u32 o.s] : List Value).toArray] w (Ret w fun v w' => ∃ a' n' c', v = .slice a' n' c' ∧ IOwn w.heap.size w' 5 .u8 a' n' c' (S.encS o)) := by
  replace D0 := D0.weaken (T := fun k => k < w.heap.size) (fun k hk _ => hk)
  have o1 := ho.au
  have o2 := ho.st
  have o3 := ho.k
  have o4 := ho.vk
  have o5 := ho.num
  have o6 := ho.bits
  have o7 := ho.e
  have o8 := ho.s
  have o9 := ho.n
  have o10 := ho.key
  have o11 := ho.t
  have e4 := D0.len
  have e7 := S.numS_len o.e
  have e8 := S.numS_len o.s
  have hml := S.msg_len o ho h4 e4
  have hE := Ext.refl w
  refine enter (args := [.agg ([.int .u32 o.au, .slice pa o.n pc, .int .u64 o.st, .int .u8 o.k, .string o.key, .int .u8 o.vk, .int .i64 o.num, .int .u64 o.bits, .string o.t, .int .u32 o.e, .int .u32 o.s] : List Value).toArray]) (l := [.agg ([.int .u32 o.au, .slice pa o.n pc, .int .u64 o.st, .int .u8 o.k, .string o.key, .int .u8 o.vk, .int .i64 o.num, .int .u64 o.bits, .string o.t, .int .u32 o.e, .int .u32 o.s] : List Value).toArray, undef, undef, undef, undef, undef, undef, undef, undef, undef, undef, undef, undef, undef, undef, undef, undef]) Tryd.func49 rfl rfl ?_
  refine wp_seq_k (fun K1 hK1 => ?_)
  refine region ?_
  refine RS.box rfl rfl (fun b2 w2 e2 s2 x2 B2 => ?_)
  refine RS.norm (by dsimp only [List.set]) ?_
  replace hE := Ext.tr hE x2
  replace D0 := D0.ext x2
  have zw2 := x2.size
  refine RS.assign (v := .slice none 0 0) rfl ?_
  refine RS.nil ?_
  refine hK1 _ _ ?_
  try clear hK1
  refine wp_seq_k (fun K3 hK3 => ?_)
  refine regionX (Below w2.heap.size) [(0, .q), (2, .q), (3, .q), (4, .q), (5, .q), (8, .q), (9, .q), (10, .q), (11, .q), (1, .e), (6, .e), (7, .e), (12, .e), (13, .g), (14, .q)] mixed (fun w => Below.refl _ _) (fun h k => Below.trans h k) (by kernel_rfl) (fun w4 x4 => ?_)
  replace hE := Ext.tr hE x4
  replace D0 := D0.ext x4
  replace B2 := B2.ext x4
  have zw4 := x4.size
  refine RX.o (fun w' hw => D.loadAgg rfl Tryd.underlying32 rfl C32 (by decide) rfl ((B2.bel hw (by omega)).cellsN 11 rfl)) ?_
  refine RX.o (fun w' hw => D.fieldL 9 rfl Tryd.underlying32 rfl C30 (by decide) rfl) ?_
  refine RX.o (fun w' hw => D.fieldL 9 rfl Tryd.underlying30 rfl C22 (by decide) rfl) ?_
  refine RX.o (fun w' hw => D.load rfl Tryd.underlying22 rfl ((B2.bel hw (by omega)).cell rfl)) ?_
  refine RX.o (fun w' hw => D.conv rfl Tryd.underlying22 Tryd.underlying24 (W.u64 (by omega))) ?_
  refine RX.o (fun w' hw => D.fieldL 9 rfl Tryd.underlying32 rfl C30 (by decide) rfl) ?_
  refine RX.o (fun w' hw => D.fieldL 10 rfl Tryd.underlying30 rfl C22 (by decide) rfl) ?_
  refine RX.o (fun w' hw => D.load rfl Tryd.underlying22 rfl ((B2.bel hw (by omega)).cell rfl)) ?_
  refine RX.o (fun w' hw => D.conv rfl Tryd.underlying22 Tryd.underlying24 (W.u64 (by omega))) ?_
  refine RX.eff ?_
  refine RS.call E48 (textOR o ho _ _ _ D0 hc h4 hF) rfl (fun v5 w5 x5 A5 => ?_)
  replace hE := Ext.tr hE x5
  replace D0 := D0.ext x5
  replace B2 := B2.ext x5
  have zw5 := x5.size
  obtain ⟨a5, n5, c5, rfl, O1⟩ := A5
  have hO1 := O1.len
  refine RS.norm (by dsimp only [List.set]) ?_
  refine RS.nil ⟨(x5.mono (by omega)), ?_⟩
  refine RX.eff ?_
  refine RS.call E83 (numR _ (by omega) _) rfl (fun v6 w6 x6 A6 => ?_)
  replace hE := Ext.tr hE x6
  replace D0 := D0.ext x6
  replace B2 := B2.ext x6
  replace O1 := O1.ext x6
  have zw6 := x6.size
  obtain ⟨a6, n6, c6, rfl, O2⟩ := A6
  have hO2 := O2.len
  have pO2 := O2.own.pre
  refine RS.norm (by dsimp only [List.set]) ?_
  refine RS.nil ⟨(x6.mono (by omega)), ?_⟩
  refine RX.eff ?_
  refine RS.appendI O1 O2.row rfl rfl Tryd.underlying35 T5 rfl (by omega) (by decide) (by omega) (fun a7 c7 w7 N7 x7 => ?_)
  refine RS.norm (by dsimp only [List.set]) ?_
  replace hE := hE.trans (x7.below (by intros; try (first | (intro _ _) | (intro _) | skip); first | omega | (have hq := O1.lo _ (by assumption); first | omega | (dsimp only at *; omega))) (by intros; try (first | (intro _ _) | (intro _) | skip); first | omega | (dsimp only at *; omega) | (simp_all; done) | (simp at *; omega)))
  replace D0 := D0.pr x7 (by intros; try (first | (intro _ _) | (intro _) | skip); first | omega | (have hq := O1.lo _ (by assumption); first | omega | (dsimp only at *; omega)))
  replace B2 := B2.pr x7 (by intros; try (first | (intro _ _) | (intro _) | skip); first | omega | (have hq := O1.lo _ (by assumption); first | omega | (dsimp only at *; omega)))
  have zw7 := x7.size
  have lr7 : Below w2.heap.size w6 w7 := x7.below (by intros; try (first | (intro _ _) | (intro _) | skip); first | omega | (have hq := O1.own.lo _ (by assumption); first | omega | (dsimp only at *; omega))) (by intros; try (first | (intro _ _) | (intro _) | skip); first | omega | (dsimp only at *; omega) | (simp_all; done) | (simp at *; omega))
  replace O1 := N7
  refine RS.norm (by dsimp only [List.set]) ?_
  have hO3 := O1.len
  refine RS.nil ⟨(lr7), ?_⟩
  refine RX.eff ?_
  refine RS.call E83 (numR _ (by omega) _) rfl (fun v8 w8 x8 A8 => ?_)
  replace hE := Ext.tr hE x8
  replace D0 := D0.ext x8
  replace B2 := B2.ext x8
  replace O1 := O1.ext x8
  have zw8 := x8.size
  obtain ⟨a8, n8, c8, rfl, O2⟩ := A8
  have hO2 := O2.len
  have pO2 := O2.own.pre
  refine RS.norm (by dsimp only [List.set]) ?_
  refine RS.nil ⟨(x8.mono (by omega)), ?_⟩
  refine RX.big ?_
  refine RS.appendI O1 O2.row rfl rfl Tryd.underlying35 T5 rfl (by omega) (by decide) (by omega) (fun a9 c9 w9 N9 x9 => ?_)
  refine RS.norm (by dsimp only [List.set]) ?_
  replace hE := hE.trans (x9.below (by intros; try (first | (intro _ _) | (intro _) | skip); first | omega | (have hq := O1.lo _ (by assumption); first | omega | (dsimp only at *; omega))) (by intros; try (first | (intro _ _) | (intro _) | skip); first | omega | (dsimp only at *; omega) | (simp_all; done) | (simp at *; omega)))
  replace D0 := D0.pr x9 (by intros; try (first | (intro _ _) | (intro _) | skip); first | omega | (have hq := O1.lo _ (by assumption); first | omega | (dsimp only at *; omega)))
  replace B2 := B2.pr x9 (by intros; try (first | (intro _ _) | (intro _) | skip); first | omega | (have hq := O1.lo _ (by assumption); first | omega | (dsimp only at *; omega)))
  have zw9 := x9.size
  have lr9 : Below w2.heap.size w8 w9 := x9.below (by intros; try (first | (intro _ _) | (intro _) | skip); first | omega | (have hq := O1.own.lo _ (by assumption); first | omega | (dsimp only at *; omega))) (by intros; try (first | (intro _ _) | (intro _) | skip); first | omega | (dsimp only at *; omega) | (simp_all; done) | (simp at *; omega))
  replace O1 := N9
  refine RS.nil ?_
  refine RX.assign (v := .slice _ _ _) rfl ?_
  refine RX.nil ?_
  refine hK3 _ _ ?_
  try clear hK3
  refine wp_ret ?_
  refine ret (rs := [.tmp 2]) (vs := [.slice _ _ _]) (v := (.slice _ _ _)) rfl ⟨rfl, trivial⟩ rfl ?_
  exact ⟨_, rfl, hE, _, _, _, rfl, O1.base (fun k hk => by have := O1.lo k hk; omega)⟩

theorem messageOR {S0 : Nat → Prop} (o : S.OpV) (ho : o.ok) (pa : Option Addr) (pc : Nat) (w : World) (D0 : WRow .u8 32 S0 w pa o.n o.ids) (hc : o.n ≤ pc) :
    Calls Tryd.prog 13 #[.agg ([.int .u32 o.au, .slice pa o.n pc, .int .u64 o.st, .int .u8 o.k, .string o.key, .int .u8 o.vk, .int .i64 o.num, .int .u64 o.bits, .string o.t, .int .u32 o.e, .int .u32 o.s] : List Value).toArray] w (Ret w fun v w' => ∃ a' n' c' xs, v = .tuple #[.slice a' n' c', .int .i64 (S.checkE o.bare)] ∧ IOwn w.heap.size w' 5 .u8 a' n' c' xs ∧ xs = if S.checkE o.bare = 0 then S.msgS o else []) := by
  replace D0 := D0.weaken (T := fun k => k < w.heap.size) (fun k hk _ => hk)
  have o1 := ho.au
  have o2 := ho.st
  have o3 := ho.k
  have o4 := ho.vk
  have o5 := ho.num
  have o6 := ho.bits
  have o7 := ho.e
  have o8 := ho.s
  have o9 := ho.n
  have o10 := ho.key
  have o11 := ho.t
  have e4 := D0.len
  have e7 := S.numS_len o.e
  have e8 := S.numS_len o.s
  have hE := Ext.refl w
  refine enter (args := [.agg ([.int .u32 o.au, .slice pa o.n pc, .int .u64 o.st, .int .u8 o.k, .string o.key, .int .u8 o.vk, .int .i64 o.num, .int .u64 o.bits, .string o.t, .int .u32 o.e, .int .u32 o.s] : List Value).toArray]) (l := [.agg ([.int .u32 o.au, .slice pa o.n pc, .int .u64 o.st, .int .u8 o.k, .string o.key, .int .u8 o.vk, .int .i64 o.num, .int .u64 o.bits, .string o.t, .int .u32 o.e, .int .u32 o.s] : List Value).toArray, undef, undef, undef, undef, undef, undef, undef, undef, undef, undef, undef, undef]) Tryd.func13 rfl rfl ?_
  refine wp_seq_k (fun K1 hK1 => ?_)
  refine region ?_
  refine RS.box rfl rfl (fun b2 w2 e2 s2 x2 B2 => ?_)
  refine RS.norm (by dsimp only [List.set]) ?_
  replace hE := Ext.tr hE x2
  replace D0 := D0.ext x2
  have zw2 := x2.size
  refine RS.assign (v := .slice none 0 0) rfl ?_
  refine RS.assign (v := .int .i64 0) rfl ?_
  refine RS.nil ?_
  refine hK1 _ _ ?_
  try clear hK1
  refine wp_seq_k (fun K3 hK3 => ?_)
  refine wp_seq_k (fun K4 hK4 => ?_)
  refine region ?_
  refine RS.o (D.loadAgg rfl Tryd.underlying32 rfl C32 (by decide) rfl (B2.cellsN 11 rfl)) ?_
  refine RS.call E47 (bareR o _ _ _) rfl (fun v5 w5 x5 A5 => ?_)
  replace hE := Ext.tr hE x5
  replace D0 := D0.ext x5
  replace B2 := B2.ext x5
  have zw5 := x5.size
  subst A5
  refine RS.norm (by dsimp only [List.set]) ?_
  refine RS.call E21 (checkOR o.bare (S.OpV.bare_ok ho) _ _ _ D0 hc) rfl (fun v6 w6 x6 A6 => ?_)
  replace hE := Ext.tr hE x6
  replace D0 := D0.ext x6
  replace B2 := B2.ext x6
  have zw6 := x6.size
  subst A6
  refine RS.norm (by dsimp only [List.set]) ?_
  refine RS.o (D.ne rfl rfl) ?_
  refine RS.nil ?_
  refine hK4 _ _ ?_
  try clear hK4
  refine C.ifn rfl (fun c7 => ?_) (fun c7 => ?_)
  · have hnz := c7
    refine wp_seq_k (fun K8 hK8 => ?_)
    refine region ?_
    refine RS.o (D.loadAgg rfl Tryd.underlying32 rfl C32 (by decide) rfl (B2.cellsN 11 rfl)) ?_
    refine RS.call E47 (bareR o _ _ _) rfl (fun v9 w9 x9 A9 => ?_)
    replace hE := Ext.tr hE x9
    replace D0 := D0.ext x9
    replace B2 := B2.ext x9
    have zw9 := x9.size
    subst A9
    refine RS.norm (by dsimp only [List.set]) ?_
    refine RS.call E21 (checkOR o.bare (S.OpV.bare_ok ho) _ _ _ D0 hc) rfl (fun v10 w10 x10 A10 => ?_)
    replace hE := Ext.tr hE x10
    replace D0 := D0.ext x10
    replace B2 := B2.ext x10
    have zw10 := x10.size
    subst A10
    refine RS.norm (by dsimp only [List.set]) ?_
    refine RS.assign (v := .slice none 0 0) rfl ?_
    refine RS.assign (v := .int _ _) rfl ?_
    refine RS.nil ?_
    refine hK8 _ _ ?_
    try clear hK8
    refine wp_ret ?_
    refine ret (rs := [.tmp 2, .tmp 3]) (vs := [.slice _ _ _, .int _ _]) (v := (.tuple #[.slice _ _ _, .int _ _])) rfl ⟨rfl, rfl, trivial⟩ rfl ?_
    exact ⟨_, rfl, hE, none, 0, 0, [], rfl, IOwn.nil _ _ _ _, (if_neg hnz).symm⟩
  · have hz := c7
    obtain ⟨q1, q2, q3⟩ := S.check_zero.1 hz
    have hfv : o.k = 4 → S.FineV o.vk o.num o.bits o.t := fun h4 => by rcases q3.2.2.2.2 with h | h | h; exact absurd h.1 (by show o.k ≠ 1; omega); exact absurd h.1 (by show ¬ (o.k = 2 ∨ o.k = 3); omega); exact h.2.2
    refine wp_skip ?_
    refine hK3 _ _ ?_
    try clear hK3
    refine wp_seq_k (fun K11 hK11 => ?_)
    refine region ?_
    refine RS.o (D.loadAgg rfl Tryd.underlying32 rfl C32 (by decide) rfl (B2.cellsN 11 rfl)) ?_
    refine RS.call E48 (textOR o ho _ _ _ D0 hc q1 hfv) rfl (fun v12 w12 x12 A12 => ?_)
    replace hE := Ext.tr hE x12
    replace D0 := D0.ext x12
    replace B2 := B2.ext x12
    have zw12 := x12.size
    obtain ⟨a12, n12, c12, rfl, O1⟩ := A12
    have hO1 := O1.len
    refine RS.norm (by dsimp only [List.set]) ?_
    refine RS.assign (v := .slice _ _ _) rfl ?_
    refine RS.assign (v := .int .i64 0) rfl ?_
    refine RS.nil ?_
    refine hK11 _ _ ?_
    try clear hK11
    refine wp_ret ?_
    refine ret (rs := [.tmp 2, .tmp 3]) (vs := [.slice _ _ _, .int _ _]) (v := (.tuple #[.slice _ _ _, .int _ _])) rfl ⟨rfl, rfl, trivial⟩ rfl ?_
    exact ⟨_, rfl, hE, _, _, _, _, by rw [hz], O1.base (fun k hk => by have := O1.lo k hk; omega), (if_pos hz).symm⟩

theorem encodeOR {S0 : Nat → Prop} (o : S.OpV) (ho : o.ok) (pa : Option Addr) (pc : Nat) (w : World) (D0 : WRow .u8 32 S0 w pa o.n o.ids) (hc : o.n ≤ pc) :
    Calls Tryd.prog 15 #[.agg ([.int .u32 o.au, .slice pa o.n pc, .int .u64 o.st, .int .u8 o.k, .string o.key, .int .u8 o.vk, .int .i64 o.num, .int .u64 o.bits, .string o.t, .int .u32 o.e, .int .u32 o.s] : List Value).toArray] w (Ret w fun v w' => ∃ a' n' c' xs, v = .tuple #[.slice a' n' c', .int .i64 (S.checkE o)] ∧ IOwn w.heap.size w' 5 .u8 a' n' c' xs ∧ xs = if S.checkE o = 0 then S.encS o else []) := by
  replace D0 := D0.weaken (T := fun k => k < w.heap.size) (fun k hk _ => hk)
  have o1 := ho.au
  have o2 := ho.st
  have o3 := ho.k
  have o4 := ho.vk
  have o5 := ho.num
  have o6 := ho.bits
  have o7 := ho.e
  have o8 := ho.s
  have o9 := ho.n
  have o10 := ho.key
  have o11 := ho.t
  have e4 := D0.len
  have e7 := S.numS_len o.e
  have e8 := S.numS_len o.s
  have hE := Ext.refl w
  refine enter (args := [.agg ([.int .u32 o.au, .slice pa o.n pc, .int .u64 o.st, .int .u8 o.k, .string o.key, .int .u8 o.vk, .int .i64 o.num, .int .u64 o.bits, .string o.t, .int .u32 o.e, .int .u32 o.s] : List Value).toArray]) (l := [.agg ([.int .u32 o.au, .slice pa o.n pc, .int .u64 o.st, .int .u8 o.k, .string o.key, .int .u8 o.vk, .int .i64 o.num, .int .u64 o.bits, .string o.t, .int .u32 o.e, .int .u32 o.s] : List Value).toArray, undef, undef, undef, undef, undef, undef, undef, undef, undef, undef]) Tryd.func15 rfl rfl ?_
  refine wp_seq_k (fun K1 hK1 => ?_)
  refine region ?_
  refine RS.box rfl rfl (fun b2 w2 e2 s2 x2 B2 => ?_)
  refine RS.norm (by dsimp only [List.set]) ?_
  replace hE := Ext.tr hE x2
  replace D0 := D0.ext x2
  have zw2 := x2.size
  refine RS.assign (v := .slice none 0 0) rfl ?_
  refine RS.assign (v := .int .i64 0) rfl ?_
  refine RS.nil ?_
  refine hK1 _ _ ?_
  try clear hK1
  refine wp_seq_k (fun K3 hK3 => ?_)
  refine wp_seq_k (fun K4 hK4 => ?_)
  refine region ?_
  refine RS.o (D.loadAgg rfl Tryd.underlying32 rfl C32 (by decide) rfl (B2.cellsN 11 rfl)) ?_
  refine RS.call E21 (checkOR o ho _ _ _ D0 hc) rfl (fun v5 w5 x5 A5 => ?_)
  replace hE := Ext.tr hE x5
  replace D0 := D0.ext x5
  replace B2 := B2.ext x5
  have zw5 := x5.size
  subst A5
  refine RS.norm (by dsimp only [List.set]) ?_
  refine RS.o (D.ne rfl rfl) ?_
  refine RS.nil ?_
  refine hK4 _ _ ?_
  try clear hK4
  refine C.ifn rfl (fun c6 => ?_) (fun c6 => ?_)
  · have hnz := c6
    refine wp_seq_k (fun K7 hK7 => ?_)
    refine region ?_
    refine RS.o (D.loadAgg rfl Tryd.underlying32 rfl C32 (by decide) rfl (B2.cellsN 11 rfl)) ?_
    refine RS.call E21 (checkOR o ho _ _ _ D0 hc) rfl (fun v8 w8 x8 A8 => ?_)
    replace hE := Ext.tr hE x8
    replace D0 := D0.ext x8
    replace B2 := B2.ext x8
    have zw8 := x8.size
    subst A8
    refine RS.norm (by dsimp only [List.set]) ?_
    refine RS.assign (v := .slice none 0 0) rfl ?_
    refine RS.assign (v := .int _ _) rfl ?_
    refine RS.nil ?_
    refine hK7 _ _ ?_
    try clear hK7
    refine wp_ret ?_
    refine ret (rs := [.tmp 2, .tmp 3]) (vs := [.slice _ _ _, .int _ _]) (v := (.tuple #[.slice _ _ _, .int _ _])) rfl ⟨rfl, rfl, trivial⟩ rfl ?_
    exact ⟨_, rfl, hE, none, 0, 0, [], rfl, IOwn.nil _ _ _ _, (if_neg hnz).symm⟩
  · have hz := c6
    obtain ⟨q1, q2, q3⟩ := S.check_zero.1 hz
    have hml := S.msg_len o ho q1 e4
    have hzb : S.checkE o.bare = 0 := S.check_zero.2 ⟨q1, q2, q3.1, q3.2.1, (by show (0 : Int) < 500000003; decide), (by show (0 : Int) < 500000003; decide), q3.2.2.2.2⟩
    have hfv : o.k = 4 → S.FineV o.vk o.num o.bits o.t := fun h4 => by rcases q3.2.2.2.2 with h | h | h; exact absurd h.1 (by show o.k ≠ 1; omega); exact absurd h.1 (by show ¬ (o.k = 2 ∨ o.k = 3); omega); exact h.2.2
    refine wp_skip ?_
    refine hK3 _ _ ?_
    try clear hK3
    refine wp_seq_k (fun K9 hK9 => ?_)
    refine region ?_
    refine RS.o (D.loadAgg rfl Tryd.underlying32 rfl C32 (by decide) rfl (B2.cellsN 11 rfl)) ?_
    refine RS.call E49 (bytesOR o ho _ _ _ D0 hc q1 hfv) rfl (fun v10 w10 x10 A10 => ?_)
    replace hE := Ext.tr hE x10
    replace D0 := D0.ext x10
    replace B2 := B2.ext x10
    have zw10 := x10.size
    obtain ⟨a10, n10, c10, rfl, O1⟩ := A10
    refine RS.norm (by dsimp only [List.set]) ?_
    refine RS.assign (v := .slice _ _ _) rfl ?_
    refine RS.assign (v := .int .i64 0) rfl ?_
    refine RS.nil ?_
    refine hK9 _ _ ?_
    try clear hK9
    refine wp_ret ?_
    refine ret (rs := [.tmp 2, .tmp 3]) (vs := [.slice _ _ _, .int _ _]) (v := (.tuple #[.slice _ _ _, .int _ _])) rfl ⟨rfl, rfl, trivial⟩ rfl ?_
    exact ⟨_, rfl, hE, _, _, _, _, by rw [hz], O1.base (fun k hk => by have := O1.lo k hk; omega), (if_pos hz).symm⟩

theorem ofO {S0 : Nat → Prop} (o : S.OpV) (ho : o.ok) (pa : Option Addr) (pc : Nat) (w : World) (D0 : WRow .u8 32 S0 w pa o.n o.ids) (hc : o.n ≤ pc) (h4 : o.n ≤ 4) (hF : o.k = 4 → S.FineV o.vk o.num o.bits o.t) :
    Calls Tryd.prog 50 #[.agg ([.int .u32 o.au, .slice pa o.n pc, .int .u64 o.st, .int .u8 o.k, .string o.key, .int .u8 o.vk, .int .i64 o.num, .int .u64 o.bits, .string o.t, .int .u32 o.e, .int .u32 o.s] : List Value).toArray] w (Ret w fun v _ => v = .agg (ints .u8 (S.sha (S.encS o))).toArray) := by
  replace D0 := D0.weaken (T := fun k => k < w.heap.size) (fun k hk _ => hk)
  have o1 := ho.au
  have o2 := ho.st
  have o3 := ho.k
  have o4 := ho.vk
  have o5 := ho.num
  have o6 := ho.bits
  have o7 := ho.e
  have o8 := ho.s
  have o9 := ho.n
  have o10 := ho.key
  have o11 := ho.t
  have e4 := D0.len
  have e7 := S.numS_len o.e
  have e8 := S.numS_len o.s
  have hml := S.msg_len o ho h4 e4
  have hel : (S.encS o).length ≤ 418 := by unfold S.encS; rw [List.length_append, List.length_append]; omega
  have hE := Ext.refl w
  refine enter (args := [.agg ([.int .u32 o.au, .slice pa o.n pc, .int .u64 o.st, .int .u8 o.k, .string o.key, .int .u8 o.vk, .int .i64 o.num, .int .u64 o.bits, .string o.t, .int .u32 o.e, .int .u32 o.s] : List Value).toArray]) (l := [.agg ([.int .u32 o.au, .slice pa o.n pc, .int .u64 o.st, .int .u8 o.k, .string o.key, .int .u8 o.vk, .int .i64 o.num, .int .u64 o.bits, .string o.t, .int .u32 o.e, .int .u32 o.s] : List Value).toArray, undef, undef, undef, undef, undef]) Tryd.func50 rfl rfl ?_
  refine wp_seq_k (fun K1 hK1 => ?_)
  refine region ?_
  refine RS.box rfl rfl (fun b2 w2 e2 s2 x2 B2 => ?_)
  refine RS.norm (by dsimp only [List.set]) ?_
  replace hE := Ext.tr hE x2
  replace D0 := D0.ext x2
  have zw2 := x2.size
  refine RS.alloc T42 (fun b3 w3 e3 s3 x3 B3 => ?_)
  refine RS.norm (by dsimp only [List.set]) ?_
  replace hE := Ext.tr hE x3
  replace D0 := D0.ext x3
  replace B2 := B2.ext x3
  have zw3 := x3.size
  have A3 : IArr .u8 w3 b3 32 (List.replicate 32 0) [] 42 := IArr.zero B3
  clear B3
  refine RS.nil ?_
  refine hK1 _ _ ?_
  try clear hK1
  refine wp_seq_k (fun K4 hK4 => ?_)
  refine region ?_
  refine RS.o (D.loadAgg rfl Tryd.underlying32 rfl C32 (by decide) rfl (B2.cellsN 11 rfl)) ?_
  refine RS.call E49 (bytesOR o ho _ _ _ D0 hc h4 hF) rfl (fun v5 w5 x5 A5 => ?_)
  replace hE := Ext.tr hE x5
  replace D0 := D0.ext x5
  replace B2 := B2.ext x5
  replace A3 := A3.ext x5
  have zw5 := x5.size
  obtain ⟨a5, n5, c5, rfl, O1⟩ := A5
  have hO1 := O1.len
  refine RS.norm (by dsimp only [List.set]) ?_
  refine RS.call E87 (of _ _ _ _ _ O1.row (by omega) O1.own.pre) rfl (fun v6 w6 x6 A6 => ?_)
  replace hE := Ext.tr hE x6
  replace D0 := D0.ext x6
  replace B2 := B2.ext x6
  replace A3 := A3.ext x6
  replace O1 := O1.ext x6
  have zw6 := x6.size
  subst A6
  have hsa := S.sha_arr (S.encS o)
  refine RS.norm (by dsimp only [List.set]) ?_
  refine RS.storeArr A3 rfl rfl C42 (by decide) (by first | assumption | exact And.left (by assumption) | exact IArr.len (by assumption)) (by first | assumption | exact And.right (by assumption) | exact IArr.bd (by assumption)) (fun w7 y7 N7 => ?_)
  replace hE := hE.trans (y7.below (by intros; try (first | (intro _ _) | (intro _) | skip); first | omega | (dsimp only at *; omega) | (simp_all; done) | (simp at *; omega)))
  replace D0 := D0.st y7 (by intros; try (first | (intro _ _) | (intro _) | skip); first | omega | (dsimp only at *; omega) | (simp_all; done) | (simp at *; omega))
  replace B2 := B2.st y7 (by intros; try (first | (intro _ _) | (intro _) | skip); first | omega | (dsimp only at *; omega) | (simp_all; done) | (simp at *; omega))
  replace O1 := O1.st y7 (by intros; try (first | (intro _ _) | (intro _) | skip); first | omega | (have hq := O1.own.lo _ (by assumption); first | omega | (dsimp only at *; omega)))
  have zw7 := y7.size
  replace A3 := N7
  refine RS.nil ?_
  refine hK4 _ _ ?_
  try clear hK4
  refine wp_ret ?_
  refine ret (rs := [.cell 2 42]) (vs := [.agg _]) (v := (.agg _)) rfl ⟨⟨_, rfl, loadVar_agg Tryd.underlying42 rfl C42 (by decide) (by rw [ints_length, A3.len]) A3.cells⟩, trivial⟩ rfl ?_
  exact ⟨_, rfl, hE, rfl⟩

theorem idO {S0 : Nat → Prop} (o : S.OpV) (ho : o.ok) (pa : Option Addr) (pc : Nat) (TK : TypeId) (w : World) (K0 : Kst w TK) (D0 : WRow .u8 32 S0 w pa o.n o.ids) (hc : o.n ≤ pc) :
    Calls Tryd.prog 16 #[.agg ([.int .u32 o.au, .slice pa o.n pc, .int .u64 o.st, .int .u8 o.k, .string o.key, .int .u8 o.vk, .int .i64 o.num, .int .u64 o.bits, .string o.t, .int .u32 o.e, .int .u32 o.s] : List Value).toArray] w (Ret w fun v _ => v = .tuple #[.agg (ints .u8 (if S.checkE o = 0 then S.sha (S.encS o) else List.replicate 32 0)).toArray, .int .i64 (S.checkE o)]) := by
  replace D0 := D0.weaken (T := fun k => k < w.heap.size) (fun k hk _ => hk)
  have o1 := ho.au
  have o2 := ho.st
  have o3 := ho.k
  have o4 := ho.vk
  have o5 := ho.num
  have o6 := ho.bits
  have o7 := ho.e
  have o8 := ho.s
  have o9 := ho.n
  have o10 := ho.key
  have o11 := ho.t
  have e4 := D0.len
  have e7 := S.numS_len o.e
  have e8 := S.numS_len o.s
  have hz0 := Arr.zeros .u8 32
  have hKl := K0.lt
  have hE := Ext.refl w
  refine enter (args := [.agg ([.int .u32 o.au, .slice pa o.n pc, .int .u64 o.st, .int .u8 o.k, .string o.key, .int .u8 o.vk, .int .i64 o.num, .int .u64 o.bits, .string o.t, .int .u32 o.e, .int .u32 o.s] : List Value).toArray]) (l := [.agg ([.int .u32 o.au, .slice pa o.n pc, .int .u64 o.st, .int .u8 o.k, .string o.key, .int .u8 o.vk, .int .i64 o.num, .int .u64 o.bits, .string o.t, .int .u32 o.e, .int .u32 o.s] : List Value).toArray, undef, undef, undef, undef, undef, undef, undef, undef, undef, undef, undef, undef, undef, undef, undef, undef, undef, undef]) Tryd.func16 rfl rfl ?_
  refine wp_seq_k (fun K1 hK1 => ?_)
  refine region ?_
  refine RS.box rfl rfl (fun b2 w2 e2 s2 x2 B2 => ?_)
  refine RS.norm (by dsimp only [List.set]) ?_
  replace hE := Ext.tr hE x2
  replace K0 := K0.ext x2
  replace D0 := D0.ext x2
  have zw2 := x2.size
  refine RS.alloc T42 (fun b3 w3 e3 s3 x3 B3 => ?_)
  refine RS.norm (by dsimp only [List.set]) ?_
  replace hE := Ext.tr hE x3
  replace K0 := K0.ext x3
  replace D0 := D0.ext x3
  replace B2 := B2.ext x3
  have zw3 := x3.size
  have A3 : IArr .u8 w3 b3 32 (List.replicate 32 0) [] 42 := IArr.zero B3
  clear B3
  refine RS.assign (v := .int .i64 0) rfl ?_
  refine RS.nil ?_
  refine hK1 _ _ ?_
  try clear hK1
  refine wp_seq_k (fun K4 hK4 => ?_)
  refine region ?_
  refine RS.o (D.loadAgg rfl Tryd.underlying32 rfl C32 (by decide) rfl (B2.cellsN 11 rfl)) ?_
  refine RS.call E14 (encodeO o ho _ _ _ D0 hc) rfl (fun v5 w5 x5 A5 => ?_)
  replace hE := Ext.tr hE x5
  replace K0 := K0.ext x5
  replace D0 := D0.ext x5
  replace B2 := B2.ext x5
  replace A3 := A3.ext x5
  have zw5 := x5.size
  obtain ⟨a5, n5, c5, xs, rfl, O1, hxs⟩ := A5
  refine RS.norm (by dsimp only [List.set]) ?_
  refine RS.move (v := .tuple _) rfl ?_
  refine RS.extract (v := .slice _ _ _) rfl rfl ?_
  refine RS.extract (v := .int _ _) rfl rfl ?_
  refine RS.assign (v := .slice _ _ _) rfl ?_
  refine RS.assign (v := .int _ _) rfl ?_
  refine RS.nil ?_
  refine hK4 _ _ ?_
  try clear hK4
  refine wp_seq_k (fun K6 hK6 => ?_)
  refine wp_seq_k (fun K7 hK7 => ?_)
  refine region ?_
  refine RS.move (v := .int _ _) rfl ?_
  refine RS.o (D.ne rfl rfl) ?_
  refine RS.nil ?_
  refine hK7 _ _ ?_
  try clear hK7
  refine C.ifn rfl (fun c8 => ?_) (fun c8 => ?_)
  · have hnz := c8
    refine wp_seq_k (fun K9 hK9 => ?_)
    refine region ?_
    refine RS.o (D.build0 Tryd.underlying42 T42 C5) ?_
    refine RS.move (v := .int _ _) rfl ?_
    refine RS.storeArr A3 rfl rfl C42 (by decide) (by first | assumption | exact And.left (by assumption) | exact IArr.len (by assumption)) (by first | assumption | exact And.right (by assumption) | exact IArr.bd (by assumption)) (fun w10 y10 N10 => ?_)
    replace hE := hE.trans (y10.below (by intros; try (first | (intro _ _) | (intro _) | skip); first | omega | (dsimp only at *; omega) | (simp_all; done) | (simp at *; omega)))
    replace K0 := K0.st y10 (by intros; try (first | (intro _ _) | (intro _) | skip); first | omega | (dsimp only at *; omega) | (simp_all; done) | (simp at *; omega))
    replace D0 := D0.st y10 (by intros; try (first | (intro _ _) | (intro _) | skip); first | omega | (dsimp only at *; omega) | (simp_all; done) | (simp at *; omega))
    replace B2 := B2.st y10 (by intros; try (first | (intro _ _) | (intro _) | skip); first | omega | (dsimp only at *; omega) | (simp_all; done) | (simp at *; omega))
    replace O1 := O1.st y10 (by intros; try (first | (intro _ _) | (intro _) | skip); first | omega | (have hq := O1.own.lo _ (by assumption); first | omega | (dsimp only at *; omega)))
    have zw10 := y10.size
    replace A3 := N10
    refine RS.assign (v := .int _ _) rfl ?_
    refine RS.nil ?_
    refine hK9 _ _ ?_
    try clear hK9
    refine wp_ret ?_
    refine ret (rs := [.cell 2 42, .tmp 3]) (vs := [.agg _, .int _ _]) (v := (.tuple #[.agg _, .int _ _])) rfl ⟨⟨_, rfl, loadVar_agg Tryd.underlying42 rfl C42 (by decide) (by rw [ints_length, A3.len]) A3.cells⟩, rfl, trivial⟩ rfl ?_
    rw [if_neg hnz]
    exact ⟨_, rfl, hE, rfl⟩
  · have hz := c8
    obtain ⟨q1, q2, q3⟩ := S.check_zero.1 hz
    have hml := S.msg_len o ho q1 e4
    have hel : (S.encS o).length ≤ 418 := by unfold S.encS; rw [List.length_append, List.length_append]; omega
    rw [if_pos hz] at hxs
    subst hxs
    refine wp_skip ?_
    refine hK6 _ _ ?_
    try clear hK6
    refine wp_seq_k (fun K11 hK11 => ?_)
    refine region ?_
    refine RS.move (v := .slice _ _ _) rfl ?_
    refine RS.call E36 (sum _ _ _ _ _ _ K0 O1.row O1.own.pre (by have := O1.len; omega)) rfl (fun v12 w12 x12 A12 => ?_)
    replace hE := Ext.tr hE x12
    replace K0 := K0.ext x12
    replace D0 := D0.ext x12
    replace B2 := B2.ext x12
    replace A3 := A3.ext x12
    replace O1 := O1.ext x12
    have zw12 := x12.size
    subst A12
    have hsa := S.sha_arr (S.encS o)
    refine RS.norm (by dsimp only [List.set]) ?_
    refine RS.extract (v := .agg _) rfl rfl ?_
    refine RS.extract (v := .int _ _) rfl rfl ?_
    refine RS.storeArr A3 rfl rfl C42 (by decide) (by first | assumption | exact And.left (by assumption) | exact IArr.len (by assumption)) (by first | assumption | exact And.right (by assumption) | exact IArr.bd (by assumption)) (fun w13 y13 N13 => ?_)
    replace hE := hE.trans (y13.below (by intros; try (first | (intro _ _) | (intro _) | skip); first | omega | (dsimp only at *; omega) | (simp_all; done) | (simp at *; omega)))
    replace K0 := K0.st y13 (by intros; try (first | (intro _ _) | (intro _) | skip); first | omega | (dsimp only at *; omega) | (simp_all; done) | (simp at *; omega))
    replace D0 := D0.st y13 (by intros; try (first | (intro _ _) | (intro _) | skip); first | omega | (dsimp only at *; omega) | (simp_all; done) | (simp at *; omega))
    replace B2 := B2.st y13 (by intros; try (first | (intro _ _) | (intro _) | skip); first | omega | (dsimp only at *; omega) | (simp_all; done) | (simp at *; omega))
    replace O1 := O1.st y13 (by intros; try (first | (intro _ _) | (intro _) | skip); first | omega | (have hq := O1.own.lo _ (by assumption); first | omega | (dsimp only at *; omega)))
    have zw13 := y13.size
    replace A3 := N13
    refine RS.assign (v := .int _ _) rfl ?_
    refine RS.nil ?_
    refine hK11 _ _ ?_
    try clear hK11
    refine wp_ret ?_
    refine ret (rs := [.cell 2 42, .tmp 3]) (vs := [.agg _, .int _ _]) (v := (.tuple #[.agg _, .int _ _])) rfl ⟨⟨_, rfl, loadVar_agg Tryd.underlying42 rfl C42 (by decide) (by rw [ints_length, A3.len]) A3.cells⟩, rfl, trivial⟩ rfl ?_
    rw [if_pos hz, hz]
    exact ⟨_, rfl, hE, rfl⟩

theorem idOR {S0 : Nat → Prop} (o : S.OpV) (ho : o.ok) (pa : Option Addr) (pc : Nat) (w : World) (D0 : WRow .u8 32 S0 w pa o.n o.ids) (hc : o.n ≤ pc) :
    Calls Tryd.prog 17 #[.agg ([.int .u32 o.au, .slice pa o.n pc, .int .u64 o.st, .int .u8 o.k, .string o.key, .int .u8 o.vk, .int .i64 o.num, .int .u64 o.bits, .string o.t, .int .u32 o.e, .int .u32 o.s] : List Value).toArray] w (Ret w fun v _ => v = .tuple #[.agg (ints .u8 (if S.checkE o = 0 then S.sha (S.encS o) else List.replicate 32 0)).toArray, .int .i64 (S.checkE o)]) := by
  replace D0 := D0.weaken (T := fun k => k < w.heap.size) (fun k hk _ => hk)
  have o1 := ho.au
  have o2 := ho.st
  have o3 := ho.k
  have o4 := ho.vk
  have o5 := ho.num
  have o6 := ho.bits
  have o7 := ho.e
  have o8 := ho.s
  have o9 := ho.n
  have o10 := ho.key
  have o11 := ho.t
  have e4 := D0.len
  have e7 := S.numS_len o.e
  have e8 := S.numS_len o.s
  have hz0 := Arr.zeros .u8 32
  have hE := Ext.refl w
  refine enter (args := [.agg ([.int .u32 o.au, .slice pa o.n pc, .int .u64 o.st, .int .u8 o.k, .string o.key, .int .u8 o.vk, .int .i64 o.num, .int .u64 o.bits, .string o.t, .int .u32 o.e, .int .u32 o.s] : List Value).toArray]) (l := [.agg ([.int .u32 o.au, .slice pa o.n pc, .int .u64 o.st, .int .u8 o.k, .string o.key, .int .u8 o.vk, .int .i64 o.num, .int .u64 o.bits, .string o.t, .int .u32 o.e, .int .u32 o.s] : List Value).toArray, undef, undef, undef, undef, undef, undef, undef, undef, undef, undef, undef]) Tryd.func17 rfl rfl ?_
  refine wp_seq_k (fun K1 hK1 => ?_)
  refine region ?_
  refine RS.box rfl rfl (fun b2 w2 e2 s2 x2 B2 => ?_)
  refine RS.norm (by dsimp only [List.set]) ?_
  replace hE := Ext.tr hE x2
  replace D0 := D0.ext x2
  have zw2 := x2.size
  refine RS.alloc T42 (fun b3 w3 e3 s3 x3 B3 => ?_)
  refine RS.norm (by dsimp only [List.set]) ?_
  replace hE := Ext.tr hE x3
  replace D0 := D0.ext x3
  replace B2 := B2.ext x3
  have zw3 := x3.size
  have A3 : IArr .u8 w3 b3 32 (List.replicate 32 0) [] 42 := IArr.zero B3
  clear B3
  refine RS.assign (v := .int .i64 0) rfl ?_
  refine RS.nil ?_
  refine hK1 _ _ ?_
  try clear hK1
  refine wp_seq_k (fun K4 hK4 => ?_)
  refine wp_seq_k (fun K5 hK5 => ?_)
  refine region ?_
  refine RS.o (D.loadAgg rfl Tryd.underlying32 rfl C32 (by decide) rfl (B2.cellsN 11 rfl)) ?_
  refine RS.call E21 (checkOR o ho _ _ _ D0 hc) rfl (fun v6 w6 x6 A6 => ?_)
  replace hE := Ext.tr hE x6
  replace D0 := D0.ext x6
  replace B2 := B2.ext x6
  replace A3 := A3.ext x6
  have zw6 := x6.size
  subst A6
  refine RS.norm (by dsimp only [List.set]) ?_
  refine RS.o (D.ne rfl rfl) ?_
  refine RS.nil ?_
  refine hK5 _ _ ?_
  try clear hK5
  refine C.ifn rfl (fun c7 => ?_) (fun c7 => ?_)
  · have hnz := c7
    refine wp_seq_k (fun K8 hK8 => ?_)
    refine region ?_
    refine RS.o (D.build0 Tryd.underlying42 T42 C5) ?_
    refine RS.o (D.loadAgg rfl Tryd.underlying32 rfl C32 (by decide) rfl (B2.cellsN 11 rfl)) ?_
    refine RS.call E21 (checkOR o ho _ _ _ D0 hc) rfl (fun v9 w9 x9 A9 => ?_)
    replace hE := Ext.tr hE x9
    replace D0 := D0.ext x9
    replace B2 := B2.ext x9
    replace A3 := A3.ext x9
    have zw9 := x9.size
    subst A9
    refine RS.norm (by dsimp only [List.set]) ?_
    refine RS.storeArr A3 rfl rfl C42 (by decide) (by first | assumption | exact And.left (by assumption) | exact IArr.len (by assumption)) (by first | assumption | exact And.right (by assumption) | exact IArr.bd (by assumption)) (fun w10 y10 N10 => ?_)
    replace hE := hE.trans (y10.below (by intros; try (first | (intro _ _) | (intro _) | skip); first | omega | (dsimp only at *; omega) | (simp_all; done) | (simp at *; omega)))
    replace D0 := D0.st y10 (by intros; try (first | (intro _ _) | (intro _) | skip); first | omega | (dsimp only at *; omega) | (simp_all; done) | (simp at *; omega))
    replace B2 := B2.st y10 (by intros; try (first | (intro _ _) | (intro _) | skip); first | omega | (dsimp only at *; omega) | (simp_all; done) | (simp at *; omega))
    have zw10 := y10.size
    replace A3 := N10
    refine RS.assign (v := .int _ _) rfl ?_
    refine RS.nil ?_
    refine hK8 _ _ ?_
    try clear hK8
    refine wp_ret ?_
    refine ret (rs := [.cell 2 42, .tmp 3]) (vs := [.agg _, .int _ _]) (v := (.tuple #[.agg _, .int _ _])) rfl ⟨⟨_, rfl, loadVar_agg Tryd.underlying42 rfl C42 (by decide) (by rw [ints_length, A3.len]) A3.cells⟩, rfl, trivial⟩ rfl ?_
    rw [if_neg hnz]
    exact ⟨_, rfl, hE, rfl⟩
  · have hz := c7
    obtain ⟨q1, q2, q3⟩ := S.check_zero.1 hz
    have hml := S.msg_len o ho q1 e4
    have hzb : S.checkE o.bare = 0 := S.check_zero.2 ⟨q1, q2, q3.1, q3.2.1, (by show (0 : Int) < 500000003; decide), (by show (0 : Int) < 500000003; decide), q3.2.2.2.2⟩
    have hfv : o.k = 4 → S.FineV o.vk o.num o.bits o.t := fun h4 => by rcases q3.2.2.2.2 with h | h | h; exact absurd h.1 (by show o.k ≠ 1; omega); exact absurd h.1 (by show ¬ (o.k = 2 ∨ o.k = 3); omega); exact h.2.2
    refine wp_skip ?_
    refine hK4 _ _ ?_
    try clear hK4
    refine wp_seq_k (fun K11 hK11 => ?_)
    refine region ?_
    refine RS.o (D.loadAgg rfl Tryd.underlying32 rfl C32 (by decide) rfl (B2.cellsN 11 rfl)) ?_
    refine RS.call E50 (ofO o ho _ _ _ D0 hc q1 hfv) rfl (fun v12 w12 x12 A12 => ?_)
    replace hE := Ext.tr hE x12
    replace D0 := D0.ext x12
    replace B2 := B2.ext x12
    replace A3 := A3.ext x12
    have zw12 := x12.size
    subst A12
    have hsa := S.sha_arr (S.encS o)
    refine RS.norm (by dsimp only [List.set]) ?_
    refine RS.storeArr A3 rfl rfl C42 (by decide) (by first | assumption | exact And.left (by assumption) | exact IArr.len (by assumption)) (by first | assumption | exact And.right (by assumption) | exact IArr.bd (by assumption)) (fun w13 y13 N13 => ?_)
    replace hE := hE.trans (y13.below (by intros; try (first | (intro _ _) | (intro _) | skip); first | omega | (dsimp only at *; omega) | (simp_all; done) | (simp at *; omega)))
    replace D0 := D0.st y13 (by intros; try (first | (intro _ _) | (intro _) | skip); first | omega | (dsimp only at *; omega) | (simp_all; done) | (simp at *; omega))
    replace B2 := B2.st y13 (by intros; try (first | (intro _ _) | (intro _) | skip); first | omega | (dsimp only at *; omega) | (simp_all; done) | (simp at *; omega))
    have zw13 := y13.size
    replace A3 := N13
    refine RS.assign (v := .int .i64 0) rfl ?_
    refine RS.nil ?_
    refine hK11 _ _ ?_
    try clear hK11
    refine wp_ret ?_
    refine ret (rs := [.cell 2 42, .tmp 3]) (vs := [.agg _, .int _ _]) (v := (.tuple #[.agg _, .int _ _])) rfl ⟨⟨_, rfl, loadVar_agg Tryd.underlying42 rfl C42 (by decide) (by rw [ints_length, A3.len]) A3.cells⟩, rfl, trivial⟩ rfl ?_
    rw [if_pos hz, hz]
    exact ⟨_, rfl, hE, rfl⟩

end Go.Proofs.YtiohpiiiapjblaaDoor.W
