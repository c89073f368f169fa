/-
  Part 8 of the lemmas of these laws: JudgeFinds, JudgeLists, OpReads.
-/
import Derived.Test.YtiohpiiiapjblaaGreatDoorPJb7
namespace Go.Proofs.YtiohpiiiapjblaaGreatDoor.W
open Go.RowKit Go.Proofs.YtiohpiiiapjblaaGreatDoor.G
set_option linter.unusedVariables false
set_option maxRecDepth 20000
set_option maxHeartbeats 8000000
attribute [local irreducible] RS RX
theorem E29 : Enters Tryz.prog 29 := .mk Tryz.func29 (by kernel_rfl) rfl
theorem E31 : Enters Tryz.prog 31 := .mk Tryz.func31 (by kernel_rfl) rfl
theorem E51 : Enters Tryz.prog 51 := .mk Tryz.func51 (by kernel_rfl) rfl
theorem E54 : Enters Tryz.prog 54 := .mk Tryz.func54 (by kernel_rfl) rfl
theorem E60 : Enters Tryz.prog 60 := .mk Tryz.func60 (by kernel_rfl) rfl
theorem E72 : Enters Tryz.prog 72 := .mk Tryz.func72 (by kernel_rfl) rfl
theorem encodeO {S0 : Nat → Prop} (o : S.OpV) (ho : o.ok) (pa : Option Addr) (pc : Nat) (w : World) (D0 : WRow .u8 32 S0 w pa o.n o.ids) (hc : o.n ≤ pc) :
  Calls Tryz.prog 29 #[.agg ([.int .u32 o.au, .slice pa o.n pc, .int .u64 o.st, .int .u8 o.k, .string o.key, .int .u8 o.vk, .int .i64 o.num, .int .u64 o.bits, .string o.t, .int .u32 o.e, .int .u32 o.s] : List Value).toArray] w (Ret w fun v w' => ∃ a' n' c' xs, v = .tuple #[.slice a' n' c', .int .i64 (S.checkE o)] ∧ IOwn w.heap.size w' 5 .u8 a' n' c' xs ∧ xs = if S.checkE o = 0 then S.encS o else []) := by
 replace D0 := D0.weaken (T := fun k => k < w.heap.size) (fun k hk _ => hk)
 have o1 := ho.au
 have o2 := ho.st
 have o3 := ho.k
 have o4 := ho.vk
 have o5 := ho.num
 have o6 := ho.bits
 have o7 := ho.e
 have o8 := ho.s
 have o9 := ho.n
 have o10 := ho.key
 have o11 := ho.t
 have e4 := D0.len
 have e7 := S.numS_len o.e
 have e8 := S.numS_len o.s
 have hE := Ext.refl w
 refine enterU 29 Tryz.func29 rfl rfl ?_
 refine sq fun K1 hK1 => ?_
 refine RS.box rfl rfl (fun b2 w2 e2 s2 x2 B2 => ?_)
 refine RS.nm ?_
 replace hE := Ext.tr hE x2
 replace D0 := D0.ext x2
 have zw2 := x2.size
 refine RS.asS rfl ?_
 refine RS.asI rfl ?_
 refine nl hK1 ?_
 refine wp_seq_k (fun K3 hK3 => ?_)
 refine sq fun K4 hK4 => ?_
 refine RS.o (D.loadAgg rfl Tryz.underlying33 rfl C33 (by decide) rfl (B2.cellsN 11 rfl)) ?_
 refine RS.call E46 (checkO o ho _ _ _ D0 hc) rfl (fun v5 w5 x5 A5 => ?_)
 replace hE := Ext.tr hE x5
 replace D0 := D0.ext x5
 replace B2 := B2.ext x5
 have zw5 := x5.size
 subst A5
 refine RS.nm ?_
 refine RS.asI rfl ?_
 refine nl hK4 ?_
 refine sq fun K6 hK6 => ?_
 refine RS.mvI rfl ?_
 refine RS.o (D.ne rfl rfl) ?_
 refine nl hK6 ?_
 refine C.ifn rfl (fun c7 => ?_) (fun c7 => ?_)
 ·have hnz := c7
  refine sq fun K8 hK8 => ?_
  refine RS.mvI rfl ?_
  refine RS.asS rfl ?_
  refine RS.asI rfl ?_
  refine nl hK8 ?_
  refine wp_ret ?_
  refine ret (rs := [.tmp 2, .tmp 3]) (vs := [.slice _ _ _, .int _ _]) (v := (.tuple #[.slice _ _ _, .int _ _])) rfl ⟨rfl, rfl, trivial⟩ rfl ?_
  exact ⟨_, rfl, hE, none, 0, 0, [], rfl, IOwn.nil _ _ _ _, (if_neg hnz).symm⟩
 have hz := c7
 obtain ⟨q1, q2, q3⟩ := S.check_zero.1 hz
 have hml := S.msg_len o ho q1 e4
 have hzb : S.checkE o.bare = 0 := S.check_zero.2 ⟨q1, q2, q3.1, q3.2.1, (by show (0 : Int) < 500000003; decide), (by show (0 : Int) < 500000003; decide), q3.2.2.2.2⟩
 refine wp_skip ?_
 refine hK3 _ _ ?_
 refine sq fun K9 hK9 => ?_
 refine RS.o (D.loadAgg rfl Tryz.underlying33 rfl C33 (by decide) rfl (B2.cellsN 11 rfl)) ?_
 refine RS.call E54 (messageO o ho _ _ _ D0 hc) rfl (fun v10 w10 x10 A10 => ?_)
 replace hE := Ext.tr hE x10
 replace D0 := D0.ext x10
 replace B2 := B2.ext x10
 have zw10 := x10.size
 obtain ⟨a10, n10, c10, xs, rfl, OM, hxs⟩ := A10
 rw [if_pos hzb] at hxs
 subst hxs
 have hOM := OM.len
 have pOM := OM.own.pre
 refine RS.nm ?_
 refine RS.move (v := .tuple _) rfl ?_
 refine RS.extract (v := .slice _ _ _) rfl rfl ?_
 refine RS.extract (v := .int _ _) rfl rfl ?_
 refine RS.asS rfl ?_
 refine RS.asI rfl ?_
 refine nl hK9 ?_
 refine wp_seq_k (fun K11 hK11 => ?_)
 refine regionX Ext [(0, .q), (1, .q), (2, .q), (3, .q), (4, .q), (6, .q), (7, .q), (8, .q), (9, .q), (5, .e), (10, .e), (11, .e), (12, .e), (13, .q), (14, .q)] mixed Ext.refl (fun h k => h.tr k) (by kernel_rfl) (fun w12 x12 => ?_)
 replace hE := Ext.tr hE x12
 replace D0 := D0.ext x12
 replace B2 := B2.ext x12
 replace OM := OM.ext x12
 have zw12 := x12.size
 refine RX.mvS rfl ?_
 refine RX.o (fun w' hw => D.fieldL 9 rfl Tryz.underlying33 rfl C31 (by decide) rfl) ?_
 refine RX.o (fun w' hw => D.fieldL 9 rfl Tryz.underlying31 rfl C23 (by decide) rfl) ?_
 refine RX.o (fun w' hw => D.load rfl Tryz.underlying23 rfl ((B2.ext hw).cell rfl)) ?_
 refine RX.o (fun w' hw => D.conv rfl Tryz.underlying23 Tryz.underlying25 (W.u64 (by omega))) ?_
 refine RX.o (fun w' hw => D.fieldL 9 rfl Tryz.underlying33 rfl C31 (by decide) rfl) ?_
 refine RX.o (fun w' hw => D.fieldL 10 rfl Tryz.underlying31 rfl C23 (by decide) rfl) ?_
 refine RX.o (fun w' hw => D.load rfl Tryz.underlying23 rfl ((B2.ext hw).cell rfl)) ?_
 refine RX.o (fun w' hw => D.conv rfl Tryz.underlying23 Tryz.underlying25 (W.u64 (by omega))) ?_
 refine RX.eff ?_
 refine RS.call E64 (numW _ (by omega) _) rfl (fun v13 w13 x13 A13 => ?_)
 replace hE := Ext.tr hE x13
 replace D0 := D0.ext x13
 replace B2 := B2.ext x13
 replace OM := OM.ext x13
 have zw13 := x13.size
 obtain ⟨a13, n13, c13, rfl, OA⟩ := A13
 have hOA := OA.len
 have pOA := OA.own.pre
 refine RS.nm ?_
 refine RS.nil ⟨x13, ?_⟩
 refine RX.eff ?_
 refine RS.call E64 (numW _ (by omega) _) rfl (fun v14 w14 x14 A14 => ?_)
 replace hE := Ext.tr hE x14
 replace D0 := D0.ext x14
 replace B2 := B2.ext x14
 replace OM := OM.ext x14
 replace OA := OA.ext x14
 have zw14 := x14.size
 obtain ⟨a14, n14, c14, rfl, OB⟩ := A14
 have hOB := OB.len
 have pOB := OB.own.pre
 refine RS.nm ?_
 refine RS.nil ⟨x14, ?_⟩
 refine RX.eff ?_
 refine RS.buildSlice (xs := [.tmp 17, .tmp 22, .tmp 27]) (vs := [.slice _ _ _, .slice _ _ _, .slice _ _ _]) (cs := [.slice _ _ _, .slice _ _ _, .slice _ _ _]) Tryz.underlying40 T22 (by decide) rfl rfl rfl rfl rfl rfl (by intro v hv; simp only [List.mem_cons, List.not_mem_nil, or_false] at hv; rcases hv with rfl | rfl | rfl <;> rfl) rfl (fun b15 w15 e15 s15 x15 B15 => ?_)
 refine RS.nm ?_
 replace hE := Ext.tr hE x15
 replace D0 := D0.ext x15
 replace B2 := B2.ext x15
 replace OM := OM.ext x15
 replace OA := OA.ext x15
 replace OB := OB.ext x15
 have zw15 := x15.size
 refine RS.nil ⟨x15, ?_⟩
 refine RX.eff ?_
 refine RS.call E63 (concat [⟨a10, n10, c10, S.msgS o⟩, ⟨a13, n13, c13, S.numS o.e⟩, ⟨a14, n14, c14, S.numS o.s⟩] _ _ _ _ (PRow.of_blkE B15 rfl rfl ⟨⟨_, OM.row, pOM⟩, ⟨_, OA.row, pOA⟩, ⟨_, OB.row, pOB⟩, trivial⟩) (show (3 : Nat) ≤ 1000 by decide) (by simp [cat]; omega)) rfl (fun v16 w16 x16 A16 => ?_)
 replace hE := Ext.tr hE x16
 replace D0 := D0.ext x16
 replace B2 := B2.ext x16
 replace OM := OM.ext x16
 replace OA := OA.ext x16
 replace OB := OB.ext x16
 replace B15 := B15.ext x16
 have zw16 := x16.size
 obtain ⟨a16, n16, c16, rfl, O1⟩ := A16
 have ecat : cat [⟨a10, n10, c10, S.msgS o⟩, ⟨a13, n13, c13, S.numS o.e⟩, ⟨a14, n14, c14, S.numS o.s⟩] = S.encS o := by simp [cat, S.encS]
 rw [ecat] at O1
 refine RS.nm ?_
 refine RS.nil ⟨x16, ?_⟩
 refine RX.assign (v := .slice _ _ _) rfl ?_
 refine RX.assign (v := .int .i64 0) rfl ?_
 refine RX.nil (hK11 _ _ ?_)
 refine wp_ret ?_
 refine ret (rs := [.tmp 2, .tmp 3]) (vs := [.slice _ _ _, .int _ _]) (v := (.tuple #[.slice _ _ _, .int _ _])) rfl ⟨rfl, rfl, trivial⟩ rfl ?_
 exact ⟨_, rfl, hE, _, _, _, _, by rw [hz], O1.base (fun k hk => by have := O1.lo k hk; omega), (if_pos hz).symm⟩
theorem bytesOR {S0 : Nat → Prop} (o : S.OpV) (ho : o.ok) (pa : Option Addr) (pc : Nat) (w : World) (D0 : WRow .u8 32 S0 w pa o.n o.ids) (hc : o.n ≤ pc) (h4 : o.n ≤ 4) (hF : o.k = 4 → S.FineV o.vk o.num o.bits o.t) :
  Calls Tryz.prog 51 #[.agg ([.int .u32 o.au, .slice pa o.n pc, .int .u64 o.st, .int .u8 o.k, .string o.key, .int .u8 o.vk, .int .i64 o.num, .int .u64 o.bits, .string o.t, .int .u32 o.e, .int .u32 o.s] : List Value).toArray] w (Ret w fun v w' => ∃ a' n' c', v = .slice a' n' c' ∧ IOwn w.heap.size w' 5 .u8 a' n' c' (S.encS o)) := by
 replace D0 := D0.weaken (T := fun k => k < w.heap.size) (fun k hk _ => hk)
 have o1 := ho.au
 have o2 := ho.st
 have o3 := ho.k
 have o4 := ho.vk
 have o5 := ho.num
 have o6 := ho.bits
 have o7 := ho.e
 have o8 := ho.s
 have o9 := ho.n
 have o10 := ho.key
 have o11 := ho.t
 have e4 := D0.len
 have e7 := S.numS_len o.e
 have e8 := S.numS_len o.s
 have hml := S.msg_len o ho h4 e4
 have hE := Ext.refl w
 refine enterU 16 Tryz.func51 rfl rfl ?_
 refine sq fun K1 hK1 => ?_
 refine RS.box rfl rfl (fun b2 w2 e2 s2 x2 B2 => ?_)
 refine RS.nm ?_
 replace hE := Ext.tr hE x2
 replace D0 := D0.ext x2
 have zw2 := x2.size
 refine RS.asS rfl ?_
 refine nl hK1 ?_
 refine wp_seq_k (fun K3 hK3 => ?_)
 refine regionX (Below w2.heap.size) [(0, .q), (2, .q), (3, .q), (4, .q), (5, .q), (8, .q), (9, .q), (10, .q), (11, .q), (1, .e), (6, .e), (7, .e), (12, .e), (13, .g), (14, .q)] mixed (fun w => Below.refl _ _) (fun h k => Below.trans h k) (by kernel_rfl) (fun w4 x4 => ?_)
 replace hE := Ext.tr hE x4
 replace D0 := D0.ext x4
 replace B2 := B2.ext x4
 have zw4 := x4.size
 refine RX.o (fun w' hw => D.loadAgg rfl Tryz.underlying33 rfl C33 (by decide) rfl ((B2.bel hw (by omega)).cellsN 11 rfl)) ?_
 refine RX.o (fun w' hw => D.fieldL 9 rfl Tryz.underlying33 rfl C31 (by decide) rfl) ?_
 refine RX.o (fun w' hw => D.fieldL 9 rfl Tryz.underlying31 rfl C23 (by decide) rfl) ?_
 refine RX.o (fun w' hw => D.load rfl Tryz.underlying23 rfl ((B2.bel hw (by omega)).cell rfl)) ?_
 refine RX.o (fun w' hw => D.conv rfl Tryz.underlying23 Tryz.underlying25 (W.u64 (by omega))) ?_
 refine RX.o (fun w' hw => D.fieldL 9 rfl Tryz.underlying33 rfl C31 (by decide) rfl) ?_
 refine RX.o (fun w' hw => D.fieldL 10 rfl Tryz.underlying31 rfl C23 (by decide) rfl) ?_
 refine RX.o (fun w' hw => D.load rfl Tryz.underlying23 rfl ((B2.bel hw (by omega)).cell rfl)) ?_
 refine RX.o (fun w' hw => D.conv rfl Tryz.underlying23 Tryz.underlying25 (W.u64 (by omega))) ?_
 refine RX.eff ?_
 refine RS.call E60 (textOR o ho _ _ _ D0 hc h4 hF) rfl (fun v5 w5 x5 A5 => ?_)
 replace hE := Ext.tr hE x5
 replace D0 := D0.ext x5
 replace B2 := B2.ext x5
 have zw5 := x5.size
 obtain ⟨a5, n5, c5, rfl, O1⟩ := A5
 have hO1 := O1.len
 refine RS.nm ?_
 refine RS.nil ⟨(x5.mono (by omega)), ?_⟩
 refine RX.eff ?_
 refine RS.call E84 (numR _ (by omega) _) rfl (fun v6 w6 x6 A6 => ?_)
 replace hE := Ext.tr hE x6
 replace D0 := D0.ext x6
 replace B2 := B2.ext x6
 replace O1 := O1.ext x6
 have zw6 := x6.size
 obtain ⟨a6, n6, c6, rfl, O2⟩ := A6
 have hO2 := O2.len
 have pO2 := O2.own.pre
 refine RS.nm ?_
 refine RS.nil ⟨(x6.mono (by omega)), ?_⟩
 refine RX.eff ?_
 refine RS.appendI O1 O2.row rfl rfl Tryz.underlying22 T5 rfl (by omega) (by decide) (by omega) (fun a7 c7 w7 N7 x7 => ?_)
 refine RS.nm ?_
 replace hE := hE.trans (x7.below (by intros; try (first | (intro _ _) | (intro _) | skip); first | omega | (have hq := O1.lo _ (by assumption); first | omega | (dsimp only at *; omega))) (by intros; try (first | (intro _ _) | (intro _) | skip); first | omega | (dsimp only at *; omega) | (simp_all; done) | (simp at *; omega)))
 replace D0 := D0.pr x7 (by intros; try (first | (intro _ _) | (intro _) | skip); first | omega | (have hq := O1.lo _ (by assumption); first | omega | (dsimp only at *; omega)))
 replace B2 := B2.pr x7 (by intros; try (first | (intro _ _) | (intro _) | skip); first | omega | (have hq := O1.lo _ (by assumption); first | omega | (dsimp only at *; omega)))
 have zw7 := x7.size
 have lr7 : Below w2.heap.size w6 w7 := x7.below (by intros; try (first | (intro _ _) | (intro _) | skip); first | omega | (have hq := O1.own.lo _ (by assumption); first | omega | (dsimp only at *; omega))) (by intros; try (first | (intro _ _) | (intro _) | skip); first | omega | (dsimp only at *; omega) | (simp_all; done) | (simp at *; omega))
 replace O1 := N7
 refine RS.nm ?_
 have hO3 := O1.len
 refine RS.nil ⟨(lr7), ?_⟩
 refine RX.eff ?_
 refine RS.call E84 (numR _ (by omega) _) rfl (fun v8 w8 x8 A8 => ?_)
 replace hE := Ext.tr hE x8
 replace D0 := D0.ext x8
 replace B2 := B2.ext x8
 replace O1 := O1.ext x8
 have zw8 := x8.size
 obtain ⟨a8, n8, c8, rfl, O2⟩ := A8
 have hO2 := O2.len
 have pO2 := O2.own.pre
 refine RS.nm ?_
 refine RS.nil ⟨(x8.mono (by omega)), ?_⟩
 refine RX.big ?_
 refine RS.appendI O1 O2.row rfl rfl Tryz.underlying22 T5 rfl (by omega) (by decide) (by omega) (fun a9 c9 w9 N9 x9 => ?_)
 refine RS.nm ?_
 replace hE := hE.trans (x9.below (by intros; try (first | (intro _ _) | (intro _) | skip); first | omega | (have hq := O1.lo _ (by assumption); first | omega | (dsimp only at *; omega))) (by intros; try (first | (intro _ _) | (intro _) | skip); first | omega | (dsimp only at *; omega) | (simp_all; done) | (simp at *; omega)))
 replace D0 := D0.pr x9 (by intros; try (first | (intro _ _) | (intro _) | skip); first | omega | (have hq := O1.lo _ (by assumption); first | omega | (dsimp only at *; omega)))
 replace B2 := B2.pr x9 (by intros; try (first | (intro _ _) | (intro _) | skip); first | omega | (have hq := O1.lo _ (by assumption); first | omega | (dsimp only at *; omega)))
 have zw9 := x9.size
 have lr9 : Below w2.heap.size w8 w9 := x9.below (by intros; try (first | (intro _ _) | (intro _) | skip); first | omega | (have hq := O1.own.lo _ (by assumption); first | omega | (dsimp only at *; omega))) (by intros; try (first | (intro _ _) | (intro _) | skip); first | omega | (dsimp only at *; omega) | (simp_all; done) | (simp at *; omega))
 replace O1 := N9
 refine RS.nil ?_
 refine RX.assign (v := .slice _ _ _) rfl ?_
 refine RX.nil (hK3 _ _ ?_)
 refine wp_ret ?_
 refine ret (rs := [.tmp 2]) (vs := [.slice _ _ _]) (v := (.slice _ _ _)) rfl ⟨rfl, trivial⟩ rfl ?_
 exact ⟨_, rfl, hE, _, _, _, rfl, O1.base (fun k hk => by have := O1.lo k hk; omega)⟩
theorem ofO {S0 : Nat → Prop} (o : S.OpV) (ho : o.ok) (pa : Option Addr) (pc : Nat) (w : World) (D0 : WRow .u8 32 S0 w pa o.n o.ids) (hc : o.n ≤ pc) (h4 : o.n ≤ 4) (hF : o.k = 4 → S.FineV o.vk o.num o.bits o.t) :
  Calls Tryz.prog 36 #[.agg ([.int .u32 o.au, .slice pa o.n pc, .int .u64 o.st, .int .u8 o.k, .string o.key, .int .u8 o.vk, .int .i64 o.num, .int .u64 o.bits, .string o.t, .int .u32 o.e, .int .u32 o.s] : List Value).toArray] w (Ret w fun v _ => v = .agg (ints .u8 (S.sha (S.encS o))).toArray) := by
 replace D0 := D0.weaken (T := fun k => k < w.heap.size) (fun k hk _ => hk)
 have o1 := ho.au
 have o2 := ho.st
 have o3 := ho.k
 have o4 := ho.vk
 have o5 := ho.num
 have o6 := ho.bits
 have o7 := ho.e
 have o8 := ho.s
 have o9 := ho.n
 have o10 := ho.key
 have o11 := ho.t
 have e4 := D0.len
 have e7 := S.numS_len o.e
 have e8 := S.numS_len o.s
 have hml := S.msg_len o ho h4 e4
 have hel : (S.encS o).length ≤ 418 := by unfold S.encS; rw [List.length_append, List.length_append]; omega
 have hE := Ext.refl w
 refine enterU 5 Tryz.func36 rfl rfl ?_
 refine sq fun K1 hK1 => ?_
 refine RS.box rfl rfl (fun b2 w2 e2 s2 x2 B2 => ?_)
 refine RS.nm ?_
 replace hE := Ext.tr hE x2
 replace D0 := D0.ext x2
 have zw2 := x2.size
 refine RS.alloc T35 (fun b3 w3 e3 s3 x3 B3 => ?_)
 refine RS.nm ?_
 replace hE := Ext.tr hE x3
 replace D0 := D0.ext x3
 replace B2 := B2.ext x3
 have zw3 := x3.size
 have A3 : IArr .u8 w3 b3 32 (List.replicate 32 0) [] 35 := IArr.zero B3
 clear B3
 refine nl hK1 ?_
 refine sq fun K4 hK4 => ?_
 refine RS.o (D.loadAgg rfl Tryz.underlying33 rfl C33 (by decide) rfl (B2.cellsN 11 rfl)) ?_
 refine RS.call E51 (bytesOR o ho _ _ _ D0 hc h4 hF) rfl (fun v5 w5 x5 A5 => ?_)
 replace hE := Ext.tr hE x5
 replace D0 := D0.ext x5
 replace B2 := B2.ext x5
 replace A3 := A3.ext x5
 have zw5 := x5.size
 obtain ⟨a5, n5, c5, rfl, O1⟩ := A5
 have hO1 := O1.len
 refine RS.nm ?_
 refine RS.call E72 (of _ _ _ _ _ O1.row (by omega) O1.own.pre) rfl (fun v6 w6 x6 A6 => ?_)
 replace hE := Ext.tr hE x6
 replace D0 := D0.ext x6
 replace B2 := B2.ext x6
 replace A3 := A3.ext x6
 replace O1 := O1.ext x6
 have zw6 := x6.size
 subst A6
 have hsa := S.sha_arr (S.encS o)
 refine RS.nm ?_
 refine RS.storeArr A3 rfl rfl C35 (by decide) (by first | assumption | exact And.left (by assumption) | exact IArr.len (by assumption)) (by first | assumption | exact And.right (by assumption) | exact IArr.bd (by assumption)) (fun w7 y7 N7 => ?_)
 replace hE := hE.trans (y7.belo)
 replace D0 := D0.sto y7
 replace B2 := B2.sto y7
 replace O1 := O1.st y7 (by intros; try (first | (intro _ _) | (intro _) | skip); first | omega | (have hq := O1.own.lo _ (by assumption); first | omega | (dsimp only at *; omega)))
 have zw7 := y7.size
 replace A3 := N7
 refine nl hK4 ?_
 refine wp_ret ?_
 refine ret (rs := [.cell 2 35]) (vs := [.agg _]) (v := (.agg _)) rfl ⟨⟨_, rfl, loadVar_agg Tryz.underlying35 rfl C35 (by decide) (by rw [ints_length, A3.len]) A3.cells⟩, trivial⟩ rfl ?_
 exact ⟨_, rfl, hE, rfl⟩
theorem idO {S0 : Nat → Prop} (o : S.OpV) (ho : o.ok) (pa : Option Addr) (pc : Nat) (TK : TypeId) (w : World) (K0 : Kst w TK) (D0 : WRow .u8 32 S0 w pa o.n o.ids) (hc : o.n ≤ pc) :
  Calls Tryz.prog 30 #[.agg ([.int .u32 o.au, .slice pa o.n pc, .int .u64 o.st, .int .u8 o.k, .string o.key, .int .u8 o.vk, .int .i64 o.num, .int .u64 o.bits, .string o.t, .int .u32 o.e, .int .u32 o.s] : List Value).toArray] w (Ret w fun v _ => v = .tuple #[.agg (ints .u8 (if S.checkE o = 0 then S.sha (S.encS o) else List.replicate 32 0)).toArray, .int .i64 (S.checkE o)]) := by
 replace D0 := D0.weaken (T := fun k => k < w.heap.size) (fun k hk _ => hk)
 have o1 := ho.au
 have o2 := ho.st
 have o3 := ho.k
 have o4 := ho.vk
 have o5 := ho.num
 have o6 := ho.bits
 have o7 := ho.e
 have o8 := ho.s
 have o9 := ho.n
 have o10 := ho.key
 have o11 := ho.t
 have e4 := D0.len
 have e7 := S.numS_len o.e
 have e8 := S.numS_len o.s
 have hz0 := Arr.zeros .u8 32
 have hKl := K0.lt
 have hE := Ext.refl w
 refine enterU 18 Tryz.func30 rfl rfl ?_
 refine sq fun K1 hK1 => ?_
 refine RS.box rfl rfl (fun b2 w2 e2 s2 x2 B2 => ?_)
 refine RS.nm ?_
 replace hE := Ext.tr hE x2
 replace K0 := K0.ext x2
 replace D0 := D0.ext x2
 have zw2 := x2.size
 refine RS.alloc T35 (fun b3 w3 e3 s3 x3 B3 => ?_)
 refine RS.nm ?_
 replace hE := Ext.tr hE x3
 replace K0 := K0.ext x3
 replace D0 := D0.ext x3
 replace B2 := B2.ext x3
 have zw3 := x3.size
 have A3 : IArr .u8 w3 b3 32 (List.replicate 32 0) [] 35 := IArr.zero B3
 clear B3
 refine RS.asI rfl ?_
 refine nl hK1 ?_
 refine sq fun K4 hK4 => ?_
 refine RS.o (D.loadAgg rfl Tryz.underlying33 rfl C33 (by decide) rfl (B2.cellsN 11 rfl)) ?_
 refine RS.call E29 (encodeO o ho _ _ _ D0 hc) rfl (fun v5 w5 x5 A5 => ?_)
 replace hE := Ext.tr hE x5
 replace K0 := K0.ext x5
 replace D0 := D0.ext x5
 replace B2 := B2.ext x5
 replace A3 := A3.ext x5
 have zw5 := x5.size
 obtain ⟨a5, n5, c5, xs, rfl, O1, hxs⟩ := A5
 refine RS.nm ?_
 refine RS.move (v := .tuple _) rfl ?_
 refine RS.extract (v := .slice _ _ _) rfl rfl ?_
 refine RS.extract (v := .int _ _) rfl rfl ?_
 refine RS.asS rfl ?_
 refine RS.asI rfl ?_
 refine nl hK4 ?_
 refine wp_seq_k (fun K6 hK6 => ?_)
 refine sq fun K7 hK7 => ?_
 refine RS.mvI rfl ?_
 refine RS.o (D.ne rfl rfl) ?_
 refine nl hK7 ?_
 refine C.ifn rfl (fun c8 => ?_) (fun c8 => ?_)
 ·have hnz := c8
  refine sq fun K9 hK9 => ?_
  refine RS.o (D.build0 Tryz.underlying35 T35 C5) ?_
  refine RS.mvI rfl ?_
  refine RS.storeArr A3 rfl rfl C35 (by decide) (by first | assumption | exact And.left (by assumption) | exact IArr.len (by assumption)) (by first | assumption | exact And.right (by assumption) | exact IArr.bd (by assumption)) (fun w10 y10 N10 => ?_)
  replace hE := hE.trans (y10.belo)
  replace K0 := K0.sto y10
  replace D0 := D0.sto y10
  replace B2 := B2.sto y10
  replace O1 := O1.st y10 (by intros; try (first | (intro _ _) | (intro _) | skip); first | omega | (have hq := O1.own.lo _ (by assumption); first | omega | (dsimp only at *; omega)))
  have zw10 := y10.size
  replace A3 := N10
  refine RS.asI rfl ?_
  refine nl hK9 ?_
  refine wp_ret ?_
  refine ret (rs := [.cell 2 35, .tmp 3]) (vs := [.agg _, .int _ _]) (v := (.tuple #[.agg _, .int _ _])) rfl ⟨⟨_, rfl, loadVar_agg Tryz.underlying35 rfl C35 (by decide) (by rw [ints_length, A3.len]) A3.cells⟩, rfl, trivial⟩ rfl ?_
  rw [if_neg hnz]
  exact ⟨_, rfl, hE, rfl⟩
 have hz := c8
 obtain ⟨q1, q2, q3⟩ := S.check_zero.1 hz
 have hml := S.msg_len o ho q1 e4
 have hel : (S.encS o).length ≤ 418 := by unfold S.encS; rw [List.length_append, List.length_append]; omega
 rw [if_pos hz] at hxs
 subst hxs
 refine wp_skip ?_
 refine hK6 _ _ ?_
 refine sq fun K11 hK11 => ?_
 refine RS.mvS rfl ?_
 refine RS.call E31 (sum _ _ _ _ _ _ K0 O1.row O1.own.pre (by have := O1.len; omega)) rfl (fun v12 w12 x12 A12 => ?_)
 replace hE := Ext.tr hE x12
 replace K0 := K0.ext x12
 replace D0 := D0.ext x12
 replace B2 := B2.ext x12
 replace A3 := A3.ext x12
 replace O1 := O1.ext x12
 have zw12 := x12.size
 subst A12
 have hsa := S.sha_arr (S.encS o)
 refine RS.nm ?_
 refine RS.extract (v := .agg _) rfl rfl ?_
 refine RS.extract (v := .int _ _) rfl rfl ?_
 refine RS.storeArr A3 rfl rfl C35 (by decide) (by first | assumption | exact And.left (by assumption) | exact IArr.len (by assumption)) (by first | assumption | exact And.right (by assumption) | exact IArr.bd (by assumption)) (fun w13 y13 N13 => ?_)
 replace hE := hE.trans (y13.belo)
 replace K0 := K0.sto y13
 replace D0 := D0.sto y13
 replace B2 := B2.sto y13
 replace O1 := O1.st y13 (by intros; try (first | (intro _ _) | (intro _) | skip); first | omega | (have hq := O1.own.lo _ (by assumption); first | omega | (dsimp only at *; omega)))
 have zw13 := y13.size
 replace A3 := N13
 refine RS.asI rfl ?_
 refine nl hK11 ?_
 refine wp_ret ?_
 refine ret (rs := [.cell 2 35, .tmp 3]) (vs := [.agg _, .int _ _]) (v := (.tuple #[.agg _, .int _ _])) rfl ⟨⟨_, rfl, loadVar_agg Tryz.underlying35 rfl C35 (by decide) (by rw [ints_length, A3.len]) A3.cells⟩, rfl, trivial⟩ rfl ?_
 rw [if_pos hz, hz]
 exact ⟨_, rfl, hE, rfl⟩
end Go.Proofs.YtiohpiiiapjblaaGreatDoor.W
namespace Go.Proofs.YtiohpiiiapjblaaGreatDoor.S
open G
/-- A number in four bytes. -/
def by4 (n : Int) : List Int := [n / 2 ^ (24 : Int).toNat % 256, n / 2 ^ (16 : Int).toNat % 256, n / 2 ^ (8 : Int).toNat % 256, n % 256]
def headS (kind : Int) (l : List Int) : List Int := kind :: l.flatMap by4
theorem by4_len (n : Int) : (by4 n).length = 4 := rfl
theorem head_snoc (kind : Int) (l : List Int) (i : Nat) (h : i < l.length) : headS kind (l.take (i + 1)) = headS kind (l.take i) ++ by4 (l.getD i 0) := by
  unfold headS
  rw [take_snoc l i h, List.flatMap_append, List.cons_append]
  simp
theorem head_len (kind : Int) : ∀ l : List Int, (headS kind l).length = 1 + 4 * l.length
  | [] => rfl
  | x :: l => by
    have := head_len kind l
    simp only [headS, List.length_cons, List.flatMap_cons, List.length_append, by4_len] at *
    omega
def hashS (kind : Int) (l m : List Int) : Int := be ((sha (headS kind l ++ m)).take 8)
theorem be_step (xs : List Int) (i : Nat) (hB : Bd .u8 xs) (hi : i < 8) (hl : 8 ≤ xs.length) : ior (be (xs.take i) * 2 ^ (8 : Int).toNat % 18446744073709551616) (xs.getD i 0) = be (xs.take (i + 1)) := by
  have hb := be_bd _ (hB.take i)
  have hx := hB.get i
  simp only [lim] at hx
  have hp : (256 : Int) ^ (xs.take i).length ≤ 256 ^ 7 := pow256 (by simp; omega)
  have h256 : (256 : Int) ^ 7 = 72057594037927936 := by decide
  have h8 : (2 : Int) ^ (8 : Int).toNat = 256 := by decide
  rw [take_snoc xs i (by omega), be_snoc, h8, Int.emod_eq_of_lt (by omega) (by omega)]
  exact ior_add _ _ hb.1 hx
theorem be8_lt (xs : List Int) (i : Nat) (hB : Bd .u8 xs) (hi : i ≤ 8) : 0 ≤ be (xs.take i) ∧ be (xs.take i) < 18446744073709551616 := by
  have hb := be_bd _ (hB.take i)
  have hp : (256 : Int) ^ (xs.take i).length ≤ 256 ^ 8 := pow256 (by simp; omega)
  have h256 : (256 : Int) ^ 8 = 18446744073709551616 := by decide
  omega
theorem hash_bd (kind : Int) (l m : List Int) : 0 ≤ hashS kind l m ∧ hashS kind l m < 18446744073709551616 := be8_lt _ 8 (sha_arr _).2 (Nat.le_refl _)
def nonceS (x : Int) (m : List Int) : Int := hashS 110 [x] m % 500000002 + 1
def chalS (r y : Int) (m : List Int) : Int := hashS 99 [r, y] m % 500000003
theorem nonce_bd (x : Int) (m : List Int) : 1 ≤ nonceS x m ∧ nonceS x m < 500000003 := by unfold nonceS; omega
theorem chal_bd (r y : Int) (m : List Int) : 0 ≤ chalS r y m ∧ chalS r y m < 500000003 := by unfold chalS; omega
/-- The public key of a secret. -/
def pubS (x : Int) : Int := pw 4 x 1000000007
def sigE (x : Int) (m : List Int) : Int := chalS (pubS (nonceS x m)) (pubS x) m
def sigS (x : Int) (m : List Int) : Int := (nonceS x m + sigE x m * x % 500000003) % 500000003
def secE (x : Int) : Int := if 0 < x ∧ x < 500000003 then 0 else 2
def verS (y : Int) (m : List Int) (e s : Int) : Int :=
  if isG y = false then 2 else if 9991 < m.length then 4 else if ¬ (e < 500000003 ∧ s < 500000003) then 22
  else if chalS (pubS s * pw y (500000003 - e) 1000000007 % 1000000007) y m = e then 0 else 22
/-- A fast power. -/
def fpw : Nat → Int → Int → Int → Int → Int
  | 0, _, _, r, m => r % m
  | f + 1, a, n, r, m => if n % 2 = 1 then fpw f (a * a % m) (n / 2) (r * a % m) m else fpw f (a * a % m) (n / 2) r m
theorem fpw_eq : ∀ (f : Nat) (a n r m : Int), 0 ≤ n → n < 2 ^ f → fpw f a n r m = r * a ^ n.toNat % m
  | 0, a, n, r, m, h0, h => by
    obtain rfl : n = 0 := by simp at h; omega
    simp [fpw]
  | f + 1, a, n, r, m, h0, h => by
    have h2 : n / 2 < 2 ^ f := by rw [Int.pow_succ] at h; omega
    rw [fpw]
    split
    · rename_i ho
      rw [fpw_eq f _ _ _ _ (by omega) h2, power_odd a r m n h0 ho]
    · rename_i ho
      rw [fpw_eq f _ _ _ _ (by omega) h2, power_even a r m n h0 ho]
theorem pw_fast (a n m : Int) (h0 : 0 ≤ n) (h : n < 1073741824) : pw a n m = fpw 30 a n 1 m := by
  rw [fpw_eq 30 a n 1 m h0 h, pw, Int.one_mul]
theorem pw_pw (a x n m : Int) (hx : 0 ≤ x) (hn : 0 ≤ n) : pw (pw a x m) n m = pw a (x * n) m := by
  unfold pw
  rw [mod_pow, ← Int.pow_mul, Int.toNat_mul hx hn]
theorem pw_add (a x n m : Int) (hx : 0 ≤ x) (hn : 0 ≤ n) : pw a x m * pw a n m % m = pw a (x + n) m := by
  unfold pw
  rw [← Int.mul_emod, ← Int.pow_add, Int.toNat_add hx hn]
theorem pw_cyc (a q t m : Int) (hm : 1 < m) (hq : 0 ≤ q) (ht : 0 ≤ t) (h : pw a q m = 1) : pw a (q * t) m = 1 := by
  rw [← pw_pw a q t m hq ht, h, pw, Int.one_pow]
  exact Int.emod_eq_of_lt (by omega) hm
theorem pw_mod (a q n m : Int) (hm : 1 < m) (hq : 0 < q) (hn : 0 ≤ n) (h : pw a q m = 1) : pw a n m = pw a (n % q) m := by
  have h1 := Int.emod_nonneg n (show q ≠ 0 by omega)
  have h2 : 0 ≤ n / q := Int.ediv_nonneg hn (by omega)
  have h3 := pw_nonneg a (n % q) m (by omega)
  have h4 := pw_lt a (n % q) m (by omega)
  have e : n = q * (n / q) + n % q := (Int.mul_ediv_add_emod n q).symm
  conv => lhs; rw [e]
  rw [← pw_add a _ _ m (Int.mul_nonneg (by omega) h2) h1, pw_cyc a q _ m hm (by omega) h2 h, Int.one_mul]
  exact Int.emod_eq_of_lt h3 h4
theorem gen_one : pw 4 500000003 1000000007 = 1 := by
  rw [pw_fast _ _ _ (by decide) (by decide)]
  decide +kernel
theorem isG_of (a q : Int) (hq : q = 500000003) (h0 : 0 ≤ a) (h1 : a < 1000000007) (h : pw a q 1000000007 = 1) : isG a = true := by
  have h2 : 0 < a := by
    rcases Int.lt_or_eq_of_le h0 with h2 | h2
    · exact h2
    · rw [← h2] at h
      unfold pw at h
      rw [Int.zero_pow (by omega)] at h
      simp at h
  rw [isG_true h2 h1, ← hq, h]
  rfl
theorem isG_one {a : Int} (h : isG a = true) : pw a 500000003 1000000007 = 1 := by
  have hb := isG_bd h
  rw [isG_true hb.1 hb.2] at h
  exact eq_of_beq h
theorem isG_pw (a n q : Int) (hq : q = 500000003) (h1 : pw a q 1000000007 = 1) (hn : 0 ≤ n) : isG (pw a n 1000000007) = true := by
  refine isG_of _ q hq (pw_nonneg _ _ _ (by decide)) (pw_lt _ _ _ (by decide)) ?_
  rw [pw_pw a n q _ hn (by omega), Int.mul_comm, pw_cyc a q n _ (by decide) (by omega) hn h1]
theorem isG_pub (n : Int) (hn : 0 ≤ n) : isG (pubS n) = true := isG_pw 4 n _ rfl gen_one hn
theorem isG_back {a : Int} (n : Int) (h : isG a = true) (hn : 0 ≤ n) : isG (pw a n 1000000007) = true := isG_pw a n _ rfl (isG_one h) hn
theorem sig_bd (x : Int) (m : List Int) : (0 ≤ sigE x m ∧ sigE x m < 500000003) ∧ 0 ≤ sigS x m ∧ sigS x m < 500000003 := ⟨chal_bd _ _ _, by unfold sigS; omega⟩
def OpV.zero : OpV := ⟨0, 0, 0, 0, 0, 0, 0, 0, 0, [], .empty, .empty⟩
theorem OpV.zero_ok : OpV.zero.ok := ⟨by decide, by decide, by decide, by decide, by decide, by decide, by decide, by decide, by decide, by decide, by decide⟩
/-- An operation with another author. -/
def OpV.wit (o : OpV) (x : Int) : OpV := { o with au := pubS x }
def signE (x : Int) (o : OpV) : Int := if secE x = 0 then checkE (o.wit x).bare else 2
def signS (x : Int) (o : OpV) : OpV := if signE x o = 0 then { o.wit x with e := sigE x (msgS (o.wit x)), s := sigS x (msgS (o.wit x)) } else OpV.zero
def verE (o : OpV) : Int := if checkE o = 0 then verS o.au (msgS o) o.e o.s else checkE o
theorem pub_bd (x : Int) : 0 ≤ pubS x ∧ pubS x < 1000000007 := ⟨pw_nonneg _ _ _ (by decide), pw_lt _ _ _ (by decide)⟩
theorem OpV.wit_ok {o : OpV} (x : Int) (h : o.ok) : (o.wit x).ok := ⟨by have := pub_bd x; show 0 ≤ pubS x ∧ pubS x < 4294967296; omega, h.st, h.k, h.vk, h.num, h.bits, h.e, h.s, h.n, h.key, h.t⟩
theorem secE_zero {x : Int} : secE x = 0 ↔ 0 < x ∧ x < 500000003 := by unfold secE; split <;> simp_all
theorem pub_eq (x : Int) : pw 4 x 1000000007 = pubS x := rfl
theorem nonce_eq (x : Int) (m : List Int) : hashS 110 [x] m % 500000002 + 1 = nonceS x m := rfl
theorem chal_eq (r y : Int) (m : List Int) : hashS 99 [r, y] m % 500000003 = chalS r y m := rfl
theorem hash_eq (kind : Int) (l m : List Int) : be ((sha (headS kind l ++ m)).take 8) = hashS kind l m := rfl
theorem sigE_eq (x : Int) (m : List Int) : chalS (pubS (nonceS x m)) (pubS x) m = sigE x m := rfl
theorem sigS_eq (x : Int) (m : List Int) : (nonceS x m + sigE x m * x % 500000003) % 500000003 = sigS x m := rfl
theorem secE_two {x : Int} (h : ¬ secE x = 0) : secE x = 2 := by
  unfold secE at *
  split <;> simp_all
theorem signS_eq {x : Int} {o : OpV} (h : signE x o = 0) : signS x o = { o.wit x with e := sigE x (msgS (o.wit x)), s := sigS x (msgS (o.wit x)) } := by unfold signS; rw [if_pos h]
theorem check_bare {o : OpV} (h : checkE o = 0) : checkE o.bare = 0 := by
  obtain ⟨q1, q2, q3⟩ := check_zero.1 h
  exact check_zero.2 ⟨q1, q2, q3.1, q3.2.1, (by show (0 : Int) < 500000003; decide), (by show (0 : Int) < 500000003; decide), q3.2.2.2.2⟩
theorem signS_ok (x : Int) (o : OpV) (ho : o.ok) : (signS x o).ok := by
  unfold signS
  split
  · have h := OpV.wit_ok x ho
    have hb := sig_bd x (msgS (o.wit x))
    refine ⟨h.au, h.st, h.k, h.vk, h.num, h.bits, ?_, ?_, h.n, h.key, h.t⟩
    · show 0 ≤ sigE x _ ∧ sigE x _ < 4294967296; omega
    · show 0 ≤ sigS x _ ∧ sigS x _ < 4294967296; omega
  · exact OpV.zero_ok
def Fit (o : OpV) : Prop := ¬ (20 < o.n ∨ 100 < o.key.size ∨ 100 < o.t.size) ∧ checkE o = 0
instance (o : OpV) : Decidable (Fit o) := by unfold Fit; infer_instance
def hashE (m : List Int) : Int := if 9991 < m.length then 4 else 0
def nonceE (x : Int) (m : List Int) : Int := if secE x = 0 then hashE m else 2
theorem nonceE_zero {x : Int} {m : List Int} : nonceE x m = 0 ↔ secE x = 0 ∧ hashE m = 0 := by
  unfold nonceE
  split <;> simp_all
attribute [irreducible] hashS nonceS chalS pubS sigE sigS
end Go.Proofs.YtiohpiiiapjblaaGreatDoor.S
namespace Go.Proofs.YtiohpiiiapjblaaGreatDoor.W
open Go.RowKit Go.Proofs.YtiohpiiiapjblaaGreatDoor.G
set_option linter.unusedVariables false
set_option maxRecDepth 20000
set_option maxHeartbeats 8000000
attribute [local irreducible] RS RX
theorem E52 : Enters Tryz.prog 52 := .mk Tryz.func52 (by kernel_rfl) rfl
theorem E88 : Enters Tryz.prog 88 := .mk Tryz.func88 (by kernel_rfl) rfl
theorem E89 : Enters Tryz.prog 89 := .mk Tryz.func89 (by kernel_rfl) rfl
theorem E93 : Enters Tryz.prog 93 := .mk Tryz.func93 (by kernel_rfl) rfl
theorem E94 : Enters Tryz.prog 94 := .mk Tryz.func94 (by kernel_rfl) rfl
theorem E95 : Enters Tryz.prog 95 := .mk Tryz.func95 (by kernel_rfl) rfl
theorem E96 : Enters Tryz.prog 96 := .mk Tryz.func96 (by kernel_rfl) rfl
theorem E105 : Enters Tryz.prog 105 := .mk Tryz.func105 (by kernel_rfl) rfl
theorem E106 : Enters Tryz.prog 106 := .mk Tryz.func106 (by kernel_rfl) rfl
theorem E135 : Enters Tryz.prog 135 := .mk Tryz.func135 (by kernel_rfl) rfl
theorem secCheck (x : Int) (hx : 0 ≤ x ∧ x < 4294967296) (w : World) :
  Calls Tryz.prog 88 #[.int .u32 x] w (Ret w fun v _ => v = .int .i64 (S.secE x)) := by
 have hE := Ext.refl w
 refine enterU 5 Tryz.func88 rfl rfl ?_
 refine sq fun K1 hK1 => ?_
 refine RS.asI rfl ?_
 refine nl hK1 ?_
 refine wp_seq_k (fun K2 hK2 => ?_)
 refine sq fun K3 hK3 => ?_
 refine RS.mvI rfl ?_
 refine RS.o (D.sub rfl rfl (W.u32m _)) ?_
 refine RS.o (D.ge rfl rfl) ?_
 refine nl hK3 ?_
 refine C.ifd rfl (fun c4 => ?_) (fun c4 => ?_)
 ·refine wp_seq_k (fun K5 hK5 => ?_)
  refine region ?_
  refine RS.asI rfl ?_
  refine nl hK5 ?_
  refine wp_ret ?_
  refine retI rfl rfl ?_
  refine ⟨_, rfl, hE, congrArg (Value.int .i64) ?_⟩
  unfold S.secE
  first | rw [if_pos (by omega)] | rw [if_neg (by omega)]
 refine wp_skip ?_
 refine hK2 _ _ ?_
 refine sq fun K6 hK6 => ?_
 refine RS.asI rfl ?_
 refine nl hK6 ?_
 refine wp_ret ?_
 refine retI rfl rfl ?_
 refine ⟨_, rfl, hE, congrArg (Value.int .i64) ?_⟩
 unfold S.secE
 first | rw [if_pos (by omega)] | rw [if_neg (by omega)]
theorem publicW (x : Int) (hx : 0 ≤ x ∧ x < 4294967296) (w : World) :
  Calls Tryz.prog 52 #[.int .u32 x] w (Ret w fun v _ => v = .tuple #[.int .u32 (if S.secE x = 0 then S.pubS x else 0), .int .i64 (S.secE x)]) := by
 have hE := Ext.refl w
 refine enterU 12 Tryz.func52 rfl rfl ?_
 refine sq fun K1 hK1 => ?_
 refine RS.asI rfl ?_
 refine RS.asI rfl ?_
 refine nl hK1 ?_
 refine wp_seq_k (fun K2 hK2 => ?_)
 refine sq fun K3 hK3 => ?_
 refine RS.mvI rfl ?_
 refine RS.call E88 (secCheck _ (by omega) _) rfl (fun v4 w4 x4 A4 => ?_)
 replace hE := Ext.tr hE x4
 have zw4 := x4.size
 subst A4
 refine RS.nm ?_
 refine RS.asI rfl ?_
 refine nl hK3 ?_
 refine sq fun K5 hK5 => ?_
 refine RS.mvI rfl ?_
 refine RS.o (D.ne rfl rfl) ?_
 refine nl hK5 ?_
 refine C.ifn rfl (fun c6 => ?_) (fun c6 => ?_)
 ·have hz := c6
  refine sq fun K7 hK7 => ?_
  refine RS.mvI rfl ?_
  refine RS.asI rfl ?_
  refine RS.asI rfl ?_
  refine nl hK7 ?_
  refine wp_ret ?_
  refine ret (rs := [.tmp 2, .tmp 3]) (vs := [.int _ _, .int _ _]) (v := (.tuple #[.int _ _, .int _ _])) rfl ⟨rfl, rfl, trivial⟩ rfl ?_
  refine ⟨_, rfl, hE, ?_⟩
  rw [if_neg hz]
 have hz := c6
 refine wp_skip ?_
 refine hK2 _ _ ?_
 refine sq fun K8 hK8 => ?_
 refine RS.mvI rfl ?_
 refine RS.o (D.conv rfl Tryz.underlying23 Tryz.underlying25 (W.u64 (by omega))) ?_
 refine RS.call E89 (group_Base _ (by omega) _) rfl (fun v9 w9 x9 A9 => ?_)
 replace hE := Ext.tr hE x9
 have zw9 := x9.size
 subst A9
 refine RS.nm ?_
 refine RS.asI rfl ?_
 refine RS.asI rfl ?_
 refine nl hK8 ?_
 refine wp_ret ?_
 refine ret (rs := [.tmp 2, .tmp 3]) (vs := [.int _ _, .int _ _]) (v := (.tuple #[.int _ _, .int _ _])) rfl ⟨rfl, rfl, trivial⟩ rfl ?_
 refine ⟨_, rfl, hE, ?_⟩
 rw [if_pos hz, hz, S.pub_eq]
theorem hash {S0 S1 : Nat → Prop} (kd : Int) (hkd : 0 ≤ kd ∧ kd < 256) (a : Option Addr) (n c : Nat) (m : List Int) (a2 : Option Addr) (n2 c2 : Nat) (l : List Int) (TK : TypeId) (w : World) (K0 : Kst w TK) (R0 : IRow .u8 S0 w a n m) (hc : n ≤ c) (R1 : IRow .u32 S1 w a2 n2 l) (hn2 : n2 ≤ 5) :
  Calls Tryz.prog 135 #[.int .u8 kd, .slice a n c, .slice a2 n2 c2] w (Ret w fun v _ => v = .tuple #[.int .u64 (if 9991 < m.length then 0 else S.hashS kd l m), .int .i64 (S.hashE m)]) := by
 replace R0 := R0.weaken (T := fun k => k < w.heap.size) (fun k hk _ => hk)
 replace R1 := R1.weaken (T := fun k => k < w.heap.size) (fun k hk _ => hk)
 have hKl := K0.lt
 have hml := R0.len
 have hll := R1.len
 have hE := Ext.refl w
 refine enterU 60 Tryz.func135 rfl rfl ?_
 refine sq fun K1 hK1 => ?_
 refine RS.asI rfl ?_
 refine RS.asI rfl ?_
 refine nl hK1 ?_
 refine wp_seq_k (fun K2 hK2 => ?_)
 refine sq fun K3 hK3 => ?_
 refine RS.mvS rfl ?_
 refine RS.o (D.len rfl Tryz.underlying22) ?_
 refine RS.o (D.gt rfl rfl) ?_
 refine nl hK3 ?_
 refine C.ifd rfl (fun c4 => ?_) (fun c4 => ?_)
 ·have hgt := c4
  refine sq fun K5 hK5 => ?_
  refine RS.asI rfl ?_
  refine RS.asI rfl ?_
  refine nl hK5 ?_
  refine wp_ret ?_
  refine ret (rs := [.tmp 6, .tmp 7]) (vs := [.int _ _, .int _ _]) (v := (.tuple #[.int _ _, .int _ _])) rfl ⟨rfl, rfl, trivial⟩ rfl ?_
  refine ⟨_, rfl, hE, ?_⟩
  unfold S.hashE
  rw [if_pos (by omega), if_pos (by omega)]
 have hgt := c4
 refine wp_skip ?_
 refine hK2 _ _ ?_
 refine sq fun K6 hK6 => ?_
 refine RS.mvI rfl ?_
 refine RS.buildSlice (xs := [.tmp 19]) (vs := [.int _ _]) (cs := [.int _ _]) Tryz.underlying22 T5 (by decide) rfl rfl rfl rfl rfl rfl (by intro v hv; simp only [List.mem_cons, List.not_mem_nil, or_false] at hv; subst hv; rfl) rfl (fun b7 w7 e7 s7 x7 B7 => ?_)
 refine RS.nm ?_
 replace hE := Ext.tr hE x7
 replace K0 := K0.ext x7
 replace R0 := R0.ext x7
 replace R1 := R1.ext x7
 have zw7 := x7.size
 have O1 : IOwn w.heap.size w7 5 .u8 (some ⟨b7, 0, none⟩) 1 1 [_] := IOwn.of_blk B7 rfl rfl (by omega) (.cons (by simp only [lim]; omega) (.nil _)) (by decide)
 refine RS.asS rfl ?_
 refine nl hK6 ?_
 refine wp_seq_k (fun K8 hK8 => ?_)
 refine sq fun K9 hK9 => ?_
 refine RS.mvS rfl ?_
 refine RS.o (D.len rfl Tryz.underlying185) ?_
 refine RS.mvI rfl ?_
 refine nl hK9 ?_
 refine wp_block ?_
 refine C.loop (A := Int × Option Addr × Nat × Nat) (fun p => [(8, .slice p.2.1 p.2.2.1 p.2.2.2), (23, .int .i64 p.1)]) [10, 24, 25, 26, 27, 28, 29, 30, 31, 32, 33, 34, 35, 36, 37, 38, 39, 40, 41] (fun p w' => Pr (fun k => w.heap.size ≤ k) w7 w' ∧ ((0 ≤ p.1 ∧ p.1 ≤ n2) ∧ IOwn w.heap.size w' 5 .u8 p.2.1 p.2.2.1 p.2.2.2 (S.headS kd (l.take p.1.toNat)))) (fun p => (n2 - p.1.toNat)) (0, some ⟨b7, 0, none⟩, 1, 1) (by kernel_rfl) ?_ ?_
 ·exact ⟨Pr.refl _ _, ⟨by dsimp only; omega, by dsimp only; omega⟩, by simpa [S.headS] using O1⟩
 rintro p j w10 ⟨x10, hI⟩
 replace hE := hE.trans (x10.belo)
 replace K0 := K0.pro x10
 replace R0 := R0.pro x10
 replace R1 := R1.pro x10
 have zw10 := x10.size
 obtain ⟨i, ao, no, co⟩ := p
 dsimp only at hI
 obtain ⟨h1, O1⟩ := hI
 have hol := O1.len
 rw [S.head_len, List.length_take] at hol
 refine C.norm (by simp only [upd, junk, List.map_cons, List.map_nil, List.set_cons_succ, List.set_cons_zero]; exact rfl) ?_
 refine sq fun K11 hK11 => ?_
 refine RS.o (D.lt rfl rfl) ?_
 refine nl hK11 ?_
 refine wp_seq_k (fun K12 hK12 => ?_)
 refine C.ifd rfl (fun c13 => ?_) (fun c13 => ?_)
 ·refine wp_skip ?_
  refine hK12 _ _ ?_
  refine wp_seq_k (fun K14 hK14 => ?_)
  refine wp_block ?_
  refine sq fun K15 hK15 => ?_
  refine RS.idx R1 rfl rfl Tryz.underlying185 C23 (by omega) (fun b16 o16 v16 h16 q16 r16 => ?_)
  refine RS.nm ?_
  simp only [lim] at r16
  have q1 := q16
  refine RS.o (D.load rfl Tryz.underlying23 rfl (h16)) ?_
  refine RS.asI rfl ?_
  refine nl hK15 ?_
  refine region ?_
  refine RS.mvS rfl ?_
  refine RS.mvI rfl ?_
  refine RS.ob (D.shr_u32 rfl rfl (by omega) (by constructor <;> omega)) (fun z17 => ?_)
  refine RS.o (D.conv rfl Tryz.underlying23 Tryz.underlying5 (W.u8m _)) ?_
  refine RS.mvI rfl ?_
  refine RS.ob (D.shr_u32 rfl rfl (by omega) (by constructor <;> omega)) (fun z18 => ?_)
  refine RS.o (D.conv rfl Tryz.underlying23 Tryz.underlying5 (W.u8m _)) ?_
  refine RS.mvI rfl ?_
  refine RS.ob (D.shr_u32 rfl rfl (by omega) (by constructor <;> omega)) (fun z19 => ?_)
  refine RS.o (D.conv rfl Tryz.underlying23 Tryz.underlying5 (W.u8m _)) ?_
  refine RS.mvI rfl ?_
  refine RS.o (D.conv rfl Tryz.underlying23 Tryz.underlying5 (W.u8m _)) ?_
  refine RS.buildSlice (xs := [.tmp 30, .tmp 33, .tmp 36, .tmp 38]) (vs := [.int _ _, .int _ _, .int _ _, .int _ _]) (cs := [.int _ _, .int _ _, .int _ _, .int _ _]) Tryz.underlying22 T5 (by decide) rfl rfl rfl rfl rfl rfl (by intro v hv; simp only [List.mem_cons, List.not_mem_nil, or_false] at hv; rcases hv with rfl | rfl | rfl | rfl <;> rfl) rfl (fun b20 w20 e20 s20 x20 B20 => ?_)
  refine RS.nm ?_
  replace hE := Ext.tr hE x20
  replace x10 := x10.ext x20
  replace K0 := K0.ext x20
  replace R0 := R0.ext x20
  replace R1 := R1.ext x20
  replace O1 := O1.ext x20
  have zw20 := x20.size
  have Q1 : IRow .u8 (fun k => k = b20) w20 (some ⟨b20, 0, none⟩) 4 [_, _, _, _] := IRow.of_blk B20 rfl rfl rfl (.cons (by simp only [lim]; omega) (.cons (by simp only [lim]; omega) (.cons (by simp only [lim]; omega) (.cons (by simp only [lim]; omega) (.nil _)))))
  refine RS.appendI O1 Q1 rfl rfl Tryz.underlying22 T5 rfl (by omega) (by decide) (by omega) (fun a21 c21 w21 N21 x21 => ?_)
  refine RS.nm ?_
  replace hE := hE.trans (x21.below (by intros; try (first | (intro _ _) | (intro _) | skip); first | omega | (have hq := O1.lo _ (by assumption); first | omega | (dsimp only at *; omega))) (by intros; try (first | (intro _ _) | (intro _) | skip); first | omega | (dsimp only at *; omega) | (simp_all; done) | (simp at *; omega)))
  replace x10 := x10.prn x21 (by intros; try (first | (intro _ _) | (intro _) | skip); first | omega | (have hq := O1.lo _ (by assumption); first | omega | (dsimp only at *; omega)))
  replace K0 := K0.pr x21 (by intros; try (first | (intro _ _) | (intro _) | skip); first | omega | (have hq := O1.lo _ (by assumption); first | omega | (dsimp only at *; omega)))
  replace R0 := R0.pr x21 (by intros; try (first | (intro _ _) | (intro _) | skip); first | omega | (have hq := O1.lo _ (by assumption); first | omega | (dsimp only at *; omega)))
  replace R1 := R1.pr x21 (by intros; try (first | (intro _ _) | (intro _) | skip); first | omega | (have hq := O1.lo _ (by assumption); first | omega | (dsimp only at *; omega)))
  have zw21 := x21.size
  replace O1 := N21
  refine RS.asS rfl ?_
  refine nl hK14 ?_
  refine region ?_
  refine RS.o (D.add rfl rfl (W.i64 (by omega))) ?_
  refine RS.mvI rfl ?_
  refine RS.nil ?_
  change Nx _ _ _ _ _ _ _ _
  refine C.next (i + 1, _, _, _) ⟨rfl, rfl, trivial⟩ (by kernel_rfl) ?_ ?_
  ·refine ⟨x10, ⟨by dsimp only; omega, by dsimp only; omega⟩, ?_⟩
   dsimp only
   rw [show (i + 1).toNat = i.toNat + 1 by omega, S.head_snoc _ _ _ (by omega), ← q1]
   exact O1
  dsimp only; omega
 refine wp_exit ?_
 refine hK8 _ _ ?_
 refine sq fun K22 hK22 => ?_
 refine RS.mvS rfl ?_
 refine RS.mvS rfl ?_
 refine RS.buildSlice (xs := [.tmp 43, .tmp 44]) (vs := [.slice _ _ _, .slice _ _ _]) (cs := [.slice _ _ _, .slice _ _ _]) Tryz.underlying40 T22 (by decide) rfl rfl rfl rfl rfl rfl (by intro v hv; simp only [List.mem_cons, List.not_mem_nil, or_false] at hv; rcases hv with rfl | rfl <;> rfl) rfl (fun b23 w23 e23 s23 x23 B23 => ?_)
 refine RS.nm ?_
 replace hE := Ext.tr hE x23
 replace K0 := K0.ext x23
 replace R0 := R0.ext x23
 replace R1 := R1.ext x23
 replace O1 := O1.ext x23
 have zw23 := x23.size
 have el : l.take i.toNat = l := List.take_of_length_le (by omega)
 rw [el] at O1
 have pO1 := O1.own.pre
 have hpp : cat [⟨ao, no, co, S.headS kd l⟩, ⟨a, n, c, m⟩] = S.headS kd l ++ m := by simp [cat]
 have hhl := S.head_len kd l
 refine RS.call E65 (pieces [⟨ao, no, co, S.headS kd l⟩, ⟨a, n, c, m⟩] _ _ _ _ _ K0 (PRow.of_blkE B23 rfl rfl ⟨⟨_, O1.row, pO1⟩, ⟨_, R0, hc⟩, trivial⟩) (show (2 : Nat) ≤ 20 by decide) (by intro p hp; simp only [List.mem_cons, List.not_mem_nil, or_false] at hp; rcases hp with rfl | rfl <;> (dsimp only; omega)) (by rw [hpp, List.length_append]; omega)) rfl (fun v24 w24 x24 A24 => ?_)
 replace hE := Ext.tr hE x24
 replace K0 := K0.ext x24
 replace R0 := R0.ext x24
 replace R1 := R1.ext x24
 replace O1 := O1.ext x24
 replace B23 := B23.ext x24
 have zw24 := x24.size
 subst A24
 rw [hpp]
 have hsa := S.sha_arr (S.headS kd l ++ m)
 refine RS.nm ?_
 refine RS.move (v := .tuple _) rfl ?_
 refine RS.extract (v := .agg _) rfl rfl ?_
 refine RS.extract (v := .int _ _) rfl rfl ?_
 refine RS.alloc T35 (fun b25 w25 e25 s25 x25 B25 => ?_)
 refine RS.nm ?_
 replace hE := Ext.tr hE x25
 replace K0 := K0.ext x25
 replace R0 := R0.ext x25
 replace R1 := R1.ext x25
 have zw25 := x25.size
 have A25 : IArr .u8 w25 b25 32 (List.replicate 32 0) [] 35 := IArr.zero B25
 clear B25
 refine RS.storeArr A25 rfl rfl C35 (by decide) hsa.1 hsa.2 (fun w26 y26 N26 => ?_)
 replace hE := hE.trans (y26.belo)
 replace K0 := K0.sto y26
 replace R0 := R0.sto y26
 replace R1 := R1.sto y26
 have zw26 := y26.size
 replace A25 := N26
 refine RS.asI rfl ?_
 refine nl hK22 ?_
 refine sq fun K27 hK27 => ?_
 refine RS.asI rfl ?_
 refine nl hK27 ?_
 refine wp_seq_k (fun K28 hK28 => ?_)
 refine sq fun K29 hK29 => ?_
 refine RS.o (D.sliceArr (kl := .i64) (kh := .i64) rfl Tryz.underlying35 C5 rfl rfl (by omega)) ?_
 refine RS.o (D.len rfl Tryz.underlying22) ?_
 refine RS.mvI rfl ?_
 refine nl hK29 ?_
 refine wp_block ?_
 refine C.loop (A := Int × Int) (fun p => [(13, .int .u64 p.2), (51, .int .i64 p.1)]) [15, 52, 53, 54, 55, 56, 57, 58, 59, 60] (fun p w' => Ext w26 w' ∧ ((0 ≤ p.1 ∧ p.1 ≤ 8) ∧ p.2 = S.be ((S.sha (S.headS kd l ++ m)).take p.1.toNat))) (fun p => (8 - p.1.toNat)) (0, 0) (by kernel_rfl) ?_ ?_
 ·exact ⟨Ext.refl _, ⟨by dsimp only; omega, by dsimp only; omega⟩, rfl⟩
 rintro p j w30 ⟨x30, hI⟩
 replace hE := Ext.tr hE x30
 replace K0 := K0.ext x30
 replace R0 := R0.ext x30
 replace R1 := R1.ext x30
 replace A25 := A25.ext x30
 have zw30 := x30.size
 obtain ⟨i, r⟩ := p
 dsimp only at hI
 obtain ⟨g1, g2⟩ := hI
 have g3 := S.be8_lt (S.sha (S.headS kd l ++ m)) i.toNat hsa.2 (by omega)
 rw [← g2] at g3
 refine C.norm (by simp only [upd, junk, List.map_cons, List.map_nil, List.set_cons_succ, List.set_cons_zero]; exact rfl) ?_
 refine sq fun K31 hK31 => ?_
 refine RS.o (D.lt rfl rfl) ?_
 refine nl hK31 ?_
 refine wp_seq_k (fun K32 hK32 => ?_)
 refine C.ifd rfl (fun c33 => ?_) (fun c33 => ?_)
 ·refine wp_skip ?_
  refine hK32 _ _ ?_
  refine wp_seq_k (fun K34 hK34 => ?_)
  refine wp_block ?_
  refine wp_seq_k (fun K35 hK35 => ?_)
  have QI := (A25.row (S := fun k => k = b25) rfl).sub 0 8 32 (by decide) (by decide) (by decide)
  refine region ?_
  refine RS.idx QI rfl rfl Tryz.underlying22 C5 (by omega) (fun b36 o36 v36 h36 q36 r36 => ?_)
  refine RS.nm ?_
  simp only [lim] at r36
  have q2 := q36
  rw [List.drop_zero, S.take_getD _ _ _ (by omega)] at q2
  refine RS.o (D.load rfl Tryz.underlying5 rfl (h36)) ?_
  refine RS.asI rfl ?_
  refine nl hK35 ?_
  refine region ?_
  refine RS.mvI rfl ?_
  refine RS.o (D.shl rfl rfl (by constructor <;> (try simp only [IntKind.bits]) <;> omega) (by first | exact W.u64 (by omega) | exact W.u64m _)) ?_
  refine RS.mvI rfl ?_
  refine RS.o (D.conv rfl Tryz.underlying5 Tryz.underlying25 (by first | exact W.u64 (by omega) | exact W.u64m _)) ?_
  refine RS.ob (D.bor_u64 rfl rfl (by omega) (by omega)) (fun z37 => ?_)
  refine RS.asI rfl ?_
  refine nl hK34 ?_
  refine region ?_
  refine RS.o (D.add rfl rfl (W.i64 (by omega))) ?_
  refine RS.mvI rfl ?_
  refine RS.nil ?_
  change Nx _ _ _ _ _ _ _ _
  refine C.next (i + 1, _) ⟨rfl, rfl, trivial⟩ (by kernel_rfl) ?_ ?_
  ·refine ⟨x30, ⟨by dsimp only; omega, by dsimp only; omega⟩, ?_⟩
   dsimp only
   rw [show (i + 1).toNat = i.toNat + 1 by omega, ← S.be_step _ _ hsa.2 (by omega) (by rw [hsa.1]; decide), ← g2, ← q2]
   rfl
  dsimp only; omega
 refine wp_exit ?_
 refine hK28 _ _ ?_
 refine sq fun K38 hK38 => ?_
 refine RS.mvI rfl ?_
 refine RS.mvI rfl ?_
 refine RS.asI rfl ?_
 refine RS.asI rfl ?_
 refine nl hK38 ?_
 refine wp_ret ?_
 refine ret (rs := [.tmp 6, .tmp 7]) (vs := [.int _ _, .int _ _]) (v := (.tuple #[.int _ _, .int _ _])) rfl ⟨rfl, rfl, trivial⟩ rfl ?_
 refine ⟨_, rfl, hE, ?_⟩
 unfold S.hashE
 rw [if_neg (by omega), if_neg (by omega), g2, show i.toNat = 8 by omega, S.hash_eq]
theorem nonce (x : Int) (hx : 0 ≤ x ∧ x < 4294967296) {S0 : Nat → Prop} (a : Option Addr) (n c : Nat) (m : List Int) (TK : TypeId) (w : World) (K0 : Kst w TK) (R0 : IRow .u8 S0 w a n m) (hc : n ≤ c) :
  Calls Tryz.prog 93 #[.int .u32 x, .slice a n c] w (Ret w fun v _ => v = .tuple #[.int .u32 (if S.nonceE x m = 0 then S.nonceS x m else 0), .int .i64 (S.nonceE x m)]) := by
 replace R0 := R0.weaken (T := fun k => k < w.heap.size) (fun k hk _ => hk)
 have hKl := K0.lt
 have hml := R0.len
 have hE := Ext.refl w
 refine enterU 26 Tryz.func93 rfl rfl ?_
 refine sq fun K1 hK1 => ?_
 refine RS.asI rfl ?_
 refine RS.asI rfl ?_
 refine nl hK1 ?_
 refine wp_seq_k (fun K2 hK2 => ?_)
 refine sq fun K3 hK3 => ?_
 refine RS.mvI rfl ?_
 refine RS.call E88 (secCheck _ (by omega) _) rfl (fun v4 w4 x4 A4 => ?_)
 replace hE := Ext.tr hE x4
 replace K0 := K0.ext x4
 replace R0 := R0.ext x4
 have zw4 := x4.size
 subst A4
 refine RS.nm ?_
 refine RS.asI rfl ?_
 refine nl hK3 ?_
 refine sq fun K5 hK5 => ?_
 refine RS.mvI rfl ?_
 refine RS.o (D.ne rfl rfl) ?_
 refine nl hK5 ?_
 refine C.ifn rfl (fun c6 => ?_) (fun c6 => ?_)
 ·have hz := c6
  refine sq fun K7 hK7 => ?_
  refine RS.mvI rfl ?_
  refine RS.asI rfl ?_
  refine RS.asI rfl ?_
  refine nl hK7 ?_
  refine wp_ret ?_
  refine ret (rs := [.tmp 4, .tmp 5]) (vs := [.int _ _, .int _ _]) (v := (.tuple #[.int _ _, .int _ _])) rfl ⟨rfl, rfl, trivial⟩ rfl ?_
  refine ⟨_, rfl, hE, ?_⟩
  have e2 := S.secE_two hz
  simp [S.nonceE, e2]
 have hz := c6
 refine wp_skip ?_
 refine hK2 _ _ ?_
 refine sq fun K8 hK8 => ?_
 refine RS.mvS rfl ?_
 refine RS.mvI rfl ?_
 refine RS.buildSlice (xs := [.tmp 16]) (vs := [.int _ _]) (cs := [.int _ _]) Tryz.underlying185 T23 (by decide) rfl rfl rfl rfl rfl rfl (by intro v hv; simp only [List.mem_cons, List.not_mem_nil, or_false] at hv; subst hv; rfl) rfl (fun b9 w9 e9 s9 x9 B9 => ?_)
 refine RS.nm ?_
 replace hE := Ext.tr hE x9
 replace K0 := K0.ext x9
 replace R0 := R0.ext x9
 have zw9 := x9.size
 refine RS.call E135 (hash (S1 := fun k => k = b9) _ (by decide) _ _ _ _ _ 1 _ [x] _ _ K0 R0 hc (.of_blk B9 rfl rfl rfl (.cons (k := .u32) (by simp only [lim]; omega) (.nil _))) (by decide)) rfl (fun v10 w10 x10 A10 => ?_)
 replace hE := Ext.tr hE x10
 replace K0 := K0.ext x10
 replace R0 := R0.ext x10
 replace B9 := B9.ext x10
 have zw10 := x10.size
 subst A10
 refine RS.nm ?_
 refine RS.move (v := .tuple _) rfl ?_
 refine RS.extract (v := .int _ _) rfl rfl ?_
 refine RS.extract (v := .int _ _) rfl rfl ?_
 refine RS.asI rfl ?_
 refine RS.asI rfl ?_
 refine nl hK8 ?_
 refine wp_seq_k (fun K11 hK11 => ?_)
 refine sq fun K12 hK12 => ?_
 refine RS.mvI rfl ?_
 refine RS.o (D.ne rfl rfl) ?_
 refine nl hK12 ?_
 refine C.ifn rfl (fun c13 => ?_) (fun c13 => ?_)
 ·have he := c13
  refine sq fun K14 hK14 => ?_
  refine RS.mvI rfl ?_
  refine RS.asI rfl ?_
  refine RS.asI rfl ?_
  refine nl hK14 ?_
  refine wp_ret ?_
  refine ret (rs := [.tmp 4, .tmp 5]) (vs := [.int _ _, .int _ _]) (v := (.tuple #[.int _ _, .int _ _])) rfl ⟨rfl, rfl, trivial⟩ rfl ?_
  refine ⟨_, rfl, hE, ?_⟩
  have e3 : ¬ S.nonceE x m = 0 := by unfold S.nonceE; rw [if_pos hz]; exact he
  rw [if_neg e3]
  unfold S.nonceE
  rw [if_pos hz]
 have he := c13
 have hm : ¬ 9991 < m.length := by intro h; unfold S.hashE at he; rw [if_pos h] at he; omega
 rw [if_neg hm]
 have hb := S.hash_bd 110 [x] m
 refine wp_skip ?_
 refine hK11 _ _ ?_
 refine sq fun K15 hK15 => ?_
 refine RS.mvI rfl ?_
 refine RS.o (D.rem rfl rfl (by omega) (by omega)) ?_
 refine RS.o (D.conv rfl Tryz.underlying25 Tryz.underlying23 (by first | exact W.u32 (by omega) | exact W.u32m _)) ?_
 refine RS.o (D.add rfl rfl (by first | exact W.u32 (by omega) | exact W.u32m _)) ?_
 refine RS.asI rfl ?_
 refine RS.asI rfl ?_
 refine nl hK15 ?_
 refine wp_ret ?_
 refine ret (rs := [.tmp 4, .tmp 5]) (vs := [.int _ _, .int _ _]) (v := (.tuple #[.int _ _, .int _ _])) rfl ⟨rfl, rfl, trivial⟩ rfl ?_
 refine ⟨_, rfl, hE, ?_⟩
 have e3 : S.nonceE x m = 0 := by unfold S.nonceE; rw [if_pos hz]; exact he
 rw [e3, if_pos rfl, S.nonce_eq]
theorem challenge (r : Int) (hr : 0 ≤ r ∧ r < 4294967296) (y : Int) (hy : 0 ≤ y ∧ y < 4294967296) {S0 : Nat → Prop} (a : Option Addr) (n c : Nat) (m : List Int) (TK : TypeId) (w : World) (K0 : Kst w TK) (R0 : IRow .u8 S0 w a n m) (hc : n ≤ c) :
  Calls Tryz.prog 94 #[.int .u32 r, .int .u32 y, .slice a n c] w (Ret w fun v _ => v = .tuple #[.int .u32 (if S.hashE m = 0 then S.chalS r y m else 0), .int .i64 (S.hashE m)]) := by
 replace R0 := R0.weaken (T := fun k => k < w.heap.size) (fun k hk _ => hk)
 have hKl := K0.lt
 have hml := R0.len
 have hE := Ext.refl w
 refine enterU 21 Tryz.func94 rfl rfl ?_
 refine sq fun K1 hK1 => ?_
 refine RS.asI rfl ?_
 refine RS.asI rfl ?_
 refine nl hK1 ?_
 refine sq fun K2 hK2 => ?_
 refine RS.mvS rfl ?_
 refine RS.mvI rfl ?_
 refine RS.mvI rfl ?_
 refine RS.buildSlice (xs := [.tmp 12, .tmp 13]) (vs := [.int _ _, .int _ _]) (cs := [.int _ _, .int _ _]) Tryz.underlying185 T23 (by decide) rfl rfl rfl rfl rfl rfl (by intro v hv; simp only [List.mem_cons, List.not_mem_nil, or_false] at hv; rcases hv with rfl | rfl <;> rfl) rfl (fun b3 w3 e3 s3 x3 B3 => ?_)
 refine RS.nm ?_
 replace hE := Ext.tr hE x3
 replace K0 := K0.ext x3
 replace R0 := R0.ext x3
 have zw3 := x3.size
 refine RS.call E135 (hash (S1 := fun k => k = b3) _ (by decide) _ _ _ _ _ 2 _ [r, y] _ _ K0 R0 hc (.of_blk B3 rfl rfl rfl (.cons (k := .u32) (by simp only [lim]; omega) (.cons (k := .u32) (by simp only [lim]; omega) (.nil _)))) (by decide)) rfl (fun v4 w4 x4 A4 => ?_)
 replace hE := Ext.tr hE x4
 replace K0 := K0.ext x4
 replace R0 := R0.ext x4
 replace B3 := B3.ext x4
 have zw4 := x4.size
 subst A4
 refine RS.nm ?_
 refine RS.move (v := .tuple _) rfl ?_
 refine RS.extract (v := .int _ _) rfl rfl ?_
 refine RS.extract (v := .int _ _) rfl rfl ?_
 refine RS.asI rfl ?_
 refine RS.asI rfl ?_
 refine nl hK2 ?_
 refine wp_seq_k (fun K5 hK5 => ?_)
 refine sq fun K6 hK6 => ?_
 refine RS.mvI rfl ?_
 refine RS.o (D.ne rfl rfl) ?_
 refine nl hK6 ?_
 refine C.ifn rfl (fun c7 => ?_) (fun c7 => ?_)
 ·have he := c7
  refine sq fun K8 hK8 => ?_
  refine RS.mvI rfl ?_
  refine RS.asI rfl ?_
  refine RS.asI rfl ?_
  refine nl hK8 ?_
  refine wp_ret ?_
  refine ret (rs := [.tmp 6, .tmp 7]) (vs := [.int _ _, .int _ _]) (v := (.tuple #[.int _ _, .int _ _])) rfl ⟨rfl, rfl, trivial⟩ rfl ?_
  refine ⟨_, rfl, hE, ?_⟩
  rw [if_neg he]
 have he := c7
 have hm : ¬ 9991 < m.length := by intro h; unfold S.hashE at he; rw [if_pos h] at he; omega
 rw [if_neg hm]
 have hb := S.hash_bd 99 [r, y] m
 refine wp_skip ?_
 refine hK5 _ _ ?_
 refine sq fun K9 hK9 => ?_
 refine RS.mvI rfl ?_
 refine RS.o (D.rem rfl rfl (by omega) (by omega)) ?_
 refine RS.o (D.conv rfl Tryz.underlying25 Tryz.underlying23 (by first | exact W.u32 (by omega) | exact W.u32m _)) ?_
 refine RS.asI rfl ?_
 refine RS.asI rfl ?_
 refine nl hK9 ?_
 refine wp_ret ?_
 refine ret (rs := [.tmp 6, .tmp 7]) (vs := [.int _ _, .int _ _]) (v := (.tuple #[.int _ _, .int _ _])) rfl ⟨rfl, rfl, trivial⟩ rfl ?_
 refine ⟨_, rfl, hE, ?_⟩
 rw [he, if_pos rfl, S.chal_eq]
theorem signW (x : Int) (hx : 0 ≤ x ∧ x < 4294967296) {S0 : Nat → Prop} (a : Option Addr) (n c : Nat) (m : List Int) (TK : TypeId) (w : World) (K0 : Kst w TK) (R0 : IRow .u8 S0 w a n m) (hc : n ≤ c) :
  Calls Tryz.prog 55 #[.int .u32 x, .slice a n c] w (Ret w fun v _ => v = .tuple #[.agg ([.int .u32 (if S.nonceE x m = 0 then S.sigE x m else 0), .int .u32 (if S.nonceE x m = 0 then S.sigS x m else 0)] : List Value).toArray, .int .i64 (S.nonceE x m)]) := by
 replace R0 := R0.weaken (T := fun k => k < w.heap.size) (fun k hk _ => hk)
 have hKl := K0.lt
 have hml := R0.len
 have hE := Ext.refl w
 refine enterU 53 Tryz.func55 rfl rfl ?_
 refine sq fun K1 hK1 => ?_
 refine RS.alloc T31 (fun b2 w2 e2 s2 x2 B2 => ?_)
 refine RS.nm ?_
 replace hE := Ext.tr hE x2
 replace K0 := K0.ext x2
 replace R0 := R0.ext x2
 have zw2 := x2.size
 refine RS.asI rfl ?_
 refine nl hK1 ?_
 refine sq fun K3 hK3 => ?_
 refine RS.mvI rfl ?_
 refine RS.mvS rfl ?_
 refine RS.call E93 (nonce _ (by omega) _ _ _ _ _ _ K0 R0 hc) rfl (fun v4 w4 x4 A4 => ?_)
 replace hE := Ext.tr hE x4
 replace K0 := K0.ext x4
 replace R0 := R0.ext x4
 replace B2 := B2.ext x4
 have zw4 := x4.size
 subst A4
 refine RS.nm ?_
 refine RS.move (v := .tuple _) rfl ?_
 refine RS.extract (v := .int _ _) rfl rfl ?_
 refine RS.extract (v := .int _ _) rfl rfl ?_
 refine RS.asI rfl ?_
 refine RS.asI rfl ?_
 refine nl hK3 ?_
 refine wp_seq_k (fun K5 hK5 => ?_)
 refine sq fun K6 hK6 => ?_
 refine RS.mvI rfl ?_
 refine RS.o (D.ne rfl rfl) ?_
 refine nl hK6 ?_
 refine C.ifn rfl (fun c7 => ?_) (fun c7 => ?_)
 ·have hz := c7
  refine sq fun K8 hK8 => ?_
  refine RS.o (D.buildS T31 F31 (ps := []) rfl rfl) ?_
  refine RS.mvI rfl ?_
  refine RS.storeAggB rfl rfl C31 (by decide) rfl rfl B2 rfl (fun w9 y9 N9 => ?_)
  replace hE := hE.trans (y9.belo)
  replace K0 := K0.sto y9
  replace R0 := R0.sto y9
  have zw9 := y9.size
  replace B2 := N9
  refine RS.asI rfl ?_
  refine nl hK8 ?_
  refine wp_ret ?_
  refine ret (rs := [.cell 4 31, .tmp 5]) (vs := [.agg _, .int _ _]) (v := (.tuple #[.agg _, .int _ _])) rfl ⟨⟨_, rfl, loadVar_agg Tryz.underlying31 rfl C31 (by decide) rfl (B2.cellsN 2 rfl)⟩, rfl, trivial⟩ rfl ?_
  refine ⟨_, rfl, hE, ?_⟩
  rw [if_neg hz, if_neg hz]
  first | done | rfl
 have hz := c7
 obtain ⟨hsec, hh⟩ := S.nonceE_zero.1 hz
 have hx2 := S.secE_zero.1 hsec
 rw [show (if S.nonceE x m = 0 then S.nonceS x m else 0) = S.nonceS x m from if_pos hz]
 have hb1 := S.nonce_bd x m
 have hb2 := S.pub_bd x
 have hb3 := S.pub_bd (S.nonceS x m)
 have hb4 := S.sig_bd x m
 refine wp_skip ?_
 refine hK5 _ _ ?_
 refine sq fun K10 hK10 => ?_
 refine RS.mvI rfl ?_
 refine RS.call E52 (publicW _ (by omega) _) rfl (fun v11 w11 x11 A11 => ?_)
 replace hE := Ext.tr hE x11
 replace K0 := K0.ext x11
 replace R0 := R0.ext x11
 replace B2 := B2.ext x11
 have zw11 := x11.size
 subst A11
 rw [if_pos hsec]
 refine RS.nm ?_
 refine RS.move (v := .tuple _) rfl ?_
 refine RS.extract (v := .int _ _) rfl rfl ?_
 refine RS.extract (v := .int _ _) rfl rfl ?_
 refine RS.asI rfl ?_
 refine RS.asI rfl ?_
 refine nl hK10 ?_
 refine sq fun K12 hK12 => ?_
 refine RS.mvI rfl ?_
 refine RS.o (D.conv rfl Tryz.underlying23 Tryz.underlying25 (W.u64 (by omega))) ?_
 refine RS.call E89 (group_Base _ (by omega) _) rfl (fun v13 w13 x13 A13 => ?_)
 replace hE := Ext.tr hE x13
 replace K0 := K0.ext x13
 replace R0 := R0.ext x13
 replace B2 := B2.ext x13
 have zw13 := x13.size
 subst A13
 rw [S.pub_eq]
 refine RS.nm ?_
 refine RS.mvI rfl ?_
 refine RS.mvS rfl ?_
 refine RS.call E94 (challenge _ (by omega) _ (by omega) _ _ _ _ _ _ K0 R0 hc) rfl (fun v14 w14 x14 A14 => ?_)
 replace hE := Ext.tr hE x14
 replace K0 := K0.ext x14
 replace R0 := R0.ext x14
 replace B2 := B2.ext x14
 have zw14 := x14.size
 subst A14
 rw [if_pos hh, S.sigE_eq]
 refine RS.nm ?_
 refine RS.move (v := .tuple _) rfl ?_
 refine RS.extract (v := .int _ _) rfl rfl ?_
 refine RS.extract (v := .int _ _) rfl rfl ?_
 refine RS.asI rfl ?_
 refine RS.asI rfl ?_
 refine nl hK12 ?_
 refine sq fun K15 hK15 => ?_
 refine RS.mvI rfl ?_
 refine RS.mvI rfl ?_
 refine RS.call E95 (group_Times _ (by omega) _ (by omega) _) rfl (fun v16 w16 x16 A16 => ?_)
 replace hE := Ext.tr hE x16
 replace K0 := K0.ext x16
 replace R0 := R0.ext x16
 replace B2 := B2.ext x16
 have zw16 := x16.size
 subst A16
 rw [if_pos (show max (S.sigE x m) x < 500000003 by omega)]
 refine RS.nm ?_
 refine RS.move (v := .tuple _) rfl ?_
 refine RS.extract (v := .int _ _) rfl rfl ?_
 refine RS.extract (v := .int _ _) rfl rfl ?_
 refine RS.asI rfl ?_
 refine RS.asI rfl ?_
 refine nl hK15 ?_
 refine sq fun K17 hK17 => ?_
 refine RS.mvI rfl ?_
 refine RS.mvI rfl ?_
 refine RS.call E96 (group_Plus _ (by omega) _ (by omega) _) rfl (fun v18 w18 x18 A18 => ?_)
 replace hE := Ext.tr hE x18
 replace K0 := K0.ext x18
 replace R0 := R0.ext x18
 replace B2 := B2.ext x18
 have zw18 := x18.size
 subst A18
 rw [if_pos (show max (S.nonceS x m) (S.sigE x m * x % 500000003) < 500000003 by omega), S.sigS_eq]
 refine RS.nm ?_
 refine RS.move (v := .tuple _) rfl ?_
 refine RS.extract (v := .int _ _) rfl rfl ?_
 refine RS.extract (v := .int _ _) rfl rfl ?_
 refine RS.asI rfl ?_
 refine RS.asI rfl ?_
 refine nl hK17 ?_
 refine sq fun K19 hK19 => ?_
 refine RS.mvI rfl ?_
 refine RS.mvI rfl ?_
 refine RS.o (D.buildS T31 F31 (ps := [(0, .int _ _), (1, .int _ _)]) rfl rfl) ?_
 refine RS.storeAggB rfl rfl C31 (by decide) rfl rfl B2 rfl (fun w20 y20 N20 => ?_)
 replace hE := hE.trans (y20.belo)
 replace K0 := K0.sto y20
 replace R0 := R0.sto y20
 have zw20 := y20.size
 replace B2 := N20
 refine RS.asI rfl ?_
 refine nl hK19 ?_
 refine wp_ret ?_
 refine ret (rs := [.cell 4 31, .tmp 5]) (vs := [.agg _, .int _ _]) (v := (.tuple #[.agg _, .int _ _])) rfl ⟨⟨_, rfl, loadVar_agg Tryz.underlying31 rfl C31 (by decide) rfl (B2.cellsN 2 rfl)⟩, rfl, trivial⟩ rfl ?_
 refine ⟨_, rfl, hE, ?_⟩
 rw [hz, if_pos rfl, if_pos rfl]
 first | done | rfl
theorem verifyW (y : Int) (hy : 0 ≤ y ∧ y < 4294967296) (e s : Int) (he : 0 ≤ e ∧ e < 4294967296) (hs : 0 ≤ s ∧ s < 4294967296) {S0 : Nat → Prop} (a : Option Addr) (n c : Nat) (m : List Int) (TK : TypeId) (w : World) (K0 : Kst w TK) (R0 : IRow .u8 S0 w a n m) (hc : n ≤ c) :
  Calls Tryz.prog 61 #[.int .u32 y, .slice a n c, .agg ([.int .u32 e, .int .u32 s] : List Value).toArray] w (Ret w fun v _ => v = .int .i64 (S.verS y m e s)) := by
 replace R0 := R0.weaken (T := fun k => k < w.heap.size) (fun k hk _ => hk)
 have hKl := K0.lt
 have hml := R0.len
 have hE := Ext.refl w
 refine enterU 55 Tryz.func61 rfl rfl ?_
 refine sq fun K1 hK1 => ?_
 refine RS.box rfl rfl (fun b2 w2 e2 s2 x2 B2 => ?_)
 refine RS.nm ?_
 replace hE := Ext.tr hE x2
 replace K0 := K0.ext x2
 replace R0 := R0.ext x2
 have zw2 := x2.size
 refine RS.asI rfl ?_
 refine nl hK1 ?_
 refine wp_seq_k (fun K3 hK3 => ?_)
 refine sq fun K4 hK4 => ?_
 refine RS.mvI rfl ?_
 refine RS.call E82 (group_Is _ (by omega) _) rfl (fun v5 w5 x5 A5 => ?_)
 replace hE := Ext.tr hE x5
 replace K0 := K0.ext x5
 replace R0 := R0.ext x5
 replace B2 := B2.ext x5
 have zw5 := x5.size
 subst A5
 refine RS.nm ?_
 refine RS.o (D.not rfl) ?_
 refine nl hK4 ?_
 refine C.ifnot rfl (fun c6 => ?_) (fun c6 => ?_)
 ·have hG := c6
  refine sq fun K7 hK7 => ?_
  refine RS.asI rfl ?_
  refine nl hK7 ?_
  refine wp_ret ?_
  refine retI rfl rfl ?_
  refine ⟨_, rfl, hE, congrArg (Value.int .i64) ?_⟩
  unfold S.verS
  rw [if_pos (by simpa using hG)]
 have hG : S.isG y = true := by simpa using c6
 refine wp_skip ?_
 refine hK3 _ _ ?_
 refine wp_seq_k (fun K8 hK8 => ?_)
 refine sq fun K9 hK9 => ?_
 refine RS.mvS rfl ?_
 refine RS.o (D.len rfl Tryz.underlying22) ?_
 refine RS.o (D.gt rfl rfl) ?_
 refine nl hK9 ?_
 refine C.ifd rfl (fun c10 => ?_) (fun c10 => ?_)
 ·have hL := c10
  refine sq fun K11 hK11 => ?_
  refine RS.asI rfl ?_
  refine nl hK11 ?_
  refine wp_ret ?_
  refine retI rfl rfl ?_
  refine ⟨_, rfl, hE, congrArg (Value.int .i64) ?_⟩
  unfold S.verS
  rw [if_neg (by simp [hG]), if_pos (by omega)]
 have hL := c10
 refine wp_skip ?_
 refine hK8 _ _ ?_
 refine wp_seq_k (fun K12 hK12 => ?_)
 refine sq fun K13 hK13 => ?_
 refine RS.o (D.fieldL 0 rfl Tryz.underlying31 rfl C23 (by decide) rfl) ?_
 refine RS.o (D.load rfl Tryz.underlying23 rfl (B2.cell rfl)) ?_
 refine RS.o (D.fieldL 1 rfl Tryz.underlying31 rfl C23 (by decide) rfl) ?_
 refine RS.o (D.load rfl Tryz.underlying23 rfl (B2.cell rfl)) ?_
 refine RS.o (D.max2 rfl rfl) ?_
 refine RS.o (D.ge rfl rfl) ?_
 refine nl hK13 ?_
 refine C.ifd rfl (fun c14 => ?_) (fun c14 => ?_)
 ·have hQ := c14
  refine sq fun K15 hK15 => ?_
  refine RS.asI rfl ?_
  refine nl hK15 ?_
  refine wp_ret ?_
  refine retI rfl rfl ?_
  refine ⟨_, rfl, hE, congrArg (Value.int .i64) ?_⟩
  unfold S.verS
  rw [if_neg (by simp [hG]), if_neg (by omega), if_pos (by split at hQ <;> omega)]
 have hQ : e < 500000003 ∧ s < 500000003 := by have := c14; split at this <;> omega
 refine wp_skip ?_
 refine hK12 _ _ ?_
 refine sq fun K16 hK16 => ?_
 refine RS.mvI rfl ?_
 refine RS.o (D.fieldL 0 rfl Tryz.underlying31 rfl C23 (by decide) rfl) ?_
 refine RS.o (D.load rfl Tryz.underlying23 rfl (B2.cell rfl)) ?_
 refine RS.o (D.conv rfl Tryz.underlying23 Tryz.underlying25 (W.u64 (by omega))) ?_
 refine RS.o (D.sub rfl rfl (W.u64 (by omega))) ?_
 refine RS.call E105 (group_Pow _ (by omega) _ (by omega) _) rfl (fun v17 w17 x17 A17 => ?_)
 replace hE := Ext.tr hE x17
 replace K0 := K0.ext x17
 replace R0 := R0.ext x17
 replace B2 := B2.ext x17
 have zw17 := x17.size
 subst A17
 rw [if_pos hG]
 have hp1 := S.pw_nonneg y (500000003 - e) 1000000007 (by decide)
 have hp2 := S.pw_lt y (500000003 - e) 1000000007 (by decide)
 refine RS.nm ?_
 refine RS.move (v := .tuple _) rfl ?_
 refine RS.extract (v := .int _ _) rfl rfl ?_
 refine RS.extract (v := .int _ _) rfl rfl ?_
 refine RS.asI rfl ?_
 refine RS.asI rfl ?_
 refine nl hK16 ?_
 refine sq fun K18 hK18 => ?_
 refine RS.o (D.fieldL 1 rfl Tryz.underlying31 rfl C23 (by decide) rfl) ?_
 refine RS.o (D.load rfl Tryz.underlying23 rfl (B2.cell rfl)) ?_
 refine RS.o (D.conv rfl Tryz.underlying23 Tryz.underlying25 (W.u64 (by omega))) ?_
 refine RS.call E89 (group_Base _ (by omega) _) rfl (fun v19 w19 x19 A19 => ?_)
 replace hE := Ext.tr hE x19
 replace K0 := K0.ext x19
 replace R0 := R0.ext x19
 replace B2 := B2.ext x19
 have zw19 := x19.size
 subst A19
 rw [S.pub_eq]
 have hb1 := S.pub_bd s
 refine RS.nm ?_
 refine RS.mvI rfl ?_
 have hmm : (S.isG (S.pubS s) && S.isG (S.pw y (500000003 - e) 1000000007)) = true := by rw [S.isG_pub s (by omega), S.isG_back _ hG (by omega)]; rfl
 refine RS.call E106 (group_Mul _ (by omega) _ (by omega) _) rfl (fun v20 w20 x20 A20 => ?_)
 replace hE := Ext.tr hE x20
 replace K0 := K0.ext x20
 replace R0 := R0.ext x20
 replace B2 := B2.ext x20
 have zw20 := x20.size
 subst A20
 rw [if_pos hmm]
 have hp3 := Int.emod_nonneg (S.pubS s * S.pw y (500000003 - e) 1000000007) (show (1000000007 : Int) ≠ 0 by decide)
 have hp4 := Int.emod_lt_of_pos (S.pubS s * S.pw y (500000003 - e) 1000000007) (show (0 : Int) < 1000000007 by decide)
 refine RS.nm ?_
 refine RS.move (v := .tuple _) rfl ?_
 refine RS.extract (v := .int _ _) rfl rfl ?_
 refine RS.extract (v := .int _ _) rfl rfl ?_
 refine RS.asI rfl ?_
 refine RS.asI rfl ?_
 refine nl hK18 ?_
 refine wp_seq_k (fun K21 hK21 => ?_)
 refine sq fun K22 hK22 => ?_
 refine RS.mvI rfl ?_
 refine RS.mvI rfl ?_
 refine RS.mvS rfl ?_
 have hh : S.hashE m = 0 := by unfold S.hashE; rw [if_neg (by omega)]
 refine RS.call E94 (challenge _ (by omega) _ (by omega) _ _ _ _ _ _ K0 R0 hc) rfl (fun v23 w23 x23 A23 => ?_)
 replace hE := Ext.tr hE x23
 replace K0 := K0.ext x23
 replace R0 := R0.ext x23
 replace B2 := B2.ext x23
 have zw23 := x23.size
 subst A23
 rw [if_pos hh, hh]
 refine RS.nm ?_
 refine RS.move (v := .tuple _) rfl ?_
 refine RS.extract (v := .int _ _) rfl rfl ?_
 refine RS.extract (v := .int _ _) rfl rfl ?_
 refine RS.asI rfl ?_
 refine RS.asI rfl ?_
 refine nl hK22 ?_
 refine sq fun K24 hK24 => ?_
 refine RS.mvI rfl ?_
 refine RS.o (D.ne rfl rfl) ?_
 refine RS.mvB rfl ?_
 refine RS.splitn 52 rfl rfl (fun c25 => ?_) (fun c25 => ?_)
 ·refine RS.nm ?_
  refine RS.skT 52 ?_
  refine RS.skT 52 ?_
  refine RS.skT 52 ?_
  refine RS.skT 52 ?_
  refine RS.pick (v := .bool true) rfl rfl ?_
  refine nl hK24 ?_
  refine C.ift rfl ?_
  refine sq fun K26 hK26 => ?_
  refine RS.asI rfl ?_
  refine nl hK26 ?_
  refine wp_ret ?_
  refine retI rfl rfl ?_
  refine ⟨_, rfl, hE, congrArg (Value.int .i64) ?_⟩
  unfold S.verS
  rw [if_neg (by simp [hG]), if_neg (by omega), if_neg (by omega)]
  simp_all
 refine RS.nm ?_
 refine RS.wt 52 ?_
 refine RS.mvI rfl ?_
 refine RS.wt 52 ?_
 refine RS.o (D.fieldL 0 rfl Tryz.underlying31 rfl C23 (by decide) rfl) ?_
 refine RS.wt 52 ?_
 refine RS.o (D.load rfl Tryz.underlying23 rfl (B2.cell rfl)) ?_
 refine RS.wt 52 ?_
 refine RS.o (D.ne rfl rfl) ?_
 refine RS.pick (v := .bool _) rfl rfl ?_
 refine nl hK24 ?_
 refine C.ifn rfl (fun c27 => ?_) (fun c27 => ?_)
 ·refine wp_seq_k (fun K28 hK28 => ?_)
  refine region ?_
  refine RS.asI rfl ?_
  refine nl hK28 ?_
  refine wp_ret ?_
  refine retI rfl rfl ?_
  refine ⟨_, rfl, hE, congrArg (Value.int .i64) ?_⟩
  unfold S.verS
  rw [if_neg (by simp [hG]), if_neg (by omega), if_neg (by omega)]
  simp_all
 refine wp_skip ?_
 refine hK21 _ _ ?_
 refine sq fun K29 hK29 => ?_
 refine RS.asI rfl ?_
 refine nl hK29 ?_
 refine wp_ret ?_
 refine retI rfl rfl ?_
 refine ⟨_, rfl, hE, congrArg (Value.int .i64) ?_⟩
 unfold S.verS
 rw [if_neg (by simp [hG]), if_neg (by omega), if_neg (by omega)]
 simp_all
end Go.Proofs.YtiohpiiiapjblaaGreatDoor.W
namespace Go.Proofs.YtiohpiiiapjblaaGreatDoor.W
open Go.RowKit Go.Proofs.YtiohpiiiapjblaaGreatDoor.G
set_option linter.unusedVariables false
set_option maxRecDepth 20000
set_option maxHeartbeats 8000000
attribute [local irreducible] RS RX
theorem F33 : SI Tryz.prog 33 [(0, 1), (1, 1), (2, 1), (3, 6), (9, 2)] := ⟨_, Tryz.underlying33, by kernel_rfl, by kernel_rfl⟩
theorem E18 : Enters Tryz.prog 18 := .mk Tryz.func18 (by kernel_rfl) rfl
theorem E19 : Enters Tryz.prog 19 := .mk Tryz.func19 (by kernel_rfl) rfl
theorem E23 : Enters Tryz.prog 23 := .mk Tryz.func23 (by kernel_rfl) rfl
theorem E25 : Enters Tryz.prog 25 := .mk Tryz.func25 (by kernel_rfl) rfl
theorem E33 : Enters Tryz.prog 33 := .mk Tryz.func33 (by kernel_rfl) rfl
theorem E55 : Enters Tryz.prog 55 := .mk Tryz.func55 (by kernel_rfl) rfl
theorem E61 : Enters Tryz.prog 61 := .mk Tryz.func61 (by kernel_rfl) rfl
theorem signO (x : Int) (hx : 0 ≤ x ∧ x < 4294967296) {S0 : Nat → Prop} (o : S.OpV) (ho : o.ok) (pa : Option Addr) (pc : Nat) (TK : TypeId) (w : World) (K0 : Kst w TK) (D0 : WRow .u8 32 S0 w pa o.n o.ids) (hc : o.n ≤ pc) :
  Calls Tryz.prog 23 #[.int .u32 x, .agg ([.int .u32 o.au, .slice pa o.n pc, .int .u64 o.st, .int .u8 o.k, .string o.key, .int .u8 o.vk, .int .i64 o.num, .int .u64 o.bits, .string o.t, .int .u32 o.e, .int .u32 o.s] : List Value).toArray] w (Ret w fun v w' => ∃ a' c', v = .tuple #[.agg ([.int .u32 (S.signS x o).au, .slice a' (S.signS x o).n c', .int .u64 (S.signS x o).st, .int .u8 (S.signS x o).k, .string (S.signS x o).key, .int .u8 (S.signS x o).vk, .int .i64 (S.signS x o).num, .int .u64 (S.signS x o).bits, .string (S.signS x o).t, .int .u32 (S.signS x o).e, .int .u32 (S.signS x o).s] : List Value).toArray, .int .i64 (S.signE x o)] ∧ (S.signS x o).n ≤ c' ∧ WRow .u8 32 (fun k => w.heap.size ≤ k) w' a' (S.signS x o).n (S.signS x o).ids) := by
 replace D0 := D0.weaken (T := fun k => k < w.heap.size) (fun k hk _ => hk)
 have o1 := ho.au
 have o2 := ho.st
 have o3 := ho.k
 have o4 := ho.vk
 have o5 := ho.num
 have o6 := ho.bits
 have o7 := ho.e
 have o8 := ho.s
 have o9 := ho.n
 have o10 := ho.key
 have o11 := ho.t
 have hKl := K0.lt
 have hb2 := S.pub_bd x
 have e4 := D0.len
 have hE := Ext.refl w
 refine enterU 39 Tryz.func23 rfl rfl ?_
 refine sq fun K1 hK1 => ?_
 refine RS.box rfl rfl (fun b2 w2 e2 s2 x2 B2 => ?_)
 refine RS.nm ?_
 replace hE := Ext.tr hE x2
 replace K0 := K0.ext x2
 replace D0 := D0.ext x2
 have zw2 := x2.size
 refine RS.alloc T33 (fun b3 w3 e3 s3 x3 B3 => ?_)
 refine RS.nm ?_
 replace hE := Ext.tr hE x3
 replace K0 := K0.ext x3
 replace D0 := D0.ext x3
 replace B2 := B2.ext x3
 have zw3 := x3.size
 refine RS.asI rfl ?_
 refine nl hK1 ?_
 refine sq fun K4 hK4 => ?_
 refine RS.mvI rfl ?_
 refine RS.call E52 (publicW _ (by omega) _) rfl (fun v5 w5 x5 A5 => ?_)
 replace hE := Ext.tr hE x5
 replace K0 := K0.ext x5
 replace D0 := D0.ext x5
 replace B2 := B2.ext x5
 replace B3 := B3.ext x5
 have zw5 := x5.size
 subst A5
 refine RS.nm ?_
 refine RS.move (v := .tuple _) rfl ?_
 refine RS.extract (v := .int _ _) rfl rfl ?_
 refine RS.extract (v := .int _ _) rfl rfl ?_
 refine RS.asI rfl ?_
 refine RS.asI rfl ?_
 refine nl hK4 ?_
 refine wp_seq_k (fun K6 hK6 => ?_)
 refine sq fun K7 hK7 => ?_
 refine RS.mvI rfl ?_
 refine RS.o (D.ne rfl rfl) ?_
 refine nl hK7 ?_
 refine C.ifn rfl (fun c8 => ?_) (fun c8 => ?_)
 ·have hz := c8
  refine sq fun K9 hK9 => ?_
  refine RS.o (D.buildS T33 F33 (ps := []) rfl rfl) ?_
  refine RS.mvI rfl ?_
  refine RS.storeAggB rfl rfl C33 (by decide) rfl rfl B3 rfl (fun w10 y10 N10 => ?_)
  replace hE := hE.trans (y10.belo)
  replace K0 := K0.sto y10
  replace D0 := D0.sto y10
  replace B2 := B2.sto y10
  have zw10 := y10.size
  replace B3 := N10
  refine RS.asI rfl ?_
  refine nl hK9 ?_
  refine wp_ret ?_
  refine ret (rs := [.cell 4 33, .tmp 5]) (vs := [.agg _, .int _ _]) (v := (.tuple #[.agg _, .int _ _])) rfl ⟨⟨_, rfl, loadVar_agg Tryz.underlying33 rfl C33 (by decide) rfl (B3.cellsN 11 rfl)⟩, rfl, trivial⟩ rfl ?_
  have e1 : S.signE x o = S.secE x := by unfold S.signE; rw [if_neg hz, S.secE_two hz]
  have e2 : S.signS x o = S.OpV.zero := by unfold S.signS; rw [if_neg (by rw [e1]; exact hz)]
  rw [e1, e2]
  exact ⟨_, rfl, hE, _, _, rfl, Nat.le_refl _, WRow.nil⟩
 have hz := c8
 rw [if_pos hz]
 refine wp_skip ?_
 refine hK6 _ _ ?_
 refine sq fun K11 hK11 => ?_
 refine RS.mvI rfl ?_
 refine RS.o (D.fieldL 1 rfl Tryz.underlying33 rfl C24 (by decide) rfl) ?_
 refine RS.o (D.load rfl Tryz.underlying24 rfl (B2.cell rfl)) ?_
 refine RS.call E53 (cloneID _ _ _ _ _ D0 hc (by omega)) rfl (fun v12 w12 x12 A12 => ?_)
 replace hE := Ext.tr hE x12
 replace K0 := K0.ext x12
 replace D0 := D0.ext x12
 replace B2 := B2.ext x12
 replace B3 := B3.ext x12
 have zw12 := x12.size
 obtain ⟨a12, _, c12, rfl, rfl, O1⟩ := A12
 have hcc := O1.own.pre
 refine RS.nm ?_
 refine RS.o (D.fieldL 0 rfl Tryz.underlying33 rfl C23 (by decide) rfl) ?_
 refine RS.store rfl (v := .int _ _) rfl C23 rfl B2 rfl (fun w13 y13 N13 => ?_)
 replace hE := hE.trans (y13.belo)
 replace K0 := K0.sto y13
 replace D0 := D0.sto y13
 replace B3 := B3.sto y13
 replace O1 := O1.st y13 (by intros; try (first | (intro _ _) | (intro _) | skip); first | omega | (have hq := O1.own.lo _ (by assumption); first | omega | (dsimp only at *; omega)))
 have zw13 := y13.size
 replace B2 := N13
 refine RS.o (D.fieldL 1 rfl Tryz.underlying33 rfl C24 (by decide) rfl) ?_
 refine RS.store rfl  rfl C24 rfl B2 rfl (fun w14 y14 N14 => ?_)
 replace hE := hE.trans (y14.belo)
 replace K0 := K0.sto y14
 replace D0 := D0.sto y14
 replace B3 := B3.sto y14
 replace O1 := O1.st y14 (by intros; try (first | (intro _ _) | (intro _) | skip); first | omega | (have hq := O1.own.lo _ (by assumption); first | omega | (dsimp only at *; omega)))
 have zw14 := y14.size
 replace B2 := N14
 refine nl hK11 ?_
 refine sq fun K15 hK15 => ?_
 refine RS.o (D.loadAgg rfl Tryz.underlying33 rfl C33 (by decide) rfl (B2.cellsN 11 rfl)) ?_
 refine RS.call E54 (messageO (o.wit x) (S.OpV.wit_ok x ho) _ _ _ O1.row hcc) rfl (fun v16 w16 x16 A16 => ?_)
 replace hE := Ext.tr hE x16
 replace K0 := K0.ext x16
 replace D0 := D0.ext x16
 replace B2 := B2.ext x16
 replace B3 := B3.ext x16
 replace O1 := O1.ext x16
 have zw16 := x16.size
 obtain ⟨a16, n16, c16, xs, rfl, OM, hxs⟩ := A16
 have hml := OM.len
 refine RS.nm ?_
 refine RS.move (v := .tuple _) rfl ?_
 refine RS.extract (v := .slice _ _ _) rfl rfl ?_
 refine RS.extract (v := .int _ _) rfl rfl ?_
 refine RS.asS rfl ?_
 refine RS.asI rfl ?_
 refine nl hK15 ?_
 refine wp_seq_k (fun K17 hK17 => ?_)
 refine sq fun K18 hK18 => ?_
 refine RS.mvI rfl ?_
 refine RS.o (D.ne rfl rfl) ?_
 refine nl hK18 ?_
 refine C.ifn rfl (fun c19 => ?_) (fun c19 => ?_)
 ·have hk := c19
  refine sq fun K20 hK20 => ?_
  refine RS.o (D.buildS T33 F33 (ps := []) rfl rfl) ?_
  refine RS.mvI rfl ?_
  refine RS.storeAggB rfl rfl C33 (by decide) rfl rfl B3 rfl (fun w21 y21 N21 => ?_)
  replace hE := hE.trans (y21.belo)
  replace K0 := K0.sto y21
  replace D0 := D0.sto y21
  replace B2 := B2.sto y21
  replace O1 := O1.st y21 (by intros; try (first | (intro _ _) | (intro _) | skip); first | omega | (have hq := O1.own.lo _ (by assumption); first | omega | (dsimp only at *; omega)))
  replace OM := OM.st y21 (by intros; try (first | (intro _ _) | (intro _) | skip); first | omega | (have hq := OM.own.lo _ (by assumption); first | omega | (dsimp only at *; omega)))
  have zw21 := y21.size
  replace B3 := N21
  refine RS.asI rfl ?_
  refine nl hK20 ?_
  refine wp_ret ?_
  refine ret (rs := [.cell 4 33, .tmp 5]) (vs := [.agg _, .int _ _]) (v := (.tuple #[.agg _, .int _ _])) rfl ⟨⟨_, rfl, loadVar_agg Tryz.underlying33 rfl C33 (by decide) rfl (B3.cellsN 11 rfl)⟩, rfl, trivial⟩ rfl ?_
  have e1 : S.signE x o = S.checkE (o.wit x).bare := by unfold S.signE; rw [if_pos hz]
  have e2 : S.signS x o = S.OpV.zero := by unfold S.signS; rw [if_neg (by rw [e1]; exact hk)]
  rw [e1, e2]
  exact ⟨_, rfl, hE, _, _, rfl, Nat.le_refl _, WRow.nil⟩
 have hk := c19
 rw [if_pos hk] at hxs
 subst hxs
 have hml2 := S.msg_len (o.wit x) (S.OpV.wit_ok x ho) (S.check_zero.1 hk).1 e4
 have hn0 : S.nonceE x (S.msgS (o.wit x)) = 0 := S.nonceE_zero.2 ⟨hz, by unfold S.hashE; rw [if_neg (by omega)]⟩
 refine wp_skip ?_
 refine hK17 _ _ ?_
 refine sq fun K22 hK22 => ?_
 refine RS.mvI rfl ?_
 refine RS.mvS rfl ?_
 refine RS.call E55 (signW _ (by omega) _ _ _ _ _ _ K0 OM.row OM.own.pre) rfl (fun v23 w23 x23 A23 => ?_)
 replace hE := Ext.tr hE x23
 replace K0 := K0.ext x23
 replace D0 := D0.ext x23
 replace B2 := B2.ext x23
 replace B3 := B3.ext x23
 replace O1 := O1.ext x23
 replace OM := OM.ext x23
 have zw23 := x23.size
 subst A23
 rw [if_pos hn0, if_pos hn0]
 refine RS.nm ?_
 refine RS.move (v := .tuple _) rfl ?_
 refine RS.extract (v := .agg _) rfl rfl ?_
 refine RS.extract (v := .int _ _) rfl rfl ?_
 refine RS.o (D.fieldL 9 rfl Tryz.underlying33 rfl C31 (by decide) rfl) ?_
 refine RS.storeAggB rfl rfl C31 (by decide) rfl rfl B2 rfl (fun w24 y24 N24 => ?_)
 replace hE := hE.trans (y24.belo)
 replace K0 := K0.sto y24
 replace D0 := D0.sto y24
 replace B3 := B3.sto y24
 replace O1 := O1.st y24 (by intros; try (first | (intro _ _) | (intro _) | skip); first | omega | (have hq := O1.own.lo _ (by assumption); first | omega | (dsimp only at *; omega)))
 replace OM := OM.st y24 (by intros; try (first | (intro _ _) | (intro _) | skip); first | omega | (have hq := OM.own.lo _ (by assumption); first | omega | (dsimp only at *; omega)))
 have zw24 := y24.size
 replace B2 := N24
 refine nl hK22 ?_
 refine sq fun K25 hK25 => ?_
 refine RS.o (D.loadAgg rfl Tryz.underlying33 rfl C33 (by decide) rfl (B2.cellsN 11 rfl)) ?_
 refine RS.storeAggB rfl rfl C33 (by decide) rfl rfl B3 rfl (fun w26 y26 N26 => ?_)
 replace hE := hE.trans (y26.belo)
 replace K0 := K0.sto y26
 replace D0 := D0.sto y26
 replace B2 := B2.sto y26
 replace O1 := O1.st y26 (by intros; try (first | (intro _ _) | (intro _) | skip); first | omega | (have hq := O1.own.lo _ (by assumption); first | omega | (dsimp only at *; omega)))
 replace OM := OM.st y26 (by intros; try (first | (intro _ _) | (intro _) | skip); first | omega | (have hq := OM.own.lo _ (by assumption); first | omega | (dsimp only at *; omega)))
 have zw26 := y26.size
 replace B3 := N26
 refine RS.asI rfl ?_
 refine nl hK25 ?_
 refine wp_ret ?_
 refine ret (rs := [.cell 4 33, .tmp 5]) (vs := [.agg _, .int _ _]) (v := (.tuple #[.agg _, .int _ _])) rfl ⟨⟨_, rfl, loadVar_agg Tryz.underlying33 rfl C33 (by decide) rfl (B3.cellsN 11 rfl)⟩, rfl, trivial⟩ rfl ?_
 have e1 : S.signE x o = 0 := by unfold S.signE; rw [if_pos hz]; exact hk
 have e2 := S.signS_eq e1
 rw [e1, e2]
 exact ⟨_, rfl, hE, _, _, rfl, hcc, O1.row.weaken (fun k hk h => by omega)⟩
theorem verifyO {S0 : Nat → Prop} (o : S.OpV) (ho : o.ok) (pa : Option Addr) (pc : Nat) (TK : TypeId) (w : World) (K0 : Kst w TK) (D0 : WRow .u8 32 S0 w pa o.n o.ids) (hc : o.n ≤ pc) :
  Calls Tryz.prog 25 #[.agg ([.int .u32 o.au, .slice pa o.n pc, .int .u64 o.st, .int .u8 o.k, .string o.key, .int .u8 o.vk, .int .i64 o.num, .int .u64 o.bits, .string o.t, .int .u32 o.e, .int .u32 o.s] : List Value).toArray] w (Ret w fun v _ => v = .int .i64 (S.verE o)) := by
 replace D0 := D0.weaken (T := fun k => k < w.heap.size) (fun k hk _ => hk)
 have o1 := ho.au
 have o2 := ho.st
 have o3 := ho.k
 have o4 := ho.vk
 have o5 := ho.num
 have o6 := ho.bits
 have o7 := ho.e
 have o8 := ho.s
 have o9 := ho.n
 have o10 := ho.key
 have o11 := ho.t
 have hKl := K0.lt
 have e4 := D0.len
 have hE := Ext.refl w
 refine enterU 21 Tryz.func25 rfl rfl ?_
 refine sq fun K1 hK1 => ?_
 refine RS.box rfl rfl (fun b2 w2 e2 s2 x2 B2 => ?_)
 refine RS.nm ?_
 replace hE := Ext.tr hE x2
 replace K0 := K0.ext x2
 replace D0 := D0.ext x2
 have zw2 := x2.size
 refine RS.asI rfl ?_
 refine nl hK1 ?_
 refine wp_seq_k (fun K3 hK3 => ?_)
 refine sq fun K4 hK4 => ?_
 refine RS.o (D.loadAgg rfl Tryz.underlying33 rfl C33 (by decide) rfl (B2.cellsN 11 rfl)) ?_
 refine RS.call E46 (checkO o ho _ _ _ D0 hc) rfl (fun v5 w5 x5 A5 => ?_)
 replace hE := Ext.tr hE x5
 replace K0 := K0.ext x5
 replace D0 := D0.ext x5
 replace B2 := B2.ext x5
 have zw5 := x5.size
 subst A5
 refine RS.nm ?_
 refine RS.asI rfl ?_
 refine nl hK4 ?_
 refine sq fun K6 hK6 => ?_
 refine RS.mvI rfl ?_
 refine RS.o (D.ne rfl rfl) ?_
 refine nl hK6 ?_
 refine C.ifn rfl (fun c7 => ?_) (fun c7 => ?_)
 ·have hk := c7
  refine sq fun K8 hK8 => ?_
  refine RS.mvI rfl ?_
  refine RS.asI rfl ?_
  refine nl hK8 ?_
  refine wp_ret ?_
  refine retI rfl rfl ?_
  refine ⟨_, rfl, hE, ?_⟩
  unfold S.verE
  rw [if_neg hk]
 have hk := c7
 refine wp_skip ?_
 refine hK3 _ _ ?_
 refine sq fun K9 hK9 => ?_
 refine RS.o (D.loadAgg rfl Tryz.underlying33 rfl C33 (by decide) rfl (B2.cellsN 11 rfl)) ?_
 refine RS.call E54 (messageO o ho _ _ _ D0 hc) rfl (fun v10 w10 x10 A10 => ?_)
 replace hE := Ext.tr hE x10
 replace K0 := K0.ext x10
 replace D0 := D0.ext x10
 replace B2 := B2.ext x10
 have zw10 := x10.size
 obtain ⟨a10, n10, c10, xs, rfl, OM, hxs⟩ := A10
 rw [if_pos (S.check_bare hk)] at hxs
 subst hxs
 refine RS.nm ?_
 refine RS.move (v := .tuple _) rfl ?_
 refine RS.extract (v := .slice _ _ _) rfl rfl ?_
 refine RS.extract (v := .int _ _) rfl rfl ?_
 refine RS.asS rfl ?_
 refine RS.asI rfl ?_
 refine nl hK9 ?_
 refine sq fun K11 hK11 => ?_
 refine RS.o (D.fieldL 0 rfl Tryz.underlying33 rfl C23 (by decide) rfl) ?_
 refine RS.o (D.load rfl Tryz.underlying23 rfl (B2.cell rfl)) ?_
 refine RS.mvS rfl ?_
 refine RS.o (D.fieldL 9 rfl Tryz.underlying33 rfl C31 (by decide) rfl) ?_
 refine RS.o (D.loadAgg rfl Tryz.underlying31 rfl C31 (by decide) rfl (B2.cellsN 2 rfl)) ?_
 refine RS.call E61 (verifyW _ (by omega) _ _ (by omega) (by omega) _ _ _ _ _ _ K0 OM.row OM.own.pre) rfl (fun v12 w12 x12 A12 => ?_)
 replace hE := Ext.tr hE x12
 replace K0 := K0.ext x12
 replace D0 := D0.ext x12
 replace B2 := B2.ext x12
 replace OM := OM.ext x12
 have zw12 := x12.size
 subst A12
 refine RS.nm ?_
 refine RS.asI rfl ?_
 refine nl hK11 ?_
 refine wp_ret ?_
 refine retI rfl rfl ?_
 refine ⟨_, rfl, hE, ?_⟩
 unfold S.verE
 rw [if_pos hk]
end Go.Proofs.YtiohpiiiapjblaaGreatDoor.W
namespace Go.Proofs.YtiohpiiiapjblaaGreatDoor.S
open G
theorem be_rev : ∀ (k : Nat) (n : Int), 0 ≤ n → n < 256 ^ k → be (leK k n).reverse = n
  | 0, n, h0, h => by simp at h; simp [leK, be]; omega
  | k + 1, n, h0, h => by
    rw [Int.pow_succ] at h
    rw [leK, List.reverse_cons, be_snoc, be_rev k (n / 256) (by omega) (Int.ediv_lt_of_lt_mul (by decide) h)]
    omega
theorem le_be : ∀ ys : List Int, Bd .u8 ys → leK ys.length (be ys.reverse) = ys
  | [], _ => rfl
  | y :: t, h => by
    have hy := h y List.mem_cons_self
    simp only [lim] at hy
    rw [List.length_cons, leK, List.reverse_cons, be_snoc, show (be t.reverse * 256 + y) % 256 = y by omega, show (be t.reverse * 256 + y) / 256 = be t.reverse by omega, le_be t fun x hx => h x (List.mem_cons_of_mem _ hx)]
theorem be_low : ∀ (t : List Int) (a : Int), 0 ≤ a → Bd .u8 t → a * 256 ^ t.length ≤ t.foldl (fun a x => a * 256 + x) a
  | [], a, _, _ => by simp
  | x :: t, a, ha, h => by
    have hx := h x List.mem_cons_self
    simp only [lim] at hx
    have := be_low t (a * 256 + x) (by omega) fun y hy => h y (List.mem_cons_of_mem _ hy)
    rw [List.foldl_cons, List.length_cons, Int.pow_succ]
    refine Int.le_trans ?_ this
    rw [Int.mul_comm _ 256, ← Int.mul_assoc]
    exact Int.mul_le_mul_of_nonneg_right (by omega) (Int.pow_nonneg (by decide))
theorem blen_rng (n : Int) (h : 0 < n) (h2 : n < 18446744073709551616) : 256 ^ (blen n - 1) ≤ n ∧ n < 256 ^ blen n := by
  unfold blen
  repeat' split
  all_goals simp
  all_goals omega
theorem blen_of (n : Int) (k : Nat) (h1 : 1 ≤ k ∧ k ≤ 8) (h2 : 256 ^ (k - 1) ≤ n) (h3 : n < 256 ^ k) : blen n = k := by
  have hk : k = 1 ∨ k = 2 ∨ k = 3 ∨ k = 4 ∨ k = 5 ∨ k = 6 ∨ k = 7 ∨ k = 8 := by omega
  rcases hk with rfl | rfl | rfl | rfl | rfl | rfl | rfl | rfl <;> simp at h2 h3 <;> unfold blen <;> repeat' split
  all_goals omega
/-- A number that is read, and how many bytes it has. -/
def readN (b : List Int) : Option (Int × Nat) :=
  match b with
  | [] => none
  | h :: t => if h ≤ 247 then some (h, 1) else
    if t.length < (h - 247).toNat ∨ t.getD 0 0 = 0 ∨ (h = 248 ∧ t.getD 0 0 ≤ 247) then none else some (be (t.take (h - 247).toNat), (h - 247).toNat + 1)
theorem head_get (l r : List Int) (h : 0 < l.length) : (l ++ r).getD 0 0 = l.getD 0 0 := by
  cases l with
  | nil => simp at h
  | cons a l => rfl
theorem be_head (x : Int) (t : List Int) (hB : Bd .u8 (x :: t)) : x * 256 ^ t.length ≤ be (x :: t) ∧ be (x :: t) < (x + 1) * 256 ^ t.length := by
  have hx := hB x List.mem_cons_self
  have ht : Bd .u8 t := fun y hy => hB y (List.mem_cons_of_mem _ hy)
  have e : be (x :: t) = t.foldl (fun a x => a * 256 + x) x := by simp [be]
  rw [e]
  exact ⟨be_low t x hx.1 ht, (be_go t x hx.1 ht).2⟩
theorem read_num (n : Int) (h0 : 0 ≤ n) (h1 : n < 18446744073709551616) (r : List Int) : readN (numS n ++ r) = some (n, (numS n).length) := by
  by_cases hs : n ≤ 247
  · rw [numS_small n hs]
    simp [readN, hs]
  · rw [numS_large n hs, List.cons_append]
    have hb := blen_rng n (by omega) h1
    have hp := blen_pos n (by omega)
    have hv := be_rev (blen n) n h0 hb.2
    have hl : (leK (blen n) n).reverse.length = blen n := by rw [List.length_reverse, leK_len]
    have hB : Bd .u8 (leK (blen n) n).reverse := fun x hx => leK_bd _ _ x (List.mem_reverse.1 hx)
    generalize (leK (blen n) n).reverse = l at hv hl hB
    have hk : (247 + (blen n : Int) - 247).toNat = blen n := by omega
    have hx : ¬ l.getD 0 0 = 0 ∧ ¬ (247 + (blen n : Int) = 248 ∧ l.getD 0 0 ≤ 247) := by
      cases l with
      | nil => simp at hl; omega
      | cons x t =>
        have hh := be_head x t hB
        rw [hv] at hh
        simp only [List.length_cons] at hl
        rw [show t.length = blen n - 1 by omega] at hh
        simp only [List.getD_cons_zero]
        refine ⟨fun e => ?_, fun e => ?_⟩
        · rw [e] at hh; omega
        · rw [show blen n - 1 = 0 by omega] at hh; simp at hh; omega
    simp only [readN, hk, head_get l r (by omega)]
    rw [if_neg (by omega), if_neg, ← hl, List.take_left, hv]
    · rfl
    · rintro (h | h | h)
      · rw [List.length_append] at h; omega
      · exact hx.1 h
      · exact hx.2 h
theorem read_inv {b : List Int} (hB : Bd .u8 b) {n : Int} {u : Nat} (h : readN b = some (n, u)) : 0 ≤ n ∧ n < 18446744073709551616 ∧ u ≤ b.length ∧ b = numS n ++ b.drop u ∧ u = (numS n).length := by
  cases b with
  | nil => cases h
  | cons x t =>
    have hx := hB x List.mem_cons_self
    have ht : Bd .u8 t := fun y hy => hB y (List.mem_cons_of_mem _ hy)
    simp only [lim] at hx
    simp only [readN] at h
    by_cases hs : x ≤ 247
    · rw [if_pos hs] at h
      simp only [Option.some.injEq, Prod.mk.injEq] at h
      obtain ⟨rfl, rfl⟩ := h
      rw [numS_small x hs]
      exact ⟨hx.1, by omega, by simp, rfl, rfl⟩
    · rw [if_neg hs] at h
      by_cases hc : t.length < (x - 247).toNat ∨ t.getD 0 0 = 0 ∨ (x = 248 ∧ t.getD 0 0 ≤ 247)
      · rw [if_pos hc] at h; cases h
      · rw [if_neg hc] at h
        simp only [Option.some.injEq, Prod.mk.injEq] at h
        obtain ⟨rfl, rfl⟩ := h
        generalize hk : (x - 247).toNat = k at *
        have hl : (t.take k).length = k := by rw [List.length_take]; omega
        have hT := ht.take k
        have hrev := le_be (t.take k).reverse fun y hy => hT y (List.mem_reverse.1 hy)
        rw [List.reverse_reverse, List.length_reverse, hl] at hrev
        have hb := be_bd _ hT
        rw [hl] at hb
        have hp : (256 : Int) ^ k ≤ 256 ^ 8 := pow256 (by omega)
        have h8 : (256 : Int) ^ 8 = 18446744073709551616 := by decide
        have hg : (t.take k).getD 0 0 = t.getD 0 0 := by
          have := head_get (t.take k) (t.drop k) (by omega)
          rw [List.take_append_drop] at this
          exact this.symm
        have hlow : 256 ^ (k - 1) ≤ be (t.take k) ∧ 247 < be (t.take k) := by
          generalize t.take k = l at *
          cases l with
          | nil => simp at hl; omega
          | cons z r =>
            have hz := hT z List.mem_cons_self
            have hh := be_head z r hT
            simp only [List.length_cons] at hl
            simp only [List.getD_cons_zero] at hg
            rw [show r.length = k - 1 by omega] at hh
            have hz0 : 1 ≤ z := by have := hz.1; rw [← hg] at hc; omega
            have h1 : 256 ^ (k - 1) ≤ be (z :: r) := Int.le_trans (by have := Int.mul_le_mul_of_nonneg_right hz0 (Int.pow_nonneg (by decide) : (0 : Int) ≤ 256 ^ (k - 1)); omega) hh.1
            refine ⟨h1, ?_⟩
            by_cases h1k : k = 1
            · subst h1k
              simp at hh
              rw [← hg] at hc
              omega
            · have : (256 : Int) ^ 1 ≤ 256 ^ (k - 1) := pow256 (by omega)
              omega
        have hbl := blen_of _ k (by omega) hlow.1 hb.2
        have hn : numS (be (t.take k)) = x :: t.take k := by
          rw [numS_large _ (by omega), hbl, hrev, List.reverse_reverse]
          congr 1
          omega
        refine ⟨hb.1, by omega, by simp; omega, ?_, ?_⟩
        · rw [hn, List.drop_succ_cons, List.cons_append, List.take_append_drop]
        · rw [hn, List.length_cons, hl]
/-- A string that is read, and how many bytes were read. -/
def readB (most : Int) (b : List Int) : Option (List Int × Nat) :=
  match readN b with
  | some (n, u) => if n ≤ most ∧ n ≤ (b.length : Int) - u then some ((b.drop u).take n.toNat, u + n.toNat) else none
  | none => none
theorem readB_num (most : Int) (s r : List Int) (h : (s.length : Int) ≤ most) (hm : s.length < 18446744073709551616) : readB most (numS s.length ++ s ++ r) = some (s, (numS s.length).length + s.length) := by
  unfold readB
  rw [List.append_assoc, read_num _ (by omega) (by omega)]
  simp only [List.length_append]
  rw [if_pos (by omega), List.drop_left, show ((s.length : Int)).toNat = s.length from rfl, List.take_left]
theorem readB_inv {most : Int} {b : List Int} (hB : Bd .u8 b) {s : List Int} {u : Nat} (h : readB most b = some (s, u)) : (s.length : Int) ≤ most ∧ u ≤ b.length ∧ b = numS s.length ++ s ++ b.drop u ∧ u = (numS s.length).length + s.length := by
  unfold readB at h
  split at h
  · rename_i n v hr
    obtain ⟨h0, h1, h2, h3, h4⟩ := read_inv hB hr
    split at h
    · rename_i hc
      simp only [Option.some.injEq, Prod.mk.injEq] at h
      obtain ⟨rfl, rfl⟩ := h
      have hl : ((b.drop v).take n.toNat).length = n.toNat := by rw [List.length_take, List.length_drop]; omega
      rw [hl, show (n.toNat : Int) = n by omega]
      refine ⟨hc.1, by omega, ?_, by omega⟩
      conv => lhs; rw [h3]
      rw [List.append_assoc]
      congr 1
      rw [← List.drop_drop, List.take_append_drop]
    · cases h
  · cases h
/-- A list of ids that is read. -/
def readI (most : Int) (b : List Int) : Option (Nat × List Int × Nat) :=
  match readN b with
  | some (n, u) => if n ≤ most ∧ n ≤ ((b.length : Int) - u) / 32 ∧ Rising n.toNat ((b.drop u).take (32 * n.toNat)) then some (n.toNat, (b.drop u).take (32 * n.toNat), u + 32 * n.toNat) else none
  | none => none
theorem readI_num (most : Int) (n : Nat) (ids r : List Int) (h : (n : Int) ≤ most) (hm : n < 18446744073709551616) (hl : ids.length = 32 * n) (hr : Rising n ids) : readI most (listS n ids ++ r) = some (n, ids, (listS n ids).length) := by
  unfold readI listS
  rw [List.append_assoc, read_num _ (by omega) (by omega)]
  simp only [List.length_append]
  rw [List.drop_left, show ((n : Int)).toNat = n from rfl, ← hl, List.take_left, if_pos ⟨h, by omega, hr⟩]
theorem readI_inv {most : Int} {b : List Int} (hB : Bd .u8 b) {n : Nat} {ids : List Int} {u : Nat} (h : readI most b = some (n, ids, u)) : (n : Int) ≤ most ∧ u ≤ b.length ∧ ids.length = 32 * n ∧ Rising n ids ∧ b = listS n ids ++ b.drop u ∧ u = (listS n ids).length ∧ n < 18446744073709551616 := by
  unfold readI at h
  split at h
  · rename_i m v hr
    obtain ⟨h0, h1, h2, h3, h4⟩ := read_inv hB hr
    split at h
    · rename_i hc
      simp only [Option.some.injEq, Prod.mk.injEq] at h
      obtain ⟨rfl, rfl, rfl⟩ := h
      have hl : ((b.drop v).take (32 * m.toNat)).length = 32 * m.toNat := by rw [List.length_take, List.length_drop]; omega
      unfold listS
      rw [List.length_append, hl, show (m.toNat : Int) = m by omega]
      refine ⟨hc.1, by omega, rfl, hc.2.2, ?_, by omega, by omega⟩
      conv => lhs; rw [h3]
      rw [List.append_assoc]
      congr 1
      rw [← List.drop_drop, List.take_append_drop]
    · cases h
  · cases h
end Go.Proofs.YtiohpiiiapjblaaGreatDoor.S
namespace Go.Proofs.YtiohpiiiapjblaaGreatDoor.S
open G
def unzig (z : Int) : Int := if z % 2 = 0 then z / 2 else - (z / 2) - 1
theorem unzig_zig (n : Int) : unzig (zig n) = n := by unfold unzig zig; repeat' split <;> omega
theorem zig_unzig (z : Int) (h : 0 ≤ z) : zig (unzig z) = z := by unfold unzig zig; repeat' split <;> omega
theorem unzig_bd (z : Int) (h : 0 ≤ z ∧ z < 18446744073709551616) : -9223372036854775808 ≤ unzig z ∧ unzig z ≤ 9223372036854775807 := by unfold unzig; split <;> omega
theorem be8_rev (n : Int) : be8 n = (leK 8 n).reverse := by
  apply List.ext_getElem
  · rw [be8_len, List.length_reverse, leK_len]
  intro i h1 h2
  rw [be8_len] at h1
  have g1 := be8_get n i h1
  have g2 := leK_get 8 n (7 - i) (by omega)
  rw [List.getD_eq_getElem?_getD, List.getElem?_eq_getElem (by rw [be8_len]; exact h1), Option.getD_some] at g1
  rw [List.getD_eq_getElem?_getD, List.getElem?_eq_getElem (by rw [leK_len]; omega), Option.getD_some] at g2
  have e : (leK 8 n).length - 1 - i = 7 - i := by rw [leK_len]
  rw [g1, List.getElem_reverse]
  simp only [e]
  rw [g2, show 8 * (7 - i) = 56 - 8 * i by omega]
theorem be_be8 (n : Int) (h : 0 ≤ n ∧ n < 18446744073709551616) : be (be8 n) = n := by
  rw [be8_rev]
  exact be_rev 8 n h.1 (by simp; omega)
theorem be8_be (xs : List Int) (hB : Bd .u8 xs) (hl : xs.length = 8) : be8 (be xs) = xs := by
  have := le_be xs.reverse fun y hy => hB y (List.mem_reverse.1 hy)
  rw [List.reverse_reverse, List.length_reverse, hl] at this
  rw [be8_rev, this, List.reverse_reverse]
/-- What of a value is read behind its kind. -/
def valR (k : Int) (r : List Int) : Option (Int × Int × ByteArray × Nat) :=
  if k = 1 then (readN r).bind fun x => some (unzig x.1, 0, ByteArray.empty, x.2)
  else if k = 2 then (if r.length < 8 then none else some (0, be (r.take 8), ByteArray.empty, 8))
  else if k = 3 then (readB 30 r).bind fun x => some (0, 0, strOfNums x.1, x.2)
  else some (0, 0, ByteArray.empty, 0)
/-- A value that is read. -/
def valD (b : List Int) : Option (Int × Int × Int × ByteArray × Nat) :=
  match b with
  | [] => none
  | k :: r => (valR k r).bind fun x => if FineV k x.1 x.2.1 x.2.2.1 then some (k, x.1, x.2.1, x.2.2.1, x.2.2.2 + 1) else none
theorem val_num {k num bits : Int} {t : ByteArray} (r : List Int) (hF : FineV k num bits t) (hn : -9223372036854775808 ≤ num ∧ num ≤ 9223372036854775807) (hb : 0 ≤ bits ∧ bits < 18446744073709551616) :
    valD (valS k num bits t ++ r) = some (k, num, bits, t, (valS k num bits t).length) := by
  have hF' := hF
  rcases hF with ⟨rfl, rfl, rfl⟩ | ⟨rfl, rfl, rfl, hc⟩ | ⟨rfl, rfl, rfl, ht, ha⟩
  · have hz := zig_bd num hn
    simp only [valS, if_true, List.cons_append, List.nil_append, valD, valR]
    rw [read_num _ hz.1 hz.2]
    simp only [Option.bind_some, unzig_zig, if_pos hF', List.length_cons]
  · simp only [valS, show ¬ (2 : Int) = 1 by decide, if_true, if_false, List.cons_append, List.nil_append, valD, valR, List.length_append, be8_len]
    rw [if_neg (by omega), List.take_append_of_le_length (by rw [be8_len]; exact Nat.le_refl _), List.take_of_length_le (by rw [be8_len]; exact Nat.le_refl _), be_be8 _ hb]
    simp only [Option.bind_some, if_pos hF', List.length_cons, be8_len]
  · simp only [valS, show ¬ (3 : Int) = 1 by decide, show ¬ (3 : Int) = 2 by decide, if_true, if_false, List.cons_append, List.nil_append, valD, valR]
    have := readB_num 30 (bys t) r (by rw [bys_len]; omega) (by rw [bys_len]; omega)
    rw [bys_len] at this
    rw [this]
    simp only [Option.bind_some, strOf_bys, if_pos hF', List.length_cons, List.length_append, bys_len]
theorem val_inv {b : List Int} (hB : Bd .u8 b) {k num bits : Int} {t : ByteArray} {u : Nat} (h : valD b = some (k, num, bits, t, u)) :
    FineV k num bits t ∧ (0 ≤ k ∧ k < 256) ∧ (-9223372036854775808 ≤ num ∧ num ≤ 9223372036854775807) ∧ (0 ≤ bits ∧ bits < 18446744073709551616) ∧ u ≤ b.length ∧ b = valS k num bits t ++ b.drop u ∧ u = (valS k num bits t).length := by
  cases b with
  | nil => cases h
  | cons x r =>
    have hx := hB x List.mem_cons_self
    have hr : Bd .u8 r := fun y hy => hB y (List.mem_cons_of_mem _ hy)
    simp only [lim] at hx
    simp only [valD, Option.bind_eq_some_iff] at h
    obtain ⟨⟨n, c, s, v⟩, h1, h2⟩ := h
    simp only at h2
    split at h2
    · rename_i hF
      simp only [Option.some.injEq, Prod.mk.injEq] at h2
      obtain ⟨rfl, rfl, rfl, rfl, rfl⟩ := h2
      refine ⟨hF, hx, ?_⟩
      rw [List.drop_succ_cons]
      unfold valR at h1
      unfold valS
      split at h1
      · rename_i h
        simp only [Option.bind_eq_some_iff, Option.some.injEq, Prod.mk.injEq] at h1
        obtain ⟨⟨m, w⟩, h1, rfl, rfl, rfl, rfl⟩ := h1
        obtain ⟨q1, q2, q3, q4, q5⟩ := read_inv hr h1
        simp only at q3 q4 q5 ⊢
        rw [if_pos h, zig_unzig _ q1]
        refine ⟨unzig_bd _ ⟨q1, q2⟩, by decide, by simp; omega, ?_, by simp; omega⟩
        rw [List.cons_append, List.nil_append, List.cons_append, ← q4]
      · rename_i h
        rw [if_neg h]
        split at h1
        · rename_i h
          rw [if_pos h]
          split at h1
          · cases h1
          · simp only [Option.some.injEq, Prod.mk.injEq] at h1
            obtain ⟨rfl, rfl, rfl, rfl⟩ := h1
            have hb := be8_lt r 8 hr (Nat.le_refl _)
            rw [be8_be _ (hr.take 8) (by rw [List.length_take]; omega)]
            refine ⟨by decide, hb, by simp; omega, ?_, by simp; omega⟩
            rw [List.cons_append, List.nil_append, List.cons_append, List.take_append_drop]
        · rename_i h
          rw [if_neg h]
          split at h1
          · rename_i h
            rw [if_pos h]
            simp only [Option.bind_eq_some_iff, Option.some.injEq, Prod.mk.injEq] at h1
            obtain ⟨⟨m, w⟩, h1, rfl, rfl, rfl, rfl⟩ := h1
            obtain ⟨q1, q2, q3, q4⟩ := readB_inv hr h1
            have hm : Bd .u8 m := fun y hy => hr y (by rw [q3]; simp [hy])
            have hsz : (strOfNums m).size = m.length := by rw [← bys_len, bys_strOf _ hm]
            simp only at q2 q3 q4 ⊢
            rw [bys_strOf _ hm, hsz]
            refine ⟨by decide, by decide, by simp; omega, ?_, by simp; omega⟩
            rw [List.cons_append, List.nil_append, List.cons_append, ← q3]
          · rename_i h
            rcases hF with ⟨hk, _⟩ | ⟨hk, _⟩ | ⟨hk, _⟩ <;> contradiction
    · cases h2
/-- Readers that leave the rest. -/
def oneR (b : List Int) : Option (Int × List Int) :=
  match b with
  | [] => none
  | x :: t => some (x, t)
def numR (b : List Int) : Option (Int × List Int) := (readN b).bind fun r => some (r.1, b.drop r.2)
def idsR (b : List Int) : Option (Nat × List Int × List Int) := (readI 4 b).bind fun r => some (r.1, r.2.1, b.drop r.2.2)
def keyR (b : List Int) : Option (ByteArray × List Int) := (readB 20 b).bind fun r => some (strOfNums r.1, b.drop r.2)
structure ActV where
  (vk num bits : Int) (key t : ByteArray)
def valV (key : ByteArray) (b : List Int) : Option (ActV × List Int) := (valD b).bind fun r => some (⟨r.1, r.2.1, r.2.2.1, key, r.2.2.2.1⟩, b.drop r.2.2.2.2)
def actR (k : Int) (b : List Int) : Option (ActV × List Int) :=
  if k = 1 then some (⟨0, 0, 0, .empty, .empty⟩, b)
  else (keyR b).bind fun r => if k = 4 then valV r.1 r.2 else some (⟨0, 0, 0, r.1, .empty⟩, r.2)
/-- AN OPERATION THAT IS READ. -/
def decS (b : List Int) : Option OpV :=
  (oneR b).bind fun h => if h.1 = 111 then (numR h.2).bind fun a => (idsR a.2).bind fun l => (numR l.2.2).bind fun t => (oneR t.2).bind fun k => (actR k.1 k.2).bind fun x => (numR x.2).bind fun e => (numR e.2).bind fun s =>
    if s.2 = [] ∧ checkE ⟨a.1, t.1, k.1, x.1.vk, x.1.num, x.1.bits, e.1, s.1, l.1, l.2.1, x.1.key, x.1.t⟩ = 0 then some ⟨a.1, t.1, k.1, x.1.vk, x.1.num, x.1.bits, e.1, s.1, l.1, l.2.1, x.1.key, x.1.t⟩ else none
  else none
theorem num_R (n : Int) (h0 : 0 ≤ n) (h1 : n < 18446744073709551616) (r : List Int) : numR (numS n ++ r) = some (n, r) := by
  unfold numR
  rw [read_num n h0 h1]
  simp
theorem numR_inv {b : List Int} (hB : Bd .u8 b) {n : Int} {r : List Int} (h : numR b = some (n, r)) : 0 ≤ n ∧ n < 18446744073709551616 ∧ b = numS n ++ r ∧ Bd .u8 r := by
  simp only [numR, Option.bind_eq_some_iff, Option.some.injEq, Prod.mk.injEq] at h
  obtain ⟨⟨m, u⟩, h, rfl, rfl⟩ := h
  obtain ⟨q1, q2, _, q4, _⟩ := read_inv hB h
  exact ⟨q1, q2, q4, hB.drop _⟩
theorem ids_R (n : Nat) (ids r : List Int) (h : n ≤ 4) (hl : ids.length = 32 * n) (hr : Rising n ids) : idsR (listS n ids ++ r) = some (n, ids, r) := by
  unfold idsR
  rw [readI_num 4 n ids r (by omega) (by omega) hl hr]
  simp
theorem idsR_inv {b : List Int} (hB : Bd .u8 b) {n : Nat} {ids r : List Int} (h : idsR b = some (n, ids, r)) : n ≤ 4 ∧ ids.length = 32 * n ∧ Rising n ids ∧ b = listS n ids ++ r ∧ Bd .u8 r := by
  simp only [idsR, Option.bind_eq_some_iff, Option.some.injEq, Prod.mk.injEq] at h
  obtain ⟨⟨m, s, u⟩, h, rfl, rfl, rfl⟩ := h
  obtain ⟨q1, _, q3, q4, q5, _⟩ := readI_inv hB h
  exact ⟨by omega, q3, q4, q5, hB.drop _⟩
theorem key_R (s : ByteArray) (r : List Int) (h : s.size ≤ 20) : keyR ((numS s.size ++ bys s) ++ r) = some (s, r) := by
  unfold keyR
  have := readB_num 20 (bys s) r (by rw [bys_len]; omega) (by rw [bys_len]; omega)
  rw [bys_len] at this
  rw [this]
  simp only [Option.bind_some, strOf_bys]
  rw [← bys_len s, ← List.length_append, List.drop_left]
theorem keyR_inv {b : List Int} (hB : Bd .u8 b) {s : ByteArray} {r : List Int} (h : keyR b = some (s, r)) : s.size ≤ 20 ∧ b = (numS s.size ++ bys s) ++ r ∧ Bd .u8 r := by
  simp only [keyR, Option.bind_eq_some_iff, Option.some.injEq, Prod.mk.injEq] at h
  obtain ⟨⟨m, u⟩, h, rfl, rfl⟩ := h
  obtain ⟨q1, q2, q3, q4⟩ := readB_inv hB h
  have hm : Bd .u8 m := fun y hy => hB y (by rw [q3]; simp [hy])
  have hsz : (strOfNums m).size = m.length := by rw [← bys_len, bys_strOf _ hm]
  simp only at q3 q1 ⊢
  rw [bys_strOf _ hm, hsz]
  exact ⟨by omega, q3, hB.drop _⟩
theorem val_V {k num bits : Int} {t : ByteArray} (key : ByteArray) (r : List Int) (hF : FineV k num bits t) (hn : -9223372036854775808 ≤ num ∧ num ≤ 9223372036854775807) (hb : 0 ≤ bits ∧ bits < 18446744073709551616) : valV key (valS k num bits t ++ r) = some (⟨k, num, bits, key, t⟩, r) := by
  unfold valV
  rw [val_num r hF hn hb]
  simp
theorem valV_inv {key : ByteArray} {b : List Int} (hB : Bd .u8 b) {x : ActV} {r : List Int} (h : valV key b = some (x, r)) :
    FineV x.vk x.num x.bits x.t ∧ x.key = key ∧ (0 ≤ x.vk ∧ x.vk < 256) ∧ (-9223372036854775808 ≤ x.num ∧ x.num ≤ 9223372036854775807) ∧ (0 ≤ x.bits ∧ x.bits < 18446744073709551616) ∧ b = valS x.vk x.num x.bits x.t ++ r ∧ Bd .u8 r := by
  simp only [valV, Option.bind_eq_some_iff, Option.some.injEq, Prod.mk.injEq] at h
  obtain ⟨⟨k, n, c, t, u⟩, h, rfl, rfl⟩ := h
  obtain ⟨q1, q2, q3, q4, _, q6, _⟩ := val_inv hB h
  exact ⟨q1, rfl, q2, q3, q4, q6, hB.drop _⟩
/-- The bytes of an act, behind its kind. -/
def actS (k : Int) (x : ActV) : List Int := if k = 1 then [] else (numS x.key.size ++ bys x.key) ++ (if k = 4 then valS x.vk x.num x.bits x.t else [])
theorem act_R (k : Int) (x : ActV) (r : List Int) (hF : FineAct k x.key x.vk x.num x.bits x.t) (hn : -9223372036854775808 ≤ x.num ∧ x.num ≤ 9223372036854775807) (hb : 0 ≤ x.bits ∧ x.bits < 18446744073709551616) : actR k (actS k x ++ r) = some (x, r) := by
  obtain ⟨vk, num, bits, key, t⟩ := x
  unfold actR actS
  rcases hF with ⟨rfl, rfl, rfl, rfl, rfl, rfl⟩ | ⟨hk, hK, rfl, rfl, rfl, rfl⟩ | ⟨rfl, hK, hV⟩
  · simp
  · rw [if_neg (by omega), if_neg (by omega), if_neg (by omega), List.append_nil, key_R _ _ hK.2.1]
    simp only [Option.bind_some]
    rw [if_neg (by omega)]
  · rw [if_neg (by omega), if_neg (by omega), if_pos rfl, List.append_assoc, key_R _ _ hK.2.1]
    simp only [Option.bind_some, if_true]
    exact val_V _ _ hV hn hb
theorem actR_inv {k : Int} {b : List Int} (hB : Bd .u8 b) {x : ActV} {r : List Int} (h : actR k b = some (x, r)) :
    (0 ≤ x.vk ∧ x.vk < 256) ∧ (-9223372036854775808 ≤ x.num ∧ x.num ≤ 9223372036854775807) ∧ (0 ≤ x.bits ∧ x.bits < 18446744073709551616) ∧ b = actS k x ++ r ∧ Bd .u8 r := by
  unfold actR at h
  unfold actS
  split at h
  · rename_i hk
    simp only [Option.some.injEq, Prod.mk.injEq] at h
    obtain ⟨rfl, rfl⟩ := h
    exact ⟨by decide, by decide, by decide, by rw [if_pos hk]; rfl, hB⟩
  · rename_i hk
    simp only [Option.bind_eq_some_iff] at h
    obtain ⟨⟨s, q⟩, h1, h⟩ := h
    obtain ⟨p1, p2, p3⟩ := keyR_inv hB h1
    rw [if_neg hk]
    simp only at h
    split at h
    · rename_i h4
      obtain ⟨_, q2, q3, q4, q5, q6, q7⟩ := valV_inv p3 h
      rw [if_pos h4]
      refine ⟨q3, q4, q5, ?_, q7⟩
      rw [q2, List.append_assoc, ← q6, ← p2]
    · rename_i h4
      simp only [Option.some.injEq, Prod.mk.injEq] at h
      obtain ⟨rfl, rfl⟩ := h
      exact ⟨⟨Int.le_refl 0, (by decide : (0 : Int) < 256)⟩, ⟨(by decide : -9223372036854775808 ≤ (0 : Int)), (by decide : (0 : Int) ≤ 9223372036854775807)⟩, ⟨Int.le_refl 0, (by decide : (0 : Int) < 18446744073709551616)⟩, by rw [if_neg h4, List.append_nil]; exact p2, p3⟩
def OpV.act (o : OpV) : ActV := ⟨o.vk, o.num, o.bits, o.key, o.t⟩
theorem enc_eq (o : OpV) : encS o = 111 :: (numS o.au ++ (listS o.n o.ids ++ (numS o.st ++ (o.k :: (actS o.k o.act ++ (numS o.e ++ numS o.s)))))) := by
  simp only [encS, msgS, actS, OpV.act, List.append_assoc, List.cons_append, List.nil_append]
theorem oneR_inv {b : List Int} (hB : Bd .u8 b) {x : Int} {r : List Int} (h : oneR b = some (x, r)) : b = x :: r ∧ (0 ≤ x ∧ x < 256) ∧ Bd .u8 r := by
  cases b with
  | nil => cases h
  | cons y t =>
    simp only [oneR, Option.some.injEq, Prod.mk.injEq] at h
    obtain ⟨rfl, rfl⟩ := h
    exact ⟨rfl, hB _ List.mem_cons_self, fun z hz => hB z (List.mem_cons_of_mem _ hz)⟩
theorem dec_inv {b : List Int} (hB : Bd .u8 b) {o : OpV} (h : decS b = some o) : o.rng ∧ o.ids.length = 32 * o.n ∧ checkE o = 0 ∧ b = encS o := by
  simp only [decS, Option.bind_eq_some_iff] at h
  obtain ⟨⟨x, r⟩, h1, h⟩ := h
  split at h
  · rename_i hx
    simp only at hx
    subst hx
    simp only [Option.bind_eq_some_iff] at h
    obtain ⟨⟨a, r1⟩, h2, ⟨n, ids, r2⟩, h3, ⟨t, r3⟩, h4, ⟨k, r4⟩, h5, ⟨y, r5⟩, h6, ⟨e, r6⟩, h7, ⟨s, r7⟩, h8, h⟩ := h
    dsimp only at h2 h3 h4 h5 h6 h7 h8
    obtain ⟨rfl, _, B1⟩ := oneR_inv hB h1
    obtain ⟨a1, a2, rfl, B2⟩ := numR_inv B1 h2
    obtain ⟨n1, n2, n3, rfl, B3⟩ := idsR_inv B2 h3
    obtain ⟨t1, t2, rfl, B4⟩ := numR_inv B3 h4
    obtain ⟨rfl, k1, B5⟩ := oneR_inv B4 h5
    obtain ⟨y1, y2, y3, rfl, B6⟩ := actR_inv B5 h6
    obtain ⟨e1, e2, rfl, B7⟩ := numR_inv B6 h7
    obtain ⟨s1, s2, rfl, B8⟩ := numR_inv B7 h8
    simp only at h
    split at h
    · rename_i hz
      obtain ⟨rfl, hz⟩ := hz
      simp only [Option.some.injEq] at h
      subst h
      obtain ⟨c1, c2, c3, c4, c5, c6, c7⟩ := check_zero.1 hz
      have := (isG_bd c3).2
      simp only at c5 c6 this
      refine ⟨⟨⟨a1, by show a < 4294967296; omega⟩, ⟨t1, t2⟩, k1, y1, y2, y3, ⟨e1, by show e < 4294967296; omega⟩, ⟨s1, by show s < 4294967296; omega⟩⟩, n2, hz, ?_⟩
      rw [enc_eq, List.append_nil]
      rfl
    · cases h
  · cases h
end Go.Proofs.YtiohpiiiapjblaaGreatDoor.S
namespace Go.Proofs.YtiohpiiiapjblaaGreatDoor.S
open G
/-- A state of the reader: whether an error was met, and what is left. -/
def numB (most : Int) (bad : Bool) (b : List Int) : Int × Bool × List Int :=
  match numR b with
  | some x => (x.1, bad || decide (most < x.1), x.2)
  | none => (0, true, b)
def oneB (bad : Bool) (b : List Int) : Int × Bool × List Int :=
  if bad then (0, true, b) else match b with
  | [] => (0, true, [])
  | x :: t => (x, false, t)
def idsB (bad : Bool) (b : List Int) : Nat × List Int × Bool × List Int :=
  match idsR b with
  | some x => (x.1, x.2.1, bad, x.2.2)
  | none => (0, [], true, b)
def keyB (bad : Bool) (b : List Int) : ByteArray × Bool × List Int :=
  match keyR b with
  | some x => (x.1, bad, x.2)
  | none => (.empty, true, b)
def valB (key : ByteArray) (bad : Bool) (b : List Int) : ActV × Bool × List Int :=
  match valV key b with
  | some x => (x.1, bad, x.2)
  | none => (⟨0, 0, 0, key, .empty⟩, true, b)
def actB (k : Int) (bad : Bool) (b : List Int) : ActV × Bool × List Int :=
  if k = 1 then (⟨0, 0, 0, .empty, .empty⟩, bad, b)
  else if k = 4 then valB (keyB bad b).1 (keyB bad b).2.1 (keyB bad b).2.2
  else (⟨0, 0, 0, (keyB bad b).1, .empty⟩, (keyB bad b).2.1, (keyB bad b).2.2)
theorem numB_ok {m : Int} {bad : Bool} {b : List Int} (h : (numB m bad b).2.1 = false) : bad = false ∧ numR b = some ((numB m bad b).1, (numB m bad b).2.2) ∧ (numB m bad b).1 ≤ m := by
  unfold numB at *
  cases hn : numR b with
  | none => rw [hn] at h; cases h
  | some x =>
    rw [hn] at h
    simp only [Bool.or_eq_false_iff, decide_eq_false_iff_not] at h ⊢
    exact ⟨h.1, trivial, by omega⟩
theorem oneB_ok {bad : Bool} {b : List Int} (h : (oneB bad b).2.1 = false) : bad = false ∧ oneR b = some ((oneB bad b).1, (oneB bad b).2.2) := by
  unfold oneB oneR at *
  cases bad with
  | true => simp at h
  | false =>
    cases b with
    | nil => simp at h
    | cons x t => exact ⟨rfl, rfl⟩
theorem idsB_ok {bad : Bool} {b : List Int} (h : (idsB bad b).2.2.1 = false) : bad = false ∧ idsR b = some ((idsB bad b).1, (idsB bad b).2.1, (idsB bad b).2.2.2) := by
  unfold idsB at *
  cases hn : idsR b with
  | none => rw [hn] at h; cases h
  | some x => rw [hn] at h; exact ⟨h, rfl⟩
theorem keyB_ok {bad : Bool} {b : List Int} (h : (keyB bad b).2.1 = false) : bad = false ∧ keyR b = some ((keyB bad b).1, (keyB bad b).2.2) := by
  unfold keyB at *
  cases hn : keyR b with
  | none => rw [hn] at h; cases h
  | some x => rw [hn] at h; exact ⟨h, rfl⟩
theorem valB_ok {key : ByteArray} {bad : Bool} {b : List Int} (h : (valB key bad b).2.1 = false) : bad = false ∧ valV key b = some ((valB key bad b).1, (valB key bad b).2.2) := by
  unfold valB at *
  cases hn : valV key b with
  | none => rw [hn] at h; cases h
  | some x => rw [hn] at h; exact ⟨h, rfl⟩
theorem actB_ok {k : Int} {bad : Bool} {b : List Int} (h : (actB k bad b).2.1 = false) : bad = false ∧ actR k b = some ((actB k bad b).1, (actB k bad b).2.2) := by
  unfold actB at *
  unfold actR
  by_cases h1 : k = 1
  · simp only [if_pos h1] at h ⊢; exact ⟨h, trivial⟩
  · simp only [if_neg h1] at h ⊢
    by_cases h4 : k = 4
    · simp only [if_pos h4] at h ⊢
      obtain ⟨q1, q2⟩ := valB_ok h
      obtain ⟨q3, q4⟩ := keyB_ok q1
      rw [q4]
      exact ⟨q3, q2⟩
    · simp only [if_neg h4] at h ⊢
      obtain ⟨q3, q4⟩ := keyB_ok h
      rw [q4]
      exact ⟨q3, rfl⟩
theorem numB_num (m n : Int) (h0 : 0 ≤ n) (h1 : n < 18446744073709551616) (hm : n ≤ m) (r : List Int) : numB m false (numS n ++ r) = (n, false, r) := by
  unfold numB
  rw [num_R n h0 h1]
  simp [hm]
theorem actB_act {k : Int} {x : ActV} {b r : List Int} (h : actR k b = some (x, r)) : actB k false b = (x, false, r) := by
  unfold actR at h
  unfold actB
  split at h
  · rename_i h1
    rw [if_pos h1]
    simp only [Option.some.injEq, Prod.mk.injEq] at h
    rw [h.1, h.2]
  · rename_i h1
    rw [if_neg h1]
    simp only [Option.bind_eq_some_iff] at h
    obtain ⟨⟨s, q⟩, h2, h⟩ := h
    have e : keyB false b = (s, false, q) := by unfold keyB; rw [h2]
    rw [e]
    simp only at h ⊢
    split at h
    · rename_i h4
      rw [if_pos h4]
      unfold valB
      rw [h]
    · rename_i h4
      rw [if_neg h4]
      simp only [Option.some.injEq, Prod.mk.injEq] at h
      rw [h.1, h.2]
/-- What the program reads, step by step. -/
structure Steps (b : List Int) where
  (h : Int × Bool × List Int) (a : Int × Bool × List Int) (l : Nat × List Int × Bool × List Int) (t k : Int × Bool × List Int) (x : ActV × Bool × List Int) (e s : Int × Bool × List Int)
  eh : h = oneB false b
  ea : a = numB 1000000007 h.2.1 h.2.2
  el : l = idsB a.2.1 a.2.2
  et : t = numB 1000000000000 l.2.2.1 l.2.2.2
  ek : k = oneB t.2.1 t.2.2
  ex : x = actB k.1 k.2.1 k.2.2
  ee : e = numB 500000003 x.2.1 x.2.2
  es : s = numB 500000003 e.2.1 e.2.2
def Steps.op {b : List Int} (p : Steps b) : OpV := ⟨p.a.1 % 4294967296, p.t.1, p.k.1, p.x.1.vk, p.x.1.num, p.x.1.bits, p.e.1 % 4294967296, p.s.1 % 4294967296, p.l.1, p.l.2.1, p.x.1.key, p.x.1.t⟩
/-- All was read: the operation. -/
theorem Steps.good {b : List Int} (hB : Bd .u8 b) (p : Steps b) (h0 : p.h.1 = 111) (h1 : p.s.2.1 = false) (h2 : p.s.2.2 = []) (h3 : checkE p.op = 0) : decS b = some p.op := by
  obtain ⟨h, a, l, t, k, x, e, s, eh, ea, el, et, ek, ex, ee, es⟩ := p
  simp only [Steps.op] at *
  subst es
  obtain ⟨b7, r7, m7⟩ := numB_ok h1
  subst ee
  obtain ⟨b6, r6, m6⟩ := numB_ok b7
  subst ex
  obtain ⟨b5, r5⟩ := actB_ok b6
  subst ek
  obtain ⟨b4, r4⟩ := oneB_ok b5
  subst et
  obtain ⟨b3, r3, m3⟩ := numB_ok b4
  subst el
  obtain ⟨b2, r2⟩ := idsB_ok b3
  subst ea
  obtain ⟨b1, r1, m1⟩ := numB_ok b2
  subst eh
  obtain ⟨_, r0⟩ := oneB_ok b1
  obtain ⟨_, _, B1⟩ := oneR_inv hB r0
  obtain ⟨z1, _, _, B2⟩ := numR_inv B1 r1
  obtain ⟨_, _, _, _, B3⟩ := idsR_inv B2 r2
  obtain ⟨_, _, _, B4⟩ := numR_inv B3 r3
  obtain ⟨_, _, B5⟩ := oneR_inv B4 r4
  obtain ⟨_, _, _, _, B6⟩ := actR_inv B5 r5
  obtain ⟨z6, _, _, B7⟩ := numR_inv B6 r6
  obtain ⟨z7, _, _, _⟩ := numR_inv B7 r7
  rw [Int.emod_eq_of_lt z1 (by omega), Int.emod_eq_of_lt z6 (by omega), Int.emod_eq_of_lt z7 (by omega)] at h3 ⊢
  unfold decS
  simp only [r0, Option.bind_some, h0, if_true, r1, r2, r3, r4, r5, r6, r7, h2, h3, and_self]
/-- What is read is found by the steps. -/
theorem Steps.bad {b : List Int} (hB : Bd .u8 b) (p : Steps b) {o : OpV} (hd : decS b = some o) : p.h.1 = 111 ∧ p.s.2.1 = false ∧ p.s.2.2 = [] ∧ checkE p.op = 0 := by
  obtain ⟨q1, q2, q3, rfl⟩ := dec_inv hB hd
  obtain ⟨c1, c2, c3⟩ := check_zero.1 q3
  obtain ⟨h, a, l, t, k, x, e, s, eh, ea, el, et, ek, ex, ee, es⟩ := p
  have g1 := (isG_bd c3.1).2
  have g2 := q1.au
  have g3 := q1.e
  have g4 := q1.s
  have g5 := c3.2.2.1
  have g6 := c3.2.2.2.1
  rw [enc_eq] at eh
  have eh' : h = (111, false, numS o.au ++ (listS o.n o.ids ++ (numS o.st ++ (o.k :: (actS o.k o.act ++ (numS o.e ++ numS o.s)))))) := eh
  subst eh'
  have ea' := ea.trans (numB_num 1000000007 o.au g2.1 (by omega) (by omega) _)
  subst ea'
  have el' : l = (o.n, o.ids, false, numS o.st ++ (o.k :: (actS o.k o.act ++ (numS o.e ++ numS o.s)))) := by
    rw [el]
    unfold idsB
    simp only
    rw [ids_R _ _ _ c1 q2 c2]
  subst el'
  have et' := et.trans (numB_num 1000000000000 o.st q1.st.1 q1.st.2 c3.2.1 _)
  subst et'
  have ek' : k = (o.k, false, actS o.k o.act ++ (numS o.e ++ numS o.s)) := ek
  subst ek'
  have ex' := ex.trans (actB_act (act_R o.k o.act _ c3.2.2.2.2 q1.num q1.bits))
  subst ex'
  have ee' := ee.trans (numB_num 500000003 o.e g3.1 (by omega) (by omega) _)
  subst ee'
  have es' := es.trans (by
    show _ = (o.s, false, [])
    have := numB_num 500000003 o.s g4.1 (by omega) (by omega) []
    rw [List.append_nil] at this
    exact this)
  subst es'
  refine ⟨rfl, rfl, rfl, ?_⟩
  simp only [Steps.op]
  rw [Int.emod_eq_of_lt g2.1 g2.2, Int.emod_eq_of_lt g3.1 g3.2, Int.emod_eq_of_lt g4.1 g4.2]
  exact q3
end Go.Proofs.YtiohpiiiapjblaaGreatDoor.S
