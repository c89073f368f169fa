/-
  Part 11 of the lemmas of these laws: JudgeFinds, JudgeLists, OpReads.
-/
import Derived.Test.YtiohpiiiapjblaaGreatDoorPJb10
namespace Go.Proofs.YtiohpiiiapjblaaGreatDoor.W
open Go.RowKit Go.Proofs.YtiohpiiiapjblaaGreatDoor.G
set_option linter.unusedVariables false
set_option maxRecDepth 20000
set_option maxHeartbeats 8000000
attribute [local irreducible] RS RX
theorem E20 : Enters Tryz.prog 20 := .mk Tryz.func20 (by kernel_rfl) rfl
theorem E35 : Enters Tryz.prog 35 := .mk Tryz.func35 (by kernel_rfl) rfl
theorem E56 : Enters Tryz.prog 56 := .mk Tryz.func56 (by kernel_rfl) rfl
theorem E57 : Enters Tryz.prog 57 := .mk Tryz.func57 (by kernel_rfl) rfl
theorem E58 : Enters Tryz.prog 58 := .mk Tryz.func58 (by kernel_rfl) rfl
theorem E59 : Enters Tryz.prog 59 := .mk Tryz.func59 (by kernel_rfl) rfl
theorem E71 : Enters Tryz.prog 71 := .mk Tryz.func71 (by kernel_rfl) rfl
theorem E97 : Enters Tryz.prog 97 := .mk Tryz.func97 (by kernel_rfl) rfl
theorem E98 : Enters Tryz.prog 98 := .mk Tryz.func98 (by kernel_rfl) rfl
theorem E99 : Enters Tryz.prog 99 := .mk Tryz.func99 (by kernel_rfl) rfl
theorem E100 : Enters Tryz.prog 100 := .mk Tryz.func100 (by kernel_rfl) rfl
theorem E101 : Enters Tryz.prog 101 := .mk Tryz.func101 (by kernel_rfl) rfl
theorem E118 : Enters Tryz.prog 118 := .mk Tryz.func118 (by kernel_rfl) rfl
theorem E119 : Enters Tryz.prog 119 := .mk Tryz.func119 (by kernel_rfl) rfl
theorem E120 : Enters Tryz.prog 120 := .mk Tryz.func120 (by kernel_rfl) rfl
theorem E137 : Enters Tryz.prog 137 := .mk Tryz.func137 (by kernel_rfl) rfl
theorem E138 : Enters Tryz.prog 138 := .mk Tryz.func138 (by kernel_rfl) rfl
theorem raisedR (a : Int) (ha : 0 ≤ a ∧ a < 4294967296) (n : Int) (hn : 0 ≤ n ∧ n < 18446744073709551616) (w : World) :
  Calls Tryz.prog 119 #[.int .u32 a, .int .u64 n] w (Ret w fun v _ => v = .int .u32 (S.pw a n 1000000007)) := by
 have hp1 := S.pw_nonneg a n 1000000007 (by decide)
 have hp2 := S.pw_lt a n 1000000007 (by decide)
 have hE := Ext.refl w
 refine enterU 8 Tryz.func119 rfl rfl ?_
 refine sq fun K1 hK1 => ?_
 refine RS.asI rfl ?_
 refine nl hK1 ?_
 refine sq fun K2 hK2 => ?_
 refine RS.mvI rfl ?_
 refine RS.o (D.conv rfl Tryz.underlying23 Tryz.underlying25 (W.u64 (by omega))) ?_
 refine RS.mvI rfl ?_
 refine RS.call E115 (ref_power _ _ _ (by omega) (by omega) (by omega) _) rfl (fun v3 w3 x3 A3 => ?_)
 replace hE := Ext.tr hE x3
 have zw3 := x3.size
 subst A3
 refine RS.nm ?_
 refine RS.o (D.conv rfl Tryz.underlying25 Tryz.underlying23 (W.u32 (by omega))) ?_
 refine RS.asI rfl ?_
 refine nl hK2 ?_
 refine wp_ret ?_
 refine retI rfl rfl ?_
 exact ⟨_, rfl, hE, rfl⟩
theorem baseR (n : Int) (hn : 0 ≤ n ∧ n < 18446744073709551616) (w : World) :
  Calls Tryz.prog 97 #[.int .u64 n] w (Ret w fun v _ => v = .int .u32 (S.pubS n)) := by
 have hE := Ext.refl w
 refine enterU 4 Tryz.func97 rfl rfl ?_
 refine sq fun K1 hK1 => ?_
 refine RS.asI rfl ?_
 refine nl hK1 ?_
 refine sq fun K2 hK2 => ?_
 refine RS.mvI rfl ?_
 refine RS.call E119 (raisedR _ (by decide) _ hn _) rfl (fun v3 w3 x3 A3 => ?_)
 replace hE := Ext.tr hE x3
 have zw3 := x3.size
 subst A3
 rw [S.pub_eq]
 refine RS.nm ?_
 refine RS.asI rfl ?_
 refine nl hK2 ?_
 refine wp_ret ?_
 refine retI rfl rfl ?_
 exact ⟨_, rfl, hE, rfl⟩
theorem keyRf (x : Int) (hx : 0 ≤ x ∧ x < 4294967296) (w : World) :
  Calls Tryz.prog 58 #[.int .u32 x] w (Ret w fun v _ => v = .int .u32 (S.pubS x)) := by
 have hE := Ext.refl w
 refine enterU 5 Tryz.func58 rfl rfl ?_
 refine sq fun K1 hK1 => ?_
 refine RS.asI rfl ?_
 refine nl hK1 ?_
 refine sq fun K2 hK2 => ?_
 refine RS.mvI rfl ?_
 refine RS.o (D.conv rfl Tryz.underlying23 Tryz.underlying25 (W.u64 (by omega))) ?_
 refine RS.call E97 (baseR _ (by omega) _) rfl (fun v3 w3 x3 A3 => ?_)
 replace hE := Ext.tr hE x3
 have zw3 := x3.size
 subst A3
 refine RS.nm ?_
 refine RS.asI rfl ?_
 refine nl hK2 ?_
 refine wp_ret ?_
 refine retI rfl rfl ?_
 exact ⟨_, rfl, hE, rfl⟩
theorem productR (a : Int) (ha : 0 ≤ a ∧ a < 4294967296) (b : Int) (hb : 0 ≤ b ∧ b < 4294967296) (w : World) :
  Calls Tryz.prog 120 #[.int .u32 a, .int .u32 b] w (Ret w fun v _ => v = .int .u32 (a * b % 1000000007)) := by
 have hm := S.mul32 ha hb
 have hr1 := Int.emod_nonneg (a * b) (show (1000000007 : Int) ≠ 0 by decide)
 have hr2 := Int.emod_lt_of_pos (a * b) (show (0 : Int) < 1000000007 by decide)
 have hE := Ext.refl w
 refine enterU 10 Tryz.func120 rfl rfl ?_
 refine sq fun K1 hK1 => ?_
 refine RS.asI rfl ?_
 refine nl hK1 ?_
 refine sq fun K2 hK2 => ?_
 refine RS.mvI rfl ?_
 refine RS.o (D.conv rfl Tryz.underlying23 Tryz.underlying25 (W.u64 (by omega))) ?_
 refine RS.mvI rfl ?_
 refine RS.o (D.conv rfl Tryz.underlying23 Tryz.underlying25 (W.u64 (by omega))) ?_
 refine RS.o (D.mul rfl rfl (W.u64 (by omega))) ?_
 refine RS.o (D.rem rfl rfl (by omega) (by omega)) ?_
 refine RS.o (D.conv rfl Tryz.underlying25 Tryz.underlying23 (W.u32 (by omega))) ?_
 refine RS.asI rfl ?_
 refine nl hK2 ?_
 refine wp_ret ?_
 refine retI rfl rfl ?_
 exact ⟨_, rfl, hE, rfl⟩
theorem sumR (a : Int) (ha : 0 ≤ a ∧ a < 4294967296) (b : Int) (hb : 0 ≤ b ∧ b < 4294967296) (w : World) :
  Calls Tryz.prog 100 #[.int .u32 a, .int .u32 b] w (Ret w fun v _ => v = .int .u32 ((a + b) % 500000003)) := by
 have hE := Ext.refl w
 refine enterU 10 Tryz.func100 rfl rfl ?_
 refine sq fun K1 hK1 => ?_
 refine RS.asI rfl ?_
 refine nl hK1 ?_
 refine sq fun K2 hK2 => ?_
 refine RS.mvI rfl ?_
 refine RS.o (D.conv rfl Tryz.underlying23 Tryz.underlying25 (W.u64 (by omega))) ?_
 refine RS.mvI rfl ?_
 refine RS.o (D.conv rfl Tryz.underlying23 Tryz.underlying25 (W.u64 (by omega))) ?_
 refine RS.o (D.add rfl rfl (W.u64 (by omega))) ?_
 refine RS.o (D.rem rfl rfl (by omega) (by omega)) ?_
 refine RS.o (D.conv rfl Tryz.underlying25 Tryz.underlying23 (W.u32 (by omega))) ?_
 refine RS.asI rfl ?_
 refine nl hK2 ?_
 refine wp_ret ?_
 refine retI rfl rfl ?_
 exact ⟨_, rfl, hE, rfl⟩
theorem scaledR (a : Int) (ha : 0 ≤ a ∧ a < 4294967296) (b : Int) (hb : 0 ≤ b ∧ b < 4294967296) (w : World) :
  Calls Tryz.prog 101 #[.int .u32 a, .int .u32 b] w (Ret w fun v _ => v = .int .u32 (a * b % 500000003)) := by
 have hm := S.mul32 ha hb
 have hr1 := Int.emod_nonneg (a * b) (show (500000003 : Int) ≠ 0 by decide)
 have hr2 := Int.emod_lt_of_pos (a * b) (show (0 : Int) < 500000003 by decide)
 have hE := Ext.refl w
 refine enterU 10 Tryz.func101 rfl rfl ?_
 refine sq fun K1 hK1 => ?_
 refine RS.asI rfl ?_
 refine nl hK1 ?_
 refine sq fun K2 hK2 => ?_
 refine RS.mvI rfl ?_
 refine RS.o (D.conv rfl Tryz.underlying23 Tryz.underlying25 (W.u64 (by omega))) ?_
 refine RS.mvI rfl ?_
 refine RS.o (D.conv rfl Tryz.underlying23 Tryz.underlying25 (W.u64 (by omega))) ?_
 refine RS.o (D.mul rfl rfl (W.u64 (by omega))) ?_
 refine RS.o (D.rem rfl rfl (by omega) (by omega)) ?_
 refine RS.o (D.conv rfl Tryz.underlying25 Tryz.underlying23 (W.u32 (by omega))) ?_
 refine RS.asI rfl ?_
 refine nl hK2 ?_
 refine wp_ret ?_
 refine retI rfl rfl ?_
 exact ⟨_, rfl, hE, rfl⟩
theorem invR (a : Int) (ha : 0 ≤ a ∧ a < 4294967296) (hg : S.isG a = true) (w : World) :
  Calls Tryz.prog 118 #[.int .u32 a] w (Ret w fun v _ => v = .tuple #[.int .u32 (S.pw a 500000002 1000000007), .int .i64 0]) := by
 have hE := Ext.refl w
 refine enterU 8 Tryz.func118 rfl rfl ?_
 refine sq fun K1 hK1 => ?_
 refine RS.asI rfl ?_
 refine RS.asI rfl ?_
 refine nl hK1 ?_
 refine wp_seq_k (fun K2 hK2 => ?_)
 refine sq fun K3 hK3 => ?_
 refine RS.mvI rfl ?_
 refine RS.call E68 (ref_Is _ (by omega) _) rfl (fun v4 w4 x4 A4 => ?_)
 replace hE := Ext.tr hE x4
 have zw4 := x4.size
 subst A4
 refine RS.nm ?_
 refine RS.o (D.not rfl) ?_
 refine nl hK3 ?_
 refine C.ifnot rfl (fun c5 => ?_) (fun c5 => ?_)
 ·rw [hg] at c5; cases c5
 refine wp_skip ?_
 refine hK2 _ _ ?_
 refine sq fun K6 hK6 => ?_
 refine RS.mvI rfl ?_
 refine RS.call E119 (raisedR _ ha _ (by decide) _) rfl (fun v7 w7 x7 A7 => ?_)
 replace hE := Ext.tr hE x7
 have zw7 := x7.size
 subst A7
 refine RS.nm ?_
 refine RS.asI rfl ?_
 refine RS.asI rfl ?_
 refine nl hK6 ?_
 refine wp_ret ?_
 refine ret (rs := [.tmp 2, .tmp 3]) (vs := [.int _ _, .int _ _]) (v := (.tuple #[.int _ _, .int _ _])) rfl ⟨rfl, rfl, trivial⟩ rfl ?_
 exact ⟨_, rfl, hE, rfl⟩
theorem secR (x : Int) (hx : 0 ≤ x ∧ x < 4294967296) (w : World) :
  Calls Tryz.prog 56 #[.int .u32 x] w (Ret w fun v _ => v = .int .i64 (S.secE x)) := by
 have hE := Ext.refl w
 refine enterU 9 Tryz.func56 rfl rfl ?_
 refine sq fun K1 hK1 => ?_
 refine RS.asI rfl ?_
 refine nl hK1 ?_
 refine wp_seq_k (fun K2 hK2 => ?_)
 refine sq fun K3 hK3 => ?_
 refine RS.mvI rfl ?_
 refine RS.o (D.eq rfl rfl) ?_
 refine RS.mvB rfl ?_
 refine RS.splite 5 rfl rfl (fun c4 => ?_) (fun c4 => ?_)
 ·refine RS.nm ?_
  refine RS.skT 5 ?_
  refine RS.skT 5 ?_
  refine RS.skT 5 ?_
  refine RS.pick (v := .bool true) rfl rfl ?_
  refine nl hK3 ?_
  refine C.ift rfl ?_
  refine sq fun K5 hK5 => ?_
  refine RS.asI rfl ?_
  refine nl hK5 ?_
  refine wp_ret ?_
  refine retI rfl rfl ?_
  refine ⟨_, rfl, hE, congrArg (Value.int .i64) ?_⟩
  unfold S.secE
  first | rw [if_pos (by omega)] | rw [if_neg (by omega)]
 refine RS.nm ?_
 refine RS.wt 5 ?_
 refine RS.mvI rfl ?_
 refine RS.wt 5 ?_
 refine RS.o (D.conv rfl Tryz.underlying23 Tryz.underlying25 (W.u64 (by omega))) ?_
 refine RS.wt 5 ?_
 refine RS.o (D.ge rfl rfl) ?_
 refine RS.pick (v := .bool _) rfl rfl ?_
 refine nl hK3 ?_
 refine C.ifd rfl (fun c6 => ?_) (fun c6 => ?_)
 ·refine wp_seq_k (fun K7 hK7 => ?_)
  refine region ?_
  refine RS.asI rfl ?_
  refine nl hK7 ?_
  refine wp_ret ?_
  refine retI rfl rfl ?_
  refine ⟨_, rfl, hE, congrArg (Value.int .i64) ?_⟩
  unfold S.secE
  first | rw [if_pos (by omega)] | rw [if_neg (by omega)]
 refine wp_skip ?_
 refine hK2 _ _ ?_
 refine sq fun K8 hK8 => ?_
 refine RS.asI rfl ?_
 refine nl hK8 ?_
 refine wp_ret ?_
 refine retI rfl rfl ?_
 refine ⟨_, rfl, hE, congrArg (Value.int .i64) ?_⟩
 unfold S.secE
 first | rw [if_pos (by omega)] | rw [if_neg (by omega)]
theorem fourR (x : Int) (hx : 0 ≤ x ∧ x < 4294967296) (w : World) :
  Calls Tryz.prog 137 #[.int .u32 x] w (Ret w fun v w' => ∃ a' c', v = .slice a' 4 c' ∧ IOwn w.heap.size w' 5 .u8 a' 4 c' (S.by4 x)) := by
 have hE := Ext.refl w
 refine enterU 17 Tryz.func137 rfl rfl ?_
 refine sq fun K1 hK1 => ?_
 refine RS.asS rfl ?_
 refine nl hK1 ?_
 refine sq fun K2 hK2 => ?_
 refine RS.mvI rfl ?_
 refine RS.o (D.quo rfl rfl (by omega) (by omega) (W.u32 (by omega))) ?_
 refine RS.o (D.conv rfl Tryz.underlying23 Tryz.underlying5 (W.u8 (by omega))) ?_
 refine RS.mvI rfl ?_
 refine RS.o (D.quo rfl rfl (by omega) (by omega) (W.u32 (by omega))) ?_
 refine RS.o (D.rem rfl rfl (by omega) (by omega)) ?_
 refine RS.o (D.conv rfl Tryz.underlying23 Tryz.underlying5 (W.u8 (by omega))) ?_
 refine RS.mvI rfl ?_
 refine RS.o (D.quo rfl rfl (by omega) (by omega) (W.u32 (by omega))) ?_
 refine RS.o (D.rem rfl rfl (by omega) (by omega)) ?_
 refine RS.o (D.conv rfl Tryz.underlying23 Tryz.underlying5 (W.u8 (by omega))) ?_
 refine RS.mvI rfl ?_
 refine RS.o (D.rem rfl rfl (by omega) (by omega)) ?_
 refine RS.o (D.conv rfl Tryz.underlying23 Tryz.underlying5 (W.u8 (by omega))) ?_
 refine RS.buildSlice (xs := [.tmp 5, .tmp 9, .tmp 13, .tmp 16]) (vs := [.int _ _, .int _ _, .int _ _, .int _ _]) (cs := [.int _ _, .int _ _, .int _ _, .int _ _]) Tryz.underlying22 T5 (by decide) rfl rfl rfl rfl rfl rfl (by intro v hv; simp only [List.mem_cons, List.not_mem_nil, or_false] at hv; rcases hv with rfl | rfl | rfl | rfl <;> rfl) rfl (fun b3 w3 e3 s3 x3 B3 => ?_)
 refine RS.nm ?_
 replace hE := Ext.tr hE x3
 have zw3 := x3.size
 have O1 : IOwn w.heap.size w3 5 .u8 (some ⟨b3, 0, none⟩) 4 4 [_, _, _, _] := IOwn.of_blk B3 rfl rfl (by omega) (.cons (by simp only [lim]; omega) (.cons (by simp only [lim]; omega) (.cons (by simp only [lim]; omega) (.cons (by simp only [lim]; omega) (.nil _))))) (by decide)
 refine RS.asS rfl ?_
 refine nl hK2 ?_
 refine wp_ret ?_
 refine ret (rs := [.tmp 2]) (vs := [.slice _ _ _]) (v := (.slice _ _ _)) rfl ⟨rfl, trivial⟩ rfl ?_
 rw [S.by4_ref x hx] at O1
 exact ⟨_, rfl, hE, _, _, rfl, O1.base (fun k hk => by have := O1.lo k hk; omega)⟩
theorem numberR {S0 : Nat → Prop} (a : Option Addr) (n c : Nat) (m : List Int) (w : World) (R0 : IRow .u8 S0 w a n m) (hn : n ≤ 200000) (hc : n ≤ c) :
  Calls Tryz.prog 138 #[.slice a n c] w (Ret w fun v _ => v = .int .u64 (S.be ((S.sha m).take 8))) := by
 replace R0 := R0.weaken (T := fun k => k < w.heap.size) (fun k hk _ => hk)
 have hE := Ext.refl w
 refine enterU 19 Tryz.func138 rfl rfl ?_
 refine sq fun K1 hK1 => ?_
 refine RS.asI rfl ?_
 refine nl hK1 ?_
 refine sq fun K2 hK2 => ?_
 refine RS.mvS rfl ?_
 refine RS.call E72 (of _ _ _ _ _ R0 hn hc) rfl (fun v3 w3 x3 A3 => ?_)
 replace hE := Ext.tr hE x3
 replace R0 := R0.ext x3
 have zw3 := x3.size
 subst A3
 have hsa := S.sha_arr m
 refine RS.nm ?_
 refine RS.alloc T35 (fun b4 w4 e4 s4 x4 B4 => ?_)
 refine RS.nm ?_
 replace hE := Ext.tr hE x4
 replace R0 := R0.ext x4
 have zw4 := x4.size
 have A4 : IArr .u8 w4 b4 32 (List.replicate 32 0) [] 35 := IArr.zero B4
 clear B4
 refine RS.storeArr A4 rfl rfl C35 (by decide) hsa.1 hsa.2 (fun w5 y5 N5 => ?_)
 replace hE := hE.trans (y5.belo)
 replace R0 := R0.sto y5
 have zw5 := y5.size
 replace A4 := N5
 refine nl hK2 ?_
 refine sq fun K6 hK6 => ?_
 refine RS.asI rfl ?_
 refine nl hK6 ?_
 refine wp_seq_k (fun K7 hK7 => ?_)
 refine sq fun K8 hK8 => ?_
 refine RS.asI rfl ?_
 refine nl hK8 ?_
 refine wp_block ?_
 refine C.loop (A := Int × Int) (fun p => [(4, .int .u64 p.2), (5, .int .i64 p.1)]) [8, 9, 10, 11, 12, 13, 14, 15, 16, 17, 18] (fun p w' => Ext w5 w' ∧ ((0 ≤ p.1 ∧ p.1 ≤ 8) ∧ p.2 = S.be ((S.sha m).take p.1.toNat))) (fun p => (8 - p.1.toNat)) (0, 0) (by kernel_rfl) ?_ ?_
 ·exact ⟨Ext.refl _, ⟨by dsimp only; omega, by dsimp only; omega⟩, rfl⟩
 rintro p j w9 ⟨x9, hI⟩
 replace hE := Ext.tr hE x9
 replace R0 := R0.ext x9
 replace A4 := A4.ext x9
 have zw9 := x9.size
 obtain ⟨i, r⟩ := p
 dsimp only at hI
 obtain ⟨g1, g2⟩ := hI
 have g3 := S.be8_lt (S.sha m) i.toNat hsa.2 (by omega)
 rw [← g2] at g3
 refine C.norm (by simp only [upd, junk, List.map_cons, List.map_nil, List.set_cons_succ, List.set_cons_zero]; exact rfl) ?_
 refine wp_seq_k (fun K10 hK10 => ?_)
 refine sq fun K11 hK11 => ?_
 refine RS.mvI rfl ?_
 refine RS.o (D.lt rfl rfl) ?_
 refine nl hK11 ?_
 refine C.ifd rfl (fun c12 => ?_) (fun c12 => ?_)
 ·have g4 := S.be7_lt (S.sha m) i.toNat hsa.2 (by omega)
  rw [← g2] at g4
  refine wp_skip ?_
  refine hK10 _ _ ?_
  refine wp_seq_k (fun K13 hK13 => ?_)
  refine wp_block ?_
  refine region ?_
  refine RS.mvI rfl ?_
  refine RS.o (D.mul rfl rfl (W.u64 (by omega))) ?_
  refine RS.mvI rfl ?_
  refine RS.idxA A4 rfl rfl Tryz.underlying35 C5 (by omega) (fun v14 h14 q14 r14 => ?_)
  refine RS.nm ?_
  simp only [lim] at r14
  have q2 := q14
  have hgr := S.be_grow (S.sha m) i.toNat (by rw [hsa.1]; omega)
  rw [← g2, ← q2] at hgr
  have hb8 := S.be8_lt (S.sha m) (i.toNat + 1) hsa.2 (by omega)
  rw [← hgr] at hb8
  refine RS.o (D.load rfl Tryz.underlying5 rfl (h14)) ?_
  refine RS.o (D.conv rfl Tryz.underlying5 Tryz.underlying25 (W.u64 (by omega))) ?_
  refine RS.o (D.add rfl rfl (W.u64 (by omega))) ?_
  refine RS.asI rfl ?_
  refine nl hK13 ?_
  refine region ?_
  refine RS.mvI rfl ?_
  refine RS.o (D.add rfl rfl (W.i64 (by omega))) ?_
  refine RS.asI rfl ?_
  refine RS.nil ?_
  change Nx _ _ _ _ _ _ _ _
  refine C.next (i + 1, _) ⟨rfl, rfl, trivial⟩ (by kernel_rfl) ?_ ?_
  ·refine ⟨x9, ⟨by dsimp only; omega, by dsimp only; omega⟩, ?_⟩
   dsimp only
   rw [show (i + 1).toNat = i.toNat + 1 by omega, ← hgr]
  dsimp only; omega
 refine wp_exit ?_
 refine hK7 _ _ ?_
 refine sq fun K15 hK15 => ?_
 refine RS.mvI rfl ?_
 refine RS.asI rfl ?_
 refine nl hK15 ?_
 refine wp_ret ?_
 refine retI rfl rfl ?_
 rw [g2, show i.toNat = 8 by omega]
 exact ⟨_, rfl, hE, rfl⟩
theorem nonceRf (x : Int) (hx : 0 ≤ x ∧ x < 4294967296) {S0 : Nat → Prop} (a : Option Addr) (n c : Nat) (m : List Int) (w : World) (R0 : IRow .u8 S0 w a n m) (hn : n ≤ 100000) :
  Calls Tryz.prog 98 #[.int .u32 x, .slice a n c] w (Ret w fun v _ => v = .int .u32 (S.nonceS x m)) := by
 replace R0 := R0.weaken (T := fun k => k < w.heap.size) (fun k hk _ => hk)
 have hE := Ext.refl w
 refine enterU 15 Tryz.func98 rfl rfl ?_
 refine sq fun K1 hK1 => ?_
 refine RS.asI rfl ?_
 refine nl hK1 ?_
 refine sq fun K2 hK2 => ?_
 refine RS.buildSlice (xs := [.const (.int .u8 110)]) (vs := [.int _ _]) (cs := [.int _ _]) Tryz.underlying22 T5 (by decide) rfl rfl rfl rfl rfl rfl (by intro v hv; simp only [List.mem_cons, List.not_mem_nil, or_false] at hv; subst hv; rfl) rfl (fun b3 w3 e3 s3 x3 B3 => ?_)
 refine RS.nm ?_
 replace hE := Ext.tr hE x3
 replace R0 := R0.ext x3
 have zw3 := x3.size
 have O1 : IOwn w.heap.size w3 5 .u8 (some ⟨b3, 0, none⟩) 1 1 [_] := IOwn.of_blk B3 rfl rfl (by omega) (.cons (by simp only [lim]; omega) (.nil _)) (by decide)
 refine RS.mvI rfl ?_
 refine RS.call E137 (fourR x (by omega) _) rfl (fun v4 w4 x4 A4 => ?_)
 replace hE := Ext.tr hE x4
 replace R0 := R0.ext x4
 replace O1 := O1.ext x4
 have zw4 := x4.size
 obtain ⟨aF, cF, rfl, OF⟩ := A4
 refine RS.nm ?_
 refine RS.appendI O1 OF.row rfl rfl Tryz.underlying22 T5 rfl (by omega) (by decide) (by omega) (fun a5 c5 w5 N5 x5 => ?_)
 refine RS.nm ?_
 replace hE := hE.trans (x5.below (by intros; try (first | (intro _ _) | (intro _) | skip); first | omega | (have hq := O1.lo _ (by assumption); first | omega | (dsimp only at *; omega))) (by intros; try (first | (intro _ _) | (intro _) | skip); first | omega | (dsimp only at *; omega) | (simp_all; done) | (simp at *; omega)))
 replace R0 := R0.pr x5 (by intros; try (first | (intro _ _) | (intro _) | skip); first | omega | (have hq := O1.lo _ (by assumption); first | omega | (dsimp only at *; omega)))
 have zw5 := x5.size
 replace O1 := N5
 refine RS.asS rfl ?_
 refine nl hK2 ?_
 refine sq fun K6 hK6 => ?_
 refine RS.mvS rfl ?_
 refine RS.mvS rfl ?_
 refine RS.appendI O1 R0 rfl rfl Tryz.underlying22 T5 rfl (by omega) (by decide) (by omega) (fun a7 c7 w7 N7 x7 => ?_)
 refine RS.nm ?_
 replace hE := hE.trans (x7.below (by intros; try (first | (intro _ _) | (intro _) | skip); first | omega | (have hq := O1.lo _ (by assumption); first | omega | (dsimp only at *; omega))) (by intros; try (first | (intro _ _) | (intro _) | skip); first | omega | (dsimp only at *; omega) | (simp_all; done) | (simp at *; omega)))
 replace R0 := R0.pr x7 (by intros; try (first | (intro _ _) | (intro _) | skip); first | omega | (have hq := O1.lo _ (by assumption); first | omega | (dsimp only at *; omega)))
 have zw7 := x7.size
 replace O1 := N7
 refine RS.call E138 (numberR _ _ _ _ _ O1.row (by omega) O1.own.pre) rfl (fun v8 w8 x8 A8 => ?_)
 replace hE := Ext.tr hE x8
 replace R0 := R0.ext x8
 replace O1 := O1.ext x8
 have zw8 := x8.size
 subst A8
 rw [← S.head_one, S.hash_eq]
 have hhb := S.hash_bd 110 [x] m
 refine RS.nm ?_
 refine RS.o (D.rem rfl rfl (by omega) (by omega)) ?_
 refine RS.o (D.conv rfl Tryz.underlying25 Tryz.underlying23 (W.u32 (by omega))) ?_
 refine RS.o (D.add rfl rfl (W.u32 (by omega))) ?_
 refine RS.asI rfl ?_
 refine nl hK6 ?_
 refine wp_ret ?_
 refine retI rfl rfl ?_
 refine ⟨_, rfl, hE, ?_⟩
 rw [S.nonce_eq]
theorem chalRf (r : Int) (hr : 0 ≤ r ∧ r < 4294967296) (y : Int) (hy : 0 ≤ y ∧ y < 4294967296) {S0 : Nat → Prop} (a : Option Addr) (n c : Nat) (m : List Int) (w : World) (R0 : IRow .u8 S0 w a n m) (hn : n ≤ 100000) :
  Calls Tryz.prog 99 #[.int .u32 r, .int .u32 y, .slice a n c] w (Ret w fun v _ => v = .int .u32 (S.chalS r y m)) := by
 replace R0 := R0.weaken (T := fun k => k < w.heap.size) (fun k hk _ => hk)
 have hE := Ext.refl w
 refine enterU 18 Tryz.func99 rfl rfl ?_
 refine sq fun K1 hK1 => ?_
 refine RS.asI rfl ?_
 refine nl hK1 ?_
 refine sq fun K2 hK2 => ?_
 refine RS.buildSlice (xs := [.const (.int .u8 99)]) (vs := [.int _ _]) (cs := [.int _ _]) Tryz.underlying22 T5 (by decide) rfl rfl rfl rfl rfl rfl (by intro v hv; simp only [List.mem_cons, List.not_mem_nil, or_false] at hv; subst hv; rfl) rfl (fun b3 w3 e3 s3 x3 B3 => ?_)
 refine RS.nm ?_
 replace hE := Ext.tr hE x3
 replace R0 := R0.ext x3
 have zw3 := x3.size
 have O1 : IOwn w.heap.size w3 5 .u8 (some ⟨b3, 0, none⟩) 1 1 [_] := IOwn.of_blk B3 rfl rfl (by omega) (.cons (by simp only [lim]; omega) (.nil _)) (by decide)
 refine RS.mvI rfl ?_
 refine RS.call E137 (fourR r (by omega) _) rfl (fun v4 w4 x4 A4 => ?_)
 replace hE := Ext.tr hE x4
 replace R0 := R0.ext x4
 replace O1 := O1.ext x4
 have zw4 := x4.size
 obtain ⟨aF, cF, rfl, OF⟩ := A4
 refine RS.nm ?_
 refine RS.appendI O1 OF.row rfl rfl Tryz.underlying22 T5 rfl (by omega) (by decide) (by omega) (fun a5 c5 w5 N5 x5 => ?_)
 refine RS.nm ?_
 replace hE := hE.trans (x5.below (by intros; try (first | (intro _ _) | (intro _) | skip); first | omega | (have hq := O1.lo _ (by assumption); first | omega | (dsimp only at *; omega))) (by intros; try (first | (intro _ _) | (intro _) | skip); first | omega | (dsimp only at *; omega) | (simp_all; done) | (simp at *; omega)))
 replace R0 := R0.pr x5 (by intros; try (first | (intro _ _) | (intro _) | skip); first | omega | (have hq := O1.lo _ (by assumption); first | omega | (dsimp only at *; omega)))
 have zw5 := x5.size
 replace O1 := N5
 refine RS.mvI rfl ?_
 refine RS.call E137 (fourR y (by omega) _) rfl (fun v6 w6 x6 A6 => ?_)
 replace hE := Ext.tr hE x6
 replace R0 := R0.ext x6
 replace O1 := O1.ext x6
 have zw6 := x6.size
 obtain ⟨aF, cF, rfl, OF⟩ := A6
 refine RS.nm ?_
 refine RS.appendI O1 OF.row rfl rfl Tryz.underlying22 T5 rfl (by omega) (by decide) (by omega) (fun a7 c7 w7 N7 x7 => ?_)
 refine RS.nm ?_
 replace hE := hE.trans (x7.below (by intros; try (first | (intro _ _) | (intro _) | skip); first | omega | (have hq := O1.lo _ (by assumption); first | omega | (dsimp only at *; omega))) (by intros; try (first | (intro _ _) | (intro _) | skip); first | omega | (dsimp only at *; omega) | (simp_all; done) | (simp at *; omega)))
 replace R0 := R0.pr x7 (by intros; try (first | (intro _ _) | (intro _) | skip); first | omega | (have hq := O1.lo _ (by assumption); first | omega | (dsimp only at *; omega)))
 have zw7 := x7.size
 replace O1 := N7
 refine RS.asS rfl ?_
 refine nl hK2 ?_
 refine sq fun K8 hK8 => ?_
 refine RS.mvS rfl ?_
 refine RS.mvS rfl ?_
 refine RS.appendI O1 R0 rfl rfl Tryz.underlying22 T5 rfl (by omega) (by decide) (by omega) (fun a9 c9 w9 N9 x9 => ?_)
 refine RS.nm ?_
 replace hE := hE.trans (x9.below (by intros; try (first | (intro _ _) | (intro _) | skip); first | omega | (have hq := O1.lo _ (by assumption); first | omega | (dsimp only at *; omega))) (by intros; try (first | (intro _ _) | (intro _) | skip); first | omega | (dsimp only at *; omega) | (simp_all; done) | (simp at *; omega)))
 replace R0 := R0.pr x9 (by intros; try (first | (intro _ _) | (intro _) | skip); first | omega | (have hq := O1.lo _ (by assumption); first | omega | (dsimp only at *; omega)))
 have zw9 := x9.size
 replace O1 := N9
 refine RS.call E138 (numberR _ _ _ _ _ O1.row (by omega) O1.own.pre) rfl (fun v10 w10 x10 A10 => ?_)
 replace hE := Ext.tr hE x10
 replace R0 := R0.ext x10
 replace O1 := O1.ext x10
 have zw10 := x10.size
 subst A10
 rw [← S.head_two, S.hash_eq]
 have hhb := S.hash_bd 99 [r, y] m
 refine RS.nm ?_
 refine RS.o (D.rem rfl rfl (by omega) (by omega)) ?_
 refine RS.o (D.conv rfl Tryz.underlying25 Tryz.underlying23 (W.u32 (by omega))) ?_
 refine RS.asI rfl ?_
 refine nl hK8 ?_
 refine wp_ret ?_
 refine retI rfl rfl ?_
 refine ⟨_, rfl, hE, ?_⟩
 rw [S.chal_eq]
theorem signedRf (x : Int) (hx : 0 ≤ x ∧ x < 4294967296) {S0 : Nat → Prop} (a : Option Addr) (n c : Nat) (m : List Int) (w : World) (R0 : IRow .u8 S0 w a n m) (hn : n ≤ 100000) (hx2 : x < 500000003) :
  Calls Tryz.prog 59 #[.int .u32 x, .slice a n c] w (Ret w fun v _ => v = .agg ([.int .u32 (S.sigE x m), .int .u32 (S.sigS x m)] : List Value).toArray) := by
 replace R0 := R0.weaken (T := fun k => k < w.heap.size) (fun k hk _ => hk)
 have hb1 := S.nonce_bd x m
 have hb2 := S.pub_bd x
 have hb3 := S.pub_bd (S.nonceS x m)
 have hb4 := S.sig_bd x m
 have hE := Ext.refl w
 refine enterU 21 Tryz.func59 rfl rfl ?_
 refine sq fun K1 hK1 => ?_
 refine RS.alloc T31 (fun b2 w2 e2 s2 x2 B2 => ?_)
 refine RS.nm ?_
 replace hE := Ext.tr hE x2
 replace R0 := R0.ext x2
 have zw2 := x2.size
 refine nl hK1 ?_
 refine sq fun K3 hK3 => ?_
 refine RS.mvI rfl ?_
 refine RS.mvS rfl ?_
 refine RS.call E98 (nonceRf x hx _ _ _ _ _ R0 hn) rfl (fun v4 w4 x4 A4 => ?_)
 replace hE := Ext.tr hE x4
 replace R0 := R0.ext x4
 replace B2 := B2.ext x4
 have zw4 := x4.size
 subst A4
 refine RS.nm ?_
 refine RS.asI rfl ?_
 refine nl hK3 ?_
 refine sq fun K5 hK5 => ?_
 refine RS.mvI rfl ?_
 refine RS.call E58 (keyRf _ (by omega) _) rfl (fun v6 w6 x6 A6 => ?_)
 replace hE := Ext.tr hE x6
 replace R0 := R0.ext x6
 replace B2 := B2.ext x6
 have zw6 := x6.size
 subst A6
 refine RS.nm ?_
 refine RS.mvI rfl ?_
 refine RS.call E58 (keyRf _ (by omega) _) rfl (fun v7 w7 x7 A7 => ?_)
 replace hE := Ext.tr hE x7
 replace R0 := R0.ext x7
 replace B2 := B2.ext x7
 have zw7 := x7.size
 subst A7
 refine RS.nm ?_
 refine RS.mvS rfl ?_
 refine RS.call E99 (chalRf _ (by omega) _ (by omega) _ _ _ _ _ R0 hn) rfl (fun v8 w8 x8 A8 => ?_)
 replace hE := Ext.tr hE x8
 replace R0 := R0.ext x8
 replace B2 := B2.ext x8
 have zw8 := x8.size
 subst A8
 rw [S.sigE_eq]
 refine RS.nm ?_
 refine RS.asI rfl ?_
 refine nl hK5 ?_
 refine sq fun K9 hK9 => ?_
 refine RS.mvI rfl ?_
 refine RS.mvI rfl ?_
 refine RS.mvI rfl ?_
 refine RS.mvI rfl ?_
 refine RS.call E101 (scaledR _ (by omega) _ (by omega) _) rfl (fun v10 w10 x10 A10 => ?_)
 replace hE := Ext.tr hE x10
 replace R0 := R0.ext x10
 replace B2 := B2.ext x10
 have zw10 := x10.size
 subst A10
 have hsr1 := Int.emod_nonneg (S.sigE x m * x) (show (500000003 : Int) ≠ 0 by decide)
 have hsr2 := Int.emod_lt_of_pos (S.sigE x m * x) (show (0 : Int) < 500000003 by decide)
 refine RS.nm ?_
 refine RS.call E100 (sumR _ (by omega) _ (by omega) _) rfl (fun v11 w11 x11 A11 => ?_)
 replace hE := Ext.tr hE x11
 replace R0 := R0.ext x11
 replace B2 := B2.ext x11
 have zw11 := x11.size
 subst A11
 rw [S.sigS_eq]
 refine RS.nm ?_
 refine RS.o (D.buildS T31 F31 (ps := [(0, .int _ _), (1, .int _ _)]) rfl rfl) ?_
 refine RS.storeAggB rfl rfl C31 (by decide) rfl rfl B2 rfl (fun w12 y12 N12 => ?_)
 replace hE := hE.trans (y12.belo)
 replace R0 := R0.sto y12
 have zw12 := y12.size
 replace B2 := N12
 refine nl hK9 ?_
 refine wp_ret ?_
 refine ret (rs := [.cell 4 31]) (vs := [.agg _]) (v := (.agg _)) rfl ⟨⟨_, rfl, loadVar_agg Tryz.underlying31 rfl C31 (by decide) rfl (B2.cellsN 2 rfl)⟩, trivial⟩ rfl ?_
 exact ⟨_, rfl, hE, rfl⟩
theorem rightRf (y : Int) (hy : 0 ≤ y ∧ y < 4294967296) (e s : Int) (he : 0 ≤ e ∧ e < 4294967296) (hs : 0 ≤ s ∧ s < 4294967296) {S0 : Nat → Prop} (a : Option Addr) (n c : Nat) (m : List Int) (w : World) (R0 : IRow .u8 S0 w a n m) (hn : n ≤ 100000) (hy2 : S.isG y = true) (hm9 : m.length ≤ 9991) :
  Calls Tryz.prog 71 #[.int .u32 y, .slice a n c, .agg ([.int .u32 e, .int .u32 s] : List Value).toArray] w (Ret w fun v _ => v = .bool (decide (S.verS y m e s = 0))) := by
 replace R0 := R0.weaken (T := fun k => k < w.heap.size) (fun k hk _ => hk)
 have hE := Ext.refl w
 refine enterU 36 Tryz.func71 rfl rfl ?_
 refine sq fun K1 hK1 => ?_
 refine RS.box rfl rfl (fun b2 w2 e2 s2 x2 B2 => ?_)
 refine RS.nm ?_
 replace hE := Ext.tr hE x2
 replace R0 := R0.ext x2
 have zw2 := x2.size
 refine RS.asB rfl ?_
 refine nl hK1 ?_
 refine wp_seq_k (fun K3 hK3 => ?_)
 refine sq fun K4 hK4 => ?_
 refine RS.o (D.fieldL 0 rfl Tryz.underlying31 rfl C23 (by decide) rfl) ?_
 refine RS.o (D.load rfl Tryz.underlying23 rfl (B2.cell rfl)) ?_
 refine RS.call E70 (ref_Exponent _ (by omega) _) rfl (fun v5 w5 x5 A5 => ?_)
 replace hE := Ext.tr hE x5
 replace R0 := R0.ext x5
 replace B2 := B2.ext x5
 have zw5 := x5.size
 subst A5
 refine RS.nm ?_
 refine RS.o (D.not rfl) ?_
 refine RS.mvB rfl ?_
 refine RS.splitnot 13 rfl rfl (fun c6 => ?_) (fun c6 => ?_)
 ·refine RS.nm ?_
  have hf := c6
  refine RS.skT 13 ?_
  refine RS.skT 13 ?_
  refine RS.skT 13 ?_
  refine RS.skT 13 ?_
  refine RS.pick (v := .bool true) rfl rfl ?_
  refine nl hK4 ?_
  refine C.ift rfl ?_
  refine sq fun K7 hK7 => ?_
  refine RS.asB rfl ?_
  refine nl hK7 ?_
  refine wp_ret ?_
  refine retB rfl rfl ?_
  refine ⟨_, rfl, hE, congrArg Value.bool (decide_eq_false ?_).symm⟩
  rw [S.ver_good hy2 hm9]
  rintro ⟨⟨z1, z2⟩, _⟩
  have := of_decide_eq_false hf
  omega
 refine RS.nm ?_
 have he2 := of_decide_eq_true c6
 refine RS.wt 13 ?_
 refine RS.o (D.fieldL 1 rfl Tryz.underlying31 rfl C23 (by decide) rfl) ?_
 refine RS.wt 13 ?_
 refine RS.o (D.load rfl Tryz.underlying23 rfl (B2.cell rfl)) ?_
 refine RS.wt 13 ?_
 refine RS.call E70 (ref_Exponent _ (by omega) _) rfl (fun v8 w8 x8 A8 => ?_)
 replace hE := Ext.tr hE x8
 replace R0 := R0.ext x8
 replace B2 := B2.ext x8
 have zw8 := x8.size
 subst A8
 refine RS.nm ?_
 refine RS.wt 13 ?_
 refine RS.o (D.not rfl) ?_
 refine RS.pick (v := .bool _) rfl rfl ?_
 refine nl hK4 ?_
 refine C.ifnot rfl (fun c9 => ?_) (fun c9 => ?_)
 ·have hf := c9
  refine sq fun K10 hK10 => ?_
  refine RS.asB rfl ?_
  refine nl hK10 ?_
  refine wp_ret ?_
  refine retB rfl rfl ?_
  refine ⟨_, rfl, hE, congrArg Value.bool (decide_eq_false ?_).symm⟩
  rw [S.ver_good hy2 hm9]
  rintro ⟨⟨z1, z2⟩, _⟩
  have := of_decide_eq_false hf
  omega
 have hs2 := of_decide_eq_true c9
 refine wp_skip ?_
 refine hK3 _ _ ?_
 refine sq fun K11 hK11 => ?_
 refine RS.mvI rfl ?_
 refine RS.o (D.fieldL 0 rfl Tryz.underlying31 rfl C23 (by decide) rfl) ?_
 refine RS.o (D.load rfl Tryz.underlying23 rfl (B2.cell rfl)) ?_
 refine RS.o (D.conv rfl Tryz.underlying23 Tryz.underlying25 (W.u64 (by omega))) ?_
 refine RS.call E119 (raisedR y hy _ (by omega) _) rfl (fun v12 w12 x12 A12 => ?_)
 replace hE := Ext.tr hE x12
 replace R0 := R0.ext x12
 replace B2 := B2.ext x12
 have zw12 := x12.size
 subst A12
 have hp1 := S.pw_nonneg y e 1000000007 (by decide)
 have hp2 := S.pw_lt y e 1000000007 (by decide)
 have hgb := S.isG_back e hy2 he.1
 refine RS.nm ?_
 refine RS.call E118 (invR _ (by omega) hgb _) rfl (fun v13 w13 x13 A13 => ?_)
 replace hE := Ext.tr hE x13
 replace R0 := R0.ext x13
 replace B2 := B2.ext x13
 have zw13 := x13.size
 subst A13
 rw [S.inv_ref hy2 (by omega)]
 have hp3 := S.pw_nonneg y (500000003 - e) 1000000007 (by decide)
 have hp4 := S.pw_lt y (500000003 - e) 1000000007 (by decide)
 refine RS.nm ?_
 refine RS.move (v := .tuple _) rfl ?_
 refine RS.extract (v := .int _ _) rfl rfl ?_
 refine RS.extract (v := .int _ _) rfl rfl ?_
 refine RS.asI rfl ?_
 refine RS.asI rfl ?_
 refine nl hK11 ?_
 refine wp_seq_k (fun K14 hK14 => ?_)
 refine regionX Ext [(0, .q), (1, .q), (3, .q), (5, .q), (6, .q), (8, .q), (9, .q), (2, .e), (4, .e), (7, .e), (10, .q), (11, .q)] mixed Ext.refl (fun h k => h.tr k) (by kernel_rfl) (fun w15 x15 => ?_)
 replace hE := Ext.tr hE x15
 replace R0 := R0.ext x15
 replace B2 := B2.ext x15
 have zw15 := x15.size
 refine RX.o (fun w' hw => D.fieldL 1 rfl Tryz.underlying31 rfl C23 (by decide) rfl) ?_
 refine RX.o (fun w' hw => D.load rfl Tryz.underlying23 rfl ((B2.ext hw).cell rfl)) ?_
 refine RX.mvI rfl ?_
 refine RX.mvI rfl ?_
 refine RX.mvS rfl ?_
 refine RX.o (fun w' hw => D.fieldL 0 rfl Tryz.underlying31 rfl C23 (by decide) rfl) ?_
 refine RX.o (fun w' hw => D.load rfl Tryz.underlying23 rfl ((B2.ext hw).cell rfl)) ?_
 refine RX.eff ?_
 refine RS.call E58 (keyRf s hs _) rfl (fun v16 w16 x16 A16 => ?_)
 replace hE := Ext.tr hE x16
 replace R0 := R0.ext x16
 replace B2 := B2.ext x16
 have zw16 := x16.size
 subst A16
 have hb1 := S.pub_bd s
 refine RS.nm ?_
 refine RS.nil ⟨x16, ?_⟩
 refine RX.eff ?_
 refine RS.call E120 (productR _ (by omega) _ (by omega) _) rfl (fun v17 w17 x17 A17 => ?_)
 replace hE := Ext.tr hE x17
 replace R0 := R0.ext x17
 replace B2 := B2.ext x17
 have zw17 := x17.size
 subst A17
 have hpr1 := Int.emod_nonneg (S.pubS s * S.pw y (500000003 - e) 1000000007) (show (1000000007 : Int) ≠ 0 by decide)
 have hpr2 := Int.emod_lt_of_pos (S.pubS s * S.pw y (500000003 - e) 1000000007) (show (0 : Int) < 1000000007 by decide)
 refine RS.nm ?_
 refine RS.nil ⟨x17, ?_⟩
 refine RX.eff ?_
 refine RS.call E99 (chalRf _ (by omega) _ hy _ _ _ _ _ R0 hn) rfl (fun v18 w18 x18 A18 => ?_)
 replace hE := Ext.tr hE x18
 replace R0 := R0.ext x18
 replace B2 := B2.ext x18
 have zw18 := x18.size
 subst A18
 refine RS.nm ?_
 refine RS.nil ⟨x18, ?_⟩
 refine RX.o (fun w' hw => D.eq rfl rfl) ?_
 refine RX.assign (v := .bool _) rfl ?_
 refine RX.nil (hK14 _ _ ?_)
 refine wp_ret ?_
 refine retB rfl rfl ?_
 refine ⟨_, rfl, hE, congrArg Value.bool ?_⟩
 have hv := S.ver_good (e := e) (s := s) hy2 hm9
 by_cases hx : S.chalS (S.pubS s * S.pw y (500000003 - e) 1000000007 % 1000000007) y m = e
 ·rw [decide_eq_true (hv.2 ⟨⟨he2, hs2⟩, hx⟩)]; simp [hx]
 rw [decide_eq_false (fun h => hx (hv.1 h).2)]; simp [hx]
theorem signedOR {S0 : Nat → Prop} (o : S.OpV) (ho : o.ok) (pa : Option Addr) (pc : Nat) (w : World) (D0 : WRow .u8 32 S0 w pa o.n o.ids) (hc : o.n ≤ pc) (hz : S.checkE o = 0) :
  Calls Tryz.prog 35 #[.agg ([.int .u32 o.au, .slice pa o.n pc, .int .u64 o.st, .int .u8 o.k, .string o.key, .int .u8 o.vk, .int .i64 o.num, .int .u64 o.bits, .string o.t, .int .u32 o.e, .int .u32 o.s] : List Value).toArray] w (Ret w fun v _ => v = .bool (decide (S.verS o.au (S.msgS o) o.e o.s = 0))) := by
 replace D0 := D0.weaken (T := fun k => k < w.heap.size) (fun k hk _ => hk)
 have o1 := ho.au
 have o2 := ho.st
 have o3 := ho.k
 have o4 := ho.vk
 have o5 := ho.num
 have o6 := ho.bits
 have o7 := ho.e
 have o8 := ho.s
 have o9 := ho.n
 have o10 := ho.key
 have o11 := ho.t
 have el := D0.len
 obtain ⟨z1, z2, z3⟩ := S.check_zero.1 hz
 have hF4 : o.k = 4 → S.FineV o.vk o.num o.bits o.t := S.fine4 z3.2.2.2.2
 have hE := Ext.refl w
 refine enterU 9 Tryz.func35 rfl rfl ?_
 refine sq fun K1 hK1 => ?_
 refine RS.box rfl rfl (fun b2 w2 e2 s2 x2 B2 => ?_)
 refine RS.nm ?_
 replace hE := Ext.tr hE x2
 replace D0 := D0.ext x2
 have zw2 := x2.size
 refine RS.asB rfl ?_
 refine nl hK1 ?_
 refine wp_seq_k (fun K3 hK3 => ?_)
 refine regionX Ext [(0, .q), (1, .q), (2, .q), (4, .q), (5, .q), (3, .e), (6, .e), (7, .q)] mixed Ext.refl (fun h k => h.tr k) (by kernel_rfl) (fun w4 x4 => ?_)
 replace hE := Ext.tr hE x4
 replace D0 := D0.ext x4
 replace B2 := B2.ext x4
 have zw4 := x4.size
 refine RX.o (fun w' hw => D.fieldL 0 rfl Tryz.underlying33 rfl C23 (by decide) rfl) ?_
 refine RX.o (fun w' hw => D.load rfl Tryz.underlying23 rfl ((B2.ext hw).cell rfl)) ?_
 refine RX.o (fun w' hw => D.loadAgg rfl Tryz.underlying33 rfl C33 (by decide) rfl ((B2.ext hw).cellsN 11 rfl)) ?_
 refine RX.o (fun w' hw => D.fieldL 9 rfl Tryz.underlying33 rfl C31 (by decide) rfl) ?_
 refine RX.o (fun w' hw => D.loadAgg rfl Tryz.underlying31 rfl C31 (by decide) rfl ((B2.ext hw).cellsN 2 rfl)) ?_
 refine RX.eff ?_
 refine RS.call E60 (textOR o ho _ _ _ D0 hc z1 hF4) rfl (fun v5 w5 x5 A5 => ?_)
 replace hE := Ext.tr hE x5
 replace D0 := D0.ext x5
 replace B2 := B2.ext x5
 have zw5 := x5.size
 obtain ⟨aT, nT, cT, rfl, OT⟩ := A5
 have lOT := OT.len
 have mlT := S.msg_len o ho z1 el
 refine RS.nm ?_
 refine RS.nil ⟨x5, ?_⟩
 refine RX.eff ?_
 refine RS.call E71 (rightRf _ o1 _ _ o7 o8 _ _ _ _ _ OT.row (by omega) z3.1 (by omega)) rfl (fun v6 w6 x6 A6 => ?_)
 replace hE := Ext.tr hE x6
 replace D0 := D0.ext x6
 replace B2 := B2.ext x6
 replace OT := OT.ext x6
 have zw6 := x6.size
 subst A6
 refine RS.nm ?_
 refine RS.nil ⟨x6, ?_⟩
 refine RX.assign (v := .bool _) rfl ?_
 refine RX.nil (hK3 _ _ ?_)
 refine wp_ret ?_
 refine retB rfl rfl ?_
 exact ⟨_, rfl, hE, rfl⟩
theorem verifyOR {S0 : Nat → Prop} (o : S.OpV) (ho : o.ok) (pa : Option Addr) (pc : Nat) (w : World) (D0 : WRow .u8 32 S0 w pa o.n o.ids) (hc : o.n ≤ pc) :
  Calls Tryz.prog 26 #[.agg ([.int .u32 o.au, .slice pa o.n pc, .int .u64 o.st, .int .u8 o.k, .string o.key, .int .u8 o.vk, .int .i64 o.num, .int .u64 o.bits, .string o.t, .int .u32 o.e, .int .u32 o.s] : List Value).toArray] w (Ret w fun v _ => v = .int .i64 (S.verE o)) := by
 replace D0 := D0.weaken (T := fun k => k < w.heap.size) (fun k hk _ => hk)
 have o1 := ho.au
 have o2 := ho.st
 have o3 := ho.k
 have o4 := ho.vk
 have o5 := ho.num
 have o6 := ho.bits
 have o7 := ho.e
 have o8 := ho.s
 have o9 := ho.n
 have o10 := ho.key
 have o11 := ho.t
 have el := D0.len
 have hE := Ext.refl w
 refine enterU 10 Tryz.func26 rfl rfl ?_
 refine sq fun K1 hK1 => ?_
 refine RS.box rfl rfl (fun b2 w2 e2 s2 x2 B2 => ?_)
 refine RS.nm ?_
 replace hE := Ext.tr hE x2
 replace D0 := D0.ext x2
 have zw2 := x2.size
 refine RS.asI rfl ?_
 refine nl hK1 ?_
 refine wp_seq_k (fun K3 hK3 => ?_)
 refine sq fun K4 hK4 => ?_
 refine RS.o (D.loadAgg rfl Tryz.underlying33 rfl C33 (by decide) rfl (B2.cellsN 11 rfl)) ?_
 refine RS.call E33 (checkOR o ho _ _ _ D0 hc) rfl (fun v5 w5 x5 A5 => ?_)
 replace hE := Ext.tr hE x5
 replace D0 := D0.ext x5
 replace B2 := B2.ext x5
 have zw5 := x5.size
 subst A5
 refine RS.nm ?_
 refine RS.o (D.ne rfl rfl) ?_
 refine nl hK4 ?_
 refine C.ifn rfl (fun c6 => ?_) (fun c6 => ?_)
 ·have hk := c6
  refine sq fun K7 hK7 => ?_
  refine RS.o (D.loadAgg rfl Tryz.underlying33 rfl C33 (by decide) rfl (B2.cellsN 11 rfl)) ?_
  refine RS.call E33 (checkOR o ho _ _ _ D0 hc) rfl (fun v8 w8 x8 A8 => ?_)
  replace hE := Ext.tr hE x8
  replace D0 := D0.ext x8
  replace B2 := B2.ext x8
  have zw8 := x8.size
  subst A8
  refine RS.nm ?_
  refine RS.asI rfl ?_
  refine nl hK7 ?_
  refine wp_ret ?_
  refine retI rfl rfl ?_
  refine ⟨_, rfl, hE, ?_⟩
  unfold S.verE
  rw [if_neg hk]
 have hk := c6
 obtain ⟨z1, z2, z3⟩ := S.check_zero.1 hk
 have ml := S.msg_len o ho z1 el
 have hvv := S.ver_val (e := o.e) (s := o.s) z3.1 (show (S.msgS o).length ≤ 9991 by omega)
 refine wp_skip ?_
 refine hK3 _ _ ?_
 refine wp_seq_k (fun K9 hK9 => ?_)
 refine sq fun K10 hK10 => ?_
 refine RS.o (D.loadAgg rfl Tryz.underlying33 rfl C33 (by decide) rfl (B2.cellsN 11 rfl)) ?_
 refine RS.call E35 (signedOR o ho _ _ _ D0 hc hk) rfl (fun v11 w11 x11 A11 => ?_)
 replace hE := Ext.tr hE x11
 replace D0 := D0.ext x11
 replace B2 := B2.ext x11
 have zw11 := x11.size
 subst A11
 refine RS.nm ?_
 refine RS.o (D.not rfl) ?_
 refine nl hK10 ?_
 refine C.ifnot rfl (fun c12 => ?_) (fun c12 => ?_)
 ·have hv := of_decide_eq_false c12
  refine sq fun K13 hK13 => ?_
  refine RS.asI rfl ?_
  refine nl hK13 ?_
  refine wp_ret ?_
  refine retI rfl rfl ?_
  refine ⟨_, rfl, hE, ?_⟩
  unfold S.verE
  rw [if_pos hk, hvv.resolve_left hv]
 have hv := of_decide_eq_true c12
 refine wp_skip ?_
 refine hK9 _ _ ?_
 refine sq fun K14 hK14 => ?_
 refine RS.asI rfl ?_
 refine nl hK14 ?_
 refine wp_ret ?_
 refine retI rfl rfl ?_
 refine ⟨_, rfl, hE, ?_⟩
 unfold S.verE
 rw [if_pos hk, hv]
theorem signOR (x : Int) (hx : 0 ≤ x ∧ x < 4294967296) {S0 : Nat → Prop} (o : S.OpV) (ho : o.ok) (pa : Option Addr) (pc : Nat) (w : World) (D0 : WRow .u8 32 S0 w pa o.n o.ids) (hc : o.n ≤ pc) :
  Calls Tryz.prog 24 #[.int .u32 x, .agg ([.int .u32 o.au, .slice pa o.n pc, .int .u64 o.st, .int .u8 o.k, .string o.key, .int .u8 o.vk, .int .i64 o.num, .int .u64 o.bits, .string o.t, .int .u32 o.e, .int .u32 o.s] : List Value).toArray] w (Ret w fun v w' => ∃ a' c', v = .tuple #[.agg ([.int .u32 (S.signS x o).au, .slice a' (S.signS x o).n c', .int .u64 (S.signS x o).st, .int .u8 (S.signS x o).k, .string (S.signS x o).key, .int .u8 (S.signS x o).vk, .int .i64 (S.signS x o).num, .int .u64 (S.signS x o).bits, .string (S.signS x o).t, .int .u32 (S.signS x o).e, .int .u32 (S.signS x o).s] : List Value).toArray, .int .i64 (S.signE x o)] ∧ (S.signS x o).n ≤ c' ∧ WRow .u8 32 (fun k => w.heap.size ≤ k) w' a' (S.signS x o).n (S.signS x o).ids) := by
 replace D0 := D0.weaken (T := fun k => k < w.heap.size) (fun k hk _ => hk)
 have o1 := ho.au
 have o2 := ho.st
 have o3 := ho.k
 have o4 := ho.vk
 have o5 := ho.num
 have o6 := ho.bits
 have o7 := ho.e
 have o8 := ho.s
 have o9 := ho.n
 have o10 := ho.key
 have o11 := ho.t
 have el := D0.len
 have hb2 := S.pub_bd x
 have hwo := S.OpV.bare_ok (S.OpV.wit_ok x ho)
 have hE := Ext.refl w
 refine enterU 29 Tryz.func24 rfl rfl ?_
 refine sq fun K1 hK1 => ?_
 refine RS.box rfl rfl (fun b2 w2 e2 s2 x2 B2 => ?_)
 refine RS.nm ?_
 replace hE := Ext.tr hE x2
 replace D0 := D0.ext x2
 have zw2 := x2.size
 refine RS.alloc T33 (fun b3 w3 e3 s3 x3 B3 => ?_)
 refine RS.nm ?_
 replace hE := Ext.tr hE x3
 replace D0 := D0.ext x3
 replace B2 := B2.ext x3
 have zw3 := x3.size
 refine RS.asI rfl ?_
 refine nl hK1 ?_
 refine wp_seq_k (fun K4 hK4 => ?_)
 refine sq fun K5 hK5 => ?_
 refine RS.mvI rfl ?_
 refine RS.call E56 (secR x hx _) rfl (fun v6 w6 x6 A6 => ?_)
 replace hE := Ext.tr hE x6
 replace D0 := D0.ext x6
 replace B2 := B2.ext x6
 replace B3 := B3.ext x6
 have zw6 := x6.size
 subst A6
 refine RS.nm ?_
 refine RS.o (D.ne rfl rfl) ?_
 refine nl hK5 ?_
 refine C.ifn rfl (fun c7 => ?_) (fun c7 => ?_)
 ·have hz := c7
  refine sq fun K8 hK8 => ?_
  refine RS.o (D.buildS T33 F33 (ps := []) rfl rfl) ?_
  refine RS.mvI rfl ?_
  refine RS.call E56 (secR x hx _) rfl (fun v9 w9 x9 A9 => ?_)
  replace hE := Ext.tr hE x9
  replace D0 := D0.ext x9
  replace B2 := B2.ext x9
  replace B3 := B3.ext x9
  have zw9 := x9.size
  subst A9
  refine RS.nm ?_
  refine RS.storeAggB rfl rfl C33 (by decide) rfl rfl B3 rfl (fun w10 y10 N10 => ?_)
  replace hE := hE.trans (y10.belo)
  replace D0 := D0.sto y10
  replace B2 := B2.sto y10
  have zw10 := y10.size
  replace B3 := N10
  refine RS.asI rfl ?_
  refine nl hK8 ?_
  refine wp_ret ?_
  refine ret (rs := [.cell 4 33, .tmp 5]) (vs := [.agg _, .int _ _]) (v := (.tuple #[.agg _, .int _ _])) rfl ⟨⟨_, rfl, loadVar_agg Tryz.underlying33 rfl C33 (by decide) rfl (B3.cellsN 11 rfl)⟩, rfl, trivial⟩ rfl ?_
  have e1 : S.signE x o = S.secE x := by unfold S.signE; rw [if_neg hz, S.secE_two hz]
  have e2 : S.signS x o = S.OpV.zero := by unfold S.signS; rw [if_neg (by rw [e1]; exact hz)]
  rw [e1, e2]
  exact ⟨_, rfl, hE, _, _, rfl, Nat.le_refl _, WRow.nil⟩
 have hz := c7
 have hx2 := S.secE_zero.1 hz
 refine wp_skip ?_
 refine hK4 _ _ ?_
 refine sq fun K11 hK11 => ?_
 refine RS.o (D.loadAgg rfl Tryz.underlying33 rfl C33 (by decide) rfl (B2.cellsN 11 rfl)) ?_
 refine RS.call E57 (bareR o pa pc _) rfl (fun v12 w12 x12 A12 => ?_)
 replace hE := Ext.tr hE x12
 replace D0 := D0.ext x12
 replace B2 := B2.ext x12
 replace B3 := B3.ext x12
 have zw12 := x12.size
 subst A12
 refine RS.nm ?_
 refine RS.call E20 (twin o.bare (S.OpV.bare_ok ho) _ _ _ D0 hc) rfl (fun v13 w13 x13 A13 => ?_)
 replace hE := Ext.tr hE x13
 replace D0 := D0.ext x13
 replace B2 := B2.ext x13
 replace B3 := B3.ext x13
 have zw13 := x13.size
 obtain ⟨aW, cW, rfl, hcW, OW⟩ := A13
 have DW := OW.row.weaken (T := fun k => w.heap.size + 1 < k ∧ k < w13.heap.size) (fun k hk h => by omega)
 refine RS.nm ?_
 refine RS.alloc T33 (fun b14 w14 e14 s14 x14 B14 => ?_)
 refine RS.nm ?_
 replace hE := Ext.tr hE x14
 replace D0 := D0.ext x14
 replace B2 := B2.ext x14
 replace B3 := B3.ext x14
 replace DW := DW.ext x14
 have zw14 := x14.size
 refine RS.storeAggB rfl rfl C33 (by decide) rfl rfl B14 rfl (fun w15 y15 N15 => ?_)
 replace hE := hE.trans (y15.belo)
 replace D0 := D0.sto y15
 replace B2 := B2.sto y15
 replace B3 := B3.sto y15
 replace DW := DW.sto y15
 have zw15 := y15.size
 replace B14 := N15
 refine nl hK11 ?_
 refine sq fun K16 hK16 => ?_
 refine RS.mvI rfl ?_
 refine RS.call E58 (keyRf x hx _) rfl (fun v17 w17 x17 A17 => ?_)
 replace hE := Ext.tr hE x17
 replace D0 := D0.ext x17
 replace B2 := B2.ext x17
 replace B3 := B3.ext x17
 replace DW := DW.ext x17
 replace B14 := B14.ext x17
 have zw17 := x17.size
 subst A17
 refine RS.nm ?_
 refine RS.o (D.fieldL 0 rfl Tryz.underlying33 rfl C23 (by decide) rfl) ?_
 refine RS.store rfl (v := .int _ _) rfl C23 rfl B14 rfl (fun w18 y18 N18 => ?_)
 replace hE := hE.trans (y18.belo)
 replace D0 := D0.sto y18
 replace B2 := B2.sto y18
 replace B3 := B3.sto y18
 replace DW := DW.sto y18
 have zw18 := y18.size
 replace B14 := N18
 refine nl hK16 ?_
 refine wp_seq_k (fun K19 hK19 => ?_)
 refine sq fun K20 hK20 => ?_
 refine RS.o (D.loadAgg rfl Tryz.underlying33 rfl C33 (by decide) rfl (B14.cellsN 11 rfl)) ?_
 refine RS.call E33 (checkOR (o.wit x).bare hwo _ _ _ DW hcW) rfl (fun v21 w21 x21 A21 => ?_)
 replace hE := Ext.tr hE x21
 replace D0 := D0.ext x21
 replace B2 := B2.ext x21
 replace B3 := B3.ext x21
 replace DW := DW.ext x21
 replace B14 := B14.ext x21
 have zw21 := x21.size
 subst A21
 refine RS.nm ?_
 refine RS.o (D.ne rfl rfl) ?_
 refine nl hK20 ?_
 refine C.ifn rfl (fun c22 => ?_) (fun c22 => ?_)
 ·have hk := c22
  refine sq fun K23 hK23 => ?_
  refine RS.o (D.buildS T33 F33 (ps := []) rfl rfl) ?_
  refine RS.o (D.loadAgg rfl Tryz.underlying33 rfl C33 (by decide) rfl (B14.cellsN 11 rfl)) ?_
  refine RS.call E33 (checkOR (o.wit x).bare hwo _ _ _ DW hcW) rfl (fun v24 w24 x24 A24 => ?_)
  replace hE := Ext.tr hE x24
  replace D0 := D0.ext x24
  replace B2 := B2.ext x24
  replace B3 := B3.ext x24
  replace DW := DW.ext x24
  replace B14 := B14.ext x24
  have zw24 := x24.size
  subst A24
  refine RS.nm ?_
  refine RS.storeAggB rfl rfl C33 (by decide) rfl rfl B3 rfl (fun w25 y25 N25 => ?_)
  replace hE := hE.trans (y25.belo)
  replace D0 := D0.sto y25
  replace B2 := B2.sto y25
  replace DW := DW.sto y25
  replace B14 := B14.sto y25
  have zw25 := y25.size
  replace B3 := N25
  refine RS.asI rfl ?_
  refine nl hK23 ?_
  refine wp_ret ?_
  refine ret (rs := [.cell 4 33, .tmp 5]) (vs := [.agg _, .int _ _]) (v := (.tuple #[.agg _, .int _ _])) rfl ⟨⟨_, rfl, loadVar_agg Tryz.underlying33 rfl C33 (by decide) rfl (B3.cellsN 11 rfl)⟩, rfl, trivial⟩ rfl ?_
  have e1 : S.signE x o = S.checkE (o.wit x).bare := by unfold S.signE; rw [if_pos hz]
  have e2 : S.signS x o = S.OpV.zero := by unfold S.signS; rw [if_neg (by rw [e1]; exact hk)]
  rw [e1, e2]
  exact ⟨_, rfl, hE, _, _, rfl, Nat.le_refl _, WRow.nil⟩
 have hk := c22
 obtain ⟨z1, z2, z3⟩ := S.check_zero.1 hk
 have hF4 : (o.wit x).bare.k = 4 → S.FineV o.vk o.num o.bits o.t := S.fine4 z3.2.2.2.2
 refine wp_skip ?_
 refine hK19 _ _ ?_
 refine sq fun K26 hK26 => ?_
 refine RS.mvI rfl ?_
 refine RS.o (D.loadAgg rfl Tryz.underlying33 rfl C33 (by decide) rfl (B14.cellsN 11 rfl)) ?_
 refine RS.call E60 (textOR (o.wit x).bare hwo _ _ _ DW hcW z1 hF4) rfl (fun v27 w27 x27 A27 => ?_)
 replace hE := Ext.tr hE x27
 replace D0 := D0.ext x27
 replace B2 := B2.ext x27
 replace B3 := B3.ext x27
 replace DW := DW.ext x27
 replace B14 := B14.ext x27
 have zw27 := x27.size
 obtain ⟨aT, nT, cT, rfl, OT⟩ := A27
 have lOT := OT.len
 have mlT := S.msg_len (o.wit x).bare hwo z1 el
 refine RS.nm ?_
 refine RS.call E59 (signedRf x hx _ _ _ _ _ OT.row (by omega) (by omega)) rfl (fun v28 w28 x28 A28 => ?_)
 replace hE := Ext.tr hE x28
 replace D0 := D0.ext x28
 replace B2 := B2.ext x28
 replace B3 := B3.ext x28
 replace DW := DW.ext x28
 replace B14 := B14.ext x28
 replace OT := OT.ext x28
 have zw28 := x28.size
 subst A28
 refine RS.nm ?_
 refine RS.o (D.fieldL 9 rfl Tryz.underlying33 rfl C31 (by decide) rfl) ?_
 refine RS.storeAggB rfl rfl C31 (by decide) rfl rfl B14 rfl (fun w29 y29 N29 => ?_)
 replace hE := hE.trans (y29.belo)
 replace D0 := D0.sto y29
 replace B2 := B2.sto y29
 replace B3 := B3.sto y29
 replace DW := DW.sto y29
 replace OT := OT.st y29 (by intros; try (first | (intro _ _) | (intro _) | skip); first | omega | (have hq := OT.own.lo _ (by assumption); first | omega | (dsimp only at *; omega)))
 have zw29 := y29.size
 replace B14 := N29
 refine nl hK26 ?_
 refine sq fun K30 hK30 => ?_
 refine RS.o (D.loadAgg rfl Tryz.underlying33 rfl C33 (by decide) rfl (B14.cellsN 11 rfl)) ?_
 refine RS.storeAggB rfl rfl C33 (by decide) rfl rfl B3 rfl (fun w31 y31 N31 => ?_)
 replace hE := hE.trans (y31.belo)
 replace D0 := D0.sto y31
 replace B2 := B2.sto y31
 replace DW := DW.sto y31
 replace B14 := B14.sto y31
 replace OT := OT.st y31 (by intros; try (first | (intro _ _) | (intro _) | skip); first | omega | (have hq := OT.own.lo _ (by assumption); first | omega | (dsimp only at *; omega)))
 have zw31 := y31.size
 replace B3 := N31
 refine RS.asI rfl ?_
 refine nl hK30 ?_
 refine wp_ret ?_
 refine ret (rs := [.cell 4 33, .tmp 5]) (vs := [.agg _, .int _ _]) (v := (.tuple #[.agg _, .int _ _])) rfl ⟨⟨_, rfl, loadVar_agg Tryz.underlying33 rfl C33 (by decide) rfl (B3.cellsN 11 rfl)⟩, rfl, trivial⟩ rfl ?_
 have e1 : S.signE x o = 0 := by unfold S.signE; rw [if_pos hz]; exact hk
 have e2 := S.signS_eq e1
 rw [e1, e2]
 exact ⟨_, rfl, hE, _, _, rfl, hcW, DW.weaken (fun k hk h => by omega)⟩
end Go.Proofs.YtiohpiiiapjblaaGreatDoor.W
namespace Go.Proofs.YtiohpiiiapjblaaGreatDoor.S
open G
theorem be_grow1 (bs : List Int) (i : Nat) (h1 : 1 ≤ i) (hi : i < bs.length) : 256 * be ((bs.drop 1).take (i - 1)) + bs.getD i 0 = be ((bs.drop 1).take i) := by
  have := be_grow (bs.drop 1) (i - 1) (by rw [List.length_drop]; omega)
  rw [show i - 1 + 1 = i by omega] at this
  rw [← this]
  congr 1
  rw [List.getD_eq_getElem?_getD, List.getD_eq_getElem?_getD, List.getElem?_drop, show 1 + (i - 1) = i by omega]
/-- That one list begins with another. -/
def Starts (b h : List Int) : Prop := h.length ≤ b.length ∧ b.take h.length = h
instance (b h : List Int) : Decidable (Starts b h) := by unfold Starts; infer_instance
theorem starts_app {b h : List Int} (hs : Starts b h) : b = h ++ b.drop h.length := by
  conv => lhs; rw [← List.take_append_drop h.length b, hs.2]
theorem read_starts {b : List Int} {n : Int} (h0 : 0 ≤ n ∧ n < 18446744073709551616) (hs : Starts b (numS n)) : readN b = some (n, (numS n).length) := by
  have := read_num n h0.1 h0.2 (b.drop (numS n).length)
  rwa [← starts_app hs] at this
theorem starts_read {b : List Int} (hB : Bd .u8 b) {n : Int} {u : Nat} (h : readN b = some (n, u)) : Starts b (numS n) := by
  obtain ⟨_, _, h3, h4, h5⟩ := read_inv hB h
  refine ⟨by omega, ?_⟩
  conv => lhs; rw [h4]
  exact List.take_left
/-- What a large number is read as, if it is read. -/
theorem read_large {b : List Int} {n k : Int} {u : Nat} (h : readN b = some (n, u)) (hk : k = b.getD 0 0 - 247) (h0 : 0 < k) : k < b.length ∧ n = be ((b.drop 1).take k.toNat) := by
  cases b with
  | nil => cases h
  | cons x t =>
    simp only [List.getD_cons_zero] at hk
    simp only [readN] at h
    rw [if_neg (by omega)] at h
    split at h
    · cases h
    · rename_i hc
      simp only [Option.some.injEq, Prod.mk.injEq] at h
      refine ⟨by rw [List.length_cons]; omega, ?_⟩
      rw [List.drop_succ_cons, List.drop_zero, ← h.1, hk]
theorem ref_none {b : List Int} (hB : Bd .u8 b) {n k : Int} (hk : k = b.getD 0 0 - 247) (h0 : 0 < k) (hn : k < b.length → n = be ((b.drop 1).take k.toNat)) (hs : ¬ Starts b (numS n)) : readN b = none := by
  cases h : readN b with
  | none => rfl
  | some r =>
    obtain ⟨m, u⟩ := r
    obtain ⟨h1, h2⟩ := read_large h hk h0
    rw [hn h1, ← h2] at hs
    exact absurd (starts_read hB h) hs
theorem ref_small {b : List Int} (h0 : b.length ≠ 0) (h : b.getD 0 0 ≤ 247) : Starts b (numS (b.getD 0 0)) ∧ readN b = some (b.getD 0 0, 1) := by
  refine ⟨?_, readN_one h0 h⟩
  rw [numS_small _ h]
  cases b with
  | nil => exact absurd rfl h0
  | cons x t => exact ⟨by simp, by simp⟩
theorem unzig_even {z : Int} (h : z % 2 = 0) : unzig z = z / 2 := by unfold unzig; rw [if_pos h]
theorem unzig_odd {z : Int} (h : z % 2 ≠ 0) : unzig z = - (z / 2) - 1 := by unfold unzig; rw [if_neg h]
theorem elt_get (l : List Int) (i k : Nat) (hk : k < 32) : (elt 32 l i).getD k 0 = l.getD (32 * i + k) 0 := by
  unfold elt
  rw [List.getD_eq_getElem?_getD, List.getElem?_take, if_pos hk, List.getElem?_drop, ← List.getD_eq_getElem?_getD]
theorem elt_arr32 (l : List Int) (i m : Nat) (hl : l.length = 32 * m) (hb : Bd .u8 l) (hi : i < m) : Arr .u8 32 (elt 32 l i) := by
  refine ⟨?_, (hb.drop _).take _⟩
  unfold elt
  rw [List.length_take, List.length_drop]
  omega
theorem elt_getR {most : Nat} {b : List Int} (h : ptOk most 32 b) (i k : Nat) {m : Nat} (hk : 32 * i + k < 32 * m) (hm : m = (rdV b).toNat) (hk32 : k < 32) : (elt 32 (ptS most 32 b) i).getD k 0 = b.getD (rdU b + (32 * i + k)) 0 := by
  rw [elt_get _ _ _ hk32, (pt_ok h).2.2, List.getD_eq_getElem?_getD, List.getElem?_take, if_pos (by omega), List.getElem?_drop, ← List.getD_eq_getElem?_getD]
theorem cons_get (x : Int) (r : List Int) (i : Nat) (h : 1 ≤ i) : (x :: r).getD i 0 = r.getD (i - 1) 0 := by
  obtain ⟨j, rfl⟩ : ∃ j, i = j + 1 := ⟨i - 1, by omega⟩
  rfl
theorem actR_f1 {k : Int} {r : List Int} (h1 : k ≠ 1) (h : keyR r = none) : actR k r = none := by unfold actR; rw [if_neg h1, h]; rfl
theorem actR_f2 {k : Int} {r l : List Int} {key : ByteArray} (h1 : k ≠ 1) (h : keyR r = some (key, l)) (h4 : k = 4) (hv : valV key l = none) : actR k r = none := by unfold actR; rw [if_neg h1, h]; simp only [Option.bind_some, if_pos h4]; exact hv
theorem actR_s1 {k : Int} {r l : List Int} {key : ByteArray} (h1 : k ≠ 1) (h : keyR r = some (key, l)) (h4 : k ≠ 4) : actR k r = some (⟨0, 0, 0, key, .empty⟩, l) := by unfold actR; rw [if_neg h1, h]; simp only [Option.bind_some, if_neg h4]
theorem actR_s2 {k : Int} {r l l2 : List Int} {key : ByteArray} {x : ActV} (h1 : k ≠ 1) (h : keyR r = some (key, l)) (h4 : k = 4) (hv : valV key l = some (x, l2)) : actR k r = some (x, l2) := by unfold actR; rw [if_neg h1, h]; simp only [Option.bind_some, if_pos h4]; exact hv
/-- A number of 32 bits that is read. -/
def shOk (b : List Int) : Prop := rdE b = 0 ∧ rdV b ≤ 4294967295
instance (b : List Int) : Decidable (shOk b) := by unfold shOk; infer_instance
theorem numR_rd (b : List Int) : numR b = if rdE b = 0 then some (rdV b, b.drop (rdU b)) else none := by
  unfold numR
  cases h : readN b with
  | none => rw [(rd_none h).2.2]; rfl
  | some r =>
    obtain ⟨n, u⟩ := r
    obtain ⟨h1, h2, h3⟩ := rd_some h
    rw [h1, h2, h3]; rfl
theorem numR_ok {b : List Int} (h : rdE b = 0) : numR b = some (rdV b, b.drop (rdU b)) := by rw [numR_rd, if_pos h]
theorem numR_no {b : List Int} (h : rdE b ≠ 0) : numR b = none := by rw [numR_rd, if_neg h]
theorem idsR_ok {b : List Int} (h : idE 4 b = 0) : idsR b = some (idN 4 b, idL 4 b, b.drop (idU 4 b)) := by
  unfold idsR
  have e : readI ((4 : Nat) : Int) b = readI 4 b := rfl
  cases hr : readI 4 b with
  | none => rw [(id_none (most := 4) (e.trans hr)).2.2.2] at h; cases h
  | some r =>
    obtain ⟨n, l, u⟩ := r
    obtain ⟨h1, h2, h3, _⟩ := id_some (most := 4) (e.trans hr)
    rw [h1, h2, h3]; rfl
theorem idsR_no {b : List Int} (h : idE 4 b ≠ 0) : idsR b = none := by
  unfold idsR
  have e : readI ((4 : Nat) : Int) b = readI 4 b := rfl
  cases hr : readI 4 b with
  | none => rfl
  | some r => exact absurd (id_some (most := 4) (e.trans hr)).2.2.2 h
theorem keyR_ok {b : List Int} (h : ptE 20 1 b = 0) : keyR b = some (strOfNums (ptS 20 1 b), b.drop (ptU 20 1 b)) := by
  have hr := readB_pt 20 b
  rw [show ((20 : Nat) : Int) = 20 from rfl, if_pos h] at hr
  unfold keyR
  rw [hr]; rfl
theorem keyR_no {b : List Int} (h : ptE 20 1 b ≠ 0) : keyR b = none := by
  have hr := readB_pt 20 b
  rw [show ((20 : Nat) : Int) = 20 from rfl, if_neg h] at hr
  unfold keyR
  rw [hr]; rfl
theorem valV_ok {key : ByteArray} {b : List Int} (h : (vdS b).e = 0) : valV key b = some (⟨(vdS b).k, (vdS b).num, (vdS b).bits, key, (vdS b).t⟩, b.drop (vdS b).u) := by
  unfold valV
  cases hd : valD b with
  | none => rw [vd_none hd] at h; cases h
  | some r =>
    obtain ⟨k, n, c, t, u⟩ := r
    rw [vd_some hd]; rfl
theorem valV_no {key : ByteArray} {b : List Int} (h : (vdS b).e ≠ 0) : valV key b = none := by
  unfold valV
  cases hd : valD b with
  | none => rfl
  | some r =>
    obtain ⟨k, n, c, t, u⟩ := r
    rw [vd_some hd] at h; exact absurd rfl h
section
variable {b : List Int} {a : Int} {l1 : List Int} {n : Nat} {ids l2 : List Int} {t : Int} {l3 : List Int} {k : Int} {l4 : List Int} {x : ActV} {l5 : List Int} {e : Int} {l6 : List Int} {s : Int} {l7 : List Int}
theorem dec_f0 (h : b = [] ∨ b.getD 0 0 ≠ 111) : decS b = none := by
  cases b with
  | nil => rfl
  | cons y r => exact if_neg (h.resolve_left (by simp))
theorem dec_f1 (h1 : numR b = none) : decS (111 :: b) = none := by simp [decS, oneR, h1]
theorem dec_f2 (h1 : numR b = some (a, l1)) (h2 : idsR l1 = none) : decS (111 :: b) = none := by simp [decS, oneR, h1, h2]
theorem dec_f3 (h1 : numR b = some (a, l1)) (h2 : idsR l1 = some (n, ids, l2)) (h3 : numR l2 = none) : decS (111 :: b) = none := by simp [decS, oneR, h1, h2, h3]
theorem dec_f4 (h1 : numR b = some (a, l1)) (h2 : idsR l1 = some (n, ids, l2)) (h3 : numR l2 = some (t, l3)) (h4 : ∀ k r, l3 = k :: r → actR k r = none) : decS (111 :: b) = none := by
  cases l3 with
  | nil => simp [decS, oneR, h1, h2, h3]
  | cons k r =>
    have := h4 k r rfl
    simp [decS, oneR, h1, h2, h3, this]
theorem dec_f5 (h1 : numR b = some (a, l1)) (h2 : idsR l1 = some (n, ids, l2)) (h3 : numR l2 = some (t, k :: l4)) (h4 : actR k l4 = some (x, l5)) (h5 : numR l5 = none) : decS (111 :: b) = none := by simp [decS, oneR, h1, h2, h3, h4, h5]
theorem dec_f6 (h1 : numR b = some (a, l1)) (h2 : idsR l1 = some (n, ids, l2)) (h3 : numR l2 = some (t, k :: l4)) (h4 : actR k l4 = some (x, l5)) (h5 : numR l5 = some (e, l6)) (h6 : numR l6 = none) : decS (111 :: b) = none := by simp [decS, oneR, h1, h2, h3, h4, h5, h6]
theorem dec_f7 (h1 : numR b = some (a, l1)) (h2 : idsR l1 = some (n, ids, l2)) (h3 : numR l2 = some (t, k :: l4)) (h4 : actR k l4 = some (x, l5)) (h5 : numR l5 = some (e, l6)) (h6 : numR l6 = some (s, l7)) (h7 : ¬ (l7 = [] ∧ checkE ⟨a, t, k, x.vk, x.num, x.bits, e, s, n, ids, x.key, x.t⟩ = 0)) : decS (111 :: b) = none := by
  simp only [decS, oneR, Option.bind_some, if_true, h1, h2, h3, h4, h5, h6, if_neg h7]
theorem dec_s7 (h1 : numR b = some (a, l1)) (h2 : idsR l1 = some (n, ids, l2)) (h3 : numR l2 = some (t, k :: l4)) (h4 : actR k l4 = some (x, l5)) (h5 : numR l5 = some (e, l6)) (h6 : numR l6 = some (s, l7)) (h7 : l7 = [] ∧ checkE ⟨a, t, k, x.vk, x.num, x.bits, e, s, n, ids, x.key, x.t⟩ = 0) : decS (111 :: b) = some ⟨a, t, k, x.vk, x.num, x.bits, e, s, n, ids, x.key, x.t⟩ := by
  simp only [decS, oneR, Option.bind_some, if_true, h1, h2, h3, h4, h5, h6, if_pos h7]
/-- Numbers that are too large for 32 bits are never read. -/
theorem dec_big1 (hB : Bd .u8 (111 :: b)) (h1 : numR b = some (a, l1)) (ha : 4294967295 < a) : decS (111 :: b) = none := by
  cases hd : decS (111 :: b) with
  | none => rfl
  | some o =>
    obtain ⟨q1, _, _, q4⟩ := dec_inv hB hd
    have h2 := q1.au
    rw [enc_eq] at q4
    simp only [List.cons.injEq, true_and] at q4
    rw [q4, num_R _ h2.1 (by omega)] at h1
    simp only [Option.some.injEq, Prod.mk.injEq] at h1
    omega
theorem dec_parts (hB : Bd .u8 (111 :: b)) {o : OpV} (hd : decS (111 :: b) = some o) (h1 : numR b = some (a, l1)) (h2 : idsR l1 = some (n, ids, l2)) (h3 : numR l2 = some (t, k :: l4)) (h4 : actR k l4 = some (x, l5)) : l5 = numS o.e ++ numS o.s ∧ o.rng := by
  obtain ⟨q1, q2, q3, q4⟩ := dec_inv hB hd
  obtain ⟨c1, c2, c3⟩ := check_zero.1 q3
  have g2 := q1.au
  rw [enc_eq] at q4
  simp only [List.cons.injEq, true_and] at q4
  rw [q4, num_R _ g2.1 (by omega)] at h1
  simp only [Option.some.injEq, Prod.mk.injEq] at h1
  rw [← h1.2, ids_R _ _ _ c1 q2 c2] at h2
  simp only [Option.some.injEq, Prod.mk.injEq] at h2
  rw [← h2.2.2, num_R _ q1.st.1 q1.st.2] at h3
  simp only [Option.some.injEq, Prod.mk.injEq, List.cons.injEq] at h3
  obtain ⟨_, rfl, h3⟩ := h3
  rw [← h3, act_R o.k o.act _ c3.2.2.2.2 q1.num q1.bits] at h4
  simp only [Option.some.injEq, Prod.mk.injEq] at h4
  exact ⟨h4.2.symm, q1⟩
theorem dec_big5 (hB : Bd .u8 (111 :: b)) (h1 : numR b = some (a, l1)) (h2 : idsR l1 = some (n, ids, l2)) (h3 : numR l2 = some (t, k :: l4)) (h4 : actR k l4 = some (x, l5)) (h5 : numR l5 = some (e, l6)) (he : 4294967295 < e) : decS (111 :: b) = none := by
  cases hd : decS (111 :: b) with
  | none => rfl
  | some o =>
    obtain ⟨q, q1⟩ := dec_parts hB hd h1 h2 h3 h4
    have g := q1.e
    rw [q, num_R _ g.1 (by omega)] at h5
    simp only [Option.some.injEq, Prod.mk.injEq] at h5
    omega
theorem dec_big6 (hB : Bd .u8 (111 :: b)) (h1 : numR b = some (a, l1)) (h2 : idsR l1 = some (n, ids, l2)) (h3 : numR l2 = some (t, k :: l4)) (h4 : actR k l4 = some (x, l5)) (h5 : numR l5 = some (e, l6)) (h6 : numR l6 = some (s, l7)) (hs : 4294967295 < s) : decS (111 :: b) = none := by
  cases hd : decS (111 :: b) with
  | none => rfl
  | some o =>
    obtain ⟨q, q1⟩ := dec_parts hB hd h1 h2 h3 h4
    have g := q1.e
    have g2 := q1.s
    rw [q, num_R _ g.1 (by omega)] at h5
    simp only [Option.some.injEq, Prod.mk.injEq] at h5
    rw [← h5.2, show numS o.s = numS o.s ++ [] from (List.append_nil _).symm, num_R _ g2.1 (by omega)] at h6
    simp only [Option.some.injEq, Prod.mk.injEq] at h6
    omega
end
theorem act_sz {k : Int} {r l : List Int} {x : ActV} (hB : Bd .u8 r) (h : actR k r = some (x, l)) : ((0 ≤ x.vk ∧ x.vk < 256) ∧ (-9223372036854775808 ≤ x.num ∧ x.num ≤ 9223372036854775807) ∧ (0 ≤ x.bits ∧ x.bits < 18446744073709551616) ∧ x.key.size ≤ 20 ∧ x.t.size ≤ 30) := by
  have := (actB_bd (k := k) (bad := false) hB).1
  rw [actB_act h] at this
  exact this
end Go.Proofs.YtiohpiiiapjblaaGreatDoor.S
namespace Go.Proofs.YtiohpiiiapjblaaGreatDoor.W
open Go.RowKit Go.Proofs.YtiohpiiiapjblaaGreatDoor.G
set_option linter.unusedVariables false
set_option maxRecDepth 20000
set_option maxHeartbeats 8000000
attribute [local irreducible] RS RX
theorem E49 : Enters Tryz.prog 49 := .mk Tryz.func49 (by kernel_rfl) rfl
theorem E85 : Enters Tryz.prog 85 := .mk Tryz.func85 (by kernel_rfl) rfl
theorem startsR {S0 S1 : Nat → Prop} (a : Option Addr) (n c : Nat) (xs : List Int) (a2 : Option Addr) (n2 c2 : Nat) (ys : List Int) (w : World) (R0 : IRow .u8 S0 w a n xs) (hc : n ≤ c) (hn : n ≤ 1000000) (R1 : IRow .u8 S1 w a2 n2 ys) :
  Calls Tryz.prog 85 #[.slice a n c, .slice a2 n2 c2] w (Ret w fun v _ => v = .bool (decide (S.Starts xs ys))) := by
 have hl := R0.len
 have hl2 := R1.len
 have hE := Ext.refl w
 refine enterU 16 Tryz.func85 rfl rfl ?_
 refine sq fun K1 hK1 => ?_
 refine RS.asB rfl ?_
 refine nl hK1 ?_
 refine sq fun K2 hK2 => ?_
 refine RS.mvS rfl ?_
 refine RS.o (D.len rfl Tryz.underlying22) ?_
 refine RS.mvS rfl ?_
 refine RS.o (D.len rfl Tryz.underlying22) ?_
 refine RS.o (D.ge rfl rfl) ?_
 refine RS.mvB rfl ?_
 refine RS.splitd 10 rfl rfl (fun c3 => ?_) (fun c3 => ?_)
 ·refine RS.nm ?_
  have hg := c3
  refine RS.wt 10 ?_
  refine RS.mvS rfl ?_
  refine RS.wt 10 ?_
  refine RS.mvS rfl ?_
  refine RS.wt 10 ?_
  refine RS.o (D.len rfl Tryz.underlying22) ?_
  refine RS.wt 10 ?_
  refine RS.o (D.slice (kl := .i64) (kh := .i64) rfl Tryz.underlying22 C5 (by decide) rfl rfl (by omega) (by omega)) ?_
  refine RS.wt 10 ?_
  refine RS.mvS rfl ?_
  refine RS.wt 10 ?_
  refine RS.call E18 (sameBytes _ _ _ _ _ _ _ _ _ (R0.sub 0 n2 c (by omega) (by omega) (by omega)) R1 (by omega) (by omega)) rfl (fun v4 w4 x4 A4 => ?_)
  replace hE := Ext.tr hE x4
  replace R0 := R0.ext x4
  replace R1 := R1.ext x4
  have zw4 := x4.size
  subst A4
  refine RS.nm ?_
  refine RS.pick (v := .bool _) rfl rfl ?_
  refine RS.asB rfl ?_
  refine nl hK2 ?_
  refine wp_ret ?_
  refine retB rfl rfl ?_
  refine ⟨_, rfl, hE, congrArg Value.bool ?_⟩
  first | exact (decide_eq_false (fun h => hg (by have := h.1; omega))).symm | (refine decide_eq_decide.2 ⟨fun h => ⟨by omega, ?_⟩, fun h => ?_⟩; (rw [List.drop_zero, Nat.sub_zero] at h; rw [hl2]; exact h); (have h2 := h.2; rw [hl2] at h2; rw [List.drop_zero, Nat.sub_zero]; exact h2))
 refine RS.nm ?_
 have hg := c3
 refine RS.skF 10 ?_
 refine RS.skF 10 ?_
 refine RS.skF 10 ?_
 refine RS.skF 10 ?_
 refine RS.skF 10 ?_
 refine RS.skF 10 ?_
 refine RS.pick (v := .bool false) rfl rfl ?_
 refine RS.asB rfl ?_
 refine nl hK2 ?_
 refine wp_ret ?_
 refine retB rfl rfl ?_
 refine ⟨_, rfl, hE, congrArg Value.bool ?_⟩
 first | exact (decide_eq_false (fun h => hg (by have := h.1; omega))).symm | (refine decide_eq_decide.2 ⟨fun h => ⟨by omega, ?_⟩, fun h => ?_⟩; (rw [List.drop_zero, Nat.sub_zero] at h; rw [hl2]; exact h); (have h2 := h.2; rw [hl2] at h2; rw [List.drop_zero, Nat.sub_zero]; exact h2))
theorem readNR {S0 : Nat → Prop} (a : Option Addr) (n c : Nat) (bs : List Int) (w : World) (R0 : IRow .u8 S0 w a n bs) (hc : n ≤ c) (hn : n ≤ 1000000) :
  Calls Tryz.prog 49 #[.slice a n c] w (Ret w fun v _ => v = .tuple #[.int .u64 (S.rdV bs), .int .i64 (S.rdU bs), .int .i64 (S.rdE bs)]) := by
 replace R0 := R0.weaken (T := fun k => k < w.heap.size) (fun k hk _ => hk)
 have hbl := R0.len
 have hbd := R0.bd
 have hE := Ext.refl w
 refine enterU 48 Tryz.func49 rfl rfl ?_
 refine sq fun K1 hK1 => ?_
 refine RS.asI rfl ?_
 refine RS.asI rfl ?_
 refine RS.asI rfl ?_
 refine nl hK1 ?_
 refine wp_seq_k (fun K2 hK2 => ?_)
 refine sq fun K3 hK3 => ?_
 refine RS.mvS rfl ?_
 refine RS.o (D.len rfl Tryz.underlying22) ?_
 refine RS.o (D.eq rfl rfl) ?_
 refine nl hK3 ?_
 refine C.ife rfl (fun c4 => ?_) (fun c4 => ?_)
 ·refine wp_seq_k (fun K5 hK5 => ?_)
  refine region ?_
  refine RS.asI rfl ?_
  refine RS.asI rfl ?_
  refine RS.asI rfl ?_
  refine nl hK5 ?_
  refine wp_ret ?_
  refine ret (rs := [.tmp 2, .tmp 3, .tmp 4]) (vs := [.int _ _, .int _ _, .int _ _]) (v := (.tuple #[.int _ _, .int _ _, .int _ _])) rfl ⟨rfl, rfl, rfl, trivial⟩ rfl ?_
  obtain ⟨e1, e2, e3⟩ := S.rd_none (S.readN_none (b := bs) (by omega))
  rw [e1, e2, e3]
  exact ⟨_, rfl, hE, rfl⟩
 refine wp_skip ?_
 refine hK2 _ _ ?_
 refine sq fun K6 hK6 => ?_
 refine RS.mvS rfl ?_
 refine RS.idx R0 rfl rfl Tryz.underlying22 C5 (by omega) (fun b7 o7 v7 h7 q7 r7 => ?_)
 refine RS.nm ?_
 simp only [lim] at r7
 replace q7 : v7 = bs.getD 0 0 := q7
 have q1 := q7
 obtain ⟨x, hx⟩ : ∃ x, x = v7 := ⟨_, rfl⟩
 refine RS.o (D.load rfl Tryz.underlying5 rfl (h7)) ?_
 refine RS.o (D.conv rfl Tryz.underlying5 Tryz.underlying25 (W.u64 (by omega))) ?_
 refine RS.asI rfl ?_
 refine nl hK6 ?_
 refine wp_seq_k (fun K8 hK8 => ?_)
 refine sq fun K9 hK9 => ?_
 refine RS.mvI rfl ?_
 refine RS.o (D.gt rfl rfl) ?_
 refine nl hK9 ?_
 refine C.ifd rfl (fun c10 => ?_) (fun c10 => ?_)
 ·obtain ⟨k, hk⟩ : ∃ k : Int, k = v7 - 247 := ⟨_, rfl⟩
  refine sq fun K11 hK11 => ?_
  refine RS.mvI rfl ?_
  refine RS.o (D.conv rfl Tryz.underlying25 Tryz.underlying3 (W.i64 (by omega))) ?_
  refine RS.o (D.sub rfl rfl (W.i64 (by omega))) ?_
  refine RS.asI rfl ?_
  refine nl hK11 ?_
  refine wp_seq_k (fun K12 hK12 => ?_)
  rw [← hk]
  refine region ?_
  refine RS.asI rfl ?_
  refine nl hK12 ?_
  refine sq fun K13 hK13 => ?_
  refine RS.asI rfl ?_
  refine nl hK13 ?_
  refine wp_block ?_
  refine C.loop (A := Int × Int) (fun p => [(5, .int .u64 p.2), (7, .int .i64 p.1)]) [21, 22, 23, 24, 25, 26, 27, 28, 29, 30, 31, 32, 33, 34, 35, 36, 37, 38, 39] (fun p w' => Ext w w' ∧ ((1 ≤ p.1 ∧ p.1 ≤ k + 1 ∧ p.1 ≤ n) ∧ p.2 = S.be ((bs.drop 1).take (p.1 - 1).toNat))) (fun p => (k + 1 - p.1).toNat) (1, 0) (by kernel_rfl) ?_ ?_
  ·exact ⟨Ext.refl _, ⟨by dsimp only; omega, by dsimp only; omega, by dsimp only; omega⟩, rfl⟩
  rintro p j w14 ⟨x14, hI⟩
  replace hE := Ext.tr hE x14
  replace R0 := R0.ext x14
  have zw14 := x14.size
  obtain ⟨i, r⟩ := p
  dsimp only at hI
  obtain ⟨g1, g2⟩ := hI
  have g3 := S.be8_lt (bs.drop 1) (i - 1).toNat (hbd.drop 1) (by omega)
  rw [← g2] at g3
  refine C.norm (by simp only [upd, junk, List.map_cons, List.map_nil, List.set_cons_succ, List.set_cons_zero]; exact rfl) ?_
  refine wp_seq_k (fun K15 hK15 => ?_)
  refine sq fun K16 hK16 => ?_
  refine RS.mvI rfl ?_
  refine RS.mvI rfl ?_
  refine RS.o (D.le rfl rfl) ?_
  refine RS.mvB rfl ?_
  refine RS.splitd 24 rfl rfl (fun c17 => ?_) (fun c17 => ?_)
  ·refine RS.nm ?_
   refine RS.wt 24 ?_
   refine RS.mvI rfl ?_
   refine RS.wt 24 ?_
   refine RS.mvS rfl ?_
   refine RS.wt 24 ?_
   refine RS.o (D.len rfl Tryz.underlying22) ?_
   refine RS.wt 24 ?_
   refine RS.o (D.lt rfl rfl) ?_
   refine RS.pick (v := .bool _) rfl rfl ?_
   refine nl hK16 ?_
   refine C.ifd rfl (fun c18 => ?_) (fun c18 => ?_)
   ·have g4 := S.be7_lt (bs.drop 1) (i - 1).toNat (hbd.drop 1) (by omega)
    rw [← g2] at g4
    refine wp_skip ?_
    refine hK15 _ _ ?_
    refine wp_seq_k (fun K19 hK19 => ?_)
    refine wp_block ?_
    refine region ?_
    refine RS.mvI rfl ?_
    refine RS.o (D.mul rfl rfl (W.u64 (by omega))) ?_
    refine RS.mvS rfl ?_
    refine RS.mvI rfl ?_
    refine RS.idx R0 rfl rfl Tryz.underlying22 C5 (by omega) (fun b20 o20 v20 h20 q20 r20 => ?_)
    refine RS.nm ?_
    simp only [lim] at r20
    have q6 := q20
    have hgr := S.be_grow1 bs i.toNat (by omega) (by omega)
    rw [← q6, show i.toNat - 1 = (i - 1).toNat by omega, ← g2] at hgr
    have hb8 := S.be8_lt (bs.drop 1) i.toNat (hbd.drop 1) (by omega)
    rw [← hgr] at hb8
    refine RS.o (D.load rfl Tryz.underlying5 rfl (h20)) ?_
    refine RS.o (D.conv rfl Tryz.underlying5 Tryz.underlying25 (W.u64 (by omega))) ?_
    refine RS.o (D.add rfl rfl (W.u64 (by omega))) ?_
    refine RS.asI rfl ?_
    refine nl hK19 ?_
    refine region ?_
    refine RS.mvI rfl ?_
    refine RS.o (D.add rfl rfl (W.i64 (by omega))) ?_
    refine RS.asI rfl ?_
    refine RS.nil ?_
    change Nx _ _ _ _ _ _ _ _
    refine C.next (i + 1, _) ⟨rfl, rfl, trivial⟩ (by kernel_rfl) ?_ ?_
    ·refine ⟨x14, ⟨by dsimp only; omega, by dsimp only; omega, by dsimp only; omega⟩, ?_⟩
     dsimp only
     rw [show (i + 1 - 1).toNat = i.toNat by omega, ← hgr]
    dsimp only; omega
   have hend := c18
   refine wp_exit ?_
   refine hK8 _ _ ?_
   refine sq fun K21 hK21 => ?_
   refine RS.mvI rfl ?_
   refine RS.call E84 (numR _ (by omega) _) rfl (fun v22 w22 x22 A22 => ?_)
   replace hE := Ext.tr hE x22
   replace R0 := R0.ext x22
   have zw22 := x22.size
   obtain ⟨aN, nN, cN, rfl, ON⟩ := A22
   have lON := ON.len
   refine RS.nm ?_
   refine RS.asS rfl ?_
   refine nl hK21 ?_
   refine wp_seq_k (fun K23 hK23 => ?_)
   refine sq fun K24 hK24 => ?_
   refine RS.mvS rfl ?_
   refine RS.mvS rfl ?_
   refine RS.call E85 (startsR _ _ _ _ _ _ _ _ _ R0 hc hn ON.row) rfl (fun v25 w25 x25 A25 => ?_)
   replace hE := Ext.tr hE x25
   replace R0 := R0.ext x25
   replace ON := ON.ext x25
   have zw25 := x25.size
   subst A25
   refine RS.nm ?_
   refine RS.o (D.not rfl) ?_
   refine nl hK24 ?_
   refine C.ifnot rfl (fun c26 => ?_) (fun c26 => ?_)
   ·have hs := of_decide_eq_false c26
    refine sq fun K27 hK27 => ?_
    refine RS.asI rfl ?_
    refine RS.asI rfl ?_
    refine RS.asI rfl ?_
    refine nl hK27 ?_
    refine wp_ret ?_
    refine ret (rs := [.tmp 2, .tmp 3, .tmp 4]) (vs := [.int _ _, .int _ _, .int _ _]) (v := (.tuple #[.int _ _, .int _ _, .int _ _])) rfl ⟨rfl, rfl, rfl, trivial⟩ rfl ?_
    obtain ⟨e1, e2, e3⟩ := S.rd_none (S.ref_none hbd (k := k) (by omega) (by omega) (fun h => by omega) hs)
    rw [e1, e2, e3]
    exact ⟨_, rfl, hE, rfl⟩
   have hs := of_decide_eq_true c26
   refine wp_skip ?_
   refine hK23 _ _ ?_
   refine sq fun K28 hK28 => ?_
   refine RS.mvI rfl ?_
   refine RS.mvS rfl ?_
   refine RS.o (D.len rfl Tryz.underlying22) ?_
   refine RS.asI rfl ?_
   refine RS.asI rfl ?_
   refine RS.asI rfl ?_
   refine nl hK28 ?_
   refine wp_ret ?_
   refine ret (rs := [.tmp 2, .tmp 3, .tmp 4]) (vs := [.int _ _, .int _ _, .int _ _]) (v := (.tuple #[.int _ _, .int _ _, .int _ _])) rfl ⟨rfl, rfl, rfl, trivial⟩ rfl ?_
   obtain ⟨e1, e2, e3⟩ := S.rd_some (S.read_starts ⟨g3.1, g3.2⟩ hs)
   rw [e1, e2, e3]
   rw [← lON]
   exact ⟨_, rfl, hE, rfl⟩
  refine RS.nm ?_
  have hend := c17
  refine RS.skF 24 ?_
  refine RS.skF 24 ?_
  refine RS.skF 24 ?_
  refine RS.skF 24 ?_
  refine RS.pick (v := .bool false) rfl rfl ?_
  refine nl hK16 ?_
  refine C.iff rfl ?_
  refine wp_exit ?_
  refine hK8 _ _ ?_
  refine sq fun K29 hK29 => ?_
  refine RS.mvI rfl ?_
  refine RS.call E84 (numR _ (by omega) _) rfl (fun v30 w30 x30 A30 => ?_)
  replace hE := Ext.tr hE x30
  replace R0 := R0.ext x30
  have zw30 := x30.size
  obtain ⟨aN, nN, cN, rfl, ON⟩ := A30
  have lON := ON.len
  refine RS.nm ?_
  refine RS.asS rfl ?_
  refine nl hK29 ?_
  refine wp_seq_k (fun K31 hK31 => ?_)
  refine sq fun K32 hK32 => ?_
  refine RS.mvS rfl ?_
  refine RS.mvS rfl ?_
  refine RS.call E85 (startsR _ _ _ _ _ _ _ _ _ R0 hc hn ON.row) rfl (fun v33 w33 x33 A33 => ?_)
  replace hE := Ext.tr hE x33
  replace R0 := R0.ext x33
  replace ON := ON.ext x33
  have zw33 := x33.size
  subst A33
  refine RS.nm ?_
  refine RS.o (D.not rfl) ?_
  refine nl hK32 ?_
  refine C.ifnot rfl (fun c34 => ?_) (fun c34 => ?_)
  ·have hs := of_decide_eq_false c34
   refine sq fun K35 hK35 => ?_
   refine RS.asI rfl ?_
   refine RS.asI rfl ?_
   refine RS.asI rfl ?_
   refine nl hK35 ?_
   refine wp_ret ?_
   refine ret (rs := [.tmp 2, .tmp 3, .tmp 4]) (vs := [.int _ _, .int _ _, .int _ _]) (v := (.tuple #[.int _ _, .int _ _, .int _ _])) rfl ⟨rfl, rfl, rfl, trivial⟩ rfl ?_
   obtain ⟨e1, e2, e3⟩ := S.rd_none (S.ref_none hbd (k := k) (by omega) (by omega) (fun h => by rw [g2, show (i - 1).toNat = k.toNat by omega]) hs)
   rw [e1, e2, e3]
   exact ⟨_, rfl, hE, rfl⟩
  have hs := of_decide_eq_true c34
  refine wp_skip ?_
  refine hK31 _ _ ?_
  refine sq fun K36 hK36 => ?_
  refine RS.mvI rfl ?_
  refine RS.mvS rfl ?_
  refine RS.o (D.len rfl Tryz.underlying22) ?_
  refine RS.asI rfl ?_
  refine RS.asI rfl ?_
  refine RS.asI rfl ?_
  refine nl hK36 ?_
  refine wp_ret ?_
  refine ret (rs := [.tmp 2, .tmp 3, .tmp 4]) (vs := [.int _ _, .int _ _, .int _ _]) (v := (.tuple #[.int _ _, .int _ _, .int _ _])) rfl ⟨rfl, rfl, rfl, trivial⟩ rfl ?_
  obtain ⟨e1, e2, e3⟩ := S.rd_some (S.read_starts ⟨g3.1, g3.2⟩ hs)
  rw [e1, e2, e3]
  rw [← lON]
  exact ⟨_, rfl, hE, rfl⟩
 obtain ⟨hst, hrs⟩ := S.ref_small (b := bs) (by omega) (by omega)
 refine wp_skip ?_
 refine hK8 _ _ ?_
 refine sq fun K37 hK37 => ?_
 refine RS.mvI rfl ?_
 refine RS.call E84 (numR _ (by omega) _) rfl (fun v38 w38 x38 A38 => ?_)
 replace hE := Ext.tr hE x38
 replace R0 := R0.ext x38
 have zw38 := x38.size
 obtain ⟨aN, nN, cN, rfl, ON⟩ := A38
 have lON := ON.len
 refine RS.nm ?_
 refine RS.asS rfl ?_
 refine nl hK37 ?_
 refine wp_seq_k (fun K39 hK39 => ?_)
 refine sq fun K40 hK40 => ?_
 refine RS.mvS rfl ?_
 refine RS.mvS rfl ?_
 refine RS.call E85 (startsR _ _ _ _ _ _ _ _ _ R0 hc hn ON.row) rfl (fun v41 w41 x41 A41 => ?_)
 replace hE := Ext.tr hE x41
 replace R0 := R0.ext x41
 replace ON := ON.ext x41
 have zw41 := x41.size
 subst A41
 refine RS.nm ?_
 refine RS.o (D.not rfl) ?_
 refine nl hK40 ?_
 refine C.ifnot rfl (fun c42 => ?_) (fun c42 => ?_)
 ·have hs := of_decide_eq_false c42
  refine sq fun K43 hK43 => ?_
  refine RS.asI rfl ?_
  refine RS.asI rfl ?_
  refine RS.asI rfl ?_
  refine nl hK43 ?_
  refine wp_ret ?_
  refine ret (rs := [.tmp 2, .tmp 3, .tmp 4]) (vs := [.int _ _, .int _ _, .int _ _]) (v := (.tuple #[.int _ _, .int _ _, .int _ _])) rfl ⟨rfl, rfl, rfl, trivial⟩ rfl ?_
  exact absurd (q1 ▸ hst) hs
 have hs := of_decide_eq_true c42
 refine wp_skip ?_
 refine hK39 _ _ ?_
 refine sq fun K44 hK44 => ?_
 refine RS.mvI rfl ?_
 refine RS.mvS rfl ?_
 refine RS.o (D.len rfl Tryz.underlying22) ?_
 refine RS.asI rfl ?_
 refine RS.asI rfl ?_
 refine RS.asI rfl ?_
 refine nl hK44 ?_
 refine wp_ret ?_
 refine ret (rs := [.tmp 2, .tmp 3, .tmp 4]) (vs := [.int _ _, .int _ _, .int _ _]) (v := (.tuple #[.int _ _, .int _ _, .int _ _])) rfl ⟨rfl, rfl, rfl, trivial⟩ rfl ?_
 obtain ⟨e1, e2, e3⟩ := S.rd_some (S.read_starts (by omega) hs)
 rw [e1, e2, e3]
 rw [← lON]
 exact ⟨_, rfl, hE, rfl⟩
theorem readSgR {S0 : Nat → Prop} (a : Option Addr) (n c : Nat) (bs : List Int) (w : World) (R0 : IRow .u8 S0 w a n bs) (hc : n ≤ c) (hn : n ≤ 1000000) :
  Calls Tryz.prog 133 #[.slice a n c] w (Ret w fun v _ => v = .tuple #[.int .i64 (if S.rdE bs = 0 then S.unzig (S.rdV bs) else 0), .int .i64 (S.rdU bs), .int .i64 (S.rdE bs)]) := by
 replace R0 := R0.weaken (T := fun k => k < w.heap.size) (fun k hk _ => hk)
 have hbl := R0.len
 have hbd := R0.bd
 obtain ⟨hv, hu, hu9, he⟩ := S.rd_bd R0.bd
 have hE := Ext.refl w
 refine enterU 29 Tryz.func133 rfl rfl ?_
 refine sq fun K1 hK1 => ?_
 refine RS.asI rfl ?_
 refine RS.asI rfl ?_
 refine RS.asI rfl ?_
 refine nl hK1 ?_
 refine sq fun K2 hK2 => ?_
 refine RS.mvS rfl ?_
 refine RS.call E49 (readNR _ _ _ _ _ R0 hc hn) rfl (fun v3 w3 x3 A3 => ?_)
 replace hE := Ext.tr hE x3
 replace R0 := R0.ext x3
 have zw3 := x3.size
 subst A3
 refine RS.nm ?_
 refine RS.move (v := .tuple _) rfl ?_
 refine RS.extract (v := .int _ _) rfl rfl ?_
 refine RS.extract (v := .int _ _) rfl rfl ?_
 refine RS.extract (v := .int _ _) rfl rfl ?_
 refine RS.asI rfl ?_
 refine RS.asI rfl ?_
 refine RS.asI rfl ?_
 refine nl hK2 ?_
 refine wp_seq_k (fun K4 hK4 => ?_)
 refine sq fun K5 hK5 => ?_
 refine RS.mvI rfl ?_
 refine RS.o (D.ne rfl rfl) ?_
 refine nl hK5 ?_
 refine C.ifn rfl (fun c6 => ?_) (fun c6 => ?_)
 ·have hz := c6
  refine sq fun K7 hK7 => ?_
  refine RS.mvI rfl ?_
  refine RS.asI rfl ?_
  refine RS.asI rfl ?_
  refine RS.asI rfl ?_
  refine nl hK7 ?_
  refine wp_ret ?_
  refine ret (rs := [.tmp 2, .tmp 3, .tmp 4]) (vs := [.int _ _, .int _ _, .int _ _]) (v := (.tuple #[.int _ _, .int _ _, .int _ _])) rfl ⟨rfl, rfl, rfl, trivial⟩ rfl ?_
  obtain ⟨e1, e2, e3⟩ := S.rd_none (S.rd_bad hz)
  rw [if_neg hz, e2]
  exact ⟨_, rfl, hE, rfl⟩
 have hz := c6
 refine wp_skip ?_
 refine hK4 _ _ ?_
 refine wp_seq_k (fun K8 hK8 => ?_)
 refine sq fun K9 hK9 => ?_
 refine RS.mvI rfl ?_
 refine RS.o (D.rem rfl rfl (by omega) (by omega)) ?_
 refine RS.o (D.eq rfl rfl) ?_
 refine nl hK9 ?_
 refine C.ife rfl (fun c10 => ?_) (fun c10 => ?_)
 ·have hp := c10
  refine sq fun K11 hK11 => ?_
  refine RS.mvI rfl ?_
  refine RS.o (D.quo rfl rfl (by omega) (by omega) (W.u64 (by omega))) ?_
  refine RS.o (D.conv rfl Tryz.underlying25 Tryz.underlying2 (W.i64 (by omega))) ?_
  refine RS.mvI rfl ?_
  refine RS.asI rfl ?_
  refine RS.asI rfl ?_
  refine RS.asI rfl ?_
  refine nl hK11 ?_
  refine wp_ret ?_
  refine ret (rs := [.tmp 2, .tmp 3, .tmp 4]) (vs := [.int _ _, .int _ _, .int _ _]) (v := (.tuple #[.int _ _, .int _ _, .int _ _])) rfl ⟨rfl, rfl, rfl, trivial⟩ rfl ?_
  rw [if_pos hz, hz, S.unzig_even hp]
  exact ⟨_, rfl, hE, rfl⟩
 have hp := c10
 refine wp_skip ?_
 refine hK8 _ _ ?_
 refine sq fun K12 hK12 => ?_
 refine RS.mvI rfl ?_
 refine RS.o (D.quo rfl rfl (by omega) (by omega) (W.u64 (by omega))) ?_
 refine RS.o (D.conv rfl Tryz.underlying25 Tryz.underlying2 (W.i64 (by omega))) ?_
 refine RS.o (D.neg rfl (W.i64 (by omega))) ?_
 refine RS.o (D.sub rfl rfl (W.i64 (by omega))) ?_
 refine RS.mvI rfl ?_
 refine RS.asI rfl ?_
 refine RS.asI rfl ?_
 refine RS.asI rfl ?_
 refine nl hK12 ?_
 refine wp_ret ?_
 refine ret (rs := [.tmp 2, .tmp 3, .tmp 4]) (vs := [.int _ _, .int _ _, .int _ _]) (v := (.tuple #[.int _ _, .int _ _, .int _ _])) rfl ⟨rfl, rfl, rfl, trivial⟩ rfl ?_
 rw [if_pos hz, hz, S.unzig_odd hp, ← Int.zero_sub (S.rdV bs / 2)]
 exact ⟨_, rfl, hE, rfl⟩
theorem readBR {S0 : Nat → Prop} (a : Option Addr) (n c : Nat) (bs : List Int) (most : Nat) (hm : most ≤ 1000000) (w : World) (R0 : IRow .u8 S0 w a n bs) (hc : n ≤ c) (hn : n ≤ 1000000) :
  Calls Tryz.prog 86 #[.slice a n c, .int .i64 most] w (Ret w fun v w' => ∃ a' n' c', v = .tuple #[.slice a' n' c', .int .i64 (S.ptU most 1 bs), .int .i64 (S.ptE most 1 bs)] ∧ IOwn w.heap.size w' 5 .u8 a' n' c' (S.ptS most 1 bs)) := by
 replace R0 := R0.weaken (T := fun k => k < w.heap.size) (fun k hk _ => hk)
 have hbl := R0.len
 have hbd := R0.bd
 obtain ⟨hv, hu, hu9, he⟩ := S.rd_bd R0.bd
 have hE := Ext.refl w
 refine enterU 45 Tryz.func86 rfl rfl ?_
 refine sq fun K1 hK1 => ?_
 refine RS.asS rfl ?_
 refine RS.asI rfl ?_
 refine RS.asI rfl ?_
 refine nl hK1 ?_
 refine wp_seq_k (fun K2 hK2 => ?_)
 refine sq fun K3 hK3 => ?_
 refine RS.mvI rfl ?_
 refine RS.o (D.lt rfl rfl) ?_
 refine nl hK3 ?_
 refine C.ifd rfl (fun c4 => ?_) (fun c4 => ?_)
 ·exfalso; omega
 refine wp_skip ?_
 refine hK2 _ _ ?_
 refine sq fun K5 hK5 => ?_
 refine RS.mvS rfl ?_
 refine RS.call E49 (readNR _ _ _ _ _ R0 hc hn) rfl (fun v6 w6 x6 A6 => ?_)
 replace hE := Ext.tr hE x6
 replace R0 := R0.ext x6
 have zw6 := x6.size
 subst A6
 refine RS.nm ?_
 refine RS.move (v := .tuple _) rfl ?_
 refine RS.extract (v := .int _ _) rfl rfl ?_
 refine RS.extract (v := .int _ _) rfl rfl ?_
 refine RS.extract (v := .int _ _) rfl rfl ?_
 refine RS.asI rfl ?_
 refine RS.asI rfl ?_
 refine RS.asI rfl ?_
 refine nl hK5 ?_
 refine wp_seq_k (fun K7 hK7 => ?_)
 refine sq fun K8 hK8 => ?_
 refine RS.mvI rfl ?_
 refine RS.o (D.ne rfl rfl) ?_
 refine RS.mvB rfl ?_
 refine RS.splitn 21 rfl rfl (fun c9 => ?_) (fun c9 => ?_)
 ·refine RS.nm ?_
  refine RS.skT 21 ?_
  refine RS.skT 21 ?_
  refine RS.skT 21 ?_
  refine RS.skT 21 ?_
  refine RS.pick (v := .bool true) rfl rfl ?_
  refine RS.mvB rfl ?_
  refine RS.skT 27 ?_
  refine RS.skT 27 ?_
  refine RS.skT 27 ?_
  refine RS.skT 27 ?_
  refine RS.skT 27 ?_
  refine RS.skT 27 ?_
  refine RS.skT 27 ?_
  refine RS.pick (v := .bool true) rfl rfl ?_
  refine nl hK8 ?_
  refine C.ift rfl ?_
  refine sq fun K10 hK10 => ?_
  refine RS.asS rfl ?_
  refine RS.asI rfl ?_
  refine RS.asI rfl ?_
  refine nl hK10 ?_
  refine wp_ret ?_
  refine ret (rs := [.tmp 4, .tmp 5, .tmp 6]) (vs := [.slice _ _ _, .int _ _, .int _ _]) (v := (.tuple #[.slice _ _ _, .int _ _, .int _ _])) rfl ⟨rfl, rfl, rfl, trivial⟩ rfl ?_
  obtain ⟨e1, e2, e3⟩ := S.pt_not (most := most) (wd := 1) (b := bs) (fun h => by have h1 := h.1; have h2 := h.2.1; have h3 := h.2.2; rw [hbl] at h3; omega)
  rw [e1, e2]
  exact ⟨_, rfl, hE, _, _, _, rfl, by rw [e3]; exact IOwn.nil _ _ _ _⟩
 refine RS.nm ?_
 refine RS.wt 21 ?_
 refine RS.mvI rfl ?_
 refine RS.wt 21 ?_
 refine RS.mvI rfl ?_
 refine RS.wt 21 ?_
 refine RS.o (D.conv rfl Tryz.underlying3 Tryz.underlying25 (W.u64 (by omega))) ?_
 refine RS.wt 21 ?_
 refine RS.o (D.gt rfl rfl) ?_
 refine RS.pick (v := .bool _) rfl rfl ?_
 refine RS.mvB rfl ?_
 refine RS.splitd 27 rfl rfl (fun c11 => ?_) (fun c11 => ?_)
 ·refine RS.nm ?_
  refine RS.skT 27 ?_
  refine RS.skT 27 ?_
  refine RS.skT 27 ?_
  refine RS.skT 27 ?_
  refine RS.skT 27 ?_
  refine RS.skT 27 ?_
  refine RS.skT 27 ?_
  refine RS.pick (v := .bool true) rfl rfl ?_
  refine nl hK8 ?_
  refine C.ift rfl ?_
  refine sq fun K12 hK12 => ?_
  refine RS.asS rfl ?_
  refine RS.asI rfl ?_
  refine RS.asI rfl ?_
  refine nl hK12 ?_
  refine wp_ret ?_
  refine ret (rs := [.tmp 4, .tmp 5, .tmp 6]) (vs := [.slice _ _ _, .int _ _, .int _ _]) (v := (.tuple #[.slice _ _ _, .int _ _, .int _ _])) rfl ⟨rfl, rfl, rfl, trivial⟩ rfl ?_
  obtain ⟨e1, e2, e3⟩ := S.pt_not (most := most) (wd := 1) (b := bs) (fun h => by have h1 := h.1; have h2 := h.2.1; have h3 := h.2.2; rw [hbl] at h3; omega)
  rw [e1, e2]
  exact ⟨_, rfl, hE, _, _, _, rfl, by rw [e3]; exact IOwn.nil _ _ _ _⟩
 refine RS.nm ?_
 refine RS.wt 27 ?_
 refine RS.mvI rfl ?_
 refine RS.wt 27 ?_
 refine RS.mvS rfl ?_
 refine RS.wt 27 ?_
 refine RS.o (D.len rfl Tryz.underlying22) ?_
 refine RS.wt 27 ?_
 refine RS.mvI rfl ?_
 refine RS.wt 27 ?_
 refine RS.o (D.sub rfl rfl (W.i64 (by omega))) ?_
 refine RS.wt 27 ?_
 refine RS.o (D.conv rfl Tryz.underlying3 Tryz.underlying25 (W.u64 (by omega))) ?_
 refine RS.wt 27 ?_
 refine RS.o (D.gt rfl rfl) ?_
 refine RS.pick (v := .bool _) rfl rfl ?_
 refine nl hK8 ?_
 refine C.ifd rfl (fun c13 => ?_) (fun c13 => ?_)
 ·refine wp_seq_k (fun K14 hK14 => ?_)
  refine region ?_
  refine RS.asS rfl ?_
  refine RS.asI rfl ?_
  refine RS.asI rfl ?_
  refine nl hK14 ?_
  refine wp_ret ?_
  refine ret (rs := [.tmp 4, .tmp 5, .tmp 6]) (vs := [.slice _ _ _, .int _ _, .int _ _]) (v := (.tuple #[.slice _ _ _, .int _ _, .int _ _])) rfl ⟨rfl, rfl, rfl, trivial⟩ rfl ?_
  obtain ⟨e1, e2, e3⟩ := S.pt_not (most := most) (wd := 1) (b := bs) (fun h => by have h1 := h.1; have h2 := h.2.1; have h3 := h.2.2; rw [hbl] at h3; omega)
  rw [e1, e2]
  exact ⟨_, rfl, hE, _, _, _, rfl, by rw [e3]; exact IOwn.nil _ _ _ _⟩
 refine wp_skip ?_
 refine hK7 _ _ ?_
 refine wp_seq_k (fun K15 hK15 => ?_)
 have hok : S.ptOk most 1 bs := ⟨by omega, by omega, by rw [hbl]; omega⟩
 have hml := S.pt_mul R0.bd hok (by decide)
 refine region ?_
 refine RS.mvI rfl ?_
 refine RS.mvI rfl ?_
 refine RS.o (D.conv rfl Tryz.underlying25 Tryz.underlying3 (W.i64 (by omega))) ?_
 refine RS.o (D.add rfl rfl (W.i64 (by omega))) ?_
 refine RS.asI rfl ?_
 refine nl hK15 ?_
 refine wp_seq_k (fun K16 hK16 => ?_)
 have QR : IRow .u8 _ w6 _ _ _ := R0.sub (S.rdU bs) (S.rdU bs + (S.rdV bs).toNat) c (by omega) (by omega) (by omega)
 have eI : S.rdV bs = (((S.rdV bs).toNat : Nat) : Int) := by omega
 rw [eI]
 refine region ?_
 refine RS.buildNone Tryz.underlying22 T5 (fun b17 w17 e17 s17 x17 B17 => ?_)
 refine RS.nm ?_
 replace hE := Ext.tr hE x17
 replace R0 := R0.ext x17
 replace QR := QR.ext x17
 have zw17 := x17.size
 have O1 : IOwn w6.heap.size w17 5 .u8 (some ⟨b17, 0, none⟩) 0 0 [] := IOwn.of_blk B17 rfl rfl (by omega) (Bd.nil _) (by decide)
 refine RS.mvS rfl ?_
 refine RS.mvI rfl ?_
 refine RS.mvI rfl ?_
 refine RS.o (D.slice (kl := .i64) (kh := .i64) rfl Tryz.underlying22 C5 (by decide) rfl rfl (by omega) (by omega)) ?_
 refine RS.appendI O1 QR rfl rfl Tryz.underlying22 T5 rfl (by omega) (by decide) (by omega) (fun a18 c18 w18 N18 x18 => ?_)
 refine RS.nm ?_
 replace hE := hE.trans (x18.below (by intros; try (first | (intro _ _) | (intro _) | skip); first | omega | (have hq := O1.lo _ (by assumption); first | omega | (dsimp only at *; omega))) (by intros; try (first | (intro _ _) | (intro _) | skip); first | omega | (dsimp only at *; omega) | (simp_all; done) | (simp at *; omega)))
 replace R0 := R0.pr x18 (by intros; try (first | (intro _ _) | (intro _) | skip); first | omega | (have hq := O1.lo _ (by assumption); first | omega | (dsimp only at *; omega)))
 have zw18 := x18.size
 replace O1 := N18
 refine RS.mvI rfl ?_
 refine RS.asS rfl ?_
 refine RS.asI rfl ?_
 refine RS.asI rfl ?_
 refine nl hK16 ?_
 refine wp_ret ?_
 refine ret (rs := [.tmp 4, .tmp 5, .tmp 6]) (vs := [.slice _ _ _, .int _ _, .int _ _]) (v := (.tuple #[.slice _ _ _, .int _ _, .int _ _])) rfl ⟨rfl, rfl, rfl, trivial⟩ rfl ?_
 obtain ⟨e1, e2, e3⟩ := S.pt_ok hok
 rw [e1, e2, show (1 : Nat) * (S.rdV bs).toNat = (S.rdV bs).toNat by omega]
 refine ⟨_, rfl, hE, _, _, _, rfl, ?_⟩
 rw [e3, Nat.one_mul]
 rw [show [] ++ (bs.drop (S.rdU bs)).take (S.rdU bs + (S.rdV bs).toNat - S.rdU bs) = (bs.drop (S.rdU bs)).take (S.rdV bs).toNat by rw [List.nil_append, Nat.add_sub_cancel_left]] at O1
 exact O1.base (fun k hk => by have := O1.lo k hk; omega)
theorem readIdsR {S0 : Nat → Prop} (a : Option Addr) (n c : Nat) (bs : List Int) (most : Nat) (hm : most ≤ 1000) (w : World) (R0 : IRow .u8 S0 w a n bs) (hc : n ≤ c) (hn : n ≤ 1000000) :
  Calls Tryz.prog 48 #[.slice a n c, .int .i64 most] w (Ret w fun v w' => ∃ a' c', v = .tuple #[.slice a' (S.idN most bs) c', .int .i64 (S.idU most bs), .int .i64 (S.idE most bs)] ∧ S.idN most bs ≤ c' ∧ WRow .u8 32 (fun k => w.heap.size ≤ k) w' a' (S.idN most bs) (S.idL most bs)) := by
 replace R0 := R0.weaken (T := fun k => k < w.heap.size) (fun k hk _ => hk)
 have hbl := R0.len
 have hbd := R0.bd
 obtain ⟨hv, hu, hu9, he⟩ := S.rd_bd R0.bd
 have hE := Ext.refl w
 refine enterU 72 Tryz.func48 rfl rfl ?_
 refine sq fun K1 hK1 => ?_
 refine RS.asS rfl ?_
 refine RS.asI rfl ?_
 refine RS.asI rfl ?_
 refine nl hK1 ?_
 refine wp_seq_k (fun K2 hK2 => ?_)
 refine sq fun K3 hK3 => ?_
 refine RS.mvI rfl ?_
 refine RS.o (D.lt rfl rfl) ?_
 refine nl hK3 ?_
 refine C.ifd rfl (fun c4 => ?_) (fun c4 => ?_)
 ·exfalso; omega
 refine wp_skip ?_
 refine hK2 _ _ ?_
 refine sq fun K5 hK5 => ?_
 refine RS.mvS rfl ?_
 refine RS.call E49 (readNR _ _ _ _ _ R0 hc hn) rfl (fun v6 w6 x6 A6 => ?_)
 replace hE := Ext.tr hE x6
 replace R0 := R0.ext x6
 have zw6 := x6.size
 subst A6
 refine RS.nm ?_
 refine RS.move (v := .tuple _) rfl ?_
 refine RS.extract (v := .int _ _) rfl rfl ?_
 refine RS.extract (v := .int _ _) rfl rfl ?_
 refine RS.extract (v := .int _ _) rfl rfl ?_
 refine RS.asI rfl ?_
 refine RS.asI rfl ?_
 refine RS.asI rfl ?_
 refine nl hK5 ?_
 refine wp_seq_k (fun K7 hK7 => ?_)
 refine sq fun K8 hK8 => ?_
 refine RS.mvI rfl ?_
 refine RS.o (D.ne rfl rfl) ?_
 refine RS.mvB rfl ?_
 refine RS.splitn 24 rfl rfl (fun c9 => ?_) (fun c9 => ?_)
 ·refine RS.nm ?_
  refine RS.skT 24 ?_
  refine RS.skT 24 ?_
  refine RS.skT 24 ?_
  refine RS.skT 24 ?_
  refine RS.pick (v := .bool true) rfl rfl ?_
  refine RS.mvB rfl ?_
  refine RS.skT 30 ?_
  refine RS.skT 30 ?_
  refine RS.skT 30 ?_
  refine RS.skT 30 ?_
  refine RS.skT 30 ?_
  refine RS.skT 30 ?_
  refine RS.skT 30 ?_
  refine RS.skT 30 ?_
  refine RS.pick (v := .bool true) rfl rfl ?_
  refine nl hK8 ?_
  refine C.ift rfl ?_
  refine sq fun K10 hK10 => ?_
  refine RS.asS rfl ?_
  refine RS.asI rfl ?_
  refine RS.asI rfl ?_
  refine nl hK10 ?_
  refine wp_ret ?_
  refine ret (rs := [.tmp 4, .tmp 5, .tmp 6]) (vs := [.slice _ _ _, .int _ _, .int _ _]) (v := (.tuple #[.slice _ _ _, .int _ _, .int _ _])) rfl ⟨rfl, rfl, rfl, trivial⟩ rfl ?_
  obtain ⟨e1, e2, e3, e4⟩ := S.id_none (most := most) (b := bs) (by rw [S.readI_pt most bs hbd, if_neg (fun h => by have hh := S.ptE_zero.1 h.1; have h1 := hh.1; have h2 := hh.2.1; have h3 := hh.2.2; rw [hbl] at h3; omega)])
  rw [e1, e3, e4]
  refine ⟨_, rfl, hE, _, _, rfl, Nat.le_refl _, by rw [e2]; exact WRow.nil⟩
 refine RS.nm ?_
 refine RS.wt 24 ?_
 refine RS.mvI rfl ?_
 refine RS.wt 24 ?_
 refine RS.mvI rfl ?_
 refine RS.wt 24 ?_
 refine RS.o (D.conv rfl Tryz.underlying3 Tryz.underlying25 (W.u64 (by omega))) ?_
 refine RS.wt 24 ?_
 refine RS.o (D.gt rfl rfl) ?_
 refine RS.pick (v := .bool _) rfl rfl ?_
 refine RS.mvB rfl ?_
 refine RS.splitd 30 rfl rfl (fun c11 => ?_) (fun c11 => ?_)
 ·refine RS.nm ?_
  refine RS.skT 30 ?_
  refine RS.skT 30 ?_
  refine RS.skT 30 ?_
  refine RS.skT 30 ?_
  refine RS.skT 30 ?_
  refine RS.skT 30 ?_
  refine RS.skT 30 ?_
  refine RS.skT 30 ?_
  refine RS.pick (v := .bool true) rfl rfl ?_
  refine nl hK8 ?_
  refine C.ift rfl ?_
  refine sq fun K12 hK12 => ?_
  refine RS.asS rfl ?_
  refine RS.asI rfl ?_
  refine RS.asI rfl ?_
  refine nl hK12 ?_
  refine wp_ret ?_
  refine ret (rs := [.tmp 4, .tmp 5, .tmp 6]) (vs := [.slice _ _ _, .int _ _, .int _ _]) (v := (.tuple #[.slice _ _ _, .int _ _, .int _ _])) rfl ⟨rfl, rfl, rfl, trivial⟩ rfl ?_
  obtain ⟨e1, e2, e3, e4⟩ := S.id_none (most := most) (b := bs) (by rw [S.readI_pt most bs hbd, if_neg (fun h => by have hh := S.ptE_zero.1 h.1; have h1 := hh.1; have h2 := hh.2.1; have h3 := hh.2.2; rw [hbl] at h3; omega)])
  rw [e1, e3, e4]
  refine ⟨_, rfl, hE, _, _, rfl, Nat.le_refl _, by rw [e2]; exact WRow.nil⟩
 refine RS.nm ?_
 refine RS.wt 30 ?_
 refine RS.mvI rfl ?_
 refine RS.wt 30 ?_
 refine RS.mvS rfl ?_
 refine RS.wt 30 ?_
 refine RS.o (D.len rfl Tryz.underlying22) ?_
 refine RS.wt 30 ?_
 refine RS.mvI rfl ?_
 refine RS.wt 30 ?_
 refine RS.o (D.sub rfl rfl (W.i64 (by omega))) ?_
 refine RS.wt 30 ?_
 refine RS.o (D.conv rfl Tryz.underlying3 Tryz.underlying25 (W.u64 (by omega))) ?_
 refine RS.wt 30 ?_
 refine RS.o (D.quo rfl rfl (by omega) (by omega) (W.u64 (by omega))) ?_
 refine RS.wt 30 ?_
 refine RS.o (D.gt rfl rfl) ?_
 refine RS.pick (v := .bool _) rfl rfl ?_
 refine nl hK8 ?_
 refine C.ifd rfl (fun c13 => ?_) (fun c13 => ?_)
 ·refine wp_seq_k (fun K14 hK14 => ?_)
  refine region ?_
  refine RS.asS rfl ?_
  refine RS.asI rfl ?_
  refine RS.asI rfl ?_
  refine nl hK14 ?_
  refine wp_ret ?_
  refine ret (rs := [.tmp 4, .tmp 5, .tmp 6]) (vs := [.slice _ _ _, .int _ _, .int _ _]) (v := (.tuple #[.slice _ _ _, .int _ _, .int _ _])) rfl ⟨rfl, rfl, rfl, trivial⟩ rfl ?_
  obtain ⟨e1, e2, e3, e4⟩ := S.id_none (most := most) (b := bs) (by rw [S.readI_pt most bs hbd, if_neg (fun h => by have hh := S.ptE_zero.1 h.1; have h1 := hh.1; have h2 := hh.2.1; have h3 := hh.2.2; rw [hbl] at h3; omega)])
  rw [e1, e3, e4]
  refine ⟨_, rfl, hE, _, _, rfl, Nat.le_refl _, by rw [e2]; exact WRow.nil⟩
 refine wp_skip ?_
 refine hK7 _ _ ?_
 refine wp_seq_k (fun K15 hK15 => ?_)
 have hok : S.ptOk most 32 bs := ⟨by omega, by omega, by rw [hbl]; omega⟩
 have hps := S.ptS_len R0.bd hok (by decide)
 have hml := S.pt_mul R0.bd hok (by decide)
 have hvb := hok.2.1
 obtain ⟨m, hm2⟩ : ∃ m : Nat, m = (S.rdV bs).toNat := ⟨_, rfl⟩
 rw [← hm2] at hps hml
 refine region ?_
 refine RS.asS rfl ?_
 refine nl hK15 ?_
 refine wp_seq_k (fun K16 hK16 => ?_)
 refine sq fun K17 hK17 => ?_
 refine RS.asI rfl ?_
 refine nl hK17 ?_
 refine wp_block ?_
 refine C.loop (A := Int × Option Addr × Nat × Nat) (fun p => [(10, .slice p.2.1 p.2.2.1 p.2.2.2), (11, .int .i64 p.1)]) [12, 13, 40, 41, 42, 43, 44, 45, 46, 47, 48, 49, 50, 51, 52, 53, 54, 55, 56, 57, 58, 59, 60, 61, 62, 63, 64] (fun p w' => Pr (fun k => w.heap.size ≤ k) w6 w' ∧ ((0 ≤ p.1 ∧ p.1 ≤ m) ∧ p.2.2.1 = p.1.toNat ∧ WOwn w.heap.size w' 35 .u8 32 p.2.1 p.2.2.1 p.2.2.2 ((S.ptS most 32 bs).take (32 * p.1.toNat)))) (fun p => (m - p.1.toNat)) (0, none, 0, 0) (by kernel_rfl) ?_ ?_
 ·exact ⟨Pr.refl _ _, ⟨by dsimp only; omega, by dsimp only; omega⟩, rfl, WOwn.nil _ _ _ _ _⟩
 rintro p j w18 ⟨x18, hI⟩
 replace hE := hE.trans (x18.belo)
 replace R0 := R0.pro x18
 have zw18 := x18.size
 obtain ⟨i, ao, no, co⟩ := p
 dsimp only at hI
 obtain ⟨h1, hno, OW⟩ := hI
 have hOW := OW.los
 refine C.norm (by simp only [upd, junk, List.map_cons, List.map_nil, List.set_cons_succ, List.set_cons_zero]; exact rfl) ?_
 refine wp_seq_k (fun K19 hK19 => ?_)
 refine sq fun K20 hK20 => ?_
 refine RS.mvI rfl ?_
 refine RS.mvI rfl ?_
 refine RS.o (D.conv rfl Tryz.underlying25 Tryz.underlying3 (W.i64 (by omega))) ?_
 refine RS.o (D.lt rfl rfl) ?_
 refine nl hK20 ?_
 refine C.ifd rfl (fun c21 => ?_) (fun c21 => ?_)
 ·refine wp_skip ?_
  refine hK19 _ _ ?_
  refine wp_seq_k (fun K22 hK22 => ?_)
  refine wp_block ?_
  refine sq fun K23 hK23 => ?_
  refine RS.alloc T35 (fun b24 w24 e24 s24 x24 B24 => ?_)
  refine RS.nm ?_
  replace hE := Ext.tr hE x24
  replace x18 := x18.ext x24
  replace R0 := R0.ext x24
  replace OW := OW.ext x24
  have zw24 := x24.size
  have A24 : IArr .u8 w24 b24 32 (List.replicate 32 0) [] 35 := IArr.zero B24
  clear B24
  refine nl hK23 ?_
  refine wp_seq_k (fun K25 hK25 => ?_)
  refine sq fun K26 hK26 => ?_
  refine RS.asI rfl ?_
  refine nl hK26 ?_
  refine wp_block ?_
  refine C.loop (A := Int) (fun p => [(13, .int .i64 p)]) [46, 47, 48, 49, 50, 51, 52, 53, 54, 55, 56, 57, 58, 59, 60] (fun p w' => Pr (fun k => k = b24) w24 w' ∧ ((0 ≤ p ∧ p ≤ 32) ∧ IArr .u8 w' b24 32 ((elt 32 (S.ptS most 32 bs) i.toNat).take p.toNat ++ (List.replicate 32 0).drop p.toNat) [] 35)) (fun p => (32 - p.toNat)) 0 (by kernel_rfl) ?_ ?_
  ·exact ⟨Pr.refl _ _, ⟨by omega, by omega⟩, by simpa using A24⟩
  rintro p j w27 ⟨x27, hI⟩
  replace hE := hE.trans (x27.belo)
  replace x18 := x18.prno x27
  replace R0 := R0.pro x27
  replace OW := OW.pr x27 (by intros; try (first | (intro _ _) | (intro _) | skip); first | omega | (have hq := hOW _ (by assumption); first | omega | (dsimp only at *; omega)))
  have zw27 := x27.size
  obtain ⟨k, hkp⟩ : ∃ k, k = p := ⟨p, rfl⟩
  subst hkp
  obtain ⟨g1, A24⟩ := hI
  refine C.norm (by simp only [upd, junk, List.map_cons, List.map_nil, List.set_cons_succ, List.set_cons_zero]; exact rfl) ?_
  refine wp_seq_k (fun K28 hK28 => ?_)
  refine sq fun K29 hK29 => ?_
  refine RS.mvI rfl ?_
  refine RS.o (D.lt rfl rfl) ?_
  refine nl hK29 ?_
  refine C.ifd rfl (fun c30 => ?_) (fun c30 => ?_)
  ·refine wp_skip ?_
   refine hK28 _ _ ?_
   refine wp_seq_k (fun K31 hK31 => ?_)
   refine wp_block ?_
   have hdx : 32 * i.toNat + k.toNat < 32 * m := by omega
   refine region ?_
   refine RS.mvI rfl ?_
   refine RS.mvS rfl ?_
   refine RS.mvI rfl ?_
   refine RS.mvI rfl ?_
   refine RS.o (D.mul rfl rfl (W.i64 (by omega))) ?_
   refine RS.o (D.add rfl rfl (W.i64 (by omega))) ?_
   refine RS.mvI rfl ?_
   refine RS.o (D.add rfl rfl (W.i64 (by omega))) ?_
   refine RS.idx R0 rfl rfl Tryz.underlying22 C5 (by omega) (fun b32 o32 v32 h32 q32 r32 => ?_)
   refine RS.nm ?_
   simp only [lim] at r32
   have q5 := q32
   refine RS.o (D.load rfl Tryz.underlying5 rfl (h32)) ?_
   refine RS.idxA A24 rfl rfl Tryz.underlying35 C5 (by omega) (fun v33 h33 q33 r33 => ?_)
   refine RS.nm ?_
   simp only [lim] at r33
   refine RS.storeA A24 rfl rfl C5 (by omega) (by simp only [lim]; omega) (fun w34 y34 N34 => ?_)
   replace hE := hE.trans (y34.belo)
   replace x18 := x18.stno y34
   replace x27 := x27.stno y34
   replace R0 := R0.sto y34
   replace OW := OW.st y34 (by intros; try (first | (intro _ _) | (intro _) | skip); first | omega | (have hq := hOW _ (by assumption); first | omega | (dsimp only at *; omega)))
   have zw34 := y34.size
   replace A24 := N34
   refine nl hK31 ?_
   refine region ?_
   refine RS.mvI rfl ?_
   refine RS.o (D.add rfl rfl (W.i64 (by omega))) ?_
   refine RS.asI rfl ?_
   refine RS.nil ?_
   change Nx _ _ _ _ _ _ _ _
   refine C.next (k + 1) ⟨rfl, trivial⟩ (by kernel_rfl) ?_ ?_
   ·refine ⟨x27, ⟨by omega, by omega⟩, ?_⟩
    have hel := S.elt_arr32 (S.ptS most 32 bs) i.toNat m hps (S.ptS_bd most 32 bs hbd) (by omega)
    have hs := S.set_step (ys := elt 32 (S.ptS most 32 bs) i.toNat) (List.replicate 32 0) k.toNat rfl (by rw [hel.1]; omega) (by rw [hel.1]; simp)
    rw [S.elt_getR hok _ _ hdx hm2 (by omega), show S.rdU bs + (32 * i.toNat + k.toNat) = ((S.rdU bs : Int) + 32 * i + k).toNat by omega, ← q5] at hs
    rw [show (k + 1).toNat = k.toNat + 1 by omega, ← hs]
    exact A24
   omega
  refine wp_exit ?_
  refine hK25 _ _ ?_
  have hk32 : k.toNat = 32 := by omega
  have hel := S.elt_arr32 (S.ptS most 32 bs) i.toNat m hps (S.ptS_bd most 32 bs hbd) (by omega)
  rw [hk32, List.take_of_length_le (by rw [hel.1]; exact Nat.le_refl _), List.drop_of_length_le (by simp), List.append_nil] at A24
  refine region ?_
  refine RS.mvS rfl ?_
  refine RS.o (D.loadAgg rfl Tryz.underlying35 rfl C35 (by decide) (by rw [ints_length, A24.len]) A24.cells) ?_
  refine RS.buildW1 rfl hel Tryz.underlying24 T35 (by decide) rfl (fun b35 w35 e35 s35 x35 QW => ?_)
  refine RS.nm ?_
  replace hE := Ext.tr hE x35
  replace x18 := x18.ext x35
  replace R0 := R0.ext x35
  replace OW := OW.ext x35
  replace A24 := A24.ext x35
  have zw35 := x35.size
  refine RS.appendW OW QW rfl rfl Tryz.underlying24 T35 (by simp [ints]) (by decide) (by omega) (by decide) (by omega) (fun a36 c36 w36 N36 x36 => ?_)
  refine RS.nm ?_
  replace hE := hE.trans (x36.below (by intros; try (first | (intro _ _) | (intro _) | skip); first | omega | (have hq := hOW _ (by assumption); first | omega | (dsimp only at *; omega))) (by intros; try (first | (intro _ _) | (intro _) | skip); first | omega | (dsimp only at *; omega) | (simp_all; done) | (simp at *; omega)))
  replace x18 := x18.prn x36 (by intros; try (first | (intro _ _) | (intro _) | skip); first | omega | (have hq := hOW _ (by assumption); first | omega | (dsimp only at *; omega)))
  replace R0 := R0.pr x36 (by intros; try (first | (intro _ _) | (intro _) | skip); first | omega | (have hq := hOW _ (by assumption); first | omega | (dsimp only at *; omega)))
  replace A24 := A24.pr x36 (by intros; try (first | (intro _ _) | (intro _) | skip); first | omega | (have hq := hOW _ (by assumption); first | omega | (dsimp only at *; omega)))
  have zw36 := x36.size
  replace OW := N36
  refine RS.asS rfl ?_
  refine nl hK22 ?_
  refine region ?_
  refine RS.mvI rfl ?_
  refine RS.o (D.add rfl rfl (W.i64 (by omega))) ?_
  refine RS.asI rfl ?_
  refine RS.nil ?_
  change Nx _ _ _ _ _ _ _ _
  refine C.next (i + 1, _, _, _) ⟨rfl, rfl, trivial⟩ (by kernel_rfl) ?_ ?_
  ·refine ⟨x18, ⟨by dsimp only; omega, by dsimp only; omega⟩, by dsimp only; omega, ?_⟩
   dsimp only
   rw [show (i + 1).toNat = i.toNat + 1 by omega, elt_cat]
   exact OW
  dsimp only; omega
 refine wp_exit ?_
 refine hK16 _ _ ?_
 refine wp_seq_k (fun K37 hK37 => ?_)
 refine wp_seq_k (fun K38 hK38 => ?_)
 have ei : i.toNat = m := by omega
 subst hno
 rw [ei, List.take_of_length_le (by omega)] at OW
 rw [ei]
 refine region ?_
 refine RS.mvS rfl ?_
 refine RS.call E67 (risingR _ _ _ _ _ OW.row OW.own.pre (by omega)) rfl (fun v39 w39 x39 A39 => ?_)
 replace hE := Ext.tr hE x39
 replace R0 := R0.ext x39
 replace OW := OW.ext x39
 have zw39 := x39.size
 subst A39
 refine RS.nm ?_
 refine RS.o (D.not rfl) ?_
 refine nl hK38 ?_
 refine C.ifnot rfl (fun c40 => ?_) (fun c40 => ?_)
 ·have hr := of_decide_eq_false c40
  refine sq fun K41 hK41 => ?_
  refine RS.asS rfl ?_
  refine RS.asI rfl ?_
  refine RS.asI rfl ?_
  refine nl hK41 ?_
  refine wp_ret ?_
  refine ret (rs := [.tmp 4, .tmp 5, .tmp 6]) (vs := [.slice _ _ _, .int _ _, .int _ _]) (v := (.tuple #[.slice _ _ _, .int _ _, .int _ _])) rfl ⟨rfl, rfl, rfl, trivial⟩ rfl ?_
  obtain ⟨e1, e2, e3, e4⟩ := S.id_none (most := most) (b := bs) (by rw [S.readI_pt most bs hbd, hps, show 32 * m / 32 = m by omega, if_neg (fun h => hr h.2)])
  rw [e1, e3, e4]
  refine ⟨_, rfl, hE, _, _, rfl, Nat.le_refl _, by rw [e2]; exact WRow.nil⟩
 have hr := of_decide_eq_true c40
 refine wp_skip ?_
 refine hK37 _ _ ?_
 refine sq fun K42 hK42 => ?_
 refine RS.mvS rfl ?_
 refine RS.mvI rfl ?_
 refine RS.mvI rfl ?_
 refine RS.o (D.conv rfl Tryz.underlying25 Tryz.underlying3 (W.i64 (by omega))) ?_
 refine RS.o (D.mul rfl rfl (W.i64 (by omega))) ?_
 refine RS.o (D.add rfl rfl (W.i64 (by omega))) ?_
 refine RS.asS rfl ?_
 refine RS.asI rfl ?_
 refine RS.asI rfl ?_
 refine nl hK42 ?_
 refine wp_ret ?_
 refine ret (rs := [.tmp 4, .tmp 5, .tmp 6]) (vs := [.slice _ _ _, .int _ _, .int _ _]) (v := (.tuple #[.slice _ _ _, .int _ _, .int _ _])) rfl ⟨rfl, rfl, rfl, trivial⟩ rfl ?_
 obtain ⟨e1, e2, e3, e4⟩ := S.id_some (show S.readI most bs = some (m, S.ptS most 32 bs, S.ptU most 32 bs) by rw [S.readI_pt most bs hbd, hps, show 32 * m / 32 = m by omega, if_pos ⟨(S.pt_ok hok).1, hr⟩])
 rw [e1, e3, e4, (S.pt_ok hok).2.1, ← hm2, show (((S.rdU bs + 32 * m : Nat)) : Int) = (S.rdU bs : Int) + 32 * S.rdV bs by omega]
 exact ⟨_, rfl, hE, _, _, rfl, OW.own.pre, by rw [e2]; exact OW.row⟩
end Go.Proofs.YtiohpiiiapjblaaGreatDoor.W
