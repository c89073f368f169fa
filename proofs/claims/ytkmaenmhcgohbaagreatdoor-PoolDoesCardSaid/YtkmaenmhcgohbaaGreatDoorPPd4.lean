/-
  Part 4 of the lemmas of these laws: PoolDoes.
-/
import Derived.Test.YtkmaenmhcgohbaaGreatDoorPPd3
set_option linter.unusedSimpArgs false
namespace Go.Proofs.YtkmaenmhcgohbaaGreatDoor.W
open Go.RowKit Go.Proofs.YtkmaenmhcgohbaaGreatDoor.G
set_option linter.unusedVariables false
set_option maxRecDepth 20000
set_option maxHeartbeats 8000000
attribute [local irreducible] RS RX
theorem C37 : Tryz.prog.cellsOf 37 = 1 := by kernel_rfl
theorem T37 : TI Tryz.prog 37 1 4 [.int .u32 0] := by
 have h : (Tryz.prog.info? 37).map (fun i => (i.size, i.bytes, i.zero)) = some (1, 4, some (.int .u32 0)) := by kernel_rfl
 exact TI.of h rfl
theorem E239 : Enters Tryz.prog 239 := .mk Tryz.func239 (by kernel_rfl) rfl
theorem E263 : Enters Tryz.prog 263 := .mk Tryz.func263 (by kernel_rfl) rfl
theorem E275 : Enters Tryz.prog 275 := .mk Tryz.func275 (by kernel_rfl) rfl
theorem E278 : Enters Tryz.prog 278 := .mk Tryz.func278 (by kernel_rfl) rfl
theorem E279 : Enters Tryz.prog 279 := .mk Tryz.func279 (by kernel_rfl) rfl
theorem E291 : Enters Tryz.prog 291 := .mk Tryz.func291 (by kernel_rfl) rfl
theorem ref_power (a n m : Int) (ha : 0 ≤ a ∧ a < 4294967296) (hn : 0 ≤ n ∧ n < 18446744073709551616) (hm : 1 < m ∧ m < 4294967296) (w : World) :
  Calls Tryz.prog 263 #[.int .u64 a, .int .u64 n, .int .u64 m] w (Ret w fun v _ => v = .int .u64 (S.pw a n m)) := by
 have hE := Ext.refl w
 refine enterU 23 Tryz.func263 rfl rfl ?_
 refine sq fun _ J1 => ?_
 refine RS.asI rfl ?_
 refine nl J1 (sq fun _ J2 => ?_)
 refine RS.asI rfl ?_
 refine nl J2 ?_
 refine wx fun _ J3 => ?_
 refine wp_block ?_
 refine C.loop (A := Int × Int × Int) (fun p => [(0, .int .u64 p.1), (1, .int .u64 p.2.1), (7, .int .u64 p.2.2)]) [8, 9, 10, 11, 12, 13, 14, 15, 16, 17, 18, 19, 20, 21, 22, 23, 24] (fun p w' => Ext w w' ∧ ((0 ≤ p.1 ∧ p.1 < 4294967296) ∧ (0 ≤ p.2.1 ∧ p.2.1 < 18446744073709551616) ∧ (0 ≤ p.2.2 ∧ p.2.2 < m) ∧ p.2.2 * p.1 ^ p.2.1.toNat % m = a ^ n.toNat % m)) (fun p => p.2.1.toNat) (a, n, 1) (by kernel_rfl) ?_ ?_
 ·exact ⟨Ext.refl _, ha, hn, ⟨by dsimp only; omega, hm.1⟩, by dsimp only; rw [Int.one_mul]⟩
 rintro p j w4 ⟨x4, hI⟩
 replace hE := Ext.tr hE x4
 have zw4 := x4.size
 obtain ⟨a1, n1, r1⟩ := p
 dsimp only at hI
 obtain ⟨h1, h2, h3, h4⟩ := hI
 have g1 := S.mul32 (show 0 ≤ r1 ∧ r1 < 4294967296 by omega) h1
 have g2 := S.mul32 h1 h1
 have g5 := Int.emod_nonneg (r1 * a1) (show m ≠ 0 by omega)
 have g6 := Int.emod_lt_of_pos (r1 * a1) (show 0 < m by omega)
 have g7 := Int.emod_nonneg (a1 * a1) (show m ≠ 0 by omega)
 have g8 := Int.emod_lt_of_pos (a1 * a1) (show 0 < m by omega)
 refine C.nmU ?_
 refine wx fun _ J5 => ?_
 refine sq fun _ J6 => ?_
 refine RS.mvI rfl ?_
 refine RS.o (D.gt rfl rfl) ?_
 refine nl J6 ?_
 refine C.ifd rfl (fun c7 => ?_) (fun c7 => ?_)
 ·refine wp_skip ?_
  refine J5 _ _ ?_
  refine wp_block ?_
  refine wx fun _ J8 => ?_
  refine sq fun _ J9 => ?_
  refine RS.mvI rfl ?_
  refine RS.o (D.rem rfl rfl (by omega) (by omega)) ?_
  refine RS.o (D.eq rfl rfl) ?_
  refine nl J9 ?_
  refine C.ife rfl (fun c10 => ?_) (fun c10 => ?_)
  ·refine region ?_
   refine RS.mvI rfl ?_
   refine RS.mvI rfl ?_
   refine RS.o (D.mul rfl rfl (W.u64 (by omega))) ?_
   refine RS.mvI rfl ?_
   refine RS.o (D.rem rfl rfl (by omega) (by omega)) ?_
   refine RS.asI rfl ?_
   refine nl J8 (sq fun _ J11 => ?_)
   refine RS.mvI rfl ?_
   refine RS.mvI rfl ?_
   refine RS.o (D.mul rfl rfl (W.u64 (by omega))) ?_
   refine RS.mvI rfl ?_
   refine RS.o (D.rem rfl rfl (by omega) (by omega)) ?_
   refine RS.asI rfl ?_
   refine nl J11 ?_
   refine region ?_
   refine RS.mvI rfl ?_
   refine RS.o (D.quo rfl rfl (by omega) (by omega) (W.u64 (by omega))) ?_
   refine RS.asI rfl ?_
   refine RS.nil ?_
   change Nx _ _ _ _ _ _ _ _
   refine C.next (_, _, _) ⟨rfl, rfl, rfl, trivial⟩ (by kernel_rfl) ?_ ?_
   ·exact ⟨x4, ⟨g7, by dsimp only; omega⟩, ⟨by dsimp only; omega, by dsimp only; omega⟩, ⟨g5, g6⟩, by dsimp only; rw [← h4]; exact S.power_odd a1 r1 m n1 h2.1 ‹_›⟩
   dsimp only; omega
  refine wp_skip ?_
  refine J8 _ _ ?_
  refine sq fun _ J12 => ?_
  refine RS.mvI rfl ?_
  refine RS.mvI rfl ?_
  refine RS.o (D.mul rfl rfl (W.u64 (by omega))) ?_
  refine RS.mvI rfl ?_
  refine RS.o (D.rem rfl rfl (by omega) (by omega)) ?_
  refine RS.asI rfl ?_
  refine nl J12 ?_
  refine region ?_
  refine RS.mvI rfl ?_
  refine RS.o (D.quo rfl rfl (by omega) (by omega) (W.u64 (by omega))) ?_
  refine RS.asI rfl ?_
  refine RS.nil ?_
  change Nx _ _ _ _ _ _ _ _
  refine C.next (_, _, _) ⟨rfl, rfl, rfl, trivial⟩ (by kernel_rfl) ?_ ?_
  ·exact ⟨x4, ⟨g7, by dsimp only; omega⟩, ⟨by dsimp only; omega, by dsimp only; omega⟩, h3, by dsimp only; rw [← h4]; exact S.power_even a1 r1 m n1 h2.1 ‹_›⟩
  dsimp only; omega
 refine wp_exit ?_
 refine J3 _ _ ?_
 refine sq fun _ J13 => ?_
 refine RS.mvI rfl ?_
 refine RS.asI rfl ?_
 refine nl J13 ?_
 refine wp_ret ?_
 refine retI rfl rfl ?_
 refine ⟨_, rfl, hE, ?_⟩
 have h0 : n1 = 0 := by omega
 rw [h0] at h4
 unfold S.pw
 rw [← h4]
 congr 1
 rw [show (0 : Int).toNat = 0 from rfl, Int.pow_zero, Int.mul_one, Int.emod_eq_of_lt h3.1 h3.2]
theorem group_mul {S0 : Nat → Prop} (m : Int) (a : Option Addr) (n c : Nat) (xs : List Int) (hm : 1 < m ∧ m < 4294967296) (w : World) (R0 : IRow .u32 S0 w a n xs) (hn : n ≤ 1000) :
  Calls Tryz.prog 279 #[.int .u64 m, .slice a n c] w (Ret w fun v _ => v = .int .u32 (S.mulf m xs)) := by
 have hE := Ext.refl w
 refine enterU 21 Tryz.func279 rfl rfl ?_
 refine sq fun _ J1 => ?_
 refine RS.asI rfl ?_
 refine nl J1 (sq fun _ J2 => ?_)
 refine RS.asI rfl ?_
 refine nl J2 ?_
 refine wx fun _ J3 => ?_
 refine sq fun _ J4 => ?_
 refine RS.mvS rfl ?_
 refine RS.ln V338 ?_
 refine RS.mvI rfl ?_
 refine nl J4 ?_
 refine wp_block ?_
 refine C.loop (A := Int × Int) (fun p => [(5, .int .u64 p.2), (10, .int .i64 p.1)]) [7, 11, 12, 13, 14, 15, 16, 17, 18, 19, 20] (fun p w' => Ext w w' ∧ ((0 ≤ p.1 ∧ p.1 ≤ n) ∧ (0 ≤ p.2 ∧ p.2 < m) ∧ p.2 = S.mulf m (xs.take p.1.toNat))) (fun p => (n - p.1.toNat)) (0, 1) (by kernel_rfl) ?_ ?_
 ·exact ⟨Ext.refl _, ⟨by decide, by dsimp only; omega⟩, ⟨by decide, hm.1⟩, rfl⟩
 rintro p j w5 ⟨x5, hI⟩
 replace hE := Ext.tr hE x5
 replace R0 := R0.ext x5
 have zw5 := x5.size
 obtain ⟨i, r⟩ := p
 dsimp only at hI
 obtain ⟨h1, h2, h3⟩ := hI
 refine C.nmU ?_
 refine sq fun _ J6 => ?_
 refine RS.o (D.lt rfl rfl) ?_
 refine nl J6 ?_
 refine wx fun _ J7 => ?_
 refine C.ifd rfl (fun c8 => ?_) (fun c8 => ?_)
 ·refine wp_skip ?_
  refine J7 _ _ ?_
  refine wx fun _ J9 => ?_
  refine wp_block ?_
  refine sq fun _ J10 => ?_
  refine RS.idx R0 rfl rfl V338 C37 (by omega) (fun b11 o11 v11 h11 q11 r11 => ?_)
  refine RS.nm ?_
  simp only [lim] at r11
  refine RS.o (D.load rfl V37 rfl (h11)) ?_
  refine RS.asI rfl ?_
  refine nl J10 ?_
  have g1 := S.mul32 (show 0 ≤ r ∧ r < 4294967296 by omega) r11
  refine region ?_
  refine RS.mvI rfl ?_
  refine RS.mvI rfl ?_
  refine RS.o (D.conv rfl V37 V22 (W.u64 (by omega))) ?_
  refine RS.o (D.mul rfl rfl (W.u64 (by omega))) ?_
  refine RS.mvI rfl ?_
  refine RS.o (D.rem rfl rfl (by omega) (by omega)) ?_
  refine RS.asI rfl ?_
  refine nl J9 ?_
  refine region ?_
  refine RS.o (D.add rfl rfl (W.i64 (by omega))) ?_
  refine RS.mvI rfl ?_
  refine RS.nil ?_
  change Nx _ _ _ _ _ _ _ _
  refine C.next (_, _) ⟨rfl, rfl, trivial⟩ (by kernel_rfl) ?_ ?_
  ·refine ⟨x5, ⟨by dsimp only; omega, by dsimp only; omega⟩, ⟨Int.emod_nonneg _ (by omega), Int.emod_lt_of_pos _ (by omega)⟩, ?_⟩
   dsimp only
   rw [show (i + 1).toNat = i.toNat + 1 by omega, S.mulf_succ m xs _ (by rw [R0.len]; omega), ← h3, ← q11]
  dsimp only; omega
 refine wp_exit ?_
 refine J3 _ _ ?_
 refine sq fun _ J12 => ?_
 refine RS.mvI rfl ?_
 refine RS.o (D.conv rfl V22 V37 (W.u32 (by omega))) ?_
 refine RS.asI rfl ?_
 refine nl J12 ?_
 refine wp_ret ?_
 refine retI rfl rfl ?_
 refine ⟨_, rfl, hE, ?_⟩
 have h0 : i.toNat = xs.length := by rw [R0.len]; omega
 rw [h3, h0, List.take_length]
theorem group_sq (b : Nat) (o : Int) (T : TypeId) (ho : 0 ≤ o ∧ o < 1000000007) (w : World) (B0 : Blk w b [.int .u32 o] T) :
  Calls Tryz.prog 291 #[.pointer (some ⟨b, 0, none⟩)] w (fun e w' => e = .returned (.tuple #[]) ∧ Pr (fun k => k = b) w w' ∧ Blk w' b [.int .u32 (o * o % 1000000007)] T) := by
 have hb := B0.lt
 have gg := Int.emod_nonneg (o * o) (show (1000000007 : Int) ≠ 0 by decide)
 have gl := Int.emod_lt_of_pos (o * o) (show (0 : Int) < 1000000007 by decide)
 have hE := Pr.refl (fun k => k = b) w
 refine enterU 4 Tryz.func291 rfl rfl ?_
 refine region ?_
 refine RS.ld V37 B0 ?_
 refine RS.ld V37 B0 ?_
 refine RS.buildSlice (xs := [.tmp 1, .tmp 2]) (vs := [.int _ _, .int _ _]) (cs := [.int _ _, .int _ _]) V338 T37 (by decide) rfl rfl rfl rfl rfl rfl (by intro v hv; simp only [List.mem_cons, List.not_mem_nil, or_false] at hv; rcases hv with rfl | rfl <;> rfl) rfl (fun b1 w1 e1 s1 x1 B1 => ?_)
 refine RS.nm ?_
 replace hE := hE.ext x1
 replace B0 := B0.ext x1
 have zw1 := x1.size
 refine RS.call E279 (group_mul (S0 := fun b => b = b1) _ _ 2 _ [o, o] (by omega) _ (.of_blk B1 rfl rfl rfl (.cons (k := .u32) (by simp only [lim]; omega) (.cons (k := .u32) (by simp only [lim]; omega) (.nil _)))) (by omega)) rfl (fun v2 w2 x2 A2 => ?_)
 replace hE := hE.ext x2
 replace B0 := B0.ext x2
 replace B1 := B1.ext x2
 have zw2 := x2.size
 subst A2
 rw [S.mulf_two]
 refine RS.nm ?_
 refine RS.store rfl (v := .int _ _) rfl C37 rfl B0 rfl (fun w3 y3 N3 => ?_)
 replace hE := hE.stno y3
 replace B1 := B1.sto y3
 have zw3 := y3.size
 replace B0 := N3
 refine RS.nil ?_
 refine retN (rs := []) (vs := []) rfl trivial rfl ?_
 exact ⟨rfl, hE, B0⟩
theorem group_pow (a n : Int) (ha : 0 ≤ a ∧ a < 4294967296) (hn : 0 ≤ n ∧ n < 18446744073709551616) (w : World) :
  Calls Tryz.prog 275 #[.int .u32 a, .int .u64 n] w (Ret w fun v _ => v = .int .u32 (S.pw a n 1000000007)) := by
 have gl : ∀ x : Int, 0 ≤ x % 1000000007 ∧ x % 1000000007 < 1000000007 := fun x => ⟨Int.emod_nonneg _ (by decide), Int.emod_lt_of_pos _ (by decide)⟩
 have hE := Ext.refl w
 refine enterU 24 Tryz.func275 rfl rfl ?_
 refine sq fun _ J1 => ?_
 refine RS.asI rfl ?_
 refine nl J1 (sq fun _ J2 => ?_)
 refine RS.alloc T37 (fun b3 w3 e3 s3 x3 B3 => ?_)
 refine RS.nm ?_
 replace hE := Ext.tr hE x3
 have zw3 := x3.size
 refine RS.store rfl (v := .int _ _) rfl C37 rfl B3 rfl (fun w4 y4 N4 => ?_)
 replace hE := hE.trans (y4.belo)
 have zw4 := y4.size
 replace B3 := N4
 refine nl J2 (sq fun _ J5 => ?_)
 refine RS.o (D.func (fs := []) (cs := [.pointer _]) rfl rfl) ?_
 refine RS.assign (v := .func _ _ _) rfl ?_
 refine nl J5 ?_
 refine wx fun _ J6 => ?_
 refine sq fun _ J7 => ?_
 refine RS.mvI rfl ?_
 refine nl J7 ?_
 refine wp_block ?_
 refine C.loop (A := Int × Int) (fun p => [(9, .int .i64 p.1)]) [7, 10, 11, 12, 13, 14, 15, 16, 17, 18, 19, 20, 21, 22, 23, 24] (fun p w' => Pr (fun b => b = b3) w4 w' ∧ (Blk w' b3 [.int .u32 p.2] 37 ∧ (0 ≤ p.1 ∧ p.1 ≤ 64) ∧ (0 ≤ p.2 ∧ p.2 < 1000000007) ∧ p.2 = S.pw a (S.hi64 n p.1.toNat) 1000000007)) (fun p => (64 - p.1.toNat)) (0, 1) (by kernel_rfl) ?_ ?_
 ·exact ⟨Pr.refl _ _, B3, by decide, by decide, by rw [show (0 : Int).toNat = 0 from rfl, S.hi64_zero n hn]; show (1 : Int) = a ^ (0 : Nat) % 1000000007; rw [Int.pow_zero]; rfl⟩
 rintro p j w8 ⟨x8, hI⟩
 replace hE := hE.trans (x8.belo)
 have zw8 := x8.size
 obtain ⟨i, r⟩ := p
 dsimp only at hI
 obtain ⟨B3, h1, h2, h3⟩ := hI
 have s3b := B3.lt
 refine C.nmU ?_
 refine sq fun _ J9 => ?_
 refine RS.o (D.lt rfl rfl) ?_
 refine nl J9 ?_
 refine wx fun _ J10 => ?_
 refine C.ifd rfl (fun c11 => ?_) (fun c11 => ?_)
 ·refine wp_skip ?_
  refine J10 _ _ ?_
  refine wx fun _ J12 => ?_
  refine wp_block ?_
  refine wx fun _ J13 => ?_
  have gs := S.shr_bd (63 - i).toNat hn
  refine region ?_
  refine RS.mvI rfl ?_
  refine RS.asI rfl ?_
  refine nl J13 (sq fun _ J14 => ?_)
  refine RS.move (v := .func _ _ _) rfl ?_
  refine RS.callv E291 (group_sq _ r _ h2 _ B3) rfl rfl (fun e15 w15 A15 => ?_)
  obtain ⟨rfl, X15, N15⟩ := A15
  refine ⟨_, rfl, ?_⟩
  refine RS.nm ?_
  replace hE := hE.trans (X15.belo)
  replace x8 := x8.prno X15
  have zw15 := X15.size
  replace B3 := N15
  refine nl J14 (sq fun _ J16 => ?_)
  refine RS.mvI rfl ?_
  refine RS.mvI rfl ?_
  refine RS.o (D.sub rfl rfl (W.i64 (by omega))) ?_
  refine RS.ob (D.shr_u64 rfl rfl (by omega) (by constructor <;> omega)) (fun z17 => ?_)
  refine RS.ob (D.band_u64 rfl rfl (by omega) (by omega)) (fun z18 => ?_)
  refine RS.o (D.eq rfl rfl) ?_
  refine nl J16 ?_
  refine C.ife rfl (fun c19 => ?_) (fun c19 => ?_)
  ·refine region ?_
   refine RS.ld V37 B3 ?_
   refine RS.mvI rfl ?_
   refine RS.buildSlice (xs := [.tmp 20, .tmp 21]) (vs := [.int _ _, .int _ _]) (cs := [.int _ _, .int _ _]) V338 T37 (by decide) rfl rfl rfl rfl rfl rfl (by intro v hv; simp only [List.mem_cons, List.not_mem_nil, or_false] at hv; rcases hv with rfl | rfl <;> rfl) rfl (fun b20 w20 e20 s20 x20 B20 => ?_)
   refine RS.nm ?_
   replace hE := Ext.tr hE x20
   replace x8 := x8.ext x20
   replace B3 := B3.ext x20
   have zw20 := x20.size
   refine RS.call E279 (group_mul (S0 := fun b => b = b20) _ _ 2 _ [r * r % 1000000007, a] (by omega) _ (.of_blk B20 rfl rfl rfl (.cons (k := .u32) (by simp only [lim]; omega) (.cons (k := .u32) (by simp only [lim]; omega) (.nil _)))) (by omega)) rfl (fun v21 w21 x21 A21 => ?_)
   replace hE := Ext.tr hE x21
   replace x8 := x8.ext x21
   replace B3 := B3.ext x21
   replace B20 := B20.ext x21
   have zw21 := x21.size
   subst A21
   rw [S.mulf_two]
   refine RS.nm ?_
   refine RS.store rfl (v := .int _ _) rfl C37 rfl B3 rfl (fun w22 y22 N22 => ?_)
   replace hE := hE.trans (y22.belo)
   replace x8 := x8.stno y22
   replace B20 := B20.sto y22
   have zw22 := y22.size
   replace B3 := N22
   refine nl J12 ?_
   refine region ?_
   refine RS.o (D.add rfl rfl (W.i64 (by omega))) ?_
   refine RS.mvI rfl ?_
   refine RS.nil ?_
   change Nx _ _ _ _ _ _ _ _
   refine C.next (_, r * r % 1000000007 * a % 1000000007) ⟨rfl, trivial⟩ (by kernel_rfl) ?_ ?_
   ·refine ⟨x8, B3, ⟨by dsimp only; omega, by dsimp only; omega⟩, gl _, ?_⟩
    dsimp only
    rw [show (i + 1).toNat = i.toNat + 1 by omega, ← S.pw_step_one a n 1000000007 i.toNat hn.1 (by omega) (S.bit_one n i hn.1 (by omega) (by assumption)), ← h3]
   dsimp only; omega
  refine wp_skip ?_
  refine J12 _ _ ?_
  refine region ?_
  refine RS.o (D.add rfl rfl (W.i64 (by omega))) ?_
  refine RS.mvI rfl ?_
  refine RS.nil ?_
  change Nx _ _ _ _ _ _ _ _
  refine C.next (_, r * r % 1000000007) ⟨rfl, trivial⟩ (by kernel_rfl) ?_ ?_
  ·refine ⟨x8, B3, ⟨by dsimp only; omega, by dsimp only; omega⟩, gl _, ?_⟩
   dsimp only
   rw [show (i + 1).toNat = i.toNat + 1 by omega, ← S.pw_step_zero a n 1000000007 i.toNat hn.1 (by omega) (S.bit_zero n i hn.1 (by omega) (by assumption)), ← h3]
  dsimp only; omega
 refine wp_exit ?_
 refine J6 _ _ ?_
 refine sq fun _ J23 => ?_
 refine RS.ld V37 B3 ?_
 refine RS.asI rfl ?_
 refine nl J23 ?_
 refine wp_ret ?_
 refine retI rfl rfl ?_
 refine ⟨_, rfl, hE, ?_⟩
 have h0 : i.toNat = 64 := by omega
 rw [h3, h0, S.hi64_all]
theorem group_Is (a : Int) (ha : 0 ≤ a ∧ a < 4294967296) (w : World) :
  Calls Tryz.prog 239 #[.int .u32 a] w (Ret w fun v _ => v = .bool (S.isG a)) := by
 have hE := Ext.refl w
 refine enterU 13 Tryz.func239 rfl rfl ?_
 refine sq fun _ J1 => ?_
 refine RS.asB rfl ?_
 refine nl J1 (sq fun _ J2 => ?_)
 refine RS.mvI rfl ?_
 refine RS.o (D.gt rfl rfl) ?_
 refine RS.mvB rfl ?_
 refine RS.splitd 5 rfl rfl (fun c3 => ?_) (fun c3 => ?_)
 ·refine RS.nm ?_
  refine RS.wt 5 ?_
  refine RS.mvI rfl ?_
  refine RS.wt 5 ?_
  refine RS.o (D.lt rfl rfl) ?_
  refine RS.pk ?_
  refine RS.mvB rfl ?_
  refine RS.splitd 9 rfl rfl (fun c4 => ?_) (fun c4 => ?_)
  ·refine RS.nm ?_
   refine RS.wt 9 ?_
   refine RS.mvI rfl ?_
   refine RS.wt 9 ?_
   refine RS.call E275 (group_pow _ _ (by omega) (by omega) _) rfl (fun v5 w5 x5 A5 => ?_)
   replace hE := Ext.tr hE x5
   have zw5 := x5.size
   subst A5
   refine RS.nm ?_
   refine RS.wt 9 ?_
   refine RS.o (D.eq rfl rfl) ?_
   refine RS.pk ?_
   refine RS.asB rfl ?_
   refine nl J2 ?_
   refine wp_ret ?_
   refine retB rfl rfl ?_
   refine ⟨_, rfl, hE, congrArg Value.bool ?_⟩
   first | exact (S.isG_true (by omega) (by omega)).symm | exact (S.isG_lo (by omega)).symm | exact (S.isG_hi (by omega)).symm
  refine RS.nm ?_
  refine RS.skF 9 ?_
  refine RS.skF 9 ?_
  refine RS.skF 9 ?_
  refine RS.pkf ?_
  refine RS.asB rfl ?_
  refine nl J2 ?_
  refine wp_ret ?_
  refine retB rfl rfl ?_
  refine ⟨_, rfl, hE, congrArg Value.bool ?_⟩
  first | exact (S.isG_true (by omega) (by omega)).symm | exact (S.isG_lo (by omega)).symm | exact (S.isG_hi (by omega)).symm
 refine RS.nm ?_
 refine RS.skF 5 ?_
 refine RS.skF 5 ?_
 refine RS.pkf ?_
 refine RS.mvB rfl ?_
 refine RS.skF 9 ?_
 refine RS.skF 9 ?_
 refine RS.skF 9 ?_
 refine RS.pkf ?_
 refine RS.asB rfl ?_
 refine nl J2 ?_
 refine wp_ret ?_
 refine retB rfl rfl ?_
 refine ⟨_, rfl, hE, congrArg Value.bool ?_⟩
 first | exact (S.isG_true (by omega) (by omega)).symm | exact (S.isG_lo (by omega)).symm | exact (S.isG_hi (by omega)).symm
theorem ref_Is (a : Int) (ha : 0 ≤ a ∧ a < 4294967296) (w : World) :
  Calls Tryz.prog 220 #[.int .u32 a] w (Ret w fun v _ => v = .bool (S.isG a)) := by
 have hE := Ext.refl w
 refine enterU 14 Tryz.func220 rfl rfl ?_
 refine sq fun _ J1 => ?_
 refine RS.asB rfl ?_
 refine nl J1 (sq fun _ J2 => ?_)
 refine RS.mvI rfl ?_
 refine RS.o (D.ge rfl rfl) ?_
 refine RS.mvB rfl ?_
 refine RS.splitd 5 rfl rfl (fun c3 => ?_) (fun c3 => ?_)
 ·refine RS.nm ?_
  refine RS.wt 5 ?_
  refine RS.mvI rfl ?_
  refine RS.wt 5 ?_
  refine RS.o (D.lt rfl rfl) ?_
  refine RS.pk ?_
  refine RS.mvB rfl ?_
  refine RS.splitd 9 rfl rfl (fun c4 => ?_) (fun c4 => ?_)
  ·refine RS.nm ?_
   refine RS.wt 9 ?_
   refine RS.mvI rfl ?_
   refine RS.wt 9 ?_
   refine RS.o (D.conv rfl V37 V22 (by first | exact W.u64 (by omega) | exact W.u64m _)) ?_
   refine RS.wt 9 ?_
   refine RS.call E263 (ref_power _ _ _ (by omega) (by omega) (by omega) _) rfl (fun v5 w5 x5 A5 => ?_)
   replace hE := Ext.tr hE x5
   have zw5 := x5.size
   subst A5
   refine RS.nm ?_
   refine RS.wt 9 ?_
   refine RS.o (D.eq rfl rfl) ?_
   refine RS.pk ?_
   refine RS.asB rfl ?_
   refine nl J2 ?_
   refine wp_ret ?_
   refine retB rfl rfl ?_
   refine ⟨_, rfl, hE, congrArg Value.bool ?_⟩
   first | exact (S.isG_true (by omega) (by omega)).symm | exact (S.isG_lo (by omega)).symm | exact (S.isG_hi (by omega)).symm
  refine RS.nm ?_
  refine RS.skF 9 ?_
  refine RS.skF 9 ?_
  refine RS.skF 9 ?_
  refine RS.skF 9 ?_
  refine RS.pkf ?_
  refine RS.asB rfl ?_
  refine nl J2 ?_
  refine wp_ret ?_
  refine retB rfl rfl ?_
  refine ⟨_, rfl, hE, congrArg Value.bool ?_⟩
  first | exact (S.isG_true (by omega) (by omega)).symm | exact (S.isG_lo (by omega)).symm | exact (S.isG_hi (by omega)).symm
 refine RS.nm ?_
 refine RS.skF 5 ?_
 refine RS.skF 5 ?_
 refine RS.pkf ?_
 refine RS.mvB rfl ?_
 refine RS.skF 9 ?_
 refine RS.skF 9 ?_
 refine RS.skF 9 ?_
 refine RS.skF 9 ?_
 refine RS.pkf ?_
 refine RS.asB rfl ?_
 refine nl J2 ?_
 refine wp_ret ?_
 refine retB rfl rfl ?_
 refine ⟨_, rfl, hE, congrArg Value.bool ?_⟩
 first | exact (S.isG_true (by omega) (by omega)).symm | exact (S.isG_lo (by omega)).symm | exact (S.isG_hi (by omega)).symm
theorem ref_Exponent (a : Int) (ha : 0 ≤ a ∧ a < 4294967296) (w : World) :
  Calls Tryz.prog 222 #[.int .u32 a] w (Ret w fun v _ => v = .bool (decide (a < 500000003))) := by
 have hE := Ext.refl w
 refine enterU 5 Tryz.func222 rfl rfl ?_
 refine sq fun _ J1 => ?_
 refine RS.asB rfl ?_
 refine nl J1 (sq fun _ J2 => ?_)
 refine RS.mvI rfl ?_
 refine RS.o (D.conv rfl V37 V22 (W.u64 (by omega))) ?_
 refine RS.o (D.lt rfl rfl) ?_
 refine RS.asB rfl ?_
 refine nl J2 ?_
 refine wp_ret ?_
 refine retB rfl rfl ?_
 exact ⟨_, rfl, hE, rfl⟩
theorem group_all {S0 : Nat → Prop} (a : Option Addr) (n c : Nat) (xs : List Int) (w : World) (R0 : IRow .u32 S0 w a n xs) (hn : n ≤ 1000) :
  Calls Tryz.prog 278 #[.slice a n c] w (Ret w fun v _ => v = .bool (S.allG xs)) := by
 have hE := Ext.refl w
 refine enterU 14 Tryz.func278 rfl rfl ?_
 refine sq fun _ J1 => ?_
 refine RS.asB rfl ?_
 refine nl J1 ?_
 refine wx fun _ J2 => ?_
 refine sq fun _ J3 => ?_
 refine RS.mvS rfl ?_
 refine RS.ln V338 ?_
 refine RS.mvI rfl ?_
 refine nl J3 ?_
 refine wp_block ?_
 refine C.loop (A := Int) (fun p => [(7, .int .i64 p)]) [2, 4, 8, 9, 10, 11, 12, 13, 14] (fun p w' => Ext w w' ∧ ((0 ≤ p ∧ p ≤ n) ∧ S.allG (xs.take p.toNat) = true)) (fun p => (n - p.toNat)) 0 (by kernel_rfl) ?_ ?_
 ·exact ⟨Ext.refl _, ⟨by decide, by omega⟩, rfl⟩
 rintro p j w4 ⟨x4, hI⟩
 replace hE := Ext.tr hE x4
 replace R0 := R0.ext x4
 have zw4 := x4.size
 obtain ⟨h1, h2⟩ := hI
 have hl := R0.len
 refine C.nmU ?_
 refine sq fun _ J5 => ?_
 refine RS.o (D.lt rfl rfl) ?_
 refine nl J5 ?_
 refine wx fun _ J6 => ?_
 refine C.ifd rfl (fun c7 => ?_) (fun c7 => ?_)
 ·refine wp_skip ?_
  refine J6 _ _ ?_
  refine wx fun _ J8 => ?_
  refine wp_block ?_
  refine sq fun _ J9 => ?_
  refine RS.idx R0 rfl rfl V338 C37 (by omega) (fun b10 o10 v10 h10 q10 r10 => ?_)
  refine RS.nm ?_
  simp only [lim] at r10
  refine RS.o (D.load rfl V37 rfl (h10)) ?_
  refine RS.asI rfl ?_
  refine nl J9 (sq fun _ J11 => ?_)
  refine RS.mvI rfl ?_
  refine RS.call E239 (group_Is _ (by omega) _) rfl (fun v12 w12 x12 A12 => ?_)
  replace hE := Ext.tr hE x12
  replace x4 := Ext.tr x4 x12
  replace R0 := R0.ext x12
  have zw12 := x12.size
  subst A12
  refine RS.nm ?_
  refine RS.o (D.not rfl) ?_
  refine nl J11 ?_
  refine C.ifnot rfl (fun c13 => ?_) (fun c13 => ?_)
  ·refine wx fun _ J14 => ?_
   refine region ?_
   refine RS.asB rfl ?_
   refine nl J14 ?_
   refine wp_ret ?_
   refine retB rfl rfl ?_
   refine ⟨_, rfl, hE, congrArg Value.bool ?_⟩
   exact (S.allG_false xs p.toNat (by omega) (by rw [← q10]; assumption)).symm
  refine wp_skip ?_
  refine J8 _ _ ?_
  refine region ?_
  refine RS.o (D.add rfl rfl (W.i64 (by omega))) ?_
  refine RS.mvI rfl ?_
  refine RS.nil ?_
  change Nx _ _ _ _ _ _ _ _
  refine C.next _ ⟨rfl, trivial⟩ (by kernel_rfl) ?_ ?_
  ·refine ⟨x4, ⟨by omega, by omega⟩, ?_⟩
   rw [show (p + 1).toNat = p.toNat + 1 by omega, S.allG_take xs _ (by omega) h2, ← q10]
   assumption
  omega
 refine wp_exit ?_
 refine J2 _ _ ?_
 refine sq fun _ J15 => ?_
 refine RS.asB rfl ?_
 refine nl J15 ?_
 refine wp_ret ?_
 refine retB rfl rfl ?_
 refine ⟨_, rfl, hE, congrArg Value.bool ?_⟩
 rw [show p.toNat = xs.length by omega, List.take_length] at h2
 exact h2.symm
theorem group_Base (n : Int) (hn : 0 ≤ n ∧ n < 18446744073709551616) (w : World) :
  Calls Tryz.prog 245 #[.int .u64 n] w (Ret w fun v _ => v = .int .u32 (S.pw 4 n 1000000007)) := by
 have hE := Ext.refl w
 refine enterU 4 Tryz.func245 rfl rfl ?_
 refine sq fun _ J1 => ?_
 refine RS.asI rfl ?_
 refine nl J1 (sq fun _ J2 => ?_)
 refine RS.mvI rfl ?_
 refine RS.call E275 (group_pow _ _ (by omega) (by omega) _) rfl (fun v3 w3 x3 A3 => ?_)
 replace hE := Ext.tr hE x3
 have zw3 := x3.size
 subst A3
 refine RS.nm ?_
 refine RS.asI rfl ?_
 refine nl J2 ?_
 refine wp_ret ?_
 refine retI rfl rfl ?_
 exact ⟨_, rfl, hE, rfl⟩
theorem group_Pow (a : Int) (ha : 0 ≤ a ∧ a < 4294967296) (n : Int) (hn : 0 ≤ n ∧ n < 18446744073709551616) (w : World) :
  Calls Tryz.prog 243 #[.int .u32 a, .int .u64 n] w (Ret w fun v _ => v = .tuple #[.int .u32 (if S.isG a then S.pw a n 1000000007 else 0), .int .i64 (if S.isG a then 0 else 2)]) := by
 have hE := Ext.refl w
 refine enterU 11 Tryz.func243 rfl rfl ?_
 refine sq fun _ J1 => ?_
 refine RS.asI rfl ?_
 refine RS.asI rfl ?_
 refine nl J1 ?_
 refine wx fun _ J2 => ?_
 refine sq fun _ J3 => ?_
 refine RS.mvI rfl ?_
 refine RS.buildSlice (xs := [.tmp 6]) (vs := [.int _ _]) (cs := [.int _ _]) V338 T37 (by decide) rfl rfl rfl rfl rfl rfl (by intro v hv; simp only [List.mem_cons, List.not_mem_nil, or_false] at hv; subst hv; rfl) rfl (fun b4 w4 e4 s4 x4 B4 => ?_)
 refine RS.nm ?_
 replace hE := Ext.tr hE x4
 have zw4 := x4.size
 refine RS.call E278 (group_all (S0 := fun b => b = b4) _ 1 _ [a] _ (.of_blk B4 rfl rfl rfl (.cons (k := .u32) (by simp only [lim]; omega) (.nil _))) (by omega)) rfl (fun v5 w5 x5 A5 => ?_)
 replace hE := Ext.tr hE x5
 replace B4 := B4.ext x5
 have zw5 := x5.size
 subst A5
 rw [S.allG_one]
 refine RS.nm ?_
 refine RS.o (D.not rfl) ?_
 refine nl J3 ?_
 refine C.ifnot rfl (fun c6 => ?_) (fun c6 => ?_)
 ·refine wx fun _ J7 => ?_
  refine region ?_
  refine RS.asI rfl ?_
  refine RS.asI rfl ?_
  refine nl J7 ?_
  refine wp_ret ?_
  refine retII ?_
  refine ⟨_, rfl, hE, ?_⟩
  simp [*]
 refine wp_skip ?_
 refine J2 _ _ ?_
 refine sq fun _ J8 => ?_
 refine RS.mvI rfl ?_
 refine RS.mvI rfl ?_
 refine RS.call E275 (group_pow _ _ (by omega) (by omega) _) rfl (fun v9 w9 x9 A9 => ?_)
 replace hE := Ext.tr hE x9
 replace B4 := B4.ext x9
 have zw9 := x9.size
 subst A9
 refine RS.nm ?_
 refine RS.asI rfl ?_
 refine RS.asI rfl ?_
 refine nl J8 ?_
 refine wp_ret ?_
 refine retII ?_
 refine ⟨_, rfl, hE, ?_⟩
 simp [*]
theorem group_Mul (a : Int) (ha : 0 ≤ a ∧ a < 4294967296) (b : Int) (hb : 0 ≤ b ∧ b < 4294967296) (w : World) :
  Calls Tryz.prog 244 #[.int .u32 a, .int .u32 b] w (Ret w fun v _ => v = .tuple #[.int .u32 (if S.isG a && S.isG b then a * b % 1000000007 else 0), .int .i64 (if S.isG a && S.isG b then 0 else 2)]) := by
 have hE := Ext.refl w
 refine enterU 13 Tryz.func244 rfl rfl ?_
 refine sq fun _ J1 => ?_
 refine RS.asI rfl ?_
 refine RS.asI rfl ?_
 refine nl J1 ?_
 refine wx fun _ J2 => ?_
 refine sq fun _ J3 => ?_
 refine RS.mvI rfl ?_
 refine RS.mvI rfl ?_
 refine RS.buildSlice (xs := [.tmp 6, .tmp 7]) (vs := [.int _ _, .int _ _]) (cs := [.int _ _, .int _ _]) V338 T37 (by decide) rfl rfl rfl rfl rfl rfl (by intro v hv; simp only [List.mem_cons, List.not_mem_nil, or_false] at hv; rcases hv with rfl | rfl <;> rfl) rfl (fun b4 w4 e4 s4 x4 B4 => ?_)
 refine RS.nm ?_
 replace hE := Ext.tr hE x4
 have zw4 := x4.size
 refine RS.call E278 (group_all (S0 := fun b => b = b4) _ 2 _ [a, b] _ (.of_blk B4 rfl rfl rfl (.cons (k := .u32) (by simp only [lim]; omega) (.cons (k := .u32) (by simp only [lim]; omega) (.nil _)))) (by omega)) rfl (fun v5 w5 x5 A5 => ?_)
 replace hE := Ext.tr hE x5
 replace B4 := B4.ext x5
 have zw5 := x5.size
 subst A5
 rw [S.allG_two]
 refine RS.nm ?_
 refine RS.o (D.not rfl) ?_
 refine nl J3 ?_
 refine C.ifnot rfl (fun c6 => ?_) (fun c6 => ?_)
 ·refine wx fun _ J7 => ?_
  refine region ?_
  refine RS.asI rfl ?_
  refine RS.asI rfl ?_
  refine nl J7 ?_
  refine wp_ret ?_
  refine retII ?_
  refine ⟨_, rfl, hE, ?_⟩
  simp [*]
 refine wp_skip ?_
 refine J2 _ _ ?_
 refine sq fun _ J8 => ?_
 refine RS.mvI rfl ?_
 refine RS.mvI rfl ?_
 refine RS.buildSlice (xs := [.tmp 11, .tmp 12]) (vs := [.int _ _, .int _ _]) (cs := [.int _ _, .int _ _]) V338 T37 (by decide) rfl rfl rfl rfl rfl rfl (by intro v hv; simp only [List.mem_cons, List.not_mem_nil, or_false] at hv; rcases hv with rfl | rfl <;> rfl) rfl (fun b9 w9 e9 s9 x9 B9 => ?_)
 refine RS.nm ?_
 replace hE := Ext.tr hE x9
 replace B4 := B4.ext x9
 have zw9 := x9.size
 refine RS.call E279 (group_mul (S0 := fun b => b = b9) _ _ 2 _ [a, b] (by omega) _ (.of_blk B9 rfl rfl rfl (.cons (k := .u32) (by simp only [lim]; omega) (.cons (k := .u32) (by simp only [lim]; omega) (.nil _)))) (by omega)) rfl (fun v10 w10 x10 A10 => ?_)
 replace hE := Ext.tr hE x10
 replace B4 := B4.ext x10
 replace B9 := B9.ext x10
 have zw10 := x10.size
 subst A10
 rw [S.mulf_two]
 refine RS.nm ?_
 refine RS.asI rfl ?_
 refine RS.asI rfl ?_
 refine nl J8 ?_
 refine wp_ret ?_
 refine retII ?_
 refine ⟨_, rfl, hE, ?_⟩
 simp [*]
theorem C5 : Tryz.prog.cellsOf 5 = 1 := by kernel_rfl
theorem C356 : Tryz.prog.cellsOf 356 = 64 := by kernel_rfl
theorem T356 : TI Tryz.prog 356 64 256 (ints .u32 (List.replicate 64 0)) := by
 have h : (Tryz.prog.info? 356).map (fun i => (i.size, i.bytes, i.zero)) = some (64, 256, some (.agg #[.int .u32 0, .int .u32 0, .int .u32 0, .int .u32 0, .int .u32 0, .int .u32 0, .int .u32 0, .int .u32 0, .int .u32 0, .int .u32 0, .int .u32 0, .int .u32 0, .int .u32 0, .int .u32 0, .int .u32 0, .int .u32 0, .int .u32 0, .int .u32 0, .int .u32 0, .int .u32 0, .int .u32 0, .int .u32 0, .int .u32 0, .int .u32 0, .int .u32 0, .int .u32 0, .int .u32 0, .int .u32 0, .int .u32 0, .int .u32 0, .int .u32 0, .int .u32 0, .int .u32 0, .int .u32 0, .int .u32 0, .int .u32 0, .int .u32 0, .int .u32 0, .int .u32 0, .int .u32 0, .int .u32 0, .int .u32 0, .int .u32 0, .int .u32 0, .int .u32 0, .int .u32 0, .int .u32 0, .int .u32 0, .int .u32 0, .int .u32 0, .int .u32 0, .int .u32 0, .int .u32 0, .int .u32 0, .int .u32 0, .int .u32 0, .int .u32 0, .int .u32 0, .int .u32 0, .int .u32 0, .int .u32 0, .int .u32 0, .int .u32 0, .int .u32 0])) := by kernel_rfl
 exact TI.of h rfl
theorem E296 : Enters Tryz.prog 296 := .mk Tryz.func296 (by kernel_rfl) rfl
theorem rotl (x : Int) (hx : 0 ≤ x ∧ x < 4294967296) (n : Int) (hn : 0 < n ∧ n < 32) (m : Int) (hm : m = -n) (w : World) :
  Calls Tryz.prog 296 #[.int .u32 x, .int .i64 m] w (Ret w fun v _ => v = .int .u32 (S.rotr x n)) := by
 have hE := Ext.refl w
 refine enterU 15 Tryz.func296 rfl rfl ?_
 refine sq fun _ J1 => ?_
 refine RS.asI rfl ?_
 refine nl J1 (sq fun _ J2 => ?_)
 refine RS.mvI rfl ?_
 refine RS.o (D.conv rfl V3 V275 (by first | exact W.u64 (by omega) | exact W.u64m _)) ?_
 refine RS.ob (D.band_u64 rfl rfl (by omega) (by omega)) (fun z3 => ?_)
 refine RS.asI rfl ?_
 refine nl J2 ?_
 refine wx fun _ J4 => ?_
 rw [hm, S.rot_amt n hn]
 have g1 := S.rotr_bd x n hx
 refine region ?_
 refine RS.mvI rfl ?_
 refine RS.mvI rfl ?_
 refine RS.o (D.shl rfl rfl (by constructor <;> (try simp only [IntKind.bits]) <;> omega) (W.u32m _)) ?_
 refine RS.mvI rfl ?_
 refine RS.mvI rfl ?_
 refine RS.o (D.sub rfl rfl (by first | exact W.u64 (by omega) | exact W.u64m _)) ?_
 refine RS.ob (D.shr_u32 rfl rfl (by omega) (by constructor <;> omega)) (fun z5 => ?_)
 refine RS.ob (D.bor_u32 rfl rfl (by omega) (by omega)) (fun z6 => ?_)
 refine RS.asI rfl ?_
 refine nl J4 ?_
 refine wp_ret ?_
 refine retI rfl rfl ?_
 refine ⟨_, rfl, hE, congrArg (Value.int .u32) (S.rotr_eq x n hn)⟩
theorem mix (x : Int) (hx : 0 ≤ x ∧ x < 4294967296) (i : Int) (hi : 0 < i ∧ i < 32) (j : Int) (hj : 0 < j ∧ j < 32) (k : Int) (hk : 0 < k ∧ k < 32) (w : World) :
  Calls Tryz.prog 294 #[.int .u32 x, .int .i64 i, .int .i64 j, .int .i64 k] w (Ret w fun v _ => v = .int .u32 (S.mix x i j k)) := by
 have g1 := S.rotr_bd x i hx
 have g2 := S.rotr_bd x j hx
 have g3 := S.rotr_bd x k hx
 have hE := Ext.refl w
 refine enterU 19 Tryz.func294 rfl rfl ?_
 refine sq fun _ J1 => ?_
 refine RS.asI rfl ?_
 refine nl J1 (sq fun _ J2 => ?_)
 refine RS.mvI rfl ?_
 refine RS.mvI rfl ?_
 refine RS.o (D.neg rfl (W.i64 (by omega))) ?_
 refine RS.call E296 (rotl _ (by omega) i (by omega) _ (by omega) _) rfl (fun v3 w3 x3 A3 => ?_)
 replace hE := Ext.tr hE x3
 have zw3 := x3.size
 subst A3
 refine RS.nm ?_
 refine RS.mvI rfl ?_
 refine RS.mvI rfl ?_
 refine RS.o (D.neg rfl (W.i64 (by omega))) ?_
 refine RS.call E296 (rotl _ (by omega) j (by omega) _ (by omega) _) rfl (fun v4 w4 x4 A4 => ?_)
 replace hE := Ext.tr hE x4
 have zw4 := x4.size
 subst A4
 refine RS.nm ?_
 refine RS.ob (D.bxor_u32 rfl rfl (by omega) (by omega)) (fun z5 => ?_)
 refine RS.mvI rfl ?_
 refine RS.mvI rfl ?_
 refine RS.o (D.neg rfl (W.i64 (by omega))) ?_
 refine RS.call E296 (rotl _ (by omega) k (by omega) _ (by omega) _) rfl (fun v6 w6 x6 A6 => ?_)
 replace hE := Ext.tr hE x6
 have zw6 := x6.size
 subst A6
 refine RS.nm ?_
 refine RS.ob (D.bxor_u32 rfl rfl (by omega) (by omega)) (fun z7 => ?_)
 refine RS.asI rfl ?_
 refine nl J2 ?_
 refine wp_ret ?_
 refine retI rfl rfl ?_
 exact ⟨_, rfl, hE, rfl⟩
theorem turn (x : Int) (hx : 0 ≤ x ∧ x < 4294967296) (n : Int) (hn : 0 < n ∧ n < 32) (w : World) :
  Calls Tryz.prog 269 #[.int .u32 x, .int .i64 n] w (Ret w fun v _ => v = .int .u32 (S.rotr x n)) := by
 have hE := Ext.refl w
 refine enterU 11 Tryz.func269 rfl rfl ?_
 refine sq fun _ J1 => ?_
 refine RS.asI rfl ?_
 refine nl J1 ?_
 refine wx fun _ J2 => ?_
 refine regionX Ext [(0, .q), (1, .q), (2, .q), (3, .q), (4, .q), (5, .q), (6, .q), (7, .q), (8, .q)] mixed Ext.refl (fun h k => h.tr k) (by kernel_rfl) (fun w3 x3 => ?_)
 replace hE := Ext.tr hE x3
 have zw3 := x3.size
 refine RX.mvI rfl ?_
 refine RX.mvI rfl ?_
 refine RX.ob (Ext.refl _) (fun w' hw => D.shr_u32 rfl rfl (by omega) (by constructor <;> omega)) (fun z4 => ?_)
 refine RX.mvI rfl ?_
 refine RX.mvI rfl ?_
 refine RX.o (fun w' hw => D.sub rfl rfl (W.i64 (by omega))) ?_
 refine RX.o (fun w' hw => D.shl rfl rfl (by constructor <;> (try simp only [IntKind.bits]) <;> omega) (W.u32m _)) ?_
 refine RX.ob (Ext.refl _) (fun w' hw => D.bor_u32 rfl rfl (by omega) (by omega)) (fun z5 => ?_)
 refine RX.assign (v := .int _ _) rfl ?_
 refine RX.nil (J2 _ _ ?_)
 refine wp_ret ?_
 refine retI rfl rfl ?_
 exact ⟨_, rfl, hE, rfl⟩
theorem schedule {S0 : Nat → Prop} (a : Option Addr) (n c : Nat) (b : List Int) (w : World) (R0 : IRow .u8 S0 w a n b) (hn : 64 ≤ n) (hc : n ≤ c) :
  Calls Tryz.prog 293 #[.slice a n c] w (Ret w fun v _ => v = .agg (ints .u32 (S.sch b 48)).toArray) := by
 replace R0 := R0.weaken (T := fun k => k < w.heap.size) (fun k hk _ => hk)
 have hbl := R0.len
 have hbd := R0.bd
 have R1 := R0.sub 0 64 c (by omega) (by omega) (by omega)
 have hE := Ext.refl w
 refine enterU 73 Tryz.func293 rfl rfl ?_
 refine sq fun _ J1 => ?_
 refine RS.alloc T356 (fun b2 w2 e2 s2 x2 B2 => ?_)
 refine RS.nm ?_
 replace hE := Ext.tr hE x2
 replace R1 := R1.ext x2
 have zw2 := x2.size
 have A2 : IArr .u32 w2 b2 64 (List.replicate 64 0) [] 356 := IArr.zero B2
 clear B2
 refine nl J1 ?_
 refine wx fun _ J3 => ?_
 refine sq fun _ J4 => ?_
 refine RS.mvS rfl ?_
 refine RS.o (D.slice (kl := .i64) (kh := .i64) rfl V51 C5 (by decide) rfl rfl (by omega) (by omega)) ?_
 refine RS.ln V51 ?_
 refine RS.mvI rfl ?_
 refine nl J4 ?_
 refine wp_block ?_
 refine C.loop (A := Int × List Int) (fun p => [(13, .int .i64 p.1)]) [3, 4, 14, 15, 16, 17, 18, 19, 20, 21, 22, 23, 24, 25, 26, 27, 28, 29] (fun p w' => Pr (fun k => k = b2) w2 w' ∧ (IArr .u32 w' b2 64 p.2 [] 356 ∧ (0 ≤ p.1 ∧ p.1 ≤ 64) ∧ S.PW b p.1.toNat p.2)) (fun p => (64 - p.1.toNat)) (0, List.replicate 64 0) (by kernel_rfl) ?_ ?_
 ·exact ⟨Pr.refl _ _, A2, by decide, S.PW_zero b⟩
 rintro p j w5 ⟨x5, hI⟩
 replace hE := hE.trans (x5.belo)
 replace R1 := R1.pro x5
 have zw5 := x5.size
 obtain ⟨i, U⟩ := p
 dsimp only at hI
 obtain ⟨A2, h1, h2⟩ := hI
 have hWl := A2.len
 have hlt := A2.lt
 refine C.nmU ?_
 refine sq fun _ J6 => ?_
 refine RS.o (D.lt rfl rfl) ?_
 refine nl J6 ?_
 refine wx fun _ J7 => ?_
 refine C.ifd rfl (fun c8 => ?_) (fun c8 => ?_)
 ·refine wp_skip ?_
  refine J7 _ _ ?_
  refine wx fun _ J9 => ?_
  refine wp_block ?_
  refine sq fun _ J10 => ?_
  refine RS.mvI rfl ?_
  refine RS.idx R1 rfl rfl V51 C5 (by omega) (fun b11 o11 v11 h11 q11 r11 => ?_)
  refine RS.nm ?_
  simp only [lim] at r11
  have qa := q11
  refine RS.o (D.load rfl V5 rfl (h11)) ?_
  refine RS.asI rfl ?_
  refine RS.asI rfl ?_
  refine nl J10 ?_
  refine region ?_
  refine RS.mvI rfl ?_
  refine RS.o (D.quo rfl rfl (by omega) (by omega) (W.i64 (by omega))) ?_
  refine RS.mvI rfl ?_
  refine RS.o (D.quo rfl rfl (by omega) (by omega) (W.i64 (by omega))) ?_
  refine RS.idxA A2 rfl rfl V356 C37 (by omega) (fun v12 h12 q12 r12 => ?_)
  refine RS.nm ?_
  simp only [lim] at r12
  have qb := q12
  refine RS.o (D.load rfl V37 rfl (h12)) ?_
  refine RS.o (D.shl rfl rfl (by constructor <;> (try simp only [IntKind.bits]) <;> omega) (W.u32m _)) ?_
  refine RS.mvI rfl ?_
  refine RS.o (D.conv rfl V5 V37 (W.u32 (by omega))) ?_
  refine RS.ob (D.bor_u32 rfl rfl (by omega) (by omega)) (fun z13 => ?_)
  refine RS.idxA A2 rfl rfl V356 C37 (by omega) (fun v14 h14 q14 r14 => ?_)
  refine RS.nm ?_
  simp only [lim] at r14
  refine RS.storeA A2 rfl rfl C37 (by omega) (by simp only [lim]; omega) (fun w15 y15 N15 => ?_)
  replace hE := hE.trans (y15.belo)
  replace x5 := x5.stno y15
  replace R1 := R1.sto y15
  have zw15 := y15.size
  replace A2 := N15
  refine nl J9 ?_
  refine region ?_
  refine RS.o (D.add rfl rfl (W.i64 (by omega))) ?_
  refine RS.mvI rfl ?_
  refine RS.nil ?_
  change Nx _ _ _ _ _ _ _ _
  refine C.next (i + 1, U.set (i / 4).toNat (ior (v12 * 2 ^ (8 : Int).toNat % 4294967296) v11)) ⟨rfl, trivial⟩ (by kernel_rfl) ?_ ?_
  ·refine ⟨x5, A2, ⟨by dsimp only; omega, by dsimp only; omega⟩, ?_⟩
   dsimp only
   subst qb
   exact S.PW_step b U i _ ⟨h1.1, by omega⟩ hWl (by omega) hbd (qa.trans (S.take64 b i (by omega))) h2
  dsimp only; omega
 refine wp_exit ?_
 refine J3 _ _ ?_
 refine wx fun _ J16 => ?_
 refine sq fun _ J17 => ?_
 refine RS.asI rfl ?_
 refine nl J17 ?_
 refine wp_block ?_
 refine C.loop (A := Int × List Int) (fun p => [(5, .int .i64 p.1)]) [6, 7, 8, 9, 30, 31, 32, 33, 34, 35, 36, 37, 38, 39, 40, 41, 42, 43, 44, 45, 46, 47, 48, 49, 50, 51, 52, 53, 54, 55, 56, 57, 58, 59, 60, 61, 62, 63, 64, 65, 66, 67, 68, 69, 70, 71, 72] (fun p w' => Pr (fun k => k = b2) w5 w' ∧ (IArr .u32 w' b2 64 p.2 [] 356 ∧ (16 ≤ p.1 ∧ p.1 ≤ 64) ∧ p.2.take p.1.toNat = S.sch b (p.1.toNat - 16))) (fun p => (64 - p.1.toNat)) (16, U) (by kernel_rfl) ?_ ?_
 ·exact ⟨Pr.refl _ _, A2, ⟨by dsimp only; omega, by dsimp only; omega⟩, S.take_words b U (by omega) hWl (by rw [show (64 : Nat) = i.toNat by omega]; exact h2)⟩
 rintro p j w18 ⟨x18, hI⟩
 replace hE := hE.trans (x18.belo)
 replace R1 := R1.pro x18
 have zw18 := x18.size
 obtain ⟨t, V⟩ := p
 dsimp only at hI
 obtain ⟨A2, g1, g2⟩ := hI
 have hVl := A2.len
 have hlt2 := A2.lt
 refine C.nmU ?_
 refine wx fun _ J19 => ?_
 refine sq fun _ J20 => ?_
 refine RS.mvI rfl ?_
 refine RS.o (D.lt rfl rfl) ?_
 refine nl J20 ?_
 refine C.ifd rfl (fun c21 => ?_) (fun c21 => ?_)
 ·refine wp_skip ?_
  refine J19 _ _ ?_
  refine wx fun _ J22 => ?_
  refine wp_block ?_
  refine wx fun _ J23 => ?_
  refine regionX Ext [(0, .q), (1, .q), (2, .q), (3, .q), (4, .q), (5, .q), (6, .q), (7, .q), (8, .q), (9, .q)] mixed Ext.refl (fun h k => h.tr k) (by kernel_rfl) (fun w24 x24 => ?_)
  replace hE := Ext.tr hE x24
  replace x18 := x18.ext x24
  replace R1 := R1.ext x24
  replace A2 := A2.ext x24
  have zw24 := x24.size
  refine RX.mvI rfl ?_
  refine RX.o (fun w' hw => D.sub rfl rfl (W.i64 (by omega))) ?_
  refine RX.idxA (fun _ h => h) A2 rfl rfl V356 C37 (by omega) (fun v25 h25 q25 r25 => ?_)
  refine RX.nm ?_
  simp only [lim] at r25
  have q1 := q25
  refine RX.o (fun w' hw => D.load rfl V37 rfl (h25 w' hw)) ?_
  refine RX.mvI rfl ?_
  refine RX.o (fun w' hw => D.sub rfl rfl (W.i64 (by omega))) ?_
  refine RX.idxA (fun _ h => h) A2 rfl rfl V356 C37 (by omega) (fun v26 h26 q26 r26 => ?_)
  refine RX.nm ?_
  simp only [lim] at r26
  have q2 := q26
  refine RX.o (fun w' hw => D.load rfl V37 rfl (h26 w' hw)) ?_
  refine RX.assign (v := .int _ _) rfl ?_
  refine RX.assign (v := .int _ _) rfl ?_
  refine RX.nil (J23 _ _ ?_)
  refine sq fun _ J27 => ?_
  refine RS.mvI rfl ?_
  refine RS.call E296 (rotl _ (by omega) 7 (by omega) _ (by omega) _) rfl (fun v28 w28 x28 A28 => ?_)
  replace hE := Ext.tr hE x28
  replace x18 := x18.ext x28
  replace R1 := R1.ext x28
  replace A2 := A2.ext x28
  have zw28 := x28.size
  subst A28
  have g28 := S.rotr_bd v25 7 (by omega)
  refine RS.nm ?_
  refine RS.mvI rfl ?_
  refine RS.call E296 (rotl _ (by omega) 18 (by omega) _ (by omega) _) rfl (fun v29 w29 x29 A29 => ?_)
  replace hE := Ext.tr hE x29
  replace x18 := x18.ext x29
  replace R1 := R1.ext x29
  replace A2 := A2.ext x29
  have zw29 := x29.size
  subst A29
  have g29 := S.rotr_bd v25 18 (by omega)
  refine RS.nm ?_
  refine RS.ob (D.bxor_u32 rfl rfl (by omega) (by omega)) (fun z30 => ?_)
  refine RS.mvI rfl ?_
  refine RS.ob (D.shr_u32 rfl rfl (by omega) (by constructor <;> omega)) (fun z31 => ?_)
  refine RS.ob (D.bxor_u32 rfl rfl (by omega) (by omega)) (fun z32 => ?_)
  refine RS.asI rfl ?_
  refine nl J27 (sq fun _ J33 => ?_)
  refine RS.mvI rfl ?_
  refine RS.call E296 (rotl _ (by omega) 17 (by omega) _ (by omega) _) rfl (fun v34 w34 x34 A34 => ?_)
  replace hE := Ext.tr hE x34
  replace x18 := x18.ext x34
  replace R1 := R1.ext x34
  replace A2 := A2.ext x34
  have zw34 := x34.size
  subst A34
  have g34 := S.rotr_bd v26 17 (by omega)
  refine RS.nm ?_
  refine RS.mvI rfl ?_
  refine RS.call E296 (rotl _ (by omega) 19 (by omega) _ (by omega) _) rfl (fun v35 w35 x35 A35 => ?_)
  replace hE := Ext.tr hE x35
  replace x18 := x18.ext x35
  replace R1 := R1.ext x35
  replace A2 := A2.ext x35
  have zw35 := x35.size
  subst A35
  have g35 := S.rotr_bd v26 19 (by omega)
  refine RS.nm ?_
  refine RS.ob (D.bxor_u32 rfl rfl (by omega) (by omega)) (fun z36 => ?_)
  refine RS.mvI rfl ?_
  refine RS.ob (D.shr_u32 rfl rfl (by omega) (by constructor <;> omega)) (fun z37 => ?_)
  refine RS.ob (D.bxor_u32 rfl rfl (by omega) (by omega)) (fun z38 => ?_)
  refine RS.asI rfl ?_
  refine nl J33 ?_
  refine regionX Ext [(0, .q), (1, .q), (2, .q), (3, .q), (4, .q), (5, .q), (6, .q), (7, .q), (8, .q), (9, .q), (10, .q), (11, .q), (12, .q), (13, .q), (14, .q), (15, .g)] mixed Ext.refl (fun h k => h.tr k) (by kernel_rfl) (fun w39 x39 => ?_)
  replace hE := Ext.tr hE x39
  replace x18 := x18.ext x39
  replace R1 := R1.ext x39
  replace A2 := A2.ext x39
  have zw39 := x39.size
  refine RX.mvI rfl ?_
  refine RX.mvI rfl ?_
  refine RX.o (fun w' hw => D.sub rfl rfl (W.i64 (by omega))) ?_
  refine RX.idxA (fun _ h => h) A2 rfl rfl V356 C37 (by omega) (fun v40 h40 q40 r40 => ?_)
  refine RX.nm ?_
  simp only [lim] at r40
  have q3 := q40
  refine RX.o (fun w' hw => D.load rfl V37 rfl (h40 w' hw)) ?_
  refine RX.mvI rfl ?_
  refine RX.o (fun w' hw => D.sub rfl rfl (W.i64 (by omega))) ?_
  refine RX.idxA (fun _ h => h) A2 rfl rfl V356 C37 (by omega) (fun v41 h41 q41 r41 => ?_)
  refine RX.nm ?_
  simp only [lim] at r41
  have q4 := q41
  refine RX.o (fun w' hw => D.load rfl V37 rfl (h41 w' hw)) ?_
  refine RX.o (fun w' hw => D.add rfl rfl (W.u32m _)) ?_
  refine RX.mvI rfl ?_
  refine RX.o (fun w' hw => D.add rfl rfl (W.u32m _)) ?_
  refine RX.mvI rfl ?_
  refine RX.o (fun w' hw => D.add rfl rfl (W.u32m _)) ?_
  refine RX.idxA (fun _ h => h) A2 rfl rfl V356 C37 (by omega) (fun v42 h42 q42 r42 => ?_)
  refine RX.nm ?_
  simp only [lim] at r42
  refine RX.big ?_
  refine RS.storeA A2 rfl rfl C37 (by omega) (by simp only [lim]; omega) (fun w43 y43 N43 => ?_)
  replace hE := hE.trans (y43.belo)
  replace x18 := x18.stno y43
  replace R1 := R1.sto y43
  have zw43 := y43.size
  replace A2 := N43
  refine RS.nil ?_
  refine RX.nil (J22 _ _ ?_)
  refine region ?_
  refine RS.mvI rfl ?_
  refine RS.o (D.add rfl rfl (W.i64 (by omega))) ?_
  refine RS.asI rfl ?_
  refine RS.nil ?_
  change Nx _ _ _ _ _ _ _ _
  refine C.next (t + 1, V.set t.toNat (S.nextW V t)) ⟨rfl, trivial⟩ (by kernel_rfl) ?_ ?_
  ·subst q1 q2 q3 q4
   refine ⟨x18, A2, ⟨by dsimp only; omega, by dsimp only; omega⟩, ?_⟩
   dsimp only
   exact S.sch_step b V t (by omega) hVl g2
  dsimp only; omega
 refine wp_exit ?_
 refine J16 _ _ ?_
 refine sq fun _ J44 => ?_
 refine RS.o (D.loadAgg rfl V356 rfl C356 (by decide) (by rw [ints_length, A2.len]) A2.cells) ?_
 refine RS.storeArr A2 rfl rfl C356 (by decide) (by first | assumption | exact And.left (by assumption) | exact IArr.len (by assumption)) (by first | assumption | exact And.right (by assumption) | exact IArr.bd (by assumption)) (fun w45 y45 N45 => ?_)
 replace hE := hE.trans (y45.belo)
 replace R1 := R1.sto y45
 have zw45 := y45.size
 replace A2 := N45
 refine nl J44 ?_
 refine wp_ret ?_
 refine ret (rs := [.cell 2 356]) (vs := [.agg _]) (v := (.agg _)) rfl ⟨⟨_, rfl, loadVar_agg V356 rfl C356 (by decide) (by rw [ints_length, A2.len]) A2.cells⟩, trivial⟩ rfl ?_
 refine ⟨_, rfl, hE, ?_⟩
 rw [show t.toNat = 64 by omega, List.take_of_length_le (by omega)] at g2
 rw [g2]
theorem T255 : TI Tryz.prog 255 8 32 (ints .u32 (List.replicate 8 0)) := by
 have h : (Tryz.prog.info? 255).map (fun i => (i.size, i.bytes, i.zero)) = some (8, 32, some (.agg #[.int .u32 0, .int .u32 0, .int .u32 0, .int .u32 0, .int .u32 0, .int .u32 0, .int .u32 0, .int .u32 0])) := by kernel_rfl
 exact TI.of h rfl
theorem E293 : Enters Tryz.prog 293 := .mk Tryz.func293 (by kernel_rfl) rfl
theorem E294 : Enters Tryz.prog 294 := .mk Tryz.func294 (by kernel_rfl) rfl
theorem grind {S0 : Nat → Prop} (b : Nat) (h : List Int) (tl : List Value) (T TK : TypeId) (a : Option Addr) (n c : Nat) (bs : List Int) (w : World) (A0 : IArr .u32 w b 8 h tl T) (K0 : Kst w TK) (R0 : IRow .u8 S0 w a n bs) (hn : 64 ≤ n) (hc : n ≤ c) (hbk : b ≠ gK) :
  Calls Tryz.prog 286 #[.pointer (some ⟨b, 0, none⟩), .slice a n c] w (fun e w' => e = .returned (.tuple #[]) ∧ Pr (fun k => k = b) w w' ∧ IArr .u32 w' b 8 (S.grind h bs) tl T) := by
 have hlt := A0.lt
 have hhl := A0.len
 have hhb := A0.bd
 have hsa := S.sch_arr bs R0.bd
 have hKl := K0.lt
 have hE := Pr.refl (fun k => k = b) w
 refine enterU 124 Tryz.func286 rfl rfl ?_
 refine sq fun _ J1 => ?_
 refine RS.mvS rfl ?_
 refine RS.call E293 (schedule (S0 := S0) _ _ _ _ _ R0 hn hc) rfl (fun v2 w2 x2 A2 => ?_)
 replace hE := hE.ext x2
 replace A0 := A0.ext x2
 replace K0 := K0.ext x2
 have zw2 := x2.size
 subst A2
 refine RS.nm ?_
 refine RS.alloc T356 (fun b3 w3 e3 s3 x3 B3 => ?_)
 refine RS.nm ?_
 replace hE := hE.ext x3
 replace A0 := A0.ext x3
 replace K0 := K0.ext x3
 have zw3 := x3.size
 have A3 : IArr .u32 w3 b3 64 (List.replicate 64 0) [] 356 := IArr.zero B3
 clear B3
 refine RS.storeArr A3 rfl rfl C356 (by decide) (by first | assumption | exact And.left (by assumption) | exact IArr.len (by assumption)) (by first | assumption | exact And.right (by assumption) | exact IArr.bd (by assumption)) (fun w4 y4 N4 => ?_)
 replace hE := hE.stno y4
 replace A0 := A0.sto y4
 replace K0 := K0.sto y4
 have zw4 := y4.size
 replace A3 := N4
 refine nl J1 ?_
 refine wx fun _ J5 => ?_
 refine regionX Ext [(0, .q), (1, .q), (2, .q), (3, .q), (4, .q), (5, .q), (6, .q), (7, .q), (8, .q), (9, .q), (10, .q), (11, .q), (12, .q), (13, .q), (14, .q), (15, .q), (16, .q), (17, .q), (18, .q), (19, .q), (20, .q), (21, .q), (22, .q), (23, .q), (24, .q), (25, .q), (26, .q), (27, .q), (28, .q), (29, .q), (30, .q), (31, .q), (32, .q), (33, .q), (34, .q), (35, .q), (36, .q), (37, .q), (38, .q), (39, .q)] mixed Ext.refl (fun h k => h.tr k) (by kernel_rfl) (fun w6 x6 => ?_)
 replace hE := hE.ext x6
 replace A0 := A0.ext x6
 replace K0 := K0.ext x6
 replace A3 := A3.ext x6
 have zw6 := x6.size
 refine RX.mvP rfl ?_
 refine RX.nilCheck rfl ?_
 refine RX.idxA (fun _ h => h) A0 rfl rfl V255 C37 (by decide) (fun v7 h7 q7 r7 => ?_)
 refine RX.nm ?_
 simp only [lim] at r7
 subst q7
 refine RX.o (fun w' hw => D.load rfl V37 rfl (h7 w' hw)) ?_
 refine RX.mvP rfl ?_
 refine RX.nilCheck rfl ?_
 refine RX.idxA (fun _ h => h) A0 rfl rfl V255 C37 (by decide) (fun v8 h8 q8 r8 => ?_)
 refine RX.nm ?_
 simp only [lim] at r8
 subst q8
 refine RX.o (fun w' hw => D.load rfl V37 rfl (h8 w' hw)) ?_
 refine RX.mvP rfl ?_
 refine RX.nilCheck rfl ?_
 refine RX.idxA (fun _ h => h) A0 rfl rfl V255 C37 (by decide) (fun v9 h9 q9 r9 => ?_)
 refine RX.nm ?_
 simp only [lim] at r9
 subst q9
 refine RX.o (fun w' hw => D.load rfl V37 rfl (h9 w' hw)) ?_
 refine RX.mvP rfl ?_
 refine RX.nilCheck rfl ?_
 refine RX.idxA (fun _ h => h) A0 rfl rfl V255 C37 (by decide) (fun v10 h10 q10 r10 => ?_)
 refine RX.nm ?_
 simp only [lim] at r10
 subst q10
 refine RX.o (fun w' hw => D.load rfl V37 rfl (h10 w' hw)) ?_
 refine RX.mvP rfl ?_
 refine RX.nilCheck rfl ?_
 refine RX.idxA (fun _ h => h) A0 rfl rfl V255 C37 (by decide) (fun v11 h11 q11 r11 => ?_)
 refine RX.nm ?_
 simp only [lim] at r11
 subst q11
 refine RX.o (fun w' hw => D.load rfl V37 rfl (h11 w' hw)) ?_
 refine RX.mvP rfl ?_
 refine RX.nilCheck rfl ?_
 refine RX.idxA (fun _ h => h) A0 rfl rfl V255 C37 (by decide) (fun v12 h12 q12 r12 => ?_)
 refine RX.nm ?_
 simp only [lim] at r12
 subst q12
 refine RX.o (fun w' hw => D.load rfl V37 rfl (h12 w' hw)) ?_
 refine RX.mvP rfl ?_
 refine RX.nilCheck rfl ?_
 refine RX.idxA (fun _ h => h) A0 rfl rfl V255 C37 (by decide) (fun v13 h13 q13 r13 => ?_)
 refine RX.nm ?_
 simp only [lim] at r13
 subst q13
 refine RX.o (fun w' hw => D.load rfl V37 rfl (h13 w' hw)) ?_
 refine RX.mvP rfl ?_
 refine RX.nilCheck rfl ?_
 refine RX.idxA (fun _ h => h) A0 rfl rfl V255 C37 (by decide) (fun v14 h14 q14 r14 => ?_)
 refine RX.nm ?_
 simp only [lim] at r14
 subst q14
 refine RX.o (fun w' hw => D.load rfl V37 rfl (h14 w' hw)) ?_
 refine RX.assign (v := .int _ _) rfl ?_
 refine RX.assign (v := .int _ _) rfl ?_
 refine RX.assign (v := .int _ _) rfl ?_
 refine RX.assign (v := .int _ _) rfl ?_
 refine RX.assign (v := .int _ _) rfl ?_
 refine RX.assign (v := .int _ _) rfl ?_
 refine RX.assign (v := .int _ _) rfl ?_
 refine RX.assign (v := .int _ _) rfl ?_
 refine RX.nil (J5 _ _ ?_)
 refine wx fun _ J15 => ?_
 refine sq fun _ J16 => ?_
 refine RS.mvI rfl ?_
 refine nl J16 ?_
 refine wp_block ?_
 refine C.loop (A := Int × S.H8) (fun p => [(5, .int .u32 p.2.a), (6, .int .u32 p.2.b), (7, .int .u32 p.2.c), (8, .int .u32 p.2.d), (9, .int .u32 p.2.e), (10, .int .u32 p.2.f), (11, .int .u32 p.2.g), (12, .int .u32 p.2.h), (52, .int .i64 p.1)]) [13, 14, 15, 53, 54, 55, 56, 57, 58, 59, 60, 61, 62, 63, 64, 65, 66, 67, 68, 69, 70, 71, 72, 73, 74, 75, 76, 77, 78, 79, 80, 81, 82, 83, 84, 85, 86, 87, 88, 89, 90, 91, 92, 93, 94, 95, 96, 97, 98, 99, 100, 101, 102] (fun p w' => Ext w6 w' ∧ ((0 ≤ p.1 ∧ p.1 ≤ 64) ∧ p.2 = S.rounds (S.sch bs 48) (S.H8.of h) p.1.toNat)) (fun p => (64 - p.1.toNat)) (0, S.H8.of h) (by kernel_rfl) ?_ ?_
 ·exact ⟨Ext.refl _, ⟨by dsimp only; omega, by dsimp only; omega⟩, by show S.H8.of h = S.rounds _ _ (0 : Int).toNat; rw [show (0 : Int).toNat = 0 from rfl, S.rounds_zero]⟩
 rintro p j w17 ⟨x17, hI⟩
 replace hE := hE.ext x17
 replace A0 := A0.ext x17
 replace K0 := K0.ext x17
 replace A3 := A3.ext x17
 have zw17 := x17.size
 obtain ⟨i, st⟩ := p
 dsimp only at hI
 obtain ⟨h1, h2⟩ := hI
 have hok : st.ok := by rw [h2]; exact S.rounds_ok _ _ (S.H8.of_ok _ hhb) _
 have hst := S.ok_arr st hok
 obtain ⟨o1, o2, o3, o4, o5, o6, o7, o8⟩ := hok
 simp only [S.W32] at o1 o2 o3 o4 o5 o6 o7 o8
 refine C.nmU ?_
 refine sq fun _ J18 => ?_
 refine RS.o (D.lt rfl rfl) ?_
 refine nl J18 ?_
 refine wx fun _ J19 => ?_
 refine C.ifd rfl (fun c20 => ?_) (fun c20 => ?_)
 ·refine wp_skip ?_
  refine J19 _ _ ?_
  refine wx fun _ J21 => ?_
  refine wp_block ?_
  refine sq fun _ J22 => ?_
  refine RS.mvI rfl ?_
  refine RS.asI rfl ?_
  refine nl J22 ?_
  refine wx fun _ J23 => ?_
  refine regionX Ext [(0, .q), (1, .q), (4, .q), (5, .q), (6, .q), (7, .q), (8, .q), (9, .q), (10, .q), (11, .q), (13, .q), (14, .q), (15, .q), (17, .q), (18, .q), (19, .q), (2, .e), (3, .q), (12, .q), (16, .q), (20, .q), (21, .q)] mixed Ext.refl (fun h k => h.tr k) (by kernel_rfl) (fun w24 x24 => ?_)
  replace hE := hE.ext x24
  replace x17 := Ext.tr x17 x24
  replace A0 := A0.ext x24
  replace K0 := K0.ext x24
  replace A3 := A3.ext x24
  have zw24 := x24.size
  refine RX.mvI rfl ?_
  refine RX.mvI rfl ?_
  refine RX.mvI rfl ?_
  refine RX.mvI rfl ?_
  refine RX.ob (Ext.refl _) (fun w' hw => D.band_u32 rfl rfl (by omega) (by omega)) (fun z25 => ?_)
  refine RX.mvI rfl ?_
  refine RX.o (fun w' hw => D.inv rfl (by omega)) ?_
  refine RX.mvI rfl ?_
  refine RX.ob (Ext.refl _) (fun w' hw => D.band_u32 rfl rfl (by omega) (by omega)) (fun z26 => ?_)
  refine RX.ob (Ext.refl _) (fun w' hw => D.bxor_u32 rfl rfl (by omega) (by omega)) (fun z27 => ?_)
  refine RX.mvI rfl ?_
  refine RX.idxK (fun _ h => h) K0 rfl rfl V356 C37 (by omega) (fun v28 h28 q28 r28 => ?_)
  refine RX.nm ?_
  simp only [lim] at r28
  have qk := q28
  refine RX.o (fun w' hw => D.load rfl V37 rfl (h28 w' hw)) ?_
  refine RX.mvI rfl ?_
  refine RX.idxA (fun _ h => h) A3 rfl rfl V356 C37 (by omega) (fun v29 h29 q29 r29 => ?_)
  refine RX.nm ?_
  simp only [lim] at r29
  have qw := q29
  refine RX.o (fun w' hw => D.load rfl V37 rfl (h29 w' hw)) ?_
  refine RX.eff ?_
  refine RS.call E294 (mix st.e (by omega) _ (by omega) _ (by omega) _ (by omega) _) rfl (fun v30 w30 x30 A30 => ?_)
  replace hE := hE.ext x30
  replace x17 := Ext.tr x17 x30
  replace A0 := A0.ext x30
  replace K0 := K0.ext x30
  replace A3 := A3.ext x30
  have zw30 := x30.size
  subst A30
  have g30 := S.mix_bd st.e 6 11 25 (by omega)
  refine RS.nm ?_
  refine RS.nil ⟨x30, ?_⟩
  refine RX.o (fun w' hw => D.add rfl rfl (W.u32m _)) ?_
  refine RX.o (fun w' hw => D.add rfl rfl (W.u32m _)) ?_
  refine RX.o (fun w' hw => D.add rfl rfl (W.u32m _)) ?_
  refine RX.o (fun w' hw => D.add rfl rfl (W.u32m _)) ?_
  refine RX.assign (v := .int _ _) rfl ?_
  refine RX.nil (J23 _ _ ?_)
  refine sq fun _ J31 => ?_
  refine RS.mvI rfl ?_
  refine RS.call E294 (mix st.a (by omega) _ (by omega) _ (by omega) _ (by omega) _) rfl (fun v32 w32 x32 A32 => ?_)
  replace hE := hE.ext x32
  replace x17 := Ext.tr x17 x32
  replace A0 := A0.ext x32
  replace K0 := K0.ext x32
  replace A3 := A3.ext x32
  have zw32 := x32.size
  subst A32
  have g32 := S.mix_bd st.a 2 13 22 (by omega)
  refine RS.nm ?_
  refine RS.mvI rfl ?_
  refine RS.mvI rfl ?_
  refine RS.ob (D.band_u32 rfl rfl (by omega) (by omega)) (fun z33 => ?_)
  refine RS.mvI rfl ?_
  refine RS.mvI rfl ?_
  refine RS.ob (D.band_u32 rfl rfl (by omega) (by omega)) (fun z34 => ?_)
  refine RS.ob (D.bxor_u32 rfl rfl (by omega) (by omega)) (fun z35 => ?_)
  refine RS.mvI rfl ?_
  refine RS.mvI rfl ?_
  refine RS.ob (D.band_u32 rfl rfl (by omega) (by omega)) (fun z36 => ?_)
  refine RS.ob (D.bxor_u32 rfl rfl (by omega) (by omega)) (fun z37 => ?_)
  refine RS.o (D.add rfl rfl (W.u32m _)) ?_
  refine RS.asI rfl ?_
  refine nl J31 ?_
  refine region ?_
  refine RS.mvI rfl ?_
  refine RS.mvI rfl ?_
  refine RS.o (D.add rfl rfl (W.u32m _)) ?_
  refine RS.mvI rfl ?_
  refine RS.mvI rfl ?_
  refine RS.mvI rfl ?_
  refine RS.mvI rfl ?_
  refine RS.mvI rfl ?_
  refine RS.o (D.add rfl rfl (W.u32m _)) ?_
  refine RS.mvI rfl ?_
  refine RS.mvI rfl ?_
  refine RS.mvI rfl ?_
  refine RS.asI rfl ?_
  refine RS.asI rfl ?_
  refine RS.asI rfl ?_
  refine RS.asI rfl ?_
  refine RS.asI rfl ?_
  refine RS.asI rfl ?_
  refine RS.asI rfl ?_
  refine RS.asI rfl ?_
  refine nl J21 ?_
  refine region ?_
  refine RS.o (D.add rfl rfl (W.i64 (by omega))) ?_
  refine RS.mvI rfl ?_
  refine RS.nil ?_
  change Nx _ _ _ _ _ _ _ _
  refine C.next (i + 1, S.rnd v28 v29 st) ⟨rfl, rfl, rfl, rfl, rfl, rfl, rfl, rfl, rfl, trivial⟩ (by kernel_rfl) ?_ ?_
  ·refine ⟨x17, ⟨by dsimp only; omega, by dsimp only; omega⟩, ?_⟩
   dsimp only
   rw [show (i + 1).toNat = i.toNat + 1 by omega, S.rounds_succ, ← h2, qk, qw]
  dsimp only; omega
 refine wp_exit ?_
 refine J15 _ _ ?_
 refine sq fun _ J38 => ?_
 refine RS.mvI rfl ?_
 refine RS.mvI rfl ?_
 refine RS.mvI rfl ?_
 refine RS.mvI rfl ?_
 refine RS.mvI rfl ?_
 refine RS.mvI rfl ?_
 refine RS.mvI rfl ?_
 refine RS.mvI rfl ?_
 refine RS.o (D.buildArr (xs := [.tmp 103, .tmp 104, .tmp 105, .tmp 106, .tmp 107, .tmp 108, .tmp 109, .tmp 110]) (vs := ints .u32 [_, _, _, _, _, _, _, _]) V255 T255 (by simp [ints]) C37 rfl rfl rfl (by intro v hv; obtain ⟨x, _, rfl⟩ := List.mem_map.1 hv; rfl)) ?_
 refine RS.mvI rfl ?_
 refine nl J38 ?_
 refine wp_block ?_
 refine C.loop (A := Int × List Int) (fun p => [(112, .int .i64 p.1)]) [16, 17, 113, 114, 115, 116, 117, 118, 119, 120, 121, 122, 123, 124, 125] (fun p w' => Pr (fun k => k = b) w17 w' ∧ (IArr .u32 w' b 8 p.2 tl T ∧ (0 ≤ p.1 ∧ p.1 ≤ 8) ∧ p.2 = (S.addW h st.toL).take p.1.toNat ++ h.drop p.1.toNat)) (fun p => (8 - p.1.toNat)) (0, h) (by kernel_rfl) ?_ ?_
 ·exact ⟨Pr.refl _ _, A0, ⟨by dsimp only; omega, by dsimp only; omega⟩, rfl⟩
 rintro p j w39 ⟨x39, hI⟩
 replace hE := hE.prno x39
 replace K0 := K0.pro x39
 replace A3 := A3.pro x39
 have zw39 := x39.size
 obtain ⟨j, xs⟩ := p
 dsimp only at hI
 obtain ⟨A0, g1, g2⟩ := hI
 have hxl := A0.len
 refine C.nmU ?_
 refine sq fun _ J40 => ?_
 refine RS.o (D.lt rfl rfl) ?_
 refine nl J40 ?_
 refine wx fun _ J41 => ?_
 refine C.ifd rfl (fun c42 => ?_) (fun c42 => ?_)
 ·refine wp_skip ?_
  refine J41 _ _ ?_
  refine wx fun _ J43 => ?_
  refine wp_block ?_
  refine sq fun _ J44 => ?_
  refine RS.mvI rfl ?_
  refine RS.idxV rfl rfl V255 V37 rfl C37 (by omega) hst.1 hst.2 (fun v45 q45 r45 => ?_)
  refine RS.nm ?_
  simp only [lim] at r45
  have qy := q45
  refine RS.asI rfl ?_
  refine RS.asI rfl ?_
  refine nl J44 ?_
  refine regionX Ext [(0, .q), (1, .q), (2, .q), (3, .q), (4, .q), (5, .q), (6, .q), (7, .q), (8, .q), (9, .g)] mixed Ext.refl (fun h k => h.tr k) (by kernel_rfl) (fun w46 x46 => ?_)
  replace hE := hE.ext x46
  replace x39 := x39.ext x46
  replace A0 := A0.ext x46
  replace K0 := K0.ext x46
  replace A3 := A3.ext x46
  have zw46 := x46.size
  refine RX.mvP rfl ?_
  refine RX.mvI rfl ?_
  refine RX.nilCheck rfl ?_
  refine RX.idxA (fun _ h => h) A0 rfl rfl V255 C37 (by omega) (fun v47 h47 q47 r47 => ?_)
  refine RX.nm ?_
  simp only [lim] at r47
  have qz := q47
  refine RX.o (fun w' hw => D.load rfl V37 rfl (h47 w' hw)) ?_
  refine RX.mvI rfl ?_
  refine RX.o (fun w' hw => D.add rfl rfl (W.u32m _)) ?_
  refine RX.nilCheck rfl ?_
  refine RX.idxA (fun _ h => h) A0 rfl rfl V255 C37 (by omega) (fun v48 h48 q48 r48 => ?_)
  refine RX.nm ?_
  simp only [lim] at r48
  refine RX.big ?_
  refine RS.storeA A0 rfl rfl C37 (by omega) (by simp only [lim]; omega) (fun w49 y49 N49 => ?_)
  replace hE := hE.stno y49
  replace x39 := x39.stno y49
  replace K0 := K0.sto y49
  replace A3 := A3.sto y49
  have zw49 := y49.size
  replace A0 := N49
  refine RS.nil ?_
  refine RX.nil (J43 _ _ ?_)
  refine region ?_
  refine RS.o (D.add rfl rfl (W.i64 (by omega))) ?_
  refine RS.mvI rfl ?_
  refine RS.nil ?_
  change Nx _ _ _ _ _ _ _ _
  refine C.next (j + 1, xs.set j.toNat ((v47 + v45) % 4294967296)) ⟨rfl, trivial⟩ (by kernel_rfl) ?_ ?_
  ·refine ⟨x39, A0, ⟨by dsimp only; omega, by dsimp only; omega⟩, ?_⟩
   dsimp only
   have e := S.add_step h st.toL xs j (by omega) hxl g2 hhl
   rw [qz, qy]
   exact e
  dsimp only; omega
 refine wp_exit ?_
 change bodyPost Tryz.prog Tryz.f286 (fun e w' => e = .returned (.tuple #[]) ∧ Pr (fun k => k = b) w w' ∧ IArr .u32 w' b 8 (S.grind h bs) tl T) .normal _ _
 refine retN (rs := []) (vs := []) rfl trivial rfl ?_
 refine ⟨rfl, hE, ?_⟩
 have e9 : xs = S.grind h bs := by rw [g2, show j.toNat = 8 by omega, List.take_of_length_le (by rw [S.addW_len]; omega), List.drop_eq_nil_of_le (by omega), List.append_nil, S.grind_eq, show (64 : Nat) = i.toNat by omega, ← h2]
 rw [← e9]
 exact A0
theorem C3 : Tryz.prog.cellsOf 3 = 1 := by kernel_rfl
theorem C27 : Tryz.prog.cellsOf 27 = 32 := by kernel_rfl
theorem C51 : Tryz.prog.cellsOf 51 = 1 := by kernel_rfl
theorem C255 : Tryz.prog.cellsOf 255 = 8 := by kernel_rfl
theorem C325 : Tryz.prog.cellsOf 325 = 10 := by kernel_rfl
theorem T5 : TI Tryz.prog 5 1 1 [.int .u8 0] := by
 have h : (Tryz.prog.info? 5).map (fun i => (i.size, i.bytes, i.zero)) = some (1, 1, some (.int .u8 0)) := by kernel_rfl
 exact TI.of h rfl
theorem T27 : TI Tryz.prog 27 32 32 (ints .u8 (List.replicate 32 0)) := by
 have h : (Tryz.prog.info? 27).map (fun i => (i.size, i.bytes, i.zero)) = some (32, 32, some (.agg #[.int .u8 0, .int .u8 0, .int .u8 0, .int .u8 0, .int .u8 0, .int .u8 0, .int .u8 0, .int .u8 0, .int .u8 0, .int .u8 0, .int .u8 0, .int .u8 0, .int .u8 0, .int .u8 0, .int .u8 0, .int .u8 0, .int .u8 0, .int .u8 0, .int .u8 0, .int .u8 0, .int .u8 0, .int .u8 0, .int .u8 0, .int .u8 0, .int .u8 0, .int .u8 0, .int .u8 0, .int .u8 0, .int .u8 0, .int .u8 0, .int .u8 0, .int .u8 0])) := by kernel_rfl
 exact TI.of h rfl
theorem T51 : TI Tryz.prog 51 1 24 [.slice none 0 0] := by
 have h : (Tryz.prog.info? 51).map (fun i => (i.size, i.bytes, i.zero)) = some (1, 24, some (.slice none 0 0)) := by kernel_rfl
 exact TI.of h rfl
theorem T325 : TI Tryz.prog 325 10 64 (ints .u32 (List.replicate 8 0) ++ [.slice none 0 0, .int .i64 0]) := by
 have h : (Tryz.prog.info? 325).map (fun i => (i.size, i.bytes, i.zero)) = some (10, 64, some (.agg #[.int .u32 0, .int .u32 0, .int .u32 0, .int .u32 0, .int .u32 0, .int .u32 0, .int .u32 0, .int .u32 0, .slice none 0 0, .int .i64 0])) := by kernel_rfl
 exact TI.of h rfl
theorem F325 : SI Tryz.prog 325 [(0, 8), (8, 1), (9, 1)] := ⟨_, V325, by kernel_rfl, by kernel_rfl⟩
theorem E138 : Enters Tryz.prog 138 := .mk Tryz.func138 (by kernel_rfl) rfl
theorem E206 : Enters Tryz.prog 206 := .mk Tryz.func206 (by kernel_rfl) rfl
theorem E251 : Enters Tryz.prog 251 := .mk Tryz.func251 (by kernel_rfl) rfl
theorem E254 : Enters Tryz.prog 254 := .mk Tryz.func254 (by kernel_rfl) rfl
theorem E256 : Enters Tryz.prog 256 := .mk Tryz.func256 (by kernel_rfl) rfl
theorem E285 : Enters Tryz.prog 285 := .mk Tryz.func285 (by kernel_rfl) rfl
theorem E286 : Enters Tryz.prog 286 := .mk Tryz.func286 (by kernel_rfl) rfl
theorem start  (w : World) :
  Calls Tryz.prog 255 #[] w (Ret w fun v _ => v = .agg (ints .u32 S.IV ++ ([.slice none 0 0, .int .i64 0] : List Value)).toArray) := by
 have hIV := S.IV_arr
 have hE := Ext.refl w
 refine enterU 3 Tryz.func255 rfl rfl ?_
 refine sq fun _ J1 => ?_
 refine RS.alloc T325 (fun b2 w2 e2 s2 x2 B2 => ?_)
 refine RS.nm ?_
 replace hE := Ext.tr hE x2
 have zw2 := x2.size
 have A2 : IArr .u32 w2 b2 8 (List.replicate 8 0) [.slice none 0 0, .int .i64 0] 325 := ⟨B2, by simp, Bd.zeros _ _⟩
 clear B2
 refine nl J1 (sq fun _ J3 => ?_)
 refine RS.o (D.buildArr (xs := [.const (.int .u32 1779033703), .const (.int .u32 3144134277), .const (.int .u32 1013904242), .const (.int .u32 2773480762), .const (.int .u32 1359893119), .const (.int .u32 2600822924), .const (.int .u32 528734635), .const (.int .u32 1541459225)]) (vs := ints .u32 [_, _, _, _, _, _, _, _]) V255 T255 (by simp [ints]) C37 rfl rfl rfl (by intro v hv; obtain ⟨x, _, rfl⟩ := List.mem_map.1 hv; rfl)) ?_
 refine RS.o (D.buildS T325 F325 (ps := [(0, .agg _)]) rfl (show G.fillL _ _ _ = some (ints .u32 S.IV ++ ([.slice none 0 0, .int .i64 0] : List Value)) from rfl)) ?_
 refine RS.storeRec A2 rfl rfl C325 (by decide) (by assumption) rfl rfl (by intro v hv; simp at hv; rcases hv with rfl | rfl <;> rfl) (fun w4 y4 N4 => ?_)
 replace hE := hE.trans (y4.belo)
 have zw4 := y4.size
 replace A2 := N4
 refine nl J3 ?_
 refine wp_ret ?_
 refine ret (rs := [.cell 0 325]) (vs := [.agg _]) (v := (.agg _)) rfl ⟨⟨_, rfl, loadVar_agg V325 rfl C325 (by decide) (A2.allLen rfl) A2.all⟩, trivial⟩ rfl ?_
 exact ⟨_, rfl, hE, rfl⟩
theorem first  (w : World) :
  Calls Tryz.prog 171 #[] w (Ret w fun v _ => v = .agg (ints .u32 S.IV).toArray) := by
 have hE := Ext.refl w
 refine enterU 2 Tryz.func171 rfl rfl ?_
 refine sq fun _ J1 => ?_
 refine RS.alloc T255 (fun b2 w2 e2 s2 x2 B2 => ?_)
 refine RS.nm ?_
 replace hE := Ext.tr hE x2
 have zw2 := x2.size
 have A2 : IArr .u32 w2 b2 8 (List.replicate 8 0) [] 255 := IArr.zero B2
 clear B2
 refine nl J1 (sq fun _ J3 => ?_)
 refine RS.o (D.buildArr (xs := [.const (.int .u32 1779033703), .const (.int .u32 3144134277), .const (.int .u32 1013904242), .const (.int .u32 2773480762), .const (.int .u32 1359893119), .const (.int .u32 2600822924), .const (.int .u32 528734635), .const (.int .u32 1541459225)]) (vs := ints .u32 [_, _, _, _, _, _, _, _]) V255 T255 (by simp [ints]) C37 rfl rfl rfl (by intro v hv; obtain ⟨x, _, rfl⟩ := List.mem_map.1 hv; rfl)) ?_
 refine RS.storeArr A2 rfl rfl C255 (by decide) S.IV_arr.1 S.IV_arr.2 (fun w4 y4 N4 => ?_)
 replace hE := hE.trans (y4.belo)
 have zw4 := y4.size
 replace A2 := N4
 refine nl J3 ?_
 refine wp_ret ?_
 refine ret (rs := [.cell 0 255]) (vs := [.agg _]) (v := (.agg _)) rfl ⟨⟨_, rfl, loadVar_agg V255 rfl C255 (by decide) (by rw [ints_length, A2.len]) A2.cells⟩, trivial⟩ rfl ?_
 exact ⟨_, rfl, hE, rfl⟩
theorem piece1 (a : Option Addr) (n c : Nat) (hn : n ≤ 10000) (w : World) :
  Calls Tryz.prog 254 #[.slice a n c] w (Ret w fun v _ => v = .bool false) := by
 have hE := Ext.refl w
 refine enterU 5 Tryz.func254 rfl rfl ?_
 refine sq fun _ J1 => ?_
 refine RS.asB rfl ?_
 refine nl J1 (sq fun _ J2 => ?_)
 refine RS.mvS rfl ?_
 refine RS.ln V51 ?_
 refine RS.o (D.gt rfl rfl) ?_
 refine RS.asB rfl ?_
 refine nl J2 ?_
 refine wp_ret ?_
 refine retB rfl rfl ?_
 refine ⟨_, rfl, hE, ?_⟩
 exact congrArg Value.bool (decide_eq_false (by omega))
theorem cloneB {S0 : Nat → Prop} (a : Option Addr) (n c : Nat) (xs : List Int) (w : World) (R0 : IRow .u8 S0 w a n xs) (hn : n ≤ 1000000) :
  Calls Tryz.prog 138 #[.slice a n c] w (Ret w fun v w' => ∃ a' n' c', v = .slice a' n' c' ∧ IOwn w.heap.size w' 5 .u8 a' n' c' xs) := by
 replace R0 := R0.weaken (T := fun k => k < w.heap.size) (fun k hk _ => hk)
 have hE := Ext.refl w
 refine enterU 7 Tryz.func138 rfl rfl ?_
 refine sq fun _ J1 => ?_
 refine RS.asS rfl ?_
 refine nl J1 ?_
 refine wx fun _ J2 => ?_
 refine sq fun _ J3 => ?_
 refine RS.mvS rfl ?_
 refine RS.o (D.nilS rfl rfl V51) ?_
 refine nl J3 ?_
 refine C.ifb rfl (fun c4 => ?_) (fun c4 => ?_)
 ·have hc := c4
  refine sq fun _ J5 => ?_
  refine RS.asS rfl ?_
  refine nl J5 ?_
  refine wp_ret ?_
  refine retS ?_
  obtain ⟨rfl, rfl⟩ := R0.none hc
  exact ⟨_, rfl, hE, _, _, _, rfl, IOwn.nil _ _ _ _⟩
 refine wp_skip ?_
 refine J2 _ _ ?_
 refine sq fun _ J6 => ?_
 refine RS.buildNone V51 T5 (fun b7 w7 e7 s7 x7 B7 => ?_)
 refine RS.nm ?_
 replace hE := Ext.tr hE x7
 replace R0 := R0.ext x7
 have zw7 := x7.size
 have O1 : IOwn w.heap.size w7 5 .u8 (some ⟨b7, 0, none⟩) 0 0 [] := IOwn.of_blk B7 rfl rfl (by omega) (Bd.nil _) (by decide)
 refine RS.mvS rfl ?_
 refine RS.appendI O1 R0 rfl rfl V51 T5 rfl (by omega) (by decide) (by omega) (fun a8 c8 w8 N8 x8 => ?_)
 refine RS.nm ?_
 replace hE := hE.trans (x8.belQ (fun _ h => (O1.lo _ h).1))
 replace R0 := R0.prQ x8 (fun _ h => (O1.lo _ h).1)
 have zw8 := x8.size
 replace O1 := N8
 refine RS.asS rfl ?_
 refine nl J6 ?_
 refine wp_ret ?_
 refine retS ?_
 exact ⟨_, rfl, hE, _, _, _, rfl, O1⟩
theorem grow (m : Int) (hm : 0 ≤ m ∧ m ≤ 1000000) (w : World) :
  Calls Tryz.prog 251 #[.slice none 0 0, .int .i64 m] w (Ret w fun v w' => ∃ a' c', v = .slice a' 0 c' ∧ IOwn w.heap.size w' 5 .u8 a' 0 c' []) := by
 have O1 := IOwn.nil w.heap.size w 5 .u8
 have hE := Ext.refl w
 refine enterU 25 Tryz.func251 rfl rfl ?_
 refine sq fun _ J1 => ?_
 refine RS.asS rfl ?_
 refine nl J1 ?_
 refine wx fun _ J2 => ?_
 refine sq fun _ J3 => ?_
 refine RS.mvI rfl ?_
 refine RS.o (D.lt rfl rfl) ?_
 refine nl J3 ?_
 refine C.ifd rfl (fun c4 => ?_) (fun c4 => ?_)
 ·exact absurd c4 (by omega)
 refine wp_skip ?_
 refine J2 _ _ ?_
 refine wx fun _ J5 => ?_
 refine sq fun _ J6 => ?_
 refine RS.mvI rfl ?_
 refine RS.mvS rfl ?_
 refine RS.o (D.cap rfl V51) ?_
 refine RS.mvS rfl ?_
 refine RS.ln V51 ?_
 refine RS.o (D.sub rfl rfl (W.i64 (by omega))) ?_
 refine RS.o (D.sub rfl rfl (W.i64 (by omega))) ?_
 refine RS.asI rfl ?_
 refine nl J6 (sq fun _ J7 => ?_)
 refine RS.mvI rfl ?_
 refine RS.o (D.gt rfl rfl) ?_
 refine nl J7 ?_
 refine C.ifd rfl (fun c8 => ?_) (fun c8 => ?_)
 ·refine region ?_
  refine RS.mvS rfl ?_
  refine RS.mvS rfl ?_
  refine RS.o (D.cap rfl V51) ?_
  refine RS.o (D.slice (kl := .i64) (kh := .i64) rfl V51 C5 (by decide) rfl rfl (by omega) (by omega)) ?_
  refine RS.mvI rfl ?_
  refine RS.appendZ O1 rfl rfl (by omega) V51 V3 T5 (by omega) (by decide) (by omega) (fun a9 c9 w9 N9 x9 => ?_)
  refine RS.nm ?_
  replace hE := hE.trans (x9.belQ (fun _ h => (O1.lo _ h).1))
  have zw9 := x9.size
  replace O1 := N9
  refine RS.nm ?_
  have hcap := O1.own.cap
  refine RS.mvS rfl ?_
  refine RS.ln V51 ?_
  refine RS.o (D.slice (kl := .i64) (kh := .i64) rfl V51 C5 (by decide) rfl rfl (by omega) (by omega)) ?_
  refine RS.asS rfl ?_
  refine nl J5 (sq fun _ J10 => ?_)
  refine RS.mvS rfl ?_
  refine RS.asS rfl ?_
  refine nl J10 ?_
  refine wp_ret ?_
  refine retS ?_
  refine ⟨_, rfl, hE, _, _, ?_, O1.pre (Nat.zero_le _)⟩
  refine Eq.trans (congrArg (fun a => Value.slice a 0 _) (subA_zero _ _ _)) ?_
  rfl
 refine wp_skip ?_
 refine J5 _ _ ?_
 refine sq fun _ J11 => ?_
 refine RS.mvS rfl ?_
 refine RS.asS rfl ?_
 refine nl J11 ?_
 refine wp_ret ?_
 refine retS ?_
 exact ⟨_, rfl, hE, _, _, rfl, O1⟩
theorem concat {S0 : Nat → Prop} (ps : List Pc) (a : Option Addr) (n c : Nat) (w : World) (P0 : PRow .u8 S0 w a n ps) (hn : n ≤ 1000) (hT : (cat ps).length ≤ 1000000) :
  Calls Tryz.prog 206 #[.slice a n c] w (Ret w fun v w' => ∃ a' n' c', v = .slice a' n' c' ∧ IOwn w.heap.size w' 5 .u8 a' n' c' (cat ps)) := by
 replace P0 := P0.weaken (T := fun k => k < w.heap.size) (fun k hk _ => hk)
 have hPl := P0.len
 have hE := Ext.refl w
 refine enterU 35 Tryz.func206 rfl rfl ?_
 refine sq fun _ J1 => ?_
 refine RS.asS rfl ?_
 refine nl J1 (sq fun _ J2 => ?_)
 refine RS.asI rfl ?_
 refine nl J2 ?_
 refine wx fun _ J3 => ?_
 refine sq fun _ J4 => ?_
 refine RS.mvS rfl ?_
 refine RS.ln V284 ?_
 refine RS.mvI rfl ?_
 refine nl J4 ?_
 refine wp_block ?_
 refine C.loop (A := Int × Int) (fun p => [(3, .int .i64 p.2), (11, .int .i64 p.1)]) [5, 12, 13, 14, 15, 16, 17, 18, 19, 20, 21, 22] (fun p w' => Ext w w' ∧ ((0 ≤ p.1 ∧ p.1 ≤ n) ∧ p.2 = ((cat (ps.take p.1.toNat)).length : Int))) (fun p => (n - p.1.toNat)) (0, 0) (by kernel_rfl) ?_ ?_
 ·exact ⟨Ext.refl _, ⟨by decide, by dsimp only; omega⟩, rfl⟩
 rintro p j w5 ⟨x5, hI⟩
 replace hE := Ext.tr hE x5
 replace P0 := P0.ext x5
 have zw5 := x5.size
 obtain ⟨i, s⟩ := p
 dsimp only at hI
 obtain ⟨h1, h2⟩ := hI
 have h3 := cat_le ps i.toNat
 refine C.nmU ?_
 refine sq fun _ J6 => ?_
 refine RS.o (D.lt rfl rfl) ?_
 refine nl J6 ?_
 refine wx fun _ J7 => ?_
 refine C.ifd rfl (fun c8 => ?_) (fun c8 => ?_)
 ·refine wp_skip ?_
  refine J7 _ _ ?_
  refine wx fun _ J9 => ?_
  refine wp_block ?_
  refine sq fun _ J10 => ?_
  refine RS.idxP P0 rfl rfl V284 C51 (by omega) (fun b11 o11 p11 h11 q11 F11 G11 => ?_)
  refine RS.nm ?_
  have k1 := cat_snoc ps i.toNat (by omega)
  rw [← q11] at k1
  have k2 := cat_le ps (i.toNat + 1)
  have k3 := congrArg List.length k1
  rw [List.length_append, F11.len] at k3
  refine RS.o (D.load rfl V51 rfl (h11)) ?_
  refine RS.asS rfl ?_
  refine nl J10 (sq fun _ J12 => ?_)
  refine RS.mvI rfl ?_
  refine RS.mvS rfl ?_
  refine RS.ln V51 ?_
  refine RS.o (D.add rfl rfl (W.i64 (by omega))) ?_
  refine RS.asI rfl ?_
  refine nl J12 (sq fun _ J13 => ?_)
  refine RS.mvI rfl ?_
  refine RS.o (D.lt rfl rfl) ?_
  refine nl J13 ?_
  refine C.ifd rfl (fun c14 => ?_) (fun c14 => ?_)
  ·exact absurd c14 (by omega)
  refine wp_skip ?_
  refine J9 _ _ ?_
  refine region ?_
  refine RS.o (D.add rfl rfl (W.i64 (by omega))) ?_
  refine RS.mvI rfl ?_
  refine RS.nil ?_
  change Nx _ _ _ _ _ _ _ _
  refine C.next (_, _) ⟨rfl, rfl, trivial⟩ (by kernel_rfl) ?_ ?_
  ·refine ⟨x5, ⟨by dsimp only; omega, by dsimp only; omega⟩, ?_⟩
   dsimp only
   rw [show (i + 1).toNat = i.toNat + 1 by omega]
   omega
  dsimp only; omega
 have e0 : ps.take i.toNat = ps := List.take_of_length_le (by omega)
 rw [e0] at h2
 refine wp_exit ?_
 refine J3 _ _ ?_
 refine sq fun _ J15 => ?_
 refine RS.mvI rfl ?_
 refine RS.call E251 (grow _ (by omega) _) rfl (fun v16 w16 x16 A16 => ?_)
 replace hE := Ext.tr hE x16
 replace P0 := P0.ext x16
 have zw16 := x16.size
 obtain ⟨a16, c16, rfl, O1⟩ := A16
 replace O1 := O1.base (lo' := w.heap.size) (fun k hk => by have := O1.lo k hk; omega)
 refine RS.nm ?_
 refine RS.asS rfl ?_
 refine nl J15 ?_
 refine wx fun _ J17 => ?_
 refine sq fun _ J18 => ?_
 refine RS.mvS rfl ?_
 refine RS.ln V284 ?_
 refine RS.mvI rfl ?_
 refine nl J18 ?_
 refine wp_block ?_
 refine C.loop (A := Int × Option Addr × Nat × Nat) (fun p => [(6, .slice p.2.1 p.2.2.1 p.2.2.2), (27, .int .i64 p.1)]) [8, 28, 29, 30, 31, 32, 33, 34] (fun p w' => Pr (fun k => w.heap.size ≤ k) w16 w' ∧ ((0 ≤ p.1 ∧ p.1 ≤ n) ∧ IOwn w.heap.size w' 5 .u8 p.2.1 p.2.2.1 p.2.2.2 (cat (ps.take p.1.toNat)))) (fun p => (n - p.1.toNat)) (0, a16, 0, c16) (by kernel_rfl) ?_ ?_
 ·exact ⟨Pr.refl _ _, ⟨by dsimp only; omega, by dsimp only; omega⟩, O1⟩
 rintro p j w19 ⟨x19, hI⟩
 replace hE := hE.trans (x19.belo)
 replace P0 := P0.pro x19
 have zw19 := x19.size
 obtain ⟨j, a1, n1, c1⟩ := p
 dsimp only at hI
 obtain ⟨g1, O1⟩ := hI
 refine C.nmU ?_
 refine sq fun _ J20 => ?_
 refine RS.o (D.lt rfl rfl) ?_
 refine nl J20 ?_
 refine wx fun _ J21 => ?_
 refine C.ifd rfl (fun c22 => ?_) (fun c22 => ?_)
 ·refine wp_skip ?_
  refine J21 _ _ ?_
  refine wx fun _ J23 => ?_
  refine wp_block ?_
  refine sq fun _ J24 => ?_
  refine RS.idxP P0 rfl rfl V284 C51 (by omega) (fun b25 o25 p25 h25 q25 F25 G25 => ?_)
  refine RS.nm ?_
  have m1 := cat_snoc ps j.toNat (by omega)
  rw [← q25] at m1
  have m2 := cat_le ps (j.toNat + 1)
  have m3 := congrArg List.length m1
  rw [List.length_append, F25.len] at m3
  have hol := O1.len
  refine RS.o (D.load rfl V51 rfl (h25)) ?_
  refine RS.asS rfl ?_
  refine nl J24 ?_
  refine region ?_
  refine RS.mvS rfl ?_
  refine RS.mvS rfl ?_
  refine RS.appendI O1 F25 rfl rfl V51 T5 rfl (by omega) (by decide) (by omega) (fun a26 c26 w26 N26 x26 => ?_)
  refine RS.nm ?_
  replace hE := hE.trans (x26.belQ (fun _ h => (O1.lo _ h).1))
  replace x19 := x19.prnQ x26 (fun _ h => (O1.lo _ h).1)
  replace P0 := P0.pr x26 (by intros; try (first | (intro _ _) | (intro _) | skip); first | omega | (have hq := O1.lo _ (by assumption); first | omega | (dsimp only at *; omega)))
  replace F25 := F25.prQ x26 (fun _ h => (O1.lo _ h).1)
  have zw26 := x26.size
  replace O1 := N26
  refine RS.asS rfl ?_
  refine nl J23 ?_
  refine region ?_
  refine RS.o (D.add rfl rfl (W.i64 (by omega))) ?_
  refine RS.mvI rfl ?_
  refine RS.nil ?_
  change Nx _ _ _ _ _ _ _ _
  refine C.next (_, _, _, _) ⟨rfl, rfl, trivial⟩ (by kernel_rfl) ?_ ?_
  ·refine ⟨x19, ⟨by dsimp only; omega, by dsimp only; omega⟩, ?_⟩
   dsimp only
   rw [show (j + 1).toNat = j.toNat + 1 by omega, m1]
   exact O1
  dsimp only; omega
 refine wp_exit ?_
 refine J17 _ _ ?_
 refine sq fun _ J27 => ?_
 refine RS.mvS rfl ?_
 refine RS.asS rfl ?_
 refine nl J27 ?_
 refine wp_ret ?_
 refine retS ?_
 have e1 : ps.take j.toNat = ps := List.take_of_length_le (by omega)
 rw [e1] at O1
 exact ⟨_, rfl, hE, _, _, _, rfl, O1⟩
theorem feed {S0 S1 : Nat → Prop} (h : List Int) (a : Option Addr) (n c : Nat) (xs : List Int) (N : Int) (a2 : Option Addr) (n2 c2 : Nat) (ys : List Int) (TK : TypeId) (w : World) (H : Arr .u32 8 h) (K0 : Kst w TK) (R0 : IRow .u8 S0 w a n xs) (R1 : IRow .u8 S1 w a2 n2 ys) (hc : n ≤ c) (hc2 : n2 ≤ c2) (hN : 0 ≤ N ∧ N ≤ 1000000) (hn : n + n2 ≤ 1000000) :
  Calls Tryz.prog 256 #[.agg (ints .u32 h ++ ([.slice a n c, .int .i64 N] : List Value)).toArray, .slice a2 n2 c2] w (Ret w fun v w' => ∃ a' n' c', v = .agg (ints .u32 (S.blocksS h (xs ++ ys)) ++ ([.slice a' n' c', .int .i64 (N + n2)] : List Value)).toArray ∧ IOwn w.heap.size w' 5 .u8 a' n' c' (S.restS (xs ++ ys))) := by
 replace R0 := R0.weaken (T := fun k => k < w.heap.size) (fun k hk _ => hk)
 replace R1 := R1.weaken (T := fun k => k < w.heap.size) (fun k hk _ => hk)
 have hKl := K0.lt
 have hl0 := R0.len
 have hl1 := R1.len
 have hE := Ext.refl w
 refine enterU 27 Tryz.func256 rfl rfl ?_
 refine sq fun _ J1 => ?_
 refine RS.box rfl rfl (fun b2 w2 e2 s2 x2 B2 => ?_)
 refine RS.nm ?_
 replace hE := Ext.tr hE x2
 replace K0 := K0.ext x2
 replace R0 := R0.ext x2
 replace R1 := R1.ext x2
 have zw2 := x2.size
 have A2 := IArr.ofT (n := 8) B2 H
 clear B2
 refine RS.alloc T325 (fun b3 w3 e3 s3 x3 B3 => ?_)
 refine RS.nm ?_
 replace hE := Ext.tr hE x3
 replace K0 := K0.ext x3
 replace R0 := R0.ext x3
 replace R1 := R1.ext x3
 replace A2 := A2.ext x3
 have zw3 := x3.size
 have A3 : IArr .u32 w3 b3 8 (List.replicate 8 0) [.slice none 0 0, .int .i64 0] 325 := ⟨B3, by simp, Bd.zeros _ _⟩
 clear B3
 refine nl J1 (sq fun _ J4 => ?_)
 refine RS.fl 8 V325 rfl C51 ?_
 refine RS.o (D.load rfl V51 rfl (A2.tail 0 rfl)) ?_
 refine RS.mvS rfl ?_
 refine RS.buildSlice (xs := [.tmp 7, .tmp 8]) (vs := [.slice _ _ _, .slice _ _ _]) (cs := [.slice _ _ _, .slice _ _ _]) V284 T51 (by decide) rfl rfl rfl rfl rfl rfl (by intro v hv; simp only [List.mem_cons, List.not_mem_nil, or_false] at hv; rcases hv with rfl | rfl <;> rfl) rfl (fun b5 w5 e5 s5 x5 B5 => ?_)
 refine RS.nm ?_
 replace hE := Ext.tr hE x5
 replace K0 := K0.ext x5
 replace R0 := R0.ext x5
 replace R1 := R1.ext x5
 replace A2 := A2.ext x5
 replace A3 := A3.ext x5
 have zw5 := x5.size
 refine RS.call E206 (concat [⟨a, n, c, xs⟩, ⟨a2, n2, c2, ys⟩] _ _ _ _ (PRow.of_blkE B5 rfl rfl ⟨⟨_, R0, hc⟩, ⟨_, R1, hc2⟩, trivial⟩) (show (2 : Nat) ≤ 1000 by decide) (by simp [cat]; omega)) rfl (fun v6 w6 x6 A6 => ?_)
 replace hE := Ext.tr hE x6
 replace K0 := K0.ext x6
 replace R0 := R0.ext x6
 replace R1 := R1.ext x6
 replace A2 := A2.ext x6
 replace A3 := A3.ext x6
 replace B5 := B5.ext x6
 have zw6 := x6.size
 obtain ⟨a6, n6, c6, rfl, O1⟩ := A6
 have ecat : cat [⟨a, n, c, xs⟩, ⟨a2, n2, c2, ys⟩] = xs ++ ys := by simp [cat]
 rw [ecat] at O1
 have hol := O1.len
 rw [List.length_append] at hol
 have hoc := O1.own.cap
 have R2 := O1.row.weaken (T := fun k => b3 < k) (fun k _ hk => by omega)
 refine RS.nm ?_
 refine RS.asS rfl ?_
 refine nl J4 ?_
 refine wx fun _ J7 => ?_
 refine wp_block ?_
 refine C.loop (A := List Int × Option Addr × Nat × Nat × List Int) (fun p => [(5, .slice p.2.1 p.2.2.1 p.2.2.2.1)]) [11, 12, 13, 14, 15, 16, 17, 18] (fun p w' => Pr (fun k => k = b2) w6 w' ∧ (IArr .u32 w' b2 8 p.1 [.slice a n c, .int .i64 N] 325 ∧ IRow .u8 (fun k => b3 < k) w' p.2.1 p.2.2.1 p.2.2.2.2 ∧ p.2.2.1 ≤ p.2.2.2.1 ∧ p.2.2.1 ≤ n + n2 ∧ S.blocksS p.1 p.2.2.2.2 = S.blocksS h (xs ++ ys) ∧ S.restS p.2.2.2.2 = S.restS (xs ++ ys))) (fun p => p.2.2.1) (h, a6, n6, c6, xs ++ ys) (by kernel_rfl) ?_ ?_
 ·exact ⟨Pr.refl _ _, A2, R2, by dsimp only; omega, by dsimp only; omega, rfl, rfl⟩
 rintro p j w8 ⟨x8, hI⟩
 replace hE := hE.trans (x8.belo)
 replace K0 := K0.pro x8
 replace R0 := R0.pro x8
 replace R1 := R1.pro x8
 replace A3 := A3.pro x8
 replace B5 := B5.pro x8
 have zw8 := x8.size
 obtain ⟨hh, ar, nr, cr, rr⟩ := p
 dsimp only at hI
 obtain ⟨A2, R2, h1, h2, h3, h4⟩ := hI
 have hrl := R2.len
 have hal := A2.lt
 refine C.nmU ?_
 refine wx fun _ J9 => ?_
 refine sq fun _ J10 => ?_
 refine RS.mvS rfl ?_
 refine RS.ln V51 ?_
 refine RS.o (D.ge rfl rfl) ?_
 refine nl J10 ?_
 refine C.ifd rfl (fun c11 => ?_) (fun c11 => ?_)
 ·refine wp_skip ?_
  refine J9 _ _ ?_
  refine wp_block ?_
  refine sq fun _ J12 => ?_
  refine RS.fl 0 V325 rfl C255 ?_
  refine RS.mvS rfl ?_
  refine RS.callx E286 (grind _ _ _ _ _ _ _ _ _ _ A2 K0 R2 (by omega) (by omega) (by omega)) rfl (fun e13 w13 A13 => ?_)
  obtain ⟨rfl, X13, N13⟩ := A13
  refine ⟨_, rfl, ?_⟩
  refine RS.nm ?_
  replace hE := hE.trans (X13.belo)
  replace x8 := x8.prno X13
  replace K0 := K0.pro X13
  replace R0 := R0.pro X13
  replace R1 := R1.pro X13
  replace A3 := A3.pro X13
  replace B5 := B5.pro X13
  replace R2 := R2.pro X13
  have zw13 := X13.size
  replace A2 := N13
  refine nl J12 ?_
  refine region ?_
  refine RS.mvS rfl ?_
  refine RS.o (D.slice (kl := .i64) (kh := .i64) rfl V51 C5 (by decide) rfl rfl (by omega) (by omega)) ?_
  refine RS.asS rfl ?_
  refine RS.nil ?_
  change Nx _ _ _ _ _ _ _ _
  refine C.next (S.grind hh rr, subA ar 64 1 cr, nr - 64, cr - 64, rr.drop 64) ⟨rfl, trivial⟩ (by kernel_rfl) ?_ ?_
  ·refine ⟨x8, A2, R2.rest 64 cr (by omega) (by omega), by dsimp only; omega, by dsimp only; omega, ?_, ?_⟩
   ·dsimp only; rw [S.blocks_ge _ _ (by omega)]; exact h3
   dsimp only; rw [S.rest_ge _ (by omega)]; exact h4
  dsimp only; omega
 have hlt := c11
 refine wp_exit ?_
 refine J7 _ _ ?_
 refine wx fun _ J14 => ?_
 refine regionX Ext [(0, .q), (1, .q), (2, .q), (3, .q), (4, .q), (5, .q), (6, .e), (7, .q), (8, .g), (9, .q), (10, .g)] mixed Ext.refl (fun h k => h.tr k) (by kernel_rfl) (fun w15 x15 => ?_)
 replace hE := Ext.tr hE x15
 replace K0 := K0.ext x15
 replace R0 := R0.ext x15
 replace R1 := R1.ext x15
 replace A2 := A2.ext x15
 replace A3 := A3.ext x15
 replace B5 := B5.ext x15
 replace R2 := R2.ext x15
 have zw15 := x15.size
 refine RX.fl 9 V325 rfl C3 ?_
 refine RX.o (fun w' hw => D.load rfl V3 rfl ((A2.ext hw).tail 1 rfl)) ?_
 refine RX.mvS rfl ?_
 refine RX.o (fun w' hw => D.len rfl V51) ?_
 refine RX.o (fun w' hw => D.add rfl rfl (W.i64 (by omega))) ?_
 refine RX.mvS rfl ?_
 refine RX.eff ?_
 refine RS.call E138 (cloneB _ _ _ _ _ R2 (by omega)) rfl (fun v16 w16 x16 A16 => ?_)
 replace hE := Ext.tr hE x16
 replace K0 := K0.ext x16
 replace R0 := R0.ext x16
 replace R1 := R1.ext x16
 replace A2 := A2.ext x16
 replace A3 := A3.ext x16
 replace B5 := B5.ext x16
 replace R2 := R2.ext x16
 have zw16 := x16.size
 obtain ⟨a16, n16, c16, rfl, O2⟩ := A16
 refine RS.nm ?_
 refine RS.nil ⟨x16, ?_⟩
 refine RX.fl 9 V325 rfl C3 ?_
 refine RX.big ?_
 refine RS.storeT A2 1 rfl rfl C3 rfl rfl (fun w17 y17 N17 => ?_)
 replace hE := hE.trans (y17.belo)
 replace K0 := K0.sto y17
 replace R0 := R0.sto y17
 replace R1 := R1.sto y17
 replace A3 := A3.sto y17
 replace B5 := B5.sto y17
 replace R2 := R2.sto y17
 replace O2 := O2.stQ y17 (fun _ h => (O2.own.lo _ h).1)
 have zw17 := y17.size
 replace A2 := N17
 refine RS.nil ?_
 refine RX.fl 8 V325 rfl C51 ?_
 refine RX.big ?_
 refine RS.storeT A2 0 rfl rfl C51 rfl rfl (fun w18 y18 N18 => ?_)
 replace hE := hE.trans (y18.belo)
 replace K0 := K0.sto y18
 replace R0 := R0.sto y18
 replace R1 := R1.sto y18
 replace A3 := A3.sto y18
 replace B5 := B5.sto y18
 replace R2 := R2.sto y18
 replace O2 := O2.stQ y18 (fun _ h => (O2.own.lo _ h).1)
 have zw18 := y18.size
 replace A2 := N18
 refine RS.nil ?_
 refine RX.nil (J14 _ _ ?_)
 refine wx fun _ J19 => ?_
 have harr := A2.arr
 refine region ?_
 refine RS.o (D.loadAgg rfl V325 rfl C325 (by decide) (A2.allLen rfl) A2.all) ?_
 refine RS.storeRec A3 rfl rfl C325 (by decide) (by assumption) rfl rfl (by intro v hv; simp at hv; rcases hv with rfl | rfl <;> rfl) (fun w20 y20 N20 => ?_)
 replace hE := hE.trans (y20.belo)
 replace K0 := K0.sto y20
 replace R0 := R0.sto y20
 replace R1 := R1.sto y20
 replace A2 := A2.sto y20
 replace B5 := B5.sto y20
 replace R2 := R2.sto y20
 replace O2 := O2.stQ y20 (fun _ h => (O2.own.lo _ h).1)
 have zw20 := y20.size
 replace A3 := N20
 refine nl J19 ?_
 refine wp_ret ?_
 refine ret (rs := [.cell 4 325]) (vs := [.agg _]) (v := (.agg _)) rfl ⟨⟨_, rfl, loadVar_agg V325 rfl C325 (by decide) (A3.allLen rfl) A3.all⟩, trivial⟩ rfl ?_
 rw [S.blocks_lt _ _ (by omega)] at h3
 rw [S.rest_lt _ (by omega)] at h4
 rw [← h3, ← h4]
 exact ⟨_, rfl, hE, _, _, _, rfl, O2.base (fun k hk => by have := O2.lo k hk; omega)⟩
theorem endd {S0 : Nat → Prop} (h : List Int) (a : Option Addr) (n c : Nat) (xs : List Int) (N : Int) (TK : TypeId) (w : World) (H : Arr .u32 8 h) (K0 : Kst w TK) (R0 : IRow .u8 S0 w a n xs) (hc : n ≤ c) (hN : 0 ≤ N ∧ N ≤ 200000) (hn : n ≤ 200000) :
  Calls Tryz.prog 257 #[.agg (ints .u32 h ++ ([.slice a n c, .int .i64 N] : List Value)).toArray] w (Ret w fun v _ => v = .agg (ints .u8 (S.outS (S.blocksS h (xs ++ S.padS N)))).toArray) := by
 replace R0 := R0.weaken (T := fun k => k < w.heap.size) (fun k hk _ => hk)
 have hKl := K0.lt
 have hl0 := R0.len
 have hE := Ext.refl w
 refine enterU 65 Tryz.func257 rfl rfl ?_
 refine sq fun _ J1 => ?_
 refine RS.box rfl rfl (fun b2 w2 e2 s2 x2 B2 => ?_)
 refine RS.nm ?_
 replace hE := Ext.tr hE x2
 replace K0 := K0.ext x2
 replace R0 := R0.ext x2
 have zw2 := x2.size
 have A2 := IArr.ofT (n := 8) B2 H
 clear B2
 refine RS.alloc T27 (fun b3 w3 e3 s3 x3 B3 => ?_)
 refine RS.nm ?_
 replace hE := Ext.tr hE x3
 replace K0 := K0.ext x3
 replace R0 := R0.ext x3
 replace A2 := A2.ext x3
 have zw3 := x3.size
 have A3 : IArr .u8 w3 b3 32 (List.replicate 32 0) [] 27 := IArr.zero B3
 clear B3
 refine nl J1 (sq fun _ J4 => ?_)
 refine RS.fl 9 V325 rfl C3 ?_
 refine RS.o (D.load rfl V3 rfl (A2.tail 1 rfl)) ?_
 refine RS.o (D.conv rfl V3 V22 (W.u64 (by omega))) ?_
 refine RS.o (D.mul rfl rfl (W.u64 (by omega))) ?_
 refine RS.asI rfl ?_
 refine nl J4 (sq fun _ J5 => ?_)
 refine RS.buildSlice (xs := [.const (.int .u8 128)]) (vs := [.int _ _]) (cs := [.int _ _]) V51 T5 (by decide) rfl rfl rfl rfl rfl rfl (by intro v hv; simp only [List.mem_cons, List.not_mem_nil, or_false] at hv; subst hv; rfl) rfl (fun b6 w6 e6 s6 x6 B6 => ?_)
 refine RS.nm ?_
 replace hE := Ext.tr hE x6
 replace K0 := K0.ext x6
 replace R0 := R0.ext x6
 replace A2 := A2.ext x6
 replace A3 := A3.ext x6
 have zw6 := x6.size
 have O1 : IOwn w3.heap.size w6 5 .u8 (some ⟨b6, 0, none⟩) 1 1 [_] := IOwn.of_blk B6 rfl rfl (by omega) (.cons (by simp only [lim]; omega) (.nil _)) (by decide)
 refine RS.fl 9 V325 rfl C3 ?_
 refine RS.o (D.load rfl V3 rfl (A2.tail 1 rfl)) ?_
 refine RS.o (D.rem rfl rfl (by omega) (by omega)) ?_
 refine RS.o (D.sub rfl rfl (W.i64 (by omega))) ?_
 refine RS.o (D.rem rfl rfl (by omega) (by omega)) ?_
 refine RS.appendZ O1 rfl rfl (by omega) V51 V3 T5 (by omega) (by decide) (by omega) (fun a7 c7 w7 N7 x7 => ?_)
 refine RS.nm ?_
 replace hE := hE.trans (x7.belQ (fun _ h => (O1.lo _ h).1))
 replace K0 := K0.prQ x7 (fun _ h => (O1.lo _ h).1)
 replace R0 := R0.prQ x7 (fun _ h => (O1.lo _ h).1)
 replace A2 := A2.prQ x7 (fun _ h => (O1.lo _ h).1)
 replace A3 := A3.prQ x7 (fun _ h => (O1.lo _ h).1)
 have zw7 := x7.size
 replace O1 := N7
 refine RS.asS rfl ?_
 refine nl J5 ?_
 refine wx fun _ J8 => ?_
 refine sq fun _ J9 => ?_
 refine RS.asI rfl ?_
 refine nl J9 ?_
 refine wp_block ?_
 refine C.loop (A := Int × Option Addr × Nat × Nat) (fun p => [(4, .slice p.2.1 p.2.2.1 p.2.2.2), (5, .int .i64 p.1)]) [19, 20, 21, 22, 23, 24, 25, 26, 27, 28, 29] (fun p w' => Pr (fun k => w3.heap.size ≤ k) w7 w' ∧ ((-8 ≤ p.1 ∧ p.1 ≤ 56) ∧ p.1 % 8 = 0 ∧ IOwn w3.heap.size w' 5 .u8 p.2.1 p.2.2.1 p.2.2.2 (([128] ++ List.replicate ((119 - N % 64) % 64).toNat 0) ++ (S.be8 (N * 8)).take ((56 - p.1) / 8).toNat))) (fun p => (p.1 + 8).toNat) (56, a7, 1 + ((119 - N % 64) % 64).toNat, c7) (by kernel_rfl) ?_ ?_
 ·exact ⟨Pr.refl _ _, ⟨by dsimp only; omega, by dsimp only; omega⟩, by dsimp only; omega, by simpa using O1⟩
 rintro p j w10 ⟨x10, hI⟩
 replace hE := hE.trans (x10.belo)
 replace K0 := K0.pro x10
 replace R0 := R0.pro x10
 replace A2 := A2.pro x10
 replace A3 := A3.pro x10
 have zw10 := x10.size
 obtain ⟨i, ao, no, co⟩ := p
 dsimp only at hI
 obtain ⟨h1, h2, O1⟩ := hI
 have hol := O1.len
 simp only [List.length_append, List.length_singleton, List.length_replicate, List.length_take, S.be8_len] at hol
 refine C.nmU ?_
 refine wx fun _ J11 => ?_
 refine sq fun _ J12 => ?_
 refine RS.mvI rfl ?_
 refine RS.o (D.ge rfl rfl) ?_
 refine nl J12 ?_
 refine C.ifd rfl (fun c13 => ?_) (fun c13 => ?_)
 ·refine wp_skip ?_
  refine J11 _ _ ?_
  refine wx fun _ J14 => ?_
  refine wp_block ?_
  refine region ?_
  refine RS.mvS rfl ?_
  refine RS.mvI rfl ?_
  refine RS.mvI rfl ?_
  refine RS.ob (D.shr_u64 rfl rfl (by omega) (by constructor <;> omega)) (fun z15 => ?_)
  refine RS.o (D.conv rfl V22 V5 (W.u8m _)) ?_
  refine RS.buildSlice (xs := [.tmp 27]) (vs := [.int _ _]) (cs := [.int _ _]) V51 T5 (by decide) rfl rfl rfl rfl rfl rfl (by intro v hv; simp only [List.mem_cons, List.not_mem_nil, or_false] at hv; subst hv; rfl) rfl (fun b16 w16 e16 s16 x16 B16 => ?_)
  refine RS.nm ?_
  replace hE := Ext.tr hE x16
  replace x10 := x10.ext x16
  replace K0 := K0.ext x16
  replace R0 := R0.ext x16
  replace A2 := A2.ext x16
  replace A3 := A3.ext x16
  replace O1 := O1.ext x16
  have zw16 := x16.size
  have Q1 : IRow .u8 (fun k => k = b16) w16 (some ⟨b16, 0, none⟩) 1 [_] := IRow.of_blk B16 rfl rfl rfl (.cons (by simp only [lim]; omega) (.nil _))
  refine RS.appendI O1 Q1 rfl rfl V51 T5 rfl (by omega) (by decide) (by omega) (fun a17 c17 w17 N17 x17 => ?_)
  refine RS.nm ?_
  replace hE := hE.trans (x17.belQ (fun _ h => (O1.lo _ h).1))
  replace x10 := x10.prnQ x17 (fun _ h => (O1.lo _ h).1)
  replace K0 := K0.prQ x17 (fun _ h => (O1.lo _ h).1)
  replace R0 := R0.prQ x17 (fun _ h => (O1.lo _ h).1)
  replace A2 := A2.prQ x17 (fun _ h => (O1.lo _ h).1)
  replace A3 := A3.prQ x17 (fun _ h => (O1.lo _ h).1)
  have zw17 := x17.size
  replace O1 := N17
  refine RS.asS rfl ?_
  refine nl J14 ?_
  refine region ?_
  refine RS.mvI rfl ?_
  refine RS.o (D.sub rfl rfl (W.i64 (by omega))) ?_
  refine RS.asI rfl ?_
  refine RS.nil ?_
  change Nx _ _ _ _ _ _ _ _
  refine C.next (i - 8, _, _, _) ⟨rfl, rfl, trivial⟩ (by kernel_rfl) ?_ ?_
  ·refine ⟨x10, ⟨by dsimp only; omega, by dsimp only; omega⟩, by dsimp only; omega, ?_⟩
   dsimp only
   rw [S.be8_snoc _ _ (by omega) h2, ← List.append_assoc]
   exact O1
  dsimp only; omega
 refine wp_exit ?_
 refine J8 _ _ ?_
 refine wx fun _ J18 => ?_
 refine sq fun _ J19 => ?_
 refine RS.o (D.loadAgg rfl V325 rfl C325 (by decide) (A2.allLen rfl) A2.all) ?_
 refine RS.mvS rfl ?_
 have e0 : i = -8 := by omega
 rw [e0, show ((56 - (-8 : Int)) / 8).toNat = 8 from rfl, List.take_of_length_le (by rw [S.be8_len]; exact Nat.le_refl _), Int.mul_comm N 8, S.pad_eq N _ rfl] at O1
 have hoc := O1.own.cap
 have RP := O1.row
 refine RS.call E256 (feed _ _ _ _ xs _ _ _ _ (S.padS N) _ _ H K0 R0 RP hc (by omega) (by omega) (by omega)) rfl (fun v20 w20 x20 A20 => ?_)
 replace hE := Ext.tr hE x20
 replace K0 := K0.ext x20
 replace R0 := R0.ext x20
 replace A2 := A2.ext x20
 replace A3 := A3.ext x20
 replace O1 := O1.ext x20
 have zw20 := x20.size
 obtain ⟨a20, n20, c20, rfl, O2⟩ := A20
 have hfa := S.blocks_arr h (xs ++ S.padS N) H
 refine RS.nm ?_
 refine RS.o (D.field rfl V325 rfl V255 (fieldI C255 hfa.1) (by intro h; cases h) rfl) ?_
 refine RS.mvI rfl ?_
 refine nl J19 ?_
 refine wp_block ?_
 refine C.loop (A := Int × List Int) (fun p => [(34, .int .i64 p.1)]) [6, 7, 35, 36, 37, 38, 39, 40, 41, 42, 43, 44, 45, 46, 47, 48, 49, 50, 51, 52, 53, 54, 55, 56, 57, 58, 59, 60, 61, 62, 63, 64] (fun p w' => Pr (fun k => k = b3) w20 w' ∧ (IArr .u8 w' b3 32 p.2 [] 27 ∧ (0 ≤ p.1 ∧ p.1 ≤ 8) ∧ p.2 = (S.outS (S.blocksS h (xs ++ S.padS N))).take (4 * p.1).toNat ++ (List.replicate 32 0).drop (4 * p.1).toNat)) (fun p => (8 - p.1.toNat)) (0, List.replicate 32 0) (by kernel_rfl) ?_ ?_
 ·exact ⟨Pr.refl _ _, A3, ⟨by dsimp only; omega, by dsimp only; omega⟩, by simp⟩
 rintro p j w21 ⟨x21, hI⟩
 replace hE := hE.trans (x21.belo)
 replace K0 := K0.pro x21
 replace R0 := R0.pro x21
 replace A2 := A2.pro x21
 replace O1 := O1.prQ x21 (fun _ h => (O1.own.lo _ h).1)
 have zw21 := x21.size
 obtain ⟨j, ids⟩ := p
 dsimp only at hI
 obtain ⟨A3, g1, g2⟩ := hI
 have hil := A3.len
 refine C.nmU ?_
 refine sq fun _ J22 => ?_
 refine RS.o (D.lt rfl rfl) ?_
 refine nl J22 ?_
 refine wx fun _ J23 => ?_
 refine C.ifd rfl (fun c24 => ?_) (fun c24 => ?_)
 ·refine wp_skip ?_
  refine J23 _ _ ?_
  refine wx fun _ J25 => ?_
  refine wp_block ?_
  refine sq fun _ J26 => ?_
  refine RS.mvI rfl ?_
  refine RS.idxV rfl rfl V255 V37 rfl C37 (by omega) hfa.1 hfa.2 (fun v27 q27 r27 => ?_)
  refine RS.nm ?_
  simp only [lim] at r27
  have qw := q27
  refine RS.asI rfl ?_
  refine RS.asI rfl ?_
  refine nl J26 ?_
  refine region ?_
  refine RS.mvI rfl ?_
  refine RS.o (D.mul rfl rfl (W.i64 (by omega))) ?_
  refine RS.mvI rfl ?_
  refine RS.o (D.mul rfl rfl (W.i64 (by omega))) ?_
  refine RS.o (D.add rfl rfl (W.i64 (by omega))) ?_
  refine RS.mvI rfl ?_
  refine RS.o (D.mul rfl rfl (W.i64 (by omega))) ?_
  refine RS.o (D.add rfl rfl (W.i64 (by omega))) ?_
  refine RS.mvI rfl ?_
  refine RS.o (D.mul rfl rfl (W.i64 (by omega))) ?_
  refine RS.o (D.add rfl rfl (W.i64 (by omega))) ?_
  refine RS.mvI rfl ?_
  refine RS.ob (D.shr_u32 rfl rfl (by omega) (by constructor <;> omega)) (fun z28 => ?_)
  refine RS.o (D.conv rfl V37 V5 (W.u8m _)) ?_
  refine RS.mvI rfl ?_
  refine RS.ob (D.shr_u32 rfl rfl (by omega) (by constructor <;> omega)) (fun z29 => ?_)
  refine RS.o (D.conv rfl V37 V5 (W.u8m _)) ?_
  refine RS.mvI rfl ?_
  refine RS.ob (D.shr_u32 rfl rfl (by omega) (by constructor <;> omega)) (fun z30 => ?_)
  refine RS.o (D.conv rfl V37 V5 (W.u8m _)) ?_
  refine RS.mvI rfl ?_
  refine RS.o (D.conv rfl V37 V5 (W.u8m _)) ?_
  refine RS.idxA A3 rfl rfl V27 C5 (by omega) (fun v31 h31 q31 r31 => ?_)
  refine RS.nm ?_
  simp only [lim] at r31
  refine RS.storeA A3 rfl rfl C5 (by omega) (by simp only [lim]; omega) (fun w32 y32 N32 => ?_)
  replace hE := hE.trans (y32.belo)
  replace x21 := x21.stno y32
  replace K0 := K0.sto y32
  replace R0 := R0.sto y32
  replace A2 := A2.sto y32
  replace O1 := O1.stQ y32 (fun _ h => (O1.own.lo _ h).1)
  have zw32 := y32.size
  replace A3 := N32
  refine RS.idxA A3 rfl rfl V27 C5 (by omega) (fun v33 h33 q33 r33 => ?_)
  refine RS.nm ?_
  simp only [lim] at r33
  refine RS.storeA A3 rfl rfl C5 (by omega) (by simp only [lim]; omega) (fun w34 y34 N34 => ?_)
  replace hE := hE.trans (y34.belo)
  replace x21 := x21.stno y34
  replace K0 := K0.sto y34
  replace R0 := R0.sto y34
  replace A2 := A2.sto y34
  replace O1 := O1.stQ y34 (fun _ h => (O1.own.lo _ h).1)
  have zw34 := y34.size
  replace A3 := N34
  refine RS.idxA A3 rfl rfl V27 C5 (by omega) (fun v35 h35 q35 r35 => ?_)
  refine RS.nm ?_
  simp only [lim] at r35
  refine RS.storeA A3 rfl rfl C5 (by omega) (by simp only [lim]; omega) (fun w36 y36 N36 => ?_)
  replace hE := hE.trans (y36.belo)
  replace x21 := x21.stno y36
  replace K0 := K0.sto y36
  replace R0 := R0.sto y36
  replace A2 := A2.sto y36
  replace O1 := O1.stQ y36 (fun _ h => (O1.own.lo _ h).1)
  have zw36 := y36.size
  replace A3 := N36
  refine RS.idxA A3 rfl rfl V27 C5 (by omega) (fun v37 h37 q37 r37 => ?_)
  refine RS.nm ?_
  simp only [lim] at r37
  refine RS.storeA A3 rfl rfl C5 (by omega) (by simp only [lim]; omega) (fun w38 y38 N38 => ?_)
  replace hE := hE.trans (y38.belo)
  replace x21 := x21.stno y38
  replace K0 := K0.sto y38
  replace R0 := R0.sto y38
  replace A2 := A2.sto y38
  replace O1 := O1.stQ y38 (fun _ h => (O1.own.lo _ h).1)
  have zw38 := y38.size
  replace A3 := N38
  refine nl J25 ?_
  refine region ?_
  refine RS.o (D.add rfl rfl (W.i64 (by omega))) ?_
  refine RS.mvI rfl ?_
  refine RS.nil ?_
  change Nx _ _ _ _ _ _ _ _
  refine C.next (j + 1, (((ids.set (4 * j).toNat (v27 / 2 ^ (24 : Int).toNat % 256)).set (4 * j + 1).toNat (v27 / 2 ^ (16 : Int).toNat % 256)).set (4 * j + 2).toNat (v27 / 2 ^ (8 : Int).toNat % 256)).set (4 * j + 3).toNat (v27 % 256)) ⟨rfl, trivial⟩ (by kernel_rfl) ?_ ?_
  ·refine ⟨x21, A3, ⟨by dsimp only; omega, by dsimp only; omega⟩, ?_⟩
   dsimp only
   exact S.out_step _ _ j _ ⟨by omega, by omega⟩ qw g2
  dsimp only; omega
 refine wp_exit ?_
 refine J18 _ _ ?_
 refine sq fun _ J39 => ?_
 refine RS.o (D.loadAgg rfl V27 rfl C27 (by decide) (by rw [ints_length, A3.len]) A3.cells) ?_
 refine RS.storeArr A3 rfl rfl C27 (by decide) (by first | assumption | exact And.left (by assumption) | exact IArr.len (by assumption)) (by first | assumption | exact And.right (by assumption) | exact IArr.bd (by assumption)) (fun w40 y40 N40 => ?_)
 replace hE := hE.trans (y40.belo)
 replace K0 := K0.sto y40
 replace R0 := R0.sto y40
 replace A2 := A2.sto y40
 replace O1 := O1.stQ y40 (fun _ h => (O1.own.lo _ h).1)
 have zw40 := y40.size
 replace A3 := N40
 refine nl J39 ?_
 refine wp_ret ?_
 refine ret (rs := [.cell 2 27]) (vs := [.agg _]) (v := (.agg _)) rfl ⟨⟨_, rfl, loadVar_agg V27 rfl C27 (by decide) (by rw [ints_length, A3.len]) A3.cells⟩, trivial⟩ rfl ?_
 refine ⟨_, rfl, hE, ?_⟩
 rw [g2, show (4 * j).toNat = 32 by omega, List.take_of_length_le (by rw [(S.out_arr _).1]; exact Nat.le_refl _), List.drop_eq_nil_of_le (by simp), List.append_nil]
theorem indexP {S0 : Nat → Prop} (ps : List Pc) (a : Option Addr) (n c : Nat) (w : World) (P0 : PRow .u8 S0 w a n ps) (hn : n ≤ 1000) (hx : ∀ p ∈ ps, p.xs.length ≤ 10000) :
  Calls Tryz.prog 285 #[.slice a n c, .func (.func 254) #[] #[]] w (Ret w fun v _ => v = .int .i64 (-1)) := by
 replace P0 := P0.weaken (T := fun k => k < w.heap.size) (fun k hk _ => hk)
 have hPl := P0.len
 have hE := Ext.refl w
 refine enterU 17 Tryz.func285 rfl rfl ?_
 refine sq fun _ J1 => ?_
 refine RS.asI rfl ?_
 refine nl J1 ?_
 refine wx fun _ J2 => ?_
 refine sq fun _ J3 => ?_
 refine RS.mvS rfl ?_
 refine RS.ln V284 ?_
 refine RS.mvI rfl ?_
 refine nl J3 ?_
 refine wp_block ?_
 refine C.loop (A := Int) (fun p => [(8, .int .i64 p)]) [4, 5, 9, 10, 11, 12, 13, 14, 15, 16, 17, 18] (fun p w' => Ext w w' ∧ (0 ≤ p ∧ p ≤ n)) (fun p => (n - p.toNat)) 0 (by kernel_rfl) ?_ ?_
 ·exact ⟨Ext.refl _, by omega, by omega⟩
 rintro p j w4 ⟨x4, hI⟩
 replace hE := Ext.tr hE x4
 replace P0 := P0.ext x4
 have zw4 := x4.size
 obtain ⟨h1, h2⟩ := hI
 refine C.nmU ?_
 refine sq fun _ J5 => ?_
 refine RS.o (D.lt rfl rfl) ?_
 refine nl J5 ?_
 refine wx fun _ J6 => ?_
 refine C.ifd rfl (fun c7 => ?_) (fun c7 => ?_)
 ·refine wp_skip ?_
  refine J6 _ _ ?_
  refine wx fun _ J8 => ?_
  refine wp_block ?_
  refine sq fun _ J9 => ?_
  refine RS.mvI rfl ?_
  refine RS.asI rfl ?_
  refine nl J9 (sq fun _ J10 => ?_)
  refine RS.move (v := .func _ _ _) rfl ?_
  refine RS.mvS rfl ?_
  refine RS.mvI rfl ?_
  refine RS.idxP P0 rfl rfl V284 C51 (by omega) (fun b11 o11 p11 h11 q11 F11 G11 => ?_)
  refine RS.nm ?_
  have k1 : p11.n ≤ 10000 := by rw [← F11.len]; exact hx _ (by rw [q11, List.getD_eq_getElem?_getD, List.getElem?_eq_getElem (show p.toNat < ps.length by omega)]; exact List.getElem_mem _)
  refine RS.o (D.load rfl V51 rfl (h11)) ?_
  refine RS.callv E254 (piece1 _ _ _ k1 _) rfl rfl (fun e12 w12 A12 => ?_)
  obtain ⟨v12, rfl, x12, A12⟩ := A12
  refine ⟨_, rfl, ?_⟩
  replace hE := Ext.tr hE x12
  replace x4 := Ext.tr x4 x12
  replace P0 := P0.ext x12
  replace F11 := F11.ext x12
  have zw12 := x12.size
  subst A12
  refine RS.nm ?_
  refine nl J10 ?_
  refine C.ifb rfl (fun c13 => ?_) (fun c13 => ?_)
  ·exact absurd c13 (by decide)
  refine wp_skip ?_
  refine J8 _ _ ?_
  refine region ?_
  refine RS.o (D.add rfl rfl (W.i64 (by omega))) ?_
  refine RS.mvI rfl ?_
  refine RS.nil ?_
  change Nx _ _ _ _ _ _ _ _
  refine C.next (p + 1) ⟨rfl, trivial⟩ (by kernel_rfl) ?_ ?_
  ·exact ⟨x4, by omega, by omega⟩
  omega
 refine wp_exit ?_
 refine J2 _ _ ?_
 refine sq fun _ J14 => ?_
 refine RS.asI rfl ?_
 refine nl J14 ?_
 refine wp_ret ?_
 refine retI rfl rfl ?_
 exact ⟨_, rfl, hE, rfl⟩
theorem containsP {S0 : Nat → Prop} (ps : List Pc) (a : Option Addr) (n c : Nat) (w : World) (P0 : PRow .u8 S0 w a n ps) (hn : n ≤ 1000) (hx : ∀ p ∈ ps, p.xs.length ≤ 10000) :
  Calls Tryz.prog 253 #[.slice a n c, .func (.func 254) #[] #[]] w (Ret w fun v _ => v = .bool false) := by
 have hE := Ext.refl w
 refine enterU 7 Tryz.func253 rfl rfl ?_
 refine sq fun _ J1 => ?_
 refine RS.asB rfl ?_
 refine nl J1 (sq fun _ J2 => ?_)
 refine RS.mvS rfl ?_
 refine RS.move (v := .func _ _ _) rfl ?_
 refine RS.call E285 (indexP _ _ _ _ _ P0 hn hx) rfl (fun v3 w3 x3 A3 => ?_)
 replace hE := Ext.tr hE x3
 replace P0 := P0.ext x3
 have zw3 := x3.size
 subst A3
 refine RS.nm ?_
 refine RS.o (D.ge rfl rfl) ?_
 refine RS.asB rfl ?_
 refine nl J2 ?_
 refine wp_ret ?_
 refine retB rfl rfl ?_
 exact ⟨_, rfl, hE, rfl⟩
end Go.Proofs.YtkmaenmhcgohbaaGreatDoor.W
