/-
  Part 5 of the lemmas of these laws: PoolDoes.
-/
import Derived.Test.YtkmaenmhcgohbaaGreatDoorPPd4
set_option linter.unusedSimpArgs false
namespace Go.Proofs.YtkmaenmhcgohbaaGreatDoor.W
open Go.RowKit Go.Proofs.YtkmaenmhcgohbaaGreatDoor.G
set_option linter.unusedVariables false
set_option maxRecDepth 20000
set_option maxHeartbeats 8000000
attribute [local irreducible] RS RX
theorem E197 : Enters Tryz.prog 197 := .mk Tryz.func197 (by kernel_rfl) rfl
theorem E208 : Enters Tryz.prog 208 := .mk Tryz.func208 (by kernel_rfl) rfl
theorem E253 : Enters Tryz.prog 253 := .mk Tryz.func253 (by kernel_rfl) rfl
theorem E255 : Enters Tryz.prog 255 := .mk Tryz.func255 (by kernel_rfl) rfl
theorem E257 : Enters Tryz.prog 257 := .mk Tryz.func257 (by kernel_rfl) rfl
theorem pieces {S0 : Nat → Prop} (ps : List Pc) (a : Option Addr) (n c : Nat) (TK : TypeId) (w : World) (K0 : Kst w TK) (P0 : PRow .u8 S0 w a n ps) (hn : n ≤ 20) (hx : ∀ p ∈ ps, p.xs.length ≤ 10000) (hT : (cat ps).length ≤ 200000) :
  Calls Tryz.prog 208 #[.slice a n c] w (Ret w fun v _ => v = .tuple #[.agg (ints .u8 (S.sha (cat ps))).toArray, .int .i64 0]) := by
 replace P0 := P0.weaken (T := fun k => k < w.heap.size) (fun k hk _ => hk)
 have hPl := P0.len
 have hKl := K0.lt
 have hE := Ext.refl w
 refine enterU 27 Tryz.func208 rfl rfl ?_
 refine sq fun _ J1 => ?_
 refine RS.alloc T27 (fun b2 w2 e2 s2 x2 B2 => ?_)
 refine RS.nm ?_
 replace hE := Ext.tr hE x2
 replace K0 := K0.ext x2
 replace P0 := P0.ext x2
 have zw2 := x2.size
 have A2 : IArr .u8 w2 b2 32 (List.replicate 32 0) [] 27 := IArr.zero B2
 clear B2
 refine RS.asI rfl ?_
 refine nl J1 ?_
 refine wx fun _ J3 => ?_
 refine sq fun _ J4 => ?_
 refine RS.mvS rfl ?_
 refine RS.ln V284 ?_
 refine RS.o (D.gt rfl rfl) ?_
 refine RS.mvB rfl ?_
 refine RS.splitd 10 rfl rfl (fun c5 => ?_) (fun c5 => ?_)
 ·refine RS.nm ?_
  exact absurd c5 (by omega)
 refine RS.nm ?_
 refine RS.wt 10 ?_
 refine RS.mvS rfl ?_
 refine RS.wt 10 ?_
 refine RS.call E253 (containsP _ _ _ _ _ P0 (by omega) hx) rfl (fun v6 w6 x6 A6 => ?_)
 replace hE := Ext.tr hE x6
 replace K0 := K0.ext x6
 replace P0 := P0.ext x6
 replace A2 := A2.ext x6
 have zw6 := x6.size
 subst A6
 refine RS.nm ?_
 refine RS.pk ?_
 refine nl J4 ?_
 refine C.ifb rfl (fun c7 => ?_) (fun c7 => ?_)
 ·cases c7
 refine wp_skip ?_
 refine J3 _ _ ?_
 refine sq fun _ J8 => ?_
 refine RS.call E255 (start _) rfl (fun v9 w9 x9 A9 => ?_)
 replace hE := Ext.tr hE x9
 replace K0 := K0.ext x9
 replace P0 := P0.ext x9
 replace A2 := A2.ext x9
 have zw9 := x9.size
 subst A9
 have hIV := S.IV_arr
 refine RS.nm ?_
 refine RS.alloc T325 (fun b10 w10 e10 s10 x10 B10 => ?_)
 refine RS.nm ?_
 replace hE := Ext.tr hE x10
 replace K0 := K0.ext x10
 replace P0 := P0.ext x10
 replace A2 := A2.ext x10
 have zw10 := x10.size
 have A10 : IArr .u32 w10 b10 8 (List.replicate 8 0) [.slice none 0 0, .int .i64 0] 325 := ⟨B10, by simp, Bd.zeros _ _⟩
 clear B10
 refine RS.storeRec A10 rfl rfl C325 (by decide) (by assumption) rfl rfl (by intro v hv; simp at hv; rcases hv with rfl | rfl <;> rfl) (fun w11 y11 N11 => ?_)
 replace hE := hE.trans (y11.belo)
 replace K0 := K0.sto y11
 replace P0 := P0.sto y11
 replace A2 := A2.sto y11
 have zw11 := y11.size
 replace A10 := N11
 refine nl J8 ?_
 refine wx fun _ J12 => ?_
 refine sq fun _ J13 => ?_
 refine RS.mvS rfl ?_
 refine RS.ln V284 ?_
 refine RS.mvI rfl ?_
 refine nl J13 ?_
 refine wp_block ?_
 refine C.loop (A := Int × Option Addr × Nat × Nat) (fun p => [(18, .int .i64 p.1)]) [6, 19, 20, 21, 22, 23, 24, 25] (fun p w' => Pr (fun k => k = b10) w11 w' ∧ (IArr .u32 w' b10 8 (S.blocksS S.IV (cat (ps.take p.1.toNat))) [.slice p.2.1 p.2.2.1 p.2.2.2, .int .i64 (cat (ps.take p.1.toNat)).length] 325 ∧ IRow .u8 (fun k => b10 < k) w' p.2.1 p.2.2.1 (S.restS (cat (ps.take p.1.toNat))) ∧ p.2.2.1 ≤ p.2.2.2 ∧ (0 ≤ p.1 ∧ p.1 ≤ n))) (fun p => (n - p.1.toNat)) (0, none, 0, 0) (by kernel_rfl) ?_ ?_
 ·have e9 : cat (ps.take (0 : Int).toNat) = [] := by simp [cat]
  refine ⟨Pr.refl _ _, ?_⟩
  dsimp only
  rw [e9, S.blocks_lt _ _ (by decide), S.rest_lt _ (by decide)]
  exact ⟨A10, IRow.nil, by omega, by omega, by omega⟩
 rintro p j w14 ⟨x14, hI⟩
 replace hE := hE.trans (x14.belo)
 replace K0 := K0.pro x14
 replace P0 := P0.pro x14
 replace A2 := A2.pro x14
 have zw14 := x14.size
 obtain ⟨i, ar, nr, cr⟩ := p
 dsimp only at hI
 obtain ⟨A10, R1, hc, h1⟩ := hI
 have hh := S.blocks_arr S.IV (cat (ps.take i.toNat)) S.IV_arr
 have hal := A10.lt
 have hrl := R1.len
 have hrl2 := S.rest_le (cat (ps.take i.toNat))
 have hrl3 := cat_le ps i.toNat
 refine C.nmU ?_
 refine sq fun _ J15 => ?_
 refine RS.o (D.lt rfl rfl) ?_
 refine nl J15 ?_
 refine wx fun _ J16 => ?_
 refine C.ifd rfl (fun c17 => ?_) (fun c17 => ?_)
 ·refine wp_skip ?_
  refine J16 _ _ ?_
  refine wx fun _ J18 => ?_
  refine wp_block ?_
  refine sq fun _ J19 => ?_
  refine RS.idxP P0 rfl rfl V284 C51 (by omega) (fun b20 o20 p20 h20 q20 F20 G20 => ?_)
  refine RS.nm ?_
  have k1 := cat_snoc ps i.toNat (by omega)
  rw [← q20] at k1
  have k2 := cat_le ps (i.toNat + 1)
  have k3 := congrArg List.length k1
  rw [List.length_append, F20.len] at k3
  refine RS.o (D.load rfl V51 rfl (h20)) ?_
  refine RS.asS rfl ?_
  refine nl J19 ?_
  refine region ?_
  refine RS.o (D.loadAgg rfl V325 rfl C325 (by decide) (A10.allLen rfl) A10.all) ?_
  refine RS.mvS rfl ?_
  refine RS.call E256 (feed _ _ _ _ _ _ _ _ _ _ _ _ hh K0 R1 F20 hc G20 (by omega) (by omega)) rfl (fun v21 w21 x21 A21 => ?_)
  replace hE := Ext.tr hE x21
  replace x14 := x14.ext x21
  replace K0 := K0.ext x21
  replace P0 := P0.ext x21
  replace A2 := A2.ext x21
  replace A10 := A10.ext x21
  replace R1 := R1.ext x21
  replace F20 := F20.ext x21
  have zw21 := x21.size
  obtain ⟨a21, n21, c21, rfl, O2⟩ := A21
  rw [← S.blocks_append _ _ _ _ rfl, ← S.rest_append _ _ _ rfl, ← k1] at *
  have hoc := O2.own.cap
  have hfa := S.blocks_arr S.IV (cat (ps.take (i.toNat + 1))) S.IV_arr
  refine RS.nm ?_
  refine RS.storeRec A10 rfl rfl C325 (by decide) (by assumption) rfl rfl (by intro v hv; simp at hv; rcases hv with rfl | rfl <;> rfl) (fun w22 y22 N22 => ?_)
  replace hE := hE.trans (y22.belo)
  replace x14 := x14.stno y22
  replace K0 := K0.sto y22
  replace P0 := P0.sto y22
  replace A2 := A2.sto y22
  replace F20 := F20.sto y22
  replace O2 := O2.stQ y22 (fun _ h => (O2.own.lo _ h).1)
  have zw22 := y22.size
  replace A10 := N22
  refine nl J18 ?_
  refine region ?_
  refine RS.o (D.add rfl rfl (W.i64 (by omega))) ?_
  refine RS.mvI rfl ?_
  refine RS.nil ?_
  change Nx _ _ _ _ _ _ _ _
  refine C.next (i + 1, a21, n21, c21) ⟨rfl, trivial⟩ (by kernel_rfl) ?_ ?_
  ·have e9 : ((cat (ps.take i.toNat)).length : Int) + (p20.n : Int) = (((cat (ps.take (i.toNat + 1))).length : Nat) : Int) := by omega
   rw [e9] at A10
   rw [show (i + 1).toNat = i.toNat + 1 by omega]
   refine ⟨x14, A10, O2.row.weaken (T := fun k => b10 < k) (fun k _ hk => by omega), by dsimp only; omega, by dsimp only; omega, by dsimp only; omega⟩
  dsimp only; omega
 have e0 : ps.take i.toNat = ps := List.take_of_length_le (by omega)
 refine wp_exit ?_
 refine J12 _ _ ?_
 refine sq fun _ J23 => ?_
 refine RS.o (D.loadAgg rfl V325 rfl C325 (by decide) (A10.allLen rfl) A10.all) ?_
 refine RS.call E257 (endd _ _ _ _ _ _ _ _ hh K0 R1 hc (by omega) (by omega)) rfl (fun v24 w24 x24 A24 => ?_)
 replace hE := Ext.tr hE x24
 replace K0 := K0.ext x24
 replace P0 := P0.ext x24
 replace A2 := A2.ext x24
 replace A10 := A10.ext x24
 replace R1 := R1.ext x24
 have zw24 := x24.size
 subst A24
 rw [e0, S.sha_eq _ _ rfl]
 have hsa := S.sha_arr (cat ps)
 refine RS.nm ?_
 refine RS.storeArr A2 rfl rfl C27 (by decide) (by first | assumption | exact And.left (by assumption) | exact IArr.len (by assumption)) (by first | assumption | exact And.right (by assumption) | exact IArr.bd (by assumption)) (fun w25 y25 N25 => ?_)
 replace hE := hE.trans (y25.belo)
 replace K0 := K0.sto y25
 replace P0 := P0.sto y25
 replace A10 := A10.sto y25
 replace R1 := R1.sto y25
 have zw25 := y25.size
 replace A2 := N25
 refine RS.asI rfl ?_
 refine nl J23 ?_
 refine wp_ret ?_
 refine ret (rs := [.cell 2 27, .tmp 3]) (vs := [.agg _, .int _ _]) (v := (.tuple #[.agg _, .int _ _])) rfl ⟨⟨_, rfl, loadVar_agg V27 rfl C27 (by decide) (by rw [ints_length, A2.len]) A2.cells⟩, rfl, trivial⟩ rfl ?_
 exact ⟨_, rfl, hE, rfl⟩
theorem sum {S0 : Nat → Prop} (a : Option Addr) (n c : Nat) (xs : List Int) (TK : TypeId) (w : World) (K0 : Kst w TK) (R0 : IRow .u8 S0 w a n xs) (hc : n ≤ c) (hn : n ≤ 10000) :
  Calls Tryz.prog 151 #[.slice a n c] w (Ret w fun v _ => v = .tuple #[.agg (ints .u8 (S.sha xs)).toArray, .int .i64 0]) := by
 replace R0 := R0.weaken (T := fun k => k < w.heap.size) (fun k hk _ => hk)
 have hKl := K0.lt
 have hl0 := R0.len
 have hE := Ext.refl w
 refine enterU 8 Tryz.func151 rfl rfl ?_
 refine sq fun _ J1 => ?_
 refine RS.alloc T27 (fun b2 w2 e2 s2 x2 B2 => ?_)
 refine RS.nm ?_
 replace hE := Ext.tr hE x2
 replace K0 := K0.ext x2
 replace R0 := R0.ext x2
 have zw2 := x2.size
 have A2 : IArr .u8 w2 b2 32 (List.replicate 32 0) [] 27 := IArr.zero B2
 clear B2
 refine RS.asI rfl ?_
 refine nl J1 (sq fun _ J3 => ?_)
 refine RS.mvS rfl ?_
 refine RS.buildSlice (xs := [.tmp 4]) (vs := [.slice _ _ _]) (cs := [.slice _ _ _]) V284 T51 (by decide) rfl rfl rfl rfl rfl rfl (by intro v hv; simp only [List.mem_cons, List.not_mem_nil, or_false] at hv; subst hv; rfl) rfl (fun b4 w4 e4 s4 x4 B4 => ?_)
 refine RS.nm ?_
 replace hE := Ext.tr hE x4
 replace K0 := K0.ext x4
 replace R0 := R0.ext x4
 replace A2 := A2.ext x4
 have zw4 := x4.size
 refine RS.call E208 (pieces [⟨a, n, c, xs⟩] _ _ _ _ _ K0 (PRow.of_blkE B4 rfl rfl ⟨⟨_, R0, hc⟩, trivial⟩) (show (1 : Nat) ≤ 20 by decide) (by intro p hp; obtain rfl := List.mem_singleton.1 hp; dsimp only; omega) (by simp [cat]; omega)) rfl (fun v5 w5 x5 A5 => ?_)
 replace hE := Ext.tr hE x5
 replace K0 := K0.ext x5
 replace R0 := R0.ext x5
 replace A2 := A2.ext x5
 replace B4 := B4.ext x5
 have zw5 := x5.size
 subst A5
 have ecat : cat [⟨a, n, c, xs⟩] = xs := by simp [cat]
 rw [ecat]
 have hsa := S.sha_arr xs
 refine RS.nm ?_
 refine RS.exA ?_
 refine RS.exI ?_
 refine RS.storeArr A2 rfl rfl C27 (by decide) (by first | assumption | exact And.left (by assumption) | exact IArr.len (by assumption)) (by first | assumption | exact And.right (by assumption) | exact IArr.bd (by assumption)) (fun w6 y6 N6 => ?_)
 replace hE := hE.trans (y6.belo)
 replace K0 := K0.sto y6
 replace R0 := R0.sto y6
 replace B4 := B4.sto y6
 have zw6 := y6.size
 replace A2 := N6
 refine RS.asI rfl ?_
 refine nl J3 ?_
 refine wp_ret ?_
 refine ret (rs := [.cell 2 27, .tmp 3]) (vs := [.agg _, .int _ _]) (v := (.tuple #[.agg _, .int _ _])) rfl ⟨⟨_, rfl, loadVar_agg V27 rfl C27 (by decide) (by rw [ints_length, A2.len]) A2.cells⟩, rfl, trivial⟩ rfl ?_
 exact ⟨_, rfl, hE, rfl⟩
theorem bcompare {S0 S1 : Nat → Prop} (a : Option Addr) (n c : Nat) (xs : List Int) (a2 : Option Addr) (n2 c2 : Nat) (ys : List Int) (w : World) (R0 : IRow .u8 S0 w a n xs) (R1 : IRow .u8 S1 w a2 n2 ys) :
  Calls Tryz.prog 197 #[.slice a n c, .slice a2 n2 c2] w (Ret w fun v _ => v = .int .i64 (S.cmpS xs ys)) := by
 have hE := Ext.refl w
 refine enterU 6 Tryz.func197 rfl rfl ?_
 refine sq fun _ J1 => ?_
 refine RS.asI rfl ?_
 refine nl J1 (sq fun _ J2 => ?_)
 refine RS.mvS rfl ?_
 refine RS.mvS rfl ?_
 refine RS.o (D.ext (av := [_, _]) Tryz.func249 (by kernel_rfl) (by kernel_rfl) (by kernel_rfl) (by kernel_rfl) rfl (S.cmp_run R0 R1)) ?_
 refine RS.asI rfl ?_
 refine nl J2 ?_
 refine wp_ret ?_
 refine retI rfl rfl ?_
 exact ⟨_, rfl, hE, rfl⟩
theorem dcmp (xs ys : List Int) (hx : Arr .u8 32 xs) (hy : Arr .u8 32 ys) (w : World) :
  Calls Tryz.prog 126 #[.agg (ints .u8 xs).toArray, .agg (ints .u8 ys).toArray] w (Ret w fun v _ => v = .int .i64 (S.cmpS xs ys)) := by
 have hE := Ext.refl w
 refine enterU 6 Tryz.func126 rfl rfl ?_
 refine sq fun _ J1 => ?_
 refine RS.box rfl rfl (fun b2 w2 e2 s2 x2 B2 => ?_)
 refine RS.nm ?_
 replace hE := Ext.tr hE x2
 have zw2 := x2.size
 have A2 := IArr.ofA (n := 32) B2 hx
 clear B2
 refine RS.box rfl rfl (fun b3 w3 e3 s3 x3 B3 => ?_)
 refine RS.nm ?_
 replace hE := Ext.tr hE x3
 replace A2 := A2.ext x3
 have zw3 := x3.size
 have A3 := IArr.ofA (n := 32) B3 hy
 clear B3
 refine RS.asI rfl ?_
 refine nl J1 ?_
 refine wx fun _ J4 => ?_
 refine regionX Ext [(0, .q), (1, .q), (2, .e), (3, .q)] mixed Ext.refl (fun h k => h.tr k) (by kernel_rfl) (fun w5 x5 => ?_)
 replace hE := Ext.tr hE x5
 replace A2 := A2.ext x5
 replace A3 := A3.ext x5
 have zw5 := x5.size
 refine RX.o (fun w' hw => D.sliceArr (kl := .i64) (kh := .i64) rfl V27 C5 rfl rfl (by omega)) ?_
 refine RX.o (fun w' hw => D.sliceArr (kl := .i64) (kh := .i64) rfl V27 C5 rfl rfl (by omega)) ?_
 refine RX.eff ?_
 refine RS.call E197 (bcompare _ _ _ _ _ _ _ _ _ (A2.row (S := fun _ => True) trivial) (A3.row (S := fun _ => True) trivial)) rfl (fun v6 w6 x6 A6 => ?_)
 replace hE := Ext.tr hE x6
 replace A2 := A2.ext x6
 replace A3 := A3.ext x6
 have zw6 := x6.size
 subst A6
 refine RS.nm ?_
 refine RS.nil ⟨x6, ?_⟩
 refine RX.assign (v := .int _ _) rfl ?_
 refine RX.nil (J4 _ _ ?_)
 refine wp_ret ?_
 refine retI rfl rfl ?_
 exact ⟨_, rfl, hE, rfl⟩
theorem rcmp (xs ys : List Int) (hx : Arr .u8 32 xs) (hy : Arr .u8 32 ys) (w : World) :
  Calls Tryz.prog 91 #[.agg (ints .u8 xs).toArray, .agg (ints .u8 ys).toArray] w (Ret w fun v _ => v = .int .i64 (S.cmpS xs ys)) := by
 have hl1 := hx.1
 have hl2 := hy.1
 have hE := Ext.refl w
 refine enterU 22 Tryz.func91 rfl rfl ?_
 refine sq fun _ J1 => ?_
 refine RS.box rfl rfl (fun b2 w2 e2 s2 x2 B2 => ?_)
 refine RS.nm ?_
 replace hE := Ext.tr hE x2
 have zw2 := x2.size
 have A2 := IArr.ofA (n := 32) B2 hx
 clear B2
 refine RS.box rfl rfl (fun b3 w3 e3 s3 x3 B3 => ?_)
 refine RS.nm ?_
 replace hE := Ext.tr hE x3
 replace A2 := A2.ext x3
 have zw3 := x3.size
 have A3 := IArr.ofA (n := 32) B3 hy
 clear B3
 refine RS.asI rfl ?_
 refine nl J1 ?_
 refine wx fun _ J4 => ?_
 refine sq fun _ J5 => ?_
 refine RS.asI rfl ?_
 refine nl J5 ?_
 refine wp_block ?_
 refine C.loop (A := Int) (fun p => [(5, .int .i64 p)]) [4, 6, 7, 8, 9, 10, 11, 12, 13, 14, 15, 16, 17, 18, 19, 20, 21, 22, 23] (fun p w' => Ext w3 w' ∧ ((0 ≤ p ∧ p ≤ 32) ∧ S.cmpS (xs.drop p.toNat) (ys.drop p.toNat) = S.cmpS xs ys)) (fun p => (32 - p.toNat)) 0 (by kernel_rfl) ?_ ?_
 ·exact ⟨Ext.refl _, ⟨by omega, by omega⟩, rfl⟩
 rintro p j w6 ⟨x6, hI⟩
 replace hE := Ext.tr hE x6
 replace A2 := A2.ext x6
 replace A3 := A3.ext x6
 have zw6 := x6.size
 obtain ⟨h1, h2⟩ := hI
 refine C.nmU ?_
 refine wx fun _ J7 => ?_
 refine sq fun _ J8 => ?_
 refine RS.mvI rfl ?_
 refine RS.o (D.lt rfl rfl) ?_
 refine nl J8 ?_
 refine C.ifd rfl (fun c9 => ?_) (fun c9 => ?_)
 ·refine wp_skip ?_
  refine J7 _ _ ?_
  refine wx fun _ J10 => ?_
  refine wp_block ?_
  refine wx fun _ J11 => ?_
  refine wx fun _ J12 => ?_
  refine regionX Ext [(0, .q), (1, .q), (2, .q), (3, .q), (4, .q), (5, .q), (6, .q)] mixed Ext.refl (fun h k => h.tr k) (by kernel_rfl) (fun w13 x13 => ?_)
  replace hE := Ext.tr hE x13
  replace x6 := Ext.tr x6 x13
  replace A2 := A2.ext x13
  replace A3 := A3.ext x13
  have zw13 := x13.size
  refine RX.mvI rfl ?_
  refine RX.idxA (fun _ h => h) A2 rfl rfl V27 C5 (by omega) (fun v14 h14 q14 r14 => ?_)
  refine RX.nm ?_
  simp only [lim] at r14
  have q1 := q14
  refine RX.o (fun w' hw => D.load rfl V5 rfl (h14 w' hw)) ?_
  refine RX.mvI rfl ?_
  refine RX.idxA (fun _ h => h) A3 rfl rfl V27 C5 (by omega) (fun v15 h15 q15 r15 => ?_)
  refine RX.nm ?_
  simp only [lim] at r15
  have q2 := q15
  refine RX.o (fun w' hw => D.load rfl V5 rfl (h15 w' hw)) ?_
  refine RX.o (fun w' hw => D.lt rfl rfl) ?_
  refine RX.nil (J12 _ _ ?_)
  refine C.ifd rfl (fun c16 => ?_) (fun c16 => ?_)
  ·refine wx fun _ J17 => ?_
   refine region ?_
   refine RS.asI rfl ?_
   refine nl J17 ?_
   refine wp_ret ?_
   refine retI rfl rfl ?_
   refine ⟨_, rfl, hE, ?_⟩
   rw [← h2, S.cmpS_step _ _ _ (by omega) (by omega)]
   rw [if_pos (by omega)]
  refine wp_skip ?_
  refine J11 _ _ ?_
  refine wx fun _ J18 => ?_
  refine regionX Ext [(0, .q), (1, .q), (2, .q), (3, .q), (4, .q), (5, .q), (6, .q)] mixed Ext.refl (fun h k => h.tr k) (by kernel_rfl) (fun w19 x19 => ?_)
  replace hE := Ext.tr hE x19
  replace x6 := Ext.tr x6 x19
  replace A2 := A2.ext x19
  replace A3 := A3.ext x19
  have zw19 := x19.size
  refine RX.mvI rfl ?_
  refine RX.idxA (fun _ h => h) A2 rfl rfl V27 C5 (by omega) (fun v20 h20 q20 r20 => ?_)
  refine RX.nm ?_
  simp only [lim] at r20
  have q3 := q20
  refine RX.o (fun w' hw => D.load rfl V5 rfl (h20 w' hw)) ?_
  refine RX.mvI rfl ?_
  refine RX.idxA (fun _ h => h) A3 rfl rfl V27 C5 (by omega) (fun v21 h21 q21 r21 => ?_)
  refine RX.nm ?_
  simp only [lim] at r21
  have q4 := q21
  refine RX.o (fun w' hw => D.load rfl V5 rfl (h21 w' hw)) ?_
  refine RX.o (fun w' hw => D.gt rfl rfl) ?_
  refine RX.nil (J18 _ _ ?_)
  refine C.ifd rfl (fun c22 => ?_) (fun c22 => ?_)
  ·refine wx fun _ J23 => ?_
   refine region ?_
   refine RS.asI rfl ?_
   refine nl J23 ?_
   refine wp_ret ?_
   refine retI rfl rfl ?_
   refine ⟨_, rfl, hE, ?_⟩
   rw [← h2, S.cmpS_step _ _ _ (by omega) (by omega)]
   rw [if_neg (by omega), if_pos (by omega)]
  refine wp_skip ?_
  refine J10 _ _ ?_
  refine region ?_
  refine RS.mvI rfl ?_
  refine RS.o (D.add rfl rfl (W.i64 (by omega))) ?_
  refine RS.asI rfl ?_
  refine RS.nil ?_
  change Nx _ _ _ _ _ _ _ _
  refine C.next (p + 1) ⟨rfl, trivial⟩ (by kernel_rfl) ?_ ?_
  ·refine ⟨x6, ⟨by omega, by omega⟩, ?_⟩
   rw [S.cmpS_step _ _ _ (by omega) (by omega), if_neg (by omega), if_neg (by omega)] at h2
   rw [show (p + 1).toNat = p.toNat + 1 by omega]
   exact h2
  omega
 have hlt := c9
 refine wp_exit ?_
 refine J4 _ _ ?_
 refine sq fun _ J24 => ?_
 refine RS.asI rfl ?_
 refine nl J24 ?_
 refine wp_ret ?_
 refine retI rfl rfl ?_
 refine ⟨_, rfl, hE, ?_⟩
 rw [← h2, List.drop_eq_nil_of_le (by omega), List.drop_eq_nil_of_le (by omega)]
 rfl
theorem sameBytes {S0 S1 : Nat → Prop} (a : Option Addr) (n c : Nat) (xs : List Int) (a2 : Option Addr) (n2 c2 : Nat) (ys : List Int) (w : World) (R0 : IRow .u8 S0 w a n xs) (R1 : IRow .u8 S1 w a2 n2 ys) (hn : n ≤ 1000000) (hn2 : n2 ≤ 1000000) :
  Calls Tryz.prog 59 #[.slice a n c, .slice a2 n2 c2] w (Ret w fun v _ => v = .bool (decide (xs = ys))) := by
 have hl0 := R0.len
 have hl1 := R1.len
 have hE := Ext.refl w
 refine enterU 24 Tryz.func59 rfl rfl ?_
 refine sq fun _ J1 => ?_
 refine RS.asB rfl ?_
 refine nl J1 ?_
 refine wx fun _ J2 => ?_
 refine sq fun _ J3 => ?_
 refine RS.mvS rfl ?_
 refine RS.ln V51 ?_
 refine RS.mvS rfl ?_
 refine RS.ln V51 ?_
 refine RS.o (D.ne rfl rfl) ?_
 refine nl J3 ?_
 refine C.ifn rfl (fun c4 => ?_) (fun c4 => ?_)
 ·have hne := c4
  refine sq fun _ J5 => ?_
  refine RS.asB rfl ?_
  refine nl J5 ?_
  refine wp_ret ?_
  refine retB rfl rfl ?_
  refine ⟨_, rfl, hE, congrArg Value.bool (decide_eq_false ?_).symm⟩
  intro e
  rw [e] at hl0
  omega
 have hne := c4
 refine wp_skip ?_
 refine J2 _ _ ?_
 refine wx fun _ J6 => ?_
 refine sq fun _ J7 => ?_
 refine RS.asI rfl ?_
 refine nl J7 ?_
 refine wp_block ?_
 refine C.loop (A := Int) (fun p => [(5, .int .i64 p)]) [4, 11, 12, 13, 14, 15, 16, 17, 18, 19, 20, 21, 22, 23, 24, 25] (fun p w' => Ext w w' ∧ ((0 ≤ p ∧ p ≤ n) ∧ xs.take p.toNat = ys.take p.toNat)) (fun p => (n - p.toNat)) 0 (by kernel_rfl) ?_ ?_
 ·exact ⟨Ext.refl _, ⟨by omega, by omega⟩, rfl⟩
 rintro p j w8 ⟨x8, hI⟩
 replace hE := Ext.tr hE x8
 replace R0 := R0.ext x8
 replace R1 := R1.ext x8
 have zw8 := x8.size
 obtain ⟨h1, h2⟩ := hI
 refine C.nmU ?_
 refine wx fun _ J9 => ?_
 refine sq fun _ J10 => ?_
 refine RS.mvI rfl ?_
 refine RS.mvS rfl ?_
 refine RS.ln V51 ?_
 refine RS.o (D.lt rfl rfl) ?_
 refine nl J10 ?_
 refine C.ifd rfl (fun c11 => ?_) (fun c11 => ?_)
 ·refine wp_skip ?_
  refine J9 _ _ ?_
  refine wx fun _ J12 => ?_
  refine wp_block ?_
  refine wx fun _ J13 => ?_
  refine regionX Ext [(0, .q), (1, .q), (2, .q), (3, .q), (4, .q), (5, .q), (6, .q), (7, .q), (8, .q)] mixed Ext.refl (fun h k => h.tr k) (by kernel_rfl) (fun w14 x14 => ?_)
  replace hE := Ext.tr hE x14
  replace x8 := Ext.tr x8 x14
  replace R0 := R0.ext x14
  replace R1 := R1.ext x14
  have zw14 := x14.size
  refine RX.mvS rfl ?_
  refine RX.mvI rfl ?_
  refine RX.idx (fun _ h => h) R0 rfl rfl V51 C5 (by omega) (fun b15 o15 v15 h15 q15 r15 => ?_)
  refine RX.nm ?_
  simp only [lim] at r15
  have q1 := q15
  refine RX.o (fun w' hw => D.load rfl V5 rfl (h15 w' hw)) ?_
  refine RX.mvS rfl ?_
  refine RX.mvI rfl ?_
  refine RX.idx (fun _ h => h) R1 rfl rfl V51 C5 (by omega) (fun b16 o16 v16 h16 q16 r16 => ?_)
  refine RX.nm ?_
  simp only [lim] at r16
  have q2 := q16
  refine RX.o (fun w' hw => D.load rfl V5 rfl (h16 w' hw)) ?_
  refine RX.o (fun w' hw => D.ne rfl rfl) ?_
  refine RX.nil (J13 _ _ ?_)
  refine C.ifn rfl (fun c17 => ?_) (fun c17 => ?_)
  ·have hd := c17
   refine sq fun _ J18 => ?_
   refine RS.asB rfl ?_
   refine nl J18 ?_
   refine wp_ret ?_
   refine retB rfl rfl ?_
   refine ⟨_, rfl, hE, congrArg Value.bool (decide_eq_false ?_).symm⟩
   intro e
   rw [e] at q1
   omega
  refine wp_skip ?_
  refine J12 _ _ ?_
  refine region ?_
  refine RS.mvI rfl ?_
  refine RS.o (D.add rfl rfl (W.i64 (by omega))) ?_
  refine RS.asI rfl ?_
  refine RS.nil ?_
  change Nx _ _ _ _ _ _ _ _
  refine C.next (p + 1) ⟨rfl, trivial⟩ (by kernel_rfl) ?_ ?_
  ·refine ⟨x8, ⟨by omega, by omega⟩, ?_⟩
   rw [show (p + 1).toNat = p.toNat + 1 by omega, S.take_snoc _ _ (by omega), S.take_snoc _ _ (by omega), h2, ← q1, ← q2]
   congr 2
  omega
 have hlt := c11
 refine wp_exit ?_
 refine J6 _ _ ?_
 refine sq fun _ J19 => ?_
 refine RS.asB rfl ?_
 refine nl J19 ?_
 refine wp_ret ?_
 refine retB rfl rfl ?_
 refine ⟨_, rfl, hE, congrArg Value.bool (decide_eq_true ?_).symm⟩
 rw [List.take_of_length_le (by omega), List.take_of_length_le (by omega)] at h2
 exact h2
theorem constants  (w : World) :
  Calls Tryz.prog 270 #[] w (Ret w fun v w' => ∃ b, v = .slice (some ⟨b, 0, none⟩) 64 64 ∧ w.heap.size ≤ b ∧ IRow .u32 (fun k => k = b) w' (some ⟨b, 0, none⟩) 64 S.KK) := by
 have hE := Ext.refl w
 refine enterU 2 Tryz.func270 rfl rfl ?_
 refine sq fun _ J1 => ?_
 refine RS.asS rfl ?_
 refine nl J1 (sq fun _ J2 => ?_)
 refine RS.buildI (xs := [.const (.int .u32 1116352408), .const (.int .u32 1899447441), .const (.int .u32 3049323471), .const (.int .u32 3921009573), .const (.int .u32 961987163), .const (.int .u32 1508970993), .const (.int .u32 2453635748), .const (.int .u32 2870763221), .const (.int .u32 3624381080), .const (.int .u32 310598401), .const (.int .u32 607225278), .const (.int .u32 1426881987), .const (.int .u32 1925078388), .const (.int .u32 2162078206), .const (.int .u32 2614888103), .const (.int .u32 3248222580), .const (.int .u32 3835390401), .const (.int .u32 4022224774), .const (.int .u32 264347078), .const (.int .u32 604807628), .const (.int .u32 770255983), .const (.int .u32 1249150122), .const (.int .u32 1555081692), .const (.int .u32 1996064986), .const (.int .u32 2554220882), .const (.int .u32 2821834349), .const (.int .u32 2952996808), .const (.int .u32 3210313671), .const (.int .u32 3336571891), .const (.int .u32 3584528711), .const (.int .u32 113926993), .const (.int .u32 338241895), .const (.int .u32 666307205), .const (.int .u32 773529912), .const (.int .u32 1294757372), .const (.int .u32 1396182291), .const (.int .u32 1695183700), .const (.int .u32 1986661051), .const (.int .u32 2177026350), .const (.int .u32 2456956037), .const (.int .u32 2730485921), .const (.int .u32 2820302411), .const (.int .u32 3259730800), .const (.int .u32 3345764771), .const (.int .u32 3516065817), .const (.int .u32 3600352804), .const (.int .u32 4094571909), .const (.int .u32 275423344), .const (.int .u32 430227734), .const (.int .u32 506948616), .const (.int .u32 659060556), .const (.int .u32 883997877), .const (.int .u32 958139571), .const (.int .u32 1322822218), .const (.int .u32 1537002063), .const (.int .u32 1747873779), .const (.int .u32 1955562222), .const (.int .u32 2024104815), .const (.int .u32 2227730452), .const (.int .u32 2361852424), .const (.int .u32 2428436474), .const (.int .u32 2756734187), .const (.int .u32 3204031479), .const (.int .u32 3329325298)]) (ys := S.KK) V338 T37 rfl rfl rfl rfl rfl (fun b3 w3 e3 s3 x3 B3 => ?_)
 refine RS.nm ?_
 replace hE := Ext.tr hE x3
 have zw3 := x3.size
 refine RS.asS rfl ?_
 refine nl J2 ?_
 refine wp_ret ?_
 refine retS ?_
 exact ⟨_, rfl, hE, _, rfl, by omega, IRow.of_blk B3 rfl rfl rfl (show ∀ x ∈ S.KK, 0 ≤ x ∧ x < 4294967296 by decide)⟩
theorem written (h : List Int) (H : Arr .u32 8 h) (w : World) :
  Calls Tryz.prog 169 #[.agg (ints .u32 h).toArray] w (Ret w fun v _ => v = .agg (ints .u8 (S.outS h)).toArray) := by
 have hE := Ext.refl w
 refine enterU 21 Tryz.func169 rfl rfl ?_
 refine sq fun _ J1 => ?_
 refine RS.box rfl rfl (fun b2 w2 e2 s2 x2 B2 => ?_)
 refine RS.nm ?_
 replace hE := Ext.tr hE x2
 have zw2 := x2.size
 have A2 := IArr.ofA (n := 8) B2 H
 clear B2
 refine RS.alloc T27 (fun b3 w3 e3 s3 x3 B3 => ?_)
 refine RS.nm ?_
 replace hE := Ext.tr hE x3
 replace A2 := A2.ext x3
 have zw3 := x3.size
 have A3 : IArr .u8 w3 b3 32 (List.replicate 32 0) [] 27 := IArr.zero B3
 clear B3
 refine nl J1 (sq fun _ J4 => ?_)
 refine RS.alloc T27 (fun b5 w5 e5 s5 x5 B5 => ?_)
 refine RS.nm ?_
 replace hE := Ext.tr hE x5
 replace A2 := A2.ext x5
 replace A3 := A3.ext x5
 have zw5 := x5.size
 have A5 : IArr .u8 w5 b5 32 (List.replicate 32 0) [] 27 := IArr.zero B5
 clear B5
 refine nl J4 ?_
 refine wx fun _ J6 => ?_
 refine sq fun _ J7 => ?_
 refine RS.asI rfl ?_
 refine nl J7 ?_
 refine wp_block ?_
 refine C.loop (A := Int × List Int) (fun p => [(4, .int .i64 p.1)]) [5, 6, 7, 8, 9, 10, 11, 12, 13, 14, 15, 16, 17, 18, 19, 20] (fun p w' => Pr (fun k => k = b5) w5 w' ∧ (IArr .u8 w' b5 32 p.2 [] 27 ∧ (0 ≤ p.1 ∧ p.1 ≤ 32) ∧ p.2 = (S.outS h).take p.1.toNat ++ (List.replicate 32 0).drop p.1.toNat)) (fun p => (32 - p.1.toNat)) (0, List.replicate 32 0) (by kernel_rfl) ?_ ?_
 ·exact ⟨Pr.refl _ _, A5, ⟨by dsimp only; omega, by dsimp only; omega⟩, by simp⟩
 rintro p j w8 ⟨x8, hI⟩
 replace hE := hE.trans (x8.belo)
 replace A2 := A2.pro x8
 replace A3 := A3.pro x8
 have zw8 := x8.size
 obtain ⟨j, ids⟩ := p
 dsimp only at hI
 obtain ⟨A5, g1, g2⟩ := hI
 have hil := A5.len
 refine C.nmU ?_
 refine wx fun _ J9 => ?_
 refine sq fun _ J10 => ?_
 refine RS.mvI rfl ?_
 refine RS.o (D.lt rfl rfl) ?_
 refine nl J10 ?_
 refine C.ifd rfl (fun c11 => ?_) (fun c11 => ?_)
 ·refine wp_skip ?_
  refine J9 _ _ ?_
  refine wx fun _ J12 => ?_
  refine wp_block ?_
  refine region ?_
  refine RS.mvI rfl ?_
  refine RS.mvI rfl ?_
  refine RS.o (D.quo rfl rfl (by omega) (by omega) (W.i64 (by omega))) ?_
  refine RS.idxA A2 rfl rfl V255 C37 (by omega) (fun v13 h13 q13 r13 => ?_)
  refine RS.nm ?_
  simp only [lim] at r13
  have q1 := q13
  refine RS.o (D.load rfl V37 rfl (h13)) ?_
  refine RS.mvI rfl ?_
  refine RS.o (D.rem rfl rfl (by omega) (by omega)) ?_
  refine RS.o (D.mul rfl rfl (W.i64 (by omega))) ?_
  refine RS.o (D.sub rfl rfl (W.i64 (by omega))) ?_
  refine RS.ob (D.shr_u32 rfl rfl (by omega) (by constructor <;> omega)) (fun z14 => ?_)
  refine RS.o (D.conv rfl V37 V5 (W.u8m _)) ?_
  refine RS.idxA A5 rfl rfl V27 C5 (by omega) (fun v15 h15 q15 r15 => ?_)
  refine RS.nm ?_
  simp only [lim] at r15
  refine RS.storeA A5 rfl rfl C5 (by omega) (by simp only [lim]; omega) (fun w16 y16 N16 => ?_)
  replace hE := hE.trans (y16.belo)
  replace x8 := x8.stno y16
  replace A2 := A2.sto y16
  replace A3 := A3.sto y16
  have zw16 := y16.size
  replace A5 := N16
  refine nl J12 ?_
  refine region ?_
  refine RS.mvI rfl ?_
  refine RS.o (D.add rfl rfl (W.i64 (by omega))) ?_
  refine RS.asI rfl ?_
  refine RS.nil ?_
  change Nx _ _ _ _ _ _ _ _
  refine C.next (j + 1, ids.set j.toNat (v13 / 2 ^ (24 - 8 * (j % 4)).toNat % 256)) ⟨rfl, trivial⟩ (by kernel_rfl) ?_ ?_
  ·refine ⟨x8, A5, ⟨by dsimp only; omega, by dsimp only; omega⟩, ?_⟩
   dsimp only
   exact S.out_step1 _ _ j _ ⟨by omega, by omega⟩ q1 g2
  dsimp only; omega
 refine wp_exit ?_
 refine J6 _ _ ?_
 refine sq fun _ J17 => ?_
 refine RS.o (D.loadAgg rfl V27 rfl C27 (by decide) (by rw [ints_length, A5.len]) A5.cells) ?_
 refine RS.storeArr A3 rfl rfl C27 (by decide) (by first | assumption | exact And.left (by assumption) | exact IArr.len (by assumption)) (by first | assumption | exact And.right (by assumption) | exact IArr.bd (by assumption)) (fun w18 y18 N18 => ?_)
 replace hE := hE.trans (y18.belo)
 replace A2 := A2.sto y18
 replace A5 := A5.sto y18
 have zw18 := y18.size
 replace A3 := N18
 refine nl J17 ?_
 refine wp_ret ?_
 refine ret (rs := [.cell 2 27]) (vs := [.agg _]) (v := (.agg _)) rfl ⟨⟨_, rfl, loadVar_agg V27 rfl C27 (by decide) (by rw [ints_length, A3.len]) A3.cells⟩, trivial⟩ rfl ?_
 refine ⟨_, rfl, hE, ?_⟩
 rw [g2, show j.toNat = 32 by omega, List.take_of_length_le (by rw [(S.out_arr _).1]; exact Nat.le_refl _), List.drop_eq_nil_of_le (by simp), List.append_nil]
theorem tail (N : Int) (hN : 0 ≤ N ∧ N ≤ 200000) (w : World) :
  Calls Tryz.prog 172 #[.int .i64 N] w (Ret w fun v w' => ∃ a' n' c', v = .slice a' n' c' ∧ IOwn w.heap.size w' 5 .u8 a' n' c' (S.padS N)) := by
 have hE := Ext.refl w
 refine enterU 30 Tryz.func172 rfl rfl ?_
 refine sq fun _ J1 => ?_
 refine RS.asS rfl ?_
 refine nl J1 (sq fun _ J2 => ?_)
 refine RS.buildSlice (xs := [.const (.int .u8 128)]) (vs := [.int _ _]) (cs := [.int _ _]) V51 T5 (by decide) rfl rfl rfl rfl rfl rfl (by intro v hv; simp only [List.mem_cons, List.not_mem_nil, or_false] at hv; subst hv; rfl) rfl (fun b3 w3 e3 s3 x3 B3 => ?_)
 refine RS.nm ?_
 replace hE := Ext.tr hE x3
 have zw3 := x3.size
 have O1 : IOwn w.heap.size w3 5 .u8 (some ⟨b3, 0, none⟩) 1 1 [_] := IOwn.of_blk B3 rfl rfl (by omega) (.cons (by simp only [lim]; omega) (.nil _)) (by decide)
 refine RS.asS rfl ?_
 refine nl J2 ?_
 refine wx fun _ J4 => ?_
 refine wp_block ?_
 refine C.loop (A := Nat × Option Addr × Nat × Nat) (fun p => [(3, .slice p.2.1 p.2.2.1 p.2.2.2)]) [6, 7, 8, 9, 10, 11, 12, 13, 14, 15] (fun p w' => Pr (fun k => w.heap.size ≤ k) w3 w' ∧ (((p.1 : Nat) : Int) ≤ (119 - N % 64) % 64 ∧ IOwn w.heap.size w' 5 .u8 p.2.1 p.2.2.1 p.2.2.2 ([128] ++ List.replicate p.1 0))) (fun p => (64 - p.1)) (0, some ⟨b3, 0, none⟩, 1, 1) (by kernel_rfl) ?_ ?_
 ·exact ⟨Pr.refl _ _, by dsimp only; omega, O1⟩
 rintro p j w5 ⟨x5, hI⟩
 replace hE := hE.trans (x5.belo)
 have zw5 := x5.size
 obtain ⟨j, ao, no, co⟩ := p
 dsimp only at hI
 obtain ⟨h1, O1⟩ := hI
 have hol := O1.len
 simp only [List.length_append, List.length_singleton, List.length_replicate] at hol
 have e6 : (N + (no : Int) + 8) % 64 = (N + (1 + (j : Int)) + 8) % 64 := by rw [← hol]; rfl
 refine C.nmU ?_
 refine wx fun _ J6 => ?_
 refine sq fun _ J7 => ?_
 refine RS.mvI rfl ?_
 refine RS.mvS rfl ?_
 refine RS.ln V51 ?_
 refine RS.o (D.add rfl rfl (W.i64 (by omega))) ?_
 refine RS.o (D.add rfl rfl (W.i64 (by omega))) ?_
 refine RS.o (D.rem rfl rfl (by omega) (by omega)) ?_
 refine RS.o (D.ne rfl rfl) ?_
 refine nl J7 ?_
 refine C.ifn rfl (fun c8 => ?_) (fun c8 => ?_)
 ·refine wp_skip ?_
  refine J6 _ _ ?_
  refine wp_block ?_
  refine region ?_
  refine RS.mvS rfl ?_
  refine RS.buildSlice (xs := [.const (.int .u8 0)]) (vs := [.int _ _]) (cs := [.int _ _]) V51 T5 (by decide) rfl rfl rfl rfl rfl rfl (by intro v hv; simp only [List.mem_cons, List.not_mem_nil, or_false] at hv; subst hv; rfl) rfl (fun b9 w9 e9 s9 x9 B9 => ?_)
  refine RS.nm ?_
  replace hE := Ext.tr hE x9
  replace x5 := x5.ext x9
  replace O1 := O1.ext x9
  have zw9 := x9.size
  have Q1 : IRow .u8 (fun k => k = b9) w9 (some ⟨b9, 0, none⟩) 1 [_] := IRow.of_blk B9 rfl rfl rfl (.cons (by simp only [lim]; omega) (.nil _))
  refine RS.appendI O1 Q1 rfl rfl V51 T5 rfl (by omega) (by decide) (by omega) (fun a10 c10 w10 N10 x10 => ?_)
  refine RS.nm ?_
  replace hE := hE.trans (x10.belQ (fun _ h => (O1.lo _ h).1))
  replace x5 := x5.prnQ x10 (fun _ h => (O1.lo _ h).1)
  have zw10 := x10.size
  replace O1 := N10
  refine RS.asS rfl ?_
  refine RS.nil ?_
  change Nx _ _ _ _ _ _ _ _
  refine C.next (j + 1, _, _, _) ⟨rfl, trivial⟩ (by kernel_rfl) ?_ ?_
  ·have hm := S.pad_more N j (by omega) h1 (by omega)
   refine ⟨x5, hm, ?_⟩
   dsimp only
   rw [List.replicate_succ', ← List.append_assoc]
   exact O1
  dsimp only; omega
 have hz := S.pad_zero N j (by omega) h1 (by omega)
 rw [hz] at O1
 refine wp_exit ?_
 refine J4 _ _ ?_
 refine wx fun _ J11 => ?_
 refine sq fun _ J12 => ?_
 refine RS.asI rfl ?_
 refine nl J12 ?_
 refine wp_block ?_
 refine C.loop (A := Int × Option Addr × Nat × Nat) (fun p => [(3, .slice p.2.1 p.2.2.1 p.2.2.2), (4, .int .i64 p.1)]) [16, 17, 18, 19, 20, 21, 22, 23, 24, 25, 26, 27, 28, 29] (fun p w' => Pr (fun k => w.heap.size ≤ k) w5 w' ∧ ((-1 ≤ p.1 ∧ p.1 ≤ 7) ∧ IOwn w.heap.size w' 5 .u8 p.2.1 p.2.2.1 p.2.2.2 (([128] ++ List.replicate ((119 - N % 64) % 64).toNat 0) ++ (S.be8 (8 * N)).take (7 - p.1).toNat))) (fun p => (p.1 + 1).toNat) (7, ao, no, co) (by kernel_rfl) ?_ ?_
 ·exact ⟨Pr.refl _ _, ⟨by dsimp only; omega, by dsimp only; omega⟩, by simpa using O1⟩
 rintro p j w13 ⟨x13, hI⟩
 replace hE := hE.trans (x13.belo)
 have zw13 := x13.size
 obtain ⟨i, a5, n5, c5⟩ := p
 dsimp only at hI
 obtain ⟨g1, O1⟩ := hI
 have hol5 := O1.len
 simp only [List.length_append, List.length_singleton, List.length_replicate, List.length_take, S.be8_len] at hol5
 refine C.nmU ?_
 refine wx fun _ J14 => ?_
 refine sq fun _ J15 => ?_
 refine RS.mvI rfl ?_
 refine RS.o (D.ge rfl rfl) ?_
 refine nl J15 ?_
 refine C.ifd rfl (fun c16 => ?_) (fun c16 => ?_)
 ·refine wp_skip ?_
  refine J14 _ _ ?_
  refine wx fun _ J17 => ?_
  refine wp_block ?_
  refine region ?_
  refine RS.mvS rfl ?_
  refine RS.mvI rfl ?_
  refine RS.o (D.conv rfl V3 V22 (W.u64 (by omega))) ?_
  refine RS.o (D.mul rfl rfl (W.u64 (by omega))) ?_
  refine RS.mvI rfl ?_
  refine RS.o (D.mul rfl rfl (W.i64 (by omega))) ?_
  refine RS.ob (D.shr_u64 rfl rfl (by omega) (by constructor <;> omega)) (fun z18 => ?_)
  refine RS.o (D.conv rfl V22 V5 (W.u8m _)) ?_
  refine RS.buildSlice (xs := [.tmp 27]) (vs := [.int _ _]) (cs := [.int _ _]) V51 T5 (by decide) rfl rfl rfl rfl rfl rfl (by intro v hv; simp only [List.mem_cons, List.not_mem_nil, or_false] at hv; subst hv; rfl) rfl (fun b19 w19 e19 s19 x19 B19 => ?_)
  refine RS.nm ?_
  replace hE := Ext.tr hE x19
  replace x13 := x13.ext x19
  replace O1 := O1.ext x19
  have zw19 := x19.size
  have Q1 : IRow .u8 (fun k => k = b19) w19 (some ⟨b19, 0, none⟩) 1 [_] := IRow.of_blk B19 rfl rfl rfl (.cons (by simp only [lim]; omega) (.nil _))
  refine RS.appendI O1 Q1 rfl rfl V51 T5 rfl (by omega) (by decide) (by omega) (fun a20 c20 w20 N20 x20 => ?_)
  refine RS.nm ?_
  replace hE := hE.trans (x20.belQ (fun _ h => (O1.lo _ h).1))
  replace x13 := x13.prnQ x20 (fun _ h => (O1.lo _ h).1)
  have zw20 := x20.size
  replace O1 := N20
  refine RS.asS rfl ?_
  refine nl J17 ?_
  refine region ?_
  refine RS.mvI rfl ?_
  refine RS.o (D.sub rfl rfl (W.i64 (by omega))) ?_
  refine RS.asI rfl ?_
  refine RS.nil ?_
  change Nx _ _ _ _ _ _ _ _
  refine C.next (i - 1, _, _, _) ⟨rfl, rfl, trivial⟩ (by kernel_rfl) ?_ ?_
  ·refine ⟨x13, ⟨by dsimp only; omega, by dsimp only; omega⟩, ?_⟩
   dsimp only
   rw [S.be8_snoc' _ _ (by omega), ← List.append_assoc]
   exact O1
  dsimp only; omega
 refine wp_exit ?_
 refine J11 _ _ ?_
 refine sq fun _ J21 => ?_
 refine RS.mvS rfl ?_
 refine RS.asS rfl ?_
 refine nl J21 ?_
 refine wp_ret ?_
 refine retS ?_
 rw [show i = -1 by omega, show (7 - (-1 : Int)).toNat = 8 from rfl, List.take_of_length_le (by rw [S.be8_len]; exact Nat.le_refl _), S.pad_eq N _ rfl] at O1
 exact ⟨_, rfl, hE, _, _, _, rfl, O1⟩
theorem E269 : Enters Tryz.prog 269 := .mk Tryz.func269 (by kernel_rfl) rfl
theorem E270 : Enters Tryz.prog 270 := .mk Tryz.func270 (by kernel_rfl) rfl
theorem ground {S0 : Nat → Prop} (h : List Int) (a : Option Addr) (n c : Nat) (bs : List Int) (w : World) (H : Arr .u32 8 h) (R0 : IRow .u8 S0 w a n bs) (hn : 64 ≤ n) (hc : n ≤ c) :
  Calls Tryz.prog 231 #[.agg (ints .u32 h).toArray, .slice a n c] w (Ret w fun v _ => v = .agg (ints .u32 (S.grind h bs)).toArray) := by
 replace R0 := R0.weaken (T := fun k => k < w.heap.size) (fun k hk _ => hk)
 have hl0 := R0.len
 have hhl := H.1
 have hE := Ext.refl w
 refine enterU 201 Tryz.func231 rfl rfl ?_
 refine sq fun _ J1 => ?_
 refine RS.box rfl rfl (fun b2 w2 e2 s2 x2 B2 => ?_)
 refine RS.nm ?_
 replace hE := Ext.tr hE x2
 replace R0 := R0.ext x2
 have zw2 := x2.size
 have A2 := IArr.ofA (n := 8) B2 H
 clear B2
 refine RS.alloc T255 (fun b3 w3 e3 s3 x3 B3 => ?_)
 refine RS.nm ?_
 replace hE := Ext.tr hE x3
 replace R0 := R0.ext x3
 replace A2 := A2.ext x3
 have zw3 := x3.size
 have A3 : IArr .u32 w3 b3 8 (List.replicate 8 0) [] 255 := IArr.zero B3
 clear B3
 refine nl J1 (sq fun _ J4 => ?_)
 refine RS.asS rfl ?_
 refine nl J4 ?_
 refine wx fun _ J5 => ?_
 refine sq fun _ J6 => ?_
 refine RS.asI rfl ?_
 refine nl J6 ?_
 refine wp_block ?_
 refine C.loop (A := Int × Option Addr × Nat × Nat) (fun p => [(5, .slice p.2.1 p.2.2.1 p.2.2.2), (6, .int .i64 p.1)]) [22, 23, 24, 25, 26, 27, 28, 29, 30, 31, 32, 33, 34, 35, 36, 37, 38, 39, 40, 41, 42, 43, 44, 45, 46, 47, 48, 49, 50, 51, 52, 53, 54, 55, 56, 57, 58, 59, 60, 61] (fun p w' => Pr (fun k => b3 < k) w3 w' ∧ ((0 ≤ p.1 ∧ p.1 ≤ 16) ∧ IOwn (b3 + 1) w' 37 .u32 p.2.1 p.2.2.1 p.2.2.2 ((S.words bs).take p.1.toNat))) (fun p => (16 - p.1.toNat)) (0, none, 0, 0) (by kernel_rfl) ?_ ?_
 ·exact ⟨Pr.refl _ _, ⟨by dsimp only; omega, by dsimp only; omega⟩, IOwn.nil _ _ _ _⟩
 rintro p j w7 ⟨x7, hI⟩
 replace hE := hE.trans (x7.belo)
 replace R0 := R0.pro x7
 replace A2 := A2.pro x7
 replace A3 := A3.pro x7
 have zw7 := x7.size
 obtain ⟨i, ao, no, co⟩ := p
 dsimp only at hI
 obtain ⟨h1, O1⟩ := hI
 have hol := O1.len
 rw [List.length_take, S.words_len] at hol
 refine C.nmU ?_
 refine wx fun _ J8 => ?_
 refine sq fun _ J9 => ?_
 refine RS.mvI rfl ?_
 refine RS.o (D.lt rfl rfl) ?_
 refine nl J9 ?_
 refine C.ifd rfl (fun c10 => ?_) (fun c10 => ?_)
 ·refine wp_skip ?_
  refine J8 _ _ ?_
  refine wx fun _ J11 => ?_
  refine wp_block ?_
  refine regionX Ext [(0, .q), (1, .q), (2, .q), (3, .q), (4, .q), (5, .q), (6, .q), (7, .q), (8, .q), (9, .q), (10, .q), (11, .q), (12, .q), (13, .q), (14, .q), (15, .q), (16, .q), (17, .q), (18, .q), (19, .q), (20, .q), (21, .q), (22, .q), (23, .q), (24, .q), (25, .q), (26, .q), (27, .q), (28, .q), (29, .q), (30, .q), (31, .q), (32, .q), (33, .q), (34, .e), (35, .g), (36, .q)] mixed Ext.refl (fun h k => h.tr k) (by kernel_rfl) (fun w12 x12 => ?_)
  replace hE := Ext.tr hE x12
  replace x7 := x7.ext x12
  replace R0 := R0.ext x12
  replace A2 := A2.ext x12
  replace A3 := A3.ext x12
  replace O1 := O1.ext x12
  have zw12 := x12.size
  refine RX.mvS rfl ?_
  refine RX.mvS rfl ?_
  refine RX.mvI rfl ?_
  refine RX.o (fun w' hw => D.mul rfl rfl (W.i64 (by omega))) ?_
  refine RX.idx (fun _ h => h) R0 rfl rfl V51 C5 (by omega) (fun b13 o13 v13 h13 q13 r13 => ?_)
  refine RX.nm ?_
  simp only [lim] at r13
  have q0 := q13
  refine RX.o (fun w' hw => D.load rfl V5 rfl (h13 w' hw)) ?_
  refine RX.o (fun w' hw => D.conv rfl V5 V37 (W.u32 (by omega))) ?_
  refine RX.o (fun w' hw => D.mul rfl rfl (W.u32 (by omega))) ?_
  refine RX.mvS rfl ?_
  refine RX.mvI rfl ?_
  refine RX.o (fun w' hw => D.mul rfl rfl (W.i64 (by omega))) ?_
  refine RX.o (fun w' hw => D.add rfl rfl (W.i64 (by omega))) ?_
  refine RX.idx (fun _ h => h) R0 rfl rfl V51 C5 (by omega) (fun b14 o14 v14 h14 q14 r14 => ?_)
  refine RX.nm ?_
  simp only [lim] at r14
  have q1 := q14
  refine RX.o (fun w' hw => D.load rfl V5 rfl (h14 w' hw)) ?_
  refine RX.o (fun w' hw => D.conv rfl V5 V37 (W.u32 (by omega))) ?_
  refine RX.o (fun w' hw => D.add rfl rfl (W.u32 (by omega))) ?_
  refine RX.o (fun w' hw => D.mul rfl rfl (W.u32 (by omega))) ?_
  refine RX.mvS rfl ?_
  refine RX.mvI rfl ?_
  refine RX.o (fun w' hw => D.mul rfl rfl (W.i64 (by omega))) ?_
  refine RX.o (fun w' hw => D.add rfl rfl (W.i64 (by omega))) ?_
  refine RX.idx (fun _ h => h) R0 rfl rfl V51 C5 (by omega) (fun b15 o15 v15 h15 q15 r15 => ?_)
  refine RX.nm ?_
  simp only [lim] at r15
  have q2 := q15
  refine RX.o (fun w' hw => D.load rfl V5 rfl (h15 w' hw)) ?_
  refine RX.o (fun w' hw => D.conv rfl V5 V37 (W.u32 (by omega))) ?_
  refine RX.o (fun w' hw => D.add rfl rfl (W.u32 (by omega))) ?_
  refine RX.o (fun w' hw => D.mul rfl rfl (W.u32 (by omega))) ?_
  refine RX.mvS rfl ?_
  refine RX.mvI rfl ?_
  refine RX.o (fun w' hw => D.mul rfl rfl (W.i64 (by omega))) ?_
  refine RX.o (fun w' hw => D.add rfl rfl (W.i64 (by omega))) ?_
  refine RX.idx (fun _ h => h) R0 rfl rfl V51 C5 (by omega) (fun b16 o16 v16 h16 q16 r16 => ?_)
  refine RX.nm ?_
  simp only [lim] at r16
  have q3 := q16
  refine RX.o (fun w' hw => D.load rfl V5 rfl (h16 w' hw)) ?_
  refine RX.o (fun w' hw => D.conv rfl V5 V37 (W.u32 (by omega))) ?_
  refine RX.o (fun w' hw => D.add rfl rfl (W.u32 (by omega))) ?_
  refine RX.eff ?_
  refine RS.buildSlice (xs := [.tmp 59]) (vs := [.int _ _]) (cs := [.int _ _]) V338 T37 (by decide) rfl rfl rfl rfl rfl rfl (by intro v hv; simp only [List.mem_cons, List.not_mem_nil, or_false] at hv; subst hv; rfl) rfl (fun b17 w17 e17 s17 x17 B17 => ?_)
  refine RS.nm ?_
  replace hE := Ext.tr hE x17
  replace x7 := x7.ext x17
  replace R0 := R0.ext x17
  replace A2 := A2.ext x17
  replace A3 := A3.ext x17
  replace O1 := O1.ext x17
  have zw17 := x17.size
  have Q1 : IRow .u32 (fun k => k = b17) w17 (some ⟨b17, 0, none⟩) 1 [_] := IRow.of_blk B17 rfl rfl rfl (.cons (by simp only [lim]; omega) (.nil _))
  refine RS.nil ⟨x17, ?_⟩
  refine RX.big ?_
  refine RS.appendI O1 Q1 rfl rfl V338 T37 rfl (by omega) (by decide) (by omega) (fun a18 c18 w18 N18 x18 => ?_)
  refine RS.nm ?_
  replace hE := hE.trans (x18.belQ (fun _ h => (O1.lo _ h).1))
  replace x7 := x7.prnQ x18 (fun _ h => (O1.lo _ h).1)
  replace R0 := R0.prQ x18 (fun _ h => (O1.lo _ h).1)
  replace A2 := A2.prQ x18 (fun _ h => (O1.lo _ h).1)
  replace A3 := A3.prQ x18 (fun _ h => (O1.lo _ h).1)
  have zw18 := x18.size
  replace O1 := N18
  refine RS.nil ?_
  refine RX.assign (v := .slice _ _ _) rfl ?_
  refine RX.nil (J11 _ _ ?_)
  refine region ?_
  refine RS.mvI rfl ?_
  refine RS.o (D.add rfl rfl (W.i64 (by omega))) ?_
  refine RS.asI rfl ?_
  refine RS.nil ?_
  change Nx _ _ _ _ _ _ _ _
  refine C.next (i + 1, _, _, _) ⟨rfl, rfl, trivial⟩ (by kernel_rfl) ?_ ?_
  ·refine ⟨x7, ⟨by dsimp only; omega, by dsimp only; omega⟩, ?_⟩
   dsimp only
   rw [S.words_snoc bs i ⟨by omega, by omega⟩ (by omega) _ _ _ _ q0 q1 q2 q3]
   exact O1
  dsimp only; omega
 refine wp_exit ?_
 refine J5 _ _ ?_
 refine wx fun _ J19 => ?_
 refine sq fun _ J20 => ?_
 refine RS.asI rfl ?_
 refine nl J20 ?_
 refine wp_block ?_
 refine C.loop (A := Int × Option Addr × Nat × Nat) (fun p => [(5, .slice p.2.1 p.2.2.1 p.2.2.2), (7, .int .i64 p.1)]) [8, 9, 62, 63, 64, 65, 66, 67, 68, 69, 70, 71, 72, 73, 74, 75, 76, 77, 78, 79, 80, 81, 82, 83, 84, 85, 86, 87, 88, 89, 90, 91, 92, 93, 94, 95, 96, 97, 98, 99, 100, 101, 102, 103, 104, 105, 106, 107] (fun p w' => Pr (fun k => b3 < k) w7 w' ∧ ((16 ≤ p.1 ∧ p.1 ≤ 64) ∧ IOwn (b3 + 1) w' 37 .u32 p.2.1 p.2.2.1 p.2.2.2 (S.sch bs (p.1.toNat - 16)))) (fun p => (64 - p.1.toNat)) (16, ao, no, co) (by kernel_rfl) ?_ ?_
 ·rw [show i.toNat = 16 by omega, S.words_all] at O1
  exact ⟨Pr.refl _ _, ⟨by dsimp only; omega, by dsimp only; omega⟩, O1⟩
 rintro p j w21 ⟨x21, hI⟩
 replace hE := hE.trans (x21.belo)
 replace R0 := R0.pro x21
 replace A2 := A2.pro x21
 replace A3 := A3.pro x21
 have zw21 := x21.size
 obtain ⟨t, a5, n5, c5⟩ := p
 dsimp only at hI
 obtain ⟨h2, O1⟩ := hI
 have hol5 := O1.len
 rw [S.sch_len] at hol5
 have R5 := O1.row
 refine C.nmU ?_
 refine wx fun _ J22 => ?_
 refine sq fun _ J23 => ?_
 refine RS.mvI rfl ?_
 refine RS.o (D.lt rfl rfl) ?_
 refine nl J23 ?_
 refine C.ifd rfl (fun c24 => ?_) (fun c24 => ?_)
 ·refine wp_skip ?_
  refine J22 _ _ ?_
  refine wx fun _ J25 => ?_
  refine wp_block ?_
  refine wx fun _ J26 => ?_
  refine regionX Ext [(0, .q), (1, .q), (2, .q), (3, .q), (4, .q), (5, .q), (6, .q), (7, .q), (8, .q), (9, .q), (10, .q), (11, .q)] mixed Ext.refl (fun h k => h.tr k) (by kernel_rfl) (fun w27 x27 => ?_)
  replace hE := Ext.tr hE x27
  replace x21 := x21.ext x27
  replace R0 := R0.ext x27
  replace A2 := A2.ext x27
  replace A3 := A3.ext x27
  replace O1 := O1.ext x27
  replace R5 := R5.ext x27
  have zw27 := x27.size
  refine RX.mvS rfl ?_
  refine RX.mvI rfl ?_
  refine RX.o (fun w' hw => D.sub rfl rfl (W.i64 (by omega))) ?_
  refine RX.idx (fun _ h => h) R5 rfl rfl V338 C37 (by omega) (fun b28 o28 v28 h28 q28 r28 => ?_)
  refine RX.nm ?_
  simp only [lim] at r28
  have p1 := q28
  refine RX.o (fun w' hw => D.load rfl V37 rfl (h28 w' hw)) ?_
  refine RX.mvS rfl ?_
  refine RX.mvI rfl ?_
  refine RX.o (fun w' hw => D.sub rfl rfl (W.i64 (by omega))) ?_
  refine RX.idx (fun _ h => h) R5 rfl rfl V338 C37 (by omega) (fun b29 o29 v29 h29 q29 r29 => ?_)
  refine RX.nm ?_
  simp only [lim] at r29
  have p2 := q29
  refine RX.o (fun w' hw => D.load rfl V37 rfl (h29 w' hw)) ?_
  refine RX.assign (v := .int _ _) rfl ?_
  refine RX.assign (v := .int _ _) rfl ?_
  refine RX.nil (J26 _ _ ?_)
  refine regionX Ext [(0, .q), (1, .q), (2, .q), (3, .q), (4, .q), (5, .q), (6, .q), (7, .q), (8, .q), (9, .q), (10, .q), (11, .q), (12, .q), (14, .q), (17, .q), (18, .q), (21, .q), (23, .q), (26, .q), (27, .q), (13, .e), (15, .e), (16, .q), (19, .q), (20, .q), (22, .e), (24, .e), (25, .q), (28, .q), (29, .q), (30, .e), (31, .g), (32, .q)] mixed Ext.refl (fun h k => h.tr k) (by kernel_rfl) (fun w30 x30 => ?_)
  replace hE := Ext.tr hE x30
  replace x21 := x21.ext x30
  replace R0 := R0.ext x30
  replace A2 := A2.ext x30
  replace A3 := A3.ext x30
  replace O1 := O1.ext x30
  replace R5 := R5.ext x30
  have zw30 := x30.size
  refine RX.mvS rfl ?_
  refine RX.mvS rfl ?_
  refine RX.mvI rfl ?_
  refine RX.o (fun w' hw => D.sub rfl rfl (W.i64 (by omega))) ?_
  refine RX.idx (fun _ h => h) R5 rfl rfl V338 C37 (by omega) (fun b31 o31 v31 h31 q31 r31 => ?_)
  refine RX.nm ?_
  simp only [lim] at r31
  have p3 := q31
  refine RX.o (fun w' hw => D.load rfl V37 rfl (h31 w' hw)) ?_
  refine RX.mvS rfl ?_
  refine RX.mvI rfl ?_
  refine RX.o (fun w' hw => D.sub rfl rfl (W.i64 (by omega))) ?_
  refine RX.idx (fun _ h => h) R5 rfl rfl V338 C37 (by omega) (fun b32 o32 v32 h32 q32 r32 => ?_)
  refine RX.nm ?_
  simp only [lim] at r32
  have p4 := q32
  refine RX.o (fun w' hw => D.load rfl V37 rfl (h32 w' hw)) ?_
  refine RX.o (fun w' hw => D.add rfl rfl (W.u32m _)) ?_
  refine RX.mvI rfl ?_
  refine RX.mvI rfl ?_
  refine RX.mvI rfl ?_
  refine RX.ob (Ext.refl _) (fun w' hw => D.shr_u32 rfl rfl (by omega) (by constructor <;> omega)) (fun z33 => ?_)
  refine RX.mvI rfl ?_
  refine RX.mvI rfl ?_
  refine RX.mvI rfl ?_
  refine RX.ob (Ext.refl _) (fun w' hw => D.shr_u32 rfl rfl (by omega) (by constructor <;> omega)) (fun z34 => ?_)
  refine RX.eff ?_
  refine RS.call E269 (turn _ (by omega) 7 (by omega) _) rfl (fun v35 w35 x35 A35 => ?_)
  replace hE := Ext.tr hE x35
  replace x21 := x21.ext x35
  replace R0 := R0.ext x35
  replace A2 := A2.ext x35
  replace A3 := A3.ext x35
  replace O1 := O1.ext x35
  replace R5 := R5.ext x35
  have zw35 := x35.size
  subst A35
  have g35 := S.rotr_bd v28 7 (by omega)
  refine RS.nm ?_
  refine RS.nil ⟨x35, ?_⟩
  refine RX.eff ?_
  refine RS.call E269 (turn _ (by omega) 18 (by omega) _) rfl (fun v36 w36 x36 A36 => ?_)
  replace hE := Ext.tr hE x36
  replace x21 := x21.ext x36
  replace R0 := R0.ext x36
  replace A2 := A2.ext x36
  replace A3 := A3.ext x36
  replace O1 := O1.ext x36
  replace R5 := R5.ext x36
  have zw36 := x36.size
  subst A36
  have g36 := S.rotr_bd v28 18 (by omega)
  refine RS.nm ?_
  refine RS.nil ⟨x36, ?_⟩
  refine RX.ob (Ext.refl _) (fun w' hw => D.bxor_u32 rfl rfl (by omega) (by omega)) (fun z37 => ?_)
  refine RX.ob (Ext.refl _) (fun w' hw => D.bxor_u32 rfl rfl (by omega) (by omega)) (fun z38 => ?_)
  refine RX.o (fun w' hw => D.add rfl rfl (W.u32m _)) ?_
  refine RX.eff ?_
  refine RS.call E269 (turn _ (by omega) 17 (by omega) _) rfl (fun v39 w39 x39 A39 => ?_)
  replace hE := Ext.tr hE x39
  replace x21 := x21.ext x39
  replace R0 := R0.ext x39
  replace A2 := A2.ext x39
  replace A3 := A3.ext x39
  replace O1 := O1.ext x39
  replace R5 := R5.ext x39
  have zw39 := x39.size
  subst A39
  have g39 := S.rotr_bd v29 17 (by omega)
  refine RS.nm ?_
  refine RS.nil ⟨x39, ?_⟩
  refine RX.eff ?_
  refine RS.call E269 (turn _ (by omega) 19 (by omega) _) rfl (fun v40 w40 x40 A40 => ?_)
  replace hE := Ext.tr hE x40
  replace x21 := x21.ext x40
  replace R0 := R0.ext x40
  replace A2 := A2.ext x40
  replace A3 := A3.ext x40
  replace O1 := O1.ext x40
  replace R5 := R5.ext x40
  have zw40 := x40.size
  subst A40
  have g40 := S.rotr_bd v29 19 (by omega)
  refine RS.nm ?_
  refine RS.nil ⟨x40, ?_⟩
  refine RX.ob (Ext.refl _) (fun w' hw => D.bxor_u32 rfl rfl (by omega) (by omega)) (fun z41 => ?_)
  refine RX.ob (Ext.refl _) (fun w' hw => D.bxor_u32 rfl rfl (by omega) (by omega)) (fun z42 => ?_)
  refine RX.o (fun w' hw => D.add rfl rfl (W.u32m _)) ?_
  refine RX.eff ?_
  refine RS.buildSlice (xs := [.tmp 105]) (vs := [.int _ _]) (cs := [.int _ _]) V338 T37 (by decide) rfl rfl rfl rfl rfl rfl (by intro v hv; simp only [List.mem_cons, List.not_mem_nil, or_false] at hv; subst hv; rfl) rfl (fun b43 w43 e43 s43 x43 B43 => ?_)
  refine RS.nm ?_
  replace hE := Ext.tr hE x43
  replace x21 := x21.ext x43
  replace R0 := R0.ext x43
  replace A2 := A2.ext x43
  replace A3 := A3.ext x43
  replace O1 := O1.ext x43
  replace R5 := R5.ext x43
  have zw43 := x43.size
  have Q1 : IRow .u32 (fun k => k = b43) w43 (some ⟨b43, 0, none⟩) 1 [_] := IRow.of_blk B43 rfl rfl rfl (.cons (by simp only [lim]; omega) (.nil _))
  refine RS.nil ⟨x43, ?_⟩
  refine RX.big ?_
  refine RS.appendI O1 Q1 rfl rfl V338 T37 rfl (by omega) (by decide) (by omega) (fun a44 c44 w44 N44 x44 => ?_)
  refine RS.nm ?_
  replace hE := hE.trans (x44.belQ (fun _ h => (O1.lo _ h).1))
  replace x21 := x21.prnQ x44 (fun _ h => (O1.lo _ h).1)
  replace R0 := R0.prQ x44 (fun _ h => (O1.lo _ h).1)
  replace A2 := A2.prQ x44 (fun _ h => (O1.lo _ h).1)
  replace A3 := A3.prQ x44 (fun _ h => (O1.lo _ h).1)
  have zw44 := x44.size
  replace O1 := N44
  refine RS.nil ?_
  refine RX.assign (v := .slice _ _ _) rfl ?_
  refine RX.nil (J25 _ _ ?_)
  refine region ?_
  refine RS.mvI rfl ?_
  refine RS.o (D.add rfl rfl (W.i64 (by omega))) ?_
  refine RS.asI rfl ?_
  refine RS.nil ?_
  change Nx _ _ _ _ _ _ _ _
  refine C.next (t + 1, _, _, _) ⟨rfl, rfl, trivial⟩ (by kernel_rfl) ?_ ?_
  ·refine ⟨x21, ⟨by dsimp only; omega, by dsimp only; omega⟩, ?_⟩
   dsimp only
   rw [S.sch_snoc bs t ⟨by omega, by omega⟩]
   subst p1 p2 p3 p4
   exact O1
  dsimp only; omega
 refine wp_exit ?_
 refine J19 _ _ ?_
 refine wx fun _ J45 => ?_
 rw [show t.toNat - 16 = 48 by omega] at O1
 have R6 := O1.row.weaken (T := fun k => b3 < k ∧ k < w21.heap.size) (fun k hk h => ⟨by omega, hk⟩)
 refine region ?_
 refine RS.call E270 (constants _) rfl (fun v46 w46 x46 A46 => ?_)
 replace hE := Ext.tr hE x46
 replace R0 := R0.ext x46
 replace A2 := A2.ext x46
 replace A3 := A3.ext x46
 replace R6 := R6.ext x46
 have zw46 := x46.size
 obtain ⟨b46, rfl, g46, RK⟩ := A46
 replace RK := RK.weaken (T := fun k => k < w46.heap.size) (fun k hk _ => hk)
 refine RS.nm ?_
 refine RS.asS rfl ?_
 refine nl J45 (sq fun _ J47 => ?_)
 refine RS.o (D.loadAgg rfl V255 rfl C255 (by decide) (by rw [ints_length, A2.len]) A2.cells) ?_
 refine RS.alloc T255 (fun b48 w48 e48 s48 x48 B48 => ?_)
 refine RS.nm ?_
 replace hE := Ext.tr hE x48
 replace R0 := R0.ext x48
 replace A2 := A2.ext x48
 replace A3 := A3.ext x48
 replace R6 := R6.ext x48
 replace RK := RK.ext x48
 have zw48 := x48.size
 have A48 : IArr .u32 w48 b48 8 (List.replicate 8 0) [] 255 := IArr.zero B48
 clear B48
 refine RS.storeArr A48 rfl rfl C255 (by decide) H.1 H.2 (fun w49 y49 N49 => ?_)
 replace hE := hE.trans (y49.belo)
 replace R0 := R0.sto y49
 replace A2 := A2.sto y49
 replace A3 := A3.sto y49
 replace R6 := R6.sto y49
 replace RK := RK.sto y49
 have zw49 := y49.size
 replace A48 := N49
 refine nl J47 ?_
 refine wx fun _ J50 => ?_
 refine sq fun _ J51 => ?_
 refine RS.asI rfl ?_
 refine nl J51 ?_
 refine wp_block ?_
 refine C.loop (A := Int × S.H8) (fun p => [(12, .int .i64 p.1)]) [13, 14, 15, 16, 17, 18, 19, 20, 110, 111, 112, 113, 114, 115, 116, 117, 118, 119, 120, 121, 122, 123, 124, 125, 126, 127, 128, 129, 130, 131, 132, 133, 134, 135, 136, 137, 138, 139, 140, 141, 142, 143, 144, 145, 146, 147, 148, 149, 150, 151, 152, 153, 154, 155, 156, 157, 158, 159, 160, 161, 162, 163, 164, 165, 166, 167, 168, 169, 170, 171, 172, 173, 174, 175, 176, 177, 178, 179, 180, 181, 182, 183, 184, 185, 186, 187, 188, 189] (fun p w' => Pr (fun k => k = b48) w49 w' ∧ (IArr .u32 w' b48 8 p.2.toL [] 255 ∧ (0 ≤ p.1 ∧ p.1 ≤ 64) ∧ p.2 = S.rounds (S.sch bs 48) (S.H8.of h) p.1.toNat)) (fun p => (64 - p.1.toNat)) (0, S.H8.of h) (by kernel_rfl) ?_ ?_
 ·have e8 : h = (S.H8.of h).toL := S.toL_of h H.1
  refine ⟨Pr.refl _ _, ?_, ⟨by dsimp only; omega, by dsimp only; omega⟩, ?_⟩
  ·dsimp only; rw [← e8]; exact A48
  show S.H8.of h = S.rounds _ _ (0 : Int).toNat; rw [show (0 : Int).toNat = 0 from rfl, S.rounds_zero]
 rintro p j w52 ⟨x52, hI⟩
 replace hE := hE.trans (x52.belo)
 replace R0 := R0.pro x52
 replace A2 := A2.pro x52
 replace A3 := A3.pro x52
 replace R6 := R6.pro x52
 replace RK := RK.pro x52
 have zw52 := x52.size
 obtain ⟨i3, st⟩ := p
 dsimp only at hI
 obtain ⟨A48, g1, g2⟩ := hI
 have hok : st.ok := by rw [g2]; exact S.rounds_ok _ _ (S.H8.of_ok _ H.2) _
 have hst := S.ok_arr st hok
 refine C.nmU ?_
 refine wx fun _ J53 => ?_
 refine sq fun _ J54 => ?_
 refine RS.mvI rfl ?_
 refine RS.o (D.lt rfl rfl) ?_
 refine nl J54 ?_
 refine C.ifd rfl (fun c55 => ?_) (fun c55 => ?_)
 ·refine wp_skip ?_
  refine J53 _ _ ?_
  refine wx fun _ J56 => ?_
  refine wp_block ?_
  refine wx fun _ J57 => ?_
  refine regionX Ext [(0, .q), (1, .q), (2, .q), (3, .q), (4, .q), (5, .q), (6, .q), (7, .q), (8, .q), (9, .q), (10, .q), (11, .q), (12, .q), (13, .q), (14, .q), (15, .q), (16, .q), (17, .q)] mixed Ext.refl (fun h k => h.tr k) (by kernel_rfl) (fun w58 x58 => ?_)
  replace hE := Ext.tr hE x58
  replace x52 := x52.ext x58
  replace R0 := R0.ext x58
  replace A2 := A2.ext x58
  replace A3 := A3.ext x58
  replace R6 := R6.ext x58
  replace RK := RK.ext x58
  replace A48 := A48.ext x58
  have zw58 := x58.size
  refine RX.idxA (fun _ h => h) A48 rfl rfl V255 C37 (by decide) (fun v59 h59 q59 r59 => ?_)
  refine RX.nm ?_
  simp only [lim] at r59
  obtain rfl : v59 = st.a := q59
  refine RX.o (fun w' hw => D.load rfl V37 rfl (h59 w' hw)) ?_
  refine RX.idxA (fun _ h => h) A48 rfl rfl V255 C37 (by decide) (fun v60 h60 q60 r60 => ?_)
  refine RX.nm ?_
  simp only [lim] at r60
  obtain rfl : v60 = st.b := q60
  refine RX.o (fun w' hw => D.load rfl V37 rfl (h60 w' hw)) ?_
  refine RX.idxA (fun _ h => h) A48 rfl rfl V255 C37 (by decide) (fun v61 h61 q61 r61 => ?_)
  refine RX.nm ?_
  simp only [lim] at r61
  obtain rfl : v61 = st.c := q61
  refine RX.o (fun w' hw => D.load rfl V37 rfl (h61 w' hw)) ?_
  refine RX.idxA (fun _ h => h) A48 rfl rfl V255 C37 (by decide) (fun v62 h62 q62 r62 => ?_)
  refine RX.nm ?_
  simp only [lim] at r62
  obtain rfl : v62 = st.e := q62
  refine RX.o (fun w' hw => D.load rfl V37 rfl (h62 w' hw)) ?_
  refine RX.idxA (fun _ h => h) A48 rfl rfl V255 C37 (by decide) (fun v63 h63 q63 r63 => ?_)
  refine RX.nm ?_
  simp only [lim] at r63
  obtain rfl : v63 = st.f := q63
  refine RX.o (fun w' hw => D.load rfl V37 rfl (h63 w' hw)) ?_
  refine RX.idxA (fun _ h => h) A48 rfl rfl V255 C37 (by decide) (fun v64 h64 q64 r64 => ?_)
  refine RX.nm ?_
  simp only [lim] at r64
  obtain rfl : v64 = st.g := q64
  refine RX.o (fun w' hw => D.load rfl V37 rfl (h64 w' hw)) ?_
  refine RX.assign (v := .int _ _) rfl ?_
  refine RX.assign (v := .int _ _) rfl ?_
  refine RX.assign (v := .int _ _) rfl ?_
  refine RX.assign (v := .int _ _) rfl ?_
  refine RX.assign (v := .int _ _) rfl ?_
  refine RX.assign (v := .int _ _) rfl ?_
  refine RX.nil (J57 _ _ ?_)
  refine wx fun _ J65 => ?_
  refine regionX Ext [(0, .q), (1, .q), (2, .q), (4, .q), (7, .q), (11, .q), (12, .q), (13, .q), (14, .q), (15, .q), (16, .q), (17, .q), (18, .q), (20, .q), (21, .q), (22, .q), (23, .q), (25, .q), (26, .q), (27, .q), (28, .q), (3, .e), (5, .e), (6, .q), (8, .e), (9, .q), (10, .q), (19, .q), (24, .q), (29, .q), (30, .q)] mixed Ext.refl (fun h k => h.tr k) (by kernel_rfl) (fun w66 x66 => ?_)
  replace hE := Ext.tr hE x66
  replace x52 := x52.ext x66
  replace R0 := R0.ext x66
  replace A2 := A2.ext x66
  replace A3 := A3.ext x66
  replace R6 := R6.ext x66
  replace RK := RK.ext x66
  replace A48 := A48.ext x66
  have zw66 := x66.size
  refine RX.idxA (fun _ h => h) A48 rfl rfl V255 C37 (by decide) (fun v67 h67 q67 r67 => ?_)
  refine RX.nm ?_
  simp only [lim] at r67
  obtain rfl : v67 = st.h := q67
  refine RX.o (fun w' hw => D.load rfl V37 rfl (h67 w' hw)) ?_
  refine RX.mvI rfl ?_
  refine RX.mvI rfl ?_
  refine RX.mvI rfl ?_
  refine RX.mvI rfl ?_
  refine RX.mvI rfl ?_
  refine RX.ob (Ext.refl _) (fun w' hw => D.band_u32 rfl rfl (by omega) (by omega)) (fun z68 => ?_)
  refine RX.mvI rfl ?_
  refine RX.o (fun w' hw => D.inv rfl (by omega)) ?_
  refine RX.mvI rfl ?_
  refine RX.ob (Ext.refl _) (fun w' hw => D.band_u32 rfl rfl (by omega) (by omega)) (fun z69 => ?_)
  refine RX.ob (Ext.refl _) (fun w' hw => D.bxor_u32 rfl rfl (by omega) (by omega)) (fun z70 => ?_)
  refine RX.mvS rfl ?_
  refine RX.mvI rfl ?_
  refine RX.idx (fun _ h => h) RK rfl rfl V338 C37 (by omega) (fun b71 o71 v71 h71 q71 r71 => ?_)
  refine RX.nm ?_
  simp only [lim] at r71
  have qk := q71
  refine RX.o (fun w' hw => D.load rfl V37 rfl (h71 w' hw)) ?_
  refine RX.mvS rfl ?_
  refine RX.mvI rfl ?_
  refine RX.idx (fun _ h => h) R6 rfl rfl V338 C37 (by omega) (fun b72 o72 v72 h72 q72 r72 => ?_)
  refine RX.nm ?_
  simp only [lim] at r72
  have qw := q72
  refine RX.o (fun w' hw => D.load rfl V37 rfl (h72 w' hw)) ?_
  refine RX.eff ?_
  refine RS.call E269 (turn _ (by omega) 6 (by omega) _) rfl (fun v73 w73 x73 A73 => ?_)
  replace hE := Ext.tr hE x73
  replace x52 := x52.ext x73
  replace R0 := R0.ext x73
  replace A2 := A2.ext x73
  replace A3 := A3.ext x73
  replace R6 := R6.ext x73
  replace RK := RK.ext x73
  replace A48 := A48.ext x73
  have zw73 := x73.size
  subst A73
  have g73 := S.rotr_bd st.e 6 (by omega)
  refine RS.nm ?_
  refine RS.nil ⟨x73, ?_⟩
  refine RX.eff ?_
  refine RS.call E269 (turn _ (by omega) 11 (by omega) _) rfl (fun v74 w74 x74 A74 => ?_)
  replace hE := Ext.tr hE x74
  replace x52 := x52.ext x74
  replace R0 := R0.ext x74
  replace A2 := A2.ext x74
  replace A3 := A3.ext x74
  replace R6 := R6.ext x74
  replace RK := RK.ext x74
  replace A48 := A48.ext x74
  have zw74 := x74.size
  subst A74
  have g74 := S.rotr_bd st.e 11 (by omega)
  refine RS.nm ?_
  refine RS.nil ⟨x74, ?_⟩
  refine RX.ob (Ext.refl _) (fun w' hw => D.bxor_u32 rfl rfl (by omega) (by omega)) (fun z75 => ?_)
  refine RX.eff ?_
  refine RS.call E269 (turn _ (by omega) 25 (by omega) _) rfl (fun v76 w76 x76 A76 => ?_)
  replace hE := Ext.tr hE x76
  replace x52 := x52.ext x76
  replace R0 := R0.ext x76
  replace A2 := A2.ext x76
  replace A3 := A3.ext x76
  replace R6 := R6.ext x76
  replace RK := RK.ext x76
  replace A48 := A48.ext x76
  have zw76 := x76.size
  subst A76
  have g76 := S.rotr_bd st.e 25 (by omega)
  refine RS.nm ?_
  refine RS.nil ⟨x76, ?_⟩
  refine RX.ob (Ext.refl _) (fun w' hw => D.bxor_u32 rfl rfl (by omega) (by omega)) (fun z77 => ?_)
  refine RX.o (fun w' hw => D.add rfl rfl (W.u32m _)) ?_
  refine RX.o (fun w' hw => D.add rfl rfl (W.u32m _)) ?_
  refine RX.o (fun w' hw => D.add rfl rfl (W.u32m _)) ?_
  refine RX.o (fun w' hw => D.add rfl rfl (W.u32m _)) ?_
  refine RX.assign (v := .int _ _) rfl ?_
  refine RX.nil (J65 _ _ ?_)
  refine sq fun _ J78 => ?_
  refine RS.mvI rfl ?_
  refine RS.call E269 (turn _ (by omega) 2 (by omega) _) rfl (fun v79 w79 x79 A79 => ?_)
  replace hE := Ext.tr hE x79
  replace x52 := x52.ext x79
  replace R0 := R0.ext x79
  replace A2 := A2.ext x79
  replace A3 := A3.ext x79
  replace R6 := R6.ext x79
  replace RK := RK.ext x79
  replace A48 := A48.ext x79
  have zw79 := x79.size
  subst A79
  have g79 := S.rotr_bd st.a 2 (by omega)
  refine RS.nm ?_
  refine RS.mvI rfl ?_
  refine RS.call E269 (turn _ (by omega) 13 (by omega) _) rfl (fun v80 w80 x80 A80 => ?_)
  replace hE := Ext.tr hE x80
  replace x52 := x52.ext x80
  replace R0 := R0.ext x80
  replace A2 := A2.ext x80
  replace A3 := A3.ext x80
  replace R6 := R6.ext x80
  replace RK := RK.ext x80
  replace A48 := A48.ext x80
  have zw80 := x80.size
  subst A80
  have g80 := S.rotr_bd st.a 13 (by omega)
  refine RS.nm ?_
  refine RS.ob (D.bxor_u32 rfl rfl (by omega) (by omega)) (fun z81 => ?_)
  refine RS.mvI rfl ?_
  refine RS.call E269 (turn _ (by omega) 22 (by omega) _) rfl (fun v82 w82 x82 A82 => ?_)
  replace hE := Ext.tr hE x82
  replace x52 := x52.ext x82
  replace R0 := R0.ext x82
  replace A2 := A2.ext x82
  replace A3 := A3.ext x82
  replace R6 := R6.ext x82
  replace RK := RK.ext x82
  replace A48 := A48.ext x82
  have zw82 := x82.size
  subst A82
  have g82 := S.rotr_bd st.a 22 (by omega)
  refine RS.nm ?_
  refine RS.ob (D.bxor_u32 rfl rfl (by omega) (by omega)) (fun z83 => ?_)
  refine RS.mvI rfl ?_
  refine RS.mvI rfl ?_
  refine RS.ob (D.band_u32 rfl rfl (by omega) (by omega)) (fun z84 => ?_)
  refine RS.mvI rfl ?_
  refine RS.mvI rfl ?_
  refine RS.ob (D.band_u32 rfl rfl (by omega) (by omega)) (fun z85 => ?_)
  refine RS.ob (D.bxor_u32 rfl rfl (by omega) (by omega)) (fun z86 => ?_)
  refine RS.mvI rfl ?_
  refine RS.mvI rfl ?_
  refine RS.ob (D.band_u32 rfl rfl (by omega) (by omega)) (fun z87 => ?_)
  refine RS.ob (D.bxor_u32 rfl rfl (by omega) (by omega)) (fun z88 => ?_)
  refine RS.o (D.add rfl rfl (W.u32m _)) ?_
  refine RS.asI rfl ?_
  refine nl J78 ?_
  refine region ?_
  refine RS.mvI rfl ?_
  refine RS.mvI rfl ?_
  refine RS.o (D.add rfl rfl (W.u32m _)) ?_
  refine RS.mvI rfl ?_
  refine RS.mvI rfl ?_
  refine RS.mvI rfl ?_
  refine RS.idxA A48 rfl rfl V255 C37 (by decide) (fun v89 h89 q89 r89 => ?_)
  refine RS.nm ?_
  simp only [lim] at r89
  obtain rfl : v89 = st.d := q89
  refine RS.o (D.load rfl V37 rfl (h89)) ?_
  refine RS.mvI rfl ?_
  refine RS.o (D.add rfl rfl (W.u32m _)) ?_
  refine RS.mvI rfl ?_
  refine RS.mvI rfl ?_
  refine RS.mvI rfl ?_
  refine RS.o (D.buildArr (xs := [.tmp 178, .tmp 179, .tmp 180, .tmp 181, .tmp 185, .tmp 186, .tmp 187, .tmp 188]) (vs := ints .u32 [_, _, _, _, _, _, _, _]) V255 T255 (by simp [ints]) C37 rfl rfl rfl (by intro v hv; obtain ⟨x, _, rfl⟩ := List.mem_map.1 hv; rfl)) ?_
  refine RS.storeArr A48 rfl rfl C255 (by decide) (S.ok_arr _ (S.rnd_ok v71 v72 st hok)).1 (S.ok_arr _ (S.rnd_ok v71 v72 st hok)).2 (fun w90 y90 N90 => ?_)
  replace hE := hE.trans (y90.belo)
  replace x52 := x52.stno y90
  replace R0 := R0.sto y90
  replace A2 := A2.sto y90
  replace A3 := A3.sto y90
  replace R6 := R6.sto y90
  replace RK := RK.sto y90
  have zw90 := y90.size
  replace A48 := N90
  refine nl J56 ?_
  refine region ?_
  refine RS.mvI rfl ?_
  refine RS.o (D.add rfl rfl (W.i64 (by omega))) ?_
  refine RS.asI rfl ?_
  refine RS.nil ?_
  change Nx _ _ _ _ _ _ _ _
  refine C.next (i3 + 1, S.rnd v71 v72 st) ⟨rfl, trivial⟩ (by kernel_rfl) ?_ ?_
  ·refine ⟨x52, A48, ⟨by dsimp only; omega, by dsimp only; omega⟩, ?_⟩
   dsimp only
   rw [show (i3 + 1).toNat = i3.toNat + 1 by omega, S.rounds_succ, ← g2, qk, qw]
  dsimp only; omega
 refine wp_exit ?_
 refine J50 _ _ ?_
 refine wx fun _ J91 => ?_
 refine sq fun _ J92 => ?_
 refine RS.asI rfl ?_
 refine nl J92 ?_
 refine wp_block ?_
 refine C.loop (A := Int × List Int) (fun p => [(21, .int .i64 p.1)]) [190, 191, 192, 193, 194, 195, 196, 197, 198, 199, 200, 201] (fun p w' => Pr (fun k => k = b2) w52 w' ∧ (IArr .u32 w' b2 8 p.2 [] 255 ∧ (0 ≤ p.1 ∧ p.1 ≤ 8) ∧ p.2 = (S.addW h st.toL).take p.1.toNat ++ h.drop p.1.toNat)) (fun p => (8 - p.1.toNat)) (0, h) (by kernel_rfl) ?_ ?_
 ·exact ⟨Pr.refl _ _, A2, ⟨by dsimp only; omega, by dsimp only; omega⟩, rfl⟩
 rintro p j w93 ⟨x93, hI⟩
 replace hE := hE.trans (x93.belo)
 replace R0 := R0.pro x93
 replace A3 := A3.pro x93
 replace A48 := A48.pro x93
 have zw93 := x93.size
 obtain ⟨j, xs⟩ := p
 dsimp only at hI
 obtain ⟨A2, f1, f2⟩ := hI
 have hxl := A2.len
 refine C.nmU ?_
 refine wx fun _ J94 => ?_
 refine sq fun _ J95 => ?_
 refine RS.mvI rfl ?_
 refine RS.o (D.lt rfl rfl) ?_
 refine nl J95 ?_
 refine C.ifd rfl (fun c96 => ?_) (fun c96 => ?_)
 ·refine wp_skip ?_
  refine J94 _ _ ?_
  refine wx fun _ J97 => ?_
  refine wp_block ?_
  refine regionX Ext [(0, .q), (1, .q), (2, .q), (3, .q), (4, .q), (5, .q), (6, .q), (7, .q), (8, .g)] mixed Ext.refl (fun h k => h.tr k) (by kernel_rfl) (fun w98 x98 => ?_)
  replace hE := Ext.tr hE x98
  replace x93 := x93.ext x98
  replace R0 := R0.ext x98
  replace A2 := A2.ext x98
  replace A3 := A3.ext x98
  replace A48 := A48.ext x98
  have zw98 := x98.size
  refine RX.mvI rfl ?_
  refine RX.idxA (fun _ h => h) A2 rfl rfl V255 C37 (by omega) (fun v99 h99 q99 r99 => ?_)
  refine RX.nm ?_
  simp only [lim] at r99
  have qz := q99
  refine RX.o (fun w' hw => D.load rfl V37 rfl (h99 w' hw)) ?_
  refine RX.mvI rfl ?_
  refine RX.idxA (fun _ h => h) A48 rfl rfl V255 C37 (by omega) (fun v100 h100 q100 r100 => ?_)
  refine RX.nm ?_
  simp only [lim] at r100
  have qy := q100
  refine RX.o (fun w' hw => D.load rfl V37 rfl (h100 w' hw)) ?_
  refine RX.o (fun w' hw => D.add rfl rfl (W.u32m _)) ?_
  refine RX.idxA (fun _ h => h) A2 rfl rfl V255 C37 (by omega) (fun v101 h101 q101 r101 => ?_)
  refine RX.nm ?_
  simp only [lim] at r101
  refine RX.big ?_
  refine RS.storeA A2 rfl rfl C37 (by omega) (by simp only [lim]; omega) (fun w102 y102 N102 => ?_)
  replace hE := hE.trans (y102.belo)
  replace x93 := x93.stno y102
  replace R0 := R0.sto y102
  replace A3 := A3.sto y102
  replace A48 := A48.sto y102
  have zw102 := y102.size
  replace A2 := N102
  refine RS.nil ?_
  refine RX.nil (J97 _ _ ?_)
  refine region ?_
  refine RS.mvI rfl ?_
  refine RS.o (D.add rfl rfl (W.i64 (by omega))) ?_
  refine RS.asI rfl ?_
  refine RS.nil ?_
  change Nx _ _ _ _ _ _ _ _
  refine C.next (j + 1, xs.set j.toNat ((v99 + v100) % 4294967296)) ⟨rfl, trivial⟩ (by kernel_rfl) ?_ ?_
  ·refine ⟨x93, A2, ⟨by dsimp only; omega, by dsimp only; omega⟩, ?_⟩
   dsimp only
   have e := S.add_step h st.toL xs j (by omega) hxl f2 hhl
   rw [qz, qy]
   exact e
  dsimp only; omega
 refine wp_exit ?_
 refine J91 _ _ ?_
 refine wx fun _ J103 => ?_
 have harr := A2.arr
 refine region ?_
 refine RS.o (D.loadAgg rfl V255 rfl C255 (by decide) (by rw [ints_length, A2.len]) A2.cells) ?_
 refine RS.storeArr A3 rfl rfl C255 (by decide) (by first | assumption | exact And.left (by assumption) | exact IArr.len (by assumption)) (by first | assumption | exact And.right (by assumption) | exact IArr.bd (by assumption)) (fun w104 y104 N104 => ?_)
 replace hE := hE.trans (y104.belo)
 replace R0 := R0.sto y104
 replace A2 := A2.sto y104
 replace A48 := A48.sto y104
 have zw104 := y104.size
 replace A3 := N104
 refine nl J103 ?_
 refine wp_ret ?_
 refine ret (rs := [.cell 4 255]) (vs := [.agg _]) (v := (.agg _)) rfl ⟨⟨_, rfl, loadVar_agg V255 rfl C255 (by decide) (by rw [ints_length, A3.len]) A3.cells⟩, trivial⟩ rfl ?_
 refine ⟨_, rfl, hE, ?_⟩
 rw [← S.grind_last h xs bs st (by rw [g2, show i3.toNat = 64 by omega]) (by rw [f2, show j.toNat = 8 by omega]) hhl]
theorem E169 : Enters Tryz.prog 169 := .mk Tryz.func169 (by kernel_rfl) rfl
theorem E170 : Enters Tryz.prog 170 := .mk Tryz.func170 (by kernel_rfl) rfl
theorem E171 : Enters Tryz.prog 171 := .mk Tryz.func171 (by kernel_rfl) rfl
theorem E172 : Enters Tryz.prog 172 := .mk Tryz.func172 (by kernel_rfl) rfl
theorem E231 : Enters Tryz.prog 231 := .mk Tryz.func231 (by kernel_rfl) rfl
theorem blocks {S0 : Nat → Prop} (h : List Int) (a : Option Addr) (n c : Nat) (bs : List Int) (w : World) (H : Arr .u32 8 h) (R0 : IRow .u8 S0 w a n bs) (hn : n ≤ 1000000) (hc : n ≤ c) :
  Calls Tryz.prog 170 #[.agg (ints .u32 h).toArray, .slice a n c] w (Ret w fun v _ => v = .agg (ints .u32 (S.blocksS h bs)).toArray) := by
 replace R0 := R0.weaken (T := fun k => k < w.heap.size) (fun k hk _ => hk)
 have hl0 := R0.len
 have hE := Ext.refl w
 refine enterU 19 Tryz.func170 rfl rfl ?_
 refine sq fun _ J1 => ?_
 refine RS.box rfl rfl (fun b2 w2 e2 s2 x2 B2 => ?_)
 refine RS.nm ?_
 replace hE := Ext.tr hE x2
 replace R0 := R0.ext x2
 have zw2 := x2.size
 have A2 := IArr.ofA (n := 8) B2 H
 clear B2
 refine RS.alloc T255 (fun b3 w3 e3 s3 x3 B3 => ?_)
 refine RS.nm ?_
 replace hE := Ext.tr hE x3
 replace R0 := R0.ext x3
 replace A2 := A2.ext x3
 have zw3 := x3.size
 have A3 : IArr .u32 w3 b3 8 (List.replicate 8 0) [] 255 := IArr.zero B3
 clear B3
 refine nl J1 ?_
 refine wx fun _ J4 => ?_
 refine sq fun _ J5 => ?_
 refine RS.asI rfl ?_
 refine nl J5 ?_
 refine wp_block ?_
 refine C.loop (A := Int × List Int) (fun p => [(5, .int .i64 p.1)]) [6, 7, 8, 9, 10, 11, 12, 13, 14, 15, 16, 17, 18, 19] (fun p w' => Pr (fun k => k = b2) w3 w' ∧ (IArr .u32 w' b2 8 p.2 [] 255 ∧ (0 ≤ p.1 ∧ p.1 ≤ n) ∧ S.blocksS p.2 (bs.drop p.1.toNat) = S.blocksS h bs)) (fun p => (n - p.1.toNat)) (0, h) (by kernel_rfl) ?_ ?_
 ·exact ⟨Pr.refl _ _, A2, ⟨by dsimp only; omega, by dsimp only; omega⟩, rfl⟩
 rintro p j w6 ⟨x6, hI⟩
 replace hE := hE.trans (x6.belo)
 replace R0 := R0.pro x6
 replace A3 := A3.pro x6
 have zw6 := x6.size
 obtain ⟨at_, hh⟩ := p
 dsimp only at hI
 obtain ⟨A2, h1, h2⟩ := hI
 refine C.nmU ?_
 refine wx fun _ J7 => ?_
 refine sq fun _ J8 => ?_
 refine RS.mvI rfl ?_
 refine RS.o (D.add rfl rfl (W.i64 (by omega))) ?_
 refine RS.mvS rfl ?_
 refine RS.ln V51 ?_
 refine RS.o (D.le rfl rfl) ?_
 refine nl J8 ?_
 refine C.ifd rfl (fun c9 => ?_) (fun c9 => ?_)
 ·refine wp_skip ?_
  refine J7 _ _ ?_
  refine wx fun _ J10 => ?_
  refine wp_block ?_
  refine regionX Ext [(0, .q), (1, .q), (2, .q), (3, .q), (4, .q), (5, .q), (6, .e), (7, .g)] mixed Ext.refl (fun h k => h.tr k) (by kernel_rfl) (fun w11 x11 => ?_)
  replace hE := Ext.tr hE x11
  replace x6 := x6.ext x11
  replace R0 := R0.ext x11
  replace A2 := A2.ext x11
  replace A3 := A3.ext x11
  have zw11 := x11.size
  refine RX.o (fun w' hw => D.loadAgg rfl V255 rfl C255 (by decide) (by rw [ints_length, A2.len]) (A2.ext hw).cells) ?_
  refine RX.mvS rfl ?_
  refine RX.mvI rfl ?_
  refine RX.mvI rfl ?_
  refine RX.o (fun w' hw => D.add rfl rfl (W.i64 (by omega))) ?_
  refine RX.o (fun w' hw => D.slice (kl := .i64) (kh := .i64) rfl V51 C5 (by decide) rfl rfl (by omega) (by omega)) ?_
  refine RX.eff ?_
  refine RS.call E231 (ground _ _ _ _ _ _ A2.arr (R0.sub at_.toNat (at_ + 64).toNat c (by omega) (by omega) (by omega)) (by omega) (by omega)) rfl (fun v12 w12 x12 A12 => ?_)
  replace hE := Ext.tr hE x12
  replace x6 := x6.ext x12
  replace R0 := R0.ext x12
  replace A2 := A2.ext x12
  replace A3 := A3.ext x12
  have zw12 := x12.size
  subst A12
  have hg := S.grind_arr hh (bs.drop at_.toNat)
  have eg : S.grind hh ((bs.drop at_.toNat).take ((at_ + 64).toNat - at_.toNat)) = S.grind hh (bs.drop at_.toNat) := by rw [show (at_ + 64).toNat - at_.toNat = 64 by omega, S.grind_take _ _ (by rw [List.length_drop]; omega)]
  rw [eg]
  refine RS.nm ?_
  refine RS.nil ⟨x12, ?_⟩
  refine RX.big ?_
  refine RS.storeArr A2 rfl rfl C255 (by decide) hg.1 hg.2 (fun w13 y13 N13 => ?_)
  replace hE := hE.trans (y13.belo)
  replace x6 := x6.stno y13
  replace R0 := R0.sto y13
  replace A3 := A3.sto y13
  have zw13 := y13.size
  replace A2 := N13
  refine RS.nil ?_
  refine RX.nil (J10 _ _ ?_)
  refine region ?_
  refine RS.mvI rfl ?_
  refine RS.o (D.add rfl rfl (W.i64 (by omega))) ?_
  refine RS.asI rfl ?_
  refine RS.nil ?_
  change Nx _ _ _ _ _ _ _ _
  refine C.next (at_ + 64, S.grind hh (bs.drop at_.toNat)) ⟨rfl, trivial⟩ (by kernel_rfl) ?_ ?_
  ·refine ⟨x6, A2, ⟨by dsimp only; omega, by dsimp only; omega⟩, ?_⟩
   dsimp only
   rw [← S.blocks_ge _ _ (by rw [List.length_drop]; omega), List.drop_drop] at h2
   rw [show (at_ + 64).toNat = at_.toNat + 64 by omega]
   exact h2
  dsimp only; omega
 have hlt := c9
 rw [S.blocks_lt _ _ (by rw [List.length_drop]; omega)] at h2
 refine wp_exit ?_
 refine J4 _ _ ?_
 refine wx fun _ J14 => ?_
 have harr := A2.arr
 refine region ?_
 refine RS.o (D.loadAgg rfl V255 rfl C255 (by decide) (by rw [ints_length, A2.len]) A2.cells) ?_
 refine RS.storeArr A3 rfl rfl C255 (by decide) (by first | assumption | exact And.left (by assumption) | exact IArr.len (by assumption)) (by first | assumption | exact And.right (by assumption) | exact IArr.bd (by assumption)) (fun w15 y15 N15 => ?_)
 replace hE := hE.trans (y15.belo)
 replace R0 := R0.sto y15
 replace A2 := A2.sto y15
 have zw15 := y15.size
 replace A3 := N15
 refine nl J14 ?_
 refine wp_ret ?_
 refine ret (rs := [.cell 4 255]) (vs := [.agg _]) (v := (.agg _)) rfl ⟨⟨_, rfl, loadVar_agg V255 rfl C255 (by decide) (by rw [ints_length, A3.len]) A3.cells⟩, trivial⟩ rfl ?_
 rw [← h2]
 exact ⟨_, rfl, hE, rfl⟩
theorem of {S0 : Nat → Prop} (a : Option Addr) (n c : Nat) (bs : List Int) (w : World) (R0 : IRow .u8 S0 w a n bs) (hn : n ≤ 200000) (hc : n ≤ c) :
  Calls Tryz.prog 89 #[.slice a n c] w (Ret w fun v _ => v = .agg (ints .u8 (S.sha bs)).toArray) := by
 replace R0 := R0.weaken (T := fun k => k < w.heap.size) (fun k hk _ => hk)
 have hl0 := R0.len
 have hE := Ext.refl w
 refine enterU 12 Tryz.func89 rfl rfl ?_
 refine sq fun _ J1 => ?_
 refine RS.alloc T27 (fun b2 w2 e2 s2 x2 B2 => ?_)
 refine RS.nm ?_
 replace hE := Ext.tr hE x2
 replace R0 := R0.ext x2
 have zw2 := x2.size
 have A2 : IArr .u8 w2 b2 32 (List.replicate 32 0) [] 27 := IArr.zero B2
 clear B2
 refine nl J1 (sq fun _ J3 => ?_)
 refine RS.call E171 (first _) rfl (fun v4 w4 x4 A4 => ?_)
 replace hE := Ext.tr hE x4
 replace R0 := R0.ext x4
 replace A2 := A2.ext x4
 have zw4 := x4.size
 subst A4
 refine RS.nm ?_
 refine RS.buildNone V51 T5 (fun b5 w5 e5 s5 x5 B5 => ?_)
 refine RS.nm ?_
 replace hE := Ext.tr hE x5
 replace R0 := R0.ext x5
 replace A2 := A2.ext x5
 have zw5 := x5.size
 have O1 : IOwn w4.heap.size w5 5 .u8 (some ⟨b5, 0, none⟩) 0 0 [] := IOwn.of_blk B5 rfl rfl (by omega) (Bd.nil _) (by decide)
 refine RS.mvS rfl ?_
 refine RS.appendI O1 R0 rfl rfl V51 T5 rfl (by omega) (by decide) (by omega) (fun a6 c6 w6 N6 x6 => ?_)
 refine RS.nm ?_
 replace hE := hE.trans (x6.belQ (fun _ h => (O1.lo _ h).1))
 replace R0 := R0.prQ x6 (fun _ h => (O1.lo _ h).1)
 replace A2 := A2.prQ x6 (fun _ h => (O1.lo _ h).1)
 have zw6 := x6.size
 replace O1 := N6
 refine RS.mvS rfl ?_
 refine RS.ln V51 ?_
 refine RS.call E172 (tail _ (by omega) _) rfl (fun v7 w7 x7 A7 => ?_)
 replace hE := Ext.tr hE x7
 replace R0 := R0.ext x7
 replace A2 := A2.ext x7
 replace O1 := O1.ext x7
 have zw7 := x7.size
 obtain ⟨a7, n7, c7, rfl, O2⟩ := A7
 have hl2 := O2.len
 rw [S.pad_len] at hl2
 refine RS.nm ?_
 refine RS.appendI O1 O2.row rfl rfl V51 T5 rfl (by omega) (by decide) (by omega) (fun a8 c8 w8 N8 x8 => ?_)
 refine RS.nm ?_
 replace hE := hE.trans (x8.belQ (fun _ h => (O1.lo _ h).1))
 replace R0 := R0.prQ x8 (fun _ h => (O1.lo _ h).1)
 replace A2 := A2.prQ x8 (fun _ h => (O1.lo _ h).1)
 have zw8 := x8.size
 replace O1 := N8
 refine RS.nm ?_
 have ho := O1.len
 rw [List.nil_append] at O1
 rw [List.length_append, S.pad_len, List.nil_append] at ho
 have hoc := O1.own.cap
 refine RS.call E170 (blocks _ _ _ _ _ _ S.IV_arr O1.row (by omega) (by omega)) rfl (fun v9 w9 x9 A9 => ?_)
 replace hE := Ext.tr hE x9
 replace R0 := R0.ext x9
 replace A2 := A2.ext x9
 replace O1 := O1.ext x9
 have zw9 := x9.size
 subst A9
 have hb := S.blocks_arr S.IV (bs ++ S.padS n) S.IV_arr
 refine RS.nm ?_
 refine RS.call E169 (written _ hb _) rfl (fun v10 w10 x10 A10 => ?_)
 replace hE := Ext.tr hE x10
 replace R0 := R0.ext x10
 replace A2 := A2.ext x10
 replace O1 := O1.ext x10
 have zw10 := x10.size
 subst A10
 rw [S.sha_of _ _ (by omega)]
 have hsa := S.sha_arr bs
 refine RS.nm ?_
 refine RS.storeArr A2 rfl rfl C27 (by decide) (by first | assumption | exact And.left (by assumption) | exact IArr.len (by assumption)) (by first | assumption | exact And.right (by assumption) | exact IArr.bd (by assumption)) (fun w11 y11 N11 => ?_)
 replace hE := hE.trans (y11.belo)
 replace R0 := R0.sto y11
 replace O1 := O1.stQ y11 (fun _ h => (O1.own.lo _ h).1)
 have zw11 := y11.size
 replace A2 := N11
 refine nl J3 ?_
 refine wp_ret ?_
 refine ret (rs := [.cell 2 27]) (vs := [.agg _]) (v := (.agg _)) rfl ⟨⟨_, rfl, loadVar_agg V27 rfl C27 (by decide) (by rw [ints_length, A2.len]) A2.cells⟩, trivial⟩ rfl ?_
 exact ⟨_, rfl, hE, rfl⟩
theorem E173 : Enters Tryz.prog 173 := .mk Tryz.func173 (by kernel_rfl) rfl
theorem E207 : Enters Tryz.prog 207 := .mk Tryz.func207 (by kernel_rfl) rfl
theorem E252 : Enters Tryz.prog 252 := .mk Tryz.func252 (by kernel_rfl) rfl
theorem len64 (n : Int) (hn : 247 < n ∧ n < 18446744073709551616) (w : World) :
  Calls Tryz.prog 252 #[.int .u64 n] w (Ret w fun v _ => ∃ L, v = .int .i64 L ∧ (L + 7) / 8 = ((S.blen n : Nat) : Int) ∧ 0 ≤ L ∧ L ≤ 64) := by
 have e32 : (2 : Int) ^ (32 : Int).toNat = 4294967296 := by decide
 have e16 : (2 : Int) ^ (16 : Int).toNat = 65536 := by decide
 have e8 : (2 : Int) ^ (8 : Int).toNat = 256 := by decide
 have hE := Ext.refl w
 refine enterU 24 Tryz.func252 rfl rfl ?_
 refine sq fun _ J1 => ?_
 refine RS.asI rfl ?_
 refine nl J1 ?_
 refine wx fun _ J2 => ?_
 refine sq fun _ J3 => ?_
 refine RS.mvI rfl ?_
 refine RS.o (D.ge rfl rfl) ?_
 refine nl J3 ?_
 refine C.ifd rfl (fun c4 => ?_) (fun c4 => ?_)
 ·refine wx fun _ J5 => ?_
  refine region ?_
  refine RS.mvI rfl ?_
  refine RS.ob (D.shr_u64 rfl rfl (by omega) (by constructor <;> omega)) (fun z6 => ?_)
  refine RS.asI rfl ?_
  refine nl J5 ?_
  simp only [e32]
  refine region ?_
  refine RS.asI rfl ?_
  refine nl J2 ?_
  refine wx fun _ J7 => ?_
  refine sq fun _ J8 => ?_
  refine RS.mvI rfl ?_
  refine RS.o (D.ge rfl rfl) ?_
  refine nl J8 ?_
  refine C.ifd rfl (fun c9 => ?_) (fun c9 => ?_)
  ·refine wx fun _ J10 => ?_
   refine region ?_
   refine RS.mvI rfl ?_
   refine RS.ob (D.shr_u64 rfl rfl (by omega) (by constructor <;> omega)) (fun z11 => ?_)
   refine RS.asI rfl ?_
   refine nl J10 ?_
   simp only [e16]
   refine region ?_
   refine RS.mvI rfl ?_
   refine RS.o (D.add rfl rfl (W.i64 (by omega))) ?_
   refine RS.asI rfl ?_
   refine nl J7 ?_
   refine wx fun _ J12 => ?_
   refine sq fun _ J13 => ?_
   refine RS.mvI rfl ?_
   refine RS.o (D.ge rfl rfl) ?_
   refine nl J13 ?_
   refine C.ifd rfl (fun c14 => ?_) (fun c14 => ?_)
   ·refine wx fun _ J15 => ?_
    refine region ?_
    refine RS.mvI rfl ?_
    refine RS.ob (D.shr_u64 rfl rfl (by omega) (by constructor <;> omega)) (fun z16 => ?_)
    refine RS.asI rfl ?_
    refine nl J15 ?_
    simp only [e8]
    refine region ?_
    refine RS.mvI rfl ?_
    refine RS.o (D.add rfl rfl (W.i64 (by omega))) ?_
    refine RS.asI rfl ?_
    refine nl J12 (sq fun _ J17 => ?_)
    refine RS.mvI rfl ?_
    refine RS.mvI rfl ?_
    refine RS.o (D.conv rfl V22 V5 (W.u8 (by omega))) ?_
    refine RS.indexStr rfl rfl V9 (by refine ⟨by omega, ?_⟩; show _ < ((256 : Nat) : Int); omega) (fun v18 q18 r18 => ?_)
    refine RS.nm ?_
    simp only [lim] at r18
    have ht := S.tab_of q18 (by kernel_rfl) (by omega)
    refine RS.o (D.conv rfl V5 V3 (W.i64 (by omega))) ?_
    refine RS.o (D.add rfl rfl (W.i64 (by omega))) ?_
    refine RS.asI rfl ?_
    refine nl J17 ?_
    refine wp_ret ?_
    refine retI rfl rfl ?_
    refine ⟨_, rfl, hE, _, rfl, S.len_big n _ 7 (n / 4294967296 / 65536 / 256) v18 (by show n / 4294967296 / 65536 / 256 = n / 72057594037927936; omega) (by omega) (by omega) (by omega) (by omega) (by omega), by omega, by omega⟩
   refine wp_skip ?_
   refine J12 _ _ ?_
   refine sq fun _ J19 => ?_
   refine RS.mvI rfl ?_
   refine RS.mvI rfl ?_
   refine RS.o (D.conv rfl V22 V5 (W.u8 (by omega))) ?_
   refine RS.indexStr rfl rfl V9 (by refine ⟨by omega, ?_⟩; show _ < ((256 : Nat) : Int); omega) (fun v20 q20 r20 => ?_)
   refine RS.nm ?_
   simp only [lim] at r20
   have ht := S.tab_of q20 (by kernel_rfl) (by omega)
   refine RS.o (D.conv rfl V5 V3 (W.i64 (by omega))) ?_
   refine RS.o (D.add rfl rfl (W.i64 (by omega))) ?_
   refine RS.asI rfl ?_
   refine nl J19 ?_
   refine wp_ret ?_
   refine retI rfl rfl ?_
   refine ⟨_, rfl, hE, _, rfl, S.len_big n _ 6 (n / 4294967296 / 65536) v20 (by show n / 4294967296 / 65536 = n / 281474976710656; omega) (by omega) (by omega) (by omega) (by omega) (by omega), by omega, by omega⟩
  refine wp_skip ?_
  refine J7 _ _ ?_
  refine wx fun _ J21 => ?_
  refine sq fun _ J22 => ?_
  refine RS.mvI rfl ?_
  refine RS.o (D.ge rfl rfl) ?_
  refine nl J22 ?_
  refine C.ifd rfl (fun c23 => ?_) (fun c23 => ?_)
  ·refine wx fun _ J24 => ?_
   refine region ?_
   refine RS.mvI rfl ?_
   refine RS.ob (D.shr_u64 rfl rfl (by omega) (by constructor <;> omega)) (fun z25 => ?_)
   refine RS.asI rfl ?_
   refine nl J24 ?_
   simp only [e8]
   refine region ?_
   refine RS.mvI rfl ?_
   refine RS.o (D.add rfl rfl (W.i64 (by omega))) ?_
   refine RS.asI rfl ?_
   refine nl J21 (sq fun _ J26 => ?_)
   refine RS.mvI rfl ?_
   refine RS.mvI rfl ?_
   refine RS.o (D.conv rfl V22 V5 (W.u8 (by omega))) ?_
   refine RS.indexStr rfl rfl V9 (by refine ⟨by omega, ?_⟩; show _ < ((256 : Nat) : Int); omega) (fun v27 q27 r27 => ?_)
   refine RS.nm ?_
   simp only [lim] at r27
   have ht := S.tab_of q27 (by kernel_rfl) (by omega)
   refine RS.o (D.conv rfl V5 V3 (W.i64 (by omega))) ?_
   refine RS.o (D.add rfl rfl (W.i64 (by omega))) ?_
   refine RS.asI rfl ?_
   refine nl J26 ?_
   refine wp_ret ?_
   refine retI rfl rfl ?_
   refine ⟨_, rfl, hE, _, rfl, S.len_big n _ 5 (n / 4294967296 / 256) v27 (by show n / 4294967296 / 256 = n / 1099511627776; omega) (by omega) (by omega) (by omega) (by omega) (by omega), by omega, by omega⟩
  refine wp_skip ?_
  refine J21 _ _ ?_
  refine sq fun _ J28 => ?_
  refine RS.mvI rfl ?_
  refine RS.mvI rfl ?_
  refine RS.o (D.conv rfl V22 V5 (W.u8 (by omega))) ?_
  refine RS.indexStr rfl rfl V9 (by refine ⟨by omega, ?_⟩; show _ < ((256 : Nat) : Int); omega) (fun v29 q29 r29 => ?_)
  refine RS.nm ?_
  simp only [lim] at r29
  have ht := S.tab_of q29 (by kernel_rfl) (by omega)
  refine RS.o (D.conv rfl V5 V3 (W.i64 (by omega))) ?_
  refine RS.o (D.add rfl rfl (W.i64 (by omega))) ?_
  refine RS.asI rfl ?_
  refine nl J28 ?_
  refine wp_ret ?_
  refine retI rfl rfl ?_
  refine ⟨_, rfl, hE, _, rfl, S.len_big n _ 4 (n / 4294967296) v29 (by show n / 4294967296 = n / 4294967296; omega) (by omega) (by omega) (by omega) (by omega) (by omega), by omega, by omega⟩
 refine wp_skip ?_
 refine J2 _ _ ?_
 refine wx fun _ J30 => ?_
 refine sq fun _ J31 => ?_
 refine RS.mvI rfl ?_
 refine RS.o (D.ge rfl rfl) ?_
 refine nl J31 ?_
 refine C.ifd rfl (fun c32 => ?_) (fun c32 => ?_)
 ·refine wx fun _ J33 => ?_
  refine region ?_
  refine RS.mvI rfl ?_
  refine RS.ob (D.shr_u64 rfl rfl (by omega) (by constructor <;> omega)) (fun z34 => ?_)
  refine RS.asI rfl ?_
  refine nl J33 ?_
  simp only [e16]
  refine region ?_
  refine RS.mvI rfl ?_
  refine RS.o (D.add rfl rfl (W.i64 (by omega))) ?_
  refine RS.asI rfl ?_
  refine nl J30 ?_
  refine wx fun _ J35 => ?_
  refine sq fun _ J36 => ?_
  refine RS.mvI rfl ?_
  refine RS.o (D.ge rfl rfl) ?_
  refine nl J36 ?_
  refine C.ifd rfl (fun c37 => ?_) (fun c37 => ?_)
  ·refine wx fun _ J38 => ?_
   refine region ?_
   refine RS.mvI rfl ?_
   refine RS.ob (D.shr_u64 rfl rfl (by omega) (by constructor <;> omega)) (fun z39 => ?_)
   refine RS.asI rfl ?_
   refine nl J38 ?_
   simp only [e8]
   refine region ?_
   refine RS.mvI rfl ?_
   refine RS.o (D.add rfl rfl (W.i64 (by omega))) ?_
   refine RS.asI rfl ?_
   refine nl J35 (sq fun _ J40 => ?_)
   refine RS.mvI rfl ?_
   refine RS.mvI rfl ?_
   refine RS.o (D.conv rfl V22 V5 (W.u8 (by omega))) ?_
   refine RS.indexStr rfl rfl V9 (by refine ⟨by omega, ?_⟩; show _ < ((256 : Nat) : Int); omega) (fun v41 q41 r41 => ?_)
   refine RS.nm ?_
   simp only [lim] at r41
   have ht := S.tab_of q41 (by kernel_rfl) (by omega)
   refine RS.o (D.conv rfl V5 V3 (W.i64 (by omega))) ?_
   refine RS.o (D.add rfl rfl (W.i64 (by omega))) ?_
   refine RS.asI rfl ?_
   refine nl J40 ?_
   refine wp_ret ?_
   refine retI rfl rfl ?_
   refine ⟨_, rfl, hE, _, rfl, S.len_big n _ 3 (n / 65536 / 256) v41 (by show n / 65536 / 256 = n / 16777216; omega) (by omega) (by omega) (by omega) (by omega) (by omega), by omega, by omega⟩
  refine wp_skip ?_
  refine J35 _ _ ?_
  refine sq fun _ J42 => ?_
  refine RS.mvI rfl ?_
  refine RS.mvI rfl ?_
  refine RS.o (D.conv rfl V22 V5 (W.u8 (by omega))) ?_
  refine RS.indexStr rfl rfl V9 (by refine ⟨by omega, ?_⟩; show _ < ((256 : Nat) : Int); omega) (fun v43 q43 r43 => ?_)
  refine RS.nm ?_
  simp only [lim] at r43
  have ht := S.tab_of q43 (by kernel_rfl) (by omega)
  refine RS.o (D.conv rfl V5 V3 (W.i64 (by omega))) ?_
  refine RS.o (D.add rfl rfl (W.i64 (by omega))) ?_
  refine RS.asI rfl ?_
  refine nl J42 ?_
  refine wp_ret ?_
  refine retI rfl rfl ?_
  refine ⟨_, rfl, hE, _, rfl, S.len_big n _ 2 (n / 65536) v43 (by show n / 65536 = n / 65536; omega) (by omega) (by omega) (by omega) (by omega) (by omega), by omega, by omega⟩
 refine wp_skip ?_
 refine J30 _ _ ?_
 refine wx fun _ J44 => ?_
 refine sq fun _ J45 => ?_
 refine RS.mvI rfl ?_
 refine RS.o (D.ge rfl rfl) ?_
 refine nl J45 ?_
 refine C.ifd rfl (fun c46 => ?_) (fun c46 => ?_)
 ·refine wx fun _ J47 => ?_
  refine region ?_
  refine RS.mvI rfl ?_
  refine RS.ob (D.shr_u64 rfl rfl (by omega) (by constructor <;> omega)) (fun z48 => ?_)
  refine RS.asI rfl ?_
  refine nl J47 ?_
  simp only [e8]
  refine region ?_
  refine RS.mvI rfl ?_
  refine RS.o (D.add rfl rfl (W.i64 (by omega))) ?_
  refine RS.asI rfl ?_
  refine nl J44 (sq fun _ J49 => ?_)
  refine RS.mvI rfl ?_
  refine RS.mvI rfl ?_
  refine RS.o (D.conv rfl V22 V5 (W.u8 (by omega))) ?_
  refine RS.indexStr rfl rfl V9 (by refine ⟨by omega, ?_⟩; show _ < ((256 : Nat) : Int); omega) (fun v50 q50 r50 => ?_)
  refine RS.nm ?_
  simp only [lim] at r50
  have ht := S.tab_of q50 (by kernel_rfl) (by omega)
  refine RS.o (D.conv rfl V5 V3 (W.i64 (by omega))) ?_
  refine RS.o (D.add rfl rfl (W.i64 (by omega))) ?_
  refine RS.asI rfl ?_
  refine nl J49 ?_
  refine wp_ret ?_
  refine retI rfl rfl ?_
  refine ⟨_, rfl, hE, _, rfl, S.len_big n _ 1 (n / 256) v50 (by show n / 256 = n / 256; omega) (by omega) (by omega) (by omega) (by omega) (by omega), by omega, by omega⟩
 refine wp_skip ?_
 refine J44 _ _ ?_
 refine sq fun _ J51 => ?_
 refine RS.mvI rfl ?_
 refine RS.mvI rfl ?_
 refine RS.o (D.conv rfl V22 V5 (W.u8 (by omega))) ?_
 refine RS.indexStr rfl rfl V9 (by refine ⟨by omega, ?_⟩; show _ < ((256 : Nat) : Int); omega) (fun v52 q52 r52 => ?_)
 refine RS.nm ?_
 simp only [lim] at r52
 have ht := S.tab_of q52 (by kernel_rfl) (by omega)
 refine RS.o (D.conv rfl V5 V3 (W.i64 (by omega))) ?_
 refine RS.o (D.add rfl rfl (W.i64 (by omega))) ?_
 refine RS.asI rfl ?_
 refine nl J51 ?_
 refine wp_ret ?_
 refine retI rfl rfl ?_
 refine ⟨_, rfl, hE, _, rfl, S.len_big n _ 0 (n) v52 (by show n = n / 1; omega) (by omega) (by omega) (by omega) (by omega) (by omega), by omega, by omega⟩
theorem numW (n : Int) (hn : 0 ≤ n ∧ n < 18446744073709551616) (w : World) :
  Calls Tryz.prog 207 #[.int .u64 n] w (Ret w fun v w' => ∃ a' n' c', v = .slice a' n' c' ∧ IOwn w.heap.size w' 5 .u8 a' n' c' (S.numS n)) := by
 have hE := Ext.refl w
 refine enterU 38 Tryz.func207 rfl rfl ?_
 refine sq fun _ J1 => ?_
 refine RS.asS rfl ?_
 refine nl J1 ?_
 refine wx fun _ J2 => ?_
 refine sq fun _ J3 => ?_
 refine RS.mvI rfl ?_
 refine RS.o (D.le rfl rfl) ?_
 refine nl J3 ?_
 refine C.ifd rfl (fun c4 => ?_) (fun c4 => ?_)
 ·have hs := c4
  refine sq fun _ J5 => ?_
  refine RS.mvI rfl ?_
  refine RS.o (D.conv rfl V22 V5 (W.u8 (by omega))) ?_
  refine RS.buildSlice (xs := [.tmp 9]) (vs := [.int _ _]) (cs := [.int _ _]) V51 T5 (by decide) rfl rfl rfl rfl rfl rfl (by intro v hv; simp only [List.mem_cons, List.not_mem_nil, or_false] at hv; subst hv; rfl) rfl (fun b6 w6 e6 s6 x6 B6 => ?_)
  refine RS.nm ?_
  replace hE := Ext.tr hE x6
  have zw6 := x6.size
  have O1 : IOwn w.heap.size w6 5 .u8 (some ⟨b6, 0, none⟩) 1 1 [_] := IOwn.of_blk B6 rfl rfl (by omega) (.cons (by simp only [lim]; omega) (.nil _)) (by decide)
  refine RS.asS rfl ?_
  refine nl J5 ?_
  refine wp_ret ?_
  refine retS ?_
  rw [S.numS_small n (by omega)]
  exact ⟨_, rfl, hE, _, _, _, rfl, O1⟩
 have hs := c4
 refine wp_skip ?_
 refine J2 _ _ ?_
 refine sq fun _ J7 => ?_
 refine RS.mvI rfl ?_
 refine RS.call E252 (len64 _ (by omega) _) rfl (fun v8 w8 x8 A8 => ?_)
 replace hE := Ext.tr hE x8
 have zw8 := x8.size
 obtain ⟨L, rfl, hL, hL1⟩ := A8
 have hbl := S.blen_le n
 refine RS.nm ?_
 refine RS.o (D.add rfl rfl (W.i64 (by omega))) ?_
 refine RS.o (D.quo rfl rfl (by omega) (by omega) (W.i64 (by omega))) ?_
 refine RS.asI rfl ?_
 refine nl J7 ?_
 refine wx fun _ J9 => ?_
 rw [hL]
 refine region ?_
 refine RS.mvI rfl ?_
 refine RS.o (D.add rfl rfl (W.i64 (by omega))) ?_
 refine RS.make rfl rfl V51 T5 (by omega) (by omega) (by omega) (fun b10 w10 e10 s10 x10 B10 => ?_)
 refine RS.nm ?_
 replace hE := Ext.tr hE x10
 have zw10 := x10.size
 have emk : ((S.blen n : Int) + 1).toNat * 1 = S.blen n + 1 := by omega
 rw [emk, S.made_ints] at B10
 have O1 : IOwn w.heap.size w10 5 .u8 (some ⟨b10, 0, none⟩) ((S.blen n : Int) + 1).toNat ((S.blen n : Int) + 1).toNat (List.replicate (S.blen n + 1) 0) := IOwn.of_blk B10 rfl (by rw [List.length_replicate]; omega) (by omega) (Bd.zeros _ _) (by omega)
 refine RS.asS rfl ?_
 refine nl J9 (sq fun _ J11 => ?_)
 refine RS.mvS rfl ?_
 refine RS.mvI rfl ?_
 refine RS.o (D.add rfl rfl (W.i64 (by omega))) ?_
 refine RS.o (D.conv rfl V3 V5 (W.u8 (by omega))) ?_
 refine RS.o (D.indexAddr rfl rfl V51 C5 (by decide) rfl (by omega)) ?_
 refine RS.storeI O1 rfl rfl C5 (by omega) (by simp only [lim]; omega) (fun w12 y12 N12 => ?_)
 replace hE := hE.trans (y12.belo)
 have zw12 := y12.size
 replace O1 := N12
 refine nl J11 ?_
 refine wx fun _ J13 => ?_
 refine sq fun _ J14 => ?_
 refine RS.mvI rfl ?_
 refine RS.mvI rfl ?_
 refine nl J14 ?_
 refine wp_block ?_
 refine C.loop (A := Int) (fun p => [(24, .int .i64 p)]) [5, 25, 26, 27, 28, 29, 30, 31, 32, 33, 34, 35, 36, 37] (fun p w' => Pr (fun k => k = b10) w12 w' ∧ ((0 ≤ p ∧ p ≤ (S.blen n : Int)) ∧ IOwn w.heap.size w' 5 .u8 (some ⟨b10, 0, none⟩) ((S.blen n : Int) + 1).toNat ((S.blen n : Int) + 1).toNat (S.numP n p.toNat))) (fun p => (S.blen n - p.toNat)) 0 (by kernel_rfl) ?_ ?_
 ·refine ⟨Pr.refl _ _, ⟨by omega, by omega⟩, ?_⟩
  rw [show (0 : Int).toNat = 0 from rfl, ← S.numP_first]
  exact O1
 rintro p j w15 ⟨x15, hI⟩
 replace hE := hE.trans (x15.belo)
 have zw15 := x15.size
 obtain ⟨h1, O1⟩ := hI
 refine C.nmU ?_
 refine sq fun _ J16 => ?_
 refine RS.o (D.lt rfl rfl) ?_
 refine nl J16 ?_
 refine wx fun _ J17 => ?_
 refine C.ifd rfl (fun c18 => ?_) (fun c18 => ?_)
 ·refine wp_skip ?_
  refine J17 _ _ ?_
  refine wx fun _ J19 => ?_
  refine wp_block ?_
  refine sq fun _ J20 => ?_
  refine RS.mvI rfl ?_
  refine RS.asI rfl ?_
  refine nl J20 ?_
  refine region ?_
  refine RS.mvS rfl ?_
  refine RS.mvI rfl ?_
  refine RS.mvI rfl ?_
  refine RS.o (D.sub rfl rfl (W.i64 (by omega))) ?_
  refine RS.mvI rfl ?_
  refine RS.mvI rfl ?_
  refine RS.o (D.mul rfl rfl (W.i64 (by omega))) ?_
  refine RS.ob (D.shr_u64 rfl rfl (by omega) (by constructor <;> omega)) (fun z21 => ?_)
  refine RS.o (D.conv rfl V22 V5 (W.u8m _)) ?_
  refine RS.o (D.indexAddr rfl rfl V51 C5 (by decide) rfl (by omega)) ?_
  refine RS.storeI O1 rfl rfl C5 (by omega) (by simp only [lim]; omega) (fun w22 y22 N22 => ?_)
  replace hE := hE.trans (y22.belo)
  replace x15 := x15.stno y22
  have zw22 := y22.size
  replace O1 := N22
  refine nl J19 ?_
  refine region ?_
  refine RS.o (D.add rfl rfl (W.i64 (by omega))) ?_
  refine RS.mvI rfl ?_
  refine RS.nil ?_
  change Nx _ _ _ _ _ _ _ _
  refine C.next (p + 1) ⟨rfl, trivial⟩ (by kernel_rfl) ?_ ?_
  ·refine ⟨x15, ⟨by omega, by omega⟩, ?_⟩
   rw [show (p + 1).toNat = p.toNat + 1 by omega, ← S.numP_step n p.toNat (by omega)]
   rw [show S.blen n - p.toNat = ((S.blen n : Int) - p).toNat by omega, show 8 * p.toNat = (8 * p).toNat by omega]
   exact O1
  omega
 refine wp_exit ?_
 refine J13 _ _ ?_
 refine sq fun _ J23 => ?_
 refine RS.mvS rfl ?_
 refine RS.asS rfl ?_
 refine nl J23 ?_
 refine wp_ret ?_
 refine retS ?_
 rw [show p.toNat = S.blen n by omega, S.numP_all n (by omega)] at O1
 exact ⟨_, rfl, hE, _, _, _, rfl, O1⟩
theorem numR (n : Int) (hn : 0 ≤ n ∧ n < 18446744073709551616) (w : World) :
  Calls Tryz.prog 173 #[.int .u64 n] w (Ret w fun v w' => ∃ a' n' c', v = .slice a' n' c' ∧ IOwn w.heap.size w' 5 .u8 a' n' c' (S.numS n)) := by
 have hE := Ext.refl w
 refine enterU 40 Tryz.func173 rfl rfl ?_
 refine sq fun _ J1 => ?_
 refine RS.asS rfl ?_
 refine nl J1 ?_
 refine wx fun _ J2 => ?_
 refine sq fun _ J3 => ?_
 refine RS.mvI rfl ?_
 refine RS.o (D.le rfl rfl) ?_
 refine nl J3 ?_
 refine C.ifd rfl (fun c4 => ?_) (fun c4 => ?_)
 ·have hs := c4
  refine sq fun _ J5 => ?_
  refine RS.mvI rfl ?_
  refine RS.o (D.conv rfl V22 V5 (W.u8 (by omega))) ?_
  refine RS.buildSlice (xs := [.tmp 9]) (vs := [.int _ _]) (cs := [.int _ _]) V51 T5 (by decide) rfl rfl rfl rfl rfl rfl (by intro v hv; simp only [List.mem_cons, List.not_mem_nil, or_false] at hv; subst hv; rfl) rfl (fun b6 w6 e6 s6 x6 B6 => ?_)
  refine RS.nm ?_
  replace hE := Ext.tr hE x6
  have zw6 := x6.size
  have O1 : IOwn w.heap.size w6 5 .u8 (some ⟨b6, 0, none⟩) 1 1 [_] := IOwn.of_blk B6 rfl rfl (by omega) (.cons (by simp only [lim]; omega) (.nil _)) (by decide)
  refine RS.asS rfl ?_
  refine nl J5 ?_
  refine wp_ret ?_
  refine retS ?_
  rw [S.numS_small n (by omega)]
  exact ⟨_, rfl, hE, _, _, _, rfl, O1⟩
 have hs := c4
 refine wp_skip ?_
 refine J2 _ _ ?_
 refine sq fun _ J7 => ?_
 refine RS.asS rfl ?_
 refine nl J7 ?_
 refine wx fun _ J8 => ?_
 refine wp_block ?_
 refine C.loop (A := Int × Option Addr × Nat × Nat × List Int) (fun p => [(0, .int .u64 p.1), (3, .slice p.2.1 p.2.2.1 p.2.2.2.1)]) [11, 12, 13, 14, 15, 16, 17, 18, 19, 20] (fun p w' => Pr (fun k => w.heap.size ≤ k) w w' ∧ ((0 ≤ p.1 ∧ p.1 < 18446744073709551616) ∧ p.2.2.1 ≤ 8 ∧ p.2.2.2.2 ++ S.leK (S.blen p.1) p.1 = S.leK (S.blen n) n ∧ IOwn w.heap.size w' 5 .u8 p.2.1 p.2.2.1 p.2.2.2.1 p.2.2.2.2)) (fun p => p.1.toNat) (n, none, 0, 0, []) (by kernel_rfl) ?_ ?_
 ·exact ⟨Pr.refl _ _, hn, by dsimp only; omega, rfl, IOwn.nil _ _ _ _⟩
 rintro p j w9 ⟨x9, hI⟩
 replace hE := hE.trans (x9.belo)
 have zw9 := x9.size
 obtain ⟨m, ao, no, co, ds⟩ := p
 dsimp only at hI
 obtain ⟨h1, hn8, h2, O1⟩ := hI
 have hdl := O1.len
 refine C.nmU ?_
 refine wx fun _ J10 => ?_
 refine sq fun _ J11 => ?_
 refine RS.mvI rfl ?_
 refine RS.o (D.gt rfl rfl) ?_
 refine nl J11 ?_
 refine C.ifd rfl (fun c12 => ?_) (fun c12 => ?_)
 ·refine wp_skip ?_
  refine J10 _ _ ?_
  refine wp_block ?_
  refine sq fun _ J13 => ?_
  refine RS.mvS rfl ?_
  refine RS.mvI rfl ?_
  refine RS.o (D.rem rfl rfl (by omega) (by omega)) ?_
  refine RS.o (D.conv rfl V22 V5 (W.u8 (by omega))) ?_
  refine RS.buildSlice (xs := [.tmp 16]) (vs := [.int _ _]) (cs := [.int _ _]) V51 T5 (by decide) rfl rfl rfl rfl rfl rfl (by intro v hv; simp only [List.mem_cons, List.not_mem_nil, or_false] at hv; subst hv; rfl) rfl (fun b14 w14 e14 s14 x14 B14 => ?_)
  refine RS.nm ?_
  replace hE := Ext.tr hE x14
  replace x9 := x9.ext x14
  replace O1 := O1.ext x14
  have zw14 := x14.size
  have Q1 : IRow .u8 (fun k => k = b14) w14 (some ⟨b14, 0, none⟩) 1 [_] := IRow.of_blk B14 rfl rfl rfl (.cons (by simp only [lim]; omega) (.nil _))
  refine RS.appendI O1 Q1 rfl rfl V51 T5 rfl (by omega) (by decide) (by omega) (fun a15 c15 w15 N15 x15 => ?_)
  refine RS.nm ?_
  replace hE := hE.trans (x15.belQ (fun _ h => (O1.lo _ h).1))
  replace x9 := x9.prnQ x15 (fun _ h => (O1.lo _ h).1)
  have zw15 := x15.size
  replace O1 := N15
  refine RS.asS rfl ?_
  refine nl J13 ?_
  refine region ?_
  refine RS.mvI rfl ?_
  refine RS.o (D.quo rfl rfl (by omega) (by omega) (by first | exact W.u64 (by omega) | exact W.u64m _)) ?_
  refine RS.asI rfl ?_
  refine RS.nil ?_
  change Nx _ _ _ _ _ _ _ _
  refine C.next (m / 256, a15, no + 1, c15, ds ++ [m % 256]) ⟨rfl, rfl, trivial⟩ (by kernel_rfl) ?_ ?_
  ·have h2b := congrArg List.length h2
   rw [S.leK_step m (by omega) (by omega)] at h2 h2b
   rw [List.length_append, List.length_cons, S.leK_len, S.leK_len] at h2b
   have hb8 := S.blen_le n
   refine ⟨x9, ⟨by dsimp only; omega, by dsimp only; omega⟩, by dsimp only; omega, ?_, O1⟩
   dsimp only
   rw [List.append_assoc]
   exact h2
  dsimp only; omega
 have hz : m = 0 := by omega
 rw [hz, S.blen_zero] at h2
 have h3 : ds = S.leK (S.blen n) n := by rw [← h2]; exact (List.append_nil ds).symm
 rw [h3] at O1
 have hol := O1.len
 rw [S.leK_len] at hol
 have hbl := S.blen_le n
 refine wp_exit ?_
 refine J8 _ _ ?_
 refine wx fun _ J16 => ?_
 have R1 := O1.row.weaken (T := fun k => k < w9.heap.size) (fun k hk _ => hk)
 subst hol
 refine region ?_
 refine RS.mvS rfl ?_
 refine RS.ln V51 ?_
 refine RS.o (D.add rfl rfl (W.i64 (by omega))) ?_
 refine RS.o (D.conv rfl V3 V5 (W.u8 (by omega))) ?_
 refine RS.buildSlice (xs := [.tmp 24]) (vs := [.int _ _]) (cs := [.int _ _]) V51 T5 (by decide) rfl rfl rfl rfl rfl rfl (by intro v hv; simp only [List.mem_cons, List.not_mem_nil, or_false] at hv; subst hv; rfl) rfl (fun b17 w17 e17 s17 x17 B17 => ?_)
 refine RS.nm ?_
 replace hE := Ext.tr hE x17
 replace R1 := R1.ext x17
 have zw17 := x17.size
 have O2 : IOwn w9.heap.size w17 5 .u8 (some ⟨b17, 0, none⟩) 1 1 [_] := IOwn.of_blk B17 rfl rfl (by omega) (.cons (by simp only [lim]; omega) (.nil _)) (by decide)
 refine RS.asS rfl ?_
 refine nl J16 ?_
 refine wx fun _ J18 => ?_
 refine sq fun _ J19 => ?_
 refine RS.mvS rfl ?_
 refine RS.ln V51 ?_
 refine RS.o (D.sub rfl rfl (W.i64 (by omega))) ?_
 refine RS.asI rfl ?_
 refine nl J19 ?_
 refine wp_block ?_
 refine C.loop (A := Int × Option Addr × Nat × Nat) (fun p => [(4, .slice p.2.1 p.2.2.1 p.2.2.2), (5, .int .i64 p.1)]) [29, 30, 31, 32, 33, 34, 35, 36, 37, 38, 39] (fun p w' => Pr (fun k => w9.heap.size ≤ k) w17 w' ∧ ((-1 ≤ p.1 ∧ p.1 < (S.blen n : Int)) ∧ IOwn w9.heap.size w' 5 .u8 p.2.1 p.2.2.1 p.2.2.2 ((247 + (S.blen n : Int)) :: ((S.leK (S.blen n) n).drop (p.1 + 1).toNat).reverse))) (fun p => (p.1 + 1).toNat) ((S.blen n : Int) - 1, some ⟨b17, 0, none⟩, 1, 1) (by kernel_rfl) ?_ ?_
 ·refine ⟨Pr.refl _ _, ⟨by dsimp only; omega, by dsimp only; omega⟩, ?_⟩
  dsimp only
  rw [List.drop_eq_nil_of_le (by rw [S.leK_len]; omega)]
  exact O2
 rintro p j w20 ⟨x20, hI⟩
 replace hE := hE.trans (x20.belo)
 replace R1 := R1.pro x20
 have zw20 := x20.size
 obtain ⟨i, a2, n2, c2⟩ := p
 dsimp only at hI
 obtain ⟨g1, O2⟩ := hI
 have hol2 := O2.len
 rw [List.length_cons, List.length_reverse, List.length_drop, S.leK_len] at hol2
 refine C.nmU ?_
 refine wx fun _ J21 => ?_
 refine sq fun _ J22 => ?_
 refine RS.mvI rfl ?_
 refine RS.o (D.ge rfl rfl) ?_
 refine nl J22 ?_
 refine C.ifd rfl (fun c23 => ?_) (fun c23 => ?_)
 ·refine wp_skip ?_
  refine J21 _ _ ?_
  refine wx fun _ J24 => ?_
  refine wp_block ?_
  refine region ?_
  refine RS.mvS rfl ?_
  refine RS.mvS rfl ?_
  refine RS.mvI rfl ?_
  refine RS.idx R1 rfl rfl V51 C5 (by omega) (fun b25 o25 v25 h25 q25 r25 => ?_)
  refine RS.nm ?_
  simp only [lim] at r25
  have qd := q25
  refine RS.o (D.load rfl V5 rfl (h25)) ?_
  refine RS.buildSlice (xs := [.tmp 37]) (vs := [.int _ _]) (cs := [.int _ _]) V51 T5 (by decide) rfl rfl rfl rfl rfl rfl (by intro v hv; simp only [List.mem_cons, List.not_mem_nil, or_false] at hv; subst hv; rfl) rfl (fun b26 w26 e26 s26 x26 B26 => ?_)
  refine RS.nm ?_
  replace hE := Ext.tr hE x26
  replace x20 := x20.ext x26
  replace R1 := R1.ext x26
  replace O2 := O2.ext x26
  have zw26 := x26.size
  have Q1 : IRow .u8 (fun k => k = b26) w26 (some ⟨b26, 0, none⟩) 1 [_] := IRow.of_blk B26 rfl rfl rfl (.cons (by simp only [lim]; omega) (.nil _))
  refine RS.appendI O2 Q1 rfl rfl V51 T5 rfl (by omega) (by decide) (by omega) (fun a27 c27 w27 N27 x27 => ?_)
  refine RS.nm ?_
  replace hE := hE.trans (x27.belQ (fun _ h => (O2.lo _ h).1))
  replace x20 := x20.prnQ x27 (fun _ h => (O2.lo _ h).1)
  replace R1 := R1.prQ x27 (fun _ h => (O2.lo _ h).1)
  have zw27 := x27.size
  replace O2 := N27
  refine RS.asS rfl ?_
  refine nl J24 ?_
  refine region ?_
  refine RS.mvI rfl ?_
  refine RS.o (D.sub rfl rfl (W.i64 (by omega))) ?_
  refine RS.asI rfl ?_
  refine RS.nil ?_
  change Nx _ _ _ _ _ _ _ _
  refine C.next (i - 1, _, _, _) ⟨rfl, rfl, trivial⟩ (by kernel_rfl) ?_ ?_
  ·refine ⟨x20, ⟨by dsimp only; omega, by dsimp only; omega⟩, ?_⟩
   dsimp only
   have ed : (S.leK (S.blen n) n).drop (i - 1 + 1).toNat = v25 :: (S.leK (S.blen n) n).drop (i + 1).toNat := by rw [show (i - 1 + 1).toNat = i.toNat by omega, List.drop_eq_getElem_cons (by rw [S.leK_len]; omega), show i.toNat + 1 = (i + 1).toNat by omega, qd, List.getD_eq_getElem?_getD, List.getElem?_eq_getElem (by rw [S.leK_len]; omega)]; rfl
   rw [ed, List.reverse_cons]
   exact O2
  dsimp only; omega
 refine wp_exit ?_
 refine J18 _ _ ?_
 refine sq fun _ J28 => ?_
 refine RS.mvS rfl ?_
 refine RS.asS rfl ?_
 refine nl J28 ?_
 refine wp_ret ?_
 refine retS ?_
 rw [show i = -1 by omega, show ((-1 : Int) + 1).toNat = 0 from rfl, List.drop_zero, ← S.numS_large n (by omega)] at O2
 exact ⟨_, rfl, hE, _, _, _, rfl, O2.base (fun k hk => by have := O2.lo k hk; omega)⟩
theorem bytesW {S0 : Nat → Prop} (a : Option Addr) (n c : Nat) (xs : List Int) (w : World) (R0 : IRow .u8 S0 w a n xs) (hn : n ≤ 10000) :
  Calls Tryz.prog 241 #[.slice a n c] w (Ret w fun v w' => ∃ a' n' c', v = .tuple #[.slice a' n' c', .int .i64 0] ∧ IOwn w.heap.size w' 5 .u8 a' n' c' (S.numS n ++ xs)) := by
 replace R0 := R0.weaken (T := fun k => k < w.heap.size) (fun k hk _ => hk)
 have hE := Ext.refl w
 refine enterU 12 Tryz.func241 rfl rfl ?_
 refine sq fun _ J1 => ?_
 refine RS.asS rfl ?_
 refine RS.asI rfl ?_
 refine nl J1 ?_
 refine wx fun _ J2 => ?_
 refine sq fun _ J3 => ?_
 refine RS.mvS rfl ?_
 refine RS.ln V51 ?_
 refine RS.o (D.gt rfl rfl) ?_
 refine nl J3 ?_
 refine C.ifd rfl (fun c4 => ?_) (fun c4 => ?_)
 ·exact absurd c4 (by omega)
 refine wp_skip ?_
 refine J2 _ _ ?_
 refine sq fun _ J5 => ?_
 refine RS.mvS rfl ?_
 refine RS.ln V51 ?_
 refine RS.o (D.conv rfl V3 V22 (W.u64 (by omega))) ?_
 refine RS.call E207 (numW _ (by omega) _) rfl (fun v6 w6 x6 A6 => ?_)
 replace hE := Ext.tr hE x6
 replace R0 := R0.ext x6
 have zw6 := x6.size
 obtain ⟨a6, n6, c6, rfl, O1⟩ := A6
 have hnl := S.numS_len (n : Int)
 have hol := O1.len
 refine RS.nm ?_
 refine RS.mvS rfl ?_
 refine RS.appendI O1 R0 rfl rfl V51 T5 rfl (by omega) (by decide) (by omega) (fun a7 c7 w7 N7 x7 => ?_)
 refine RS.nm ?_
 replace hE := hE.trans (x7.belQ (fun _ h => (O1.lo _ h).1))
 replace R0 := R0.prQ x7 (fun _ h => (O1.lo _ h).1)
 have zw7 := x7.size
 replace O1 := N7
 refine RS.asS rfl ?_
 refine RS.asI rfl ?_
 refine nl J5 ?_
 refine wp_ret ?_
 refine retSI ?_
 exact ⟨_, rfl, hE, _, _, _, rfl, O1⟩
theorem textR {S0 : Nat → Prop} (a : Option Addr) (n c : Nat) (xs : List Int) (w : World) (R0 : IRow .u8 S0 w a n xs) (hn : n ≤ 10000) :
  Calls Tryz.prog 228 #[.slice a n c] w (Ret w fun v w' => ∃ a' n' c', v = .slice a' n' c' ∧ IOwn w.heap.size w' 5 .u8 a' n' c' (S.numS n ++ xs)) := by
 replace R0 := R0.weaken (T := fun k => k < w.heap.size) (fun k hk _ => hk)
 have hE := Ext.refl w
 refine enterU 8 Tryz.func228 rfl rfl ?_
 refine sq fun _ J1 => ?_
 refine RS.asS rfl ?_
 refine nl J1 (sq fun _ J2 => ?_)
 refine RS.mvS rfl ?_
 refine RS.ln V51 ?_
 refine RS.o (D.conv rfl V3 V22 (W.u64 (by omega))) ?_
 refine RS.call E173 (numR _ (by omega) _) rfl (fun v3 w3 x3 A3 => ?_)
 replace hE := Ext.tr hE x3
 replace R0 := R0.ext x3
 have zw3 := x3.size
 obtain ⟨a3, n3, c3, rfl, O1⟩ := A3
 have hnl := S.numS_len (n : Int)
 have hol := O1.len
 refine RS.nm ?_
 refine RS.mvS rfl ?_
 refine RS.appendI O1 R0 rfl rfl V51 T5 rfl (by omega) (by decide) (by omega) (fun a4 c4 w4 N4 x4 => ?_)
 refine RS.nm ?_
 replace hE := hE.trans (x4.belQ (fun _ h => (O1.lo _ h).1))
 replace R0 := R0.prQ x4 (fun _ h => (O1.lo _ h).1)
 have zw4 := x4.size
 replace O1 := N4
 refine RS.asS rfl ?_
 refine nl J2 ?_
 refine wp_ret ?_
 refine retS ?_
 exact ⟨_, rfl, hE, _, _, _, rfl, O1⟩
theorem signedW (n : Int) (hn : -9223372036854775808 ≤ n ∧ n ≤ 9223372036854775807) (w : World) :
  Calls Tryz.prog 277 #[.int .i64 n] w (Ret w fun v w' => ∃ a' n' c', v = .slice a' n' c' ∧ IOwn w.heap.size w' 5 .u8 a' n' c' (S.numS (S.zig n))) := by
 have hz := S.zig_bd n hn
 have hze := S.zig_eq n hn
 have hE := Ext.refl w
 refine enterU 10 Tryz.func277 rfl rfl ?_
 refine sq fun _ J1 => ?_
 refine RS.asS rfl ?_
 refine nl J1 (sq fun _ J2 => ?_)
 refine RS.mvI rfl ?_
 refine RS.o (D.conv rfl V2 V22 (W.u64m _)) ?_
 refine RS.o (D.shl rfl rfl (by constructor <;> (try simp only [IntKind.bits]) <;> omega) (W.u64m _)) ?_
 refine RS.mvI rfl ?_
 refine RS.o (D.shr rfl rfl (by constructor <;> (try simp only [IntKind.bits]) <;> omega)) ?_
 refine RS.o (D.conv rfl V2 V22 (W.u64m _)) ?_
 refine RS.ob (D.bxor_u64 rfl rfl (by omega) (by omega)) (fun z3 => ?_)
 rw [hze]
 refine RS.call E207 (numW _ (by omega) _) rfl (fun v4 w4 x4 A4 => ?_)
 replace hE := Ext.tr hE x4
 have zw4 := x4.size
 obtain ⟨a4, n4, c4, rfl, O1⟩ := A4
 refine RS.nm ?_
 refine RS.asS rfl ?_
 refine nl J2 ?_
 refine wp_ret ?_
 refine retS ?_
 exact ⟨_, rfl, hE, _, _, _, rfl, O1⟩
theorem signedR (n : Int) (hn : -9223372036854775808 ≤ n ∧ n ≤ 9223372036854775807) (w : World) :
  Calls Tryz.prog 268 #[.int .i64 n] w (Ret w fun v w' => ∃ a' n' c', v = .slice a' n' c' ∧ IOwn w.heap.size w' 5 .u8 a' n' c' (S.numS (S.zig n))) := by
 unfold S.zig
 have hE := Ext.refl w
 refine enterU 15 Tryz.func268 rfl rfl ?_
 refine sq fun _ J1 => ?_
 refine RS.asS rfl ?_
 refine nl J1 ?_
 refine wx fun _ J2 => ?_
 refine sq fun _ J3 => ?_
 refine RS.mvI rfl ?_
 refine RS.o (D.ge rfl rfl) ?_
 refine nl J3 ?_
 refine C.ifd rfl (fun c4 => ?_) (fun c4 => ?_)
 ·have hc := c4
  refine sq fun _ J5 => ?_
  refine RS.mvI rfl ?_
  refine RS.o (D.conv rfl V2 V22 (W.u64 (by omega))) ?_
  refine RS.o (D.mul rfl rfl (W.u64 (by omega))) ?_
  refine RS.call E173 (numR _ (by omega) _) rfl (fun v6 w6 x6 A6 => ?_)
  replace hE := Ext.tr hE x6
  have zw6 := x6.size
  obtain ⟨a6, n6, c6, rfl, O1⟩ := A6
  refine RS.nm ?_
  refine RS.asS rfl ?_
  refine nl J5 ?_
  refine wp_ret ?_
  refine retS ?_
  rw [if_pos hc]
  refine ⟨_, rfl, hE, _, _, _, rfl, ?_⟩
  first | exact O1 | (rw [show 2 * n = n * 2 by omega]; exact O1)
 have hc := c4
 refine wp_skip ?_
 refine J2 _ _ ?_
 refine sq fun _ J7 => ?_
 refine RS.mvI rfl ?_
 refine RS.o (D.add rfl rfl (W.i64 (by omega))) ?_
 refine RS.o (D.neg rfl (W.i64 (by omega))) ?_
 refine RS.o (D.conv rfl V2 V22 (W.u64 (by omega))) ?_
 refine RS.o (D.mul rfl rfl (W.u64 (by omega))) ?_
 refine RS.o (D.add rfl rfl (W.u64 (by omega))) ?_
 refine RS.call E173 (numR _ (by omega) _) rfl (fun v8 w8 x8 A8 => ?_)
 replace hE := Ext.tr hE x8
 have zw8 := x8.size
 obtain ⟨a8, n8, c8, rfl, O1⟩ := A8
 refine RS.nm ?_
 refine RS.asS rfl ?_
 refine nl J7 ?_
 refine wp_ret ?_
 refine retS ?_
 rw [if_neg hc]
 refine ⟨_, rfl, hE, _, _, _, rfl, ?_⟩
 rw [show -2 * n - 1 = 2 * (0 - (n + 1)) + 1 by omega]
 exact O1
theorem T3 : TI Tryz.prog 3 1 8 [.int .i64 0] := by
 have h : (Tryz.prog.info? 3).map (fun i => (i.size, i.bytes, i.zero)) = some (1, 8, some (.int .i64 0)) := by kernel_rfl
 exact TI.of h rfl
theorem E119 : Enters Tryz.prog 119 := .mk Tryz.func119 (by kernel_rfl) rfl
theorem E126 : Enters Tryz.prog 126 := .mk Tryz.func126 (by kernel_rfl) rfl
theorem E191 : Enters Tryz.prog 191 := .mk Tryz.func191 (by kernel_rfl) rfl
theorem E292 : Enters Tryz.prog 292 := .mk Tryz.func292 (by kernel_rfl) rfl
theorem risingC (xs : List Int) (X : Arr .u8 32 xs) (v : Int) (a : Option Addr) (n c : Nat) (ids : List Int) (bA bB : Nat) (TA TB : TypeId) (w : World) (BA : Blk w bA [.int .i64 v] TA) (BB : Blk w bB [.slice a n c] TB) (D0 : WRow .u8 32 (fun k => k < bA) w a n ids) (hne : bB < bA) (hc : n ≤ c) (hn : n ≤ 1000) (hv : 0 ≤ v ∧ v < n) :
  Calls Tryz.prog 292 #[.agg (ints .u8 xs).toArray, .pointer (some ⟨bA, 0, none⟩), .pointer (some ⟨bB, 0, none⟩)] w (fun e w' => ∃ r, e = .returned (.bool r) ∧ Pr (fun k => k = bA) w w' ∧ Blk w' bA [.int .i64 (v + 1)] TA ∧ (r = true ↔ (v + 1 < n ∧ 0 ≤ S.cmpS (S.idAt ids v.toNat) (S.idAt ids (v + 1).toNat)))) := by
 have hlt := BA.lt
 have hlt2 := BB.lt
 have hE := Pr.refl (fun k => k = bA) w
 refine enterU 21 Tryz.func292 rfl rfl ?_
 refine sq fun _ J1 => ?_
 refine RS.box rfl rfl (fun b2 w2 e2 s2 x2 B2 => ?_)
 refine RS.nm ?_
 replace hE := hE.ext x2
 replace BA := BA.ext x2
 replace BB := BB.ext x2
 replace D0 := D0.ext x2
 have zw2 := x2.size
 have A2 := IArr.ofA (n := 32) B2 X
 clear B2
 refine RS.asB rfl ?_
 refine nl J1 (sq fun _ J3 => ?_)
 refine RS.ld V3 BA ?_
 refine RS.o (D.add rfl rfl (W.i64 (by omega))) ?_
 refine RS.store rfl (v := .int _ _) rfl C3 rfl BA rfl (fun w4 y4 N4 => ?_)
 replace hE := hE.stno y4
 replace BB := BB.sto y4
 replace D0 := D0.sto y4
 replace A2 := A2.sto y4
 have zw4 := y4.size
 replace BA := N4
 refine nl J3 ?_
 refine wx fun _ J5 => ?_
 refine regionX Ext [(0, .q), (1, .q), (2, .q), (3, .q), (4, .q), (5, .q), (6, .q), (7, .q), (8, .q), (9, .q), (10, .q), (11, .q), (12, .q), (13, .q), (14, .e), (15, .q), (16, .q), (17, .q)] mixed Ext.refl (fun h k => h.tr k) (by kernel_rfl) (fun w6 x6 => ?_)
 replace hE := hE.ext x6
 replace BA := BA.ext x6
 replace BB := BB.ext x6
 replace D0 := D0.ext x6
 replace A2 := A2.ext x6
 have zw6 := x6.size
 refine RX.o (fun w' hw => D.load rfl V3 rfl ((BA.ext hw).cell rfl)) ?_
 refine RX.o (fun w' hw => D.load rfl V38 rfl ((BB.ext hw).cell rfl)) ?_
 refine RX.o (fun w' hw => D.len rfl V38) ?_
 refine RX.o (fun w' hw => D.lt rfl rfl) ?_
 refine RX.mvB rfl ?_
 refine RX.splitd 11 rfl rfl (fun c7 => ?_) (fun c7 => ?_)
 ·refine RX.nm ?_
  refine RX.wt 11 ?_
  refine RX.o (fun w' hw => D.load rfl V38 rfl ((BB.ext hw).cell rfl)) ?_
  refine RX.wt 11 ?_
  refine RX.o (fun w' hw => D.load rfl V3 rfl ((BA.ext hw).cell rfl)) ?_
  refine RX.wt 11 ?_
  refine RX.o (fun w' hw => D.sub rfl rfl (W.i64 (by omega))) ?_
  refine RX.wt 11 ?_
  refine RX.idxW (fun _ h => h) D0 rfl rfl V38 C27 (by decide) (by omega) (fun b8 o8 h8 q8 r8 => ?_)
  refine RX.nm ?_
  have r1 := r8
  refine RX.wt 11 ?_
  refine RX.o (fun w' hw => D.loadW rfl V27 rfl C27 (by decide) r8 (h8 w' hw)) ?_
  refine RX.wt 11 ?_
  refine RX.o (fun w' hw => D.load rfl V38 rfl ((BB.ext hw).cell rfl)) ?_
  refine RX.wt 11 ?_
  refine RX.o (fun w' hw => D.load rfl V3 rfl ((BA.ext hw).cell rfl)) ?_
  refine RX.wt 11 ?_
  refine RX.idxW (fun _ h => h) D0 rfl rfl V38 C27 (by decide) (by omega) (fun b9 o9 h9 q9 r9 => ?_)
  refine RX.nm ?_
  have r2 := r9
  refine RX.wt 11 ?_
  refine RX.o (fun w' hw => D.loadW rfl V27 rfl C27 (by decide) r9 (h9 w' hw)) ?_
  refine RX.wt 11 ?_
  refine RX.eff ?_
  refine RS.call E126 (dcmp _ _ r1 r2 _) rfl (fun v10 w10 x10 A10 => ?_)
  replace hE := hE.ext x10
  replace BA := BA.ext x10
  replace BB := BB.ext x10
  replace D0 := D0.ext x10
  replace A2 := A2.ext x10
  have zw10 := x10.size
  subst A10
  refine RS.nm ?_
  refine RS.nil ⟨x10, ?_⟩
  refine RX.wt 11 ?_
  refine RX.o (fun w' hw => D.ge rfl rfl) ?_
  refine RX.pick (v := .bool _) rfl rfl ?_
  refine RX.assign (v := .bool _) rfl ?_
  refine RX.nil (J5 _ _ ?_)
  refine wp_ret ?_
  change bodyPost Tryz.prog Tryz.f292 (fun e w' => ∃ r, e = .returned (.bool r) ∧ Pr (fun k => k = bA) w w' ∧ Blk w' bA [.int .i64 (v + 1)] TA ∧ (r = true ↔ (v + 1 < n ∧ 0 ≤ S.cmpS (S.idAt ids v.toNat) (S.idAt ids (v + 1).toNat)))) .ret _ _
  refine retB rfl rfl ?_
  refine ⟨_, rfl, hE, BA, ?_⟩
  rw [decide_eq_true_iff, show v + 1 - 1 = v by omega]
  exact ⟨fun h => ⟨by omega, h⟩, fun h => h.2⟩
 refine RX.nm ?_
 refine RX.skF 11 ?_
 refine RX.skF 11 ?_
 refine RX.skF 11 ?_
 refine RX.skF 11 ?_
 refine RX.skF 11 ?_
 refine RX.skF 11 ?_
 refine RX.skF 11 ?_
 refine RX.skF 11 ?_
 refine RX.skF 11 ?_
 refine RX.skF 11 ?_
 refine RX.skF 11 ?_
 refine RX.pick (v := .bool false) rfl rfl ?_
 refine RX.assign (v := .bool _) rfl ?_
 refine RX.nil (J5 _ _ ?_)
 refine wp_ret ?_
 change bodyPost Tryz.prog Tryz.f292 (fun e w' => ∃ r, e = .returned (.bool r) ∧ Pr (fun k => k = bA) w w' ∧ Blk w' bA [.int .i64 (v + 1)] TA ∧ (r = true ↔ (v + 1 < n ∧ 0 ≤ S.cmpS (S.idAt ids v.toNat) (S.idAt ids (v + 1).toNat)))) .ret _ _
 refine retB rfl rfl ?_
 refine ⟨_, rfl, hE, BA, ?_⟩
 constructor
 ·intro h; cases h
 intro h; omega
theorem indexID (a : Option Addr) (n c : Nat) (ids : List Int) (bA bB : Nat) (TA TB : TypeId) (w : World) (BA : Blk w bA [.int .i64 0] TA) (BB : Blk w bB [.slice a n c] TB) (D0 : WRow .u8 32 (fun k => k < bA) w a n ids) (hne : bB < bA) (hc : n ≤ c) (hn : n ≤ 1000) :
  Calls Tryz.prog 191 #[.slice a n c, .func (.func 292) #[] #[.pointer (some ⟨bA, 0, none⟩), .pointer (some ⟨bB, 0, none⟩)]] w (fun e w' => ∃ j, e = .returned (.int .i64 j) ∧ Pr (fun k => k = bA) w w' ∧ (j < 0 ↔ S.Rising n ids)) := by
 have hlt := BA.lt
 have hlt2 := BB.lt
 have hE := Pr.refl (fun k => k = bA) w
 refine enterU 17 Tryz.func191 rfl rfl ?_
 refine sq fun _ J1 => ?_
 refine RS.asI rfl ?_
 refine nl J1 ?_
 refine wx fun _ J2 => ?_
 refine sq fun _ J3 => ?_
 refine RS.mvS rfl ?_
 refine RS.ln V38 ?_
 refine RS.mvI rfl ?_
 refine nl J3 ?_
 refine wp_block ?_
 refine C.loop (A := Int) (fun p => [(8, .int .i64 p)]) [4, 5, 9, 10, 11, 12, 13, 14, 15, 16, 17, 18] (fun p w' => Pr (fun k => k = bA) w w' ∧ ((0 ≤ p ∧ p ≤ n) ∧ Blk w' bA [.int .i64 p] TA ∧ (∀ j, j < p.toNat → j < n - 1 → S.cmpS (S.idAt ids j) (S.idAt ids (j + 1)) < 0))) (fun p => (n - p.toNat)) 0 (by kernel_rfl) ?_ ?_
 ·exact ⟨Pr.refl _ _, ⟨by omega, by omega⟩, BA, fun j hj => by omega⟩
 rintro p j w4 ⟨x4, hI⟩
 replace hE := hE.prno x4
 replace BB := BB.pro x4
 replace D0 := D0.pro x4
 have zw4 := x4.size
 obtain ⟨h1, BA, h2⟩ := hI
 refine C.nmU ?_
 refine sq fun _ J5 => ?_
 refine RS.o (D.lt rfl rfl) ?_
 refine nl J5 ?_
 refine wx fun _ J6 => ?_
 refine C.ifd rfl (fun c7 => ?_) (fun c7 => ?_)
 ·refine wp_skip ?_
  refine J6 _ _ ?_
  refine wx fun _ J8 => ?_
  refine wp_block ?_
  refine sq fun _ J9 => ?_
  refine RS.mvI rfl ?_
  refine RS.asI rfl ?_
  refine nl J9 (sq fun _ J10 => ?_)
  refine RS.move (v := .func _ _ _) rfl ?_
  refine RS.mvS rfl ?_
  refine RS.mvI rfl ?_
  refine RS.idxW D0 rfl rfl V38 C27 (by decide) (by omega) (fun b11 o11 h11 q11 r11 => ?_)
  refine RS.nm ?_
  have r1 := r11
  refine RS.o (D.loadW rfl V27 rfl C27 (by decide) r11 h11) ?_
  refine RS.callv E292 (risingC _ r1 _ _ _ _ _ _ _ _ _ _ BA BB D0 hne hc hn (by omega)) rfl rfl (fun e12 w12 A12 => ?_)
  obtain ⟨r12, rfl, X12, N12, hr⟩ := A12
  refine ⟨_, rfl, ?_⟩
  refine RS.nm ?_
  replace hE := hE.prno X12
  replace x4 := x4.prno X12
  replace BB := BB.pro X12
  replace D0 := D0.pro X12
  have zw12 := X12.size
  replace BA := N12
  refine nl J10 ?_
  refine C.ifb rfl (fun c13 => ?_) (fun c13 => ?_)
  ·have hrt := c13
   refine sq fun _ J14 => ?_
   refine RS.mvI rfl ?_
   refine RS.asI rfl ?_
   refine nl J14 ?_
   refine wp_ret ?_
   change bodyPost Tryz.prog Tryz.f191 (fun e w' => ∃ j, e = .returned (.int .i64 j) ∧ Pr (fun k => k = bA) w w' ∧ (j < 0 ↔ S.Rising n ids)) .ret _ _
   refine retI rfl rfl ?_
   have h3 := hr.1 hrt
   refine ⟨_, rfl, hE, ⟨fun h => by omega, fun h => ?_⟩⟩
   have := h p.toNat (by omega)
   rw [show (p + 1).toNat = p.toNat + 1 by omega] at h3
   omega
  have hrf := c13
  refine wp_skip ?_
  refine J8 _ _ ?_
  refine region ?_
  refine RS.o (D.add rfl rfl (W.i64 (by omega))) ?_
  refine RS.mvI rfl ?_
  refine RS.nil ?_
  change Nx _ _ _ _ _ _ _ _
  refine C.next (p + 1) ⟨rfl, trivial⟩ (by kernel_rfl) ?_ ?_
  ·refine ⟨x4, ⟨by omega, by omega⟩, BA, fun j hj hj2 => ?_⟩
   by_cases hjp : j < p.toNat
   ·exact h2 j hjp hj2
   have ej : j = p.toNat := by omega
   subst ej
   by_cases hb : S.cmpS (S.idAt ids p.toNat) (S.idAt ids (p.toNat + 1)) < 0
   ·exact hb
   have := hr.2 ⟨by omega, by rw [show (p + 1).toNat = p.toNat + 1 by omega]; omega⟩
   rw [hrf] at this; cases this
  omega
 have hlast := c7
 refine wp_exit ?_
 refine J2 _ _ ?_
 refine sq fun _ J15 => ?_
 refine RS.asI rfl ?_
 refine nl J15 ?_
 refine wp_ret ?_
 change bodyPost Tryz.prog Tryz.f191 (fun e w' => ∃ j, e = .returned (.int .i64 j) ∧ Pr (fun k => k = bA) w w' ∧ (j < 0 ↔ S.Rising n ids)) .ret _ _
 refine retI rfl rfl ?_
 refine ⟨_, rfl, hE, ⟨fun _ j hj => h2 j (by omega) hj, fun _ => by decide⟩⟩
theorem containsID (a : Option Addr) (n c : Nat) (ids : List Int) (bA bB : Nat) (TA TB : TypeId) (w : World) (BA : Blk w bA [.int .i64 0] TA) (BB : Blk w bB [.slice a n c] TB) (D0 : WRow .u8 32 (fun k => k < bA) w a n ids) (hne : bB < bA) (hc : n ≤ c) (hn : n ≤ 1000) :
  Calls Tryz.prog 119 #[.slice a n c, .func (.func 292) #[] #[.pointer (some ⟨bA, 0, none⟩), .pointer (some ⟨bB, 0, none⟩)]] w (fun e w' => ∃ r, e = .returned (.bool r) ∧ Pr (fun k => k = bA) w w' ∧ (r = true ↔ ¬ S.Rising n ids)) := by
 have hlt := BA.lt
 have hlt2 := BB.lt
 have hE := Pr.refl (fun k => k = bA) w
 refine enterU 7 Tryz.func119 rfl rfl ?_
 refine sq fun _ J1 => ?_
 refine RS.asB rfl ?_
 refine nl J1 (sq fun _ J2 => ?_)
 refine RS.mvS rfl ?_
 refine RS.move (v := .func _ _ _) rfl ?_
 refine RS.callx E191 (indexID _ _ _ _ _ _ _ _ _ BA BB D0 hne hc hn) rfl (fun e3 w3 A3 => ?_)
 obtain ⟨jr, rfl, X3, hr⟩ := A3
 refine ⟨_, rfl, ?_⟩
 refine RS.nm ?_
 replace hE := hE.prno X3
 replace BB := BB.pro X3
 replace D0 := D0.pro X3
 have zw3 := X3.size
 refine RS.o (D.ge rfl rfl) ?_
 refine RS.asB rfl ?_
 refine nl J2 ?_
 refine wp_ret ?_
 change bodyPost Tryz.prog Tryz.f119 (fun e w' => ∃ r, e = .returned (.bool r) ∧ Pr (fun k => k = bA) w w' ∧ (r = true ↔ ¬ S.Rising n ids)) .ret _ _
 refine retB rfl rfl ?_
 refine ⟨_, rfl, hE, ?_⟩
 rw [decide_eq_true_iff]
 have hj := hr
 constructor
 ·intro h h2; have := hj.2 h2; omega
 intro h; by_cases h0 : 0 ≤ jr
 ·exact h0
 exact (h (hj.1 (by omega))).elim
theorem risingW {S0 : Nat → Prop} (a : Option Addr) (n c : Nat) (ids : List Int) (w : World) (D0 : WRow .u8 32 S0 w a n ids) (hc : n ≤ c) (hn : n ≤ 1000) :
  Calls Tryz.prog 276 #[.slice a n c] w (Ret w fun v _ => v = .bool (decide (S.Rising n ids))) := by
 replace D0 := D0.weaken (T := fun k => k < w.heap.size) (fun k hk _ => hk)
 have hE := Ext.refl w
 refine enterU 7 Tryz.func276 rfl rfl ?_
 refine sq fun _ J1 => ?_
 refine RS.box rfl rfl (fun b2 w2 e2 s2 x2 B2 => ?_)
 refine RS.nm ?_
 replace hE := Ext.tr hE x2
 replace D0 := D0.ext x2
 have zw2 := x2.size
 refine RS.asB rfl ?_
 refine nl J1 (sq fun _ J3 => ?_)
 refine RS.alloc T3 (fun b4 w4 e4 s4 x4 B4 => ?_)
 refine RS.nm ?_
 replace hE := Ext.tr hE x4
 replace D0 := D0.ext x4
 replace B2 := B2.ext x4
 have zw4 := x4.size
 refine RS.store rfl (v := .int _ _) rfl C3 rfl B4 rfl (fun w5 y5 N5 => ?_)
 replace hE := hE.trans (y5.belo)
 replace D0 := D0.sto y5
 replace B2 := B2.sto y5
 have zw5 := y5.size
 replace B4 := N5
 refine nl J3 (sq fun _ J6 => ?_)
 refine RS.ld V38 B2 ?_
 refine RS.o (D.func (fs := []) (cs := [.pointer _, .pointer _]) rfl rfl) ?_
 refine RS.callx E119 (containsID _ _ _ _ _ _ _ _ _ B4 B2 (D0.weaken (T := fun k => k < b4) (fun k _ h => by omega)) (by omega) hc hn) rfl (fun e7 w7 A7 => ?_)
 obtain ⟨r, rfl, X7, hr⟩ := A7
 refine ⟨_, rfl, ?_⟩
 refine RS.nm ?_
 replace hE := hE.trans (X7.belo)
 replace D0 := D0.pro X7
 replace B2 := B2.pro X7
 have zw7 := X7.size
 refine RS.o (D.not rfl) ?_
 refine RS.asB rfl ?_
 refine nl J6 ?_
 refine wp_ret ?_
 refine retB rfl rfl ?_
 refine ⟨_, rfl, hE, congrArg Value.bool ?_⟩
 by_cases h : S.Rising n ids
 ·rw [decide_eq_true h]; cases hb : r
  ·rfl
  exact (hr.1 hb h).elim
 rw [decide_eq_false h, hr.2 h]; rfl
end Go.Proofs.YtkmaenmhcgohbaaGreatDoor.W
