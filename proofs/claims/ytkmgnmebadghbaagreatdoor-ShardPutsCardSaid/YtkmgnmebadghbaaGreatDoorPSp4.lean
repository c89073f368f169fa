/-
  Part 4 of the lemmas of these laws: ShardPuts.
-/
import Derived.Test.YtkmgnmebadghbaaGreatDoorPSp3
set_option linter.unusedSimpArgs false
namespace Go.Proofs.YtkmgnmebadghbaaGreatDoor.W
open Go.RowKit Go.Proofs.YtkmgnmebadghbaaGreatDoor.G
set_option linter.unusedVariables false
set_option maxRecDepth 20000
set_option maxHeartbeats 8000000
attribute [local irreducible] RS RX
theorem C5 : Tryz.prog.cellsOf 5 = 1 := by kernel_rfl
theorem C265 : Tryz.prog.cellsOf 265 = 64 := by kernel_rfl
theorem T265 : TI Tryz.prog 265 64 256 (ints .u32 (List.replicate 64 0)) := by
 have h : (Tryz.prog.info? 265).map (fun i => (i.size, i.bytes, i.zero)) = some (64, 256, some (.agg #[.int .u32 0, .int .u32 0, .int .u32 0, .int .u32 0, .int .u32 0, .int .u32 0, .int .u32 0, .int .u32 0, .int .u32 0, .int .u32 0, .int .u32 0, .int .u32 0, .int .u32 0, .int .u32 0, .int .u32 0, .int .u32 0, .int .u32 0, .int .u32 0, .int .u32 0, .int .u32 0, .int .u32 0, .int .u32 0, .int .u32 0, .int .u32 0, .int .u32 0, .int .u32 0, .int .u32 0, .int .u32 0, .int .u32 0, .int .u32 0, .int .u32 0, .int .u32 0, .int .u32 0, .int .u32 0, .int .u32 0, .int .u32 0, .int .u32 0, .int .u32 0, .int .u32 0, .int .u32 0, .int .u32 0, .int .u32 0, .int .u32 0, .int .u32 0, .int .u32 0, .int .u32 0, .int .u32 0, .int .u32 0, .int .u32 0, .int .u32 0, .int .u32 0, .int .u32 0, .int .u32 0, .int .u32 0, .int .u32 0, .int .u32 0, .int .u32 0, .int .u32 0, .int .u32 0, .int .u32 0, .int .u32 0, .int .u32 0, .int .u32 0, .int .u32 0])) := by kernel_rfl
 exact TI.of h rfl
theorem E225 : Enters Tryz.prog 225 := .mk Tryz.func225 (by kernel_rfl) rfl
theorem rotl (x : Int) (hx : 0 ≤ x ∧ x < 4294967296) (n : Int) (hn : 0 < n ∧ n < 32) (m : Int) (hm : m = -n) (w : World) :
  Calls Tryz.prog 225 #[.int .u32 x, .int .i64 m] w (Ret w fun v _ => v = .int .u32 (S.rotr x n)) := by
 have hE := Ext.refl w
 refine enterU 15 Tryz.func225 rfl rfl ?_
 refine sq fun _ J1 => RS.asI rfl ?_
 refine nl J1 (sq fun _ J2 => ?_)
 refine RS.mvI rfl ?_
 refine RS.o (D.conv rfl V3 V185 (by first | exact W.u64 (by omega) | exact W.u64m _)) ?_
 refine RS.ob (D.band_u64 rfl rfl (by omega) (by omega)) (fun z3 => ?_)
 refine RS.asI rfl (nl J2 (wx fun _ J4 => ?_))
 rw [hm, S.rot_amt n hn]
 have g1 := S.rotr_bd x n hx
 refine region (RS.mvI rfl (RS.mvI rfl ?_))
 refine RS.o (D.shl rfl rfl (by constructor <;> (try simp only [IntKind.bits]) <;> omega) (W.u32m _)) ?_
 refine RS.mvI rfl (RS.mvI rfl ?_)
 refine RS.o (D.sub rfl rfl (by first | exact W.u64 (by omega) | exact W.u64m _)) ?_
 refine RS.ob (D.shr_u32 rfl rfl (by omega) (by constructor <;> omega)) (fun z5 => ?_)
 refine RS.ob (D.bor_u32 rfl rfl (by omega) (by omega)) (fun z6 => ?_)
 refine RS.asI rfl (nl J4 (wp_ret ?_))
 refine retI rfl rfl ?_
 refine ⟨_, rfl, hE, congrArg (Value.int .u32) (S.rotr_eq x n hn)⟩
theorem mix (x : Int) (hx : 0 ≤ x ∧ x < 4294967296) (i : Int) (hi : 0 < i ∧ i < 32) (j : Int) (hj : 0 < j ∧ j < 32) (k : Int) (hk : 0 < k ∧ k < 32) (w : World) :
  Calls Tryz.prog 222 #[.int .u32 x, .int .i64 i, .int .i64 j, .int .i64 k] w (Ret w fun v _ => v = .int .u32 (S.mix x i j k)) := by
 have g1 := S.rotr_bd x i hx
 have g2 := S.rotr_bd x j hx
 have g3 := S.rotr_bd x k hx
 have hE := Ext.refl w
 refine enterU 19 Tryz.func222 rfl rfl ?_
 refine sq fun _ J1 => RS.asI rfl ?_
 refine nl J1 (sq fun _ J2 => ?_)
 refine RS.mvI rfl (RS.mvI rfl ?_)
 refine RS.o (D.neg rfl (W.i64 (by omega))) ?_
 refine RS.call E225 (rotl _ (by omega) i (by omega) _ (by omega) _) rfl (fun v3 w3 x3 A3 => ?_)
 have zw3 := x3.size
 subst A3
 refine RS.nm ?_
 refine RS.mvI rfl (RS.mvI rfl ?_)
 refine RS.o (D.neg rfl (W.i64 (by omega))) ?_
 refine RS.call E225 (rotl _ (by omega) j (by omega) _ (by omega) _) rfl (fun v4 w4 x4 A4 => ?_)
 have zw4 := x4.size
 subst A4
 refine RS.nm ?_
 refine RS.ob (D.bxor_u32 rfl rfl (by omega) (by omega)) (fun z5 => ?_)
 refine RS.mvI rfl (RS.mvI rfl ?_)
 refine RS.o (D.neg rfl (W.i64 (by omega))) ?_
 refine RS.call E225 (rotl _ (by omega) k (by omega) _ (by omega) _) rfl (fun v6 w6 x6 A6 => ?_)
 have zw6 := x6.size
 subst A6
 refine RS.nm ?_
 refine RS.ob (D.bxor_u32 rfl rfl (by omega) (by omega)) (fun z7 => ?_)
 refine RS.asI rfl (nl J2 (wp_ret ?_))
 refine retI rfl rfl ?_
 replace hE := Ext.tr (Ext.tr (Ext.tr hE x3) x4) x6
 exact ⟨_, rfl, hE, rfl⟩
theorem turn (x : Int) (hx : 0 ≤ x ∧ x < 4294967296) (n : Int) (hn : 0 < n ∧ n < 32) (w : World) :
  Calls Tryz.prog 216 #[.int .u32 x, .int .i64 n] w (Ret w fun v _ => v = .int .u32 (S.rotr x n)) := by
 have hE := Ext.refl w
 refine enterU 11 Tryz.func216 rfl rfl ?_
 refine sq fun _ J1 => RS.asI rfl (nl J1 (wx fun _ J2 => ?_))
 refine regionX Ext [(0, .q), (1, .q), (2, .q), (3, .q), (4, .q), (5, .q), (6, .q), (7, .q), (8, .q)] mixed Ext.refl (fun h k => h.tr k) (by kernel_rfl) (fun w3 x3 => ?_)
 have zw3 := x3.size
 refine RX.mvI rfl (RX.mvI rfl ?_)
 refine RX.ob (Ext.refl _) (fun w' hw => D.shr_u32 rfl rfl (by omega) (by constructor <;> omega)) (fun z4 => ?_)
 refine RX.mvI rfl (RX.mvI rfl ?_)
 refine RX.o (fun w' hw => D.sub rfl rfl (W.i64 (by omega))) ?_
 refine RX.o (fun w' hw => D.shl rfl rfl (by constructor <;> (try simp only [IntKind.bits]) <;> omega) (W.u32m _)) ?_
 refine RX.ob (Ext.refl _) (fun w' hw => D.bor_u32 rfl rfl (by omega) (by omega)) (fun z5 => ?_)
 refine RX.assign (v := .int _ _) rfl ?_
 refine RX.nil (J2 _ _ ?_)
 refine wp_ret ?_
 refine retI rfl rfl ?_
 replace hE := Ext.tr hE x3
 exact ⟨_, rfl, hE, rfl⟩
theorem schedule {S0 : Nat → Prop} (a : Option Addr) (n c : Nat) (b : List Int) (w : World) (R0 : IRow .u8 S0 w a n b) (hn : 64 ≤ n) (hc : n ≤ c) :
  Calls Tryz.prog 221 #[.slice a n c] w (Ret w fun v _ => v = .agg (ints .u32 (S.sch b 48)).toArray) := by
 replace R0 := R0.weaken (T := fun k => k < w.heap.size) (fun k hk _ => hk)
 have hbl := R0.len
 have hbd := R0.bd
 have R1 := R0.sub 0 64 c (by omega) (by omega) (by omega)
 have hE := Ext.refl w
 refine enterU 73 Tryz.func221 rfl rfl ?_
 refine sq fun _ J1 => ?_
 refine RS.alloc T265 (fun b2 w2 e2 s2 x2 B2 => ?_)
 refine RS.nm ?_
 have zw2 := x2.size
 have A2 : IArr .u32 w2 b2 64 (List.replicate 64 0) [] 265 := IArr.zero B2
 clear B2
 refine nl J1 (wx fun _ J3 => sq fun _ J4 => RS.mvS rfl ?_)
 refine RS.o (D.slice (kl := .i64) (kh := .i64) rfl V115 C5 (by decide) rfl rfl (by omega) (by omega)) ?_
 refine RS.ln V115 ?_
 refine RS.mvI rfl (nl J4 (wp_block ?_))
 refine C.loop (A := Int × List Int) (fun p => [(13, .int .i64 p.1)]) [3, 4, 14, 15, 16, 17, 18, 19, 20, 21, 22, 23, 24, 25, 26, 27, 28, 29] (fun p w' => Pr (fun k => k = b2) w2 w' ∧ (IArr .u32 w' b2 64 p.2 [] 265 ∧ (0 ≤ p.1 ∧ p.1 ≤ 64) ∧ S.PW b p.1.toNat p.2)) (fun p => (64 - p.1.toNat)) (0, List.replicate 64 0) (by kernel_rfl) ?_ ?_
 ·exact ⟨Pr.refl _ _, A2, by decide, S.PW_zero b⟩
 rintro p j w5 ⟨x5, hI⟩
 have zw5 := x5.size
 obtain ⟨i, U⟩ := p
 dsimp only at hI
 obtain ⟨A2, h1, h2⟩ := hI
 have hWl := A2.len
 have hlt := A2.lt
 refine C.nmU ?_
 refine sq fun _ J6 => ?_
 refine RS.o (D.lt rfl rfl) ?_
 refine nl J6 (wx fun _ J7 => C.ifd rfl (fun c8 => ?_) (fun c8 => ?_))
 ·refine wp_skip (J7 _ _ (wx fun _ J9 => wp_block (sq fun _ J10 => RS.mvI rfl ?_)))
  replace R1 := (R1.ext x2).pro x5
  refine RS.idx R1 rfl rfl V115 C5 (by omega) (fun b11 o11 v11 h11 q11 r11 => ?_)
  refine RS.nm ?_
  simp only [lim] at r11
  have qa := q11
  refine RS.o (D.load rfl V5 rfl (h11)) ?_
  refine RS.asI rfl (RS.asI rfl (nl J10 (region (RS.mvI rfl ?_))))
  refine RS.o (D.quo rfl rfl (by omega) (by omega) (W.i64 (by omega))) ?_
  refine RS.mvI rfl ?_
  refine RS.o (D.quo rfl rfl (by omega) (by omega) (W.i64 (by omega))) ?_
  refine RS.idxA A2 rfl rfl V265 C45 (by omega) (fun v12 h12 q12 r12 => ?_)
  refine RS.nm ?_
  simp only [lim] at r12
  have qb := q12
  refine RS.o (D.load rfl V45 rfl (h12)) ?_
  refine RS.o (D.shl rfl rfl (by constructor <;> (try simp only [IntKind.bits]) <;> omega) (W.u32m _)) ?_
  refine RS.mvI rfl ?_
  refine RS.o (D.conv rfl V5 V45 (W.u32 (by omega))) ?_
  refine RS.ob (D.bor_u32 rfl rfl (by omega) (by omega)) (fun z13 => ?_)
  refine RS.idxA A2 rfl rfl V265 C45 (by omega) (fun v14 h14 q14 r14 => ?_)
  refine RS.nm ?_
  simp only [lim] at r14
  refine RS.storeA A2 rfl rfl C45 (by omega) (by simp only [lim]; omega) (fun w15 y15 N15 => ?_)
  replace hE := ((Ext.tr hE x2).trans x5.belo).trans y15.belo
  replace x5 := x5.stno y15
  have zw15 := y15.size
  replace A2 := N15
  refine nl J9 (region ?_)
  refine RS.o (D.add rfl rfl (W.i64 (by omega))) ?_
  refine RS.mvI rfl (RS.nil ?_)
  change Nx _ _ _ _ _ _ _ _
  refine C.next (i + 1, U.set (i / 4).toNat (ior (v12 * 2 ^ (8 : Int).toNat % 4294967296) v11)) ⟨rfl, trivial⟩ (by kernel_rfl) ?_ ?_
  ·refine ⟨x5, A2, ⟨by dsimp only; omega, by dsimp only; omega⟩, ?_⟩
   dsimp only
   subst qb
   exact S.PW_step b U i _ ⟨h1.1, by omega⟩ hWl (by omega) hbd (qa.trans (S.take64 b i (by omega))) h2
  dsimp only; omega
 refine wp_exit (J3 _ _ (wx fun _ J16 => sq fun _ J17 => RS.asI rfl (nl J17 (wp_block ?_))))
 refine C.loop (A := Int × List Int) (fun p => [(5, .int .i64 p.1)]) [6, 7, 8, 9, 30, 31, 32, 33, 34, 35, 36, 37, 38, 39, 40, 41, 42, 43, 44, 45, 46, 47, 48, 49, 50, 51, 52, 53, 54, 55, 56, 57, 58, 59, 60, 61, 62, 63, 64, 65, 66, 67, 68, 69, 70, 71, 72] (fun p w' => Pr (fun k => k = b2) w5 w' ∧ (IArr .u32 w' b2 64 p.2 [] 265 ∧ (16 ≤ p.1 ∧ p.1 ≤ 64) ∧ p.2.take p.1.toNat = S.sch b (p.1.toNat - 16))) (fun p => (64 - p.1.toNat)) (16, U) (by kernel_rfl) ?_ ?_
 ·exact ⟨Pr.refl _ _, A2, ⟨by dsimp only; omega, by dsimp only; omega⟩, S.take_words b U (by omega) hWl (by rw [show (64 : Nat) = i.toNat by omega]; exact h2)⟩
 rintro p j w18 ⟨x18, hI⟩
 have zw18 := x18.size
 obtain ⟨t, V⟩ := p
 dsimp only at hI
 obtain ⟨A2, g1, g2⟩ := hI
 have hVl := A2.len
 have hlt2 := A2.lt
 refine C.nmU ?_
 refine wx fun _ J19 => sq fun _ J20 => RS.mvI rfl ?_
 refine RS.o (D.lt rfl rfl) ?_
 refine nl J20 (C.ifd rfl (fun c21 => ?_) (fun c21 => ?_))
 ·refine wp_skip (J19 _ _ (wx fun _ J22 => wp_block (wx fun _ J23 => ?_)))
  refine regionX Ext [(0, .q), (1, .q), (2, .q), (3, .q), (4, .q), (5, .q), (6, .q), (7, .q), (8, .q), (9, .q)] mixed Ext.refl (fun h k => h.tr k) (by kernel_rfl) (fun w24 x24 => ?_)
  replace hE := Ext.tr (((Ext.tr hE x2).trans x5.belo).trans x18.belo) x24
  replace R1 := ((R1.ext x2).pro x5).pro x18
  have zw24 := x24.size
  refine RX.mvI rfl ?_
  refine RX.o (fun w' hw => D.sub rfl rfl (W.i64 (by omega))) ?_
  replace A2 := A2.ext x24
  refine RX.idxA (fun _ h => h) A2 rfl rfl V265 C45 (by omega) (fun v25 h25 q25 r25 => ?_)
  refine RX.nm ?_
  simp only [lim] at r25
  have q1 := q25
  refine RX.o (fun w' hw => D.load rfl V45 rfl (h25 w' hw)) ?_
  refine RX.mvI rfl ?_
  refine RX.o (fun w' hw => D.sub rfl rfl (W.i64 (by omega))) ?_
  refine RX.idxA (fun _ h => h) A2 rfl rfl V265 C45 (by omega) (fun v26 h26 q26 r26 => ?_)
  refine RX.nm ?_
  simp only [lim] at r26
  have q2 := q26
  refine RX.o (fun w' hw => D.load rfl V45 rfl (h26 w' hw)) ?_
  refine RX.assign (v := .int _ _) rfl ?_
  refine RX.assign (v := .int _ _) rfl ?_
  refine RX.nil (J23 _ _ ?_)
  refine sq fun _ J27 => RS.mvI rfl ?_
  refine RS.call E225 (rotl _ (by omega) 7 (by omega) _ (by omega) _) rfl (fun v28 w28 x28 A28 => ?_)
  have zw28 := x28.size
  subst A28
  have g28 := S.rotr_bd v25 7 (by omega)
  refine RS.nm ?_
  refine RS.mvI rfl ?_
  refine RS.call E225 (rotl _ (by omega) 18 (by omega) _ (by omega) _) rfl (fun v29 w29 x29 A29 => ?_)
  have zw29 := x29.size
  subst A29
  have g29 := S.rotr_bd v25 18 (by omega)
  refine RS.nm ?_
  refine RS.ob (D.bxor_u32 rfl rfl (by omega) (by omega)) (fun z30 => ?_)
  refine RS.mvI rfl ?_
  refine RS.ob (D.shr_u32 rfl rfl (by omega) (by constructor <;> omega)) (fun z31 => ?_)
  refine RS.ob (D.bxor_u32 rfl rfl (by omega) (by omega)) (fun z32 => ?_)
  refine RS.asI rfl ?_
  refine nl J27 (sq fun _ J33 => ?_)
  refine RS.mvI rfl ?_
  refine RS.call E225 (rotl _ (by omega) 17 (by omega) _ (by omega) _) rfl (fun v34 w34 x34 A34 => ?_)
  have zw34 := x34.size
  subst A34
  have g34 := S.rotr_bd v26 17 (by omega)
  refine RS.nm ?_
  refine RS.mvI rfl ?_
  refine RS.call E225 (rotl _ (by omega) 19 (by omega) _ (by omega) _) rfl (fun v35 w35 x35 A35 => ?_)
  have zw35 := x35.size
  subst A35
  have g35 := S.rotr_bd v26 19 (by omega)
  refine RS.nm ?_
  refine RS.ob (D.bxor_u32 rfl rfl (by omega) (by omega)) (fun z36 => ?_)
  refine RS.mvI rfl ?_
  refine RS.ob (D.shr_u32 rfl rfl (by omega) (by constructor <;> omega)) (fun z37 => ?_)
  refine RS.ob (D.bxor_u32 rfl rfl (by omega) (by omega)) (fun z38 => ?_)
  refine RS.asI rfl (nl J33 ?_)
  refine regionX Ext [(0, .q), (1, .q), (2, .q), (3, .q), (4, .q), (5, .q), (6, .q), (7, .q), (8, .q), (9, .q), (10, .q), (11, .q), (12, .q), (13, .q), (14, .q), (15, .g)] mixed Ext.refl (fun h k => h.tr k) (by kernel_rfl) (fun w39 x39 => ?_)
  have zw39 := x39.size
  refine RX.mvI rfl (RX.mvI rfl ?_)
  refine RX.o (fun w' hw => D.sub rfl rfl (W.i64 (by omega))) ?_
  replace A2 := ((((A2.ext x28).ext x29).ext x34).ext x35).ext x39
  refine RX.idxA (fun _ h => h) A2 rfl rfl V265 C45 (by omega) (fun v40 h40 q40 r40 => ?_)
  refine RX.nm ?_
  simp only [lim] at r40
  have q3 := q40
  refine RX.o (fun w' hw => D.load rfl V45 rfl (h40 w' hw)) ?_
  refine RX.mvI rfl ?_
  refine RX.o (fun w' hw => D.sub rfl rfl (W.i64 (by omega))) ?_
  refine RX.idxA (fun _ h => h) A2 rfl rfl V265 C45 (by omega) (fun v41 h41 q41 r41 => ?_)
  refine RX.nm ?_
  simp only [lim] at r41
  have q4 := q41
  refine RX.o (fun w' hw => D.load rfl V45 rfl (h41 w' hw)) ?_
  refine RX.o (fun w' hw => D.add rfl rfl (W.u32m _)) ?_
  refine RX.mvI rfl ?_
  refine RX.o (fun w' hw => D.add rfl rfl (W.u32m _)) ?_
  refine RX.mvI rfl ?_
  refine RX.o (fun w' hw => D.add rfl rfl (W.u32m _)) ?_
  refine RX.idxA (fun _ h => h) A2 rfl rfl V265 C45 (by omega) (fun v42 h42 q42 r42 => ?_)
  refine RX.nm ?_
  simp only [lim] at r42
  refine RX.big ?_
  refine RS.storeA A2 rfl rfl C45 (by omega) (by simp only [lim]; omega) (fun w43 y43 N43 => ?_)
  replace x18 := (((((x18.ext x24).ext x28).ext x29).ext x34).ext x35).ext x39
  replace x18 := x18.stno y43
  have zw43 := y43.size
  replace A2 := N43
  refine RS.nil ?_
  refine RX.nil (J22 _ _ ?_)
  refine region (RS.mvI rfl ?_)
  refine RS.o (D.add rfl rfl (W.i64 (by omega))) ?_
  refine RS.asI rfl (RS.nil ?_)
  change Nx _ _ _ _ _ _ _ _
  refine C.next (t + 1, V.set t.toNat (S.nextW V t)) ⟨rfl, trivial⟩ (by kernel_rfl) ?_ ?_
  ·subst q1 q2 q3 q4
   refine ⟨x18, A2, ⟨by dsimp only; omega, by dsimp only; omega⟩, ?_⟩
   dsimp only
   exact S.sch_step b V t (by omega) hVl g2
  dsimp only; omega
 refine wp_exit (J16 _ _ (sq fun _ J44 => ?_))
 refine RS.o (D.loadAgg rfl V265 rfl C265 (by decide) (by rw [ints_length, A2.len]) A2.cells) ?_
 refine RS.storeArr A2 rfl rfl C265 (by decide) (by first | assumption | exact And.left (by assumption) | exact IArr.len (by assumption)) (by first | assumption | exact And.right (by assumption) | exact IArr.bd (by assumption)) (fun w45 y45 N45 => ?_)
 have zw45 := y45.size
 replace A2 := N45
 refine nl J44 (wp_ret ?_)
 refine ret (rs := [.cell 2 265]) (vs := [.agg _]) (v := (.agg _)) rfl ⟨⟨_, rfl, loadVar_agg V265 rfl C265 (by decide) (by rw [ints_length, A2.len]) A2.cells⟩, trivial⟩ rfl ?_
 replace hE := (((Ext.tr hE x2).trans x5.belo).trans x18.belo).trans y45.belo
 refine ⟨_, rfl, hE, ?_⟩
 rw [show t.toNat = 64 by omega, List.take_of_length_le (by omega)] at g2
 rw [g2]
theorem T210 : TI Tryz.prog 210 8 32 (ints .u32 (List.replicate 8 0)) := by
 have h : (Tryz.prog.info? 210).map (fun i => (i.size, i.bytes, i.zero)) = some (8, 32, some (.agg #[.int .u32 0, .int .u32 0, .int .u32 0, .int .u32 0, .int .u32 0, .int .u32 0, .int .u32 0, .int .u32 0])) := by kernel_rfl
 exact TI.of h rfl
theorem E221 : Enters Tryz.prog 221 := .mk Tryz.func221 (by kernel_rfl) rfl
theorem E222 : Enters Tryz.prog 222 := .mk Tryz.func222 (by kernel_rfl) rfl
theorem grind {S0 : Nat → Prop} (b : Nat) (h : List Int) (tl : List Value) (T TK : TypeId) (a : Option Addr) (n c : Nat) (bs : List Int) (w : World) (A0 : IArr .u32 w b 8 h tl T) (K0 : Kst w TK) (R0 : IRow .u8 S0 w a n bs) (hn : 64 ≤ n) (hc : n ≤ c) (hbk : b ≠ gK) :
  Calls Tryz.prog 208 #[.pointer (some ⟨b, 0, none⟩), .slice a n c] w (fun e w' => e = .returned (.tuple #[]) ∧ Pr (fun k => k = b) w w' ∧ IArr .u32 w' b 8 (S.grind h bs) tl T) := by
 have hlt := A0.lt
 have hhl := A0.len
 have hhb := A0.bd
 have hsa := S.sch_arr bs R0.bd
 have hKl := K0.lt
 have hE := Pr.refl (fun k => k = b) w
 refine enterU 124 Tryz.func208 rfl rfl ?_
 refine sq fun _ J1 => RS.mvS rfl ?_
 refine RS.call E221 (schedule (S0 := S0) _ _ _ _ _ R0 hn hc) rfl (fun v2 w2 x2 A2 => ?_)
 have zw2 := x2.size
 subst A2
 refine RS.nm ?_
 refine RS.alloc T265 (fun b3 w3 e3 s3 x3 B3 => ?_)
 refine RS.nm ?_
 have zw3 := x3.size
 have A3 : IArr .u32 w3 b3 64 (List.replicate 64 0) [] 265 := IArr.zero B3
 clear B3
 refine RS.storeArr A3 rfl rfl C265 (by decide) (by first | assumption | exact And.left (by assumption) | exact IArr.len (by assumption)) (by first | assumption | exact And.right (by assumption) | exact IArr.bd (by assumption)) (fun w4 y4 N4 => ?_)
 replace hE := (hE.ext x2).ext x3
 replace hE := hE.stno y4
 have zw4 := y4.size
 replace A3 := N4
 refine nl J1 (wx fun _ J5 => ?_)
 refine regionX Ext [(0, .q), (1, .q), (2, .q), (3, .q), (4, .q), (5, .q), (6, .q), (7, .q), (8, .q), (9, .q), (10, .q), (11, .q), (12, .q), (13, .q), (14, .q), (15, .q), (16, .q), (17, .q), (18, .q), (19, .q), (20, .q), (21, .q), (22, .q), (23, .q), (24, .q), (25, .q), (26, .q), (27, .q), (28, .q), (29, .q), (30, .q), (31, .q), (32, .q), (33, .q), (34, .q), (35, .q), (36, .q), (37, .q), (38, .q), (39, .q)] mixed Ext.refl (fun h k => h.tr k) (by kernel_rfl) (fun w6 x6 => ?_)
 have zw6 := x6.size
 refine RX.mvP rfl ?_
 refine RX.nilCheck rfl ?_
 replace A0 := (((A0.ext x2).ext x3).sto y4).ext x6
 refine RX.idxA (fun _ h => h) A0 rfl rfl V210 C45 (by decide) (fun v7 h7 q7 r7 => ?_)
 refine RX.nm ?_
 simp only [lim] at r7
 subst q7
 refine RX.o (fun w' hw => D.load rfl V45 rfl (h7 w' hw)) ?_
 refine RX.mvP rfl ?_
 refine RX.nilCheck rfl ?_
 refine RX.idxA (fun _ h => h) A0 rfl rfl V210 C45 (by decide) (fun v8 h8 q8 r8 => ?_)
 refine RX.nm ?_
 simp only [lim] at r8
 subst q8
 refine RX.o (fun w' hw => D.load rfl V45 rfl (h8 w' hw)) ?_
 refine RX.mvP rfl ?_
 refine RX.nilCheck rfl ?_
 refine RX.idxA (fun _ h => h) A0 rfl rfl V210 C45 (by decide) (fun v9 h9 q9 r9 => ?_)
 refine RX.nm ?_
 simp only [lim] at r9
 subst q9
 refine RX.o (fun w' hw => D.load rfl V45 rfl (h9 w' hw)) ?_
 refine RX.mvP rfl ?_
 refine RX.nilCheck rfl ?_
 refine RX.idxA (fun _ h => h) A0 rfl rfl V210 C45 (by decide) (fun v10 h10 q10 r10 => ?_)
 refine RX.nm ?_
 simp only [lim] at r10
 subst q10
 refine RX.o (fun w' hw => D.load rfl V45 rfl (h10 w' hw)) ?_
 refine RX.mvP rfl ?_
 refine RX.nilCheck rfl ?_
 refine RX.idxA (fun _ h => h) A0 rfl rfl V210 C45 (by decide) (fun v11 h11 q11 r11 => ?_)
 refine RX.nm ?_
 simp only [lim] at r11
 subst q11
 refine RX.o (fun w' hw => D.load rfl V45 rfl (h11 w' hw)) ?_
 refine RX.mvP rfl ?_
 refine RX.nilCheck rfl ?_
 refine RX.idxA (fun _ h => h) A0 rfl rfl V210 C45 (by decide) (fun v12 h12 q12 r12 => ?_)
 refine RX.nm ?_
 simp only [lim] at r12
 subst q12
 refine RX.o (fun w' hw => D.load rfl V45 rfl (h12 w' hw)) ?_
 refine RX.mvP rfl ?_
 refine RX.nilCheck rfl ?_
 refine RX.idxA (fun _ h => h) A0 rfl rfl V210 C45 (by decide) (fun v13 h13 q13 r13 => ?_)
 refine RX.nm ?_
 simp only [lim] at r13
 subst q13
 refine RX.o (fun w' hw => D.load rfl V45 rfl (h13 w' hw)) ?_
 refine RX.mvP rfl ?_
 refine RX.nilCheck rfl ?_
 refine RX.idxA (fun _ h => h) A0 rfl rfl V210 C45 (by decide) (fun v14 h14 q14 r14 => ?_)
 refine RX.nm ?_
 simp only [lim] at r14
 subst q14
 refine RX.o (fun w' hw => D.load rfl V45 rfl (h14 w' hw)) ?_
 refine RX.assign (v := .int _ _) rfl ?_
 refine RX.assign (v := .int _ _) rfl ?_
 refine RX.assign (v := .int _ _) rfl ?_
 refine RX.assign (v := .int _ _) rfl ?_
 refine RX.assign (v := .int _ _) rfl ?_
 refine RX.assign (v := .int _ _) rfl ?_
 refine RX.assign (v := .int _ _) rfl ?_
 refine RX.assign (v := .int _ _) rfl ?_
 refine RX.nil (J5 _ _ ?_)
 refine wx fun _ J15 => sq fun _ J16 => RS.mvI rfl (nl J16 (wp_block ?_))
 refine C.loop (A := Int × S.H8) (fun p => [(5, .int .u32 p.2.a), (6, .int .u32 p.2.b), (7, .int .u32 p.2.c), (8, .int .u32 p.2.d), (9, .int .u32 p.2.e), (10, .int .u32 p.2.f), (11, .int .u32 p.2.g), (12, .int .u32 p.2.h), (52, .int .i64 p.1)]) [13, 14, 15, 53, 54, 55, 56, 57, 58, 59, 60, 61, 62, 63, 64, 65, 66, 67, 68, 69, 70, 71, 72, 73, 74, 75, 76, 77, 78, 79, 80, 81, 82, 83, 84, 85, 86, 87, 88, 89, 90, 91, 92, 93, 94, 95, 96, 97, 98, 99, 100, 101, 102] (fun p w' => Ext w6 w' ∧ ((0 ≤ p.1 ∧ p.1 ≤ 64) ∧ p.2 = S.rounds (S.sch bs 48) (S.H8.of h) p.1.toNat)) (fun p => (64 - p.1.toNat)) (0, S.H8.of h) (by kernel_rfl) ?_ ?_
 ·exact ⟨Ext.refl _, ⟨by dsimp only; omega, by dsimp only; omega⟩, by show S.H8.of h = S.rounds _ _ (0 : Int).toNat; rw [show (0 : Int).toNat = 0 from rfl, S.rounds_zero]⟩
 rintro p j w17 ⟨x17, hI⟩
 have zw17 := x17.size
 obtain ⟨i, st⟩ := p
 dsimp only at hI
 obtain ⟨h1, h2⟩ := hI
 have hok : st.ok := by rw [h2]; exact S.rounds_ok _ _ (S.H8.of_ok _ hhb) _
 have hst := S.ok_arr st hok
 obtain ⟨o1, o2, o3, o4, o5, o6, o7, o8⟩ := hok
 simp only [S.W32] at o1 o2 o3 o4 o5 o6 o7 o8
 refine C.nmU ?_
 refine sq fun _ J18 => ?_
 refine RS.o (D.lt rfl rfl) ?_
 refine nl J18 (wx fun _ J19 => C.ifd rfl (fun c20 => ?_) (fun c20 => ?_))
 ·refine wp_skip (J19 _ _ (wx fun _ J21 => wp_block (sq fun _ J22 => RS.mvI rfl (RS.asI rfl (nl J22 (wx fun _ J23 => ?_))))))
  refine regionX Ext [(0, .q), (1, .q), (4, .q), (5, .q), (6, .q), (7, .q), (8, .q), (9, .q), (10, .q), (11, .q), (13, .q), (14, .q), (15, .q), (17, .q), (18, .q), (19, .q), (2, .e), (3, .q), (12, .q), (16, .q), (20, .q), (21, .q)] mixed Ext.refl (fun h k => h.tr k) (by kernel_rfl) (fun w24 x24 => ?_)
  replace K0 := ((((K0.ext x2).ext x3).sto y4).ext x6).ext x17
  replace hE := ((hE.ext x6).ext x17).ext x24
  replace A3 := (A3.ext x6).ext x17
  replace A0 := A0.ext x17
  replace x17 := Ext.tr x17 x24
  have zw24 := x24.size
  refine RX.mvI rfl (RX.mvI rfl (RX.mvI rfl (RX.mvI rfl ?_)))
  refine RX.ob (Ext.refl _) (fun w' hw => D.band_u32 rfl rfl (by omega) (by omega)) (fun z25 => ?_)
  refine RX.mvI rfl ?_
  refine RX.o (fun w' hw => D.inv rfl (by omega)) ?_
  refine RX.mvI rfl ?_
  refine RX.ob (Ext.refl _) (fun w' hw => D.band_u32 rfl rfl (by omega) (by omega)) (fun z26 => ?_)
  refine RX.ob (Ext.refl _) (fun w' hw => D.bxor_u32 rfl rfl (by omega) (by omega)) (fun z27 => ?_)
  refine RX.mvI rfl ?_
  replace K0 := K0.ext x24
  refine RX.idxK (fun _ h => h) K0 rfl rfl V265 C45 (by omega) (fun v28 h28 q28 r28 => ?_)
  refine RX.nm ?_
  simp only [lim] at r28
  have qk := q28
  refine RX.o (fun w' hw => D.load rfl V45 rfl (h28 w' hw)) ?_
  refine RX.mvI rfl ?_
  replace A3 := A3.ext x24
  refine RX.idxA (fun _ h => h) A3 rfl rfl V265 C45 (by omega) (fun v29 h29 q29 r29 => ?_)
  refine RX.nm ?_
  simp only [lim] at r29
  have qw := q29
  refine RX.o (fun w' hw => D.load rfl V45 rfl (h29 w' hw)) ?_
  refine RX.eff ?_
  refine RS.call E222 (mix st.e (by omega) _ (by omega) _ (by omega) _ (by omega) _) rfl (fun v30 w30 x30 A30 => ?_)
  replace x17 := Ext.tr x17 x30
  have zw30 := x30.size
  subst A30
  have g30 := S.mix_bd st.e 6 11 25 (by omega)
  refine RS.nm ?_
  refine RS.nil ⟨x30, ?_⟩
  refine RX.o (fun w' hw => D.add rfl rfl (W.u32m _)) ?_
  refine RX.o (fun w' hw => D.add rfl rfl (W.u32m _)) ?_
  refine RX.o (fun w' hw => D.add rfl rfl (W.u32m _)) ?_
  refine RX.o (fun w' hw => D.add rfl rfl (W.u32m _)) ?_
  refine RX.assign (v := .int _ _) rfl ?_
  refine RX.nil (J23 _ _ ?_)
  refine sq fun _ J31 => RS.mvI rfl ?_
  refine RS.call E222 (mix st.a (by omega) _ (by omega) _ (by omega) _ (by omega) _) rfl (fun v32 w32 x32 A32 => ?_)
  replace x17 := Ext.tr x17 x32
  have zw32 := x32.size
  subst A32
  have g32 := S.mix_bd st.a 2 13 22 (by omega)
  refine RS.nm ?_
  refine RS.mvI rfl (RS.mvI rfl ?_)
  refine RS.ob (D.band_u32 rfl rfl (by omega) (by omega)) (fun z33 => ?_)
  refine RS.mvI rfl (RS.mvI rfl ?_)
  refine RS.ob (D.band_u32 rfl rfl (by omega) (by omega)) (fun z34 => ?_)
  refine RS.ob (D.bxor_u32 rfl rfl (by omega) (by omega)) (fun z35 => ?_)
  refine RS.mvI rfl (RS.mvI rfl ?_)
  refine RS.ob (D.band_u32 rfl rfl (by omega) (by omega)) (fun z36 => ?_)
  refine RS.ob (D.bxor_u32 rfl rfl (by omega) (by omega)) (fun z37 => ?_)
  refine RS.o (D.add rfl rfl (W.u32m _)) ?_
  refine RS.asI rfl (nl J31 (region (RS.mvI rfl (RS.mvI rfl ?_))))
  refine RS.o (D.add rfl rfl (W.u32m _)) ?_
  refine RS.mvI rfl (RS.mvI rfl (RS.mvI rfl (RS.mvI rfl (RS.mvI rfl ?_))))
  refine RS.o (D.add rfl rfl (W.u32m _)) ?_
  refine RS.mvI rfl (RS.mvI rfl (RS.mvI rfl (RS.asI rfl (RS.asI rfl (RS.asI rfl (RS.asI rfl (RS.asI rfl (RS.asI rfl (RS.asI rfl (RS.asI rfl (nl J21 (region ?_))))))))))))
  refine RS.o (D.add rfl rfl (W.i64 (by omega))) ?_
  refine RS.mvI rfl (RS.nil ?_)
  change Nx _ _ _ _ _ _ _ _
  refine C.next (i + 1, S.rnd v28 v29 st) ⟨rfl, rfl, rfl, rfl, rfl, rfl, rfl, rfl, rfl, trivial⟩ (by kernel_rfl) ?_ ?_
  ·refine ⟨x17, ⟨by dsimp only; omega, by dsimp only; omega⟩, ?_⟩
   dsimp only
   rw [show (i + 1).toNat = i.toNat + 1 by omega, S.rounds_succ, ← h2, qk, qw]
  dsimp only; omega
 refine wp_exit (J15 _ _ (sq fun _ J38 => RS.mvI rfl (RS.mvI rfl (RS.mvI rfl (RS.mvI rfl (RS.mvI rfl (RS.mvI rfl (RS.mvI rfl (RS.mvI rfl ?_)))))))))
 refine RS.o (D.buildArr (xs := [.tmp 103, .tmp 104, .tmp 105, .tmp 106, .tmp 107, .tmp 108, .tmp 109, .tmp 110]) (vs := ints .u32 [_, _, _, _, _, _, _, _]) V210 T210 (by simp [ints]) C45 rfl rfl rfl (by intro v hv; obtain ⟨x, _, rfl⟩ := List.mem_map.1 hv; rfl)) ?_
 refine RS.mvI rfl (nl J38 (wp_block ?_))
 replace A0 := A0.ext x17
 refine C.loop (A := Int × List Int) (fun p => [(112, .int .i64 p.1)]) [16, 17, 113, 114, 115, 116, 117, 118, 119, 120, 121, 122, 123, 124, 125] (fun p w' => Pr (fun k => k = b) w17 w' ∧ (IArr .u32 w' b 8 p.2 tl T ∧ (0 ≤ p.1 ∧ p.1 ≤ 8) ∧ p.2 = (S.addW h st.toL).take p.1.toNat ++ h.drop p.1.toNat)) (fun p => (8 - p.1.toNat)) (0, h) (by kernel_rfl) ?_ ?_
 ·exact ⟨Pr.refl _ _, A0, ⟨by dsimp only; omega, by dsimp only; omega⟩, rfl⟩
 rintro p j w39 ⟨x39, hI⟩
 replace hE := (hE.ext x6).ext x17
 replace hE := hE.prno x39
 have zw39 := x39.size
 obtain ⟨j, xs⟩ := p
 dsimp only at hI
 obtain ⟨A0, g1, g2⟩ := hI
 have hxl := A0.len
 refine C.nmU ?_
 refine sq fun _ J40 => ?_
 refine RS.o (D.lt rfl rfl) ?_
 refine nl J40 (wx fun _ J41 => C.ifd rfl (fun c42 => ?_) (fun c42 => ?_))
 ·refine wp_skip (J41 _ _ (wx fun _ J43 => wp_block (sq fun _ J44 => RS.mvI rfl ?_)))
  refine RS.idxV rfl rfl V210 V45 rfl C45 (by omega) hst.1 hst.2 (fun v45 q45 r45 => ?_)
  refine RS.nm ?_
  simp only [lim] at r45
  have qy := q45
  refine RS.asI rfl (RS.asI rfl (nl J44 ?_))
  refine regionX Ext [(0, .q), (1, .q), (2, .q), (3, .q), (4, .q), (5, .q), (6, .q), (7, .q), (8, .q), (9, .g)] mixed Ext.refl (fun h k => h.tr k) (by kernel_rfl) (fun w46 x46 => ?_)
  replace K0 := (((((K0.ext x2).ext x3).sto y4).ext x6).ext x17).pro x39
  replace A3 := ((A3.ext x6).ext x17).pro x39
  have zw46 := x46.size
  refine RX.mvP rfl (RX.mvI rfl ?_)
  refine RX.nilCheck rfl ?_
  replace A0 := A0.ext x46
  refine RX.idxA (fun _ h => h) A0 rfl rfl V210 C45 (by omega) (fun v47 h47 q47 r47 => ?_)
  refine RX.nm ?_
  simp only [lim] at r47
  have qz := q47
  refine RX.o (fun w' hw => D.load rfl V45 rfl (h47 w' hw)) ?_
  refine RX.mvI rfl ?_
  refine RX.o (fun w' hw => D.add rfl rfl (W.u32m _)) ?_
  refine RX.nilCheck rfl ?_
  refine RX.idxA (fun _ h => h) A0 rfl rfl V210 C45 (by omega) (fun v48 h48 q48 r48 => ?_)
  refine RX.nm ?_
  simp only [lim] at r48
  refine RX.big ?_
  refine RS.storeA A0 rfl rfl C45 (by omega) (by simp only [lim]; omega) (fun w49 y49 N49 => ?_)
  replace hE := hE.ext x46
  replace hE := hE.stno y49
  replace x39 := x39.ext x46
  replace x39 := x39.stno y49
  have zw49 := y49.size
  replace A0 := N49
  refine RS.nil ?_
  refine RX.nil (J43 _ _ ?_)
  refine region ?_
  refine RS.o (D.add rfl rfl (W.i64 (by omega))) ?_
  refine RS.mvI rfl (RS.nil ?_)
  change Nx _ _ _ _ _ _ _ _
  refine C.next (j + 1, xs.set j.toNat ((v47 + v45) % 4294967296)) ⟨rfl, trivial⟩ (by kernel_rfl) ?_ ?_
  ·refine ⟨x39, A0, ⟨by dsimp only; omega, by dsimp only; omega⟩, ?_⟩
   dsimp only
   have e := S.add_step h st.toL xs j (by omega) hxl g2 hhl
   rw [qz, qy]
   exact e
  dsimp only; omega
 refine wp_exit ?_
 change bodyPost Tryz.prog Tryz.f208 (fun e w' => e = .returned (.tuple #[]) ∧ Pr (fun k => k = b) w w' ∧ IArr .u32 w' b 8 (S.grind h bs) tl T) .normal _ _
 refine retN (rs := []) (vs := []) rfl trivial rfl ?_
 refine ⟨rfl, hE, ?_⟩
 have e9 : xs = S.grind h bs := by rw [g2, show j.toNat = 8 by omega, List.take_of_length_le (by rw [S.addW_len]; omega), List.drop_eq_nil_of_le (by omega), List.append_nil, S.grind_eq, show (64 : Nat) = i.toNat by omega, ← h2]
 rw [← e9]
 exact A0
theorem C3 : Tryz.prog.cellsOf 3 = 1 := by kernel_rfl
theorem C27 : Tryz.prog.cellsOf 27 = 32 := by kernel_rfl
theorem C115 : Tryz.prog.cellsOf 115 = 1 := by kernel_rfl
theorem C210 : Tryz.prog.cellsOf 210 = 8 := by kernel_rfl
theorem C231 : Tryz.prog.cellsOf 231 = 10 := by kernel_rfl
theorem T5 : TI Tryz.prog 5 1 1 [.int .u8 0] := by
 have h : (Tryz.prog.info? 5).map (fun i => (i.size, i.bytes, i.zero)) = some (1, 1, some (.int .u8 0)) := by kernel_rfl
 exact TI.of h rfl
theorem T27 : TI Tryz.prog 27 32 32 (ints .u8 (List.replicate 32 0)) := by
 have h : (Tryz.prog.info? 27).map (fun i => (i.size, i.bytes, i.zero)) = some (32, 32, some (.agg #[.int .u8 0, .int .u8 0, .int .u8 0, .int .u8 0, .int .u8 0, .int .u8 0, .int .u8 0, .int .u8 0, .int .u8 0, .int .u8 0, .int .u8 0, .int .u8 0, .int .u8 0, .int .u8 0, .int .u8 0, .int .u8 0, .int .u8 0, .int .u8 0, .int .u8 0, .int .u8 0, .int .u8 0, .int .u8 0, .int .u8 0, .int .u8 0, .int .u8 0, .int .u8 0, .int .u8 0, .int .u8 0, .int .u8 0, .int .u8 0, .int .u8 0, .int .u8 0])) := by kernel_rfl
 exact TI.of h rfl
theorem T115 : TI Tryz.prog 115 1 24 [.slice none 0 0] := by
 have h : (Tryz.prog.info? 115).map (fun i => (i.size, i.bytes, i.zero)) = some (1, 24, some (.slice none 0 0)) := by kernel_rfl
 exact TI.of h rfl
theorem T231 : TI Tryz.prog 231 10 64 (ints .u32 (List.replicate 8 0) ++ [.slice none 0 0, .int .i64 0]) := by
 have h : (Tryz.prog.info? 231).map (fun i => (i.size, i.bytes, i.zero)) = some (10, 64, some (.agg #[.int .u32 0, .int .u32 0, .int .u32 0, .int .u32 0, .int .u32 0, .int .u32 0, .int .u32 0, .int .u32 0, .slice none 0 0, .int .i64 0])) := by kernel_rfl
 exact TI.of h rfl
theorem F231 : SI Tryz.prog 231 [(0, 8), (8, 1), (9, 1)] := ⟨_, V231, by kernel_rfl, by kernel_rfl⟩
theorem E143 : Enters Tryz.prog 143 := .mk Tryz.func143 (by kernel_rfl) rfl
theorem E171 : Enters Tryz.prog 171 := .mk Tryz.func171 (by kernel_rfl) rfl
theorem E178 : Enters Tryz.prog 178 := .mk Tryz.func178 (by kernel_rfl) rfl
theorem E180 : Enters Tryz.prog 180 := .mk Tryz.func180 (by kernel_rfl) rfl
theorem E207 : Enters Tryz.prog 207 := .mk Tryz.func207 (by kernel_rfl) rfl
theorem E208 : Enters Tryz.prog 208 := .mk Tryz.func208 (by kernel_rfl) rfl
theorem E209 : Enters Tryz.prog 209 := .mk Tryz.func209 (by kernel_rfl) rfl
theorem start  (w : World) :
  Calls Tryz.prog 179 #[] w (Ret w fun v _ => v = .agg (ints .u32 S.IV ++ ([.slice none 0 0, .int .i64 0] : List Value)).toArray) := by
 have hIV := S.IV_arr
 have hE := Ext.refl w
 refine enterU 3 Tryz.func179 rfl rfl ?_
 refine sq fun _ J1 => ?_
 refine RS.alloc T231 (fun b2 w2 e2 s2 x2 B2 => ?_)
 refine RS.nm ?_
 have zw2 := x2.size
 have A2 : IArr .u32 w2 b2 8 (List.replicate 8 0) [.slice none 0 0, .int .i64 0] 231 := ⟨B2, by simp, Bd.zeros _ _⟩
 clear B2
 refine nl J1 (sq fun _ J3 => ?_)
 refine RS.o (D.buildArr (xs := [.const (.int .u32 1779033703), .const (.int .u32 3144134277), .const (.int .u32 1013904242), .const (.int .u32 2773480762), .const (.int .u32 1359893119), .const (.int .u32 2600822924), .const (.int .u32 528734635), .const (.int .u32 1541459225)]) (vs := ints .u32 [_, _, _, _, _, _, _, _]) V210 T210 (by simp [ints]) C45 rfl rfl rfl (by intro v hv; obtain ⟨x, _, rfl⟩ := List.mem_map.1 hv; rfl)) ?_
 refine RS.o (D.buildS T231 F231 (ps := [(0, .agg _)]) rfl (show G.fillL _ _ _ = some (ints .u32 S.IV ++ ([.slice none 0 0, .int .i64 0] : List Value)) from rfl)) ?_
 refine RS.storeRec A2 rfl rfl C231 (by decide) (by assumption) rfl rfl (by intro v hv; simp at hv; rcases hv with rfl | rfl <;> rfl) (fun w4 y4 N4 => ?_)
 have zw4 := y4.size
 replace A2 := N4
 refine nl J3 (wp_ret ?_)
 refine ret (rs := [.cell 0 231]) (vs := [.agg _]) (v := (.agg _)) rfl ⟨⟨_, rfl, loadVar_agg V231 rfl C231 (by decide) (A2.allLen rfl) A2.all⟩, trivial⟩ rfl ?_
 replace hE := (Ext.tr hE x2).trans y4.belo
 exact ⟨_, rfl, hE, rfl⟩
theorem first  (w : World) :
  Calls Tryz.prog 162 #[] w (Ret w fun v _ => v = .agg (ints .u32 S.IV).toArray) := by
 have hE := Ext.refl w
 refine enterU 2 Tryz.func162 rfl rfl ?_
 refine sq fun _ J1 => ?_
 refine RS.alloc T210 (fun b2 w2 e2 s2 x2 B2 => ?_)
 refine RS.nm ?_
 have zw2 := x2.size
 have A2 : IArr .u32 w2 b2 8 (List.replicate 8 0) [] 210 := IArr.zero B2
 clear B2
 refine nl J1 (sq fun _ J3 => ?_)
 refine RS.o (D.buildArr (xs := [.const (.int .u32 1779033703), .const (.int .u32 3144134277), .const (.int .u32 1013904242), .const (.int .u32 2773480762), .const (.int .u32 1359893119), .const (.int .u32 2600822924), .const (.int .u32 528734635), .const (.int .u32 1541459225)]) (vs := ints .u32 [_, _, _, _, _, _, _, _]) V210 T210 (by simp [ints]) C45 rfl rfl rfl (by intro v hv; obtain ⟨x, _, rfl⟩ := List.mem_map.1 hv; rfl)) ?_
 refine RS.storeArr A2 rfl rfl C210 (by decide) S.IV_arr.1 S.IV_arr.2 (fun w4 y4 N4 => ?_)
 have zw4 := y4.size
 replace A2 := N4
 refine nl J3 (wp_ret ?_)
 refine ret (rs := [.cell 0 210]) (vs := [.agg _]) (v := (.agg _)) rfl ⟨⟨_, rfl, loadVar_agg V210 rfl C210 (by decide) (by rw [ints_length, A2.len]) A2.cells⟩, trivial⟩ rfl ?_
 replace hE := (Ext.tr hE x2).trans y4.belo
 exact ⟨_, rfl, hE, rfl⟩
theorem piece1 (a : Option Addr) (n c : Nat) (hn : n ≤ 10000) (w : World) :
  Calls Tryz.prog 178 #[.slice a n c] w (Ret w fun v _ => v = .bool false) := by
 have hE := Ext.refl w
 refine enterU 5 Tryz.func178 rfl rfl ?_
 refine sq fun _ J1 => RS.asB rfl ?_
 refine nl J1 (sq fun _ J2 => ?_)
 refine RS.mvS rfl ?_
 refine RS.ln V115 ?_
 refine RS.o (D.gt rfl rfl) ?_
 refine RS.asB rfl (nl J2 (wp_ret ?_))
 refine retB rfl rfl ?_
 refine ⟨_, rfl, hE, ?_⟩
 exact congrArg Value.bool (decide_eq_false (by omega))
theorem cloneB {S0 : Nat → Prop} (a : Option Addr) (n c : Nat) (xs : List Int) (w : World) (R0 : IRow .u8 S0 w a n xs) (hn : n ≤ 1000000) :
  Calls Tryz.prog 209 #[.slice a n c] w (Ret w fun v w' => ∃ a' n' c', v = .slice a' n' c' ∧ IOwn w.heap.size w' 5 .u8 a' n' c' xs) := by
 replace R0 := R0.weaken (T := fun k => k < w.heap.size) (fun k hk _ => hk)
 have hE := Ext.refl w
 refine enterU 7 Tryz.func209 rfl rfl ?_
 refine sq fun _ J1 => RS.asS rfl (nl J1 (wx fun _ J2 => sq fun _ J3 => RS.mvS rfl ?_))
 refine RS.o (D.nilS rfl rfl V115) ?_
 refine nl J3 ?_
 refine C.ifb rfl (fun c4 => ?_) (fun c4 => ?_)
 ·have hc := c4
  refine sq fun _ J5 => RS.asS rfl (nl J5 (wp_ret ?_))
  refine retS ?_
  obtain ⟨rfl, rfl⟩ := R0.none hc
  exact ⟨_, rfl, hE, _, _, _, rfl, IOwn.nil _ _ _ _⟩
 refine wp_skip (J2 _ _ (sq fun _ J6 => ?_))
 refine RS.buildNone V115 T5 (fun b7 w7 e7 s7 x7 B7 => ?_)
 refine RS.nm ?_
 have zw7 := x7.size
 have O1 : IOwn w.heap.size w7 5 .u8 (some ⟨b7, 0, none⟩) 0 0 [] := IOwn.of_blk B7 rfl rfl (by omega) (Bd.nil _) (by decide)
 refine RS.mvS rfl ?_
 replace R0 := R0.ext x7
 refine RS.appendI O1 R0 rfl rfl V115 T5 rfl (by omega) (by decide) (by omega) (fun a8 c8 w8 N8 x8 => ?_)
 refine RS.nm ?_
 replace hE := Ext.tr hE x7
 replace hE := hE.trans (x8.belQ (fun _ h => (O1.lo _ h).1))
 replace R0 := R0.prQ x8 (fun _ h => (O1.lo _ h).1)
 have zw8 := x8.size
 replace O1 := N8
 refine RS.asS rfl (nl J6 (wp_ret ?_))
 refine retS ?_
 exact ⟨_, rfl, hE, _, _, _, rfl, O1⟩
theorem grow (m : Int) (hm : 0 ≤ m ∧ m ≤ 1000000) (w : World) :
  Calls Tryz.prog 171 #[.slice none 0 0, .int .i64 m] w (Ret w fun v w' => ∃ a' c', v = .slice a' 0 c' ∧ IOwn w.heap.size w' 5 .u8 a' 0 c' []) := by
 have O1 := IOwn.nil w.heap.size w 5 .u8
 have hE := Ext.refl w
 refine enterU 25 Tryz.func171 rfl rfl ?_
 refine sq fun _ J1 => RS.asS rfl (nl J1 (wx fun _ J2 => sq fun _ J3 => RS.mvI rfl ?_))
 refine RS.o (D.lt rfl rfl) ?_
 refine nl J3 (C.ifd rfl (fun c4 => ?_) (fun c4 => ?_))
 ·exact absurd c4 (by omega)
 refine wp_skip (J2 _ _ (wx fun _ J5 => sq fun _ J6 => RS.mvI rfl (RS.mvS rfl ?_)))
 refine RS.o (D.cap rfl V115) ?_
 refine RS.mvS rfl ?_
 refine RS.ln V115 ?_
 refine RS.o (D.sub rfl rfl (W.i64 (by omega))) ?_
 refine RS.o (D.sub rfl rfl (W.i64 (by omega))) ?_
 refine RS.asI rfl ?_
 refine nl J6 (sq fun _ J7 => ?_)
 refine RS.mvI rfl ?_
 refine RS.o (D.gt rfl rfl) ?_
 refine nl J7 (C.ifd rfl (fun c8 => ?_) (fun c8 => ?_))
 ·refine region (RS.mvS rfl (RS.mvS rfl ?_))
  refine RS.o (D.cap rfl V115) ?_
  refine RS.o (D.slice (kl := .i64) (kh := .i64) rfl V115 C5 (by decide) rfl rfl (by omega) (by omega)) ?_
  refine RS.mvI rfl ?_
  refine RS.appendZ O1 rfl rfl (by omega) V115 V3 T5 (by omega) (by decide) (by omega) (fun a9 c9 w9 N9 x9 => ?_)
  refine RS.nm ?_
  replace hE := hE.trans (x9.belQ (fun _ h => (O1.lo _ h).1))
  have zw9 := x9.size
  replace O1 := N9
  refine RS.nm ?_
  have hcap := O1.own.cap
  refine RS.mvS rfl ?_
  refine RS.ln V115 ?_
  refine RS.o (D.slice (kl := .i64) (kh := .i64) rfl V115 C5 (by decide) rfl rfl (by omega) (by omega)) ?_
  refine RS.asS rfl ?_
  refine nl J5 (sq fun _ J10 => ?_)
  refine RS.mvS rfl (RS.asS rfl (nl J10 (wp_ret ?_)))
  refine retS ?_
  refine ⟨_, rfl, hE, _, _, ?_, O1.pre (Nat.zero_le _)⟩
  refine Eq.trans (congrArg (fun a => Value.slice a 0 _) (subA_zero _ _ _)) ?_
  rfl
 refine wp_skip (J5 _ _ (sq fun _ J11 => RS.mvS rfl (RS.asS rfl (nl J11 (wp_ret ?_)))))
 refine retS ?_
 exact ⟨_, rfl, hE, _, _, rfl, O1⟩
theorem concat {S0 : Nat → Prop} (ps : List Pc) (a : Option Addr) (n c : Nat) (w : World) (P0 : PRow .u8 S0 w a n ps) (hn : n ≤ 1000) (hT : (cat ps).length ≤ 1000000) :
  Calls Tryz.prog 143 #[.slice a n c] w (Ret w fun v w' => ∃ a' n' c', v = .slice a' n' c' ∧ IOwn w.heap.size w' 5 .u8 a' n' c' (cat ps)) := by
 replace P0 := P0.weaken (T := fun k => k < w.heap.size) (fun k hk _ => hk)
 have hPl := P0.len
 have hE := Ext.refl w
 refine enterU 35 Tryz.func143 rfl rfl ?_
 refine sq fun _ J1 => RS.asS rfl ?_
 refine nl J1 (sq fun _ J2 => ?_)
 refine RS.asI rfl (nl J2 (wx fun _ J3 => sq fun _ J4 => RS.mvS rfl ?_))
 refine RS.ln V206 ?_
 refine RS.mvI rfl (nl J4 (wp_block ?_))
 refine C.loop (A := Int × Int) (fun p => [(3, .int .i64 p.2), (11, .int .i64 p.1)]) [5, 12, 13, 14, 15, 16, 17, 18, 19, 20, 21, 22] (fun p w' => Ext w w' ∧ ((0 ≤ p.1 ∧ p.1 ≤ n) ∧ p.2 = ((cat (ps.take p.1.toNat)).length : Int))) (fun p => (n - p.1.toNat)) (0, 0) (by kernel_rfl) ?_ ?_
 ·exact ⟨Ext.refl _, ⟨by decide, by dsimp only; omega⟩, rfl⟩
 rintro p j w5 ⟨x5, hI⟩
 have zw5 := x5.size
 obtain ⟨i, s⟩ := p
 dsimp only at hI
 obtain ⟨h1, h2⟩ := hI
 have h3 := cat_le ps i.toNat
 refine C.nmU ?_
 refine sq fun _ J6 => ?_
 refine RS.o (D.lt rfl rfl) ?_
 refine nl J6 (wx fun _ J7 => ?_)
 replace P0 := P0.ext x5
 refine C.ifd rfl (fun c8 => ?_) (fun c8 => ?_)
 ·refine wp_skip (J7 _ _ (wx fun _ J9 => wp_block (sq fun _ J10 => ?_)))
  refine RS.idxP P0 rfl rfl V206 C115 (by omega) (fun b11 o11 p11 h11 q11 F11 G11 => ?_)
  refine RS.nm ?_
  have k1 := cat_snoc ps i.toNat (by omega)
  rw [← q11] at k1
  have k2 := cat_le ps (i.toNat + 1)
  have k3 := congrArg List.length k1
  rw [List.length_append, F11.len] at k3
  refine RS.o (D.load rfl V115 rfl (h11)) ?_
  refine RS.asS rfl ?_
  refine nl J10 (sq fun _ J12 => ?_)
  refine RS.mvI rfl (RS.mvS rfl ?_)
  refine RS.ln V115 ?_
  refine RS.o (D.add rfl rfl (W.i64 (by omega))) ?_
  refine RS.asI rfl ?_
  refine nl J12 (sq fun _ J13 => ?_)
  refine RS.mvI rfl ?_
  refine RS.o (D.lt rfl rfl) ?_
  refine nl J13 (C.ifd rfl (fun c14 => ?_) (fun c14 => ?_))
  ·exact absurd c14 (by omega)
  refine wp_skip (J9 _ _ (region ?_))
  refine RS.o (D.add rfl rfl (W.i64 (by omega))) ?_
  refine RS.mvI rfl (RS.nil ?_)
  change Nx _ _ _ _ _ _ _ _
  refine C.next (_, _) ⟨rfl, rfl, trivial⟩ (by kernel_rfl) ?_ ?_
  ·refine ⟨x5, ⟨by dsimp only; omega, by dsimp only; omega⟩, ?_⟩
   dsimp only
   rw [show (i + 1).toNat = i.toNat + 1 by omega]
   omega
  dsimp only; omega
 have e0 : ps.take i.toNat = ps := List.take_of_length_le (by omega)
 rw [e0] at h2
 refine wp_exit (J3 _ _ (sq fun _ J15 => RS.mvI rfl ?_))
 refine RS.call E171 (grow _ (by omega) _) rfl (fun v16 w16 x16 A16 => ?_)
 have zw16 := x16.size
 obtain ⟨a16, c16, rfl, O1⟩ := A16
 replace O1 := O1.base (lo' := w.heap.size) (fun k hk => by have := O1.lo k hk; omega)
 refine RS.nm ?_
 refine RS.asS rfl (nl J15 (wx fun _ J17 => sq fun _ J18 => RS.mvS rfl ?_))
 refine RS.ln V206 ?_
 refine RS.mvI rfl (nl J18 (wp_block ?_))
 refine C.loop (A := Int × Option Addr × Nat × Nat) (fun p => [(6, .slice p.2.1 p.2.2.1 p.2.2.2), (27, .int .i64 p.1)]) [8, 28, 29, 30, 31, 32, 33, 34] (fun p w' => Pr (fun k => w.heap.size ≤ k) w16 w' ∧ ((0 ≤ p.1 ∧ p.1 ≤ n) ∧ IOwn w.heap.size w' 5 .u8 p.2.1 p.2.2.1 p.2.2.2 (cat (ps.take p.1.toNat)))) (fun p => (n - p.1.toNat)) (0, a16, 0, c16) (by kernel_rfl) ?_ ?_
 ·exact ⟨Pr.refl _ _, ⟨by dsimp only; omega, by dsimp only; omega⟩, O1⟩
 rintro p j w19 ⟨x19, hI⟩
 have zw19 := x19.size
 obtain ⟨j, a1, n1, c1⟩ := p
 dsimp only at hI
 obtain ⟨g1, O1⟩ := hI
 refine C.nmU ?_
 refine sq fun _ J20 => ?_
 refine RS.o (D.lt rfl rfl) ?_
 refine nl J20 (wx fun _ J21 => ?_)
 replace hE := (Ext.tr (Ext.tr hE x5) x16).trans x19.belo
 refine C.ifd rfl (fun c22 => ?_) (fun c22 => ?_)
 ·refine wp_skip (J21 _ _ (wx fun _ J23 => wp_block (sq fun _ J24 => ?_)))
  replace P0 := (P0.ext x16).pro x19
  refine RS.idxP P0 rfl rfl V206 C115 (by omega) (fun b25 o25 p25 h25 q25 F25 G25 => ?_)
  refine RS.nm ?_
  have m1 := cat_snoc ps j.toNat (by omega)
  rw [← q25] at m1
  have m2 := cat_le ps (j.toNat + 1)
  have m3 := congrArg List.length m1
  rw [List.length_append, F25.len] at m3
  have hol := O1.len
  refine RS.o (D.load rfl V115 rfl (h25)) ?_
  refine RS.asS rfl (nl J24 (region (RS.mvS rfl (RS.mvS rfl ?_))))
  refine RS.appendI O1 F25 rfl rfl V115 T5 rfl (by omega) (by decide) (by omega) (fun a26 c26 w26 N26 x26 => ?_)
  refine RS.nm ?_
  replace hE := hE.trans (x26.belQ (fun _ h => (O1.lo _ h).1))
  replace x19 := x19.prnQ x26 (fun _ h => (O1.lo _ h).1)
  replace P0 := P0.pr x26 (by intros; try (first | (intro _ _) | (intro _) | skip); first | omega | (have hq := O1.lo _ (by assumption); first | omega | (dsimp only at *; omega)))
  replace F25 := F25.prQ x26 (fun _ h => (O1.lo _ h).1)
  have zw26 := x26.size
  replace O1 := N26
  refine RS.asS rfl (nl J23 (region ?_))
  refine RS.o (D.add rfl rfl (W.i64 (by omega))) ?_
  refine RS.mvI rfl (RS.nil ?_)
  change Nx _ _ _ _ _ _ _ _
  refine C.next (_, _, _, _) ⟨rfl, rfl, trivial⟩ (by kernel_rfl) ?_ ?_
  ·refine ⟨x19, ⟨by dsimp only; omega, by dsimp only; omega⟩, ?_⟩
   dsimp only
   rw [show (j + 1).toNat = j.toNat + 1 by omega, m1]
   exact O1
  dsimp only; omega
 refine wp_exit (J17 _ _ (sq fun _ J27 => RS.mvS rfl (RS.asS rfl (nl J27 (wp_ret ?_)))))
 refine retS ?_
 have e1 : ps.take j.toNat = ps := List.take_of_length_le (by omega)
 rw [e1] at O1
 exact ⟨_, rfl, hE, _, _, _, rfl, O1⟩
theorem feed {S0 S1 : Nat → Prop} (h : List Int) (a : Option Addr) (n c : Nat) (xs : List Int) (N : Int) (a2 : Option Addr) (n2 c2 : Nat) (ys : List Int) (TK : TypeId) (w : World) (H : Arr .u32 8 h) (K0 : Kst w TK) (R0 : IRow .u8 S0 w a n xs) (R1 : IRow .u8 S1 w a2 n2 ys) (hc : n ≤ c) (hc2 : n2 ≤ c2) (hN : 0 ≤ N ∧ N ≤ 1000000) (hn : n + n2 ≤ 1000000) :
  Calls Tryz.prog 180 #[.agg (ints .u32 h ++ ([.slice a n c, .int .i64 N] : List Value)).toArray, .slice a2 n2 c2] w (Ret w fun v w' => ∃ a' n' c', v = .agg (ints .u32 (S.blocksS h (xs ++ ys)) ++ ([.slice a' n' c', .int .i64 (N + n2)] : List Value)).toArray ∧ IOwn w.heap.size w' 5 .u8 a' n' c' (S.restS (xs ++ ys))) := by
 replace R0 := R0.weaken (T := fun k => k < w.heap.size) (fun k hk _ => hk)
 replace R1 := R1.weaken (T := fun k => k < w.heap.size) (fun k hk _ => hk)
 have hKl := K0.lt
 have hl0 := R0.len
 have hl1 := R1.len
 have hE := Ext.refl w
 refine enterU 27 Tryz.func180 rfl rfl ?_
 refine sq fun _ J1 => ?_
 refine RS.box rfl rfl (fun b2 w2 e2 s2 x2 B2 => ?_)
 refine RS.nm ?_
 have zw2 := x2.size
 have A2 := IArr.ofT (n := 8) B2 H
 clear B2
 refine RS.alloc T231 (fun b3 w3 e3 s3 x3 B3 => ?_)
 refine RS.nm ?_
 have zw3 := x3.size
 have A3 : IArr .u32 w3 b3 8 (List.replicate 8 0) [.slice none 0 0, .int .i64 0] 231 := ⟨B3, by simp, Bd.zeros _ _⟩
 clear B3
 refine nl J1 (sq fun _ J4 => ?_)
 refine RS.fl 8 V231 rfl C115 ?_
 replace A2 := A2.ext x3
 refine RS.o (D.load rfl V115 rfl (A2.tail 0 rfl)) ?_
 refine RS.mvS rfl ?_
 refine RS.buildSlice (xs := [.tmp 7, .tmp 8]) (vs := [.slice _ _ _, .slice _ _ _]) (cs := [.slice _ _ _, .slice _ _ _]) V206 T115 (by decide) rfl rfl rfl rfl rfl rfl (by intro v hv; simp only [List.mem_cons, List.not_mem_nil, or_false] at hv; rcases hv with rfl | rfl <;> rfl) rfl (fun b5 w5 e5 s5 x5 B5 => ?_)
 refine RS.nm ?_
 have zw5 := x5.size
 replace R0 := ((R0.ext x2).ext x3).ext x5
 replace R1 := ((R1.ext x2).ext x3).ext x5
 refine RS.call E143 (concat [⟨a, n, c, xs⟩, ⟨a2, n2, c2, ys⟩] _ _ _ _ (PRow.of_blkE B5 rfl rfl ⟨⟨_, R0, hc⟩, ⟨_, R1, hc2⟩, trivial⟩) (show (2 : Nat) ≤ 1000 by decide) (by simp [cat]; omega)) rfl (fun v6 w6 x6 A6 => ?_)
 have zw6 := x6.size
 obtain ⟨a6, n6, c6, rfl, O1⟩ := A6
 have ecat : cat [⟨a, n, c, xs⟩, ⟨a2, n2, c2, ys⟩] = xs ++ ys := by simp [cat]
 rw [ecat] at O1
 have hol := O1.len
 rw [List.length_append] at hol
 have hoc := O1.own.cap
 have R2 := O1.row.weaken (T := fun k => b3 < k) (fun k _ hk => by omega)
 refine RS.nm ?_
 refine RS.asS rfl (nl J4 (wx fun _ J7 => wp_block ?_))
 replace A2 := (A2.ext x5).ext x6
 refine C.loop (A := List Int × Option Addr × Nat × Nat × List Int) (fun p => [(5, .slice p.2.1 p.2.2.1 p.2.2.2.1)]) [11, 12, 13, 14, 15, 16, 17, 18] (fun p w' => Pr (fun k => k = b2) w6 w' ∧ (IArr .u32 w' b2 8 p.1 [.slice a n c, .int .i64 N] 231 ∧ IRow .u8 (fun k => b3 < k) w' p.2.1 p.2.2.1 p.2.2.2.2 ∧ p.2.2.1 ≤ p.2.2.2.1 ∧ p.2.2.1 ≤ n + n2 ∧ S.blocksS p.1 p.2.2.2.2 = S.blocksS h (xs ++ ys) ∧ S.restS p.2.2.2.2 = S.restS (xs ++ ys))) (fun p => p.2.2.1) (h, a6, n6, c6, xs ++ ys) (by kernel_rfl) ?_ ?_
 ·exact ⟨Pr.refl _ _, A2, R2, by dsimp only; omega, by dsimp only; omega, rfl, rfl⟩
 rintro p j w8 ⟨x8, hI⟩
 have zw8 := x8.size
 obtain ⟨hh, ar, nr, cr, rr⟩ := p
 dsimp only at hI
 obtain ⟨A2, R2, h1, h2, h3, h4⟩ := hI
 have hrl := R2.len
 have hal := A2.lt
 refine C.nmU ?_
 refine wx fun _ J9 => sq fun _ J10 => RS.mvS rfl ?_
 refine RS.ln V115 ?_
 refine RS.o (D.ge rfl rfl) ?_
 refine nl J10 (C.ifd rfl (fun c11 => ?_) (fun c11 => ?_))
 ·refine wp_skip (J9 _ _ (wp_block (sq fun _ J12 => ?_)))
  refine RS.fl 0 V231 rfl C210 ?_
  refine RS.mvS rfl ?_
  replace K0 := ((((K0.ext x2).ext x3).ext x5).ext x6).pro x8
  refine RS.callx E208 (grind _ _ _ _ _ _ _ _ _ _ A2 K0 R2 (by omega) (by omega) (by omega)) rfl (fun e13 w13 A13 => ?_)
  obtain ⟨rfl, X13, N13⟩ := A13
  refine ⟨_, rfl, ?_⟩
  refine RS.nm ?_
  replace hE := ((Ext.tr (Ext.tr (Ext.tr (Ext.tr hE x2) x3) x5) x6).trans x8.belo).trans X13.belo
  replace A3 := ((A3.ext x5).ext x6).pro x8
  replace R0 := (R0.ext x6).pro x8
  replace R1 := (R1.ext x6).pro x8
  replace B5 := (B5.ext x6).pro x8
  replace x8 := x8.prno X13
  have zw13 := X13.size
  replace A2 := N13
  refine nl J12 (region (RS.mvS rfl ?_))
  refine RS.o (D.slice (kl := .i64) (kh := .i64) rfl V115 C5 (by decide) rfl rfl (by omega) (by omega)) ?_
  refine RS.asS rfl (RS.nil ?_)
  change Nx _ _ _ _ _ _ _ _
  refine C.next (S.grind hh rr, subA ar 64 1 cr, nr - 64, cr - 64, rr.drop 64) ⟨rfl, trivial⟩ (by kernel_rfl) ?_ ?_
  ·replace R2 := R2.pro X13
   refine ⟨x8, A2, R2.rest 64 cr (by omega) (by omega), by dsimp only; omega, by dsimp only; omega, ?_, ?_⟩
   ·dsimp only; rw [S.blocks_ge _ _ (by omega)]; exact h3
   dsimp only; rw [S.rest_ge _ (by omega)]; exact h4
  dsimp only; omega
 have hlt := c11
 refine wp_exit (J7 _ _ (wx fun _ J14 => ?_))
 refine regionX Ext [(0, .q), (1, .q), (2, .q), (3, .q), (4, .q), (5, .q), (6, .e), (7, .q), (8, .g), (9, .q), (10, .g)] mixed Ext.refl (fun h k => h.tr k) (by kernel_rfl) (fun w15 x15 => ?_)
 have zw15 := x15.size
 refine RX.fl 9 V231 rfl C3 ?_
 replace A2 := A2.ext x15
 refine RX.o (fun w' hw => D.load rfl V3 rfl ((A2.ext hw).tail 1 rfl)) ?_
 refine RX.mvS rfl ?_
 refine RX.o (fun w' hw => D.len rfl V115) ?_
 refine RX.o (fun w' hw => D.add rfl rfl (W.i64 (by omega))) ?_
 refine RX.mvS rfl ?_
 refine RX.eff ?_
 replace R2 := R2.ext x15
 refine RS.call E209 (cloneB _ _ _ _ _ R2 (by omega)) rfl (fun v16 w16 x16 A16 => ?_)
 have zw16 := x16.size
 obtain ⟨a16, n16, c16, rfl, O2⟩ := A16
 refine RS.nm ?_
 refine RS.nil ⟨x16, ?_⟩
 refine RX.fl 9 V231 rfl C3 ?_
 refine RX.big ?_
 replace A2 := A2.ext x16
 refine RS.storeT A2 1 rfl rfl C3 rfl rfl (fun w17 y17 N17 => ?_)
 replace O2 := O2.stQ y17 (fun _ h => (O2.own.lo _ h).1)
 have zw17 := y17.size
 replace A2 := N17
 refine RS.nil ?_
 refine RX.fl 8 V231 rfl C115 ?_
 refine RX.big ?_
 refine RS.storeT A2 0 rfl rfl C115 rfl rfl (fun w18 y18 N18 => ?_)
 replace O2 := O2.stQ y18 (fun _ h => (O2.own.lo _ h).1)
 have zw18 := y18.size
 replace A2 := N18
 refine RS.nil ?_
 refine RX.nil (J14 _ _ ?_)
 refine wx fun _ J19 => ?_
 have harr := A2.arr
 refine region ?_
 refine RS.o (D.loadAgg rfl V231 rfl C231 (by decide) (A2.allLen rfl) A2.all) ?_
 replace A3 := ((((((A3.ext x5).ext x6).pro x8).ext x15).ext x16).sto y17).sto y18
 refine RS.storeRec A3 rfl rfl C231 (by decide) (by assumption) rfl rfl (by intro v hv; simp at hv; rcases hv with rfl | rfl <;> rfl) (fun w20 y20 N20 => ?_)
 replace O2 := O2.stQ y20 (fun _ h => (O2.own.lo _ h).1)
 have zw20 := y20.size
 replace A3 := N20
 refine nl J19 (wp_ret ?_)
 refine ret (rs := [.cell 4 231]) (vs := [.agg _]) (v := (.agg _)) rfl ⟨⟨_, rfl, loadVar_agg V231 rfl C231 (by decide) (A3.allLen rfl) A3.all⟩, trivial⟩ rfl ?_
 rw [S.blocks_lt _ _ (by omega)] at h3
 rw [S.rest_lt _ (by omega)] at h4
 rw [← h3, ← h4]
 replace hE := (((Ext.tr (Ext.tr ((Ext.tr (Ext.tr (Ext.tr (Ext.tr hE x2) x3) x5) x6).trans x8.belo) x15) x16).trans y17.belo).trans y18.belo).trans y20.belo
 exact ⟨_, rfl, hE, _, _, _, rfl, O2.base (fun k hk => by have := O2.lo k hk; omega)⟩
theorem endd {S0 : Nat → Prop} (h : List Int) (a : Option Addr) (n c : Nat) (xs : List Int) (N : Int) (TK : TypeId) (w : World) (H : Arr .u32 8 h) (K0 : Kst w TK) (R0 : IRow .u8 S0 w a n xs) (hc : n ≤ c) (hN : 0 ≤ N ∧ N ≤ 200000) (hn : n ≤ 200000) :
  Calls Tryz.prog 181 #[.agg (ints .u32 h ++ ([.slice a n c, .int .i64 N] : List Value)).toArray] w (Ret w fun v _ => v = .agg (ints .u8 (S.outS (S.blocksS h (xs ++ S.padS N)))).toArray) := by
 replace R0 := R0.weaken (T := fun k => k < w.heap.size) (fun k hk _ => hk)
 have hKl := K0.lt
 have hl0 := R0.len
 have hE := Ext.refl w
 refine enterU 65 Tryz.func181 rfl rfl ?_
 refine sq fun _ J1 => ?_
 refine RS.box rfl rfl (fun b2 w2 e2 s2 x2 B2 => ?_)
 refine RS.nm ?_
 have zw2 := x2.size
 have A2 := IArr.ofT (n := 8) B2 H
 clear B2
 refine RS.alloc T27 (fun b3 w3 e3 s3 x3 B3 => ?_)
 refine RS.nm ?_
 have zw3 := x3.size
 have A3 : IArr .u8 w3 b3 32 (List.replicate 32 0) [] 27 := IArr.zero B3
 clear B3
 refine nl J1 (sq fun _ J4 => ?_)
 refine RS.fl 9 V231 rfl C3 ?_
 replace A2 := A2.ext x3
 refine RS.o (D.load rfl V3 rfl (A2.tail 1 rfl)) ?_
 refine RS.o (D.conv rfl V3 V46 (W.u64 (by omega))) ?_
 refine RS.o (D.mul rfl rfl (W.u64 (by omega))) ?_
 refine RS.asI rfl ?_
 refine nl J4 (sq fun _ J5 => ?_)
 refine RS.buildSlice (xs := [.const (.int .u8 128)]) (vs := [.int _ _]) (cs := [.int _ _]) V115 T5 (by decide) rfl rfl rfl rfl rfl rfl (by intro v hv; simp only [List.mem_cons, List.not_mem_nil, or_false] at hv; subst hv; rfl) rfl (fun b6 w6 e6 s6 x6 B6 => ?_)
 refine RS.nm ?_
 have zw6 := x6.size
 have O1 : IOwn w3.heap.size w6 5 .u8 (some ⟨b6, 0, none⟩) 1 1 [_] := IOwn.of_blk B6 rfl rfl (by omega) (.cons (by simp only [lim]; omega) (.nil _)) (by decide)
 refine RS.fl 9 V231 rfl C3 ?_
 replace A2 := A2.ext x6
 refine RS.o (D.load rfl V3 rfl (A2.tail 1 rfl)) ?_
 refine RS.o (D.rem rfl rfl (by omega) (by omega)) ?_
 refine RS.o (D.sub rfl rfl (W.i64 (by omega))) ?_
 refine RS.o (D.rem rfl rfl (by omega) (by omega)) ?_
 refine RS.appendZ O1 rfl rfl (by omega) V115 V3 T5 (by omega) (by decide) (by omega) (fun a7 c7 w7 N7 x7 => ?_)
 refine RS.nm ?_
 replace hE := Ext.tr (Ext.tr (Ext.tr hE x2) x3) x6
 replace hE := hE.trans (x7.belQ (fun _ h => (O1.lo _ h).1))
 replace K0 := ((K0.ext x2).ext x3).ext x6
 replace K0 := K0.prQ x7 (fun _ h => (O1.lo _ h).1)
 replace R0 := ((R0.ext x2).ext x3).ext x6
 replace R0 := R0.prQ x7 (fun _ h => (O1.lo _ h).1)
 replace A2 := A2.prQ x7 (fun _ h => (O1.lo _ h).1)
 replace A3 := A3.ext x6
 replace A3 := A3.prQ x7 (fun _ h => (O1.lo _ h).1)
 have zw7 := x7.size
 replace O1 := N7
 refine RS.asS rfl (nl J5 (wx fun _ J8 => sq fun _ J9 => RS.asI rfl (nl J9 (wp_block ?_))))
 refine C.loop (A := Int × Option Addr × Nat × Nat) (fun p => [(4, .slice p.2.1 p.2.2.1 p.2.2.2), (5, .int .i64 p.1)]) [19, 20, 21, 22, 23, 24, 25, 26, 27, 28, 29] (fun p w' => Pr (fun k => w3.heap.size ≤ k) w7 w' ∧ ((-8 ≤ p.1 ∧ p.1 ≤ 56) ∧ p.1 % 8 = 0 ∧ IOwn w3.heap.size w' 5 .u8 p.2.1 p.2.2.1 p.2.2.2 (([128] ++ List.replicate ((119 - N % 64) % 64).toNat 0) ++ (S.be8 (N * 8)).take ((56 - p.1) / 8).toNat))) (fun p => (p.1 + 8).toNat) (56, a7, 1 + ((119 - N % 64) % 64).toNat, c7) (by kernel_rfl) ?_ ?_
 ·exact ⟨Pr.refl _ _, ⟨by dsimp only; omega, by dsimp only; omega⟩, by dsimp only; omega, by simpa using O1⟩
 rintro p j w10 ⟨x10, hI⟩
 have zw10 := x10.size
 obtain ⟨i, ao, no, co⟩ := p
 dsimp only at hI
 obtain ⟨h1, h2, O1⟩ := hI
 have hol := O1.len
 simp only [List.length_append, List.length_singleton, List.length_replicate, List.length_take, S.be8_len] at hol
 refine C.nmU ?_
 refine wx fun _ J11 => sq fun _ J12 => RS.mvI rfl ?_
 refine RS.o (D.ge rfl rfl) ?_
 refine nl J12 ?_
 replace hE := hE.trans x10.belo
 replace K0 := K0.pro x10
 replace R0 := R0.pro x10
 replace A2 := A2.pro x10
 replace A3 := A3.pro x10
 refine C.ifd rfl (fun c13 => ?_) (fun c13 => ?_)
 ·refine wp_skip (J11 _ _ (wx fun _ J14 => wp_block (region (RS.mvS rfl (RS.mvI rfl (RS.mvI rfl ?_))))))
  refine RS.ob (D.shr_u64 rfl rfl (by omega) (by constructor <;> omega)) (fun z15 => ?_)
  refine RS.o (D.conv rfl V46 V5 (W.u8m _)) ?_
  refine RS.buildSlice (xs := [.tmp 27]) (vs := [.int _ _]) (cs := [.int _ _]) V115 T5 (by decide) rfl rfl rfl rfl rfl rfl (by intro v hv; simp only [List.mem_cons, List.not_mem_nil, or_false] at hv; subst hv; rfl) rfl (fun b16 w16 e16 s16 x16 B16 => ?_)
  refine RS.nm ?_
  have zw16 := x16.size
  have Q1 : IRow .u8 (fun k => k = b16) w16 (some ⟨b16, 0, none⟩) 1 [_] := IRow.of_blk B16 rfl rfl rfl (.cons (by simp only [lim]; omega) (.nil _))
  replace O1 := O1.ext x16
  refine RS.appendI O1 Q1 rfl rfl V115 T5 rfl (by omega) (by decide) (by omega) (fun a17 c17 w17 N17 x17 => ?_)
  refine RS.nm ?_
  replace hE := Ext.tr hE x16
  replace hE := hE.trans (x17.belQ (fun _ h => (O1.lo _ h).1))
  replace x10 := x10.ext x16
  replace x10 := x10.prnQ x17 (fun _ h => (O1.lo _ h).1)
  replace K0 := K0.ext x16
  replace K0 := K0.prQ x17 (fun _ h => (O1.lo _ h).1)
  replace R0 := R0.ext x16
  replace R0 := R0.prQ x17 (fun _ h => (O1.lo _ h).1)
  replace A2 := A2.ext x16
  replace A2 := A2.prQ x17 (fun _ h => (O1.lo _ h).1)
  replace A3 := A3.ext x16
  replace A3 := A3.prQ x17 (fun _ h => (O1.lo _ h).1)
  have zw17 := x17.size
  replace O1 := N17
  refine RS.asS rfl (nl J14 (region (RS.mvI rfl ?_)))
  refine RS.o (D.sub rfl rfl (W.i64 (by omega))) ?_
  refine RS.asI rfl (RS.nil ?_)
  change Nx _ _ _ _ _ _ _ _
  refine C.next (i - 8, _, _, _) ⟨rfl, rfl, trivial⟩ (by kernel_rfl) ?_ ?_
  ·refine ⟨x10, ⟨by dsimp only; omega, by dsimp only; omega⟩, by dsimp only; omega, ?_⟩
   dsimp only
   rw [S.be8_snoc _ _ (by omega) h2, ← List.append_assoc]
   exact O1
  dsimp only; omega
 refine wp_exit (J8 _ _ (wx fun _ J18 => sq fun _ J19 => ?_))
 refine RS.o (D.loadAgg rfl V231 rfl C231 (by decide) (A2.allLen rfl) A2.all) ?_
 refine RS.mvS rfl ?_
 have e0 : i = -8 := by omega
 rw [e0, show ((56 - (-8 : Int)) / 8).toNat = 8 from rfl, List.take_of_length_le (by rw [S.be8_len]; exact Nat.le_refl _), Int.mul_comm N 8, S.pad_eq N _ rfl] at O1
 have hoc := O1.own.cap
 have RP := O1.row
 refine RS.call E180 (feed _ _ _ _ xs _ _ _ _ (S.padS N) _ _ H K0 R0 RP hc (by omega) (by omega) (by omega)) rfl (fun v20 w20 x20 A20 => ?_)
 have zw20 := x20.size
 obtain ⟨a20, n20, c20, rfl, O2⟩ := A20
 have hfa := S.blocks_arr h (xs ++ S.padS N) H
 refine RS.nm ?_
 refine RS.o (D.field rfl V231 rfl V210 (fieldI C210 hfa.1) (by intro h; cases h) rfl) ?_
 refine RS.mvI rfl (nl J19 (wp_block ?_))
 replace A3 := A3.ext x20
 refine C.loop (A := Int × List Int) (fun p => [(34, .int .i64 p.1)]) [6, 7, 35, 36, 37, 38, 39, 40, 41, 42, 43, 44, 45, 46, 47, 48, 49, 50, 51, 52, 53, 54, 55, 56, 57, 58, 59, 60, 61, 62, 63, 64] (fun p w' => Pr (fun k => k = b3) w20 w' ∧ (IArr .u8 w' b3 32 p.2 [] 27 ∧ (0 ≤ p.1 ∧ p.1 ≤ 8) ∧ p.2 = (S.outS (S.blocksS h (xs ++ S.padS N))).take (4 * p.1).toNat ++ (List.replicate 32 0).drop (4 * p.1).toNat)) (fun p => (8 - p.1.toNat)) (0, List.replicate 32 0) (by kernel_rfl) ?_ ?_
 ·exact ⟨Pr.refl _ _, A3, ⟨by dsimp only; omega, by dsimp only; omega⟩, by simp⟩
 rintro p j w21 ⟨x21, hI⟩
 replace O1 := O1.ext x20
 replace O1 := O1.prQ x21 (fun _ h => (O1.own.lo _ h).1)
 have zw21 := x21.size
 obtain ⟨j, ids⟩ := p
 dsimp only at hI
 obtain ⟨A3, g1, g2⟩ := hI
 have hil := A3.len
 refine C.nmU ?_
 refine sq fun _ J22 => ?_
 refine RS.o (D.lt rfl rfl) ?_
 refine nl J22 (wx fun _ J23 => C.ifd rfl (fun c24 => ?_) (fun c24 => ?_))
 ·refine wp_skip (J23 _ _ (wx fun _ J25 => wp_block (sq fun _ J26 => RS.mvI rfl ?_)))
  refine RS.idxV rfl rfl V210 V45 rfl C45 (by omega) hfa.1 hfa.2 (fun v27 q27 r27 => ?_)
  refine RS.nm ?_
  simp only [lim] at r27
  have qw := q27
  refine RS.asI rfl (RS.asI rfl (nl J26 (region (RS.mvI rfl ?_))))
  refine RS.o (D.mul rfl rfl (W.i64 (by omega))) ?_
  refine RS.mvI rfl ?_
  refine RS.o (D.mul rfl rfl (W.i64 (by omega))) ?_
  refine RS.o (D.add rfl rfl (W.i64 (by omega))) ?_
  refine RS.mvI rfl ?_
  refine RS.o (D.mul rfl rfl (W.i64 (by omega))) ?_
  refine RS.o (D.add rfl rfl (W.i64 (by omega))) ?_
  refine RS.mvI rfl ?_
  refine RS.o (D.mul rfl rfl (W.i64 (by omega))) ?_
  refine RS.o (D.add rfl rfl (W.i64 (by omega))) ?_
  refine RS.mvI rfl ?_
  refine RS.ob (D.shr_u32 rfl rfl (by omega) (by constructor <;> omega)) (fun z28 => ?_)
  refine RS.o (D.conv rfl V45 V5 (W.u8m _)) ?_
  refine RS.mvI rfl ?_
  refine RS.ob (D.shr_u32 rfl rfl (by omega) (by constructor <;> omega)) (fun z29 => ?_)
  refine RS.o (D.conv rfl V45 V5 (W.u8m _)) ?_
  refine RS.mvI rfl ?_
  refine RS.ob (D.shr_u32 rfl rfl (by omega) (by constructor <;> omega)) (fun z30 => ?_)
  refine RS.o (D.conv rfl V45 V5 (W.u8m _)) ?_
  refine RS.mvI rfl ?_
  refine RS.o (D.conv rfl V45 V5 (W.u8m _)) ?_
  refine RS.idxA A3 rfl rfl V27 C5 (by omega) (fun v31 h31 q31 r31 => ?_)
  refine RS.nm ?_
  simp only [lim] at r31
  refine RS.storeA A3 rfl rfl C5 (by omega) (by simp only [lim]; omega) (fun w32 y32 N32 => ?_)
  replace hE := ((Ext.tr hE x20).trans x21.belo).trans y32.belo
  replace K0 := (K0.ext x20).pro x21
  replace R0 := (R0.ext x20).pro x21
  replace A2 := (A2.ext x20).pro x21
  replace x21 := x21.stno y32
  replace O1 := O1.stQ y32 (fun _ h => (O1.own.lo _ h).1)
  have zw32 := y32.size
  replace A3 := N32
  refine RS.idxA A3 rfl rfl V27 C5 (by omega) (fun v33 h33 q33 r33 => ?_)
  refine RS.nm ?_
  simp only [lim] at r33
  refine RS.storeA A3 rfl rfl C5 (by omega) (by simp only [lim]; omega) (fun w34 y34 N34 => ?_)
  replace x21 := x21.stno y34
  replace O1 := O1.stQ y34 (fun _ h => (O1.own.lo _ h).1)
  have zw34 := y34.size
  replace A3 := N34
  refine RS.idxA A3 rfl rfl V27 C5 (by omega) (fun v35 h35 q35 r35 => ?_)
  refine RS.nm ?_
  simp only [lim] at r35
  refine RS.storeA A3 rfl rfl C5 (by omega) (by simp only [lim]; omega) (fun w36 y36 N36 => ?_)
  replace x21 := x21.stno y36
  replace O1 := O1.stQ y36 (fun _ h => (O1.own.lo _ h).1)
  have zw36 := y36.size
  replace A3 := N36
  refine RS.idxA A3 rfl rfl V27 C5 (by omega) (fun v37 h37 q37 r37 => ?_)
  refine RS.nm ?_
  simp only [lim] at r37
  refine RS.storeA A3 rfl rfl C5 (by omega) (by simp only [lim]; omega) (fun w38 y38 N38 => ?_)
  replace x21 := x21.stno y38
  replace O1 := O1.stQ y38 (fun _ h => (O1.own.lo _ h).1)
  have zw38 := y38.size
  replace A3 := N38
  refine nl J25 (region ?_)
  refine RS.o (D.add rfl rfl (W.i64 (by omega))) ?_
  refine RS.mvI rfl (RS.nil ?_)
  change Nx _ _ _ _ _ _ _ _
  refine C.next (j + 1, (((ids.set (4 * j).toNat (v27 / 2 ^ (24 : Int).toNat % 256)).set (4 * j + 1).toNat (v27 / 2 ^ (16 : Int).toNat % 256)).set (4 * j + 2).toNat (v27 / 2 ^ (8 : Int).toNat % 256)).set (4 * j + 3).toNat (v27 % 256)) ⟨rfl, trivial⟩ (by kernel_rfl) ?_ ?_
  ·refine ⟨x21, A3, ⟨by dsimp only; omega, by dsimp only; omega⟩, ?_⟩
   dsimp only
   exact S.out_step _ _ j _ ⟨by omega, by omega⟩ qw g2
  dsimp only; omega
 refine wp_exit (J18 _ _ (sq fun _ J39 => ?_))
 refine RS.o (D.loadAgg rfl V27 rfl C27 (by decide) (by rw [ints_length, A3.len]) A3.cells) ?_
 refine RS.storeArr A3 rfl rfl C27 (by decide) (by first | assumption | exact And.left (by assumption) | exact IArr.len (by assumption)) (by first | assumption | exact And.right (by assumption) | exact IArr.bd (by assumption)) (fun w40 y40 N40 => ?_)
 replace O1 := O1.stQ y40 (fun _ h => (O1.own.lo _ h).1)
 have zw40 := y40.size
 replace A3 := N40
 refine nl J39 (wp_ret ?_)
 refine ret (rs := [.cell 2 27]) (vs := [.agg _]) (v := (.agg _)) rfl ⟨⟨_, rfl, loadVar_agg V27 rfl C27 (by decide) (by rw [ints_length, A3.len]) A3.cells⟩, trivial⟩ rfl ?_
 replace hE := ((Ext.tr hE x20).trans x21.belo).trans y40.belo
 refine ⟨_, rfl, hE, ?_⟩
 rw [g2, show (4 * j).toNat = 32 by omega, List.take_of_length_le (by rw [(S.out_arr _).1]; exact Nat.le_refl _), List.drop_eq_nil_of_le (by simp), List.append_nil]
theorem indexP {S0 : Nat → Prop} (ps : List Pc) (a : Option Addr) (n c : Nat) (w : World) (P0 : PRow .u8 S0 w a n ps) (hn : n ≤ 1000) (hx : ∀ p ∈ ps, p.xs.length ≤ 10000) :
  Calls Tryz.prog 207 #[.slice a n c, .func (.func 178) #[] #[]] w (Ret w fun v _ => v = .int .i64 (-1)) := by
 replace P0 := P0.weaken (T := fun k => k < w.heap.size) (fun k hk _ => hk)
 have hPl := P0.len
 have hE := Ext.refl w
 refine enterU 17 Tryz.func207 rfl rfl ?_
 refine sq fun _ J1 => RS.asI rfl (nl J1 (wx fun _ J2 => sq fun _ J3 => RS.mvS rfl ?_))
 refine RS.ln V206 ?_
 refine RS.mvI rfl (nl J3 (wp_block ?_))
 refine C.loop (A := Int) (fun p => [(8, .int .i64 p)]) [4, 5, 9, 10, 11, 12, 13, 14, 15, 16, 17, 18] (fun p w' => Ext w w' ∧ (0 ≤ p ∧ p ≤ n)) (fun p => (n - p.toNat)) 0 (by kernel_rfl) ?_ ?_
 ·exact ⟨Ext.refl _, by omega, by omega⟩
 rintro p j w4 ⟨x4, hI⟩
 have zw4 := x4.size
 obtain ⟨h1, h2⟩ := hI
 refine C.nmU ?_
 refine sq fun _ J5 => ?_
 refine RS.o (D.lt rfl rfl) ?_
 refine nl J5 (wx fun _ J6 => C.ifd rfl (fun c7 => ?_) (fun c7 => ?_))
 ·refine wp_skip (J6 _ _ (wx fun _ J8 => wp_block (sq fun _ J9 => RS.mvI rfl (RS.asI rfl ?_))))
  refine nl J9 (sq fun _ J10 => ?_)
  refine RS.move (v := .func _ _ _) rfl ?_
  refine RS.mvS rfl (RS.mvI rfl ?_)
  replace P0 := P0.ext x4
  refine RS.idxP P0 rfl rfl V206 C115 (by omega) (fun b11 o11 p11 h11 q11 F11 G11 => ?_)
  refine RS.nm ?_
  have k1 : p11.n ≤ 10000 := by rw [← F11.len]; exact hx _ (by rw [q11, List.getD_eq_getElem?_getD, List.getElem?_eq_getElem (show p.toNat < ps.length by omega)]; exact List.getElem_mem _)
  refine RS.o (D.load rfl V115 rfl (h11)) ?_
  refine RS.callv E178 (piece1 _ _ _ k1 _) rfl rfl (fun e12 w12 A12 => ?_)
  obtain ⟨v12, rfl, x12, A12⟩ := A12
  refine ⟨_, rfl, ?_⟩
  replace hE := Ext.tr (Ext.tr hE x4) x12
  replace x4 := Ext.tr x4 x12
  have zw12 := x12.size
  subst A12
  refine RS.nm ?_
  refine nl J10 ?_
  refine C.ifb rfl (fun c13 => ?_) (fun c13 => ?_)
  ·exact absurd c13 (by decide)
  refine wp_skip (J8 _ _ (region ?_))
  refine RS.o (D.add rfl rfl (W.i64 (by omega))) ?_
  refine RS.mvI rfl (RS.nil ?_)
  change Nx _ _ _ _ _ _ _ _
  refine C.next (p + 1) ⟨rfl, trivial⟩ (by kernel_rfl) ?_ ?_
  ·exact ⟨x4, by omega, by omega⟩
  omega
 refine wp_exit (J2 _ _ (sq fun _ J14 => RS.asI rfl (nl J14 (wp_ret ?_))))
 refine retI rfl rfl ?_
 replace hE := Ext.tr hE x4
 exact ⟨_, rfl, hE, rfl⟩
theorem containsP {S0 : Nat → Prop} (ps : List Pc) (a : Option Addr) (n c : Nat) (w : World) (P0 : PRow .u8 S0 w a n ps) (hn : n ≤ 1000) (hx : ∀ p ∈ ps, p.xs.length ≤ 10000) :
  Calls Tryz.prog 177 #[.slice a n c, .func (.func 178) #[] #[]] w (Ret w fun v _ => v = .bool false) := by
 have hE := Ext.refl w
 refine enterU 7 Tryz.func177 rfl rfl ?_
 refine sq fun _ J1 => RS.asB rfl ?_
 refine nl J1 (sq fun _ J2 => ?_)
 refine RS.mvS rfl ?_
 refine RS.move (v := .func _ _ _) rfl ?_
 refine RS.call E207 (indexP _ _ _ _ _ P0 hn hx) rfl (fun v3 w3 x3 A3 => ?_)
 have zw3 := x3.size
 subst A3
 refine RS.nm ?_
 refine RS.o (D.ge rfl rfl) ?_
 refine RS.asB rfl (nl J2 (wp_ret ?_))
 refine retB rfl rfl ?_
 replace hE := Ext.tr hE x3
 exact ⟨_, rfl, hE, rfl⟩
theorem E129 : Enters Tryz.prog 129 := .mk Tryz.func129 (by kernel_rfl) rfl
theorem E151 : Enters Tryz.prog 151 := .mk Tryz.func151 (by kernel_rfl) rfl
theorem E177 : Enters Tryz.prog 177 := .mk Tryz.func177 (by kernel_rfl) rfl
theorem E179 : Enters Tryz.prog 179 := .mk Tryz.func179 (by kernel_rfl) rfl
theorem E181 : Enters Tryz.prog 181 := .mk Tryz.func181 (by kernel_rfl) rfl
theorem pieces {S0 : Nat → Prop} (ps : List Pc) (a : Option Addr) (n c : Nat) (TK : TypeId) (w : World) (K0 : Kst w TK) (P0 : PRow .u8 S0 w a n ps) (hn : n ≤ 20) (hx : ∀ p ∈ ps, p.xs.length ≤ 10000) (hT : (cat ps).length ≤ 200000) :
  Calls Tryz.prog 151 #[.slice a n c] w (Ret w fun v _ => v = .tuple #[.agg (ints .u8 (S.sha (cat ps))).toArray, .int .i64 0]) := by
 replace P0 := P0.weaken (T := fun k => k < w.heap.size) (fun k hk _ => hk)
 have hPl := P0.len
 have hKl := K0.lt
 have hE := Ext.refl w
 refine enterU 27 Tryz.func151 rfl rfl ?_
 refine sq fun _ J1 => ?_
 refine RS.alloc T27 (fun b2 w2 e2 s2 x2 B2 => ?_)
 refine RS.nm ?_
 have zw2 := x2.size
 have A2 : IArr .u8 w2 b2 32 (List.replicate 32 0) [] 27 := IArr.zero B2
 clear B2
 refine RS.asI rfl (nl J1 (wx fun _ J3 => sq fun _ J4 => RS.mvS rfl ?_))
 refine RS.ln V206 ?_
 refine RS.o (D.gt rfl rfl) ?_
 refine RS.mvB rfl ?_
 refine RS.splitd 10 rfl rfl (fun c5 => ?_) (fun c5 => ?_)
 ·refine RS.nm ?_
  exact absurd c5 (by omega)
 refine RS.nm ?_
 refine RS.wt 10 ?_
 refine RS.mvS rfl ?_
 refine RS.wt 10 ?_
 replace P0 := P0.ext x2
 refine RS.call E177 (containsP _ _ _ _ _ P0 (by omega) hx) rfl (fun v6 w6 x6 A6 => ?_)
 have zw6 := x6.size
 subst A6
 refine RS.nm ?_
 refine RS.pk ?_
 refine nl J4 ?_
 refine C.ifb rfl (fun c7 => ?_) (fun c7 => ?_)
 ·cases c7
 refine wp_skip (J3 _ _ (sq fun _ J8 => ?_))
 refine RS.call E179 (start _) rfl (fun v9 w9 x9 A9 => ?_)
 have zw9 := x9.size
 subst A9
 have hIV := S.IV_arr
 refine RS.nm ?_
 refine RS.alloc T231 (fun b10 w10 e10 s10 x10 B10 => ?_)
 refine RS.nm ?_
 have zw10 := x10.size
 have A10 : IArr .u32 w10 b10 8 (List.replicate 8 0) [.slice none 0 0, .int .i64 0] 231 := ⟨B10, by simp, Bd.zeros _ _⟩
 clear B10
 refine RS.storeRec A10 rfl rfl C231 (by decide) (by assumption) rfl rfl (by intro v hv; simp at hv; rcases hv with rfl | rfl <;> rfl) (fun w11 y11 N11 => ?_)
 have zw11 := y11.size
 replace A10 := N11
 refine nl J8 (wx fun _ J12 => sq fun _ J13 => RS.mvS rfl ?_)
 refine RS.ln V206 ?_
 refine RS.mvI rfl (nl J13 (wp_block ?_))
 refine C.loop (A := Int × Option Addr × Nat × Nat) (fun p => [(18, .int .i64 p.1)]) [6, 19, 20, 21, 22, 23, 24, 25] (fun p w' => Pr (fun k => k = b10) w11 w' ∧ (IArr .u32 w' b10 8 (S.blocksS S.IV (cat (ps.take p.1.toNat))) [.slice p.2.1 p.2.2.1 p.2.2.2, .int .i64 (cat (ps.take p.1.toNat)).length] 231 ∧ IRow .u8 (fun k => b10 < k) w' p.2.1 p.2.2.1 (S.restS (cat (ps.take p.1.toNat))) ∧ p.2.2.1 ≤ p.2.2.2 ∧ (0 ≤ p.1 ∧ p.1 ≤ n))) (fun p => (n - p.1.toNat)) (0, none, 0, 0) (by kernel_rfl) ?_ ?_
 ·have e9 : cat (ps.take (0 : Int).toNat) = [] := by simp [cat]
  refine ⟨Pr.refl _ _, ?_⟩
  dsimp only
  rw [e9, S.blocks_lt _ _ (by decide), S.rest_lt _ (by decide)]
  exact ⟨A10, IRow.nil, by omega, by omega, by omega⟩
 rintro p j w14 ⟨x14, hI⟩
 have zw14 := x14.size
 obtain ⟨i, ar, nr, cr⟩ := p
 dsimp only at hI
 obtain ⟨A10, R1, hc, h1⟩ := hI
 have hh := S.blocks_arr S.IV (cat (ps.take i.toNat)) S.IV_arr
 have hal := A10.lt
 have hrl := R1.len
 have hrl2 := S.rest_le (cat (ps.take i.toNat))
 have hrl3 := cat_le ps i.toNat
 refine C.nmU ?_
 refine sq fun _ J15 => ?_
 refine RS.o (D.lt rfl rfl) ?_
 refine nl J15 (wx fun _ J16 => ?_)
 replace K0 := (((((K0.ext x2).ext x6).ext x9).ext x10).sto y11).pro x14
 refine C.ifd rfl (fun c17 => ?_) (fun c17 => ?_)
 ·refine wp_skip (J16 _ _ (wx fun _ J18 => wp_block (sq fun _ J19 => ?_)))
  replace P0 := ((((P0.ext x6).ext x9).ext x10).sto y11).pro x14
  refine RS.idxP P0 rfl rfl V206 C115 (by omega) (fun b20 o20 p20 h20 q20 F20 G20 => ?_)
  refine RS.nm ?_
  have k1 := cat_snoc ps i.toNat (by omega)
  rw [← q20] at k1
  have k2 := cat_le ps (i.toNat + 1)
  have k3 := congrArg List.length k1
  rw [List.length_append, F20.len] at k3
  refine RS.o (D.load rfl V115 rfl (h20)) ?_
  refine RS.asS rfl (nl J19 (region ?_))
  refine RS.o (D.loadAgg rfl V231 rfl C231 (by decide) (A10.allLen rfl) A10.all) ?_
  refine RS.mvS rfl ?_
  refine RS.call E180 (feed _ _ _ _ _ _ _ _ _ _ _ _ hh K0 R1 F20 hc G20 (by omega) (by omega)) rfl (fun v21 w21 x21 A21 => ?_)
  replace hE := Ext.tr (((Ext.tr (Ext.tr (Ext.tr (Ext.tr hE x2) x6) x9) x10).trans y11.belo).trans x14.belo) x21
  replace A2 := ((((A2.ext x6).ext x9).ext x10).sto y11).pro x14
  have zw21 := x21.size
  obtain ⟨a21, n21, c21, rfl, O2⟩ := A21
  rw [← S.blocks_append _ _ _ _ rfl, ← S.rest_append _ _ _ rfl, ← k1] at *
  have hoc := O2.own.cap
  have hfa := S.blocks_arr S.IV (cat (ps.take (i.toNat + 1))) S.IV_arr
  refine RS.nm ?_
  replace A10 := A10.ext x21
  refine RS.storeRec A10 rfl rfl C231 (by decide) (by assumption) rfl rfl (by intro v hv; simp at hv; rcases hv with rfl | rfl <;> rfl) (fun w22 y22 N22 => ?_)
  replace x14 := x14.ext x21
  replace x14 := x14.stno y22
  replace O2 := O2.stQ y22 (fun _ h => (O2.own.lo _ h).1)
  have zw22 := y22.size
  replace A10 := N22
  refine nl J18 (region ?_)
  refine RS.o (D.add rfl rfl (W.i64 (by omega))) ?_
  refine RS.mvI rfl (RS.nil ?_)
  change Nx _ _ _ _ _ _ _ _
  refine C.next (i + 1, a21, n21, c21) ⟨rfl, trivial⟩ (by kernel_rfl) ?_ ?_
  ·have e9 : ((cat (ps.take i.toNat)).length : Int) + (p20.n : Int) = (((cat (ps.take (i.toNat + 1))).length : Nat) : Int) := by omega
   rw [e9] at A10
   rw [show (i + 1).toNat = i.toNat + 1 by omega]
   refine ⟨x14, A10, O2.row.weaken (T := fun k => b10 < k) (fun k _ hk => by omega), by dsimp only; omega, by dsimp only; omega, by dsimp only; omega⟩
  dsimp only; omega
 have e0 : ps.take i.toNat = ps := List.take_of_length_le (by omega)
 refine wp_exit (J12 _ _ (sq fun _ J23 => ?_))
 refine RS.o (D.loadAgg rfl V231 rfl C231 (by decide) (A10.allLen rfl) A10.all) ?_
 refine RS.call E181 (endd _ _ _ _ _ _ _ _ hh K0 R1 hc (by omega) (by omega)) rfl (fun v24 w24 x24 A24 => ?_)
 have zw24 := x24.size
 subst A24
 rw [e0, S.sha_eq _ _ rfl]
 have hsa := S.sha_arr (cat ps)
 refine RS.nm ?_
 replace A2 := (((((A2.ext x6).ext x9).ext x10).sto y11).pro x14).ext x24
 refine RS.storeArr A2 rfl rfl C27 (by decide) (by first | assumption | exact And.left (by assumption) | exact IArr.len (by assumption)) (by first | assumption | exact And.right (by assumption) | exact IArr.bd (by assumption)) (fun w25 y25 N25 => ?_)
 have zw25 := y25.size
 replace A2 := N25
 refine RS.asI rfl (nl J23 (wp_ret ?_))
 refine ret (rs := [.cell 2 27, .tmp 3]) (vs := [.agg _, .int _ _]) (v := (.tuple #[.agg _, .int _ _])) rfl ⟨⟨_, rfl, loadVar_agg V27 rfl C27 (by decide) (by rw [ints_length, A2.len]) A2.cells⟩, rfl, trivial⟩ rfl ?_
 replace hE := (Ext.tr (((Ext.tr (Ext.tr (Ext.tr (Ext.tr hE x2) x6) x9) x10).trans y11.belo).trans x14.belo) x24).trans y25.belo
 exact ⟨_, rfl, hE, rfl⟩
theorem sum {S0 : Nat → Prop} (a : Option Addr) (n c : Nat) (xs : List Int) (TK : TypeId) (w : World) (K0 : Kst w TK) (R0 : IRow .u8 S0 w a n xs) (hc : n ≤ c) (hn : n ≤ 10000) :
  Calls Tryz.prog 122 #[.slice a n c] w (Ret w fun v _ => v = .tuple #[.agg (ints .u8 (S.sha xs)).toArray, .int .i64 0]) := by
 replace R0 := R0.weaken (T := fun k => k < w.heap.size) (fun k hk _ => hk)
 have hKl := K0.lt
 have hl0 := R0.len
 have hE := Ext.refl w
 refine enterU 8 Tryz.func122 rfl rfl ?_
 refine sq fun _ J1 => ?_
 refine RS.alloc T27 (fun b2 w2 e2 s2 x2 B2 => ?_)
 refine RS.nm ?_
 have zw2 := x2.size
 have A2 : IArr .u8 w2 b2 32 (List.replicate 32 0) [] 27 := IArr.zero B2
 clear B2
 refine RS.asI rfl ?_
 refine nl J1 (sq fun _ J3 => ?_)
 refine RS.mvS rfl ?_
 refine RS.buildSlice (xs := [.tmp 4]) (vs := [.slice _ _ _]) (cs := [.slice _ _ _]) V206 T115 (by decide) rfl rfl rfl rfl rfl rfl (by intro v hv; simp only [List.mem_cons, List.not_mem_nil, or_false] at hv; subst hv; rfl) rfl (fun b4 w4 e4 s4 x4 B4 => ?_)
 refine RS.nm ?_
 have zw4 := x4.size
 replace K0 := (K0.ext x2).ext x4
 replace R0 := (R0.ext x2).ext x4
 refine RS.call E151 (pieces [⟨a, n, c, xs⟩] _ _ _ _ _ K0 (PRow.of_blkE B4 rfl rfl ⟨⟨_, R0, hc⟩, trivial⟩) (show (1 : Nat) ≤ 20 by decide) (by intro p hp; obtain rfl := List.mem_singleton.1 hp; dsimp only; omega) (by simp [cat]; omega)) rfl (fun v5 w5 x5 A5 => ?_)
 have zw5 := x5.size
 subst A5
 have ecat : cat [⟨a, n, c, xs⟩] = xs := by simp [cat]
 rw [ecat]
 have hsa := S.sha_arr xs
 refine RS.nm ?_
 refine RS.exA ?_
 refine RS.exI ?_
 replace A2 := (A2.ext x4).ext x5
 refine RS.storeArr A2 rfl rfl C27 (by decide) (by first | assumption | exact And.left (by assumption) | exact IArr.len (by assumption)) (by first | assumption | exact And.right (by assumption) | exact IArr.bd (by assumption)) (fun w6 y6 N6 => ?_)
 have zw6 := y6.size
 replace A2 := N6
 refine RS.asI rfl (nl J3 (wp_ret ?_))
 refine ret (rs := [.cell 2 27, .tmp 3]) (vs := [.agg _, .int _ _]) (v := (.tuple #[.agg _, .int _ _])) rfl ⟨⟨_, rfl, loadVar_agg V27 rfl C27 (by decide) (by rw [ints_length, A2.len]) A2.cells⟩, rfl, trivial⟩ rfl ?_
 replace hE := (Ext.tr (Ext.tr (Ext.tr hE x2) x4) x5).trans y6.belo
 exact ⟨_, rfl, hE, rfl⟩
theorem bcompare {S0 S1 : Nat → Prop} (a : Option Addr) (n c : Nat) (xs : List Int) (a2 : Option Addr) (n2 c2 : Nat) (ys : List Int) (w : World) (R0 : IRow .u8 S0 w a n xs) (R1 : IRow .u8 S1 w a2 n2 ys) :
  Calls Tryz.prog 129 #[.slice a n c, .slice a2 n2 c2] w (Ret w fun v _ => v = .int .i64 (S.cmpS xs ys)) := by
 have hE := Ext.refl w
 refine enterU 6 Tryz.func129 rfl rfl ?_
 refine sq fun _ J1 => RS.asI rfl ?_
 refine nl J1 (sq fun _ J2 => ?_)
 refine RS.mvS rfl (RS.mvS rfl ?_)
 refine RS.o (D.ext (av := [_, _]) Tryz.func154 (by kernel_rfl) (by kernel_rfl) (by kernel_rfl) (by kernel_rfl) rfl (S.cmp_run R0 R1)) ?_
 refine RS.asI rfl (nl J2 (wp_ret ?_))
 refine retI rfl rfl ?_
 exact ⟨_, rfl, hE, rfl⟩
theorem dcmp (xs ys : List Int) (hx : Arr .u8 32 xs) (hy : Arr .u8 32 ys) (w : World) :
  Calls Tryz.prog 90 #[.agg (ints .u8 xs).toArray, .agg (ints .u8 ys).toArray] w (Ret w fun v _ => v = .int .i64 (S.cmpS xs ys)) := by
 have hE := Ext.refl w
 refine enterU 6 Tryz.func90 rfl rfl ?_
 refine sq fun _ J1 => ?_
 refine RS.box rfl rfl (fun b2 w2 e2 s2 x2 B2 => ?_)
 refine RS.nm ?_
 have zw2 := x2.size
 have A2 := IArr.ofA (n := 32) B2 hx
 clear B2
 refine RS.box rfl rfl (fun b3 w3 e3 s3 x3 B3 => ?_)
 refine RS.nm ?_
 have zw3 := x3.size
 have A3 := IArr.ofA (n := 32) B3 hy
 clear B3
 refine RS.asI rfl (nl J1 (wx fun _ J4 => ?_))
 refine regionX Ext [(0, .q), (1, .q), (2, .e), (3, .q)] mixed Ext.refl (fun h k => h.tr k) (by kernel_rfl) (fun w5 x5 => ?_)
 have zw5 := x5.size
 refine RX.o (fun w' hw => D.sliceArr (kl := .i64) (kh := .i64) rfl V27 C5 rfl rfl (by omega)) ?_
 refine RX.o (fun w' hw => D.sliceArr (kl := .i64) (kh := .i64) rfl V27 C5 rfl rfl (by omega)) ?_
 refine RX.eff ?_
 replace A2 := (A2.ext x3).ext x5
 replace A3 := A3.ext x5
 refine RS.call E129 (bcompare _ _ _ _ _ _ _ _ _ (A2.row (S := fun _ => True) trivial) (A3.row (S := fun _ => True) trivial)) rfl (fun v6 w6 x6 A6 => ?_)
 have zw6 := x6.size
 subst A6
 refine RS.nm ?_
 refine RS.nil ⟨x6, ?_⟩
 refine RX.assign (v := .int _ _) rfl ?_
 refine RX.nil (J4 _ _ ?_)
 refine wp_ret ?_
 refine retI rfl rfl ?_
 replace hE := Ext.tr (Ext.tr (Ext.tr (Ext.tr hE x2) x3) x5) x6
 exact ⟨_, rfl, hE, rfl⟩
theorem rcmp (xs ys : List Int) (hx : Arr .u8 32 xs) (hy : Arr .u8 32 ys) (w : World) :
  Calls Tryz.prog 98 #[.agg (ints .u8 xs).toArray, .agg (ints .u8 ys).toArray] w (Ret w fun v _ => v = .int .i64 (S.cmpS xs ys)) := by
 have hl1 := hx.1
 have hl2 := hy.1
 have hE := Ext.refl w
 refine enterU 22 Tryz.func98 rfl rfl ?_
 refine sq fun _ J1 => ?_
 refine RS.box rfl rfl (fun b2 w2 e2 s2 x2 B2 => ?_)
 refine RS.nm ?_
 have zw2 := x2.size
 have A2 := IArr.ofA (n := 32) B2 hx
 clear B2
 refine RS.box rfl rfl (fun b3 w3 e3 s3 x3 B3 => ?_)
 refine RS.nm ?_
 have zw3 := x3.size
 have A3 := IArr.ofA (n := 32) B3 hy
 clear B3
 refine RS.asI rfl (nl J1 (wx fun _ J4 => sq fun _ J5 => RS.asI rfl (nl J5 (wp_block ?_))))
 refine C.loop (A := Int) (fun p => [(5, .int .i64 p)]) [4, 6, 7, 8, 9, 10, 11, 12, 13, 14, 15, 16, 17, 18, 19, 20, 21, 22, 23] (fun p w' => Ext w3 w' ∧ ((0 ≤ p ∧ p ≤ 32) ∧ S.cmpS (xs.drop p.toNat) (ys.drop p.toNat) = S.cmpS xs ys)) (fun p => (32 - p.toNat)) 0 (by kernel_rfl) ?_ ?_
 ·exact ⟨Ext.refl _, ⟨by omega, by omega⟩, rfl⟩
 rintro p j w6 ⟨x6, hI⟩
 have zw6 := x6.size
 obtain ⟨h1, h2⟩ := hI
 refine C.nmU ?_
 refine wx fun _ J7 => sq fun _ J8 => RS.mvI rfl ?_
 refine RS.o (D.lt rfl rfl) ?_
 refine nl J8 ?_
 replace hE := Ext.tr (Ext.tr (Ext.tr hE x2) x3) x6
 refine C.ifd rfl (fun c9 => ?_) (fun c9 => ?_)
 ·refine wp_skip (J7 _ _ (wx fun _ J10 => wp_block (wx fun _ J11 => wx fun _ J12 => ?_)))
  refine regionX Ext [(0, .q), (1, .q), (2, .q), (3, .q), (4, .q), (5, .q), (6, .q)] mixed Ext.refl (fun h k => h.tr k) (by kernel_rfl) (fun w13 x13 => ?_)
  replace A2 := (A2.ext x3).ext x6
  replace A3 := A3.ext x6
  replace x6 := Ext.tr x6 x13
  have zw13 := x13.size
  refine RX.mvI rfl ?_
  replace A2 := A2.ext x13
  refine RX.idxA (fun _ h => h) A2 rfl rfl V27 C5 (by omega) (fun v14 h14 q14 r14 => ?_)
  refine RX.nm ?_
  simp only [lim] at r14
  have q1 := q14
  refine RX.o (fun w' hw => D.load rfl V5 rfl (h14 w' hw)) ?_
  refine RX.mvI rfl ?_
  replace A3 := A3.ext x13
  refine RX.idxA (fun _ h => h) A3 rfl rfl V27 C5 (by omega) (fun v15 h15 q15 r15 => ?_)
  refine RX.nm ?_
  simp only [lim] at r15
  have q2 := q15
  refine RX.o (fun w' hw => D.load rfl V5 rfl (h15 w' hw)) ?_
  refine RX.o (fun w' hw => D.lt rfl rfl) ?_
  refine RX.nil (J12 _ _ ?_)
  replace hE := Ext.tr hE x13
  refine C.ifd rfl (fun c16 => ?_) (fun c16 => ?_)
  ·refine wx fun _ J17 => region (RS.asI rfl (nl J17 (wp_ret ?_)))
   refine retI rfl rfl ?_
   refine ⟨_, rfl, hE, ?_⟩
   rw [← h2, S.cmpS_step _ _ _ (by omega) (by omega)]
   rw [if_pos (by omega)]
  refine wp_skip (J11 _ _ (wx fun _ J18 => ?_))
  refine regionX Ext [(0, .q), (1, .q), (2, .q), (3, .q), (4, .q), (5, .q), (6, .q)] mixed Ext.refl (fun h k => h.tr k) (by kernel_rfl) (fun w19 x19 => ?_)
  replace x6 := Ext.tr x6 x19
  have zw19 := x19.size
  refine RX.mvI rfl ?_
  replace A2 := A2.ext x19
  refine RX.idxA (fun _ h => h) A2 rfl rfl V27 C5 (by omega) (fun v20 h20 q20 r20 => ?_)
  refine RX.nm ?_
  simp only [lim] at r20
  have q3 := q20
  refine RX.o (fun w' hw => D.load rfl V5 rfl (h20 w' hw)) ?_
  refine RX.mvI rfl ?_
  replace A3 := A3.ext x19
  refine RX.idxA (fun _ h => h) A3 rfl rfl V27 C5 (by omega) (fun v21 h21 q21 r21 => ?_)
  refine RX.nm ?_
  simp only [lim] at r21
  have q4 := q21
  refine RX.o (fun w' hw => D.load rfl V5 rfl (h21 w' hw)) ?_
  refine RX.o (fun w' hw => D.gt rfl rfl) ?_
  refine RX.nil (J18 _ _ ?_)
  refine C.ifd rfl (fun c22 => ?_) (fun c22 => ?_)
  ·refine wx fun _ J23 => region (RS.asI rfl (nl J23 (wp_ret ?_)))
   refine retI rfl rfl ?_
   replace hE := Ext.tr hE x19
   refine ⟨_, rfl, hE, ?_⟩
   rw [← h2, S.cmpS_step _ _ _ (by omega) (by omega)]
   rw [if_neg (by omega), if_pos (by omega)]
  refine wp_skip (J10 _ _ (region (RS.mvI rfl ?_)))
  refine RS.o (D.add rfl rfl (W.i64 (by omega))) ?_
  refine RS.asI rfl (RS.nil ?_)
  change Nx _ _ _ _ _ _ _ _
  refine C.next (p + 1) ⟨rfl, trivial⟩ (by kernel_rfl) ?_ ?_
  ·refine ⟨x6, ⟨by omega, by omega⟩, ?_⟩
   rw [S.cmpS_step _ _ _ (by omega) (by omega), if_neg (by omega), if_neg (by omega)] at h2
   rw [show (p + 1).toNat = p.toNat + 1 by omega]
   exact h2
  omega
 have hlt := c9
 refine wp_exit (J4 _ _ (sq fun _ J24 => RS.asI rfl (nl J24 (wp_ret ?_))))
 refine retI rfl rfl ?_
 refine ⟨_, rfl, hE, ?_⟩
 rw [← h2, List.drop_eq_nil_of_le (by omega), List.drop_eq_nil_of_le (by omega)]
 rfl
theorem constants  (w : World) :
  Calls Tryz.prog 217 #[] w (Ret w fun v w' => ∃ b, v = .slice (some ⟨b, 0, none⟩) 64 64 ∧ w.heap.size ≤ b ∧ IRow .u32 (fun k => k = b) w' (some ⟨b, 0, none⟩) 64 S.KK) := by
 have hE := Ext.refl w
 refine enterU 2 Tryz.func217 rfl rfl ?_
 refine sq fun _ J1 => RS.asS rfl ?_
 refine nl J1 (sq fun _ J2 => ?_)
 refine RS.buildI (xs := [.const (.int .u32 1116352408), .const (.int .u32 1899447441), .const (.int .u32 3049323471), .const (.int .u32 3921009573), .const (.int .u32 961987163), .const (.int .u32 1508970993), .const (.int .u32 2453635748), .const (.int .u32 2870763221), .const (.int .u32 3624381080), .const (.int .u32 310598401), .const (.int .u32 607225278), .const (.int .u32 1426881987), .const (.int .u32 1925078388), .const (.int .u32 2162078206), .const (.int .u32 2614888103), .const (.int .u32 3248222580), .const (.int .u32 3835390401), .const (.int .u32 4022224774), .const (.int .u32 264347078), .const (.int .u32 604807628), .const (.int .u32 770255983), .const (.int .u32 1249150122), .const (.int .u32 1555081692), .const (.int .u32 1996064986), .const (.int .u32 2554220882), .const (.int .u32 2821834349), .const (.int .u32 2952996808), .const (.int .u32 3210313671), .const (.int .u32 3336571891), .const (.int .u32 3584528711), .const (.int .u32 113926993), .const (.int .u32 338241895), .const (.int .u32 666307205), .const (.int .u32 773529912), .const (.int .u32 1294757372), .const (.int .u32 1396182291), .const (.int .u32 1695183700), .const (.int .u32 1986661051), .const (.int .u32 2177026350), .const (.int .u32 2456956037), .const (.int .u32 2730485921), .const (.int .u32 2820302411), .const (.int .u32 3259730800), .const (.int .u32 3345764771), .const (.int .u32 3516065817), .const (.int .u32 3600352804), .const (.int .u32 4094571909), .const (.int .u32 275423344), .const (.int .u32 430227734), .const (.int .u32 506948616), .const (.int .u32 659060556), .const (.int .u32 883997877), .const (.int .u32 958139571), .const (.int .u32 1322822218), .const (.int .u32 1537002063), .const (.int .u32 1747873779), .const (.int .u32 1955562222), .const (.int .u32 2024104815), .const (.int .u32 2227730452), .const (.int .u32 2361852424), .const (.int .u32 2428436474), .const (.int .u32 2756734187), .const (.int .u32 3204031479), .const (.int .u32 3329325298)]) (ys := S.KK) V255 T45 rfl rfl rfl rfl rfl (fun b3 w3 e3 s3 x3 B3 => ?_)
 refine RS.nm ?_
 have zw3 := x3.size
 refine RS.asS rfl (nl J2 (wp_ret ?_))
 refine retS ?_
 replace hE := Ext.tr hE x3
 exact ⟨_, rfl, hE, _, rfl, by omega, IRow.of_blk B3 rfl rfl rfl (show ∀ x ∈ S.KK, 0 ≤ x ∧ x < 4294967296 by decide)⟩
theorem written (h : List Int) (H : Arr .u32 8 h) (w : World) :
  Calls Tryz.prog 160 #[.agg (ints .u32 h).toArray] w (Ret w fun v _ => v = .agg (ints .u8 (S.outS h)).toArray) := by
 have hE := Ext.refl w
 refine enterU 21 Tryz.func160 rfl rfl ?_
 refine sq fun _ J1 => ?_
 refine RS.box rfl rfl (fun b2 w2 e2 s2 x2 B2 => ?_)
 refine RS.nm ?_
 have zw2 := x2.size
 have A2 := IArr.ofA (n := 8) B2 H
 clear B2
 refine RS.alloc T27 (fun b3 w3 e3 s3 x3 B3 => ?_)
 refine RS.nm ?_
 have zw3 := x3.size
 have A3 : IArr .u8 w3 b3 32 (List.replicate 32 0) [] 27 := IArr.zero B3
 clear B3
 refine nl J1 (sq fun _ J4 => ?_)
 refine RS.alloc T27 (fun b5 w5 e5 s5 x5 B5 => ?_)
 refine RS.nm ?_
 have zw5 := x5.size
 have A5 : IArr .u8 w5 b5 32 (List.replicate 32 0) [] 27 := IArr.zero B5
 clear B5
 refine nl J4 (wx fun _ J6 => sq fun _ J7 => RS.asI rfl (nl J7 (wp_block ?_)))
 refine C.loop (A := Int × List Int) (fun p => [(4, .int .i64 p.1)]) [5, 6, 7, 8, 9, 10, 11, 12, 13, 14, 15, 16, 17, 18, 19, 20] (fun p w' => Pr (fun k => k = b5) w5 w' ∧ (IArr .u8 w' b5 32 p.2 [] 27 ∧ (0 ≤ p.1 ∧ p.1 ≤ 32) ∧ p.2 = (S.outS h).take p.1.toNat ++ (List.replicate 32 0).drop p.1.toNat)) (fun p => (32 - p.1.toNat)) (0, List.replicate 32 0) (by kernel_rfl) ?_ ?_
 ·exact ⟨Pr.refl _ _, A5, ⟨by dsimp only; omega, by dsimp only; omega⟩, by simp⟩
 rintro p j w8 ⟨x8, hI⟩
 have zw8 := x8.size
 obtain ⟨j, ids⟩ := p
 dsimp only at hI
 obtain ⟨A5, g1, g2⟩ := hI
 have hil := A5.len
 refine C.nmU ?_
 refine wx fun _ J9 => sq fun _ J10 => RS.mvI rfl ?_
 refine RS.o (D.lt rfl rfl) ?_
 refine nl J10 (C.ifd rfl (fun c11 => ?_) (fun c11 => ?_))
 ·refine wp_skip (J9 _ _ (wx fun _ J12 => wp_block (region (RS.mvI rfl (RS.mvI rfl ?_)))))
  refine RS.o (D.quo rfl rfl (by omega) (by omega) (W.i64 (by omega))) ?_
  replace A2 := ((A2.ext x3).ext x5).pro x8
  refine RS.idxA A2 rfl rfl V210 C45 (by omega) (fun v13 h13 q13 r13 => ?_)
  refine RS.nm ?_
  simp only [lim] at r13
  have q1 := q13
  refine RS.o (D.load rfl V45 rfl (h13)) ?_
  refine RS.mvI rfl ?_
  refine RS.o (D.rem rfl rfl (by omega) (by omega)) ?_
  refine RS.o (D.mul rfl rfl (W.i64 (by omega))) ?_
  refine RS.o (D.sub rfl rfl (W.i64 (by omega))) ?_
  refine RS.ob (D.shr_u32 rfl rfl (by omega) (by constructor <;> omega)) (fun z14 => ?_)
  refine RS.o (D.conv rfl V45 V5 (W.u8m _)) ?_
  refine RS.idxA A5 rfl rfl V27 C5 (by omega) (fun v15 h15 q15 r15 => ?_)
  refine RS.nm ?_
  simp only [lim] at r15
  refine RS.storeA A5 rfl rfl C5 (by omega) (by simp only [lim]; omega) (fun w16 y16 N16 => ?_)
  replace hE := ((Ext.tr (Ext.tr (Ext.tr hE x2) x3) x5).trans x8.belo).trans y16.belo
  replace A3 := (A3.ext x5).pro x8
  replace x8 := x8.stno y16
  have zw16 := y16.size
  replace A5 := N16
  refine nl J12 (region (RS.mvI rfl ?_))
  refine RS.o (D.add rfl rfl (W.i64 (by omega))) ?_
  refine RS.asI rfl (RS.nil ?_)
  change Nx _ _ _ _ _ _ _ _
  refine C.next (j + 1, ids.set j.toNat (v13 / 2 ^ (24 - 8 * (j % 4)).toNat % 256)) ⟨rfl, trivial⟩ (by kernel_rfl) ?_ ?_
  ·refine ⟨x8, A5, ⟨by dsimp only; omega, by dsimp only; omega⟩, ?_⟩
   dsimp only
   exact S.out_step1 _ _ j _ ⟨by omega, by omega⟩ q1 g2
  dsimp only; omega
 refine wp_exit (J6 _ _ (sq fun _ J17 => ?_))
 refine RS.o (D.loadAgg rfl V27 rfl C27 (by decide) (by rw [ints_length, A5.len]) A5.cells) ?_
 replace A3 := (A3.ext x5).pro x8
 refine RS.storeArr A3 rfl rfl C27 (by decide) (by first | assumption | exact And.left (by assumption) | exact IArr.len (by assumption)) (by first | assumption | exact And.right (by assumption) | exact IArr.bd (by assumption)) (fun w18 y18 N18 => ?_)
 have zw18 := y18.size
 replace A3 := N18
 refine nl J17 (wp_ret ?_)
 refine ret (rs := [.cell 2 27]) (vs := [.agg _]) (v := (.agg _)) rfl ⟨⟨_, rfl, loadVar_agg V27 rfl C27 (by decide) (by rw [ints_length, A3.len]) A3.cells⟩, trivial⟩ rfl ?_
 replace hE := ((Ext.tr (Ext.tr (Ext.tr hE x2) x3) x5).trans x8.belo).trans y18.belo
 refine ⟨_, rfl, hE, ?_⟩
 rw [g2, show j.toNat = 32 by omega, List.take_of_length_le (by rw [(S.out_arr _).1]; exact Nat.le_refl _), List.drop_eq_nil_of_le (by simp), List.append_nil]
theorem tail (N : Int) (hN : 0 ≤ N ∧ N ≤ 200000) (w : World) :
  Calls Tryz.prog 163 #[.int .i64 N] w (Ret w fun v w' => ∃ a' n' c', v = .slice a' n' c' ∧ IOwn w.heap.size w' 5 .u8 a' n' c' (S.padS N)) := by
 have hE := Ext.refl w
 refine enterU 30 Tryz.func163 rfl rfl ?_
 refine sq fun _ J1 => RS.asS rfl ?_
 refine nl J1 (sq fun _ J2 => ?_)
 refine RS.buildSlice (xs := [.const (.int .u8 128)]) (vs := [.int _ _]) (cs := [.int _ _]) V115 T5 (by decide) rfl rfl rfl rfl rfl rfl (by intro v hv; simp only [List.mem_cons, List.not_mem_nil, or_false] at hv; subst hv; rfl) rfl (fun b3 w3 e3 s3 x3 B3 => ?_)
 refine RS.nm ?_
 have zw3 := x3.size
 have O1 : IOwn w.heap.size w3 5 .u8 (some ⟨b3, 0, none⟩) 1 1 [_] := IOwn.of_blk B3 rfl rfl (by omega) (.cons (by simp only [lim]; omega) (.nil _)) (by decide)
 refine RS.asS rfl (nl J2 (wx fun _ J4 => wp_block ?_))
 refine C.loop (A := Nat × Option Addr × Nat × Nat) (fun p => [(3, .slice p.2.1 p.2.2.1 p.2.2.2)]) [6, 7, 8, 9, 10, 11, 12, 13, 14, 15] (fun p w' => Pr (fun k => w.heap.size ≤ k) w3 w' ∧ (((p.1 : Nat) : Int) ≤ (119 - N % 64) % 64 ∧ IOwn w.heap.size w' 5 .u8 p.2.1 p.2.2.1 p.2.2.2 ([128] ++ List.replicate p.1 0))) (fun p => (64 - p.1)) (0, some ⟨b3, 0, none⟩, 1, 1) (by kernel_rfl) ?_ ?_
 ·exact ⟨Pr.refl _ _, by dsimp only; omega, O1⟩
 rintro p j w5 ⟨x5, hI⟩
 have zw5 := x5.size
 obtain ⟨j, ao, no, co⟩ := p
 dsimp only at hI
 obtain ⟨h1, O1⟩ := hI
 have hol := O1.len
 simp only [List.length_append, List.length_singleton, List.length_replicate] at hol
 have e6 : (N + (no : Int) + 8) % 64 = (N + (1 + (j : Int)) + 8) % 64 := by rw [← hol]; rfl
 refine C.nmU ?_
 refine wx fun _ J6 => sq fun _ J7 => RS.mvI rfl (RS.mvS rfl ?_)
 refine RS.ln V115 ?_
 refine RS.o (D.add rfl rfl (W.i64 (by omega))) ?_
 refine RS.o (D.add rfl rfl (W.i64 (by omega))) ?_
 refine RS.o (D.rem rfl rfl (by omega) (by omega)) ?_
 refine RS.o (D.ne rfl rfl) ?_
 refine nl J7 ?_
 replace hE := (Ext.tr hE x3).trans x5.belo
 refine C.ifn rfl (fun c8 => ?_) (fun c8 => ?_)
 ·refine wp_skip (J6 _ _ (wp_block (region (RS.mvS rfl ?_))))
  refine RS.buildSlice (xs := [.const (.int .u8 0)]) (vs := [.int _ _]) (cs := [.int _ _]) V115 T5 (by decide) rfl rfl rfl rfl rfl rfl (by intro v hv; simp only [List.mem_cons, List.not_mem_nil, or_false] at hv; subst hv; rfl) rfl (fun b9 w9 e9 s9 x9 B9 => ?_)
  refine RS.nm ?_
  have zw9 := x9.size
  have Q1 : IRow .u8 (fun k => k = b9) w9 (some ⟨b9, 0, none⟩) 1 [_] := IRow.of_blk B9 rfl rfl rfl (.cons (by simp only [lim]; omega) (.nil _))
  replace O1 := O1.ext x9
  refine RS.appendI O1 Q1 rfl rfl V115 T5 rfl (by omega) (by decide) (by omega) (fun a10 c10 w10 N10 x10 => ?_)
  refine RS.nm ?_
  replace hE := Ext.tr hE x9
  replace hE := hE.trans (x10.belQ (fun _ h => (O1.lo _ h).1))
  replace x5 := x5.ext x9
  replace x5 := x5.prnQ x10 (fun _ h => (O1.lo _ h).1)
  have zw10 := x10.size
  replace O1 := N10
  refine RS.asS rfl (RS.nil ?_)
  change Nx _ _ _ _ _ _ _ _
  refine C.next (j + 1, _, _, _) ⟨rfl, trivial⟩ (by kernel_rfl) ?_ ?_
  ·have hm := S.pad_more N j (by omega) h1 (by omega)
   refine ⟨x5, hm, ?_⟩
   dsimp only
   rw [List.replicate_succ', ← List.append_assoc]
   exact O1
  dsimp only; omega
 have hz := S.pad_zero N j (by omega) h1 (by omega)
 rw [hz] at O1
 refine wp_exit (J4 _ _ (wx fun _ J11 => sq fun _ J12 => RS.asI rfl (nl J12 (wp_block ?_))))
 refine C.loop (A := Int × Option Addr × Nat × Nat) (fun p => [(3, .slice p.2.1 p.2.2.1 p.2.2.2), (4, .int .i64 p.1)]) [16, 17, 18, 19, 20, 21, 22, 23, 24, 25, 26, 27, 28, 29] (fun p w' => Pr (fun k => w.heap.size ≤ k) w5 w' ∧ ((-1 ≤ p.1 ∧ p.1 ≤ 7) ∧ IOwn w.heap.size w' 5 .u8 p.2.1 p.2.2.1 p.2.2.2 (([128] ++ List.replicate ((119 - N % 64) % 64).toNat 0) ++ (S.be8 (8 * N)).take (7 - p.1).toNat))) (fun p => (p.1 + 1).toNat) (7, ao, no, co) (by kernel_rfl) ?_ ?_
 ·exact ⟨Pr.refl _ _, ⟨by dsimp only; omega, by dsimp only; omega⟩, by simpa using O1⟩
 rintro p j w13 ⟨x13, hI⟩
 have zw13 := x13.size
 obtain ⟨i, a5, n5, c5⟩ := p
 dsimp only at hI
 obtain ⟨g1, O1⟩ := hI
 have hol5 := O1.len
 simp only [List.length_append, List.length_singleton, List.length_replicate, List.length_take, S.be8_len] at hol5
 refine C.nmU ?_
 refine wx fun _ J14 => sq fun _ J15 => RS.mvI rfl ?_
 refine RS.o (D.ge rfl rfl) ?_
 refine nl J15 ?_
 replace hE := hE.trans x13.belo
 refine C.ifd rfl (fun c16 => ?_) (fun c16 => ?_)
 ·refine wp_skip (J14 _ _ (wx fun _ J17 => wp_block (region (RS.mvS rfl (RS.mvI rfl ?_)))))
  refine RS.o (D.conv rfl V3 V46 (W.u64 (by omega))) ?_
  refine RS.o (D.mul rfl rfl (W.u64 (by omega))) ?_
  refine RS.mvI rfl ?_
  refine RS.o (D.mul rfl rfl (W.i64 (by omega))) ?_
  refine RS.ob (D.shr_u64 rfl rfl (by omega) (by constructor <;> omega)) (fun z18 => ?_)
  refine RS.o (D.conv rfl V46 V5 (W.u8m _)) ?_
  refine RS.buildSlice (xs := [.tmp 27]) (vs := [.int _ _]) (cs := [.int _ _]) V115 T5 (by decide) rfl rfl rfl rfl rfl rfl (by intro v hv; simp only [List.mem_cons, List.not_mem_nil, or_false] at hv; subst hv; rfl) rfl (fun b19 w19 e19 s19 x19 B19 => ?_)
  refine RS.nm ?_
  have zw19 := x19.size
  have Q1 : IRow .u8 (fun k => k = b19) w19 (some ⟨b19, 0, none⟩) 1 [_] := IRow.of_blk B19 rfl rfl rfl (.cons (by simp only [lim]; omega) (.nil _))
  replace O1 := O1.ext x19
  refine RS.appendI O1 Q1 rfl rfl V115 T5 rfl (by omega) (by decide) (by omega) (fun a20 c20 w20 N20 x20 => ?_)
  refine RS.nm ?_
  replace hE := Ext.tr hE x19
  replace hE := hE.trans (x20.belQ (fun _ h => (O1.lo _ h).1))
  replace x13 := x13.ext x19
  replace x13 := x13.prnQ x20 (fun _ h => (O1.lo _ h).1)
  have zw20 := x20.size
  replace O1 := N20
  refine RS.asS rfl (nl J17 (region (RS.mvI rfl ?_)))
  refine RS.o (D.sub rfl rfl (W.i64 (by omega))) ?_
  refine RS.asI rfl (RS.nil ?_)
  change Nx _ _ _ _ _ _ _ _
  refine C.next (i - 1, _, _, _) ⟨rfl, rfl, trivial⟩ (by kernel_rfl) ?_ ?_
  ·refine ⟨x13, ⟨by dsimp only; omega, by dsimp only; omega⟩, ?_⟩
   dsimp only
   rw [S.be8_snoc' _ _ (by omega), ← List.append_assoc]
   exact O1
  dsimp only; omega
 refine wp_exit (J11 _ _ (sq fun _ J21 => RS.mvS rfl (RS.asS rfl (nl J21 (wp_ret ?_)))))
 refine retS ?_
 rw [show i = -1 by omega, show (7 - (-1 : Int)).toNat = 8 from rfl, List.take_of_length_le (by rw [S.be8_len]; exact Nat.le_refl _), S.pad_eq N _ rfl] at O1
 exact ⟨_, rfl, hE, _, _, _, rfl, O1⟩
theorem E216 : Enters Tryz.prog 216 := .mk Tryz.func216 (by kernel_rfl) rfl
theorem E217 : Enters Tryz.prog 217 := .mk Tryz.func217 (by kernel_rfl) rfl
theorem ground {S0 : Nat → Prop} (h : List Int) (a : Option Addr) (n c : Nat) (bs : List Int) (w : World) (H : Arr .u32 8 h) (R0 : IRow .u8 S0 w a n bs) (hn : 64 ≤ n) (hc : n ≤ c) :
  Calls Tryz.prog 195 #[.agg (ints .u32 h).toArray, .slice a n c] w (Ret w fun v _ => v = .agg (ints .u32 (S.grind h bs)).toArray) := by
 replace R0 := R0.weaken (T := fun k => k < w.heap.size) (fun k hk _ => hk)
 have hl0 := R0.len
 have hhl := H.1
 have hE := Ext.refl w
 refine enterU 201 Tryz.func195 rfl rfl ?_
 refine sq fun _ J1 => ?_
 refine RS.box rfl rfl (fun b2 w2 e2 s2 x2 B2 => ?_)
 refine RS.nm ?_
 have zw2 := x2.size
 have A2 := IArr.ofA (n := 8) B2 H
 clear B2
 refine RS.alloc T210 (fun b3 w3 e3 s3 x3 B3 => ?_)
 refine RS.nm ?_
 have zw3 := x3.size
 have A3 : IArr .u32 w3 b3 8 (List.replicate 8 0) [] 210 := IArr.zero B3
 clear B3
 refine nl J1 (sq fun _ J4 => ?_)
 refine RS.asS rfl (nl J4 (wx fun _ J5 => sq fun _ J6 => RS.asI rfl (nl J6 (wp_block ?_))))
 refine C.loop (A := Int × Option Addr × Nat × Nat) (fun p => [(5, .slice p.2.1 p.2.2.1 p.2.2.2), (6, .int .i64 p.1)]) [22, 23, 24, 25, 26, 27, 28, 29, 30, 31, 32, 33, 34, 35, 36, 37, 38, 39, 40, 41, 42, 43, 44, 45, 46, 47, 48, 49, 50, 51, 52, 53, 54, 55, 56, 57, 58, 59, 60, 61] (fun p w' => Pr (fun k => b3 < k) w3 w' ∧ ((0 ≤ p.1 ∧ p.1 ≤ 16) ∧ IOwn (b3 + 1) w' 45 .u32 p.2.1 p.2.2.1 p.2.2.2 ((S.words bs).take p.1.toNat))) (fun p => (16 - p.1.toNat)) (0, none, 0, 0) (by kernel_rfl) ?_ ?_
 ·exact ⟨Pr.refl _ _, ⟨by dsimp only; omega, by dsimp only; omega⟩, IOwn.nil _ _ _ _⟩
 rintro p j w7 ⟨x7, hI⟩
 have zw7 := x7.size
 obtain ⟨i, ao, no, co⟩ := p
 dsimp only at hI
 obtain ⟨h1, O1⟩ := hI
 have hol := O1.len
 rw [List.length_take, S.words_len] at hol
 refine C.nmU ?_
 refine wx fun _ J8 => sq fun _ J9 => RS.mvI rfl ?_
 refine RS.o (D.lt rfl rfl) ?_
 refine nl J9 ?_
 replace hE := (Ext.tr (Ext.tr hE x2) x3).trans x7.belo
 replace R0 := ((R0.ext x2).ext x3).pro x7
 replace A2 := (A2.ext x3).pro x7
 replace A3 := A3.pro x7
 refine C.ifd rfl (fun c10 => ?_) (fun c10 => ?_)
 ·refine wp_skip (J8 _ _ (wx fun _ J11 => wp_block ?_))
  refine regionX Ext [(0, .q), (1, .q), (2, .q), (3, .q), (4, .q), (5, .q), (6, .q), (7, .q), (8, .q), (9, .q), (10, .q), (11, .q), (12, .q), (13, .q), (14, .q), (15, .q), (16, .q), (17, .q), (18, .q), (19, .q), (20, .q), (21, .q), (22, .q), (23, .q), (24, .q), (25, .q), (26, .q), (27, .q), (28, .q), (29, .q), (30, .q), (31, .q), (32, .q), (33, .q), (34, .e), (35, .g), (36, .q)] mixed Ext.refl (fun h k => h.tr k) (by kernel_rfl) (fun w12 x12 => ?_)
  have zw12 := x12.size
  refine RX.mvS rfl (RX.mvS rfl (RX.mvI rfl ?_))
  refine RX.o (fun w' hw => D.mul rfl rfl (W.i64 (by omega))) ?_
  replace R0 := R0.ext x12
  refine RX.idx (fun _ h => h) R0 rfl rfl V115 C5 (by omega) (fun b13 o13 v13 h13 q13 r13 => ?_)
  refine RX.nm ?_
  simp only [lim] at r13
  have q0 := q13
  refine RX.o (fun w' hw => D.load rfl V5 rfl (h13 w' hw)) ?_
  refine RX.o (fun w' hw => D.conv rfl V5 V45 (W.u32 (by omega))) ?_
  refine RX.o (fun w' hw => D.mul rfl rfl (W.u32 (by omega))) ?_
  refine RX.mvS rfl (RX.mvI rfl ?_)
  refine RX.o (fun w' hw => D.mul rfl rfl (W.i64 (by omega))) ?_
  refine RX.o (fun w' hw => D.add rfl rfl (W.i64 (by omega))) ?_
  refine RX.idx (fun _ h => h) R0 rfl rfl V115 C5 (by omega) (fun b14 o14 v14 h14 q14 r14 => ?_)
  refine RX.nm ?_
  simp only [lim] at r14
  have q1 := q14
  refine RX.o (fun w' hw => D.load rfl V5 rfl (h14 w' hw)) ?_
  refine RX.o (fun w' hw => D.conv rfl V5 V45 (W.u32 (by omega))) ?_
  refine RX.o (fun w' hw => D.add rfl rfl (W.u32 (by omega))) ?_
  refine RX.o (fun w' hw => D.mul rfl rfl (W.u32 (by omega))) ?_
  refine RX.mvS rfl (RX.mvI rfl ?_)
  refine RX.o (fun w' hw => D.mul rfl rfl (W.i64 (by omega))) ?_
  refine RX.o (fun w' hw => D.add rfl rfl (W.i64 (by omega))) ?_
  refine RX.idx (fun _ h => h) R0 rfl rfl V115 C5 (by omega) (fun b15 o15 v15 h15 q15 r15 => ?_)
  refine RX.nm ?_
  simp only [lim] at r15
  have q2 := q15
  refine RX.o (fun w' hw => D.load rfl V5 rfl (h15 w' hw)) ?_
  refine RX.o (fun w' hw => D.conv rfl V5 V45 (W.u32 (by omega))) ?_
  refine RX.o (fun w' hw => D.add rfl rfl (W.u32 (by omega))) ?_
  refine RX.o (fun w' hw => D.mul rfl rfl (W.u32 (by omega))) ?_
  refine RX.mvS rfl (RX.mvI rfl ?_)
  refine RX.o (fun w' hw => D.mul rfl rfl (W.i64 (by omega))) ?_
  refine RX.o (fun w' hw => D.add rfl rfl (W.i64 (by omega))) ?_
  refine RX.idx (fun _ h => h) R0 rfl rfl V115 C5 (by omega) (fun b16 o16 v16 h16 q16 r16 => ?_)
  refine RX.nm ?_
  simp only [lim] at r16
  have q3 := q16
  refine RX.o (fun w' hw => D.load rfl V5 rfl (h16 w' hw)) ?_
  refine RX.o (fun w' hw => D.conv rfl V5 V45 (W.u32 (by omega))) ?_
  refine RX.o (fun w' hw => D.add rfl rfl (W.u32 (by omega))) ?_
  refine RX.eff ?_
  refine RS.buildSlice (xs := [.tmp 59]) (vs := [.int _ _]) (cs := [.int _ _]) V255 T45 (by decide) rfl rfl rfl rfl rfl rfl (by intro v hv; simp only [List.mem_cons, List.not_mem_nil, or_false] at hv; subst hv; rfl) rfl (fun b17 w17 e17 s17 x17 B17 => ?_)
  refine RS.nm ?_
  have zw17 := x17.size
  have Q1 : IRow .u32 (fun k => k = b17) w17 (some ⟨b17, 0, none⟩) 1 [_] := IRow.of_blk B17 rfl rfl rfl (.cons (by simp only [lim]; omega) (.nil _))
  refine RS.nil ⟨x17, ?_⟩
  refine RX.big ?_
  replace O1 := (O1.ext x12).ext x17
  refine RS.appendI O1 Q1 rfl rfl V255 T45 rfl (by omega) (by decide) (by omega) (fun a18 c18 w18 N18 x18 => ?_)
  refine RS.nm ?_
  replace hE := Ext.tr (Ext.tr hE x12) x17
  replace hE := hE.trans (x18.belQ (fun _ h => (O1.lo _ h).1))
  replace x7 := (x7.ext x12).ext x17
  replace x7 := x7.prnQ x18 (fun _ h => (O1.lo _ h).1)
  replace R0 := R0.ext x17
  replace R0 := R0.prQ x18 (fun _ h => (O1.lo _ h).1)
  replace A2 := (A2.ext x12).ext x17
  replace A2 := A2.prQ x18 (fun _ h => (O1.lo _ h).1)
  replace A3 := (A3.ext x12).ext x17
  replace A3 := A3.prQ x18 (fun _ h => (O1.lo _ h).1)
  have zw18 := x18.size
  replace O1 := N18
  refine RS.nil ?_
  refine RX.assign (v := .slice _ _ _) rfl ?_
  refine RX.nil (J11 _ _ ?_)
  refine region (RS.mvI rfl ?_)
  refine RS.o (D.add rfl rfl (W.i64 (by omega))) ?_
  refine RS.asI rfl (RS.nil ?_)
  change Nx _ _ _ _ _ _ _ _
  refine C.next (i + 1, _, _, _) ⟨rfl, rfl, trivial⟩ (by kernel_rfl) ?_ ?_
  ·refine ⟨x7, ⟨by dsimp only; omega, by dsimp only; omega⟩, ?_⟩
   dsimp only
   rw [S.words_snoc bs i ⟨by omega, by omega⟩ (by omega) _ _ _ _ q0 q1 q2 q3]
   exact O1
  dsimp only; omega
 refine wp_exit (J5 _ _ (wx fun _ J19 => sq fun _ J20 => RS.asI rfl (nl J20 (wp_block ?_))))
 refine C.loop (A := Int × Option Addr × Nat × Nat) (fun p => [(5, .slice p.2.1 p.2.2.1 p.2.2.2), (7, .int .i64 p.1)]) [8, 9, 62, 63, 64, 65, 66, 67, 68, 69, 70, 71, 72, 73, 74, 75, 76, 77, 78, 79, 80, 81, 82, 83, 84, 85, 86, 87, 88, 89, 90, 91, 92, 93, 94, 95, 96, 97, 98, 99, 100, 101, 102, 103, 104, 105, 106, 107] (fun p w' => Pr (fun k => b3 < k) w7 w' ∧ ((16 ≤ p.1 ∧ p.1 ≤ 64) ∧ IOwn (b3 + 1) w' 45 .u32 p.2.1 p.2.2.1 p.2.2.2 (S.sch bs (p.1.toNat - 16)))) (fun p => (64 - p.1.toNat)) (16, ao, no, co) (by kernel_rfl) ?_ ?_
 ·rw [show i.toNat = 16 by omega, S.words_all] at O1
  exact ⟨Pr.refl _ _, ⟨by dsimp only; omega, by dsimp only; omega⟩, O1⟩
 rintro p j w21 ⟨x21, hI⟩
 have zw21 := x21.size
 obtain ⟨t, a5, n5, c5⟩ := p
 dsimp only at hI
 obtain ⟨h2, O1⟩ := hI
 have hol5 := O1.len
 rw [S.sch_len] at hol5
 have R5 := O1.row
 refine C.nmU ?_
 refine wx fun _ J22 => sq fun _ J23 => RS.mvI rfl ?_
 refine RS.o (D.lt rfl rfl) ?_
 refine nl J23 ?_
 replace hE := hE.trans x21.belo
 replace A2 := A2.pro x21
 replace A3 := A3.pro x21
 refine C.ifd rfl (fun c24 => ?_) (fun c24 => ?_)
 ·refine wp_skip (J22 _ _ (wx fun _ J25 => wp_block (wx fun _ J26 => ?_)))
  refine regionX Ext [(0, .q), (1, .q), (2, .q), (3, .q), (4, .q), (5, .q), (6, .q), (7, .q), (8, .q), (9, .q), (10, .q), (11, .q)] mixed Ext.refl (fun h k => h.tr k) (by kernel_rfl) (fun w27 x27 => ?_)
  replace R0 := R0.pro x21
  have zw27 := x27.size
  refine RX.mvS rfl (RX.mvI rfl ?_)
  refine RX.o (fun w' hw => D.sub rfl rfl (W.i64 (by omega))) ?_
  replace R5 := R5.ext x27
  refine RX.idx (fun _ h => h) R5 rfl rfl V255 C45 (by omega) (fun b28 o28 v28 h28 q28 r28 => ?_)
  refine RX.nm ?_
  simp only [lim] at r28
  have p1 := q28
  refine RX.o (fun w' hw => D.load rfl V45 rfl (h28 w' hw)) ?_
  refine RX.mvS rfl (RX.mvI rfl ?_)
  refine RX.o (fun w' hw => D.sub rfl rfl (W.i64 (by omega))) ?_
  refine RX.idx (fun _ h => h) R5 rfl rfl V255 C45 (by omega) (fun b29 o29 v29 h29 q29 r29 => ?_)
  refine RX.nm ?_
  simp only [lim] at r29
  have p2 := q29
  refine RX.o (fun w' hw => D.load rfl V45 rfl (h29 w' hw)) ?_
  refine RX.assign (v := .int _ _) rfl ?_
  refine RX.assign (v := .int _ _) rfl ?_
  refine RX.nil (J26 _ _ ?_)
  refine regionX Ext [(0, .q), (1, .q), (2, .q), (3, .q), (4, .q), (5, .q), (6, .q), (7, .q), (8, .q), (9, .q), (10, .q), (11, .q), (12, .q), (14, .q), (17, .q), (18, .q), (21, .q), (23, .q), (26, .q), (27, .q), (13, .e), (15, .e), (16, .q), (19, .q), (20, .q), (22, .e), (24, .e), (25, .q), (28, .q), (29, .q), (30, .e), (31, .g), (32, .q)] mixed Ext.refl (fun h k => h.tr k) (by kernel_rfl) (fun w30 x30 => ?_)
  have zw30 := x30.size
  refine RX.mvS rfl (RX.mvS rfl (RX.mvI rfl ?_))
  refine RX.o (fun w' hw => D.sub rfl rfl (W.i64 (by omega))) ?_
  replace R5 := R5.ext x30
  refine RX.idx (fun _ h => h) R5 rfl rfl V255 C45 (by omega) (fun b31 o31 v31 h31 q31 r31 => ?_)
  refine RX.nm ?_
  simp only [lim] at r31
  have p3 := q31
  refine RX.o (fun w' hw => D.load rfl V45 rfl (h31 w' hw)) ?_
  refine RX.mvS rfl (RX.mvI rfl ?_)
  refine RX.o (fun w' hw => D.sub rfl rfl (W.i64 (by omega))) ?_
  refine RX.idx (fun _ h => h) R5 rfl rfl V255 C45 (by omega) (fun b32 o32 v32 h32 q32 r32 => ?_)
  refine RX.nm ?_
  simp only [lim] at r32
  have p4 := q32
  refine RX.o (fun w' hw => D.load rfl V45 rfl (h32 w' hw)) ?_
  refine RX.o (fun w' hw => D.add rfl rfl (W.u32m _)) ?_
  refine RX.mvI rfl (RX.mvI rfl (RX.mvI rfl ?_))
  refine RX.ob (Ext.refl _) (fun w' hw => D.shr_u32 rfl rfl (by omega) (by constructor <;> omega)) (fun z33 => ?_)
  refine RX.mvI rfl (RX.mvI rfl (RX.mvI rfl ?_))
  refine RX.ob (Ext.refl _) (fun w' hw => D.shr_u32 rfl rfl (by omega) (by constructor <;> omega)) (fun z34 => ?_)
  refine RX.eff ?_
  refine RS.call E216 (turn _ (by omega) 7 (by omega) _) rfl (fun v35 w35 x35 A35 => ?_)
  have zw35 := x35.size
  subst A35
  have g35 := S.rotr_bd v28 7 (by omega)
  refine RS.nm ?_
  refine RS.nil ⟨x35, ?_⟩
  refine RX.eff ?_
  refine RS.call E216 (turn _ (by omega) 18 (by omega) _) rfl (fun v36 w36 x36 A36 => ?_)
  have zw36 := x36.size
  subst A36
  have g36 := S.rotr_bd v28 18 (by omega)
  refine RS.nm ?_
  refine RS.nil ⟨x36, ?_⟩
  refine RX.ob (Ext.refl _) (fun w' hw => D.bxor_u32 rfl rfl (by omega) (by omega)) (fun z37 => ?_)
  refine RX.ob (Ext.refl _) (fun w' hw => D.bxor_u32 rfl rfl (by omega) (by omega)) (fun z38 => ?_)
  refine RX.o (fun w' hw => D.add rfl rfl (W.u32m _)) ?_
  refine RX.eff ?_
  refine RS.call E216 (turn _ (by omega) 17 (by omega) _) rfl (fun v39 w39 x39 A39 => ?_)
  have zw39 := x39.size
  subst A39
  have g39 := S.rotr_bd v29 17 (by omega)
  refine RS.nm ?_
  refine RS.nil ⟨x39, ?_⟩
  refine RX.eff ?_
  refine RS.call E216 (turn _ (by omega) 19 (by omega) _) rfl (fun v40 w40 x40 A40 => ?_)
  have zw40 := x40.size
  subst A40
  have g40 := S.rotr_bd v29 19 (by omega)
  refine RS.nm ?_
  refine RS.nil ⟨x40, ?_⟩
  refine RX.ob (Ext.refl _) (fun w' hw => D.bxor_u32 rfl rfl (by omega) (by omega)) (fun z41 => ?_)
  refine RX.ob (Ext.refl _) (fun w' hw => D.bxor_u32 rfl rfl (by omega) (by omega)) (fun z42 => ?_)
  refine RX.o (fun w' hw => D.add rfl rfl (W.u32m _)) ?_
  refine RX.eff ?_
  refine RS.buildSlice (xs := [.tmp 105]) (vs := [.int _ _]) (cs := [.int _ _]) V255 T45 (by decide) rfl rfl rfl rfl rfl rfl (by intro v hv; simp only [List.mem_cons, List.not_mem_nil, or_false] at hv; subst hv; rfl) rfl (fun b43 w43 e43 s43 x43 B43 => ?_)
  refine RS.nm ?_
  have zw43 := x43.size
  have Q1 : IRow .u32 (fun k => k = b43) w43 (some ⟨b43, 0, none⟩) 1 [_] := IRow.of_blk B43 rfl rfl rfl (.cons (by simp only [lim]; omega) (.nil _))
  refine RS.nil ⟨x43, ?_⟩
  refine RX.big ?_
  replace O1 := ((((((O1.ext x27).ext x30).ext x35).ext x36).ext x39).ext x40).ext x43
  refine RS.appendI O1 Q1 rfl rfl V255 T45 rfl (by omega) (by decide) (by omega) (fun a44 c44 w44 N44 x44 => ?_)
  refine RS.nm ?_
  replace hE := Ext.tr (Ext.tr (Ext.tr (Ext.tr (Ext.tr (Ext.tr (Ext.tr hE x27) x30) x35) x36) x39) x40) x43
  replace hE := hE.trans (x44.belQ (fun _ h => (O1.lo _ h).1))
  replace x21 := ((((((x21.ext x27).ext x30).ext x35).ext x36).ext x39).ext x40).ext x43
  replace x21 := x21.prnQ x44 (fun _ h => (O1.lo _ h).1)
  replace R0 := ((((((R0.ext x27).ext x30).ext x35).ext x36).ext x39).ext x40).ext x43
  replace R0 := R0.prQ x44 (fun _ h => (O1.lo _ h).1)
  replace A2 := ((((((A2.ext x27).ext x30).ext x35).ext x36).ext x39).ext x40).ext x43
  replace A2 := A2.prQ x44 (fun _ h => (O1.lo _ h).1)
  replace A3 := ((((((A3.ext x27).ext x30).ext x35).ext x36).ext x39).ext x40).ext x43
  replace A3 := A3.prQ x44 (fun _ h => (O1.lo _ h).1)
  have zw44 := x44.size
  replace O1 := N44
  refine RS.nil ?_
  refine RX.assign (v := .slice _ _ _) rfl ?_
  refine RX.nil (J25 _ _ ?_)
  refine region (RS.mvI rfl ?_)
  refine RS.o (D.add rfl rfl (W.i64 (by omega))) ?_
  refine RS.asI rfl (RS.nil ?_)
  change Nx _ _ _ _ _ _ _ _
  refine C.next (t + 1, _, _, _) ⟨rfl, rfl, trivial⟩ (by kernel_rfl) ?_ ?_
  ·refine ⟨x21, ⟨by dsimp only; omega, by dsimp only; omega⟩, ?_⟩
   dsimp only
   rw [S.sch_snoc bs t ⟨by omega, by omega⟩]
   subst p1 p2 p3 p4
   exact O1
  dsimp only; omega
 refine wp_exit (J19 _ _ (wx fun _ J45 => ?_))
 rw [show t.toNat - 16 = 48 by omega] at O1
 have R6 := O1.row.weaken (T := fun k => b3 < k ∧ k < w21.heap.size) (fun k hk h => ⟨by omega, hk⟩)
 refine region ?_
 refine RS.call E217 (constants _) rfl (fun v46 w46 x46 A46 => ?_)
 have zw46 := x46.size
 obtain ⟨b46, rfl, g46, RK⟩ := A46
 replace RK := RK.weaken (T := fun k => k < w46.heap.size) (fun k hk _ => hk)
 refine RS.nm ?_
 refine RS.asS rfl ?_
 refine nl J45 (sq fun _ J47 => ?_)
 replace A2 := A2.ext x46
 refine RS.o (D.loadAgg rfl V210 rfl C210 (by decide) (by rw [ints_length, A2.len]) A2.cells) ?_
 refine RS.alloc T210 (fun b48 w48 e48 s48 x48 B48 => ?_)
 refine RS.nm ?_
 have zw48 := x48.size
 have A48 : IArr .u32 w48 b48 8 (List.replicate 8 0) [] 210 := IArr.zero B48
 clear B48
 refine RS.storeArr A48 rfl rfl C210 (by decide) H.1 H.2 (fun w49 y49 N49 => ?_)
 have zw49 := y49.size
 replace A48 := N49
 refine nl J47 (wx fun _ J50 => sq fun _ J51 => RS.asI rfl (nl J51 (wp_block ?_)))
 refine C.loop (A := Int × S.H8) (fun p => [(12, .int .i64 p.1)]) [13, 14, 15, 16, 17, 18, 19, 20, 110, 111, 112, 113, 114, 115, 116, 117, 118, 119, 120, 121, 122, 123, 124, 125, 126, 127, 128, 129, 130, 131, 132, 133, 134, 135, 136, 137, 138, 139, 140, 141, 142, 143, 144, 145, 146, 147, 148, 149, 150, 151, 152, 153, 154, 155, 156, 157, 158, 159, 160, 161, 162, 163, 164, 165, 166, 167, 168, 169, 170, 171, 172, 173, 174, 175, 176, 177, 178, 179, 180, 181, 182, 183, 184, 185, 186, 187, 188, 189] (fun p w' => Pr (fun k => k = b48) w49 w' ∧ (IArr .u32 w' b48 8 p.2.toL [] 210 ∧ (0 ≤ p.1 ∧ p.1 ≤ 64) ∧ p.2 = S.rounds (S.sch bs 48) (S.H8.of h) p.1.toNat)) (fun p => (64 - p.1.toNat)) (0, S.H8.of h) (by kernel_rfl) ?_ ?_
 ·have e8 : h = (S.H8.of h).toL := S.toL_of h H.1
  refine ⟨Pr.refl _ _, ?_, ⟨by dsimp only; omega, by dsimp only; omega⟩, ?_⟩
  ·dsimp only; rw [← e8]; exact A48
  show S.H8.of h = S.rounds _ _ (0 : Int).toNat; rw [show (0 : Int).toNat = 0 from rfl, S.rounds_zero]
 rintro p j w52 ⟨x52, hI⟩
 have zw52 := x52.size
 obtain ⟨i3, st⟩ := p
 dsimp only at hI
 obtain ⟨A48, g1, g2⟩ := hI
 have hok : st.ok := by rw [g2]; exact S.rounds_ok _ _ (S.H8.of_ok _ H.2) _
 have hst := S.ok_arr st hok
 refine C.nmU ?_
 refine wx fun _ J53 => sq fun _ J54 => RS.mvI rfl ?_
 refine RS.o (D.lt rfl rfl) ?_
 refine nl J54 (C.ifd rfl (fun c55 => ?_) (fun c55 => ?_))
 ·refine wp_skip (J53 _ _ (wx fun _ J56 => wp_block (wx fun _ J57 => ?_)))
  refine regionX Ext [(0, .q), (1, .q), (2, .q), (3, .q), (4, .q), (5, .q), (6, .q), (7, .q), (8, .q), (9, .q), (10, .q), (11, .q), (12, .q), (13, .q), (14, .q), (15, .q), (16, .q), (17, .q)] mixed Ext.refl (fun h k => h.tr k) (by kernel_rfl) (fun w58 x58 => ?_)
  replace R0 := ((((R0.pro x21).ext x46).ext x48).sto y49).pro x52
  replace hE := Ext.tr (((Ext.tr (Ext.tr hE x46) x48).trans y49.belo).trans x52.belo) x58
  replace A3 := (((A3.ext x46).ext x48).sto y49).pro x52
  replace R6 := (((R6.ext x46).ext x48).sto y49).pro x52
  replace A2 := ((A2.ext x48).sto y49).pro x52
  replace RK := ((RK.ext x48).sto y49).pro x52
  have zw58 := x58.size
  replace A48 := A48.ext x58
  refine RX.idxA (fun _ h => h) A48 rfl rfl V210 C45 (by decide) (fun v59 h59 q59 r59 => ?_)
  refine RX.nm ?_
  simp only [lim] at r59
  obtain rfl : v59 = st.a := q59
  refine RX.o (fun w' hw => D.load rfl V45 rfl (h59 w' hw)) ?_
  refine RX.idxA (fun _ h => h) A48 rfl rfl V210 C45 (by decide) (fun v60 h60 q60 r60 => ?_)
  refine RX.nm ?_
  simp only [lim] at r60
  obtain rfl : v60 = st.b := q60
  refine RX.o (fun w' hw => D.load rfl V45 rfl (h60 w' hw)) ?_
  refine RX.idxA (fun _ h => h) A48 rfl rfl V210 C45 (by decide) (fun v61 h61 q61 r61 => ?_)
  refine RX.nm ?_
  simp only [lim] at r61
  obtain rfl : v61 = st.c := q61
  refine RX.o (fun w' hw => D.load rfl V45 rfl (h61 w' hw)) ?_
  refine RX.idxA (fun _ h => h) A48 rfl rfl V210 C45 (by decide) (fun v62 h62 q62 r62 => ?_)
  refine RX.nm ?_
  simp only [lim] at r62
  obtain rfl : v62 = st.e := q62
  refine RX.o (fun w' hw => D.load rfl V45 rfl (h62 w' hw)) ?_
  refine RX.idxA (fun _ h => h) A48 rfl rfl V210 C45 (by decide) (fun v63 h63 q63 r63 => ?_)
  refine RX.nm ?_
  simp only [lim] at r63
  obtain rfl : v63 = st.f := q63
  refine RX.o (fun w' hw => D.load rfl V45 rfl (h63 w' hw)) ?_
  refine RX.idxA (fun _ h => h) A48 rfl rfl V210 C45 (by decide) (fun v64 h64 q64 r64 => ?_)
  refine RX.nm ?_
  simp only [lim] at r64
  obtain rfl : v64 = st.g := q64
  refine RX.o (fun w' hw => D.load rfl V45 rfl (h64 w' hw)) ?_
  refine RX.assign (v := .int _ _) rfl ?_
  refine RX.assign (v := .int _ _) rfl ?_
  refine RX.assign (v := .int _ _) rfl ?_
  refine RX.assign (v := .int _ _) rfl ?_
  refine RX.assign (v := .int _ _) rfl ?_
  refine RX.assign (v := .int _ _) rfl ?_
  refine RX.nil (J57 _ _ ?_)
  refine wx fun _ J65 => ?_
  refine regionX Ext [(0, .q), (1, .q), (2, .q), (4, .q), (7, .q), (11, .q), (12, .q), (13, .q), (14, .q), (15, .q), (16, .q), (17, .q), (18, .q), (20, .q), (21, .q), (22, .q), (23, .q), (25, .q), (26, .q), (27, .q), (28, .q), (3, .e), (5, .e), (6, .q), (8, .e), (9, .q), (10, .q), (19, .q), (24, .q), (29, .q), (30, .q)] mixed Ext.refl (fun h k => h.tr k) (by kernel_rfl) (fun w66 x66 => ?_)
  have zw66 := x66.size
  replace A48 := A48.ext x66
  refine RX.idxA (fun _ h => h) A48 rfl rfl V210 C45 (by decide) (fun v67 h67 q67 r67 => ?_)
  refine RX.nm ?_
  simp only [lim] at r67
  obtain rfl : v67 = st.h := q67
  refine RX.o (fun w' hw => D.load rfl V45 rfl (h67 w' hw)) ?_
  refine RX.mvI rfl (RX.mvI rfl (RX.mvI rfl (RX.mvI rfl (RX.mvI rfl ?_))))
  refine RX.ob (Ext.refl _) (fun w' hw => D.band_u32 rfl rfl (by omega) (by omega)) (fun z68 => ?_)
  refine RX.mvI rfl ?_
  refine RX.o (fun w' hw => D.inv rfl (by omega)) ?_
  refine RX.mvI rfl ?_
  refine RX.ob (Ext.refl _) (fun w' hw => D.band_u32 rfl rfl (by omega) (by omega)) (fun z69 => ?_)
  refine RX.ob (Ext.refl _) (fun w' hw => D.bxor_u32 rfl rfl (by omega) (by omega)) (fun z70 => ?_)
  refine RX.mvS rfl (RX.mvI rfl ?_)
  replace RK := (RK.ext x58).ext x66
  refine RX.idx (fun _ h => h) RK rfl rfl V255 C45 (by omega) (fun b71 o71 v71 h71 q71 r71 => ?_)
  refine RX.nm ?_
  simp only [lim] at r71
  have qk := q71
  refine RX.o (fun w' hw => D.load rfl V45 rfl (h71 w' hw)) ?_
  refine RX.mvS rfl (RX.mvI rfl ?_)
  replace R6 := (R6.ext x58).ext x66
  refine RX.idx (fun _ h => h) R6 rfl rfl V255 C45 (by omega) (fun b72 o72 v72 h72 q72 r72 => ?_)
  refine RX.nm ?_
  simp only [lim] at r72
  have qw := q72
  refine RX.o (fun w' hw => D.load rfl V45 rfl (h72 w' hw)) ?_
  refine RX.eff ?_
  refine RS.call E216 (turn _ (by omega) 6 (by omega) _) rfl (fun v73 w73 x73 A73 => ?_)
  have zw73 := x73.size
  subst A73
  have g73 := S.rotr_bd st.e 6 (by omega)
  refine RS.nm ?_
  refine RS.nil ⟨x73, ?_⟩
  refine RX.eff ?_
  refine RS.call E216 (turn _ (by omega) 11 (by omega) _) rfl (fun v74 w74 x74 A74 => ?_)
  have zw74 := x74.size
  subst A74
  have g74 := S.rotr_bd st.e 11 (by omega)
  refine RS.nm ?_
  refine RS.nil ⟨x74, ?_⟩
  refine RX.ob (Ext.refl _) (fun w' hw => D.bxor_u32 rfl rfl (by omega) (by omega)) (fun z75 => ?_)
  refine RX.eff ?_
  refine RS.call E216 (turn _ (by omega) 25 (by omega) _) rfl (fun v76 w76 x76 A76 => ?_)
  have zw76 := x76.size
  subst A76
  have g76 := S.rotr_bd st.e 25 (by omega)
  refine RS.nm ?_
  refine RS.nil ⟨x76, ?_⟩
  refine RX.ob (Ext.refl _) (fun w' hw => D.bxor_u32 rfl rfl (by omega) (by omega)) (fun z77 => ?_)
  refine RX.o (fun w' hw => D.add rfl rfl (W.u32m _)) ?_
  refine RX.o (fun w' hw => D.add rfl rfl (W.u32m _)) ?_
  refine RX.o (fun w' hw => D.add rfl rfl (W.u32m _)) ?_
  refine RX.o (fun w' hw => D.add rfl rfl (W.u32m _)) ?_
  refine RX.assign (v := .int _ _) rfl ?_
  refine RX.nil (J65 _ _ ?_)
  refine sq fun _ J78 => RS.mvI rfl ?_
  refine RS.call E216 (turn _ (by omega) 2 (by omega) _) rfl (fun v79 w79 x79 A79 => ?_)
  have zw79 := x79.size
  subst A79
  have g79 := S.rotr_bd st.a 2 (by omega)
  refine RS.nm ?_
  refine RS.mvI rfl ?_
  refine RS.call E216 (turn _ (by omega) 13 (by omega) _) rfl (fun v80 w80 x80 A80 => ?_)
  have zw80 := x80.size
  subst A80
  have g80 := S.rotr_bd st.a 13 (by omega)
  refine RS.nm ?_
  refine RS.ob (D.bxor_u32 rfl rfl (by omega) (by omega)) (fun z81 => ?_)
  refine RS.mvI rfl ?_
  refine RS.call E216 (turn _ (by omega) 22 (by omega) _) rfl (fun v82 w82 x82 A82 => ?_)
  have zw82 := x82.size
  subst A82
  have g82 := S.rotr_bd st.a 22 (by omega)
  refine RS.nm ?_
  refine RS.ob (D.bxor_u32 rfl rfl (by omega) (by omega)) (fun z83 => ?_)
  refine RS.mvI rfl (RS.mvI rfl ?_)
  refine RS.ob (D.band_u32 rfl rfl (by omega) (by omega)) (fun z84 => ?_)
  refine RS.mvI rfl (RS.mvI rfl ?_)
  refine RS.ob (D.band_u32 rfl rfl (by omega) (by omega)) (fun z85 => ?_)
  refine RS.ob (D.bxor_u32 rfl rfl (by omega) (by omega)) (fun z86 => ?_)
  refine RS.mvI rfl (RS.mvI rfl ?_)
  refine RS.ob (D.band_u32 rfl rfl (by omega) (by omega)) (fun z87 => ?_)
  refine RS.ob (D.bxor_u32 rfl rfl (by omega) (by omega)) (fun z88 => ?_)
  refine RS.o (D.add rfl rfl (W.u32m _)) ?_
  refine RS.asI rfl (nl J78 (region (RS.mvI rfl (RS.mvI rfl ?_))))
  refine RS.o (D.add rfl rfl (W.u32m _)) ?_
  refine RS.mvI rfl (RS.mvI rfl (RS.mvI rfl ?_))
  replace A48 := (((((A48.ext x73).ext x74).ext x76).ext x79).ext x80).ext x82
  refine RS.idxA A48 rfl rfl V210 C45 (by decide) (fun v89 h89 q89 r89 => ?_)
  refine RS.nm ?_
  simp only [lim] at r89
  obtain rfl : v89 = st.d := q89
  refine RS.o (D.load rfl V45 rfl (h89)) ?_
  refine RS.mvI rfl ?_
  refine RS.o (D.add rfl rfl (W.u32m _)) ?_
  refine RS.mvI rfl (RS.mvI rfl (RS.mvI rfl ?_))
  refine RS.o (D.buildArr (xs := [.tmp 178, .tmp 179, .tmp 180, .tmp 181, .tmp 185, .tmp 186, .tmp 187, .tmp 188]) (vs := ints .u32 [_, _, _, _, _, _, _, _]) V210 T210 (by simp [ints]) C45 rfl rfl rfl (by intro v hv; obtain ⟨x, _, rfl⟩ := List.mem_map.1 hv; rfl)) ?_
  refine RS.storeArr A48 rfl rfl C210 (by decide) (S.ok_arr _ (S.rnd_ok v71 v72 st hok)).1 (S.ok_arr _ (S.rnd_ok v71 v72 st hok)).2 (fun w90 y90 N90 => ?_)
  replace x52 := (((((((x52.ext x58).ext x66).ext x73).ext x74).ext x76).ext x79).ext x80).ext x82
  replace x52 := x52.stno y90
  have zw90 := y90.size
  replace A48 := N90
  refine nl J56 (region (RS.mvI rfl ?_))
  refine RS.o (D.add rfl rfl (W.i64 (by omega))) ?_
  refine RS.asI rfl (RS.nil ?_)
  change Nx _ _ _ _ _ _ _ _
  refine C.next (i3 + 1, S.rnd v71 v72 st) ⟨rfl, trivial⟩ (by kernel_rfl) ?_ ?_
  ·refine ⟨x52, A48, ⟨by dsimp only; omega, by dsimp only; omega⟩, ?_⟩
   dsimp only
   rw [show (i3 + 1).toNat = i3.toNat + 1 by omega, S.rounds_succ, ← g2, qk, qw]
  dsimp only; omega
 refine wp_exit (J50 _ _ (wx fun _ J91 => sq fun _ J92 => RS.asI rfl (nl J92 (wp_block ?_))))
 replace A2 := ((A2.ext x48).sto y49).pro x52
 refine C.loop (A := Int × List Int) (fun p => [(21, .int .i64 p.1)]) [190, 191, 192, 193, 194, 195, 196, 197, 198, 199, 200, 201] (fun p w' => Pr (fun k => k = b2) w52 w' ∧ (IArr .u32 w' b2 8 p.2 [] 210 ∧ (0 ≤ p.1 ∧ p.1 ≤ 8) ∧ p.2 = (S.addW h st.toL).take p.1.toNat ++ h.drop p.1.toNat)) (fun p => (8 - p.1.toNat)) (0, h) (by kernel_rfl) ?_ ?_
 ·exact ⟨Pr.refl _ _, A2, ⟨by dsimp only; omega, by dsimp only; omega⟩, rfl⟩
 rintro p j w93 ⟨x93, hI⟩
 have zw93 := x93.size
 obtain ⟨j, xs⟩ := p
 dsimp only at hI
 obtain ⟨A2, f1, f2⟩ := hI
 have hxl := A2.len
 refine C.nmU ?_
 refine wx fun _ J94 => sq fun _ J95 => RS.mvI rfl ?_
 refine RS.o (D.lt rfl rfl) ?_
 refine nl J95 (C.ifd rfl (fun c96 => ?_) (fun c96 => ?_))
 ·refine wp_skip (J94 _ _ (wx fun _ J97 => wp_block ?_))
  refine regionX Ext [(0, .q), (1, .q), (2, .q), (3, .q), (4, .q), (5, .q), (6, .q), (7, .q), (8, .g)] mixed Ext.refl (fun h k => h.tr k) (by kernel_rfl) (fun w98 x98 => ?_)
  replace R0 := (((((R0.pro x21).ext x46).ext x48).sto y49).pro x52).pro x93
  replace hE := Ext.tr ((((Ext.tr (Ext.tr hE x46) x48).trans y49.belo).trans x52.belo).trans x93.belo) x98
  replace A3 := ((((A3.ext x46).ext x48).sto y49).pro x52).pro x93
  replace A48 := A48.pro x93
  have zw98 := x98.size
  refine RX.mvI rfl ?_
  replace A2 := A2.ext x98
  refine RX.idxA (fun _ h => h) A2 rfl rfl V210 C45 (by omega) (fun v99 h99 q99 r99 => ?_)
  refine RX.nm ?_
  simp only [lim] at r99
  have qz := q99
  refine RX.o (fun w' hw => D.load rfl V45 rfl (h99 w' hw)) ?_
  refine RX.mvI rfl ?_
  replace A48 := A48.ext x98
  refine RX.idxA (fun _ h => h) A48 rfl rfl V210 C45 (by omega) (fun v100 h100 q100 r100 => ?_)
  refine RX.nm ?_
  simp only [lim] at r100
  have qy := q100
  refine RX.o (fun w' hw => D.load rfl V45 rfl (h100 w' hw)) ?_
  refine RX.o (fun w' hw => D.add rfl rfl (W.u32m _)) ?_
  refine RX.idxA (fun _ h => h) A2 rfl rfl V210 C45 (by omega) (fun v101 h101 q101 r101 => ?_)
  refine RX.nm ?_
  simp only [lim] at r101
  refine RX.big ?_
  refine RS.storeA A2 rfl rfl C45 (by omega) (by simp only [lim]; omega) (fun w102 y102 N102 => ?_)
  replace x93 := x93.ext x98
  replace x93 := x93.stno y102
  have zw102 := y102.size
  replace A2 := N102
  refine RS.nil ?_
  refine RX.nil (J97 _ _ ?_)
  refine region (RS.mvI rfl ?_)
  refine RS.o (D.add rfl rfl (W.i64 (by omega))) ?_
  refine RS.asI rfl (RS.nil ?_)
  change Nx _ _ _ _ _ _ _ _
  refine C.next (j + 1, xs.set j.toNat ((v99 + v100) % 4294967296)) ⟨rfl, trivial⟩ (by kernel_rfl) ?_ ?_
  ·refine ⟨x93, A2, ⟨by dsimp only; omega, by dsimp only; omega⟩, ?_⟩
   dsimp only
   have e := S.add_step h st.toL xs j (by omega) hxl f2 hhl
   rw [qz, qy]
   exact e
  dsimp only; omega
 refine wp_exit (J91 _ _ (wx fun _ J103 => ?_))
 have harr := A2.arr
 refine region ?_
 refine RS.o (D.loadAgg rfl V210 rfl C210 (by decide) (by rw [ints_length, A2.len]) A2.cells) ?_
 replace A3 := ((((A3.ext x46).ext x48).sto y49).pro x52).pro x93
 refine RS.storeArr A3 rfl rfl C210 (by decide) (by first | assumption | exact And.left (by assumption) | exact IArr.len (by assumption)) (by first | assumption | exact And.right (by assumption) | exact IArr.bd (by assumption)) (fun w104 y104 N104 => ?_)
 have zw104 := y104.size
 replace A3 := N104
 refine nl J103 (wp_ret ?_)
 refine ret (rs := [.cell 4 210]) (vs := [.agg _]) (v := (.agg _)) rfl ⟨⟨_, rfl, loadVar_agg V210 rfl C210 (by decide) (by rw [ints_length, A3.len]) A3.cells⟩, trivial⟩ rfl ?_
 replace hE := ((((Ext.tr (Ext.tr hE x46) x48).trans y49.belo).trans x52.belo).trans x93.belo).trans y104.belo
 refine ⟨_, rfl, hE, ?_⟩
 rw [← S.grind_last h xs bs st (by rw [g2, show i3.toNat = 64 by omega]) (by rw [f2, show j.toNat = 8 by omega]) hhl]
end Go.Proofs.YtkmgnmebadghbaaGreatDoor.W
