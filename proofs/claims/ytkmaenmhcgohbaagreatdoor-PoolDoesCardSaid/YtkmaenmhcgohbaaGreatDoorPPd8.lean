/-
  Part 8 of the lemmas of these laws: PoolDoes.
-/
import Derived.Test.YtkmaenmhcgohbaaGreatDoorPPd7
set_option linter.unusedSimpArgs false
namespace Go.Proofs.YtkmaenmhcgohbaaGreatDoor.W
open Go.RowKit Go.Proofs.YtkmaenmhcgohbaaGreatDoor.G
set_option linter.unusedVariables false
set_option maxRecDepth 20000
set_option maxHeartbeats 8000000
attribute [local irreducible] RS RX
theorem E243 : Enters Tryz.prog 243 := .mk Tryz.func243 (by kernel_rfl) rfl
theorem E244 : Enters Tryz.prog 244 := .mk Tryz.func244 (by kernel_rfl) rfl
theorem E245 : Enters Tryz.prog 245 := .mk Tryz.func245 (by kernel_rfl) rfl
theorem E246 : Enters Tryz.prog 246 := .mk Tryz.func246 (by kernel_rfl) rfl
theorem E280 : Enters Tryz.prog 280 := .mk Tryz.func280 (by kernel_rfl) rfl
theorem hash {S0 S1 : Nat → Prop} (kd : Int) (hkd : 0 ≤ kd ∧ kd < 256) (a : Option Addr) (n c : Nat) (m : List Int) (a2 : Option Addr) (n2 c2 : Nat) (l : List Int) (TK : TypeId) (w : World) (K0 : Kst w TK) (R0 : IRow .u8 S0 w a n m) (hc : n ≤ c) (R1 : IRow .u32 S1 w a2 n2 l) (hn2 : n2 ≤ 5) :
  Calls Tryz.prog 280 #[.int .u8 kd, .slice a n c, .slice a2 n2 c2] w (Ret w fun v _ => v = .tuple #[.int .u64 (if 9991 < m.length then 0 else S.hashS kd l m), .int .i64 (S.hashE m)]) := by
 replace R0 := R0.weaken (T := fun k => k < w.heap.size) (fun k hk _ => hk)
 replace R1 := R1.weaken (T := fun k => k < w.heap.size) (fun k hk _ => hk)
 have hKl := K0.lt
 have hml := R0.len
 have hll := R1.len
 have hE := Ext.refl w
 refine enterU 60 Tryz.func280 rfl rfl ?_
 refine sq fun _ J1 => ?_
 refine RS.asI rfl ?_
 refine RS.asI rfl ?_
 refine nl J1 ?_
 refine wx fun _ J2 => ?_
 refine sq fun _ J3 => ?_
 refine RS.mvS rfl ?_
 refine RS.ln V51 ?_
 refine RS.o (D.gt rfl rfl) ?_
 refine nl J3 ?_
 refine C.ifd rfl (fun c4 => ?_) (fun c4 => ?_)
 ·have hgt := c4
  refine sq fun _ J5 => ?_
  refine RS.asI rfl ?_
  refine RS.asI rfl ?_
  refine nl J5 ?_
  refine wp_ret ?_
  refine retII ?_
  refine ⟨_, rfl, hE, ?_⟩
  unfold S.hashE
  rw [if_pos (by omega), if_pos (by omega)]
 have hgt := c4
 refine wp_skip ?_
 refine J2 _ _ ?_
 refine sq fun _ J6 => ?_
 refine RS.mvI rfl ?_
 refine RS.buildSlice (xs := [.tmp 19]) (vs := [.int _ _]) (cs := [.int _ _]) V51 T5 (by decide) rfl rfl rfl rfl rfl rfl (by intro v hv; simp only [List.mem_cons, List.not_mem_nil, or_false] at hv; subst hv; rfl) rfl (fun b7 w7 e7 s7 x7 B7 => ?_)
 refine RS.nm ?_
 replace hE := Ext.tr hE x7
 replace K0 := K0.ext x7
 replace R0 := R0.ext x7
 replace R1 := R1.ext x7
 have zw7 := x7.size
 have O1 : IOwn w.heap.size w7 5 .u8 (some ⟨b7, 0, none⟩) 1 1 [_] := IOwn.of_blk B7 rfl rfl (by omega) (.cons (by simp only [lim]; omega) (.nil _)) (by decide)
 refine RS.asS rfl ?_
 refine nl J6 ?_
 refine wx fun _ J8 => ?_
 refine sq fun _ J9 => ?_
 refine RS.mvS rfl ?_
 refine RS.ln V338 ?_
 refine RS.mvI rfl ?_
 refine nl J9 ?_
 refine wp_block ?_
 refine C.loop (A := Int × Option Addr × Nat × Nat) (fun p => [(8, .slice p.2.1 p.2.2.1 p.2.2.2), (23, .int .i64 p.1)]) [10, 24, 25, 26, 27, 28, 29, 30, 31, 32, 33, 34, 35, 36, 37, 38, 39, 40, 41] (fun p w' => Pr (fun k => w.heap.size ≤ k) w7 w' ∧ ((0 ≤ p.1 ∧ p.1 ≤ n2) ∧ IOwn w.heap.size w' 5 .u8 p.2.1 p.2.2.1 p.2.2.2 (S.headS kd (l.take p.1.toNat)))) (fun p => (n2 - p.1.toNat)) (0, some ⟨b7, 0, none⟩, 1, 1) (by kernel_rfl) ?_ ?_
 ·exact ⟨Pr.refl _ _, ⟨by dsimp only; omega, by dsimp only; omega⟩, by simpa [S.headS] using O1⟩
 rintro p j w10 ⟨x10, hI⟩
 replace hE := hE.trans (x10.belo)
 replace K0 := K0.pro x10
 replace R0 := R0.pro x10
 replace R1 := R1.pro x10
 have zw10 := x10.size
 obtain ⟨i, ao, no, co⟩ := p
 dsimp only at hI
 obtain ⟨h1, O1⟩ := hI
 have hol := O1.len
 rw [S.head_len, List.length_take] at hol
 refine C.nmU ?_
 refine sq fun _ J11 => ?_
 refine RS.o (D.lt rfl rfl) ?_
 refine nl J11 ?_
 refine wx fun _ J12 => ?_
 refine C.ifd rfl (fun c13 => ?_) (fun c13 => ?_)
 ·refine wp_skip ?_
  refine J12 _ _ ?_
  refine wx fun _ J14 => ?_
  refine wp_block ?_
  refine sq fun _ J15 => ?_
  refine RS.idx R1 rfl rfl V338 C37 (by omega) (fun b16 o16 v16 h16 q16 r16 => ?_)
  refine RS.nm ?_
  simp only [lim] at r16
  have q1 := q16
  refine RS.o (D.load rfl V37 rfl (h16)) ?_
  refine RS.asI rfl ?_
  refine nl J15 ?_
  refine region ?_
  refine RS.mvS rfl ?_
  refine RS.mvI rfl ?_
  refine RS.ob (D.shr_u32 rfl rfl (by omega) (by constructor <;> omega)) (fun z17 => ?_)
  refine RS.o (D.conv rfl V37 V5 (W.u8m _)) ?_
  refine RS.mvI rfl ?_
  refine RS.ob (D.shr_u32 rfl rfl (by omega) (by constructor <;> omega)) (fun z18 => ?_)
  refine RS.o (D.conv rfl V37 V5 (W.u8m _)) ?_
  refine RS.mvI rfl ?_
  refine RS.ob (D.shr_u32 rfl rfl (by omega) (by constructor <;> omega)) (fun z19 => ?_)
  refine RS.o (D.conv rfl V37 V5 (W.u8m _)) ?_
  refine RS.mvI rfl ?_
  refine RS.o (D.conv rfl V37 V5 (W.u8m _)) ?_
  refine RS.buildSlice (xs := [.tmp 30, .tmp 33, .tmp 36, .tmp 38]) (vs := [.int _ _, .int _ _, .int _ _, .int _ _]) (cs := [.int _ _, .int _ _, .int _ _, .int _ _]) V51 T5 (by decide) rfl rfl rfl rfl rfl rfl (by intro v hv; simp only [List.mem_cons, List.not_mem_nil, or_false] at hv; rcases hv with rfl | rfl | rfl | rfl <;> rfl) rfl (fun b20 w20 e20 s20 x20 B20 => ?_)
  refine RS.nm ?_
  replace hE := Ext.tr hE x20
  replace x10 := x10.ext x20
  replace K0 := K0.ext x20
  replace R0 := R0.ext x20
  replace R1 := R1.ext x20
  replace O1 := O1.ext x20
  have zw20 := x20.size
  have Q1 : IRow .u8 (fun k => k = b20) w20 (some ⟨b20, 0, none⟩) 4 [_, _, _, _] := IRow.of_blk B20 rfl rfl rfl (.cons (by simp only [lim]; omega) (.cons (by simp only [lim]; omega) (.cons (by simp only [lim]; omega) (.cons (by simp only [lim]; omega) (.nil _)))))
  refine RS.appendI O1 Q1 rfl rfl V51 T5 rfl (by omega) (by decide) (by omega) (fun a21 c21 w21 N21 x21 => ?_)
  refine RS.nm ?_
  replace hE := hE.trans (x21.belQ (fun _ h => (O1.lo _ h).1))
  replace x10 := x10.prnQ x21 (fun _ h => (O1.lo _ h).1)
  replace K0 := K0.prQ x21 (fun _ h => (O1.lo _ h).1)
  replace R0 := R0.prQ x21 (fun _ h => (O1.lo _ h).1)
  replace R1 := R1.prQ x21 (fun _ h => (O1.lo _ h).1)
  have zw21 := x21.size
  replace O1 := N21
  refine RS.asS rfl ?_
  refine nl J14 ?_
  refine region ?_
  refine RS.o (D.add rfl rfl (W.i64 (by omega))) ?_
  refine RS.mvI rfl ?_
  refine RS.nil ?_
  change Nx _ _ _ _ _ _ _ _
  refine C.next (i + 1, _, _, _) ⟨rfl, rfl, trivial⟩ (by kernel_rfl) ?_ ?_
  ·refine ⟨x10, ⟨by dsimp only; omega, by dsimp only; omega⟩, ?_⟩
   dsimp only
   rw [show (i + 1).toNat = i.toNat + 1 by omega, S.head_snoc _ _ _ (by omega), ← q1]
   exact O1
  dsimp only; omega
 refine wp_exit ?_
 refine J8 _ _ ?_
 refine sq fun _ J22 => ?_
 refine RS.mvS rfl ?_
 refine RS.mvS rfl ?_
 refine RS.buildSlice (xs := [.tmp 43, .tmp 44]) (vs := [.slice _ _ _, .slice _ _ _]) (cs := [.slice _ _ _, .slice _ _ _]) V284 T51 (by decide) rfl rfl rfl rfl rfl rfl (by intro v hv; simp only [List.mem_cons, List.not_mem_nil, or_false] at hv; rcases hv with rfl | rfl <;> rfl) rfl (fun b23 w23 e23 s23 x23 B23 => ?_)
 refine RS.nm ?_
 replace hE := Ext.tr hE x23
 replace K0 := K0.ext x23
 replace R0 := R0.ext x23
 replace R1 := R1.ext x23
 replace O1 := O1.ext x23
 have zw23 := x23.size
 have el : l.take i.toNat = l := List.take_of_length_le (by omega)
 rw [el] at O1
 have pO1 := O1.own.pre
 have hpp : cat [⟨ao, no, co, S.headS kd l⟩, ⟨a, n, c, m⟩] = S.headS kd l ++ m := by simp [cat]
 have hhl := S.head_len kd l
 refine RS.call E208 (pieces [⟨ao, no, co, S.headS kd l⟩, ⟨a, n, c, m⟩] _ _ _ _ _ K0 (PRow.of_blkE B23 rfl rfl ⟨⟨_, O1.row, pO1⟩, ⟨_, R0, hc⟩, trivial⟩) (show (2 : Nat) ≤ 20 by decide) (by intro p hp; simp only [List.mem_cons, List.not_mem_nil, or_false] at hp; rcases hp with rfl | rfl <;> (dsimp only; omega)) (by rw [hpp, List.length_append]; omega)) rfl (fun v24 w24 x24 A24 => ?_)
 replace hE := Ext.tr hE x24
 replace K0 := K0.ext x24
 replace R0 := R0.ext x24
 replace R1 := R1.ext x24
 replace O1 := O1.ext x24
 replace B23 := B23.ext x24
 have zw24 := x24.size
 subst A24
 rw [hpp]
 have hsa := S.sha_arr (S.headS kd l ++ m)
 refine RS.nm ?_
 refine RS.move (v := .tuple _) rfl ?_
 refine RS.exA ?_
 refine RS.exI ?_
 refine RS.alloc T27 (fun b25 w25 e25 s25 x25 B25 => ?_)
 refine RS.nm ?_
 replace hE := Ext.tr hE x25
 replace K0 := K0.ext x25
 replace R0 := R0.ext x25
 replace R1 := R1.ext x25
 have zw25 := x25.size
 have A25 : IArr .u8 w25 b25 32 (List.replicate 32 0) [] 27 := IArr.zero B25
 clear B25
 refine RS.storeArr A25 rfl rfl C27 (by decide) hsa.1 hsa.2 (fun w26 y26 N26 => ?_)
 replace hE := hE.trans (y26.belo)
 replace K0 := K0.sto y26
 replace R0 := R0.sto y26
 replace R1 := R1.sto y26
 have zw26 := y26.size
 replace A25 := N26
 refine RS.asI rfl ?_
 refine nl J22 (sq fun _ J27 => ?_)
 refine RS.asI rfl ?_
 refine nl J27 ?_
 refine wx fun _ J28 => ?_
 refine sq fun _ J29 => ?_
 refine RS.o (D.sliceArr (kl := .i64) (kh := .i64) rfl V27 C5 rfl rfl (by omega)) ?_
 refine RS.ln V51 ?_
 refine RS.mvI rfl ?_
 refine nl J29 ?_
 refine wp_block ?_
 refine C.loop (A := Int × Int) (fun p => [(13, .int .u64 p.2), (51, .int .i64 p.1)]) [15, 52, 53, 54, 55, 56, 57, 58, 59, 60] (fun p w' => Ext w26 w' ∧ ((0 ≤ p.1 ∧ p.1 ≤ 8) ∧ p.2 = S.be ((S.sha (S.headS kd l ++ m)).take p.1.toNat))) (fun p => (8 - p.1.toNat)) (0, 0) (by kernel_rfl) ?_ ?_
 ·exact ⟨Ext.refl _, ⟨by dsimp only; omega, by dsimp only; omega⟩, rfl⟩
 rintro p j w30 ⟨x30, hI⟩
 replace hE := Ext.tr hE x30
 replace K0 := K0.ext x30
 replace R0 := R0.ext x30
 replace R1 := R1.ext x30
 replace A25 := A25.ext x30
 have zw30 := x30.size
 obtain ⟨i, r⟩ := p
 dsimp only at hI
 obtain ⟨g1, g2⟩ := hI
 have g3 := S.be8_lt (S.sha (S.headS kd l ++ m)) i.toNat hsa.2 (by omega)
 rw [← g2] at g3
 refine C.nmU ?_
 refine sq fun _ J31 => ?_
 refine RS.o (D.lt rfl rfl) ?_
 refine nl J31 ?_
 refine wx fun _ J32 => ?_
 refine C.ifd rfl (fun c33 => ?_) (fun c33 => ?_)
 ·refine wp_skip ?_
  refine J32 _ _ ?_
  refine wx fun _ J34 => ?_
  refine wp_block ?_
  refine wx fun _ J35 => ?_
  have QI := (A25.row (S := fun k => k = b25) rfl).sub 0 8 32 (by decide) (by decide) (by decide)
  refine region ?_
  refine RS.idx QI rfl rfl V51 C5 (by omega) (fun b36 o36 v36 h36 q36 r36 => ?_)
  refine RS.nm ?_
  simp only [lim] at r36
  have q2 := q36
  rw [List.drop_zero, S.take_getD _ _ _ (by omega)] at q2
  refine RS.o (D.load rfl V5 rfl (h36)) ?_
  refine RS.asI rfl ?_
  refine nl J35 ?_
  refine region ?_
  refine RS.mvI rfl ?_
  refine RS.o (D.shl rfl rfl (by constructor <;> (try simp only [IntKind.bits]) <;> omega) (by first | exact W.u64 (by omega) | exact W.u64m _)) ?_
  refine RS.mvI rfl ?_
  refine RS.o (D.conv rfl V5 V22 (by first | exact W.u64 (by omega) | exact W.u64m _)) ?_
  refine RS.ob (D.bor_u64 rfl rfl (by omega) (by omega)) (fun z37 => ?_)
  refine RS.asI rfl ?_
  refine nl J34 ?_
  refine region ?_
  refine RS.o (D.add rfl rfl (W.i64 (by omega))) ?_
  refine RS.mvI rfl ?_
  refine RS.nil ?_
  change Nx _ _ _ _ _ _ _ _
  refine C.next (i + 1, _) ⟨rfl, rfl, trivial⟩ (by kernel_rfl) ?_ ?_
  ·refine ⟨x30, ⟨by dsimp only; omega, by dsimp only; omega⟩, ?_⟩
   dsimp only
   rw [show (i + 1).toNat = i.toNat + 1 by omega, ← S.be_step _ _ hsa.2 (by omega) (by rw [hsa.1]; decide), ← g2, ← q2]
   rfl
  dsimp only; omega
 refine wp_exit ?_
 refine J28 _ _ ?_
 refine sq fun _ J38 => ?_
 refine RS.mvI rfl ?_
 refine RS.mvI rfl ?_
 refine RS.asI rfl ?_
 refine RS.asI rfl ?_
 refine nl J38 ?_
 refine wp_ret ?_
 refine retII ?_
 refine ⟨_, rfl, hE, ?_⟩
 unfold S.hashE
 rw [if_neg (by omega), if_neg (by omega), g2, show i.toNat = 8 by omega, S.hash_eq]
theorem challenge (r : Int) (hr : 0 ≤ r ∧ r < 4294967296) (y : Int) (hy : 0 ≤ y ∧ y < 4294967296) {S0 : Nat → Prop} (a : Option Addr) (n c : Nat) (m : List Int) (TK : TypeId) (w : World) (K0 : Kst w TK) (R0 : IRow .u8 S0 w a n m) (hc : n ≤ c) :
  Calls Tryz.prog 246 #[.int .u32 r, .int .u32 y, .slice a n c] w (Ret w fun v _ => v = .tuple #[.int .u32 (if S.hashE m = 0 then S.chalS r y m else 0), .int .i64 (S.hashE m)]) := by
 replace R0 := R0.weaken (T := fun k => k < w.heap.size) (fun k hk _ => hk)
 have hKl := K0.lt
 have hml := R0.len
 have hE := Ext.refl w
 refine enterU 21 Tryz.func246 rfl rfl ?_
 refine sq fun _ J1 => ?_
 refine RS.asI rfl ?_
 refine RS.asI rfl ?_
 refine nl J1 (sq fun _ J2 => ?_)
 refine RS.mvS rfl ?_
 refine RS.mvI rfl ?_
 refine RS.mvI rfl ?_
 refine RS.buildSlice (xs := [.tmp 12, .tmp 13]) (vs := [.int _ _, .int _ _]) (cs := [.int _ _, .int _ _]) V338 T37 (by decide) rfl rfl rfl rfl rfl rfl (by intro v hv; simp only [List.mem_cons, List.not_mem_nil, or_false] at hv; rcases hv with rfl | rfl <;> rfl) rfl (fun b3 w3 e3 s3 x3 B3 => ?_)
 refine RS.nm ?_
 replace hE := Ext.tr hE x3
 replace K0 := K0.ext x3
 replace R0 := R0.ext x3
 have zw3 := x3.size
 refine RS.call E280 (hash (S1 := fun k => k = b3) _ (by decide) _ _ _ _ _ 2 _ [r, y] _ _ K0 R0 hc (.of_blk B3 rfl rfl rfl (.cons (k := .u32) (by simp only [lim]; omega) (.cons (k := .u32) (by simp only [lim]; omega) (.nil _)))) (by decide)) rfl (fun v4 w4 x4 A4 => ?_)
 replace hE := Ext.tr hE x4
 replace K0 := K0.ext x4
 replace R0 := R0.ext x4
 replace B3 := B3.ext x4
 have zw4 := x4.size
 subst A4
 refine RS.nm ?_
 refine RS.move (v := .tuple _) rfl ?_
 refine RS.exI ?_
 refine RS.exI ?_
 refine RS.asI rfl ?_
 refine RS.asI rfl ?_
 refine nl J2 ?_
 refine wx fun _ J5 => ?_
 refine sq fun _ J6 => ?_
 refine RS.mvI rfl ?_
 refine RS.o (D.ne rfl rfl) ?_
 refine nl J6 ?_
 refine C.ifn rfl (fun c7 => ?_) (fun c7 => ?_)
 ·have he := c7
  refine sq fun _ J8 => ?_
  refine RS.mvI rfl ?_
  refine RS.asI rfl ?_
  refine RS.asI rfl ?_
  refine nl J8 ?_
  refine wp_ret ?_
  refine retII ?_
  refine ⟨_, rfl, hE, ?_⟩
  rw [if_neg he]
 have he := c7
 have hm : ¬ 9991 < m.length := by intro h; unfold S.hashE at he; rw [if_pos h] at he; omega
 rw [if_neg hm]
 have hb := S.hash_bd 99 [r, y] m
 refine wp_skip ?_
 refine J5 _ _ ?_
 refine sq fun _ J9 => ?_
 refine RS.mvI rfl ?_
 refine RS.o (D.rem rfl rfl (by omega) (by omega)) ?_
 refine RS.o (D.conv rfl V22 V37 (by first | exact W.u32 (by omega) | exact W.u32m _)) ?_
 refine RS.asI rfl ?_
 refine RS.asI rfl ?_
 refine nl J9 ?_
 refine wp_ret ?_
 refine retII ?_
 refine ⟨_, rfl, hE, ?_⟩
 rw [he, if_pos rfl, S.chal_eq]
theorem verifyW (y : Int) (hy : 0 ≤ y ∧ y < 4294967296) (e s : Int) (he : 0 ≤ e ∧ e < 4294967296) (hs : 0 ≤ s ∧ s < 4294967296) {S0 : Nat → Prop} (a : Option Addr) (n c : Nat) (m : List Int) (TK : TypeId) (w : World) (K0 : Kst w TK) (R0 : IRow .u8 S0 w a n m) (hc : n ≤ c) :
  Calls Tryz.prog 190 #[.int .u32 y, .slice a n c, .agg ([.int .u32 e, .int .u32 s] : List Value).toArray] w (Ret w fun v _ => v = .int .i64 (S.verS y m e s)) := by
 replace R0 := R0.weaken (T := fun k => k < w.heap.size) (fun k hk _ => hk)
 have hKl := K0.lt
 have hml := R0.len
 have hE := Ext.refl w
 refine enterU 55 Tryz.func190 rfl rfl ?_
 refine sq fun _ J1 => ?_
 refine RS.box rfl rfl (fun b2 w2 e2 s2 x2 B2 => ?_)
 refine RS.nm ?_
 replace hE := Ext.tr hE x2
 replace K0 := K0.ext x2
 replace R0 := R0.ext x2
 have zw2 := x2.size
 refine RS.asI rfl ?_
 refine nl J1 ?_
 refine wx fun _ J3 => ?_
 refine sq fun _ J4 => ?_
 refine RS.mvI rfl ?_
 refine RS.call E239 (group_Is _ (by omega) _) rfl (fun v5 w5 x5 A5 => ?_)
 replace hE := Ext.tr hE x5
 replace K0 := K0.ext x5
 replace R0 := R0.ext x5
 replace B2 := B2.ext x5
 have zw5 := x5.size
 subst A5
 refine RS.nm ?_
 refine RS.o (D.not rfl) ?_
 refine nl J4 ?_
 refine C.ifnot rfl (fun c6 => ?_) (fun c6 => ?_)
 ·have hG := c6
  refine sq fun _ J7 => ?_
  refine RS.asI rfl ?_
  refine nl J7 ?_
  refine wp_ret ?_
  refine retI rfl rfl ?_
  refine ⟨_, rfl, hE, congrArg (Value.int .i64) ?_⟩
  unfold S.verS
  rw [if_pos (by simpa using hG)]
 have hG : S.isG y = true := by simpa using c6
 refine wp_skip ?_
 refine J3 _ _ ?_
 refine wx fun _ J8 => ?_
 refine sq fun _ J9 => ?_
 refine RS.mvS rfl ?_
 refine RS.ln V51 ?_
 refine RS.o (D.gt rfl rfl) ?_
 refine nl J9 ?_
 refine C.ifd rfl (fun c10 => ?_) (fun c10 => ?_)
 ·have hL := c10
  refine sq fun _ J11 => ?_
  refine RS.asI rfl ?_
  refine nl J11 ?_
  refine wp_ret ?_
  refine retI rfl rfl ?_
  refine ⟨_, rfl, hE, congrArg (Value.int .i64) ?_⟩
  unfold S.verS
  rw [if_neg (by simp [hG]), if_pos (by omega)]
 have hL := c10
 refine wp_skip ?_
 refine J8 _ _ ?_
 refine wx fun _ J12 => ?_
 refine sq fun _ J13 => ?_
 refine RS.fl 0 V42 rfl C37 ?_
 refine RS.ld V37 B2 ?_
 refine RS.fl 1 V42 rfl C37 ?_
 refine RS.ld V37 B2 ?_
 refine RS.o (D.max2 rfl rfl) ?_
 refine RS.o (D.ge rfl rfl) ?_
 refine nl J13 ?_
 refine C.ifd rfl (fun c14 => ?_) (fun c14 => ?_)
 ·have hQ := c14
  refine sq fun _ J15 => ?_
  refine RS.asI rfl ?_
  refine nl J15 ?_
  refine wp_ret ?_
  refine retI rfl rfl ?_
  refine ⟨_, rfl, hE, congrArg (Value.int .i64) ?_⟩
  unfold S.verS
  rw [if_neg (by simp [hG]), if_neg (by omega), if_pos (by split at hQ <;> omega)]
 have hQ : e < 500000003 ∧ s < 500000003 := by have := c14; split at this <;> omega
 refine wp_skip ?_
 refine J12 _ _ ?_
 refine sq fun _ J16 => ?_
 refine RS.mvI rfl ?_
 refine RS.fl 0 V42 rfl C37 ?_
 refine RS.ld V37 B2 ?_
 refine RS.o (D.conv rfl V37 V22 (W.u64 (by omega))) ?_
 refine RS.o (D.sub rfl rfl (W.u64 (by omega))) ?_
 refine RS.call E243 (group_Pow _ (by omega) _ (by omega) _) rfl (fun v17 w17 x17 A17 => ?_)
 replace hE := Ext.tr hE x17
 replace K0 := K0.ext x17
 replace R0 := R0.ext x17
 replace B2 := B2.ext x17
 have zw17 := x17.size
 subst A17
 rw [if_pos hG]
 have hp1 := S.pw_nonneg y (500000003 - e) 1000000007 (by decide)
 have hp2 := S.pw_lt y (500000003 - e) 1000000007 (by decide)
 refine RS.nm ?_
 refine RS.move (v := .tuple _) rfl ?_
 refine RS.exI ?_
 refine RS.exI ?_
 refine RS.asI rfl ?_
 refine RS.asI rfl ?_
 refine nl J16 (sq fun _ J18 => ?_)
 refine RS.fl 1 V42 rfl C37 ?_
 refine RS.ld V37 B2 ?_
 refine RS.o (D.conv rfl V37 V22 (W.u64 (by omega))) ?_
 refine RS.call E245 (group_Base _ (by omega) _) rfl (fun v19 w19 x19 A19 => ?_)
 replace hE := Ext.tr hE x19
 replace K0 := K0.ext x19
 replace R0 := R0.ext x19
 replace B2 := B2.ext x19
 have zw19 := x19.size
 subst A19
 rw [S.pub_eq]
 have hb1 := S.pub_bd s
 refine RS.nm ?_
 refine RS.mvI rfl ?_
 have hmm : (S.isG (S.pubS s) && S.isG (S.pw y (500000003 - e) 1000000007)) = true := by rw [S.isG_pub s (by omega), S.isG_back _ hG (by omega)]; rfl
 refine RS.call E244 (group_Mul _ (by omega) _ (by omega) _) rfl (fun v20 w20 x20 A20 => ?_)
 replace hE := Ext.tr hE x20
 replace K0 := K0.ext x20
 replace R0 := R0.ext x20
 replace B2 := B2.ext x20
 have zw20 := x20.size
 subst A20
 rw [if_pos hmm]
 have hp3 := Int.emod_nonneg (S.pubS s * S.pw y (500000003 - e) 1000000007) (show (1000000007 : Int) ≠ 0 by decide)
 have hp4 := Int.emod_lt_of_pos (S.pubS s * S.pw y (500000003 - e) 1000000007) (show (0 : Int) < 1000000007 by decide)
 refine RS.nm ?_
 refine RS.move (v := .tuple _) rfl ?_
 refine RS.exI ?_
 refine RS.exI ?_
 refine RS.asI rfl ?_
 refine RS.asI rfl ?_
 refine nl J18 ?_
 refine wx fun _ J21 => ?_
 refine sq fun _ J22 => ?_
 refine RS.mvI rfl ?_
 refine RS.mvI rfl ?_
 refine RS.mvS rfl ?_
 have hh : S.hashE m = 0 := by unfold S.hashE; rw [if_neg (by omega)]
 refine RS.call E246 (challenge _ (by omega) _ (by omega) _ _ _ _ _ _ K0 R0 hc) rfl (fun v23 w23 x23 A23 => ?_)
 replace hE := Ext.tr hE x23
 replace K0 := K0.ext x23
 replace R0 := R0.ext x23
 replace B2 := B2.ext x23
 have zw23 := x23.size
 subst A23
 rw [if_pos hh, hh]
 refine RS.nm ?_
 refine RS.move (v := .tuple _) rfl ?_
 refine RS.exI ?_
 refine RS.exI ?_
 refine RS.asI rfl ?_
 refine RS.asI rfl ?_
 refine nl J22 (sq fun _ J24 => ?_)
 refine RS.mvI rfl ?_
 refine RS.o (D.ne rfl rfl) ?_
 refine RS.mvB rfl ?_
 refine RS.splitn 52 rfl rfl (fun c25 => ?_) (fun c25 => ?_)
 ·refine RS.nm ?_
  refine RS.skT 52 ?_
  refine RS.skT 52 ?_
  refine RS.skT 52 ?_
  refine RS.skT 52 ?_
  refine RS.pkt ?_
  refine nl J24 ?_
  refine C.ift rfl ?_
  refine sq fun _ J26 => ?_
  refine RS.asI rfl ?_
  refine nl J26 ?_
  refine wp_ret ?_
  refine retI rfl rfl ?_
  refine ⟨_, rfl, hE, congrArg (Value.int .i64) ?_⟩
  unfold S.verS
  rw [if_neg (by simp [hG]), if_neg (by omega), if_neg (by omega)]
  simp_all
 refine RS.nm ?_
 refine RS.wt 52 ?_
 refine RS.mvI rfl ?_
 refine RS.wt 52 ?_
 refine RS.fl 0 V42 rfl C37 ?_
 refine RS.wt 52 ?_
 refine RS.ld V37 B2 ?_
 refine RS.wt 52 ?_
 refine RS.o (D.ne rfl rfl) ?_
 refine RS.pk ?_
 refine nl J24 ?_
 refine C.ifn rfl (fun c27 => ?_) (fun c27 => ?_)
 ·refine wx fun _ J28 => ?_
  refine region ?_
  refine RS.asI rfl ?_
  refine nl J28 ?_
  refine wp_ret ?_
  refine retI rfl rfl ?_
  refine ⟨_, rfl, hE, congrArg (Value.int .i64) ?_⟩
  unfold S.verS
  rw [if_neg (by simp [hG]), if_neg (by omega), if_neg (by omega)]
  simp_all
 refine wp_skip ?_
 refine J21 _ _ ?_
 refine sq fun _ J29 => ?_
 refine RS.asI rfl ?_
 refine nl J29 ?_
 refine wp_ret ?_
 refine retI rfl rfl ?_
 refine ⟨_, rfl, hE, congrArg (Value.int .i64) ?_⟩
 unfold S.verS
 rw [if_neg (by simp [hG]), if_neg (by omega), if_neg (by omega)]
 simp_all
theorem E190 : Enters Tryz.prog 190 := .mk Tryz.func190 (by kernel_rfl) rfl
theorem verifyO {S0 : Nat → Prop} (o : S.OpV) (ho : o.ok) (pa : Option Addr) (pc : Nat) (TK : TypeId) (w : World) (K0 : Kst w TK) (D0 : WRow .u8 32 S0 w pa o.n o.ids) (hc : o.n ≤ pc) :
  Calls Tryz.prog 117 #[.agg ([.int .u32 o.au, .slice pa o.n pc, .int .u64 o.st, .int .u8 o.k, .string o.key, .int .u8 o.vk, .int .i64 o.num, .int .u64 o.bits, .string o.t, .int .u32 o.e, .int .u32 o.s] : List Value).toArray] w (Ret w fun v _ => v = .int .i64 (S.verE o)) := by
 replace D0 := D0.weaken (T := fun k => k < w.heap.size) (fun k hk _ => hk)
 have o1 := ho.au
 have o2 := ho.st
 have o3 := ho.k
 have o4 := ho.vk
 have o5 := ho.num
 have o6 := ho.bits
 have o7 := ho.e
 have o8 := ho.s
 have o9 := ho.n
 have o10 := ho.key
 have o11 := ho.t
 have hKl := K0.lt
 have e4 := D0.len
 have hE := Ext.refl w
 refine enterU 21 Tryz.func117 rfl rfl ?_
 refine sq fun _ J1 => ?_
 refine RS.box rfl rfl (fun b2 w2 e2 s2 x2 B2 => ?_)
 refine RS.nm ?_
 replace hE := Ext.tr hE x2
 replace K0 := K0.ext x2
 replace D0 := D0.ext x2
 have zw2 := x2.size
 refine RS.asI rfl ?_
 refine nl J1 ?_
 refine wx fun _ J3 => ?_
 refine sq fun _ J4 => ?_
 refine RS.la V44 C44 B2 11 ?_
 refine RS.call E188 (checkO o ho _ _ _ D0 hc) rfl (fun v5 w5 x5 A5 => ?_)
 replace hE := Ext.tr hE x5
 replace K0 := K0.ext x5
 replace D0 := D0.ext x5
 replace B2 := B2.ext x5
 have zw5 := x5.size
 subst A5
 refine RS.nm ?_
 refine RS.asI rfl ?_
 refine nl J4 (sq fun _ J6 => ?_)
 refine RS.mvI rfl ?_
 refine RS.o (D.ne rfl rfl) ?_
 refine nl J6 ?_
 refine C.ifn rfl (fun c7 => ?_) (fun c7 => ?_)
 ·have hk := c7
  refine sq fun _ J8 => ?_
  refine RS.mvI rfl ?_
  refine RS.asI rfl ?_
  refine nl J8 ?_
  refine wp_ret ?_
  refine retI rfl rfl ?_
  refine ⟨_, rfl, hE, ?_⟩
  unfold S.verE
  rw [if_neg hk]
 have hk := c7
 refine wp_skip ?_
 refine J3 _ _ ?_
 refine sq fun _ J9 => ?_
 refine RS.la V44 C44 B2 11 ?_
 refine RS.call E189 (messageO o ho _ _ _ D0 hc) rfl (fun v10 w10 x10 A10 => ?_)
 replace hE := Ext.tr hE x10
 replace K0 := K0.ext x10
 replace D0 := D0.ext x10
 replace B2 := B2.ext x10
 have zw10 := x10.size
 obtain ⟨a10, n10, c10, xs, rfl, OM, hxs⟩ := A10
 rw [if_pos (S.check_bare hk)] at hxs
 subst hxs
 refine RS.nm ?_
 refine RS.move (v := .tuple _) rfl ?_
 refine RS.exS ?_
 refine RS.exI ?_
 refine RS.asS rfl ?_
 refine RS.asI rfl ?_
 refine nl J9 (sq fun _ J11 => ?_)
 refine RS.fl 0 V44 rfl C37 ?_
 refine RS.ld V37 B2 ?_
 refine RS.mvS rfl ?_
 refine RS.fl 9 V44 rfl C42 ?_
 refine RS.la V42 C42 B2 2 ?_
 refine RS.call E190 (verifyW _ (by omega) _ _ (by omega) (by omega) _ _ _ _ _ _ K0 OM.row OM.own.pre) rfl (fun v12 w12 x12 A12 => ?_)
 replace hE := Ext.tr hE x12
 replace K0 := K0.ext x12
 replace D0 := D0.ext x12
 replace B2 := B2.ext x12
 replace OM := OM.ext x12
 have zw12 := x12.size
 subst A12
 refine RS.nm ?_
 refine RS.asI rfl ?_
 refine nl J11 ?_
 refine wp_ret ?_
 refine retI rfl rfl ?_
 refine ⟨_, rfl, hE, ?_⟩
 unfold S.verE
 rw [if_pos hk]
end Go.Proofs.YtkmaenmhcgohbaaGreatDoor.W
namespace Go.Proofs.YtkmaenmhcgohbaaGreatDoor.S
open G
theorem be_rev : ∀ (k : Nat) (n : Int), 0 ≤ n → n < 256 ^ k → be (leK k n).reverse = n
  | 0, n, h0, h => by simp at h; simp [leK, be]; omega
  | k + 1, n, h0, h => by
    rw [Int.pow_succ] at h
    rw [leK, List.reverse_cons, be_snoc, be_rev k (n / 256) (by omega) (Int.ediv_lt_of_lt_mul (by decide) h)]
    omega
theorem le_be : ∀ ys : List Int, Bd .u8 ys → leK ys.length (be ys.reverse) = ys
  | [], _ => rfl
  | y :: t, h => by
    have hy := h y List.mem_cons_self
    simp only [lim] at hy
    rw [List.length_cons, leK, List.reverse_cons, be_snoc, show (be t.reverse * 256 + y) % 256 = y by omega, show (be t.reverse * 256 + y) / 256 = be t.reverse by omega, le_be t fun x hx => h x (List.mem_cons_of_mem _ hx)]
theorem be_low : ∀ (t : List Int) (a : Int), 0 ≤ a → Bd .u8 t → a * 256 ^ t.length ≤ t.foldl (fun a x => a * 256 + x) a
  | [], a, _, _ => by simp
  | x :: t, a, ha, h => by
    have hx := h x List.mem_cons_self
    simp only [lim] at hx
    have := be_low t (a * 256 + x) (by omega) fun y hy => h y (List.mem_cons_of_mem _ hy)
    rw [List.foldl_cons, List.length_cons, Int.pow_succ]
    refine Int.le_trans ?_ this
    rw [Int.mul_comm _ 256, ← Int.mul_assoc]
    exact Int.mul_le_mul_of_nonneg_right (by omega) (Int.pow_nonneg (by decide))
theorem blen_rng (n : Int) (h : 0 < n) (h2 : n < 18446744073709551616) : 256 ^ (blen n - 1) ≤ n ∧ n < 256 ^ blen n := by
  unfold blen
  repeat' split
  all_goals simp
  all_goals omega
theorem blen_of (n : Int) (k : Nat) (h1 : 1 ≤ k ∧ k ≤ 8) (h2 : 256 ^ (k - 1) ≤ n) (h3 : n < 256 ^ k) : blen n = k := by
  have hk : k = 1 ∨ k = 2 ∨ k = 3 ∨ k = 4 ∨ k = 5 ∨ k = 6 ∨ k = 7 ∨ k = 8 := by omega
  rcases hk with rfl | rfl | rfl | rfl | rfl | rfl | rfl | rfl <;> simp at h2 h3 <;> unfold blen <;> repeat' split
  all_goals omega
def readN (b : List Int) : Option (Int × Nat) :=
  match b with
  | [] => none
  | h :: t => if h ≤ 247 then some (h, 1) else
    if t.length < (h - 247).toNat ∨ t.getD 0 0 = 0 ∨ (h = 248 ∧ t.getD 0 0 ≤ 247) then none else some (be (t.take (h - 247).toNat), (h - 247).toNat + 1)
theorem head_get (l r : List Int) (h : 0 < l.length) : (l ++ r).getD 0 0 = l.getD 0 0 := by
  cases l with
  | nil => simp at h
  | cons a l => rfl
theorem be_head (x : Int) (t : List Int) (hB : Bd .u8 (x :: t)) : x * 256 ^ t.length ≤ be (x :: t) ∧ be (x :: t) < (x + 1) * 256 ^ t.length := by
  have hx := hB x List.mem_cons_self
  have ht : Bd .u8 t := fun y hy => hB y (List.mem_cons_of_mem _ hy)
  have e : be (x :: t) = t.foldl (fun a x => a * 256 + x) x := by simp [be]
  rw [e]
  exact ⟨be_low t x hx.1 ht, (be_go t x hx.1 ht).2⟩
theorem read_num (n : Int) (h0 : 0 ≤ n) (h1 : n < 18446744073709551616) (r : List Int) : readN (numS n ++ r) = some (n, (numS n).length) := by
  by_cases hs : n ≤ 247
  · rw [numS_small n hs]
    simp [readN, hs]
  · rw [numS_large n hs, List.cons_append]
    have hb := blen_rng n (by omega) h1
    have hp := blen_pos n (by omega)
    have hv := be_rev (blen n) n h0 hb.2
    have hl : (leK (blen n) n).reverse.length = blen n := by rw [List.length_reverse, leK_len]
    have hB : Bd .u8 (leK (blen n) n).reverse := fun x hx => leK_bd _ _ x (List.mem_reverse.1 hx)
    generalize (leK (blen n) n).reverse = l at hv hl hB
    have hk : (247 + (blen n : Int) - 247).toNat = blen n := by omega
    have hx : ¬ l.getD 0 0 = 0 ∧ ¬ (247 + (blen n : Int) = 248 ∧ l.getD 0 0 ≤ 247) := by
      cases l with
      | nil => simp at hl; omega
      | cons x t =>
        have hh := be_head x t hB
        rw [hv] at hh
        simp only [List.length_cons] at hl
        rw [show t.length = blen n - 1 by omega] at hh
        simp only [List.getD_cons_zero]
        refine ⟨fun e => ?_, fun e => ?_⟩
        · rw [e] at hh; omega
        · rw [show blen n - 1 = 0 by omega] at hh; simp at hh; omega
    simp only [readN, hk, head_get l r (by omega)]
    rw [if_neg (by omega), if_neg, ← hl, List.take_left, hv]
    · rfl
    · rintro (h | h | h)
      · rw [List.length_append] at h; omega
      · exact hx.1 h
      · exact hx.2 h
theorem read_inv {b : List Int} (hB : Bd .u8 b) {n : Int} {u : Nat} (h : readN b = some (n, u)) : 0 ≤ n ∧ n < 18446744073709551616 ∧ u ≤ b.length ∧ b = numS n ++ b.drop u ∧ u = (numS n).length := by
  cases b with
  | nil => cases h
  | cons x t =>
    have hx := hB x List.mem_cons_self
    have ht : Bd .u8 t := fun y hy => hB y (List.mem_cons_of_mem _ hy)
    simp only [lim] at hx
    simp only [readN] at h
    by_cases hs : x ≤ 247
    · rw [if_pos hs] at h
      simp only [Option.some.injEq, Prod.mk.injEq] at h
      obtain ⟨rfl, rfl⟩ := h
      rw [numS_small x hs]
      exact ⟨hx.1, by omega, by simp, rfl, rfl⟩
    · rw [if_neg hs] at h
      by_cases hc : t.length < (x - 247).toNat ∨ t.getD 0 0 = 0 ∨ (x = 248 ∧ t.getD 0 0 ≤ 247)
      · rw [if_pos hc] at h; cases h
      · rw [if_neg hc] at h
        simp only [Option.some.injEq, Prod.mk.injEq] at h
        obtain ⟨rfl, rfl⟩ := h
        generalize hk : (x - 247).toNat = k at *
        have hl : (t.take k).length = k := by rw [List.length_take]; omega
        have hT := ht.take k
        have hrev := le_be (t.take k).reverse fun y hy => hT y (List.mem_reverse.1 hy)
        rw [List.reverse_reverse, List.length_reverse, hl] at hrev
        have hb := be_bd _ hT
        rw [hl] at hb
        have hp : (256 : Int) ^ k ≤ 256 ^ 8 := pow256 (by omega)
        have h8 : (256 : Int) ^ 8 = 18446744073709551616 := by decide
        have hg : (t.take k).getD 0 0 = t.getD 0 0 := by
          have := head_get (t.take k) (t.drop k) (by omega)
          rw [List.take_append_drop] at this
          exact this.symm
        have hlow : 256 ^ (k - 1) ≤ be (t.take k) ∧ 247 < be (t.take k) := by
          generalize t.take k = l at *
          cases l with
          | nil => simp at hl; omega
          | cons z r =>
            have hz := hT z List.mem_cons_self
            have hh := be_head z r hT
            simp only [List.length_cons] at hl
            simp only [List.getD_cons_zero] at hg
            rw [show r.length = k - 1 by omega] at hh
            have hz0 : 1 ≤ z := by have := hz.1; rw [← hg] at hc; omega
            have h1 : 256 ^ (k - 1) ≤ be (z :: r) := Int.le_trans (by have := Int.mul_le_mul_of_nonneg_right hz0 (Int.pow_nonneg (by decide) : (0 : Int) ≤ 256 ^ (k - 1)); omega) hh.1
            refine ⟨h1, ?_⟩
            by_cases h1k : k = 1
            · subst h1k
              simp at hh
              rw [← hg] at hc
              omega
            · have : (256 : Int) ^ 1 ≤ 256 ^ (k - 1) := pow256 (by omega)
              omega
        have hbl := blen_of _ k (by omega) hlow.1 hb.2
        have hn : numS (be (t.take k)) = x :: t.take k := by
          rw [numS_large _ (by omega), hbl, hrev, List.reverse_reverse]
          congr 1
          omega
        refine ⟨hb.1, by omega, by simp; omega, ?_, ?_⟩
        · rw [hn, List.drop_succ_cons, List.cons_append, List.take_append_drop]
        · rw [hn, List.length_cons, hl]
def readB (most : Int) (b : List Int) : Option (List Int × Nat) :=
  match readN b with
  | some (n, u) => if n ≤ most ∧ n ≤ (b.length : Int) - u then some ((b.drop u).take n.toNat, u + n.toNat) else none
  | none => none
theorem readB_num (most : Int) (s r : List Int) (h : (s.length : Int) ≤ most) (hm : s.length < 18446744073709551616) : readB most (numS s.length ++ s ++ r) = some (s, (numS s.length).length + s.length) := by
  unfold readB
  rw [List.append_assoc, read_num _ (by omega) (by omega)]
  simp only [List.length_append]
  rw [if_pos (by omega), List.drop_left, show ((s.length : Int)).toNat = s.length from rfl, List.take_left]
theorem readB_inv {most : Int} {b : List Int} (hB : Bd .u8 b) {s : List Int} {u : Nat} (h : readB most b = some (s, u)) : (s.length : Int) ≤ most ∧ u ≤ b.length ∧ b = numS s.length ++ s ++ b.drop u ∧ u = (numS s.length).length + s.length := by
  unfold readB at h
  split at h
  · rename_i n v hr
    obtain ⟨h0, h1, h2, h3, h4⟩ := read_inv hB hr
    split at h
    · rename_i hc
      simp only [Option.some.injEq, Prod.mk.injEq] at h
      obtain ⟨rfl, rfl⟩ := h
      have hl : ((b.drop v).take n.toNat).length = n.toNat := by rw [List.length_take, List.length_drop]; omega
      rw [hl, show (n.toNat : Int) = n by omega]
      refine ⟨hc.1, by omega, ?_, by omega⟩
      conv => lhs; rw [h3]
      rw [List.append_assoc]
      congr 1
      rw [← List.drop_drop, List.take_append_drop]
    · cases h
  · cases h
def readI (most : Int) (b : List Int) : Option (Nat × List Int × Nat) :=
  match readN b with
  | some (n, u) => if n ≤ most ∧ n ≤ ((b.length : Int) - u) / 32 ∧ Rising n.toNat ((b.drop u).take (32 * n.toNat)) then some (n.toNat, (b.drop u).take (32 * n.toNat), u + 32 * n.toNat) else none
  | none => none
theorem readI_num (most : Int) (n : Nat) (ids r : List Int) (h : (n : Int) ≤ most) (hm : n < 18446744073709551616) (hl : ids.length = 32 * n) (hr : Rising n ids) : readI most (listS n ids ++ r) = some (n, ids, (listS n ids).length) := by
  unfold readI listS
  rw [List.append_assoc, read_num _ (by omega) (by omega)]
  simp only [List.length_append]
  rw [List.drop_left, show ((n : Int)).toNat = n from rfl, ← hl, List.take_left, if_pos ⟨h, by omega, hr⟩]
theorem readI_inv {most : Int} {b : List Int} (hB : Bd .u8 b) {n : Nat} {ids : List Int} {u : Nat} (h : readI most b = some (n, ids, u)) : (n : Int) ≤ most ∧ u ≤ b.length ∧ ids.length = 32 * n ∧ Rising n ids ∧ b = listS n ids ++ b.drop u ∧ u = (listS n ids).length ∧ n < 18446744073709551616 := by
  unfold readI at h
  split at h
  · rename_i m v hr
    obtain ⟨h0, h1, h2, h3, h4⟩ := read_inv hB hr
    split at h
    · rename_i hc
      simp only [Option.some.injEq, Prod.mk.injEq] at h
      obtain ⟨rfl, rfl, rfl⟩ := h
      have hl : ((b.drop v).take (32 * m.toNat)).length = 32 * m.toNat := by rw [List.length_take, List.length_drop]; omega
      unfold listS
      rw [List.length_append, hl, show (m.toNat : Int) = m by omega]
      refine ⟨hc.1, by omega, rfl, hc.2.2, ?_, by omega, by omega⟩
      conv => lhs; rw [h3]
      rw [List.append_assoc]
      congr 1
      rw [← List.drop_drop, List.take_append_drop]
    · cases h
  · cases h
def unzig (z : Int) : Int := if z % 2 = 0 then z / 2 else - (z / 2) - 1
theorem unzig_zig (n : Int) : unzig (zig n) = n := by unfold unzig zig; repeat' split <;> omega
theorem zig_unzig (z : Int) (h : 0 ≤ z) : zig (unzig z) = z := by unfold unzig zig; repeat' split <;> omega
theorem unzig_bd (z : Int) (h : 0 ≤ z ∧ z < 18446744073709551616) : -9223372036854775808 ≤ unzig z ∧ unzig z ≤ 9223372036854775807 := by unfold unzig; split <;> omega
theorem be8_rev (n : Int) : be8 n = (leK 8 n).reverse := by
  apply List.ext_getElem
  · rw [be8_len, List.length_reverse, leK_len]
  intro i h1 h2
  rw [be8_len] at h1
  have g1 := be8_get n i h1
  have g2 := leK_get 8 n (7 - i) (by omega)
  rw [List.getD_eq_getElem?_getD, List.getElem?_eq_getElem (by rw [be8_len]; exact h1), Option.getD_some] at g1
  rw [List.getD_eq_getElem?_getD, List.getElem?_eq_getElem (by rw [leK_len]; omega), Option.getD_some] at g2
  have e : (leK 8 n).length - 1 - i = 7 - i := by rw [leK_len]
  rw [g1, List.getElem_reverse]
  simp only [e]
  rw [g2, show 8 * (7 - i) = 56 - 8 * i by omega]
theorem be_be8 (n : Int) (h : 0 ≤ n ∧ n < 18446744073709551616) : be (be8 n) = n := by
  rw [be8_rev]
  exact be_rev 8 n h.1 (by simp; omega)
theorem be8_be (xs : List Int) (hB : Bd .u8 xs) (hl : xs.length = 8) : be8 (be xs) = xs := by
  have := le_be xs.reverse fun y hy => hB y (List.mem_reverse.1 hy)
  rw [List.reverse_reverse, List.length_reverse, hl] at this
  rw [be8_rev, this, List.reverse_reverse]
def valR (k : Int) (r : List Int) : Option (Int × Int × ByteArray × Nat) :=
  if k = 1 then (readN r).bind fun x => some (unzig x.1, 0, ByteArray.empty, x.2)
  else if k = 2 then (if r.length < 8 then none else some (0, be (r.take 8), ByteArray.empty, 8))
  else if k = 3 then (readB 30 r).bind fun x => some (0, 0, strOfNums x.1, x.2)
  else some (0, 0, ByteArray.empty, 0)
def valD (b : List Int) : Option (Int × Int × Int × ByteArray × Nat) :=
  match b with
  | [] => none
  | k :: r => (valR k r).bind fun x => if FineV k x.1 x.2.1 x.2.2.1 then some (k, x.1, x.2.1, x.2.2.1, x.2.2.2 + 1) else none
theorem val_num {k num bits : Int} {t : ByteArray} (r : List Int) (hF : FineV k num bits t) (hn : -9223372036854775808 ≤ num ∧ num ≤ 9223372036854775807) (hb : 0 ≤ bits ∧ bits < 18446744073709551616) :
    valD (valS k num bits t ++ r) = some (k, num, bits, t, (valS k num bits t).length) := by
  have hF' := hF
  rcases hF with ⟨rfl, rfl, rfl⟩ | ⟨rfl, rfl, rfl, hc⟩ | ⟨rfl, rfl, rfl, ht, ha⟩
  · have hz := zig_bd num hn
    simp only [valS, if_true, List.cons_append, List.nil_append, valD, valR]
    rw [read_num _ hz.1 hz.2]
    simp only [Option.bind_some, unzig_zig, if_pos hF', List.length_cons]
  · simp only [valS, show ¬ (2 : Int) = 1 by decide, if_true, if_false, List.cons_append, List.nil_append, valD, valR, List.length_append, be8_len]
    rw [if_neg (by omega), List.take_append_of_le_length (by rw [be8_len]; exact Nat.le_refl _), List.take_of_length_le (by rw [be8_len]; exact Nat.le_refl _), be_be8 _ hb]
    simp only [Option.bind_some, if_pos hF', List.length_cons, be8_len]
  · simp only [valS, show ¬ (3 : Int) = 1 by decide, show ¬ (3 : Int) = 2 by decide, if_true, if_false, List.cons_append, List.nil_append, valD, valR]
    have := readB_num 30 (bys t) r (by rw [bys_len]; omega) (by rw [bys_len]; omega)
    rw [bys_len] at this
    rw [this]
    simp only [Option.bind_some, strOf_bys, if_pos hF', List.length_cons, List.length_append, bys_len]
theorem val_inv {b : List Int} (hB : Bd .u8 b) {k num bits : Int} {t : ByteArray} {u : Nat} (h : valD b = some (k, num, bits, t, u)) :
    FineV k num bits t ∧ (0 ≤ k ∧ k < 256) ∧ (-9223372036854775808 ≤ num ∧ num ≤ 9223372036854775807) ∧ (0 ≤ bits ∧ bits < 18446744073709551616) ∧ u ≤ b.length ∧ b = valS k num bits t ++ b.drop u ∧ u = (valS k num bits t).length := by
  cases b with
  | nil => cases h
  | cons x r =>
    have hx := hB x List.mem_cons_self
    have hr : Bd .u8 r := fun y hy => hB y (List.mem_cons_of_mem _ hy)
    simp only [lim] at hx
    simp only [valD, Option.bind_eq_some_iff] at h
    obtain ⟨⟨n, c, s, v⟩, h1, h2⟩ := h
    simp only at h2
    split at h2
    · rename_i hF
      simp only [Option.some.injEq, Prod.mk.injEq] at h2
      obtain ⟨rfl, rfl, rfl, rfl, rfl⟩ := h2
      refine ⟨hF, hx, ?_⟩
      rw [List.drop_succ_cons]
      unfold valR at h1
      unfold valS
      split at h1
      · rename_i h
        simp only [Option.bind_eq_some_iff, Option.some.injEq, Prod.mk.injEq] at h1
        obtain ⟨⟨m, w⟩, h1, rfl, rfl, rfl, rfl⟩ := h1
        obtain ⟨q1, q2, q3, q4, q5⟩ := read_inv hr h1
        simp only at q3 q4 q5 ⊢
        rw [if_pos h, zig_unzig _ q1]
        refine ⟨unzig_bd _ ⟨q1, q2⟩, by decide, by simp; omega, ?_, by simp; omega⟩
        rw [List.cons_append, List.nil_append, List.cons_append, ← q4]
      · rename_i h
        rw [if_neg h]
        split at h1
        · rename_i h
          rw [if_pos h]
          split at h1
          · cases h1
          · simp only [Option.some.injEq, Prod.mk.injEq] at h1
            obtain ⟨rfl, rfl, rfl, rfl⟩ := h1
            have hb := be8_lt r 8 hr (Nat.le_refl _)
            rw [be8_be _ (hr.take 8) (by rw [List.length_take]; omega)]
            refine ⟨by decide, hb, by simp; omega, ?_, by simp; omega⟩
            rw [List.cons_append, List.nil_append, List.cons_append, List.take_append_drop]
        · rename_i h
          rw [if_neg h]
          split at h1
          · rename_i h
            rw [if_pos h]
            simp only [Option.bind_eq_some_iff, Option.some.injEq, Prod.mk.injEq] at h1
            obtain ⟨⟨m, w⟩, h1, rfl, rfl, rfl, rfl⟩ := h1
            obtain ⟨q1, q2, q3, q4⟩ := readB_inv hr h1
            have hm : Bd .u8 m := fun y hy => hr y (by rw [q3]; simp [hy])
            have hsz : (strOfNums m).size = m.length := by rw [← bys_len, bys_strOf _ hm]
            simp only at q2 q3 q4 ⊢
            rw [bys_strOf _ hm, hsz]
            refine ⟨by decide, by decide, by simp; omega, ?_, by simp; omega⟩
            rw [List.cons_append, List.nil_append, List.cons_append, ← q3]
          · rename_i h
            rcases hF with ⟨hk, _⟩ | ⟨hk, _⟩ | ⟨hk, _⟩ <;> contradiction
    · cases h2
def oneR (b : List Int) : Option (Int × List Int) :=
  match b with
  | [] => none
  | x :: t => some (x, t)
def numR (b : List Int) : Option (Int × List Int) := (readN b).bind fun r => some (r.1, b.drop r.2)
def idsR (b : List Int) : Option (Nat × List Int × List Int) := (readI 4 b).bind fun r => some (r.1, r.2.1, b.drop r.2.2)
def keyR (b : List Int) : Option (ByteArray × List Int) := (readB 20 b).bind fun r => some (strOfNums r.1, b.drop r.2)
structure ActV where
  (vk num bits : Int) (key t : ByteArray)
def valV (key : ByteArray) (b : List Int) : Option (ActV × List Int) := (valD b).bind fun r => some (⟨r.1, r.2.1, r.2.2.1, key, r.2.2.2.1⟩, b.drop r.2.2.2.2)
def actR (k : Int) (b : List Int) : Option (ActV × List Int) :=
  if k = 1 then some (⟨0, 0, 0, .empty, .empty⟩, b)
  else (keyR b).bind fun r => if k = 4 then valV r.1 r.2 else some (⟨0, 0, 0, r.1, .empty⟩, r.2)
def decS (b : List Int) : Option OpV :=
  (oneR b).bind fun h => if h.1 = 111 then (numR h.2).bind fun a => (idsR a.2).bind fun l => (numR l.2.2).bind fun t => (oneR t.2).bind fun k => (actR k.1 k.2).bind fun x => (numR x.2).bind fun e => (numR e.2).bind fun s =>
    if s.2 = [] ∧ checkE ⟨a.1, t.1, k.1, x.1.vk, x.1.num, x.1.bits, e.1, s.1, l.1, l.2.1, x.1.key, x.1.t⟩ = 0 then some ⟨a.1, t.1, k.1, x.1.vk, x.1.num, x.1.bits, e.1, s.1, l.1, l.2.1, x.1.key, x.1.t⟩ else none
  else none
theorem num_R (n : Int) (h0 : 0 ≤ n) (h1 : n < 18446744073709551616) (r : List Int) : numR (numS n ++ r) = some (n, r) := by
  unfold numR
  rw [read_num n h0 h1]
  simp
theorem numR_inv {b : List Int} (hB : Bd .u8 b) {n : Int} {r : List Int} (h : numR b = some (n, r)) : 0 ≤ n ∧ n < 18446744073709551616 ∧ b = numS n ++ r ∧ Bd .u8 r := by
  simp only [numR, Option.bind_eq_some_iff, Option.some.injEq, Prod.mk.injEq] at h
  obtain ⟨⟨m, u⟩, h, rfl, rfl⟩ := h
  obtain ⟨q1, q2, _, q4, _⟩ := read_inv hB h
  exact ⟨q1, q2, q4, hB.drop _⟩
theorem ids_R (n : Nat) (ids r : List Int) (h : n ≤ 4) (hl : ids.length = 32 * n) (hr : Rising n ids) : idsR (listS n ids ++ r) = some (n, ids, r) := by
  unfold idsR
  rw [readI_num 4 n ids r (by omega) (by omega) hl hr]
  simp
theorem idsR_inv {b : List Int} (hB : Bd .u8 b) {n : Nat} {ids r : List Int} (h : idsR b = some (n, ids, r)) : n ≤ 4 ∧ ids.length = 32 * n ∧ Rising n ids ∧ b = listS n ids ++ r ∧ Bd .u8 r := by
  simp only [idsR, Option.bind_eq_some_iff, Option.some.injEq, Prod.mk.injEq] at h
  obtain ⟨⟨m, s, u⟩, h, rfl, rfl, rfl⟩ := h
  obtain ⟨q1, _, q3, q4, q5, _⟩ := readI_inv hB h
  exact ⟨by omega, q3, q4, q5, hB.drop _⟩
theorem key_R (s : ByteArray) (r : List Int) (h : s.size ≤ 20) : keyR ((numS s.size ++ bys s) ++ r) = some (s, r) := by
  unfold keyR
  have := readB_num 20 (bys s) r (by rw [bys_len]; omega) (by rw [bys_len]; omega)
  rw [bys_len] at this
  rw [this]
  simp only [Option.bind_some, strOf_bys]
  rw [← bys_len s, ← List.length_append, List.drop_left]
theorem keyR_inv {b : List Int} (hB : Bd .u8 b) {s : ByteArray} {r : List Int} (h : keyR b = some (s, r)) : s.size ≤ 20 ∧ b = (numS s.size ++ bys s) ++ r ∧ Bd .u8 r := by
  simp only [keyR, Option.bind_eq_some_iff, Option.some.injEq, Prod.mk.injEq] at h
  obtain ⟨⟨m, u⟩, h, rfl, rfl⟩ := h
  obtain ⟨q1, q2, q3, q4⟩ := readB_inv hB h
  have hm : Bd .u8 m := fun y hy => hB y (by rw [q3]; simp [hy])
  have hsz : (strOfNums m).size = m.length := by rw [← bys_len, bys_strOf _ hm]
  simp only at q3 q1 ⊢
  rw [bys_strOf _ hm, hsz]
  exact ⟨by omega, q3, hB.drop _⟩
theorem val_V {k num bits : Int} {t : ByteArray} (key : ByteArray) (r : List Int) (hF : FineV k num bits t) (hn : -9223372036854775808 ≤ num ∧ num ≤ 9223372036854775807) (hb : 0 ≤ bits ∧ bits < 18446744073709551616) : valV key (valS k num bits t ++ r) = some (⟨k, num, bits, key, t⟩, r) := by
  unfold valV
  rw [val_num r hF hn hb]
  simp
theorem valV_inv {key : ByteArray} {b : List Int} (hB : Bd .u8 b) {x : ActV} {r : List Int} (h : valV key b = some (x, r)) :
    FineV x.vk x.num x.bits x.t ∧ x.key = key ∧ (0 ≤ x.vk ∧ x.vk < 256) ∧ (-9223372036854775808 ≤ x.num ∧ x.num ≤ 9223372036854775807) ∧ (0 ≤ x.bits ∧ x.bits < 18446744073709551616) ∧ b = valS x.vk x.num x.bits x.t ++ r ∧ Bd .u8 r := by
  simp only [valV, Option.bind_eq_some_iff, Option.some.injEq, Prod.mk.injEq] at h
  obtain ⟨⟨k, n, c, t, u⟩, h, rfl, rfl⟩ := h
  obtain ⟨q1, q2, q3, q4, _, q6, _⟩ := val_inv hB h
  exact ⟨q1, rfl, q2, q3, q4, q6, hB.drop _⟩
def actS (k : Int) (x : ActV) : List Int := if k = 1 then [] else (numS x.key.size ++ bys x.key) ++ (if k = 4 then valS x.vk x.num x.bits x.t else [])
theorem act_R (k : Int) (x : ActV) (r : List Int) (hF : FineAct k x.key x.vk x.num x.bits x.t) (hn : -9223372036854775808 ≤ x.num ∧ x.num ≤ 9223372036854775807) (hb : 0 ≤ x.bits ∧ x.bits < 18446744073709551616) : actR k (actS k x ++ r) = some (x, r) := by
  obtain ⟨vk, num, bits, key, t⟩ := x
  unfold actR actS
  rcases hF with ⟨rfl, rfl, rfl, rfl, rfl, rfl⟩ | ⟨hk, hK, rfl, rfl, rfl, rfl⟩ | ⟨rfl, hK, hV⟩
  · simp
  · rw [if_neg (by omega), if_neg (by omega), if_neg (by omega), List.append_nil, key_R _ _ hK.2.1]
    simp only [Option.bind_some]
    rw [if_neg (by omega)]
  · rw [if_neg (by omega), if_neg (by omega), if_pos rfl, List.append_assoc, key_R _ _ hK.2.1]
    simp only [Option.bind_some, if_true]
    exact val_V _ _ hV hn hb
theorem actR_inv {k : Int} {b : List Int} (hB : Bd .u8 b) {x : ActV} {r : List Int} (h : actR k b = some (x, r)) :
    (0 ≤ x.vk ∧ x.vk < 256) ∧ (-9223372036854775808 ≤ x.num ∧ x.num ≤ 9223372036854775807) ∧ (0 ≤ x.bits ∧ x.bits < 18446744073709551616) ∧ b = actS k x ++ r ∧ Bd .u8 r := by
  unfold actR at h
  unfold actS
  split at h
  · rename_i hk
    simp only [Option.some.injEq, Prod.mk.injEq] at h
    obtain ⟨rfl, rfl⟩ := h
    exact ⟨by decide, by decide, by decide, by rw [if_pos hk]; rfl, hB⟩
  · rename_i hk
    simp only [Option.bind_eq_some_iff] at h
    obtain ⟨⟨s, q⟩, h1, h⟩ := h
    obtain ⟨p1, p2, p3⟩ := keyR_inv hB h1
    rw [if_neg hk]
    simp only at h
    split at h
    · rename_i h4
      obtain ⟨_, q2, q3, q4, q5, q6, q7⟩ := valV_inv p3 h
      rw [if_pos h4]
      refine ⟨q3, q4, q5, ?_, q7⟩
      rw [q2, List.append_assoc, ← q6, ← p2]
    · rename_i h4
      simp only [Option.some.injEq, Prod.mk.injEq] at h
      obtain ⟨rfl, rfl⟩ := h
      exact ⟨⟨Int.le_refl 0, (by decide : (0 : Int) < 256)⟩, ⟨(by decide : -9223372036854775808 ≤ (0 : Int)), (by decide : (0 : Int) ≤ 9223372036854775807)⟩, ⟨Int.le_refl 0, (by decide : (0 : Int) < 18446744073709551616)⟩, by rw [if_neg h4, List.append_nil]; exact p2, p3⟩
def OpV.act (o : OpV) : ActV := ⟨o.vk, o.num, o.bits, o.key, o.t⟩
theorem enc_eq (o : OpV) : encS o = 111 :: (numS o.au ++ (listS o.n o.ids ++ (numS o.st ++ (o.k :: (actS o.k o.act ++ (numS o.e ++ numS o.s)))))) := by
  simp only [encS, msgS, actS, OpV.act, List.append_assoc, List.cons_append, List.nil_append]
theorem oneR_inv {b : List Int} (hB : Bd .u8 b) {x : Int} {r : List Int} (h : oneR b = some (x, r)) : b = x :: r ∧ (0 ≤ x ∧ x < 256) ∧ Bd .u8 r := by
  cases b with
  | nil => cases h
  | cons y t =>
    simp only [oneR, Option.some.injEq, Prod.mk.injEq] at h
    obtain ⟨rfl, rfl⟩ := h
    exact ⟨rfl, hB _ List.mem_cons_self, fun z hz => hB z (List.mem_cons_of_mem _ hz)⟩
theorem dec_inv {b : List Int} (hB : Bd .u8 b) {o : OpV} (h : decS b = some o) : o.rng ∧ o.ids.length = 32 * o.n ∧ checkE o = 0 ∧ b = encS o := by
  simp only [decS, Option.bind_eq_some_iff] at h
  obtain ⟨⟨x, r⟩, h1, h⟩ := h
  split at h
  · rename_i hx
    simp only at hx
    subst hx
    simp only [Option.bind_eq_some_iff] at h
    obtain ⟨⟨a, r1⟩, h2, ⟨n, ids, r2⟩, h3, ⟨t, r3⟩, h4, ⟨k, r4⟩, h5, ⟨y, r5⟩, h6, ⟨e, r6⟩, h7, ⟨s, r7⟩, h8, h⟩ := h
    dsimp only at h2 h3 h4 h5 h6 h7 h8
    obtain ⟨rfl, _, B1⟩ := oneR_inv hB h1
    obtain ⟨a1, a2, rfl, B2⟩ := numR_inv B1 h2
    obtain ⟨n1, n2, n3, rfl, B3⟩ := idsR_inv B2 h3
    obtain ⟨t1, t2, rfl, B4⟩ := numR_inv B3 h4
    obtain ⟨rfl, k1, B5⟩ := oneR_inv B4 h5
    obtain ⟨y1, y2, y3, rfl, B6⟩ := actR_inv B5 h6
    obtain ⟨e1, e2, rfl, B7⟩ := numR_inv B6 h7
    obtain ⟨s1, s2, rfl, B8⟩ := numR_inv B7 h8
    simp only at h
    split at h
    · rename_i hz
      obtain ⟨rfl, hz⟩ := hz
      simp only [Option.some.injEq] at h
      subst h
      obtain ⟨c1, c2, c3, c4, c5, c6, c7⟩ := check_zero.1 hz
      have := (isG_bd c3).2
      simp only at c5 c6 this
      refine ⟨⟨⟨a1, by show a < 4294967296; omega⟩, ⟨t1, t2⟩, k1, y1, y2, y3, ⟨e1, by show e < 4294967296; omega⟩, ⟨s1, by show s < 4294967296; omega⟩⟩, n2, hz, ?_⟩
      rw [enc_eq, List.append_nil]
      rfl
    · cases h
  · cases h
theorem beq_dec {p q : Prop} [Decidable p] [Decidable q] (h : p ↔ q) : (decide p == decide q) = true := by
  by_cases hp : p <;> by_cases hq : q <;> simp_all
def numB (most : Int) (bad : Bool) (b : List Int) : Int × Bool × List Int :=
  match numR b with
  | some x => (x.1, bad || decide (most < x.1), x.2)
  | none => (0, true, b)
def oneB (bad : Bool) (b : List Int) : Int × Bool × List Int :=
  if bad then (0, true, b) else match b with
  | [] => (0, true, [])
  | x :: t => (x, false, t)
def idsB (bad : Bool) (b : List Int) : Nat × List Int × Bool × List Int :=
  match idsR b with
  | some x => (x.1, x.2.1, bad, x.2.2)
  | none => (0, [], true, b)
def keyB (bad : Bool) (b : List Int) : ByteArray × Bool × List Int :=
  match keyR b with
  | some x => (x.1, bad, x.2)
  | none => (.empty, true, b)
def valB (key : ByteArray) (bad : Bool) (b : List Int) : ActV × Bool × List Int :=
  match valV key b with
  | some x => (x.1, bad, x.2)
  | none => (⟨0, 0, 0, key, .empty⟩, true, b)
def actB (k : Int) (bad : Bool) (b : List Int) : ActV × Bool × List Int :=
  if k = 1 then (⟨0, 0, 0, .empty, .empty⟩, bad, b)
  else if k = 4 then valB (keyB bad b).1 (keyB bad b).2.1 (keyB bad b).2.2
  else (⟨0, 0, 0, (keyB bad b).1, .empty⟩, (keyB bad b).2.1, (keyB bad b).2.2)
theorem numB_ok {m : Int} {bad : Bool} {b : List Int} (h : (numB m bad b).2.1 = false) : bad = false ∧ numR b = some ((numB m bad b).1, (numB m bad b).2.2) ∧ (numB m bad b).1 ≤ m := by
  unfold numB at *
  cases hn : numR b with
  | none => rw [hn] at h; cases h
  | some x =>
    rw [hn] at h
    simp only [Bool.or_eq_false_iff, decide_eq_false_iff_not] at h ⊢
    exact ⟨h.1, trivial, by omega⟩
theorem oneB_ok {bad : Bool} {b : List Int} (h : (oneB bad b).2.1 = false) : bad = false ∧ oneR b = some ((oneB bad b).1, (oneB bad b).2.2) := by
  unfold oneB oneR at *
  cases bad with
  | true => simp at h
  | false =>
    cases b with
    | nil => simp at h
    | cons x t => exact ⟨rfl, rfl⟩
theorem idsB_ok {bad : Bool} {b : List Int} (h : (idsB bad b).2.2.1 = false) : bad = false ∧ idsR b = some ((idsB bad b).1, (idsB bad b).2.1, (idsB bad b).2.2.2) := by
  unfold idsB at *
  cases hn : idsR b with
  | none => rw [hn] at h; cases h
  | some x => rw [hn] at h; exact ⟨h, rfl⟩
theorem keyB_ok {bad : Bool} {b : List Int} (h : (keyB bad b).2.1 = false) : bad = false ∧ keyR b = some ((keyB bad b).1, (keyB bad b).2.2) := by
  unfold keyB at *
  cases hn : keyR b with
  | none => rw [hn] at h; cases h
  | some x => rw [hn] at h; exact ⟨h, rfl⟩
theorem valB_ok {key : ByteArray} {bad : Bool} {b : List Int} (h : (valB key bad b).2.1 = false) : bad = false ∧ valV key b = some ((valB key bad b).1, (valB key bad b).2.2) := by
  unfold valB at *
  cases hn : valV key b with
  | none => rw [hn] at h; cases h
  | some x => rw [hn] at h; exact ⟨h, rfl⟩
theorem actB_ok {k : Int} {bad : Bool} {b : List Int} (h : (actB k bad b).2.1 = false) : bad = false ∧ actR k b = some ((actB k bad b).1, (actB k bad b).2.2) := by
  unfold actB at *
  unfold actR
  by_cases h1 : k = 1
  · simp only [if_pos h1] at h ⊢; exact ⟨h, trivial⟩
  · simp only [if_neg h1] at h ⊢
    by_cases h4 : k = 4
    · simp only [if_pos h4] at h ⊢
      obtain ⟨q1, q2⟩ := valB_ok h
      obtain ⟨q3, q4⟩ := keyB_ok q1
      rw [q4]
      exact ⟨q3, q2⟩
    · simp only [if_neg h4] at h ⊢
      obtain ⟨q3, q4⟩ := keyB_ok h
      rw [q4]
      exact ⟨q3, rfl⟩
theorem numB_num (m n : Int) (h0 : 0 ≤ n) (h1 : n < 18446744073709551616) (hm : n ≤ m) (r : List Int) : numB m false (numS n ++ r) = (n, false, r) := by
  unfold numB
  rw [num_R n h0 h1]
  simp [hm]
theorem actB_act {k : Int} {x : ActV} {b r : List Int} (h : actR k b = some (x, r)) : actB k false b = (x, false, r) := by
  unfold actR at h
  unfold actB
  split at h
  · rename_i h1
    rw [if_pos h1]
    simp only [Option.some.injEq, Prod.mk.injEq] at h
    rw [h.1, h.2]
  · rename_i h1
    rw [if_neg h1]
    simp only [Option.bind_eq_some_iff] at h
    obtain ⟨⟨s, q⟩, h2, h⟩ := h
    have e : keyB false b = (s, false, q) := by unfold keyB; rw [h2]
    rw [e]
    simp only at h ⊢
    split at h
    · rename_i h4
      rw [if_pos h4]
      unfold valB
      rw [h]
    · rename_i h4
      rw [if_neg h4]
      simp only [Option.some.injEq, Prod.mk.injEq] at h
      rw [h.1, h.2]
structure Steps (b : List Int) where
  (h : Int × Bool × List Int) (a : Int × Bool × List Int) (l : Nat × List Int × Bool × List Int) (t k : Int × Bool × List Int) (x : ActV × Bool × List Int) (e s : Int × Bool × List Int)
  eh : h = oneB false b
  ea : a = numB 1000000007 h.2.1 h.2.2
  el : l = idsB a.2.1 a.2.2
  et : t = numB 1000000000000 l.2.2.1 l.2.2.2
  ek : k = oneB t.2.1 t.2.2
  ex : x = actB k.1 k.2.1 k.2.2
  ee : e = numB 500000003 x.2.1 x.2.2
  es : s = numB 500000003 e.2.1 e.2.2
def Steps.op {b : List Int} (p : Steps b) : OpV := ⟨p.a.1 % 4294967296, p.t.1, p.k.1, p.x.1.vk, p.x.1.num, p.x.1.bits, p.e.1 % 4294967296, p.s.1 % 4294967296, p.l.1, p.l.2.1, p.x.1.key, p.x.1.t⟩
theorem Steps.good {b : List Int} (hB : Bd .u8 b) (p : Steps b) (h0 : p.h.1 = 111) (h1 : p.s.2.1 = false) (h2 : p.s.2.2 = []) (h3 : checkE p.op = 0) : decS b = some p.op := by
  obtain ⟨h, a, l, t, k, x, e, s, eh, ea, el, et, ek, ex, ee, es⟩ := p
  simp only [Steps.op] at *
  subst es
  obtain ⟨b7, r7, m7⟩ := numB_ok h1
  subst ee
  obtain ⟨b6, r6, m6⟩ := numB_ok b7
  subst ex
  obtain ⟨b5, r5⟩ := actB_ok b6
  subst ek
  obtain ⟨b4, r4⟩ := oneB_ok b5
  subst et
  obtain ⟨b3, r3, m3⟩ := numB_ok b4
  subst el
  obtain ⟨b2, r2⟩ := idsB_ok b3
  subst ea
  obtain ⟨b1, r1, m1⟩ := numB_ok b2
  subst eh
  obtain ⟨_, r0⟩ := oneB_ok b1
  obtain ⟨_, _, B1⟩ := oneR_inv hB r0
  obtain ⟨z1, _, _, B2⟩ := numR_inv B1 r1
  obtain ⟨_, _, _, _, B3⟩ := idsR_inv B2 r2
  obtain ⟨_, _, _, B4⟩ := numR_inv B3 r3
  obtain ⟨_, _, B5⟩ := oneR_inv B4 r4
  obtain ⟨_, _, _, _, B6⟩ := actR_inv B5 r5
  obtain ⟨z6, _, _, B7⟩ := numR_inv B6 r6
  obtain ⟨z7, _, _, _⟩ := numR_inv B7 r7
  rw [Int.emod_eq_of_lt z1 (by omega), Int.emod_eq_of_lt z6 (by omega), Int.emod_eq_of_lt z7 (by omega)] at h3 ⊢
  unfold decS
  simp only [r0, Option.bind_some, h0, if_true, r1, r2, r3, r4, r5, r6, r7, h2, h3, and_self]
theorem Steps.bad {b : List Int} (hB : Bd .u8 b) (p : Steps b) {o : OpV} (hd : decS b = some o) : p.h.1 = 111 ∧ p.s.2.1 = false ∧ p.s.2.2 = [] ∧ checkE p.op = 0 := by
  obtain ⟨q1, q2, q3, rfl⟩ := dec_inv hB hd
  obtain ⟨c1, c2, c3⟩ := check_zero.1 q3
  obtain ⟨h, a, l, t, k, x, e, s, eh, ea, el, et, ek, ex, ee, es⟩ := p
  have g1 := (isG_bd c3.1).2
  have g2 := q1.au
  have g3 := q1.e
  have g4 := q1.s
  have g5 := c3.2.2.1
  have g6 := c3.2.2.2.1
  rw [enc_eq] at eh
  have eh' : h = (111, false, numS o.au ++ (listS o.n o.ids ++ (numS o.st ++ (o.k :: (actS o.k o.act ++ (numS o.e ++ numS o.s)))))) := eh
  subst eh'
  have ea' := ea.trans (numB_num 1000000007 o.au g2.1 (by omega) (by omega) _)
  subst ea'
  have el' : l = (o.n, o.ids, false, numS o.st ++ (o.k :: (actS o.k o.act ++ (numS o.e ++ numS o.s)))) := by
    rw [el]
    unfold idsB
    simp only
    rw [ids_R _ _ _ c1 q2 c2]
  subst el'
  have et' := et.trans (numB_num 1000000000000 o.st q1.st.1 q1.st.2 c3.2.1 _)
  subst et'
  have ek' : k = (o.k, false, actS o.k o.act ++ (numS o.e ++ numS o.s)) := ek
  subst ek'
  have ex' := ex.trans (actB_act (act_R o.k o.act _ c3.2.2.2.2 q1.num q1.bits))
  subst ex'
  have ee' := ee.trans (numB_num 500000003 o.e g3.1 (by omega) (by omega) _)
  subst ee'
  have es' := es.trans (by
    show _ = (o.s, false, [])
    have := numB_num 500000003 o.s g4.1 (by omega) (by omega) []
    rw [List.append_nil] at this
    exact this)
  subst es'
  refine ⟨rfl, rfl, rfl, ?_⟩
  simp only [Steps.op]
  rw [Int.emod_eq_of_lt g2.1 g2.2, Int.emod_eq_of_lt g3.1 g3.2, Int.emod_eq_of_lt g4.1 g4.2]
  exact q3
def rdV (b : List Int) : Int := match readN b with | some r => r.1 | none => 0
def rdU (b : List Int) : Nat := match readN b with | some r => r.2 | none => 0
def rdE (b : List Int) : Int := match readN b with | some _ => 0 | none => 12
theorem rd_none {b : List Int} (h : readN b = none) : rdV b = 0 ∧ rdU b = 0 ∧ rdE b = 12 := by unfold rdV rdU rdE; rw [h]; exact ⟨rfl, rfl, rfl⟩
theorem rd_some {b : List Int} {n : Int} {u : Nat} (h : readN b = some (n, u)) : rdV b = n ∧ rdU b = u ∧ rdE b = 0 := by unfold rdV rdU rdE; rw [h]; exact ⟨rfl, rfl, rfl⟩
theorem rd_zero {b : List Int} (h : rdE b = 0) : readN b = some (rdV b, rdU b) := by
  unfold rdE at h
  split at h
  · rename_i r hr
    unfold rdV rdU
    rw [hr]
  · cases h
theorem rd_bd {b : List Int} (hB : Bd .u8 b) : (0 ≤ rdV b ∧ rdV b < 18446744073709551616) ∧ rdU b ≤ b.length ∧ rdU b ≤ 9 ∧ (rdE b = 0 ∨ rdE b = 12) := by
  unfold rdV rdU rdE
  cases h : readN b with
  | none => simp
  | some r =>
    obtain ⟨n, u⟩ := r
    obtain ⟨q1, q2, q3, _, q5⟩ := read_inv hB h
    have := numS_len n
    simp only
    exact ⟨⟨q1, q2⟩, q3, by omega, .inl trivial⟩
def ptOk (most wd : Nat) (b : List Int) : Prop := rdE b = 0 ∧ rdV b ≤ most ∧ rdV b ≤ ((b.length : Int) - rdU b) / wd
instance (most wd : Nat) (b : List Int) : Decidable (ptOk most wd b) := by unfold ptOk; infer_instance
def ptE (most wd : Nat) (b : List Int) : Int := if ptOk most wd b then 0 else 12
def ptU (most wd : Nat) (b : List Int) : Nat := if ptOk most wd b then rdU b + wd * (rdV b).toNat else 0
def ptS (most wd : Nat) (b : List Int) : List Int := if ptOk most wd b then (b.drop (rdU b)).take (wd * (rdV b).toNat) else []
theorem ptE_zero {most wd : Nat} {b : List Int} : ptE most wd b = 0 ↔ ptOk most wd b := by unfold ptE; split <;> simp_all
theorem pt_ok {most wd : Nat} {b : List Int} (h : ptOk most wd b) : ptE most wd b = 0 ∧ ptU most wd b = rdU b + wd * (rdV b).toNat ∧ ptS most wd b = (b.drop (rdU b)).take (wd * (rdV b).toNat) := by unfold ptE ptU ptS; rw [if_pos h, if_pos h, if_pos h]; exact ⟨rfl, rfl, rfl⟩
theorem pt_not {most wd : Nat} {b : List Int} (h : ¬ ptOk most wd b) : ptE most wd b = 12 ∧ ptU most wd b = 0 ∧ ptS most wd b = [] := by unfold ptE ptU ptS; rw [if_neg h, if_neg h, if_neg h]; exact ⟨rfl, rfl, rfl⟩
theorem pt_mul {most wd : Nat} {b : List Int} (hB : Bd .u8 b) (h : ptOk most wd b) (hw : 0 < wd) : wd * (rdV b).toNat + rdU b ≤ b.length := by
  obtain ⟨_, _, h3⟩ := h
  obtain ⟨h4, h5, _⟩ := rd_bd hB
  have h6 := (Int.le_ediv_iff_mul_le (show (0 : Int) < wd by omega)).1 h3
  have h7 : ((wd * (rdV b).toNat : Nat) : Int) = rdV b * wd := by rw [Int.natCast_mul, Int.toNat_of_nonneg h4.1, Int.mul_comm]
  omega
theorem ptS_len {most wd : Nat} {b : List Int} (hB : Bd .u8 b) (h : ptOk most wd b) (hw : 0 < wd) : (ptS most wd b).length = wd * (rdV b).toNat := by
  have := pt_mul hB h hw
  rw [(pt_ok h).2.2, List.length_take, List.length_drop]
  omega
theorem readB_pt (most : Nat) (b : List Int) : readB most b = if ptE most 1 b = 0 then some (ptS most 1 b, ptU most 1 b) else none := by
  by_cases h : ptOk most 1 b
  · obtain ⟨h1, h2, h3⟩ := h
    rw [if_pos (ptE_zero.2 ⟨h1, h2, h3⟩), (pt_ok ⟨h1, h2, h3⟩).2.1, (pt_ok ⟨h1, h2, h3⟩).2.2]
    unfold readB
    rw [rd_zero h1]
    simp only
    rw [if_pos (by omega), Nat.one_mul]
  · rw [if_neg (fun e => h (ptE_zero.1 e))]
    unfold readB
    split
    · rename_i n u hr
      obtain ⟨q1, q2, q3⟩ := rd_some hr
      rw [if_neg]
      intro hc
      exact h ⟨q3, by omega, by rw [q1, q2]; simp; omega⟩
    · rfl
def idN (most : Nat) (b : List Int) : Nat := match readI most b with | some r => r.1 | none => 0
def idL (most : Nat) (b : List Int) : List Int := match readI most b with | some r => r.2.1 | none => []
def idU (most : Nat) (b : List Int) : Nat := match readI most b with | some r => r.2.2 | none => 0
def idE (most : Nat) (b : List Int) : Int := match readI most b with | some _ => 0 | none => 12
theorem id_none {most : Nat} {b : List Int} (h : readI most b = none) : idN most b = 0 ∧ idL most b = [] ∧ idU most b = 0 ∧ idE most b = 12 := by unfold idN idL idU idE; rw [h]; exact ⟨rfl, rfl, rfl, rfl⟩
theorem id_some {most : Nat} {b : List Int} {n : Nat} {l : List Int} {u : Nat} (h : readI most b = some (n, l, u)) : idN most b = n ∧ idL most b = l ∧ idU most b = u ∧ idE most b = 0 := by unfold idN idL idU idE; rw [h]; exact ⟨rfl, rfl, rfl, rfl⟩
structure ValO where
  (k num bits : Int) (t : ByteArray) (u : Nat) (e : Int)
def vdS (b : List Int) : ValO := match valD b with | some r => ⟨r.1, r.2.1, r.2.2.1, r.2.2.2.1, r.2.2.2.2, 0⟩ | none => ⟨0, 0, 0, .empty, 0, 12⟩
theorem vd_none {b : List Int} (h : valD b = none) : vdS b = ⟨0, 0, 0, .empty, 0, 12⟩ := by unfold vdS; rw [h]
theorem vd_some {b : List Int} {k num bits : Int} {t : ByteArray} {u : Nat} (h : valD b = some (k, num, bits, t, u)) : vdS b = ⟨k, num, bits, t, u, 0⟩ := by unfold vdS; rw [h]
theorem ptS_bd (most wd : Nat) (b : List Int) (hB : Bd .u8 b) : Bd .u8 (ptS most wd b) := by
  unfold ptS
  split
  · exact (hB.drop _).take _
  · exact Bd.nil _
theorem zer8 : (0 : Int) ≤ 0 ∧ (0 : Int) < 256 := by decide
theorem zerI : -9223372036854775808 ≤ (0 : Int) ∧ (0 : Int) ≤ 9223372036854775807 := by decide
theorem zer64 : (0 : Int) ≤ 0 ∧ (0 : Int) < 18446744073709551616 := by decide
section
variable {x : Int} {r : List Int}
end
def nxB (e : Int) (bad : Bool) : Bool := if e = 0 then bad else true
def nxL (e : Int) (u : Nat) (b : List Int) : List Int := if e = 0 then b.drop u else b
theorem nx_zero {e : Int} (h : e = 0) (u : Nat) (bad : Bool) (b : List Int) : nxB e bad = bad ∧ nxL e u b = b.drop u := by unfold nxB nxL; rw [if_pos h, if_pos h]; exact ⟨rfl, rfl⟩
theorem nx_ne {e : Int} (h : e ≠ 0) (u : Nat) (bad : Bool) (b : List Int) : nxB e bad = true ∧ nxL e u b = b := by unfold nxB nxL; rw [if_neg h, if_neg h]; exact ⟨rfl, rfl⟩
theorem numB_rd (m : Int) (bad : Bool) (b : List Int) : rdV b = (numB m bad b).1 ∧ (nxB (rdE b) bad || decide (m < rdV b)) = (numB m bad b).2.1 ∧ nxL (rdE b) (rdU b) b = (numB m bad b).2.2 := by
  unfold numB numR
  cases h : readN b with
  | none =>
    obtain ⟨e1, e2, e3⟩ := rd_none h
    obtain ⟨h1, h2⟩ := nx_ne (e := rdE b) (by rw [e3]; decide) (rdU b) bad b
    rw [e1, h1, h2]
    exact ⟨rfl, rfl, rfl⟩
  | some y =>
    obtain ⟨n, u⟩ := y
    obtain ⟨e1, e2, e3⟩ := rd_some h
    obtain ⟨h1, h2⟩ := nx_zero e3 (rdU b) bad b
    rw [e1, h1, h2, e2]
    exact ⟨rfl, rfl, rfl⟩
theorem idsB_rd (bad : Bool) (b : List Int) : idN 4 b = (idsB bad b).1 ∧ idL 4 b = (idsB bad b).2.1 ∧ nxB (idE 4 b) bad = (idsB bad b).2.2.1 ∧ nxL (idE 4 b) (idU 4 b) b = (idsB bad b).2.2.2 := by
  unfold idsB idsR
  have e : readI ((4 : Nat) : Int) b = readI 4 b := rfl
  cases h : readI 4 b with
  | none =>
    obtain ⟨e1, e2, e3, e4⟩ := id_none (most := 4) (e.trans h)
    obtain ⟨h1, h2⟩ := nx_ne (e := idE 4 b) (by rw [e4]; decide) (idU 4 b) bad b
    rw [e1, e2, h1, h2]
    exact ⟨rfl, rfl, rfl, rfl⟩
  | some y =>
    obtain ⟨n, l, u⟩ := y
    obtain ⟨e1, e2, e3, e4⟩ := id_some (most := 4) (e.trans h)
    obtain ⟨h1, h2⟩ := nx_zero e4 (idU 4 b) bad b
    rw [e1, e2, h1, h2, e3]
    exact ⟨rfl, rfl, rfl, rfl⟩
theorem keyB_rd (bad : Bool) (b : List Int) : strOfNums (ptS 20 1 b) = (keyB bad b).1 ∧ nxB (ptE 20 1 b) bad = (keyB bad b).2.1 ∧ nxL (ptE 20 1 b) (ptU 20 1 b) b = (keyB bad b).2.2 := by
  have hr := readB_pt 20 b
  rw [show ((20 : Nat) : Int) = 20 from rfl] at hr
  unfold keyB keyR
  by_cases h : ptE 20 1 b = 0
  · rw [if_pos h] at hr
    obtain ⟨h1, h2⟩ := nx_zero h (ptU 20 1 b) bad b
    rw [h1, h2, hr]
    exact ⟨rfl, rfl, rfl⟩
  · rw [if_neg h] at hr
    obtain ⟨h1, h2⟩ := nx_ne h (ptU 20 1 b) bad b
    obtain ⟨_, _, q3⟩ := pt_not (fun hk => h (ptE_zero.2 hk))
    rw [h1, h2, hr, q3]
    exact ⟨by rfl, rfl, rfl⟩
theorem valB_rd (key : ByteArray) (bad : Bool) (b : List Int) : (⟨(vdS b).k, (vdS b).num, (vdS b).bits, key, (vdS b).t⟩ : ActV) = (valB key bad b).1 ∧ nxB (vdS b).e bad = (valB key bad b).2.1 ∧ nxL (vdS b).e (vdS b).u b = (valB key bad b).2.2 := by
  unfold valB valV
  cases h : valD b with
  | none =>
    rw [vd_none h]
    exact ⟨rfl, rfl, rfl⟩
  | some y =>
    obtain ⟨k, n, c, t, u⟩ := y
    rw [vd_some h]
    exact ⟨rfl, rfl, rfl⟩
theorem id_le {b : List Int} (hB : Bd .u8 b) : idN 4 b ≤ 4 ∧ idU 4 b ≤ b.length ∧ (idL 4 b).length = 32 * idN 4 b := by
  have e : readI ((4 : Nat) : Int) b = readI 4 b := rfl
  cases h : readI 4 b with
  | none =>
    obtain ⟨e1, e2, e3, e4⟩ := id_none (most := 4) (e.trans h)
    rw [e1, e2, e3]
    simp
  | some y =>
    obtain ⟨n, l, u⟩ := y
    obtain ⟨e1, e2, e3, e4⟩ := id_some (most := 4) (e.trans h)
    obtain ⟨q1, q2, q3, _⟩ := readI_inv hB h
    rw [e1, e2, e3]
    exact ⟨by omega, q2, q3⟩
theorem vd_bd {b : List Int} (hB : Bd .u8 b) : (0 ≤ (vdS b).k ∧ (vdS b).k < 256) ∧ (-9223372036854775808 ≤ (vdS b).num ∧ (vdS b).num ≤ 9223372036854775807) ∧ (0 ≤ (vdS b).bits ∧ (vdS b).bits < 18446744073709551616) ∧ (vdS b).u ≤ b.length ∧ (vdS b).t.size ≤ 30 := by
  cases h : valD b with
  | none => rw [vd_none h]; simp
  | some y =>
    obtain ⟨k, n, c, t, u⟩ := y
    obtain ⟨q1, q2, q3, q4, q5, _⟩ := val_inv hB h
    rw [vd_some h]
    refine ⟨q2, q3, q4, q5, ?_⟩
    rcases q1 with ⟨_, _, rfl⟩ | ⟨_, _, rfl, _⟩ | ⟨_, _, _, ht, _⟩
    · simp
    · simp
    · exact ht
theorem nxL_bd {e : Int} {u : Nat} {b : List Int} (hB : Bd .u8 b) : Bd .u8 (nxL e u b) := by unfold nxL; split; exact hB.drop _; exact hB
theorem numB_bd {m : Int} {bad : Bool} {b : List Int} (hB : Bd .u8 b) : (0 ≤ (numB m bad b).1 ∧ (numB m bad b).1 < 18446744073709551616) ∧ Bd .u8 (numB m bad b).2.2 := by
  obtain ⟨h1, _, h3⟩ := numB_rd m bad b
  rw [← h1, ← h3]
  exact ⟨(rd_bd hB).1, nxL_bd hB⟩
theorem oneB_bd {bad : Bool} {b : List Int} (hB : Bd .u8 b) : (0 ≤ (oneB bad b).1 ∧ (oneB bad b).1 < 256) ∧ Bd .u8 (oneB bad b).2.2 := by
  unfold oneB
  split
  · exact ⟨zer8, hB⟩
  · cases b with
    | nil => exact ⟨zer8, hB⟩
    | cons x t => exact ⟨hB x List.mem_cons_self, fun y hy => hB y (List.mem_cons_of_mem _ hy)⟩
theorem idsB_bd {bad : Bool} {b : List Int} (hB : Bd .u8 b) : (idsB bad b).1 ≤ 4 ∧ (idsB bad b).2.1.length = 32 * (idsB bad b).1 ∧ Bd .u8 (idsB bad b).2.2.2 := by
  obtain ⟨h1, h2, _, h4⟩ := idsB_rd bad b
  obtain ⟨q1, q2, q3⟩ := id_le hB
  rw [← h1, ← h2, ← h4]
  exact ⟨q1, q3, nxL_bd hB⟩
theorem keyB_bd {bad : Bool} {b : List Int} (hB : Bd .u8 b) : (keyB bad b).1.size ≤ 20 ∧ Bd .u8 (keyB bad b).2.2 := by
  obtain ⟨h1, _, h3⟩ := keyB_rd bad b
  rw [← h1, ← h3]
  refine ⟨?_, nxL_bd hB⟩
  rw [← bys_len, bys_strOf _ (ptS_bd _ _ _ hB)]
  by_cases h : ptOk 20 1 b
  · rw [ptS_len hB h (by decide)]
    have := h.2.1
    omega
  · rw [(pt_not h).2.2]; simp
theorem actB_bd {k : Int} {bad : Bool} {b : List Int} (hB : Bd .u8 b) : ((0 ≤ (actB k bad b).1.vk ∧ (actB k bad b).1.vk < 256) ∧ (-9223372036854775808 ≤ (actB k bad b).1.num ∧ (actB k bad b).1.num ≤ 9223372036854775807) ∧ (0 ≤ (actB k bad b).1.bits ∧ (actB k bad b).1.bits < 18446744073709551616) ∧ (actB k bad b).1.key.size ≤ 20 ∧ (actB k bad b).1.t.size ≤ 30) ∧ Bd .u8 (actB k bad b).2.2 := by
  have hk := keyB_bd (bad := bad) hB
  unfold actB
  split
  · exact ⟨⟨zer8, zerI, zer64, by simp, by simp⟩, hB⟩
  · split
    · obtain ⟨h1, _, h3⟩ := valB_rd (keyB bad b).1 (keyB bad b).2.1 (keyB bad b).2.2
      obtain ⟨q1, q2, q3, _, q5⟩ := vd_bd hk.2
      rw [← h1, ← h3]
      exact ⟨⟨q1, q2, q3, hk.1, q5⟩, nxL_bd hk.2⟩
    · exact ⟨⟨zer8, zerI, zer64, hk.1, by simp⟩, hk.2⟩
theorem Steps.none {b : List Int} (hB : Bd .u8 b) (p : Steps b) (h : ¬ (p.h.1 = 111 ∧ p.s.2.1 = false ∧ p.s.2.2 = [] ∧ checkE p.op = 0)) : decS b = .none := by
  cases hd : decS b with
  | none => rfl
  | some o => exact absurd (Steps.bad hB p hd) h
theorem Steps.ok {b : List Int} (hB : Bd .u8 b) (p : Steps b) : p.op.ok ∧ p.op.ids.length = 32 * p.op.n := by
  obtain ⟨h, a, l, t, k, x, e, s, eh, ea, el, et, ek, ex, ee, es⟩ := p
  simp only [Steps.op]
  subst eh
  have B1 := (oneB_bd (bad := false) hB).2
  subst ea
  obtain ⟨_, B2⟩ := numB_bd (m := 1000000007) (bad := (oneB false b).2.1) B1
  generalize numB 1000000007 _ _ = a at *
  subst el
  obtain ⟨l1, l2, B3⟩ := idsB_bd (bad := a.2.1) B2
  generalize idsB _ _ = l at *
  subst et
  obtain ⟨t1, B4⟩ := numB_bd (m := 1000000000000) (bad := l.2.2.1) B3
  generalize numB 1000000000000 _ _ = t at *
  subst ek
  obtain ⟨k1, B5⟩ := oneB_bd (bad := t.2.1) B4
  generalize oneB t.2.1 _ = k at *
  subst ex
  obtain ⟨⟨x1, x2, x3, x4, x5⟩, B6⟩ := actB_bd (k := k.1) (bad := k.2.1) B5
  generalize actB _ _ _ = x at *
  exact ⟨⟨by show 0 ≤ a.1 % 4294967296 ∧ a.1 % 4294967296 < 4294967296; omega, t1, k1, x1, x2, x3, by show 0 ≤ e.1 % 4294967296 ∧ e.1 % 4294967296 < 4294967296; omega, by show 0 ≤ s.1 % 4294967296 ∧ s.1 % 4294967296 < 4294967296; omega, by show l.1 ≤ 40; omega, by show x.1.key.size ≤ 100; omega, by show x.1.t.size ≤ 100; omega⟩, l2⟩
theorem OpV.ok.rng {o : OpV} (h : o.ok) : o.rng := ⟨h.au, h.st, h.k, h.vk, h.num, h.bits, h.e, h.s⟩
theorem by4_ref (n : Int) (h : 0 ≤ n ∧ n < 4294967296) : [n / 16777216, n / 65536 % 256, n / 256 % 256, n % 256] = by4 n := by
  have h1 : (2 : Int) ^ (24 : Int).toNat = 16777216 := by decide
  have h2 : (2 : Int) ^ (16 : Int).toNat = 65536 := by decide
  have h3 : (2 : Int) ^ (8 : Int).toNat = 256 := by decide
  unfold by4
  rw [h1, h2, h3, Int.emod_eq_of_lt (a := n / 16777216) (by omega) (by omega)]
theorem head_two (k x y : Int) : headS k [x, y] = ([k] ++ by4 x) ++ by4 y := by simp [headS]
theorem be_grow (xs : List Int) (i : Nat) (hi : i < xs.length) : 256 * be (xs.take i) + xs.getD i 0 = be (xs.take (i + 1)) := by
  rw [take_snoc xs i hi, be_snoc, Int.mul_comm]
theorem be7_lt (xs : List Int) (i : Nat) (hB : Bd .u8 xs) (hi : i ≤ 7) : be (xs.take i) < 72057594037927936 := by
  have hb := be_bd _ (hB.take i)
  have hp : (256 : Int) ^ (xs.take i).length ≤ 256 ^ 7 := pow256 (by simp; omega)
  have h256 : (256 : Int) ^ 7 = 72057594037927936 := by decide
  omega
theorem inv_ref {y e : Int} (hy : isG y = true) (he : 0 ≤ e ∧ e < 500000003) : pw (pw y e 1000000007) 500000002 1000000007 = pw y (500000003 - e) 1000000007 := by
  have h1 := isG_one hy
  rw [pw_pw y e 500000002 _ he.1 (by decide), pw_mod y 500000003 _ _ (by decide) (by decide) (by omega) h1, pw_mod y 500000003 (500000003 - e) _ (by decide) (by decide) (by omega) h1]
  congr 1
  omega
theorem ver_good {y e s : Int} {m : List Int} (hy : isG y = true) (hm : m.length ≤ 9991) : verS y m e s = 0 ↔ (e < 500000003 ∧ s < 500000003) ∧ chalS (pubS s * pw y (500000003 - e) 1000000007 % 1000000007) y m = e := by
  unfold verS
  rw [if_neg (by rw [hy]; simp), if_neg (by omega)]
  by_cases h : e < 500000003 ∧ s < 500000003
  · rw [if_neg (fun hn => hn h)]
    by_cases h2 : chalS (pubS s * pw y (500000003 - e) 1000000007 % 1000000007) y m = e
    · rw [if_pos h2]; simp [h, h2]
    · rw [if_neg h2]; simp [h2]
  · rw [if_pos h]; simp [h]
theorem ver_val {y e s : Int} {m : List Int} (hy : isG y = true) (hm : m.length ≤ 9991) : verS y m e s = 0 ∨ verS y m e s = 22 := by
  unfold verS
  rw [if_neg (by rw [hy]; simp), if_neg (by omega)]
  repeat' split
  all_goals simp
theorem fine4 {k : Int} {key : ByteArray} {vk num bits : Int} {t : ByteArray} (h : FineAct k key vk num bits t) (h4 : k = 4) : FineV vk num bits t := by
  rcases h with ⟨h1, _⟩ | ⟨h1, _⟩ | ⟨_, _, h1⟩
  · omega
  · omega
  · exact h1
end Go.Proofs.YtkmaenmhcgohbaaGreatDoor.S
namespace Go.Proofs.YtkmaenmhcgohbaaGreatDoor.W
open Go.RowKit Go.Proofs.YtkmaenmhcgohbaaGreatDoor.G
set_option linter.unusedVariables false
set_option maxRecDepth 20000
set_option maxHeartbeats 8000000
attribute [local irreducible] RS RX
theorem E164 : Enters Tryz.prog 164 := .mk Tryz.func164 (by kernel_rfl) rfl
theorem E198 : Enters Tryz.prog 198 := .mk Tryz.func198 (by kernel_rfl) rfl
theorem E218 : Enters Tryz.prog 218 := .mk Tryz.func218 (by kernel_rfl) rfl
theorem E224 : Enters Tryz.prog 224 := .mk Tryz.func224 (by kernel_rfl) rfl
theorem E250 : Enters Tryz.prog 250 := .mk Tryz.func250 (by kernel_rfl) rfl
theorem E262 : Enters Tryz.prog 262 := .mk Tryz.func262 (by kernel_rfl) rfl
theorem E266 : Enters Tryz.prog 266 := .mk Tryz.func266 (by kernel_rfl) rfl
theorem E267 : Enters Tryz.prog 267 := .mk Tryz.func267 (by kernel_rfl) rfl
theorem E283 : Enters Tryz.prog 283 := .mk Tryz.func283 (by kernel_rfl) rfl
theorem E284 : Enters Tryz.prog 284 := .mk Tryz.func284 (by kernel_rfl) rfl
theorem raisedR (a : Int) (ha : 0 ≤ a ∧ a < 4294967296) (n : Int) (hn : 0 ≤ n ∧ n < 18446744073709551616) (w : World) :
  Calls Tryz.prog 262 #[.int .u32 a, .int .u64 n] w (Ret w fun v _ => v = .int .u32 (S.pw a n 1000000007)) := by
 have hp1 := S.pw_nonneg a n 1000000007 (by decide)
 have hp2 := S.pw_lt a n 1000000007 (by decide)
 have hE := Ext.refl w
 refine enterU 8 Tryz.func262 rfl rfl ?_
 refine sq fun _ J1 => ?_
 refine RS.asI rfl ?_
 refine nl J1 (sq fun _ J2 => ?_)
 refine RS.mvI rfl ?_
 refine RS.o (D.conv rfl V37 V22 (W.u64 (by omega))) ?_
 refine RS.mvI rfl ?_
 refine RS.call E263 (ref_power _ _ _ (by omega) (by omega) (by omega) _) rfl (fun v3 w3 x3 A3 => ?_)
 replace hE := Ext.tr hE x3
 have zw3 := x3.size
 subst A3
 refine RS.nm ?_
 refine RS.o (D.conv rfl V22 V37 (W.u32 (by omega))) ?_
 refine RS.asI rfl ?_
 refine nl J2 ?_
 refine wp_ret ?_
 refine retI rfl rfl ?_
 exact ⟨_, rfl, hE, rfl⟩
theorem baseR (n : Int) (hn : 0 ≤ n ∧ n < 18446744073709551616) (w : World) :
  Calls Tryz.prog 218 #[.int .u64 n] w (Ret w fun v _ => v = .int .u32 (S.pubS n)) := by
 have hE := Ext.refl w
 refine enterU 4 Tryz.func218 rfl rfl ?_
 refine sq fun _ J1 => ?_
 refine RS.asI rfl ?_
 refine nl J1 (sq fun _ J2 => ?_)
 refine RS.mvI rfl ?_
 refine RS.call E262 (raisedR _ (by decide) _ hn _) rfl (fun v3 w3 x3 A3 => ?_)
 replace hE := Ext.tr hE x3
 have zw3 := x3.size
 subst A3
 rw [S.pub_eq]
 refine RS.nm ?_
 refine RS.asI rfl ?_
 refine nl J2 ?_
 refine wp_ret ?_
 refine retI rfl rfl ?_
 exact ⟨_, rfl, hE, rfl⟩
theorem keyRf (x : Int) (hx : 0 ≤ x ∧ x < 4294967296) (w : World) :
  Calls Tryz.prog 164 #[.int .u32 x] w (Ret w fun v _ => v = .int .u32 (S.pubS x)) := by
 have hE := Ext.refl w
 refine enterU 5 Tryz.func164 rfl rfl ?_
 refine sq fun _ J1 => ?_
 refine RS.asI rfl ?_
 refine nl J1 (sq fun _ J2 => ?_)
 refine RS.mvI rfl ?_
 refine RS.o (D.conv rfl V37 V22 (W.u64 (by omega))) ?_
 refine RS.call E218 (baseR _ (by omega) _) rfl (fun v3 w3 x3 A3 => ?_)
 replace hE := Ext.tr hE x3
 have zw3 := x3.size
 subst A3
 refine RS.nm ?_
 refine RS.asI rfl ?_
 refine nl J2 ?_
 refine wp_ret ?_
 refine retI rfl rfl ?_
 exact ⟨_, rfl, hE, rfl⟩
theorem productR (a : Int) (ha : 0 ≤ a ∧ a < 4294967296) (b : Int) (hb : 0 ≤ b ∧ b < 4294967296) (w : World) :
  Calls Tryz.prog 284 #[.int .u32 a, .int .u32 b] w (Ret w fun v _ => v = .int .u32 (a * b % 1000000007)) := by
 have hm := S.mul32 ha hb
 have hr1 := Int.emod_nonneg (a * b) (show (1000000007 : Int) ≠ 0 by decide)
 have hr2 := Int.emod_lt_of_pos (a * b) (show (0 : Int) < 1000000007 by decide)
 have hE := Ext.refl w
 refine enterU 10 Tryz.func284 rfl rfl ?_
 refine sq fun _ J1 => ?_
 refine RS.asI rfl ?_
 refine nl J1 (sq fun _ J2 => ?_)
 refine RS.mvI rfl ?_
 refine RS.o (D.conv rfl V37 V22 (W.u64 (by omega))) ?_
 refine RS.mvI rfl ?_
 refine RS.o (D.conv rfl V37 V22 (W.u64 (by omega))) ?_
 refine RS.o (D.mul rfl rfl (W.u64 (by omega))) ?_
 refine RS.o (D.rem rfl rfl (by omega) (by omega)) ?_
 refine RS.o (D.conv rfl V22 V37 (W.u32 (by omega))) ?_
 refine RS.asI rfl ?_
 refine nl J2 ?_
 refine wp_ret ?_
 refine retI rfl rfl ?_
 exact ⟨_, rfl, hE, rfl⟩
theorem invR (a : Int) (ha : 0 ≤ a ∧ a < 4294967296) (hg : S.isG a = true) (w : World) :
  Calls Tryz.prog 283 #[.int .u32 a] w (Ret w fun v _ => v = .tuple #[.int .u32 (S.pw a 500000002 1000000007), .int .i64 0]) := by
 have hE := Ext.refl w
 refine enterU 8 Tryz.func283 rfl rfl ?_
 refine sq fun _ J1 => ?_
 refine RS.asI rfl ?_
 refine RS.asI rfl ?_
 refine nl J1 ?_
 refine wx fun _ J2 => ?_
 refine sq fun _ J3 => ?_
 refine RS.mvI rfl ?_
 refine RS.call E220 (ref_Is _ (by omega) _) rfl (fun v4 w4 x4 A4 => ?_)
 replace hE := Ext.tr hE x4
 have zw4 := x4.size
 subst A4
 refine RS.nm ?_
 refine RS.o (D.not rfl) ?_
 refine nl J3 ?_
 refine C.ifnot rfl (fun c5 => ?_) (fun c5 => ?_)
 ·rw [hg] at c5; cases c5
 refine wp_skip ?_
 refine J2 _ _ ?_
 refine sq fun _ J6 => ?_
 refine RS.mvI rfl ?_
 refine RS.call E262 (raisedR _ ha _ (by decide) _) rfl (fun v7 w7 x7 A7 => ?_)
 replace hE := Ext.tr hE x7
 have zw7 := x7.size
 subst A7
 refine RS.nm ?_
 refine RS.asI rfl ?_
 refine RS.asI rfl ?_
 refine nl J6 ?_
 refine wp_ret ?_
 refine retII ?_
 exact ⟨_, rfl, hE, rfl⟩
theorem fourR (x : Int) (hx : 0 ≤ x ∧ x < 4294967296) (w : World) :
  Calls Tryz.prog 266 #[.int .u32 x] w (Ret w fun v w' => ∃ a' c', v = .slice a' 4 c' ∧ IOwn w.heap.size w' 5 .u8 a' 4 c' (S.by4 x)) := by
 have hE := Ext.refl w
 refine enterU 17 Tryz.func266 rfl rfl ?_
 refine sq fun _ J1 => ?_
 refine RS.asS rfl ?_
 refine nl J1 (sq fun _ J2 => ?_)
 refine RS.mvI rfl ?_
 refine RS.o (D.quo rfl rfl (by omega) (by omega) (W.u32 (by omega))) ?_
 refine RS.o (D.conv rfl V37 V5 (W.u8 (by omega))) ?_
 refine RS.mvI rfl ?_
 refine RS.o (D.quo rfl rfl (by omega) (by omega) (W.u32 (by omega))) ?_
 refine RS.o (D.rem rfl rfl (by omega) (by omega)) ?_
 refine RS.o (D.conv rfl V37 V5 (W.u8 (by omega))) ?_
 refine RS.mvI rfl ?_
 refine RS.o (D.quo rfl rfl (by omega) (by omega) (W.u32 (by omega))) ?_
 refine RS.o (D.rem rfl rfl (by omega) (by omega)) ?_
 refine RS.o (D.conv rfl V37 V5 (W.u8 (by omega))) ?_
 refine RS.mvI rfl ?_
 refine RS.o (D.rem rfl rfl (by omega) (by omega)) ?_
 refine RS.o (D.conv rfl V37 V5 (W.u8 (by omega))) ?_
 refine RS.buildSlice (xs := [.tmp 5, .tmp 9, .tmp 13, .tmp 16]) (vs := [.int _ _, .int _ _, .int _ _, .int _ _]) (cs := [.int _ _, .int _ _, .int _ _, .int _ _]) V51 T5 (by decide) rfl rfl rfl rfl rfl rfl (by intro v hv; simp only [List.mem_cons, List.not_mem_nil, or_false] at hv; rcases hv with rfl | rfl | rfl | rfl <;> rfl) rfl (fun b3 w3 e3 s3 x3 B3 => ?_)
 refine RS.nm ?_
 replace hE := Ext.tr hE x3
 have zw3 := x3.size
 have O1 : IOwn w.heap.size w3 5 .u8 (some ⟨b3, 0, none⟩) 4 4 [_, _, _, _] := IOwn.of_blk B3 rfl rfl (by omega) (.cons (by simp only [lim]; omega) (.cons (by simp only [lim]; omega) (.cons (by simp only [lim]; omega) (.cons (by simp only [lim]; omega) (.nil _))))) (by decide)
 refine RS.asS rfl ?_
 refine nl J2 ?_
 refine wp_ret ?_
 refine retS ?_
 rw [S.by4_ref x hx] at O1
 exact ⟨_, rfl, hE, _, _, rfl, O1.base (fun k hk => by have := O1.lo k hk; omega)⟩
theorem numberR {S0 : Nat → Prop} (a : Option Addr) (n c : Nat) (m : List Int) (w : World) (R0 : IRow .u8 S0 w a n m) (hn : n ≤ 200000) (hc : n ≤ c) :
  Calls Tryz.prog 267 #[.slice a n c] w (Ret w fun v _ => v = .int .u64 (S.be ((S.sha m).take 8))) := by
 replace R0 := R0.weaken (T := fun k => k < w.heap.size) (fun k hk _ => hk)
 have hE := Ext.refl w
 refine enterU 19 Tryz.func267 rfl rfl ?_
 refine sq fun _ J1 => ?_
 refine RS.asI rfl ?_
 refine nl J1 (sq fun _ J2 => ?_)
 refine RS.mvS rfl ?_
 refine RS.call E89 (of _ _ _ _ _ R0 hn hc) rfl (fun v3 w3 x3 A3 => ?_)
 replace hE := Ext.tr hE x3
 replace R0 := R0.ext x3
 have zw3 := x3.size
 subst A3
 have hsa := S.sha_arr m
 refine RS.nm ?_
 refine RS.alloc T27 (fun b4 w4 e4 s4 x4 B4 => ?_)
 refine RS.nm ?_
 replace hE := Ext.tr hE x4
 replace R0 := R0.ext x4
 have zw4 := x4.size
 have A4 : IArr .u8 w4 b4 32 (List.replicate 32 0) [] 27 := IArr.zero B4
 clear B4
 refine RS.storeArr A4 rfl rfl C27 (by decide) hsa.1 hsa.2 (fun w5 y5 N5 => ?_)
 replace hE := hE.trans (y5.belo)
 replace R0 := R0.sto y5
 have zw5 := y5.size
 replace A4 := N5
 refine nl J2 (sq fun _ J6 => ?_)
 refine RS.asI rfl ?_
 refine nl J6 ?_
 refine wx fun _ J7 => ?_
 refine sq fun _ J8 => ?_
 refine RS.asI rfl ?_
 refine nl J8 ?_
 refine wp_block ?_
 refine C.loop (A := Int × Int) (fun p => [(4, .int .u64 p.2), (5, .int .i64 p.1)]) [8, 9, 10, 11, 12, 13, 14, 15, 16, 17, 18] (fun p w' => Ext w5 w' ∧ ((0 ≤ p.1 ∧ p.1 ≤ 8) ∧ p.2 = S.be ((S.sha m).take p.1.toNat))) (fun p => (8 - p.1.toNat)) (0, 0) (by kernel_rfl) ?_ ?_
 ·exact ⟨Ext.refl _, ⟨by dsimp only; omega, by dsimp only; omega⟩, rfl⟩
 rintro p j w9 ⟨x9, hI⟩
 replace hE := Ext.tr hE x9
 replace R0 := R0.ext x9
 replace A4 := A4.ext x9
 have zw9 := x9.size
 obtain ⟨i, r⟩ := p
 dsimp only at hI
 obtain ⟨g1, g2⟩ := hI
 have g3 := S.be8_lt (S.sha m) i.toNat hsa.2 (by omega)
 rw [← g2] at g3
 refine C.nmU ?_
 refine wx fun _ J10 => ?_
 refine sq fun _ J11 => ?_
 refine RS.mvI rfl ?_
 refine RS.o (D.lt rfl rfl) ?_
 refine nl J11 ?_
 refine C.ifd rfl (fun c12 => ?_) (fun c12 => ?_)
 ·have g4 := S.be7_lt (S.sha m) i.toNat hsa.2 (by omega)
  rw [← g2] at g4
  refine wp_skip ?_
  refine J10 _ _ ?_
  refine wx fun _ J13 => ?_
  refine wp_block ?_
  refine region ?_
  refine RS.mvI rfl ?_
  refine RS.o (D.mul rfl rfl (W.u64 (by omega))) ?_
  refine RS.mvI rfl ?_
  refine RS.idxA A4 rfl rfl V27 C5 (by omega) (fun v14 h14 q14 r14 => ?_)
  refine RS.nm ?_
  simp only [lim] at r14
  have q2 := q14
  have hgr := S.be_grow (S.sha m) i.toNat (by rw [hsa.1]; omega)
  rw [← g2, ← q2] at hgr
  have hb8 := S.be8_lt (S.sha m) (i.toNat + 1) hsa.2 (by omega)
  rw [← hgr] at hb8
  refine RS.o (D.load rfl V5 rfl (h14)) ?_
  refine RS.o (D.conv rfl V5 V22 (W.u64 (by omega))) ?_
  refine RS.o (D.add rfl rfl (W.u64 (by omega))) ?_
  refine RS.asI rfl ?_
  refine nl J13 ?_
  refine region ?_
  refine RS.mvI rfl ?_
  refine RS.o (D.add rfl rfl (W.i64 (by omega))) ?_
  refine RS.asI rfl ?_
  refine RS.nil ?_
  change Nx _ _ _ _ _ _ _ _
  refine C.next (i + 1, _) ⟨rfl, rfl, trivial⟩ (by kernel_rfl) ?_ ?_
  ·refine ⟨x9, ⟨by dsimp only; omega, by dsimp only; omega⟩, ?_⟩
   dsimp only
   rw [show (i + 1).toNat = i.toNat + 1 by omega, ← hgr]
  dsimp only; omega
 refine wp_exit ?_
 refine J7 _ _ ?_
 refine sq fun _ J15 => ?_
 refine RS.mvI rfl ?_
 refine RS.asI rfl ?_
 refine nl J15 ?_
 refine wp_ret ?_
 refine retI rfl rfl ?_
 rw [g2, show i.toNat = 8 by omega]
 exact ⟨_, rfl, hE, rfl⟩
theorem chalRf (r : Int) (hr : 0 ≤ r ∧ r < 4294967296) (y : Int) (hy : 0 ≤ y ∧ y < 4294967296) {S0 : Nat → Prop} (a : Option Addr) (n c : Nat) (m : List Int) (w : World) (R0 : IRow .u8 S0 w a n m) (hn : n ≤ 100000) :
  Calls Tryz.prog 224 #[.int .u32 r, .int .u32 y, .slice a n c] w (Ret w fun v _ => v = .int .u32 (S.chalS r y m)) := by
 replace R0 := R0.weaken (T := fun k => k < w.heap.size) (fun k hk _ => hk)
 have hE := Ext.refl w
 refine enterU 18 Tryz.func224 rfl rfl ?_
 refine sq fun _ J1 => ?_
 refine RS.asI rfl ?_
 refine nl J1 (sq fun _ J2 => ?_)
 refine RS.buildSlice (xs := [.const (.int .u8 99)]) (vs := [.int _ _]) (cs := [.int _ _]) V51 T5 (by decide) rfl rfl rfl rfl rfl rfl (by intro v hv; simp only [List.mem_cons, List.not_mem_nil, or_false] at hv; subst hv; rfl) rfl (fun b3 w3 e3 s3 x3 B3 => ?_)
 refine RS.nm ?_
 replace hE := Ext.tr hE x3
 replace R0 := R0.ext x3
 have zw3 := x3.size
 have O1 : IOwn w.heap.size w3 5 .u8 (some ⟨b3, 0, none⟩) 1 1 [_] := IOwn.of_blk B3 rfl rfl (by omega) (.cons (by simp only [lim]; omega) (.nil _)) (by decide)
 refine RS.mvI rfl ?_
 refine RS.call E266 (fourR r (by omega) _) rfl (fun v4 w4 x4 A4 => ?_)
 replace hE := Ext.tr hE x4
 replace R0 := R0.ext x4
 replace O1 := O1.ext x4
 have zw4 := x4.size
 obtain ⟨aF, cF, rfl, OF⟩ := A4
 refine RS.nm ?_
 refine RS.appendI O1 OF.row rfl rfl V51 T5 rfl (by omega) (by decide) (by omega) (fun a5 c5 w5 N5 x5 => ?_)
 refine RS.nm ?_
 replace hE := hE.trans (x5.belQ (fun _ h => (O1.lo _ h).1))
 replace R0 := R0.prQ x5 (fun _ h => (O1.lo _ h).1)
 have zw5 := x5.size
 replace O1 := N5
 refine RS.mvI rfl ?_
 refine RS.call E266 (fourR y (by omega) _) rfl (fun v6 w6 x6 A6 => ?_)
 replace hE := Ext.tr hE x6
 replace R0 := R0.ext x6
 replace O1 := O1.ext x6
 have zw6 := x6.size
 obtain ⟨aF, cF, rfl, OF⟩ := A6
 refine RS.nm ?_
 refine RS.appendI O1 OF.row rfl rfl V51 T5 rfl (by omega) (by decide) (by omega) (fun a7 c7 w7 N7 x7 => ?_)
 refine RS.nm ?_
 replace hE := hE.trans (x7.belQ (fun _ h => (O1.lo _ h).1))
 replace R0 := R0.prQ x7 (fun _ h => (O1.lo _ h).1)
 have zw7 := x7.size
 replace O1 := N7
 refine RS.asS rfl ?_
 refine nl J2 (sq fun _ J8 => ?_)
 refine RS.mvS rfl ?_
 refine RS.mvS rfl ?_
 refine RS.appendI O1 R0 rfl rfl V51 T5 rfl (by omega) (by decide) (by omega) (fun a9 c9 w9 N9 x9 => ?_)
 refine RS.nm ?_
 replace hE := hE.trans (x9.belQ (fun _ h => (O1.lo _ h).1))
 replace R0 := R0.prQ x9 (fun _ h => (O1.lo _ h).1)
 have zw9 := x9.size
 replace O1 := N9
 refine RS.call E267 (numberR _ _ _ _ _ O1.row (by omega) O1.own.pre) rfl (fun v10 w10 x10 A10 => ?_)
 replace hE := Ext.tr hE x10
 replace R0 := R0.ext x10
 replace O1 := O1.ext x10
 have zw10 := x10.size
 subst A10
 rw [← S.head_two, S.hash_eq]
 have hhb := S.hash_bd 99 [r, y] m
 refine RS.nm ?_
 refine RS.o (D.rem rfl rfl (by omega) (by omega)) ?_
 refine RS.o (D.conv rfl V22 V37 (W.u32 (by omega))) ?_
 refine RS.asI rfl ?_
 refine nl J8 ?_
 refine wp_ret ?_
 refine retI rfl rfl ?_
 refine ⟨_, rfl, hE, ?_⟩
 rw [S.chal_eq]
theorem rightRf (y : Int) (hy : 0 ≤ y ∧ y < 4294967296) (e s : Int) (he : 0 ≤ e ∧ e < 4294967296) (hs : 0 ≤ s ∧ s < 4294967296) {S0 : Nat → Prop} (a : Option Addr) (n c : Nat) (m : List Int) (w : World) (R0 : IRow .u8 S0 w a n m) (hn : n ≤ 100000) (hy2 : S.isG y = true) (hm9 : m.length ≤ 9991) :
  Calls Tryz.prog 250 #[.int .u32 y, .slice a n c, .agg ([.int .u32 e, .int .u32 s] : List Value).toArray] w (Ret w fun v _ => v = .bool (decide (S.verS y m e s = 0))) := by
 replace R0 := R0.weaken (T := fun k => k < w.heap.size) (fun k hk _ => hk)
 have hE := Ext.refl w
 refine enterU 36 Tryz.func250 rfl rfl ?_
 refine sq fun _ J1 => ?_
 refine RS.box rfl rfl (fun b2 w2 e2 s2 x2 B2 => ?_)
 refine RS.nm ?_
 replace hE := Ext.tr hE x2
 replace R0 := R0.ext x2
 have zw2 := x2.size
 refine RS.asB rfl ?_
 refine nl J1 ?_
 refine wx fun _ J3 => ?_
 refine sq fun _ J4 => ?_
 refine RS.fl 0 V42 rfl C37 ?_
 refine RS.ld V37 B2 ?_
 refine RS.call E222 (ref_Exponent _ (by omega) _) rfl (fun v5 w5 x5 A5 => ?_)
 replace hE := Ext.tr hE x5
 replace R0 := R0.ext x5
 replace B2 := B2.ext x5
 have zw5 := x5.size
 subst A5
 refine RS.nm ?_
 refine RS.o (D.not rfl) ?_
 refine RS.mvB rfl ?_
 refine RS.splitnot 13 rfl rfl (fun c6 => ?_) (fun c6 => ?_)
 ·refine RS.nm ?_
  have hf := c6
  refine RS.skT 13 ?_
  refine RS.skT 13 ?_
  refine RS.skT 13 ?_
  refine RS.skT 13 ?_
  refine RS.pkt ?_
  refine nl J4 ?_
  refine C.ift rfl ?_
  refine sq fun _ J7 => ?_
  refine RS.asB rfl ?_
  refine nl J7 ?_
  refine wp_ret ?_
  refine retB rfl rfl ?_
  refine ⟨_, rfl, hE, congrArg Value.bool (decide_eq_false ?_).symm⟩
  rw [S.ver_good hy2 hm9]
  rintro ⟨⟨z1, z2⟩, _⟩
  have := of_decide_eq_false hf
  omega
 refine RS.nm ?_
 have he2 := of_decide_eq_true c6
 refine RS.wt 13 ?_
 refine RS.fl 1 V42 rfl C37 ?_
 refine RS.wt 13 ?_
 refine RS.ld V37 B2 ?_
 refine RS.wt 13 ?_
 refine RS.call E222 (ref_Exponent _ (by omega) _) rfl (fun v8 w8 x8 A8 => ?_)
 replace hE := Ext.tr hE x8
 replace R0 := R0.ext x8
 replace B2 := B2.ext x8
 have zw8 := x8.size
 subst A8
 refine RS.nm ?_
 refine RS.wt 13 ?_
 refine RS.o (D.not rfl) ?_
 refine RS.pk ?_
 refine nl J4 ?_
 refine C.ifnot rfl (fun c9 => ?_) (fun c9 => ?_)
 ·have hf := c9
  refine sq fun _ J10 => ?_
  refine RS.asB rfl ?_
  refine nl J10 ?_
  refine wp_ret ?_
  refine retB rfl rfl ?_
  refine ⟨_, rfl, hE, congrArg Value.bool (decide_eq_false ?_).symm⟩
  rw [S.ver_good hy2 hm9]
  rintro ⟨⟨z1, z2⟩, _⟩
  have := of_decide_eq_false hf
  omega
 have hs2 := of_decide_eq_true c9
 refine wp_skip ?_
 refine J3 _ _ ?_
 refine sq fun _ J11 => ?_
 refine RS.mvI rfl ?_
 refine RS.fl 0 V42 rfl C37 ?_
 refine RS.ld V37 B2 ?_
 refine RS.o (D.conv rfl V37 V22 (W.u64 (by omega))) ?_
 refine RS.call E262 (raisedR y hy _ (by omega) _) rfl (fun v12 w12 x12 A12 => ?_)
 replace hE := Ext.tr hE x12
 replace R0 := R0.ext x12
 replace B2 := B2.ext x12
 have zw12 := x12.size
 subst A12
 have hp1 := S.pw_nonneg y e 1000000007 (by decide)
 have hp2 := S.pw_lt y e 1000000007 (by decide)
 have hgb := S.isG_back e hy2 he.1
 refine RS.nm ?_
 refine RS.call E283 (invR _ (by omega) hgb _) rfl (fun v13 w13 x13 A13 => ?_)
 replace hE := Ext.tr hE x13
 replace R0 := R0.ext x13
 replace B2 := B2.ext x13
 have zw13 := x13.size
 subst A13
 rw [S.inv_ref hy2 (by omega)]
 have hp3 := S.pw_nonneg y (500000003 - e) 1000000007 (by decide)
 have hp4 := S.pw_lt y (500000003 - e) 1000000007 (by decide)
 refine RS.nm ?_
 refine RS.move (v := .tuple _) rfl ?_
 refine RS.exI ?_
 refine RS.exI ?_
 refine RS.asI rfl ?_
 refine RS.asI rfl ?_
 refine nl J11 ?_
 refine wx fun _ J14 => ?_
 refine regionX Ext [(0, .q), (1, .q), (3, .q), (5, .q), (6, .q), (8, .q), (9, .q), (2, .e), (4, .e), (7, .e), (10, .q), (11, .q)] mixed Ext.refl (fun h k => h.tr k) (by kernel_rfl) (fun w15 x15 => ?_)
 replace hE := Ext.tr hE x15
 replace R0 := R0.ext x15
 replace B2 := B2.ext x15
 have zw15 := x15.size
 refine RX.fl 1 V42 rfl C37 ?_
 refine RX.o (fun w' hw => D.load rfl V37 rfl ((B2.ext hw).cell rfl)) ?_
 refine RX.mvI rfl ?_
 refine RX.mvI rfl ?_
 refine RX.mvS rfl ?_
 refine RX.fl 0 V42 rfl C37 ?_
 refine RX.o (fun w' hw => D.load rfl V37 rfl ((B2.ext hw).cell rfl)) ?_
 refine RX.eff ?_
 refine RS.call E164 (keyRf s hs _) rfl (fun v16 w16 x16 A16 => ?_)
 replace hE := Ext.tr hE x16
 replace R0 := R0.ext x16
 replace B2 := B2.ext x16
 have zw16 := x16.size
 subst A16
 have hb1 := S.pub_bd s
 refine RS.nm ?_
 refine RS.nil ⟨x16, ?_⟩
 refine RX.eff ?_
 refine RS.call E284 (productR _ (by omega) _ (by omega) _) rfl (fun v17 w17 x17 A17 => ?_)
 replace hE := Ext.tr hE x17
 replace R0 := R0.ext x17
 replace B2 := B2.ext x17
 have zw17 := x17.size
 subst A17
 have hpr1 := Int.emod_nonneg (S.pubS s * S.pw y (500000003 - e) 1000000007) (show (1000000007 : Int) ≠ 0 by decide)
 have hpr2 := Int.emod_lt_of_pos (S.pubS s * S.pw y (500000003 - e) 1000000007) (show (0 : Int) < 1000000007 by decide)
 refine RS.nm ?_
 refine RS.nil ⟨x17, ?_⟩
 refine RX.eff ?_
 refine RS.call E224 (chalRf _ (by omega) _ hy _ _ _ _ _ R0 hn) rfl (fun v18 w18 x18 A18 => ?_)
 replace hE := Ext.tr hE x18
 replace R0 := R0.ext x18
 replace B2 := B2.ext x18
 have zw18 := x18.size
 subst A18
 refine RS.nm ?_
 refine RS.nil ⟨x18, ?_⟩
 refine RX.o (fun w' hw => D.eq rfl rfl) ?_
 refine RX.assign (v := .bool _) rfl ?_
 refine RX.nil (J14 _ _ ?_)
 refine wp_ret ?_
 refine retB rfl rfl ?_
 refine ⟨_, rfl, hE, congrArg Value.bool ?_⟩
 have hv := S.ver_good (e := e) (s := s) hy2 hm9
 by_cases hx : S.chalS (S.pubS s * S.pw y (500000003 - e) 1000000007 % 1000000007) y m = e
 ·rw [decide_eq_true (hv.2 ⟨⟨he2, hs2⟩, hx⟩)]; simp [hx]
 rw [decide_eq_false (fun h => hx (hv.1 h).2)]; simp [hx]
theorem signedOR {S0 : Nat → Prop} (o : S.OpV) (ho : o.ok) (pa : Option Addr) (pc : Nat) (w : World) (D0 : WRow .u8 32 S0 w pa o.n o.ids) (hc : o.n ≤ pc) (hz : S.checkE o = 0) :
  Calls Tryz.prog 198 #[.agg ([.int .u32 o.au, .slice pa o.n pc, .int .u64 o.st, .int .u8 o.k, .string o.key, .int .u8 o.vk, .int .i64 o.num, .int .u64 o.bits, .string o.t, .int .u32 o.e, .int .u32 o.s] : List Value).toArray] w (Ret w fun v _ => v = .bool (decide (S.verS o.au (S.msgS o) o.e o.s = 0))) := by
 replace D0 := D0.weaken (T := fun k => k < w.heap.size) (fun k hk _ => hk)
 have o1 := ho.au
 have o2 := ho.st
 have o3 := ho.k
 have o4 := ho.vk
 have o5 := ho.num
 have o6 := ho.bits
 have o7 := ho.e
 have o8 := ho.s
 have o9 := ho.n
 have o10 := ho.key
 have o11 := ho.t
 have el := D0.len
 obtain ⟨z1, z2, z3⟩ := S.check_zero.1 hz
 have hF4 : o.k = 4 → S.FineV o.vk o.num o.bits o.t := S.fine4 z3.2.2.2.2
 have hE := Ext.refl w
 refine enterU 9 Tryz.func198 rfl rfl ?_
 refine sq fun _ J1 => ?_
 refine RS.box rfl rfl (fun b2 w2 e2 s2 x2 B2 => ?_)
 refine RS.nm ?_
 replace hE := Ext.tr hE x2
 replace D0 := D0.ext x2
 have zw2 := x2.size
 refine RS.asB rfl ?_
 refine nl J1 ?_
 refine wx fun _ J3 => ?_
 refine regionX Ext [(0, .q), (1, .q), (2, .q), (4, .q), (5, .q), (3, .e), (6, .e), (7, .q)] mixed Ext.refl (fun h k => h.tr k) (by kernel_rfl) (fun w4 x4 => ?_)
 replace hE := Ext.tr hE x4
 replace D0 := D0.ext x4
 replace B2 := B2.ext x4
 have zw4 := x4.size
 refine RX.fl 0 V44 rfl C37 ?_
 refine RX.o (fun w' hw => D.load rfl V37 rfl ((B2.ext hw).cell rfl)) ?_
 refine RX.o (fun w' hw => D.loadAgg rfl V44 rfl C44 (by decide) rfl ((B2.ext hw).cellsN 11 rfl)) ?_
 refine RX.fl 9 V44 rfl C42 ?_
 refine RX.o (fun w' hw => D.loadAgg rfl V42 rfl C42 (by decide) rfl ((B2.ext hw).cellsN 2 rfl)) ?_
 refine RX.eff ?_
 refine RS.call E167 (textOR o ho _ _ _ D0 hc z1 hF4) rfl (fun v5 w5 x5 A5 => ?_)
 replace hE := Ext.tr hE x5
 replace D0 := D0.ext x5
 replace B2 := B2.ext x5
 have zw5 := x5.size
 obtain ⟨aT, nT, cT, rfl, OT⟩ := A5
 have lOT := OT.len
 have mlT := S.msg_len o ho z1 el
 refine RS.nm ?_
 refine RS.nil ⟨x5, ?_⟩
 refine RX.eff ?_
 refine RS.call E250 (rightRf _ o1 _ _ o7 o8 _ _ _ _ _ OT.row (by omega) z3.1 (by omega)) rfl (fun v6 w6 x6 A6 => ?_)
 replace hE := Ext.tr hE x6
 replace D0 := D0.ext x6
 replace B2 := B2.ext x6
 replace OT := OT.ext x6
 have zw6 := x6.size
 subst A6
 refine RS.nm ?_
 refine RS.nil ⟨x6, ?_⟩
 refine RX.assign (v := .bool _) rfl ?_
 refine RX.nil (J3 _ _ ?_)
 refine wp_ret ?_
 refine retB rfl rfl ?_
 exact ⟨_, rfl, hE, rfl⟩
theorem verifyOR {S0 : Nat → Prop} (o : S.OpV) (ho : o.ok) (pa : Option Addr) (pc : Nat) (w : World) (D0 : WRow .u8 32 S0 w pa o.n o.ids) (hc : o.n ≤ pc) :
  Calls Tryz.prog 127 #[.agg ([.int .u32 o.au, .slice pa o.n pc, .int .u64 o.st, .int .u8 o.k, .string o.key, .int .u8 o.vk, .int .i64 o.num, .int .u64 o.bits, .string o.t, .int .u32 o.e, .int .u32 o.s] : List Value).toArray] w (Ret w fun v _ => v = .int .i64 (S.verE o)) := by
 replace D0 := D0.weaken (T := fun k => k < w.heap.size) (fun k hk _ => hk)
 have o1 := ho.au
 have o2 := ho.st
 have o3 := ho.k
 have o4 := ho.vk
 have o5 := ho.num
 have o6 := ho.bits
 have o7 := ho.e
 have o8 := ho.s
 have o9 := ho.n
 have o10 := ho.key
 have o11 := ho.t
 have el := D0.len
 have hE := Ext.refl w
 refine enterU 10 Tryz.func127 rfl rfl ?_
 refine sq fun _ J1 => ?_
 refine RS.box rfl rfl (fun b2 w2 e2 s2 x2 B2 => ?_)
 refine RS.nm ?_
 replace hE := Ext.tr hE x2
 replace D0 := D0.ext x2
 have zw2 := x2.size
 refine RS.asI rfl ?_
 refine nl J1 ?_
 refine wx fun _ J3 => ?_
 refine sq fun _ J4 => ?_
 refine RS.la V44 C44 B2 11 ?_
 refine RS.call E165 (checkOR o ho _ _ _ D0 hc) rfl (fun v5 w5 x5 A5 => ?_)
 replace hE := Ext.tr hE x5
 replace D0 := D0.ext x5
 replace B2 := B2.ext x5
 have zw5 := x5.size
 subst A5
 refine RS.nm ?_
 refine RS.o (D.ne rfl rfl) ?_
 refine nl J4 ?_
 refine C.ifn rfl (fun c6 => ?_) (fun c6 => ?_)
 ·have hk := c6
  refine sq fun _ J7 => ?_
  refine RS.la V44 C44 B2 11 ?_
  refine RS.call E165 (checkOR o ho _ _ _ D0 hc) rfl (fun v8 w8 x8 A8 => ?_)
  replace hE := Ext.tr hE x8
  replace D0 := D0.ext x8
  replace B2 := B2.ext x8
  have zw8 := x8.size
  subst A8
  refine RS.nm ?_
  refine RS.asI rfl ?_
  refine nl J7 ?_
  refine wp_ret ?_
  refine retI rfl rfl ?_
  refine ⟨_, rfl, hE, ?_⟩
  unfold S.verE
  rw [if_neg hk]
 have hk := c6
 obtain ⟨z1, z2, z3⟩ := S.check_zero.1 hk
 have ml := S.msg_len o ho z1 el
 have hvv := S.ver_val (e := o.e) (s := o.s) z3.1 (show (S.msgS o).length ≤ 9991 by omega)
 refine wp_skip ?_
 refine J3 _ _ ?_
 refine wx fun _ J9 => ?_
 refine sq fun _ J10 => ?_
 refine RS.la V44 C44 B2 11 ?_
 refine RS.call E198 (signedOR o ho _ _ _ D0 hc hk) rfl (fun v11 w11 x11 A11 => ?_)
 replace hE := Ext.tr hE x11
 replace D0 := D0.ext x11
 replace B2 := B2.ext x11
 have zw11 := x11.size
 subst A11
 refine RS.nm ?_
 refine RS.o (D.not rfl) ?_
 refine nl J10 ?_
 refine C.ifnot rfl (fun c12 => ?_) (fun c12 => ?_)
 ·have hv := of_decide_eq_false c12
  refine sq fun _ J13 => ?_
  refine RS.asI rfl ?_
  refine nl J13 ?_
  refine wp_ret ?_
  refine retI rfl rfl ?_
  refine ⟨_, rfl, hE, ?_⟩
  unfold S.verE
  rw [if_pos hk, hvv.resolve_left hv]
 have hv := of_decide_eq_true c12
 refine wp_skip ?_
 refine J9 _ _ ?_
 refine sq fun _ J14 => ?_
 refine RS.asI rfl ?_
 refine nl J14 ?_
 refine wp_ret ?_
 refine retI rfl rfl ?_
 refine ⟨_, rfl, hE, ?_⟩
 unfold S.verE
 rw [if_pos hk, hv]
end Go.Proofs.YtkmaenmhcgohbaaGreatDoor.W
namespace Go.Proofs.YtkmaenmhcgohbaaGreatDoor.S
open G
def Starts (b h : List Int) : Prop := h.length ≤ b.length ∧ b.take h.length = h
instance (b h : List Int) : Decidable (Starts b h) := by unfold Starts; infer_instance
def shOk (b : List Int) : Prop := rdE b = 0 ∧ rdV b ≤ 4294967295
instance (b : List Int) : Decidable (shOk b) := by unfold shOk; infer_instance
section
variable {b : List Int} {a : Int} {l1 : List Int} {n : Nat} {ids l2 : List Int} {t : Int} {l3 : List Int} {k : Int} {l4 : List Int} {x : ActV} {l5 : List Int} {e : Int} {l6 : List Int} {s : Int} {l7 : List Int}
end
end Go.Proofs.YtkmaenmhcgohbaaGreatDoor.S
namespace Go.Proofs.YtkmaenmhcgohbaaGreatDoor.G
open Go.RowKit
theorem fill_ints (k : IntKind) : ∀ (ps : List (Nat × Int)) (zs : List Int), (∀ p ∈ ps, p.1 < zs.length) → Instr.fill (fun i => some (i * 1, 1)) (ints k zs).toArray (ps.map fun p => (p.1, Value.int k p.2)) = some (ints k (ps.foldl (fun z p => z.set p.1 p.2) zs)).toArray
  | [], zs, _ => rfl
  | p :: ps, zs, h => by
    have hp := h p List.mem_cons_self
    have ih := fill_ints k ps (zs.set p.1 p.2) (fun q hq => by rw [List.length_set]; exact h q (List.mem_cons_of_mem _ hq))
    have e : (ints k zs).toArray.setIfInBounds p.1 (Value.int k p.2) = (ints k (zs.set p.1 p.2)).toArray := by rw [← ints_set]; simp
    have hl : ¬ zs.length < p.1 + 1 := by omega
    simp only [Nat.mul_one] at ih ⊢
    rw [List.map_cons, List.foldl_cons]
    simp [Instr.fill, Value.cells, ints_length, e, hl, ih]
section
variable {P : Program} {l : List Value} {w : World} {dd : Option Tmp} {g : Option (Nat × Bool)} {ty : TypeId} {pos : String} {af : Array Edge}
theorem D.buildI {t e n sz by_ : Nat} {k : IntKind} {parts : Array (Nat × Operand)} {zs : List Int} {ps : List (Nat × Int)} (hu : P.underlying t = some (.array n e)) (ht : TI P t sz by_ (ints k zs)) (hs : P.cellsOf e = 1) (hv : parts.toList.map (fun p => (p.1, ev l p.2)) = ps.map fun p => (p.1, Value.int k p.2)) (hb : ∀ p ∈ ps, p.1 < zs.length) :
    (execOp (ev l) ⟨dd, .build t parts, ty, pos, af, g⟩).run P w = .ok (.value (.agg (ints k (ps.foldl (fun z p => z.set p.1 p.2) zs)).toArray)) w := by
  obtain ⟨i, v', i1, i2, i3, i4, i5⟩ := ht
  have hz1 : (zeroValue t).run P w = .ok v' w := by simp [zeroValue, typeInfo, i1, i4]
  have hf := fill_ints k ps zs hb
  have e2 : (Array.map (fun x => (x.fst, ev l x.snd)) parts).toList = ps.map fun p => (p.1, Value.int k p.2) := by rw [Array.toList_map, hv]
  simp only [execOp, Instr.build, Sem.run_bind, hz1, Result.andThen, run_underlying hu, size_run hs (by decide)]
  rw [i5, e2, hf]
  rfl
end
section
variable {α : Type} {f : α → List Value} {sz lo n m c : Nat} {S T : Nat → Prop} {w w' : World} {e : TypeId} {a : Option Addr} {l : List α}
theorem GRow.weaken (h : GRow f sz S w a n l) (x : ∀ b, b < w.heap.size → S b → T b) : GRow f sz T w a n l := ⟨h.row.weaken x, h.len, h.szf⟩
theorem GRow.nil (hf : ∀ x, (f x).length = sz) : GRow f sz S w a 0 [] := ⟨Row.nil, rfl, hf⟩
structure GOwn {α : Type} (f : α → List Value) (sz lo : Nat) (w : World) (e : TypeId) (a : Option Addr) (n c : Nat) (l : List α) : Prop where
  own : Own lo w e sz a n c (l.flatMap f)
  szf : ∀ x, (f x).length = sz
  len : l.length = n
theorem GOwn.ext (h : GOwn f sz lo w e a n c l) (x : Ext w w') : GOwn f sz lo w' e a n c l := ⟨h.own.ext x, h.szf, h.len⟩
theorem GOwn.st (h : GOwn f sz lo w e a n c l) (x : St m w w') (hn : obk a = some m → False) : GOwn f sz lo w' e a n c l := ⟨h.own.st x hn, h.szf, h.len⟩
theorem GOwn.pr (h : GOwn f sz lo w e a n c l) (x : Pr T w w') (hn : ∀ b, obk a = some b → T b → False) : GOwn f sz lo w' e a n c l := ⟨h.own.pr x hn, h.szf, h.len⟩
theorem GOwn.base {lo' : Nat} (h : GOwn f sz lo w e a n c l) (hl : ∀ b, obk a = some b → lo' ≤ b) : GOwn f sz lo' w e a n c l := ⟨h.own.base hl, h.szf, h.len⟩
theorem GOwn.los (h : GOwn f sz lo w e a n c l) : ∀ b, obk a = some b → lo ≤ b ∧ b < w.heap.size := h.own.lo
theorem GOwn.row (h : GOwn f sz lo w e a n c l) : GRow f sz (fun b => lo ≤ b) w a n l := ⟨h.own.rowS, h.len, h.szf⟩
theorem GOwn.rowO (h : GOwn f sz lo w e a n c l) : GRow f sz (fun b => obk a = some b) w a n l := ⟨h.own.row, h.len, h.szf⟩
theorem GOwn.nil (lo : Nat) (w : World) (e : TypeId) (hf : ∀ x, (f x).length = sz) : GOwn f sz lo w e none 0 0 [] := ⟨Own.nil lo w e sz, hf, rfl⟩
theorem GOwn.of_blk {b : Nat} {cs : List Value} (h : Blk w b cs e) (hf : ∀ x, (f x).length = sz) (hc : cs = l.flatMap f) (hn : l.length = n) (hb : lo ≤ b) (hm : n ≤ 9223372036854775807) : GOwn f sz lo w e (some ⟨b, 0, none⟩) n n l := by
  subst hc
  exact ⟨Own.of_blk h (by rw [flat_len f sz hf, hn, Nat.mul_comm]) hb (by simp only [maxLen]; omega), hf, hn⟩
theorem GOwn.some (h : GOwn f sz lo w e a n c l) (hn : 0 < n) : ∃ g, a = Option.some ⟨g, 0, none⟩ := by
  rcases h.own.2 with ⟨_, h0⟩ | ⟨g, cap, cur, hv, _⟩
  · omega
  · exact ⟨g, by simp at hv; exact hv.1⟩
theorem GOwn.capn (h : GOwn f sz lo w e a n c l) : n ≤ c := h.own.cap.1
end
section
variable {α : Type} {f : α → List Value} {sz lo n m c c2 by_ : Nat} {S : Nat → Prop} {w : World} {e t : TypeId} {a a2 : Option Addr} {l1 l2 : List α} {z : List Value}
variable {P : Program} {ops : Array Oper} {K : List Value → World → Prop} {rest : List Oper} {l : List Value} {d : Tmp} {ty : TypeId} {pos : String} {af : Array Edge} {x y : Operand}
end
structure Inn where
  (k : IntKind) (sz : Nat) (a : Option Addr) (n c : Nat) (xs : List Int)
def Inn.ok (S : Nat → Prop) (w : World) (i : Inn) : Prop := WRow i.k i.sz S w i.a i.n i.xs ∧ i.n ≤ i.c
section
variable {S T : Nat → Prop} {w w' : World} {m : Nat} {i : Inn}
theorem Inn.ok.ext (h : i.ok S w) (x : Ext w w') : i.ok S w' := ⟨h.1.ext x, h.2⟩
theorem Inn.ok.st (h : i.ok S w) (x : St m w w') (hn : S m → False) : i.ok S w' := ⟨h.1.st x hn, h.2⟩
theorem Inn.ok.pr (h : i.ok S w) (x : Pr T w w') (hn : ∀ b, S b → T b → False) : i.ok S w' := ⟨h.1.pr x hn, h.2⟩
theorem Inn.ok.weaken (h : i.ok S w) (x : ∀ b, b < w.heap.size → S b → T b) : i.ok T w := ⟨h.1.weaken x, h.2⟩
def Inns {α : Type} (g : α → List Inn) (S : Nat → Prop) (w : World) (l : List α) : Prop := ∀ x ∈ l, ∀ i ∈ g x, i.ok S w
variable {α : Type} {g : α → List Inn} {l l' : List α}
theorem Inns.ext (h : Inns g S w l) (x : Ext w w') : Inns g S w' l := fun y hy i hi => (h y hy i hi).ext x
theorem Inns.st (h : Inns g S w l) (x : St m w w') (hn : S m → False) : Inns g S w' l := fun y hy i hi => (h y hy i hi).st x hn
theorem Inns.pr (h : Inns g S w l) (x : Pr T w w') (hn : ∀ b, S b → T b → False) : Inns g S w' l := fun y hy i hi => (h y hy i hi).pr x hn
theorem Inns.weaken (h : Inns g S w l) (x : ∀ b, b < w.heap.size → S b → T b) : Inns g T w l := fun y hy i hi => (h y hy i hi).weaken x
theorem Inns.append (h : Inns g S w l) (h' : Inns g S w l') : Inns g S w (l ++ l') := fun y hy => (List.mem_append.1 hy).elim (h y) (h' y)
theorem Inns.nil : Inns g S w [] := fun _ hy => by cases hy
end
end Go.Proofs.YtkmaenmhcgohbaaGreatDoor.G
namespace Go.Proofs.YtkmaenmhcgohbaaGreatDoor.G
open Go.RowKit
set_option linter.unusedVariables false
structure Ent where
  ok : (Nat → Prop) → World → Prop
  step : ∀ {S : Nat → Prop} {w w' : World}, ok S w → (∀ b, S b → b < w.heap.size → w'.heap[b]? = w.heap[b]?) → ok S w'
  mono : ∀ {S T : Nat → Prop} {w : World}, ok S w → (∀ b, b < w.heap.size → S b → T b) → ok T w
def Sep : List Ent → (Nat → Prop) → World → Prop
  | [], _, _ => True
  | e :: L, U, w => ∃ S T : Nat → Prop, (∀ b, S b → U b) ∧ (∀ b, T b → U b) ∧ (∀ b, S b → T b → False) ∧ e.ok S w ∧ Sep L T w
theorem Sep.step : ∀ {L : List Ent} {U : Nat → Prop} {w w' : World}, Sep L U w → (∀ b, U b → b < w.heap.size → w'.heap[b]? = w.heap[b]?) → Sep L U w'
  | [], _, _, _, _, _ => trivial
  | e :: L, U, w, w', ⟨S, T, h1, h2, h3, h4, h5⟩, k => ⟨S, T, h1, h2, h3, e.step h4 fun b hb => k b (h1 b hb), h5.step fun b hb => k b (h2 b hb)⟩
theorem Sep.mono : ∀ {L : List Ent} {U V : Nat → Prop} {w : World}, Sep L U w → (∀ b, b < w.heap.size → U b → V b) → Sep L V w
  | [], _, _, _, _, _ => trivial
  | e :: L, U, V, w, ⟨S, T, h1, h2, h3, h4, h5⟩, k =>
    ⟨fun b => S b ∧ b < w.heap.size, fun b => T b ∧ b < w.heap.size, fun b hb => k b hb.2 (h1 b hb.1), fun b hb => k b hb.2 (h2 b hb.1), fun b hb hc => h3 b hb.1 hc.1,
      e.mono h4 fun b hb hs => ⟨hs, hb⟩, h5.mono fun b hb ht => ⟨ht, hb⟩⟩
theorem Sep.sub : ∀ {E L : List Ent} {U : Nat → Prop} {w : World}, E.Sublist L → Sep L U w → Sep E U w
  | _, _, _, _, .slnil, h => h
  | _, _, _, _, .cons _ s, ⟨_, _, _, h2, _, _, h5⟩ => (h5.sub s).mono fun b _ hb => h2 b hb
  | _, _, _, _, .cons_cons _ s, ⟨S, T, h1, h2, h3, h4, h5⟩ => ⟨S, T, h1, h2, h3, h4, h5.sub s⟩
theorem Sep.app : ∀ {E L : List Ent} {S T U : Nat → Prop} {w : World}, Sep E S w → Sep L T w → (∀ b, S b → U b) → (∀ b, T b → U b) → (∀ b, S b → T b → False) → Sep (E ++ L) U w
  | [], _, _, _, _, _, _, hL, _, h2, _ => hL.mono fun b _ hb => h2 b hb
  | e :: E, L, S, T, U, w, ⟨S1, T1, g1, g2, g3, g4, g5⟩, hL, h1, h2, h3 =>
    ⟨S1, fun b => T1 b ∨ T b, fun b hb => h1 b (g1 b hb), fun b hb => hb.elim (fun k => h1 b (g2 b k)) (h2 b), fun b hb hc => hc.elim (g3 b hb) (h3 b (g1 b hb)), g4,
      g5.app hL (fun _ hb => .inl hb) (fun _ hb => .inr hb) fun b hb hc => h3 b (g2 b hb) hc⟩
inductive Rpl : List Ent → Ent → Ent → List Ent → Prop
  | here {e e' : Ent} {L : List Ent} : Rpl (e :: L) e e' (e' :: L)
  | there {x e e' : Ent} {L L' : List Ent} : Rpl L e e' L' → Rpl (x :: L) e e' (x :: L')
theorem Rpl.foc {L L' : List Ent} {e e' : Ent} (h : Rpl L e e' L') : ∀ {U : Nat → Prop} {w : World}, Sep L U w → ∃ S T : Nat → Prop, (∀ b, S b → U b) ∧ (∀ b, T b → U b) ∧ (∀ b, S b → T b → False) ∧ e.ok S w ∧
    ∀ {U' S' : Nat → Prop} {w' : World}, (∀ b, S' b → U' b) → (∀ b, T b → U' b) → (∀ b, S' b → T b → False) → (∀ b, T b → b < w.heap.size → w'.heap[b]? = w.heap[b]?) → e'.ok S' w' → Sep L' U' w' := by
  induction h with
  | here =>
    rintro U w ⟨S, T, h1, h2, h3, h4, h5⟩
    exact ⟨S, T, h1, h2, h3, h4, fun {U' S' w'} k1 k2 k3 k4 k5 => ⟨S', T, k1, k2, k3, k5, h5.step k4⟩⟩
  | @there x e e' L L' _ ih =>
    rintro U w ⟨Sx, Tx, h1, h2, h3, h4, h5⟩
    obtain ⟨S, T, g1, g2, g3, g4, g5⟩ := ih h5
    refine ⟨S, fun b => Sx b ∨ T b, fun b hb => h2 b (g1 b hb), fun b hb => hb.elim (h1 b) (fun k => h2 b (g2 b k)), fun b hb hc => hc.elim (fun k => h3 b k (g1 b hb)) (g3 b hb), g4, fun {U' S' w'} k1 k2 k3 k4 k5 => ?_⟩
    refine ⟨Sx, fun b => S' b ∨ T b, fun b hb => k2 b (.inl hb), fun b hb => hb.elim (k1 b) (fun k => k2 b (.inr k)), fun b hb hc => hc.elim (fun k => k3 b k (.inl hb)) (fun k => h3 b hb (g2 b k)),
      x.step h4 (fun b hb => k4 b (.inl hb)), g5 (fun _ hb => .inl hb) (fun _ hb => .inr hb) (fun b hb hc => k3 b hb (.inr hc)) (fun b hb => k4 b (.inr hb)) k5⟩
def no : Nat → Prop := fun _ => False
structure Mem (S0 : Nat → Prop) (w0 : World) (L : List Ent) (w : World) : Prop where
  pr : Pr S0 w0 w
  sep : Sep L (fun b => S0 b ∨ w0.heap.size ≤ b) w
section
variable {S0 : Nat → Prop} {w0 w w' : World} {L L' E : List Ent} {e e' : Ent}
theorem Mem.first (w : World) : Mem S0 w [] w := ⟨Pr.refl _ _, trivial⟩
theorem Mem.ext (h : Mem no w0 L w) : Ext w0 w := h.pr.below (fun _ hs => hs.elim) (Nat.le_refl _)
theorem Mem.le (h : Mem S0 w0 L w) : w0.heap.size ≤ w.heap.size := h.pr.size
theorem Mem.foc (h : Mem S0 w0 L w) (r : Rpl L e e' L') : ∃ S : Nat → Prop, (∀ b, S b → (S0 b ∨ w0.heap.size ≤ b) ∧ b < w.heap.size) ∧ e.ok S w ∧
    ∀ w' S', Pr S w w' → e'.ok S' w' → (∀ b, S' b → S b ∨ w.heap.size ≤ b) → Mem S0 w0 L' w' := by
  obtain ⟨S, T, h1, h2, h3, h4, h5⟩ := r.foc (h.sep.mono (V := fun b => (S0 b ∨ w0.heap.size ≤ b) ∧ b < w.heap.size) fun b hb hu => ⟨hu, hb⟩)
  have hl := h.le
  refine ⟨S, h1, h4, fun w' S' hp k1 k2 => ⟨h.pr.prn hp fun b hb => (h1 b hb).1, ?_⟩⟩
  refine h5 (fun b hb => ?_) (fun b hb => (h2 b hb).1) (fun b hb hc => ?_) (fun b hb hl => hp.block b hl fun hs => h3 b hs hb) k1
  · rcases k2 b hb with k | k
    · exact (h1 b k).1
    · exact .inr (by omega)
  · rcases k2 b hb with k | k
    · exact h3 b k hc
    · have := (h2 b hc).2; omega
theorem Mem.get (h : Mem S0 w0 L w) (r : Rpl L e e L) : ∃ S : Nat → Prop, (∀ b, S b → (S0 b ∨ w0.heap.size ≤ b) ∧ b < w.heap.size) ∧ e.ok S w := by
  obtain ⟨S, h1, h2, _⟩ := h.foc r
  exact ⟨S, h1, h2⟩
theorem Mem.grow (h : Mem S0 w0 L w) (x : Ext w w') : Mem S0 w0 L w' := ⟨h.pr.ext x, h.sep.step fun b _ hb => x.block b hb⟩
theorem Mem.more (h : Mem S0 w0 L w) (x : Ext w w') (hE : Sep E (fun b => w.heap.size ≤ b) w') : Mem S0 w0 (E ++ L) w' := by
  have hl := h.le
  refine ⟨h.pr.ext x, hE.app ((h.sep.mono (V := fun b => (S0 b ∨ w0.heap.size ≤ b) ∧ b < w.heap.size) fun b hb hu => ⟨hu, hb⟩).step fun b hb hc => x.block b hc) (fun b hb => .inr (by omega)) (fun b hb => hb.1) fun b hb hc => ?_⟩
  have := hc.2
  omega
theorem Mem.new (h : Mem S0 w0 L w) (x : Ext w w') (he : e.ok (fun b => w.heap.size ≤ b) w') : Mem S0 w0 (e :: L) w' :=
  h.more (E := [e]) x ⟨_, no, fun _ hb => hb, fun _ hb => hb.elim, fun _ _ hb => hb.elim, he, trivial⟩
theorem Mem.sub (h : Mem S0 w0 L w) (s : E.Sublist L) : Mem S0 w0 E w := ⟨h.pr, h.sep.sub s⟩
end
inductive Tr where
  | fin (pl : List (Nat × Kd))
  | br (pl : List (Nat × Kd)) (i : Nat) (p : Tr) (j : Nat) (q : Tr)
def Tr.size : Tr → Nat
  | .fin pl => pl.length
  | .br pl _ p _ _ => p.size + 1 + pl.length
section
variable {P : Program} {R : World → World → Prop}
def noG : List (Nat × Kd) → Bool := fun pl => pl.all fun x => match x.2 with
  | .g | .c => false
  | _ => true
def trB (ops : Array Oper) : Tr → Array Bool → Bool
  | .fin pl, li => noG pl && planB ops [] (endB ops) pl li
  | .br pl i p j q, li => (noG pl && Nat.beq q.size p.size) && planB ops [] (fun li => (Region.ready .any ops li == [i, j]) && (trB ops p (li.setIfInBounds i true) && trB ops q (li.setIfInBounds j true))) pl li
def RT (P : Program) (l0 : List Oper) (R : World → World → Prop) (K : List Value → World → Prop) : Tr → List Value → World → Prop
  | .fin pl => RX P l0.toArray R K (pick l0 pl)
  | .br pl i p j q => RX P l0.toArray R (fun l w => RX P l0.toArray R (RT P l0 R K p) [(nth l0 i, .e)] l w ∧ RX P l0.toArray R (RT P l0 R K q) [(nth l0 j, .e)] l w) (pick l0 pl)
theorem noG_g {pl : List (Nat × Kd)} (h : noG pl = true) : (∀ i, (i, Kd.g) ∈ pl → i ∈ ([] : List Nat)) ∧ ∀ i, (i, Kd.c) ∈ pl → i ∈ ([] : List Nat) := by
  unfold noG at h
  rw [List.all_eq_true] at h
  exact ⟨fun i hi => (by have := h _ hi; simp at this), fun i hi => (by have := h _ hi; simp at this)⟩
theorem rt_tree {l0 : List Oper} {K : List Value → World → Prop} (hrr : ∀ w, R w w) (ht : ∀ {a b c}, R a b → R b c → R a c) (hs : Region.noSelect l0.toArray = true) :
    ∀ (t : Tr) (listed : Array Bool) (l : List Value) (w : World), Closed l0.toArray listed → trB l0.toArray t listed = true → RT P l0 R K t l w → wpX P l0.toArray R [] (fun a w => ∃ l, a = fr l ∧ K l w) t.size listed (fr l) w
  | .fin pl, listed, l, w, hcl, hB, h => by
    simp only [trB, Bool.and_eq_true] at hB
    have := rx_list (R := R) (bg := []) (fl := []) (P := P) (K := K) (n := 0) (en := endB l0.toArray) (Qx := fun a w => ∃ l, a = fr l ∧ K l w) (fun listed l w _ he hk => ⟨by simpa [endB] using he, l, rfl, hk⟩) hrr ht hs (fun j hj => by cases hj) pl listed l w hcl (noG_g hB.1).1 (noG_g hB.1).2 hB.2 h
    rwa [Nat.zero_add] at this
  | .br pl i p j q, listed, l, w, hcl, hB, h => by
    simp only [trB, Bool.and_eq_true] at hB
    obtain ⟨⟨hn, hz⟩, hB⟩ := hB
    have hz := Nat.eq_of_beq_eq_true hz
    refine rx_list (R := R) (bg := []) (fl := []) (P := P) (n := p.size + 1) ?_ hrr ht hs (fun j hj => by cases hj) pl listed l w hcl (noG_g hn).1 (noG_g hn).2 hB h
    rintro listed l w hcl he ⟨h1, h2⟩
    simp only [Bool.and_eq_true, beq_iff_eq] at he
    obtain ⟨hr, hp, hq⟩ := he
    refine ⟨fun h0 => by rw [h0] at hr; simp at hr, fun k hk => ?_⟩
    have key : ∀ (k : Nat) (t : Tr), t.size = p.size → k ∈ Region.ready .any l0.toArray listed → trB l0.toArray t (listed.setIfInBounds k true) = true → (∀ l w, RT P l0 R K t l w → wpX P l0.toArray R [] (fun a w => ∃ l, a = fr l ∧ K l w) t.size (listed.setIfInBounds k true) (fr l) w) → RX P l0.toArray R (RT P l0 R K t) [(nth l0 k, .e)] l w →
        xOp P l0.toArray k (fun a' w' => (k ∉ ([] : List Nat) → R w w') ∧ wpX P l0.toArray R [] (fun a w => ∃ l, a = fr l ∧ K l w) p.size (listed.setIfInBounds k true) a' w') (fr l) w := by
      intro k t hsz hk hB ih h
      have hlt : k < l0.length := by
        obtain ⟨_, o, ho, _⟩ := mem_ready.1 hk
        simpa using (Array.getElem?_eq_some_iff.1 ho).1
      have hi : l0.toArray[k]? = some (nth l0 k) := by simpa using nth_get l0 k hlt
      unfold xOp
      simp only [hi]
      simp only [RX] at h
      split
      · rename_i hw
        rw [if_pos (by exact hw)] at h
        unfold Oper.wp at *
        refine upon_mono ?_ (fun _ _ _ h => h) h
        rintro a w' ⟨l', rfl, hR, h⟩
        exact ⟨fun _ => hR, hsz ▸ ih l' w' h⟩
      · rename_i hw
        rw [if_neg (by exact hw)] at h
        rw [put_fr]
        exact ⟨fun _ => hrr w, hsz ▸ ih _ w h⟩
    rw [hr] at hk
    rcases List.mem_cons.1 hk with e | hk
    · subst e
      have hm : k ∈ Region.ready .any l0.toArray listed := by rw [hr]; simp
      exact key k p rfl hm hp (fun l w h => rt_tree hrr ht hs p _ l w (hcl.set hm) hp h) h1
    · obtain rfl := List.mem_singleton.1 hk
      have hm : k ∈ Region.ready .any l0.toArray listed := by rw [hr]; simp
      exact key k q hz hm hq (fun l w h => rt_tree hrr ht hs q _ l w (hcl.set hm) hq h) h2
theorem regionT {id : Nat} {l0 : List Oper} {Q : Exit → Act → World → Prop} {l : List Value} {w : World} (R : World → World → Prop) (t : Tr) (hm : P.follows .mixedOrders = true) (hrr : ∀ w, R w w) (ht : ∀ {a b c}, R a b → R b c → R a c)
    (hB : (Region.noSelect l0.toArray && (Nat.beq t.size l0.length && trB l0.toArray t (Array.replicate l0.length false))) = true) (h : ∀ w', Ext w w' → RT P l0 R (fun l w => Q .normal (fr l) w) t l w') : (Code.region id l0.toArray true).wp P Q (fr l) w := by
  simp only [Bool.and_eq_true] at hB
  obtain ⟨hs, hl, hB⟩ := hB
  have hl := Nat.eq_of_beq_eq_true hl
  refine wp_region_any hm ?_
  have := rt_tree (P := P) (K := fun l w => Q .normal (fr l) w) hrr ht hs t (Array.replicate l0.length false) l { w with drawn := w.drawn + 1 } (by intro k ok _ h; exfalso; simp [Array.getElem?_replicate] at h; split at h <;> simp at h) hB (h _ ((Below.refl _ _).drew))
  rw [hl] at this
  have h2 := wpAny_of_X (Q' := Q) (R := R) (fun a w h => by obtain ⟨l, rfl, h⟩ := h; exact h) l0.length (Array.replicate l0.length false) (fr l) _ this
  simpa using h2
end
end Go.Proofs.YtkmaenmhcgohbaaGreatDoor.G
