/-
  W19: walks of functions, printed by gen.py from the annotations ann19.py.
-/
import Derived.Test.YtiohpiiiapjblaaDoorW17
import Derived.Test.YtiohpiiiapjblaaDoorS10
import Derived.Test.YtiohpiiiapjblaaDoorS11
namespace Go.Proofs.YtiohpiiiapjblaaDoor.W
open Go.RowKit Go.Proofs.YtiohpiiiapjblaaDoor.G
set_option linter.unusedVariables false
set_option maxRecDepth 20000
set_option maxHeartbeats 8000000
attribute [local irreducible] RS RX

theorem E10 : Enters Tryd.prog 10 := .mk Tryd.func10 (by kernel_rfl) rfl
theorem E11 : Enters Tryd.prog 11 := .mk Tryd.func11 (by kernel_rfl) rfl
theorem E13 : Enters Tryd.prog 13 := .mk Tryd.func13 (by kernel_rfl) rfl
theorem E15 : Enters Tryd.prog 15 := .mk Tryd.func15 (by kernel_rfl) rfl
theorem E16 : Enters Tryd.prog 16 := .mk Tryd.func16 (by kernel_rfl) rfl
theorem E17 : Enters Tryd.prog 17 := .mk Tryd.func17 (by kernel_rfl) rfl
theorem E22 : Enters Tryd.prog 22 := .mk Tryd.func22 (by kernel_rfl) rfl
theorem E23 : Enters Tryd.prog 23 := .mk Tryd.func23 (by kernel_rfl) rfl
theorem E26 : Enters Tryd.prog 26 := .mk Tryd.func26 (by kernel_rfl) rfl
theorem E65 : Enters Tryd.prog 65 := .mk Tryd.func65 (by kernel_rfl) rfl
theorem E66 : Enters Tryd.prog 66 := .mk Tryd.func66 (by kernel_rfl) rfl
theorem E67 : Enters Tryd.prog 67 := .mk Tryd.func67 (by kernel_rfl) rfl
theorem E68 : Enters Tryd.prog 68 := .mk Tryd.func68 (by kernel_rfl) rfl
theorem E69 : Enters Tryd.prog 69 := .mk Tryd.func69 (by kernel_rfl) rfl
theorem E99 : Enters Tryd.prog 99 := .mk Tryd.func99 (by kernel_rfl) rfl
theorem E100 : Enters Tryd.prog 100 := .mk Tryd.func100 (by kernel_rfl) rfl
theorem E101 : Enters Tryd.prog 101 := .mk Tryd.func101 (by kernel_rfl) rfl
theorem E104 : Enters Tryd.prog 104 := .mk Tryd.func104 (by kernel_rfl) rfl
theorem secCheck (x : Int) (hx : 0 ≤ x ∧ x < 4294967296) (w : World) :
    Calls Tryd.prog 65 #[.int .u32 x] w (Ret w fun v _ => v = .int .i64 (S.secE x)) := by
  have hE := Ext.refl w
  refine enter (args := [.int .u32 x]) (l := [.int .u32 x, undef, undef, undef, undef, undef]) Tryd.func65 rfl rfl ?_
  refine wp_seq_k (fun K1 hK1 => ?_)
  refine region ?_
  refine RS.assign (v := .int .i64 0) rfl ?_
  refine RS.nil ?_
  refine hK1 _ _ ?_
  try clear hK1
  refine wp_seq_k (fun K2 hK2 => ?_)
  refine wp_seq_k (fun K3 hK3 => ?_)
  refine region ?_
  refine RS.move (v := .int _ _) rfl ?_
  refine RS.o (D.sub rfl rfl (W.u32m _)) ?_
  refine RS.o (D.ge rfl rfl) ?_
  refine RS.nil ?_
  refine hK3 _ _ ?_
  try clear hK3
  refine C.ifd rfl (fun c4 => ?_) (fun c4 => ?_)
  · refine wp_seq_k (fun K5 hK5 => ?_)
    refine region ?_
    refine RS.assign (v := .int .i64 2) rfl ?_
    refine RS.nil ?_
    refine hK5 _ _ ?_
    try clear hK5
    refine wp_ret ?_
    refine ret (rs := [.tmp 2]) (vs := [.int _ _]) (v := (.int _ _)) rfl ⟨rfl, trivial⟩ rfl ?_
    refine ⟨_, rfl, hE, congrArg (Value.int .i64) ?_⟩
    unfold S.secE
    first | rw [if_pos (by omega)] | rw [if_neg (by omega)]
  · refine wp_skip ?_
    refine hK2 _ _ ?_
    try clear hK2
    refine wp_seq_k (fun K6 hK6 => ?_)
    refine region ?_
    refine RS.assign (v := .int .i64 0) rfl ?_
    refine RS.nil ?_
    refine hK6 _ _ ?_
    try clear hK6
    refine wp_ret ?_
    refine ret (rs := [.tmp 2]) (vs := [.int _ _]) (v := (.int _ _)) rfl ⟨rfl, trivial⟩ rfl ?_
    refine ⟨_, rfl, hE, congrArg (Value.int .i64) ?_⟩
    unfold S.secE
    first | rw [if_pos (by omega)] | rw [if_neg (by omega)]

theorem publicW (x : Int) (hx : 0 ≤ x ∧ x < 4294967296) (w : World) :
    Calls Tryd.prog 26 #[.int .u32 x] w (Ret w fun v _ => v = .tuple #[.int .u32 (if S.secE x = 0 then S.pubS x else 0), .int .i64 (S.secE x)]) := by
  have hE := Ext.refl w
  refine enter (args := [.int .u32 x]) (l := [.int .u32 x, undef, undef, undef, undef, undef, undef, undef, undef, undef, undef, undef, undef]) Tryd.func26 rfl rfl ?_
  refine wp_seq_k (fun K1 hK1 => ?_)
  refine region ?_
  refine RS.assign (v := .int .u32 0) rfl ?_
  refine RS.assign (v := .int .i64 0) rfl ?_
  refine RS.nil ?_
  refine hK1 _ _ ?_
  try clear hK1
  refine wp_seq_k (fun K2 hK2 => ?_)
  refine wp_seq_k (fun K3 hK3 => ?_)
  refine region ?_
  refine RS.move (v := .int _ _) rfl ?_
  refine RS.call E65 (secCheck _ (by omega) _) rfl (fun v4 w4 x4 A4 => ?_)
  replace hE := Ext.tr hE x4
  have zw4 := x4.size
  subst A4
  refine RS.norm (by dsimp only [List.set]) ?_
  refine RS.assign (v := .int _ _) rfl ?_
  refine RS.nil ?_
  refine hK3 _ _ ?_
  try clear hK3
  refine wp_seq_k (fun K5 hK5 => ?_)
  refine region ?_
  refine RS.move (v := .int _ _) rfl ?_
  refine RS.o (D.ne rfl rfl) ?_
  refine RS.nil ?_
  refine hK5 _ _ ?_
  try clear hK5
  refine C.ifn rfl (fun c6 => ?_) (fun c6 => ?_)
  · have hz := c6
    refine wp_seq_k (fun K7 hK7 => ?_)
    refine region ?_
    refine RS.move (v := .int _ _) rfl ?_
    refine RS.assign (v := .int .u32 0) rfl ?_
    refine RS.assign (v := .int _ _) rfl ?_
    refine RS.nil ?_
    refine hK7 _ _ ?_
    try clear hK7
    refine wp_ret ?_
    refine ret (rs := [.tmp 2, .tmp 3]) (vs := [.int _ _, .int _ _]) (v := (.tuple #[.int _ _, .int _ _])) rfl ⟨rfl, rfl, trivial⟩ rfl ?_
    refine ⟨_, rfl, hE, ?_⟩
    rw [if_neg hz]
  · have hz := c6
    refine wp_skip ?_
    refine hK2 _ _ ?_
    try clear hK2
    refine wp_seq_k (fun K8 hK8 => ?_)
    refine region ?_
    refine RS.move (v := .int _ _) rfl ?_
    refine RS.o (D.conv rfl Tryd.underlying22 Tryd.underlying24 (W.u64 (by omega))) ?_
    refine RS.call E66 (group_Base _ (by omega) _) rfl (fun v9 w9 x9 A9 => ?_)
    replace hE := Ext.tr hE x9
    have zw9 := x9.size
    subst A9
    refine RS.norm (by dsimp only [List.set]) ?_
    refine RS.assign (v := .int _ _) rfl ?_
    refine RS.assign (v := .int .i64 0) rfl ?_
    refine RS.nil ?_
    refine hK8 _ _ ?_
    try clear hK8
    refine wp_ret ?_
    refine ret (rs := [.tmp 2, .tmp 3]) (vs := [.int _ _, .int _ _]) (v := (.tuple #[.int _ _, .int _ _])) rfl ⟨rfl, rfl, trivial⟩ rfl ?_
    refine ⟨_, rfl, hE, ?_⟩
    rw [if_pos hz, hz, S.pub_eq]

theorem hash {S0 S1 : Nat → Prop} (kd : Int) (hkd : 0 ≤ kd ∧ kd < 256) (a : Option Addr) (n c : Nat) (m : List Int) (a2 : Option Addr) (n2 c2 : Nat) (l : List Int) (TK : TypeId) (w : World) (K0 : Kst w TK) (R0 : IRow .u8 S0 w a n m) (hc : n ≤ c) (R1 : IRow .u32 S1 w a2 n2 l) (hn2 : n2 ≤ 5) :
    Calls Tryd.prog 104 #[.int .u8 kd, .slice a n c, .slice a2 n2 c2] w (Ret w fun v _ => v = .tuple #[.int .u64 (if 9991 < m.length then 0 else S.hashS kd l m), .int .i64 (S.hashE m)]) := by
  replace R0 := R0.weaken (T := fun k => k < w.heap.size) (fun k hk _ => hk)
  replace R1 := R1.weaken (T := fun k => k < w.heap.size) (fun k hk _ => hk)
  have hKl := K0.lt
  have hml := R0.len
  have hll := R1.len
  have hE := Ext.refl w
  refine enter (args := [.int .u8 kd, .slice a n c, .slice a2 n2 c2]) (l := [.int .u8 kd, .slice a n c, .slice a2 n2 c2, undef, undef, undef, undef, undef, undef, undef, undef, undef, undef, undef, undef, undef, undef, undef, undef, undef, undef, undef, undef, undef, undef, undef, undef, undef, undef, undef, undef, undef, undef, undef, undef, undef, undef, undef, undef, undef, undef, undef, undef, undef, undef, undef, undef, undef, undef, undef, undef, undef, undef, undef, undef, undef, undef, undef, undef, undef, undef, undef, undef]) Tryd.func104 rfl rfl ?_
  refine wp_seq_k (fun K1 hK1 => ?_)
  refine region ?_
  refine RS.assign (v := .int .u64 0) rfl ?_
  refine RS.assign (v := .int .i64 0) rfl ?_
  refine RS.nil ?_
  refine hK1 _ _ ?_
  try clear hK1
  refine wp_seq_k (fun K2 hK2 => ?_)
  refine wp_seq_k (fun K3 hK3 => ?_)
  refine region ?_
  refine RS.move (v := .slice _ _ _) rfl ?_
  refine RS.o (D.len rfl Tryd.underlying35) ?_
  refine RS.o (D.gt rfl rfl) ?_
  refine RS.nil ?_
  refine hK3 _ _ ?_
  try clear hK3
  refine C.ifd rfl (fun c4 => ?_) (fun c4 => ?_)
  · have hgt := c4
    refine wp_seq_k (fun K5 hK5 => ?_)
    refine region ?_
    refine RS.assign (v := .int .u64 0) rfl ?_
    refine RS.assign (v := .int .i64 4) rfl ?_
    refine RS.nil ?_
    refine hK5 _ _ ?_
    try clear hK5
    refine wp_ret ?_
    refine ret (rs := [.tmp 6, .tmp 7]) (vs := [.int _ _, .int _ _]) (v := (.tuple #[.int _ _, .int _ _])) rfl ⟨rfl, rfl, trivial⟩ rfl ?_
    refine ⟨_, rfl, hE, ?_⟩
    unfold S.hashE
    rw [if_pos (by omega), if_pos (by omega)]
  · have hgt := c4
    refine wp_skip ?_
    refine hK2 _ _ ?_
    try clear hK2
    refine wp_seq_k (fun K6 hK6 => ?_)
    refine region ?_
    refine RS.move (v := .int _ _) rfl ?_
    refine RS.buildSlice (xs := [.tmp 19]) (vs := [.int _ _]) (cs := [.int _ _]) Tryd.underlying35 T5 (by decide) rfl rfl rfl rfl rfl rfl (by intro v hv; simp only [List.mem_cons, List.not_mem_nil, or_false] at hv; subst hv; rfl) rfl (fun b7 w7 e7 s7 x7 B7 => ?_)
    refine RS.norm (by dsimp only [List.set]) ?_
    replace hE := Ext.tr hE x7
    replace K0 := K0.ext x7
    replace R0 := R0.ext x7
    replace R1 := R1.ext x7
    have zw7 := x7.size
    have O1 : IOwn w.heap.size w7 5 .u8 (some ⟨b7, 0, none⟩) 1 1 [_] := IOwn.of_blk B7 rfl rfl (by omega) (.cons (by simp only [lim]; omega) (.nil _)) (by decide)
    refine RS.assign (v := .slice _ _ _) rfl ?_
    refine RS.nil ?_
    refine hK6 _ _ ?_
    try clear hK6
    refine wp_seq_k (fun K8 hK8 => ?_)
    refine wp_seq_k (fun K9 hK9 => ?_)
    refine region ?_
    refine RS.move (v := .slice _ _ _) rfl ?_
    refine RS.o (D.len rfl Tryd.underlying157) ?_
    refine RS.move (v := .int .i64 0) rfl ?_
    refine RS.nil ?_
    refine hK9 _ _ ?_
    try clear hK9
    refine wp_block ?_
    refine C.loop (A := Int × Option Addr × Nat × Nat) (fun p => [(8, .slice p.2.1 p.2.2.1 p.2.2.2), (23, .int .i64 p.1)]) [10, 24, 25, 26, 27, 28, 29, 30, 31, 32, 33, 34, 35, 36, 37, 38, 39, 40, 41] (fun p w' => Pr (fun k => w.heap.size ≤ k) w7 w' ∧ ((0 ≤ p.1 ∧ p.1 ≤ n2) ∧ IOwn w.heap.size w' 5 .u8 p.2.1 p.2.2.1 p.2.2.2 (S.headS kd (l.take p.1.toNat)))) (fun p => (n2 - p.1.toNat)) (0, some ⟨b7, 0, none⟩, 1, 1) (by kernel_rfl) ?_ ?_
    · exact ⟨Pr.refl _ _, ⟨by dsimp only; omega, by dsimp only; omega⟩, by simpa [S.headS] using O1⟩
    · rintro p j w10 ⟨x10, hI⟩
      replace hE := hE.trans (x10.below (by intros; try (first | (intro _ _) | (intro _) | skip); first | omega | (dsimp only at *; omega) | (simp_all; done) | (simp at *; omega)) (by intros; try (first | (intro _ _) | (intro _) | skip); first | omega | (dsimp only at *; omega) | (simp_all; done) | (simp at *; omega)))
      replace K0 := K0.pr x10 (by intros; try (first | (intro _ _) | (intro _) | skip); first | omega | (dsimp only at *; omega) | (simp_all; done) | (simp at *; omega))
      replace R0 := R0.pr x10 (by intros; try (first | (intro _ _) | (intro _) | skip); first | omega | (dsimp only at *; omega) | (simp_all; done) | (simp at *; omega))
      replace R1 := R1.pr x10 (by intros; try (first | (intro _ _) | (intro _) | skip); first | omega | (dsimp only at *; omega) | (simp_all; done) | (simp at *; omega))
      have zw10 := x10.size
      obtain ⟨i, ao, no, co⟩ := p
      dsimp only at hI
      obtain ⟨h1, O1⟩ := hI
      have hol := O1.len
      rw [S.head_len, List.length_take] at hol
      refine C.norm (by simp only [upd, junk, List.map_cons, List.map_nil, List.set_cons_succ, List.set_cons_zero]; exact rfl) ?_
      refine wp_seq_k (fun K11 hK11 => ?_)
      refine region ?_
      refine RS.o (D.lt rfl rfl) ?_
      refine RS.nil ?_
      refine hK11 _ _ ?_
      try clear hK11
      refine wp_seq_k (fun K12 hK12 => ?_)
      refine C.ifd rfl (fun c13 => ?_) (fun c13 => ?_)
      · refine wp_skip ?_
        refine hK12 _ _ ?_
        try clear hK12
        refine wp_seq_k (fun K14 hK14 => ?_)
        refine wp_block ?_
        refine wp_seq_k (fun K15 hK15 => ?_)
        refine region ?_
        refine RS.idx R1 rfl rfl Tryd.underlying157 C22 (by omega) (fun b16 o16 v16 h16 q16 r16 => ?_)
        refine RS.norm (by dsimp only [List.set]) ?_
        simp only [lim] at r16
        have q1 := q16
        refine RS.o (D.load rfl Tryd.underlying22 rfl (h16)) ?_
        refine RS.assign (v := .int _ _) rfl ?_
        refine RS.nil ?_
        refine hK15 _ _ ?_
        try clear hK15
        refine region ?_
        refine RS.move (v := .slice _ _ _) rfl ?_
        refine RS.move (v := .int _ _) rfl ?_
        refine RS.ob (D.shr_u32 rfl rfl (by omega) (by constructor <;> omega)) (fun z17 => ?_)
        refine RS.o (D.conv rfl Tryd.underlying22 Tryd.underlying5 (W.u8m _)) ?_
        refine RS.move (v := .int _ _) rfl ?_
        refine RS.ob (D.shr_u32 rfl rfl (by omega) (by constructor <;> omega)) (fun z18 => ?_)
        refine RS.o (D.conv rfl Tryd.underlying22 Tryd.underlying5 (W.u8m _)) ?_
        refine RS.move (v := .int _ _) rfl ?_
        refine RS.ob (D.shr_u32 rfl rfl (by omega) (by constructor <;> omega)) (fun z19 => ?_)
        refine RS.o (D.conv rfl Tryd.underlying22 Tryd.underlying5 (W.u8m _)) ?_
        refine RS.move (v := .int _ _) rfl ?_
        refine RS.o (D.conv rfl Tryd.underlying22 Tryd.underlying5 (W.u8m _)) ?_
        refine RS.buildSlice (xs := [.tmp 30, .tmp 33, .tmp 36, .tmp 38]) (vs := [.int _ _, .int _ _, .int _ _, .int _ _]) (cs := [.int _ _, .int _ _, .int _ _, .int _ _]) Tryd.underlying35 T5 (by decide) rfl rfl rfl rfl rfl rfl (by intro v hv; simp only [List.mem_cons, List.not_mem_nil, or_false] at hv; rcases hv with rfl | rfl | rfl | rfl <;> rfl) rfl (fun b20 w20 e20 s20 x20 B20 => ?_)
        refine RS.norm (by dsimp only [List.set]) ?_
        replace hE := Ext.tr hE x20
        replace x10 := x10.ext x20
        replace K0 := K0.ext x20
        replace R0 := R0.ext x20
        replace R1 := R1.ext x20
        replace O1 := O1.ext x20
        have zw20 := x20.size
        have Q1 : IRow .u8 (fun k => k = b20) w20 (some ⟨b20, 0, none⟩) 4 [_, _, _, _] := IRow.of_blk B20 rfl rfl rfl (.cons (by simp only [lim]; omega) (.cons (by simp only [lim]; omega) (.cons (by simp only [lim]; omega) (.cons (by simp only [lim]; omega) (.nil _)))))
        refine RS.appendI O1 Q1 rfl rfl Tryd.underlying35 T5 rfl (by omega) (by decide) (by omega) (fun a21 c21 w21 N21 x21 => ?_)
        refine RS.norm (by dsimp only [List.set]) ?_
        replace hE := hE.trans (x21.below (by intros; try (first | (intro _ _) | (intro _) | skip); first | omega | (have hq := O1.lo _ (by assumption); first | omega | (dsimp only at *; omega))) (by intros; try (first | (intro _ _) | (intro _) | skip); first | omega | (dsimp only at *; omega) | (simp_all; done) | (simp at *; omega)))
        replace x10 := x10.prn x21 (by intros; try (first | (intro _ _) | (intro _) | skip); first | omega | (have hq := O1.lo _ (by assumption); first | omega | (dsimp only at *; omega)))
        replace K0 := K0.pr x21 (by intros; try (first | (intro _ _) | (intro _) | skip); first | omega | (have hq := O1.lo _ (by assumption); first | omega | (dsimp only at *; omega)))
        replace R0 := R0.pr x21 (by intros; try (first | (intro _ _) | (intro _) | skip); first | omega | (have hq := O1.lo _ (by assumption); first | omega | (dsimp only at *; omega)))
        replace R1 := R1.pr x21 (by intros; try (first | (intro _ _) | (intro _) | skip); first | omega | (have hq := O1.lo _ (by assumption); first | omega | (dsimp only at *; omega)))
        have zw21 := x21.size
        replace O1 := N21
        refine RS.assign (v := .slice _ _ _) rfl ?_
        refine RS.nil ?_
        refine hK14 _ _ ?_
        try clear hK14
        refine region ?_
        refine RS.o (D.add rfl rfl (W.i64 (by omega))) ?_
        refine RS.move (v := .int _ _) rfl ?_
        refine RS.nil ?_
        change Nx _ _ _ _ _ _ _ _
        refine C.next (i + 1, _, _, _) ⟨rfl, rfl, trivial⟩ (by kernel_rfl) ?_ ?_
        · refine ⟨x10, ⟨by dsimp only; omega, by dsimp only; omega⟩, ?_⟩
          dsimp only
          rw [show (i + 1).toNat = i.toNat + 1 by omega, S.head_snoc _ _ _ (by omega), ← q1]
          exact O1
        · dsimp only; omega
      · refine wp_exit ?_
        refine hK8 _ _ ?_
        try clear hK8
        refine wp_seq_k (fun K22 hK22 => ?_)
        refine region ?_
        refine RS.move (v := .slice _ _ _) rfl ?_
        refine RS.move (v := .slice _ _ _) rfl ?_
        refine RS.buildSlice (xs := [.tmp 43, .tmp 44]) (vs := [.slice _ _ _, .slice _ _ _]) (cs := [.slice _ _ _, .slice _ _ _]) Tryd.underlying70 T35 (by decide) rfl rfl rfl rfl rfl rfl (by intro v hv; simp only [List.mem_cons, List.not_mem_nil, or_false] at hv; rcases hv with rfl | rfl <;> rfl) rfl (fun b23 w23 e23 s23 x23 B23 => ?_)
        refine RS.norm (by dsimp only [List.set]) ?_
        replace hE := Ext.tr hE x23
        replace K0 := K0.ext x23
        replace R0 := R0.ext x23
        replace R1 := R1.ext x23
        replace O1 := O1.ext x23
        have zw23 := x23.size
        have el : l.take i.toNat = l := List.take_of_length_le (by omega)
        rw [el] at O1
        have pO1 := O1.own.pre
        have hpp : cat [⟨ao, no, co, S.headS kd l⟩, ⟨a, n, c, m⟩] = S.headS kd l ++ m := by simp [cat]
        have hhl := S.head_len kd l
        refine RS.call E77 (pieces [⟨ao, no, co, S.headS kd l⟩, ⟨a, n, c, m⟩] _ _ _ _ _ K0 (PRow.of_blkE B23 rfl rfl ⟨⟨_, O1.row, pO1⟩, ⟨_, R0, hc⟩, trivial⟩) (show (2 : Nat) ≤ 20 by decide) (by intro p hp; simp only [List.mem_cons, List.not_mem_nil, or_false] at hp; rcases hp with rfl | rfl <;> (dsimp only; omega)) (by rw [hpp, List.length_append]; omega)) rfl (fun v24 w24 x24 A24 => ?_)
        replace hE := Ext.tr hE x24
        replace K0 := K0.ext x24
        replace R0 := R0.ext x24
        replace R1 := R1.ext x24
        replace O1 := O1.ext x24
        replace B23 := B23.ext x24
        have zw24 := x24.size
        subst A24
        rw [hpp]
        have hsa := S.sha_arr (S.headS kd l ++ m)
        refine RS.norm (by dsimp only [List.set]) ?_
        refine RS.move (v := .tuple _) rfl ?_
        refine RS.extract (v := .agg _) rfl rfl ?_
        refine RS.extract (v := .int _ _) rfl rfl ?_
        refine RS.alloc T42 (fun b25 w25 e25 s25 x25 B25 => ?_)
        refine RS.norm (by dsimp only [List.set]) ?_
        replace hE := Ext.tr hE x25
        replace K0 := K0.ext x25
        replace R0 := R0.ext x25
        replace R1 := R1.ext x25
        have zw25 := x25.size
        have A25 : IArr .u8 w25 b25 32 (List.replicate 32 0) [] 42 := IArr.zero B25
        clear B25
        refine RS.storeArr A25 rfl rfl C42 (by decide) hsa.1 hsa.2 (fun w26 y26 N26 => ?_)
        replace hE := hE.trans (y26.below (by intros; try (first | (intro _ _) | (intro _) | skip); first | omega | (dsimp only at *; omega) | (simp_all; done) | (simp at *; omega)))
        replace K0 := K0.st y26 (by intros; try (first | (intro _ _) | (intro _) | skip); first | omega | (dsimp only at *; omega) | (simp_all; done) | (simp at *; omega))
        replace R0 := R0.st y26 (by intros; try (first | (intro _ _) | (intro _) | skip); first | omega | (dsimp only at *; omega) | (simp_all; done) | (simp at *; omega))
        replace R1 := R1.st y26 (by intros; try (first | (intro _ _) | (intro _) | skip); first | omega | (dsimp only at *; omega) | (simp_all; done) | (simp at *; omega))
        have zw26 := y26.size
        replace A25 := N26
        refine RS.assign (v := .int _ _) rfl ?_
        refine RS.nil ?_
        refine hK22 _ _ ?_
        try clear hK22
        refine wp_seq_k (fun K27 hK27 => ?_)
        refine region ?_
        refine RS.assign (v := .int .u64 0) rfl ?_
        refine RS.nil ?_
        refine hK27 _ _ ?_
        try clear hK27
        refine wp_seq_k (fun K28 hK28 => ?_)
        refine wp_seq_k (fun K29 hK29 => ?_)
        refine region ?_
        refine RS.o (D.sliceArr (kl := .i64) (kh := .i64) rfl Tryd.underlying42 C5 rfl rfl (by omega)) ?_
        refine RS.o (D.len rfl Tryd.underlying35) ?_
        refine RS.move (v := .int .i64 0) rfl ?_
        refine RS.nil ?_
        refine hK29 _ _ ?_
        try clear hK29
        refine wp_block ?_
        refine C.loop (A := Int × Int) (fun p => [(13, .int .u64 p.2), (51, .int .i64 p.1)]) [15, 52, 53, 54, 55, 56, 57, 58, 59, 60] (fun p w' => Ext w26 w' ∧ ((0 ≤ p.1 ∧ p.1 ≤ 8) ∧ p.2 = S.be ((S.sha (S.headS kd l ++ m)).take p.1.toNat))) (fun p => (8 - p.1.toNat)) (0, 0) (by kernel_rfl) ?_ ?_
        · exact ⟨Ext.refl _, ⟨by dsimp only; omega, by dsimp only; omega⟩, rfl⟩
        · rintro p j w30 ⟨x30, hI⟩
          replace hE := Ext.tr hE x30
          replace K0 := K0.ext x30
          replace R0 := R0.ext x30
          replace R1 := R1.ext x30
          replace A25 := A25.ext x30
          have zw30 := x30.size
          obtain ⟨i, r⟩ := p
          dsimp only at hI
          obtain ⟨g1, g2⟩ := hI
          have g3 := S.be8_lt (S.sha (S.headS kd l ++ m)) i.toNat hsa.2 (by omega)
          rw [← g2] at g3
          refine C.norm (by simp only [upd, junk, List.map_cons, List.map_nil, List.set_cons_succ, List.set_cons_zero]; exact rfl) ?_
          refine wp_seq_k (fun K31 hK31 => ?_)
          refine region ?_
          refine RS.o (D.lt rfl rfl) ?_
          refine RS.nil ?_
          refine hK31 _ _ ?_
          try clear hK31
          refine wp_seq_k (fun K32 hK32 => ?_)
          refine C.ifd rfl (fun c33 => ?_) (fun c33 => ?_)
          · refine wp_skip ?_
            refine hK32 _ _ ?_
            try clear hK32
            refine wp_seq_k (fun K34 hK34 => ?_)
            refine wp_block ?_
            refine wp_seq_k (fun K35 hK35 => ?_)
            have QI := (A25.row (S := fun k => k = b25) rfl).sub 0 8 32 (by decide) (by decide) (by decide)
            refine region ?_
            refine RS.idx QI rfl rfl Tryd.underlying35 C5 (by omega) (fun b36 o36 v36 h36 q36 r36 => ?_)
            refine RS.norm (by dsimp only [List.set]) ?_
            simp only [lim] at r36
            have q2 := q36
            rw [List.drop_zero, S.take_getD _ _ _ (by omega)] at q2
            refine RS.o (D.load rfl Tryd.underlying5 rfl (h36)) ?_
            refine RS.assign (v := .int _ _) rfl ?_
            refine RS.nil ?_
            refine hK35 _ _ ?_
            try clear hK35
            refine region ?_
            refine RS.move (v := .int _ _) rfl ?_
            refine RS.o (D.shl rfl rfl (by constructor <;> (try simp only [IntKind.bits]) <;> omega) (by first | exact W.u64 (by omega) | exact W.u64m _)) ?_
            refine RS.move (v := .int _ _) rfl ?_
            refine RS.o (D.conv rfl Tryd.underlying5 Tryd.underlying24 (by first | exact W.u64 (by omega) | exact W.u64m _)) ?_
            refine RS.ob (D.bor_u64 rfl rfl (by omega) (by omega)) (fun z37 => ?_)
            refine RS.assign (v := .int _ _) rfl ?_
            refine RS.nil ?_
            refine hK34 _ _ ?_
            try clear hK34
            refine region ?_
            refine RS.o (D.add rfl rfl (W.i64 (by omega))) ?_
            refine RS.move (v := .int _ _) rfl ?_
            refine RS.nil ?_
            change Nx _ _ _ _ _ _ _ _
            refine C.next (i + 1, _) ⟨rfl, rfl, trivial⟩ (by kernel_rfl) ?_ ?_
            · refine ⟨x30, ⟨by dsimp only; omega, by dsimp only; omega⟩, ?_⟩
              dsimp only
              rw [show (i + 1).toNat = i.toNat + 1 by omega, ← S.be_step _ _ hsa.2 (by omega) (by rw [hsa.1]; decide), ← g2, ← q2]
              rfl
            · dsimp only; omega
          · refine wp_exit ?_
            refine hK28 _ _ ?_
            try clear hK28
            refine wp_seq_k (fun K38 hK38 => ?_)
            refine region ?_
            refine RS.move (v := .int _ _) rfl ?_
            refine RS.move (v := .int _ _) rfl ?_
            refine RS.assign (v := .int _ _) rfl ?_
            refine RS.assign (v := .int _ _) rfl ?_
            refine RS.nil ?_
            refine hK38 _ _ ?_
            try clear hK38
            refine wp_ret ?_
            refine ret (rs := [.tmp 6, .tmp 7]) (vs := [.int _ _, .int _ _]) (v := (.tuple #[.int _ _, .int _ _])) rfl ⟨rfl, rfl, trivial⟩ rfl ?_
            refine ⟨_, rfl, hE, ?_⟩
            unfold S.hashE
            rw [if_neg (by omega), if_neg (by omega), g2, show i.toNat = 8 by omega, S.hash_eq]

theorem nonce (x : Int) (hx : 0 ≤ x ∧ x < 4294967296) {S0 : Nat → Prop} (a : Option Addr) (n c : Nat) (m : List Int) (TK : TypeId) (w : World) (K0 : Kst w TK) (R0 : IRow .u8 S0 w a n m) (hc : n ≤ c) :
    Calls Tryd.prog 99 #[.int .u32 x, .slice a n c] w (Ret w fun v _ => v = .tuple #[.int .u32 (if S.nonceE x m = 0 then S.nonceS x m else 0), .int .i64 (S.nonceE x m)]) := by
  replace R0 := R0.weaken (T := fun k => k < w.heap.size) (fun k hk _ => hk)
  have hKl := K0.lt
  have hml := R0.len
  have hE := Ext.refl w
  refine enter (args := [.int .u32 x, .slice a n c]) (l := [.int .u32 x, .slice a n c, undef, undef, undef, undef, undef, undef, undef, undef, undef, undef, undef, undef, undef, undef, undef, undef, undef, undef, undef, undef, undef, undef, undef, undef, undef, undef]) Tryd.func99 rfl rfl ?_
  refine wp_seq_k (fun K1 hK1 => ?_)
  refine region ?_
  refine RS.assign (v := .int .u32 0) rfl ?_
  refine RS.assign (v := .int .i64 0) rfl ?_
  refine RS.nil ?_
  refine hK1 _ _ ?_
  try clear hK1
  refine wp_seq_k (fun K2 hK2 => ?_)
  refine wp_seq_k (fun K3 hK3 => ?_)
  refine region ?_
  refine RS.move (v := .int _ _) rfl ?_
  refine RS.call E65 (secCheck _ (by omega) _) rfl (fun v4 w4 x4 A4 => ?_)
  replace hE := Ext.tr hE x4
  replace K0 := K0.ext x4
  replace R0 := R0.ext x4
  have zw4 := x4.size
  subst A4
  refine RS.norm (by dsimp only [List.set]) ?_
  refine RS.assign (v := .int _ _) rfl ?_
  refine RS.nil ?_
  refine hK3 _ _ ?_
  try clear hK3
  refine wp_seq_k (fun K5 hK5 => ?_)
  refine region ?_
  refine RS.move (v := .int _ _) rfl ?_
  refine RS.o (D.ne rfl rfl) ?_
  refine RS.nil ?_
  refine hK5 _ _ ?_
  try clear hK5
  refine C.ifn rfl (fun c6 => ?_) (fun c6 => ?_)
  · have hz := c6
    refine wp_seq_k (fun K7 hK7 => ?_)
    refine region ?_
    refine RS.move (v := .int _ _) rfl ?_
    refine RS.assign (v := .int .u32 0) rfl ?_
    refine RS.assign (v := .int _ _) rfl ?_
    refine RS.nil ?_
    refine hK7 _ _ ?_
    try clear hK7
    refine wp_ret ?_
    refine ret (rs := [.tmp 4, .tmp 5]) (vs := [.int _ _, .int _ _]) (v := (.tuple #[.int _ _, .int _ _])) rfl ⟨rfl, rfl, trivial⟩ rfl ?_
    refine ⟨_, rfl, hE, ?_⟩
    have e2 := S.secE_two hz
    simp [S.nonceE, e2]
  · have hz := c6
    refine wp_skip ?_
    refine hK2 _ _ ?_
    try clear hK2
    refine wp_seq_k (fun K8 hK8 => ?_)
    refine region ?_
    refine RS.move (v := .slice _ _ _) rfl ?_
    refine RS.move (v := .int _ _) rfl ?_
    refine RS.buildSlice (xs := [.tmp 16]) (vs := [.int _ _]) (cs := [.int _ _]) Tryd.underlying157 T22 (by decide) rfl rfl rfl rfl rfl rfl (by intro v hv; simp only [List.mem_cons, List.not_mem_nil, or_false] at hv; subst hv; rfl) rfl (fun b9 w9 e9 s9 x9 B9 => ?_)
    refine RS.norm (by dsimp only [List.set]) ?_
    replace hE := Ext.tr hE x9
    replace K0 := K0.ext x9
    replace R0 := R0.ext x9
    have zw9 := x9.size
    refine RS.call E104 (hash (S1 := fun k => k = b9) _ (by decide) _ _ _ _ _ 1 _ [x] _ _ K0 R0 hc (.of_blk B9 rfl rfl rfl (.cons (k := .u32) (by simp only [lim]; omega) (.nil _))) (by decide)) rfl (fun v10 w10 x10 A10 => ?_)
    replace hE := Ext.tr hE x10
    replace K0 := K0.ext x10
    replace R0 := R0.ext x10
    replace B9 := B9.ext x10
    have zw10 := x10.size
    subst A10
    refine RS.norm (by dsimp only [List.set]) ?_
    refine RS.move (v := .tuple _) rfl ?_
    refine RS.extract (v := .int _ _) rfl rfl ?_
    refine RS.extract (v := .int _ _) rfl rfl ?_
    refine RS.assign (v := .int _ _) rfl ?_
    refine RS.assign (v := .int _ _) rfl ?_
    refine RS.nil ?_
    refine hK8 _ _ ?_
    try clear hK8
    refine wp_seq_k (fun K11 hK11 => ?_)
    refine wp_seq_k (fun K12 hK12 => ?_)
    refine region ?_
    refine RS.move (v := .int _ _) rfl ?_
    refine RS.o (D.ne rfl rfl) ?_
    refine RS.nil ?_
    refine hK12 _ _ ?_
    try clear hK12
    refine C.ifn rfl (fun c13 => ?_) (fun c13 => ?_)
    · have he := c13
      refine wp_seq_k (fun K14 hK14 => ?_)
      refine region ?_
      refine RS.move (v := .int _ _) rfl ?_
      refine RS.assign (v := .int .u32 0) rfl ?_
      refine RS.assign (v := .int _ _) rfl ?_
      refine RS.nil ?_
      refine hK14 _ _ ?_
      try clear hK14
      refine wp_ret ?_
      refine ret (rs := [.tmp 4, .tmp 5]) (vs := [.int _ _, .int _ _]) (v := (.tuple #[.int _ _, .int _ _])) rfl ⟨rfl, rfl, trivial⟩ rfl ?_
      refine ⟨_, rfl, hE, ?_⟩
      have e3 : ¬ S.nonceE x m = 0 := by unfold S.nonceE; rw [if_pos hz]; exact he
      rw [if_neg e3]
      unfold S.nonceE
      rw [if_pos hz]
    · have he := c13
      have hm : ¬ 9991 < m.length := by intro h; unfold S.hashE at he; rw [if_pos h] at he; omega
      rw [if_neg hm]
      have hb := S.hash_bd 110 [x] m
      refine wp_skip ?_
      refine hK11 _ _ ?_
      try clear hK11
      refine wp_seq_k (fun K15 hK15 => ?_)
      refine region ?_
      refine RS.move (v := .int _ _) rfl ?_
      refine RS.o (D.rem rfl rfl (by omega) (by omega)) ?_
      refine RS.o (D.conv rfl Tryd.underlying24 Tryd.underlying22 (by first | exact W.u32 (by omega) | exact W.u32m _)) ?_
      refine RS.o (D.add rfl rfl (by first | exact W.u32 (by omega) | exact W.u32m _)) ?_
      refine RS.assign (v := .int _ _) rfl ?_
      refine RS.assign (v := .int .i64 0) rfl ?_
      refine RS.nil ?_
      refine hK15 _ _ ?_
      try clear hK15
      refine wp_ret ?_
      refine ret (rs := [.tmp 4, .tmp 5]) (vs := [.int _ _, .int _ _]) (v := (.tuple #[.int _ _, .int _ _])) rfl ⟨rfl, rfl, trivial⟩ rfl ?_
      refine ⟨_, rfl, hE, ?_⟩
      have e3 : S.nonceE x m = 0 := by unfold S.nonceE; rw [if_pos hz]; exact he
      rw [e3, if_pos rfl, S.nonce_eq]

theorem challenge (r : Int) (hr : 0 ≤ r ∧ r < 4294967296) (y : Int) (hy : 0 ≤ y ∧ y < 4294967296) {S0 : Nat → Prop} (a : Option Addr) (n c : Nat) (m : List Int) (TK : TypeId) (w : World) (K0 : Kst w TK) (R0 : IRow .u8 S0 w a n m) (hc : n ≤ c) :
    Calls Tryd.prog 69 #[.int .u32 r, .int .u32 y, .slice a n c] w (Ret w fun v _ => v = .tuple #[.int .u32 (if S.hashE m = 0 then S.chalS r y m else 0), .int .i64 (S.hashE m)]) := by
  replace R0 := R0.weaken (T := fun k => k < w.heap.size) (fun k hk _ => hk)
  have hKl := K0.lt
  have hml := R0.len
  have hE := Ext.refl w
  refine enter (args := [.int .u32 r, .int .u32 y, .slice a n c]) (l := [.int .u32 r, .int .u32 y, .slice a n c, undef, undef, undef, undef, undef, undef, undef, undef, undef, undef, undef, undef, undef, undef, undef, undef, undef, undef, undef, undef, undef]) Tryd.func69 rfl rfl ?_
  refine wp_seq_k (fun K1 hK1 => ?_)
  refine region ?_
  refine RS.assign (v := .int .u32 0) rfl ?_
  refine RS.assign (v := .int .i64 0) rfl ?_
  refine RS.nil ?_
  refine hK1 _ _ ?_
  try clear hK1
  refine wp_seq_k (fun K2 hK2 => ?_)
  refine region ?_
  refine RS.move (v := .slice _ _ _) rfl ?_
  refine RS.move (v := .int _ _) rfl ?_
  refine RS.move (v := .int _ _) rfl ?_
  refine RS.buildSlice (xs := [.tmp 12, .tmp 13]) (vs := [.int _ _, .int _ _]) (cs := [.int _ _, .int _ _]) Tryd.underlying157 T22 (by decide) rfl rfl rfl rfl rfl rfl (by intro v hv; simp only [List.mem_cons, List.not_mem_nil, or_false] at hv; rcases hv with rfl | rfl <;> rfl) rfl (fun b3 w3 e3 s3 x3 B3 => ?_)
  refine RS.norm (by dsimp only [List.set]) ?_
  replace hE := Ext.tr hE x3
  replace K0 := K0.ext x3
  replace R0 := R0.ext x3
  have zw3 := x3.size
  refine RS.call E104 (hash (S1 := fun k => k = b3) _ (by decide) _ _ _ _ _ 2 _ [r, y] _ _ K0 R0 hc (.of_blk B3 rfl rfl rfl (.cons (k := .u32) (by simp only [lim]; omega) (.cons (k := .u32) (by simp only [lim]; omega) (.nil _)))) (by decide)) rfl (fun v4 w4 x4 A4 => ?_)
  replace hE := Ext.tr hE x4
  replace K0 := K0.ext x4
  replace R0 := R0.ext x4
  replace B3 := B3.ext x4
  have zw4 := x4.size
  subst A4
  refine RS.norm (by dsimp only [List.set]) ?_
  refine RS.move (v := .tuple _) rfl ?_
  refine RS.extract (v := .int _ _) rfl rfl ?_
  refine RS.extract (v := .int _ _) rfl rfl ?_
  refine RS.assign (v := .int _ _) rfl ?_
  refine RS.assign (v := .int _ _) rfl ?_
  refine RS.nil ?_
  refine hK2 _ _ ?_
  try clear hK2
  refine wp_seq_k (fun K5 hK5 => ?_)
  refine wp_seq_k (fun K6 hK6 => ?_)
  refine region ?_
  refine RS.move (v := .int _ _) rfl ?_
  refine RS.o (D.ne rfl rfl) ?_
  refine RS.nil ?_
  refine hK6 _ _ ?_
  try clear hK6
  refine C.ifn rfl (fun c7 => ?_) (fun c7 => ?_)
  · have he := c7
    refine wp_seq_k (fun K8 hK8 => ?_)
    refine region ?_
    refine RS.move (v := .int _ _) rfl ?_
    refine RS.assign (v := .int .u32 0) rfl ?_
    refine RS.assign (v := .int _ _) rfl ?_
    refine RS.nil ?_
    refine hK8 _ _ ?_
    try clear hK8
    refine wp_ret ?_
    refine ret (rs := [.tmp 6, .tmp 7]) (vs := [.int _ _, .int _ _]) (v := (.tuple #[.int _ _, .int _ _])) rfl ⟨rfl, rfl, trivial⟩ rfl ?_
    refine ⟨_, rfl, hE, ?_⟩
    rw [if_neg he]
  · have he := c7
    have hm : ¬ 9991 < m.length := by intro h; unfold S.hashE at he; rw [if_pos h] at he; omega
    rw [if_neg hm]
    have hb := S.hash_bd 99 [r, y] m
    refine wp_skip ?_
    refine hK5 _ _ ?_
    try clear hK5
    refine wp_seq_k (fun K9 hK9 => ?_)
    refine region ?_
    refine RS.move (v := .int _ _) rfl ?_
    refine RS.o (D.rem rfl rfl (by omega) (by omega)) ?_
    refine RS.o (D.conv rfl Tryd.underlying24 Tryd.underlying22 (by first | exact W.u32 (by omega) | exact W.u32m _)) ?_
    refine RS.assign (v := .int _ _) rfl ?_
    refine RS.assign (v := .int .i64 0) rfl ?_
    refine RS.nil ?_
    refine hK9 _ _ ?_
    try clear hK9
    refine wp_ret ?_
    refine ret (rs := [.tmp 6, .tmp 7]) (vs := [.int _ _, .int _ _]) (v := (.tuple #[.int _ _, .int _ _])) rfl ⟨rfl, rfl, trivial⟩ rfl ?_
    refine ⟨_, rfl, hE, ?_⟩
    rw [he, if_pos rfl, S.chal_eq]

theorem signW (x : Int) (hx : 0 ≤ x ∧ x < 4294967296) {S0 : Nat → Prop} (a : Option Addr) (n c : Nat) (m : List Int) (TK : TypeId) (w : World) (K0 : Kst w TK) (R0 : IRow .u8 S0 w a n m) (hc : n ≤ c) :
    Calls Tryd.prog 64 #[.int .u32 x, .slice a n c] w (Ret w fun v _ => v = .tuple #[.agg ([.int .u32 (if S.nonceE x m = 0 then S.sigE x m else 0), .int .u32 (if S.nonceE x m = 0 then S.sigS x m else 0)] : List Value).toArray, .int .i64 (S.nonceE x m)]) := by
  replace R0 := R0.weaken (T := fun k => k < w.heap.size) (fun k hk _ => hk)
  have hKl := K0.lt
  have hml := R0.len
  have hE := Ext.refl w
  refine enter (args := [.int .u32 x, .slice a n c]) (l := [.int .u32 x, .slice a n c, undef, undef, undef, undef, undef, undef, undef, undef, undef, undef, undef, undef, undef, undef, undef, undef, undef, undef, undef, undef, undef, undef, undef, undef, undef, undef, undef, undef, undef, undef, undef, undef, undef, undef, undef, undef, undef, undef, undef, undef, undef, undef, undef, undef, undef, undef, undef, undef, undef, undef, undef, undef, undef]) Tryd.func64 rfl rfl ?_
  refine wp_seq_k (fun K1 hK1 => ?_)
  refine region ?_
  refine RS.alloc T30 (fun b2 w2 e2 s2 x2 B2 => ?_)
  refine RS.norm (by dsimp only [List.set]) ?_
  replace hE := Ext.tr hE x2
  replace K0 := K0.ext x2
  replace R0 := R0.ext x2
  have zw2 := x2.size
  refine RS.assign (v := .int .i64 0) rfl ?_
  refine RS.nil ?_
  refine hK1 _ _ ?_
  try clear hK1
  refine wp_seq_k (fun K3 hK3 => ?_)
  refine region ?_
  refine RS.move (v := .int _ _) rfl ?_
  refine RS.move (v := .slice _ _ _) rfl ?_
  refine RS.call E99 (nonce _ (by omega) _ _ _ _ _ _ K0 R0 hc) rfl (fun v4 w4 x4 A4 => ?_)
  replace hE := Ext.tr hE x4
  replace K0 := K0.ext x4
  replace R0 := R0.ext x4
  replace B2 := B2.ext x4
  have zw4 := x4.size
  subst A4
  refine RS.norm (by dsimp only [List.set]) ?_
  refine RS.move (v := .tuple _) rfl ?_
  refine RS.extract (v := .int _ _) rfl rfl ?_
  refine RS.extract (v := .int _ _) rfl rfl ?_
  refine RS.assign (v := .int _ _) rfl ?_
  refine RS.assign (v := .int _ _) rfl ?_
  refine RS.nil ?_
  refine hK3 _ _ ?_
  try clear hK3
  refine wp_seq_k (fun K5 hK5 => ?_)
  refine wp_seq_k (fun K6 hK6 => ?_)
  refine region ?_
  refine RS.move (v := .int _ _) rfl ?_
  refine RS.o (D.ne rfl rfl) ?_
  refine RS.nil ?_
  refine hK6 _ _ ?_
  try clear hK6
  refine C.ifn rfl (fun c7 => ?_) (fun c7 => ?_)
  · have hz := c7
    refine wp_seq_k (fun K8 hK8 => ?_)
    refine region ?_
    refine RS.o (D.buildS T30 F30 (ps := []) rfl rfl) ?_
    refine RS.move (v := .int _ _) rfl ?_
    refine RS.storeAggB rfl rfl C30 (by decide) rfl rfl B2 rfl (fun w9 y9 N9 => ?_)
    replace hE := hE.trans (y9.below (by intros; try (first | (intro _ _) | (intro _) | skip); first | omega | (dsimp only at *; omega) | (simp_all; done) | (simp at *; omega)))
    replace K0 := K0.st y9 (by intros; try (first | (intro _ _) | (intro _) | skip); first | omega | (dsimp only at *; omega) | (simp_all; done) | (simp at *; omega))
    replace R0 := R0.st y9 (by intros; try (first | (intro _ _) | (intro _) | skip); first | omega | (dsimp only at *; omega) | (simp_all; done) | (simp at *; omega))
    have zw9 := y9.size
    replace B2 := N9
    refine RS.assign (v := .int _ _) rfl ?_
    refine RS.nil ?_
    refine hK8 _ _ ?_
    try clear hK8
    refine wp_ret ?_
    refine ret (rs := [.cell 4 30, .tmp 5]) (vs := [.agg _, .int _ _]) (v := (.tuple #[.agg _, .int _ _])) rfl ⟨⟨_, rfl, loadVar_agg Tryd.underlying30 rfl C30 (by decide) rfl (B2.cellsN 2 rfl)⟩, rfl, trivial⟩ rfl ?_
    refine ⟨_, rfl, hE, ?_⟩
    rw [if_neg hz, if_neg hz]
    first | done | rfl
  · have hz := c7
    obtain ⟨hsec, hh⟩ := S.nonceE_zero.1 hz
    have hx2 := S.secE_zero.1 hsec
    rw [show (if S.nonceE x m = 0 then S.nonceS x m else 0) = S.nonceS x m from if_pos hz]
    have hb1 := S.nonce_bd x m
    have hb2 := S.pub_bd x
    have hb3 := S.pub_bd (S.nonceS x m)
    have hb4 := S.sig_bd x m
    refine wp_skip ?_
    refine hK5 _ _ ?_
    try clear hK5
    refine wp_seq_k (fun K10 hK10 => ?_)
    refine region ?_
    refine RS.move (v := .int _ _) rfl ?_
    refine RS.call E26 (publicW _ (by omega) _) rfl (fun v11 w11 x11 A11 => ?_)
    replace hE := Ext.tr hE x11
    replace K0 := K0.ext x11
    replace R0 := R0.ext x11
    replace B2 := B2.ext x11
    have zw11 := x11.size
    subst A11
    rw [if_pos hsec]
    refine RS.norm (by dsimp only [List.set]) ?_
    refine RS.move (v := .tuple _) rfl ?_
    refine RS.extract (v := .int _ _) rfl rfl ?_
    refine RS.extract (v := .int _ _) rfl rfl ?_
    refine RS.assign (v := .int _ _) rfl ?_
    refine RS.assign (v := .int _ _) rfl ?_
    refine RS.nil ?_
    refine hK10 _ _ ?_
    try clear hK10
    refine wp_seq_k (fun K12 hK12 => ?_)
    refine region ?_
    refine RS.move (v := .int _ _) rfl ?_
    refine RS.o (D.conv rfl Tryd.underlying22 Tryd.underlying24 (W.u64 (by omega))) ?_
    refine RS.call E66 (group_Base _ (by omega) _) rfl (fun v13 w13 x13 A13 => ?_)
    replace hE := Ext.tr hE x13
    replace K0 := K0.ext x13
    replace R0 := R0.ext x13
    replace B2 := B2.ext x13
    have zw13 := x13.size
    subst A13
    rw [S.pub_eq]
    refine RS.norm (by dsimp only [List.set]) ?_
    refine RS.move (v := .int _ _) rfl ?_
    refine RS.move (v := .slice _ _ _) rfl ?_
    refine RS.call E69 (challenge _ (by omega) _ (by omega) _ _ _ _ _ _ K0 R0 hc) rfl (fun v14 w14 x14 A14 => ?_)
    replace hE := Ext.tr hE x14
    replace K0 := K0.ext x14
    replace R0 := R0.ext x14
    replace B2 := B2.ext x14
    have zw14 := x14.size
    subst A14
    rw [if_pos hh, S.sigE_eq]
    refine RS.norm (by dsimp only [List.set]) ?_
    refine RS.move (v := .tuple _) rfl ?_
    refine RS.extract (v := .int _ _) rfl rfl ?_
    refine RS.extract (v := .int _ _) rfl rfl ?_
    refine RS.assign (v := .int _ _) rfl ?_
    refine RS.assign (v := .int _ _) rfl ?_
    refine RS.nil ?_
    refine hK12 _ _ ?_
    try clear hK12
    refine wp_seq_k (fun K15 hK15 => ?_)
    refine region ?_
    refine RS.move (v := .int _ _) rfl ?_
    refine RS.move (v := .int _ _) rfl ?_
    refine RS.call E100 (group_Times _ (by omega) _ (by omega) _) rfl (fun v16 w16 x16 A16 => ?_)
    replace hE := Ext.tr hE x16
    replace K0 := K0.ext x16
    replace R0 := R0.ext x16
    replace B2 := B2.ext x16
    have zw16 := x16.size
    subst A16
    rw [if_pos (show max (S.sigE x m) x < 500000003 by omega)]
    refine RS.norm (by dsimp only [List.set]) ?_
    refine RS.move (v := .tuple _) rfl ?_
    refine RS.extract (v := .int _ _) rfl rfl ?_
    refine RS.extract (v := .int _ _) rfl rfl ?_
    refine RS.assign (v := .int _ _) rfl ?_
    refine RS.assign (v := .int _ _) rfl ?_
    refine RS.nil ?_
    refine hK15 _ _ ?_
    try clear hK15
    refine wp_seq_k (fun K17 hK17 => ?_)
    refine region ?_
    refine RS.move (v := .int _ _) rfl ?_
    refine RS.move (v := .int _ _) rfl ?_
    refine RS.call E101 (group_Plus _ (by omega) _ (by omega) _) rfl (fun v18 w18 x18 A18 => ?_)
    replace hE := Ext.tr hE x18
    replace K0 := K0.ext x18
    replace R0 := R0.ext x18
    replace B2 := B2.ext x18
    have zw18 := x18.size
    subst A18
    rw [if_pos (show max (S.nonceS x m) (S.sigE x m * x % 500000003) < 500000003 by omega), S.sigS_eq]
    refine RS.norm (by dsimp only [List.set]) ?_
    refine RS.move (v := .tuple _) rfl ?_
    refine RS.extract (v := .int _ _) rfl rfl ?_
    refine RS.extract (v := .int _ _) rfl rfl ?_
    refine RS.assign (v := .int _ _) rfl ?_
    refine RS.assign (v := .int _ _) rfl ?_
    refine RS.nil ?_
    refine hK17 _ _ ?_
    try clear hK17
    refine wp_seq_k (fun K19 hK19 => ?_)
    refine region ?_
    refine RS.move (v := .int _ _) rfl ?_
    refine RS.move (v := .int _ _) rfl ?_
    refine RS.o (D.buildS T30 F30 (ps := [(0, .int _ _), (1, .int _ _)]) rfl rfl) ?_
    refine RS.storeAggB rfl rfl C30 (by decide) rfl rfl B2 rfl (fun w20 y20 N20 => ?_)
    replace hE := hE.trans (y20.below (by intros; try (first | (intro _ _) | (intro _) | skip); first | omega | (dsimp only at *; omega) | (simp_all; done) | (simp at *; omega)))
    replace K0 := K0.st y20 (by intros; try (first | (intro _ _) | (intro _) | skip); first | omega | (dsimp only at *; omega) | (simp_all; done) | (simp at *; omega))
    replace R0 := R0.st y20 (by intros; try (first | (intro _ _) | (intro _) | skip); first | omega | (dsimp only at *; omega) | (simp_all; done) | (simp at *; omega))
    have zw20 := y20.size
    replace B2 := N20
    refine RS.assign (v := .int .i64 0) rfl ?_
    refine RS.nil ?_
    refine hK19 _ _ ?_
    try clear hK19
    refine wp_ret ?_
    refine ret (rs := [.cell 4 30, .tmp 5]) (vs := [.agg _, .int _ _]) (v := (.tuple #[.agg _, .int _ _])) rfl ⟨⟨_, rfl, loadVar_agg Tryd.underlying30 rfl C30 (by decide) rfl (B2.cellsN 2 rfl)⟩, rfl, trivial⟩ rfl ?_
    refine ⟨_, rfl, hE, ?_⟩
    rw [hz, if_pos rfl, if_pos rfl]
    first | done | rfl

theorem verifyW (y : Int) (hy : 0 ≤ y ∧ y < 4294967296) (e s : Int) (he : 0 ≤ e ∧ e < 4294967296) (hs : 0 ≤ s ∧ s < 4294967296) {S0 : Nat → Prop} (a : Option Addr) (n c : Nat) (m : List Int) (TK : TypeId) (w : World) (K0 : Kst w TK) (R0 : IRow .u8 S0 w a n m) (hc : n ≤ c) :
    Calls Tryd.prog 28 #[.int .u32 y, .slice a n c, .agg ([.int .u32 e, .int .u32 s] : List Value).toArray] w (Ret w fun v _ => v = .int .i64 (S.verS y m e s)) := by
  replace R0 := R0.weaken (T := fun k => k < w.heap.size) (fun k hk _ => hk)
  have hKl := K0.lt
  have hml := R0.len
  have hE := Ext.refl w
  refine enter (args := [.int .u32 y, .slice a n c, .agg ([.int .u32 e, .int .u32 s] : List Value).toArray]) (l := [.int .u32 y, .slice a n c, .agg ([.int .u32 e, .int .u32 s] : List Value).toArray, undef, undef, undef, undef, undef, undef, undef, undef, undef, undef, undef, undef, undef, undef, undef, undef, undef, undef, undef, undef, undef, undef, undef, undef, undef, undef, undef, undef, undef, undef, undef, undef, undef, undef, undef, undef, undef, undef, undef, undef, undef, undef, undef, undef, undef, undef, undef, undef, undef, undef, undef, undef, undef, undef, undef]) Tryd.func28 rfl rfl ?_
  refine wp_seq_k (fun K1 hK1 => ?_)
  refine region ?_
  refine RS.box rfl rfl (fun b2 w2 e2 s2 x2 B2 => ?_)
  refine RS.norm (by dsimp only [List.set]) ?_
  replace hE := Ext.tr hE x2
  replace K0 := K0.ext x2
  replace R0 := R0.ext x2
  have zw2 := x2.size
  refine RS.assign (v := .int .i64 0) rfl ?_
  refine RS.nil ?_
  refine hK1 _ _ ?_
  try clear hK1
  refine wp_seq_k (fun K3 hK3 => ?_)
  refine wp_seq_k (fun K4 hK4 => ?_)
  refine region ?_
  refine RS.move (v := .int _ _) rfl ?_
  refine RS.call E59 (group_Is _ (by omega) _) rfl (fun v5 w5 x5 A5 => ?_)
  replace hE := Ext.tr hE x5
  replace K0 := K0.ext x5
  replace R0 := R0.ext x5
  replace B2 := B2.ext x5
  have zw5 := x5.size
  subst A5
  refine RS.norm (by dsimp only [List.set]) ?_
  refine RS.o (D.not rfl) ?_
  refine RS.nil ?_
  refine hK4 _ _ ?_
  try clear hK4
  refine C.ifnot rfl (fun c6 => ?_) (fun c6 => ?_)
  · have hG := c6
    refine wp_seq_k (fun K7 hK7 => ?_)
    refine region ?_
    refine RS.assign (v := .int .i64 2) rfl ?_
    refine RS.nil ?_
    refine hK7 _ _ ?_
    try clear hK7
    refine wp_ret ?_
    refine ret (rs := [.tmp 6]) (vs := [.int _ _]) (v := (.int _ _)) rfl ⟨rfl, trivial⟩ rfl ?_
    refine ⟨_, rfl, hE, congrArg (Value.int .i64) ?_⟩
    unfold S.verS
    rw [if_pos (by simpa using hG)]
  · have hG : S.isG y = true := by simpa using c6
    refine wp_skip ?_
    refine hK3 _ _ ?_
    try clear hK3
    refine wp_seq_k (fun K8 hK8 => ?_)
    refine wp_seq_k (fun K9 hK9 => ?_)
    refine region ?_
    refine RS.move (v := .slice _ _ _) rfl ?_
    refine RS.o (D.len rfl Tryd.underlying35) ?_
    refine RS.o (D.gt rfl rfl) ?_
    refine RS.nil ?_
    refine hK9 _ _ ?_
    try clear hK9
    refine C.ifd rfl (fun c10 => ?_) (fun c10 => ?_)
    · have hL := c10
      refine wp_seq_k (fun K11 hK11 => ?_)
      refine region ?_
      refine RS.assign (v := .int .i64 4) rfl ?_
      refine RS.nil ?_
      refine hK11 _ _ ?_
      try clear hK11
      refine wp_ret ?_
      refine ret (rs := [.tmp 6]) (vs := [.int _ _]) (v := (.int _ _)) rfl ⟨rfl, trivial⟩ rfl ?_
      refine ⟨_, rfl, hE, congrArg (Value.int .i64) ?_⟩
      unfold S.verS
      rw [if_neg (by simp [hG]), if_pos (by omega)]
    · have hL := c10
      refine wp_skip ?_
      refine hK8 _ _ ?_
      try clear hK8
      refine wp_seq_k (fun K12 hK12 => ?_)
      refine wp_seq_k (fun K13 hK13 => ?_)
      refine region ?_
      refine RS.o (D.fieldL 0 rfl Tryd.underlying30 rfl C22 (by decide) rfl) ?_
      refine RS.o (D.load rfl Tryd.underlying22 rfl (B2.cell rfl)) ?_
      refine RS.o (D.fieldL 1 rfl Tryd.underlying30 rfl C22 (by decide) rfl) ?_
      refine RS.o (D.load rfl Tryd.underlying22 rfl (B2.cell rfl)) ?_
      refine RS.o (D.max2 rfl rfl) ?_
      refine RS.o (D.ge rfl rfl) ?_
      refine RS.nil ?_
      refine hK13 _ _ ?_
      try clear hK13
      refine C.ifd rfl (fun c14 => ?_) (fun c14 => ?_)
      · have hQ := c14
        refine wp_seq_k (fun K15 hK15 => ?_)
        refine region ?_
        refine RS.assign (v := .int .i64 22) rfl ?_
        refine RS.nil ?_
        refine hK15 _ _ ?_
        try clear hK15
        refine wp_ret ?_
        refine ret (rs := [.tmp 6]) (vs := [.int _ _]) (v := (.int _ _)) rfl ⟨rfl, trivial⟩ rfl ?_
        refine ⟨_, rfl, hE, congrArg (Value.int .i64) ?_⟩
        unfold S.verS
        rw [if_neg (by simp [hG]), if_neg (by omega), if_pos (by split at hQ <;> omega)]
      · have hQ : e < 500000003 ∧ s < 500000003 := by have := c14; split at this <;> omega
        refine wp_skip ?_
        refine hK12 _ _ ?_
        try clear hK12
        refine wp_seq_k (fun K16 hK16 => ?_)
        refine region ?_
        refine RS.move (v := .int _ _) rfl ?_
        refine RS.o (D.fieldL 0 rfl Tryd.underlying30 rfl C22 (by decide) rfl) ?_
        refine RS.o (D.load rfl Tryd.underlying22 rfl (B2.cell rfl)) ?_
        refine RS.o (D.conv rfl Tryd.underlying22 Tryd.underlying24 (W.u64 (by omega))) ?_
        refine RS.o (D.sub rfl rfl (W.u64 (by omega))) ?_
        refine RS.call E67 (group_Pow _ (by omega) _ (by omega) _) rfl (fun v17 w17 x17 A17 => ?_)
        replace hE := Ext.tr hE x17
        replace K0 := K0.ext x17
        replace R0 := R0.ext x17
        replace B2 := B2.ext x17
        have zw17 := x17.size
        subst A17
        rw [if_pos hG]
        have hp1 := S.pw_nonneg y (500000003 - e) 1000000007 (by decide)
        have hp2 := S.pw_lt y (500000003 - e) 1000000007 (by decide)
        refine RS.norm (by dsimp only [List.set]) ?_
        refine RS.move (v := .tuple _) rfl ?_
        refine RS.extract (v := .int _ _) rfl rfl ?_
        refine RS.extract (v := .int _ _) rfl rfl ?_
        refine RS.assign (v := .int _ _) rfl ?_
        refine RS.assign (v := .int _ _) rfl ?_
        refine RS.nil ?_
        refine hK16 _ _ ?_
        try clear hK16
        refine wp_seq_k (fun K18 hK18 => ?_)
        refine region ?_
        refine RS.o (D.fieldL 1 rfl Tryd.underlying30 rfl C22 (by decide) rfl) ?_
        refine RS.o (D.load rfl Tryd.underlying22 rfl (B2.cell rfl)) ?_
        refine RS.o (D.conv rfl Tryd.underlying22 Tryd.underlying24 (W.u64 (by omega))) ?_
        refine RS.call E66 (group_Base _ (by omega) _) rfl (fun v19 w19 x19 A19 => ?_)
        replace hE := Ext.tr hE x19
        replace K0 := K0.ext x19
        replace R0 := R0.ext x19
        replace B2 := B2.ext x19
        have zw19 := x19.size
        subst A19
        rw [S.pub_eq]
        have hb1 := S.pub_bd s
        refine RS.norm (by dsimp only [List.set]) ?_
        refine RS.move (v := .int _ _) rfl ?_
        have hmm : (S.isG (S.pubS s) && S.isG (S.pw y (500000003 - e) 1000000007)) = true := by rw [S.isG_pub s (by omega), S.isG_back _ hG (by omega)]; rfl
        refine RS.call E68 (group_Mul _ (by omega) _ (by omega) _) rfl (fun v20 w20 x20 A20 => ?_)
        replace hE := Ext.tr hE x20
        replace K0 := K0.ext x20
        replace R0 := R0.ext x20
        replace B2 := B2.ext x20
        have zw20 := x20.size
        subst A20
        rw [if_pos hmm]
        have hp3 := Int.emod_nonneg (S.pubS s * S.pw y (500000003 - e) 1000000007) (show (1000000007 : Int) ≠ 0 by decide)
        have hp4 := Int.emod_lt_of_pos (S.pubS s * S.pw y (500000003 - e) 1000000007) (show (0 : Int) < 1000000007 by decide)
        refine RS.norm (by dsimp only [List.set]) ?_
        refine RS.move (v := .tuple _) rfl ?_
        refine RS.extract (v := .int _ _) rfl rfl ?_
        refine RS.extract (v := .int _ _) rfl rfl ?_
        refine RS.assign (v := .int _ _) rfl ?_
        refine RS.assign (v := .int _ _) rfl ?_
        refine RS.nil ?_
        refine hK18 _ _ ?_
        try clear hK18
        refine wp_seq_k (fun K21 hK21 => ?_)
        refine wp_seq_k (fun K22 hK22 => ?_)
        refine region ?_
        refine RS.move (v := .int _ _) rfl ?_
        refine RS.move (v := .int _ _) rfl ?_
        refine RS.move (v := .slice _ _ _) rfl ?_
        have hh : S.hashE m = 0 := by unfold S.hashE; rw [if_neg (by omega)]
        refine RS.call E69 (challenge _ (by omega) _ (by omega) _ _ _ _ _ _ K0 R0 hc) rfl (fun v23 w23 x23 A23 => ?_)
        replace hE := Ext.tr hE x23
        replace K0 := K0.ext x23
        replace R0 := R0.ext x23
        replace B2 := B2.ext x23
        have zw23 := x23.size
        subst A23
        rw [if_pos hh, hh]
        refine RS.norm (by dsimp only [List.set]) ?_
        refine RS.move (v := .tuple _) rfl ?_
        refine RS.extract (v := .int _ _) rfl rfl ?_
        refine RS.extract (v := .int _ _) rfl rfl ?_
        refine RS.assign (v := .int _ _) rfl ?_
        refine RS.assign (v := .int _ _) rfl ?_
        refine RS.nil ?_
        refine hK22 _ _ ?_
        try clear hK22
        refine wp_seq_k (fun K24 hK24 => ?_)
        refine region ?_
        refine RS.move (v := .int _ _) rfl ?_
        refine RS.o (D.ne rfl rfl) ?_
        refine RS.move (v := .bool _) rfl ?_
        refine RS.splitn 52 rfl rfl (fun c25 => ?_) (fun c25 => ?_)
        · refine RS.norm (by dsimp only [List.set]) ?_
          refine RS.skipB (b := true) 52 rfl rfl rfl rfl ?_
          refine RS.norm (by dsimp only [putL, List.set]) ?_
          refine RS.skipB (b := true) 52 rfl rfl rfl rfl ?_
          refine RS.norm (by dsimp only [putL, List.set]) ?_
          refine RS.skipB (b := true) 52 rfl rfl rfl rfl ?_
          refine RS.norm (by dsimp only [putL, List.set]) ?_
          refine RS.skipB (b := true) 52 rfl rfl rfl rfl ?_
          refine RS.norm (by dsimp only [putL, List.set]) ?_
          refine RS.pick (v := .bool true) rfl rfl ?_
          refine RS.nil ?_
          refine hK24 _ _ ?_
          try clear hK24
          refine C.ift rfl ?_
          refine wp_seq_k (fun K26 hK26 => ?_)
          refine region ?_
          refine RS.assign (v := .int .i64 22) rfl ?_
          refine RS.nil ?_
          refine hK26 _ _ ?_
          try clear hK26
          refine wp_ret ?_
          refine ret (rs := [.tmp 6]) (vs := [.int _ _]) (v := (.int _ _)) rfl ⟨rfl, trivial⟩ rfl ?_
          refine ⟨_, rfl, hE, congrArg (Value.int .i64) ?_⟩
          unfold S.verS
          rw [if_neg (by simp [hG]), if_neg (by omega), if_neg (by omega)]
          simp_all
        · refine RS.norm (by dsimp only [List.set]) ?_
          refine RS.wantB 52 rfl rfl rfl ?_
          refine RS.move (v := .int _ _) rfl ?_
          refine RS.wantB 52 rfl rfl rfl ?_
          refine RS.o (D.fieldL 0 rfl Tryd.underlying30 rfl C22 (by decide) rfl) ?_
          refine RS.wantB 52 rfl rfl rfl ?_
          refine RS.o (D.load rfl Tryd.underlying22 rfl (B2.cell rfl)) ?_
          refine RS.wantB 52 rfl rfl rfl ?_
          refine RS.o (D.ne rfl rfl) ?_
          refine RS.pick (v := .bool _) rfl rfl ?_
          refine RS.nil ?_
          refine hK24 _ _ ?_
          try clear hK24
          refine C.ifn rfl (fun c27 => ?_) (fun c27 => ?_)
          · refine wp_seq_k (fun K28 hK28 => ?_)
            refine region ?_
            refine RS.assign (v := .int .i64 22) rfl ?_
            refine RS.nil ?_
            refine hK28 _ _ ?_
            try clear hK28
            refine wp_ret ?_
            refine ret (rs := [.tmp 6]) (vs := [.int _ _]) (v := (.int _ _)) rfl ⟨rfl, trivial⟩ rfl ?_
            refine ⟨_, rfl, hE, congrArg (Value.int .i64) ?_⟩
            unfold S.verS
            rw [if_neg (by simp [hG]), if_neg (by omega), if_neg (by omega)]
            simp_all
          · refine wp_skip ?_
            refine hK21 _ _ ?_
            try clear hK21
            refine wp_seq_k (fun K29 hK29 => ?_)
            refine region ?_
            refine RS.assign (v := .int .i64 0) rfl ?_
            refine RS.nil ?_
            refine hK29 _ _ ?_
            try clear hK29
            refine wp_ret ?_
            refine ret (rs := [.tmp 6]) (vs := [.int _ _]) (v := (.int _ _)) rfl ⟨rfl, trivial⟩ rfl ?_
            refine ⟨_, rfl, hE, congrArg (Value.int .i64) ?_⟩
            unfold S.verS
            rw [if_neg (by simp [hG]), if_neg (by omega), if_neg (by omega)]
            simp_all

end Go.Proofs.YtiohpiiiapjblaaDoor.W
