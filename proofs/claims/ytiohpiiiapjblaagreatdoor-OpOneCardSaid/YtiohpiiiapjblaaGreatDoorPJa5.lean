/-
  Part 5 of the lemmas of these laws: OpOne, JudgeSigned.
-/
import Derived.Test.YtiohpiiiapjblaaGreatDoorPJa4
namespace Go.Proofs.YtiohpiiiapjblaaGreatDoor.W
open Go.RowKit Go.Proofs.YtiohpiiiapjblaaGreatDoor.G
set_option linter.unusedVariables false
set_option maxRecDepth 20000
set_option maxHeartbeats 8000000
attribute [local irreducible] RS RX
theorem E64 : Enters Tryz.prog 64 := .mk Tryz.func64 (by kernel_rfl) rfl
theorem E108 : Enters Tryz.prog 108 := .mk Tryz.func108 (by kernel_rfl) rfl
theorem len64 (n : Int) (hn : 247 < n ∧ n < 18446744073709551616) (w : World) :
  Calls Tryz.prog 108 #[.int .u64 n] w (Ret w fun v _ => ∃ L, v = .int .i64 L ∧ (L + 7) / 8 = ((S.blen n : Nat) : Int) ∧ 0 ≤ L ∧ L ≤ 64) := by
 have e32 : (2 : Int) ^ (32 : Int).toNat = 4294967296 := by decide
 have e16 : (2 : Int) ^ (16 : Int).toNat = 65536 := by decide
 have e8 : (2 : Int) ^ (8 : Int).toNat = 256 := by decide
 have hE := Ext.refl w
 refine enter (args := [.int .u64 n]) (l := [.int .u64 n, undef, undef, undef, undef, undef, undef, undef, undef, undef, undef, undef, undef, undef, undef, undef, undef, undef, undef, undef, undef, undef, undef, undef, undef]) Tryz.func108 rfl rfl ?_
 refine wp_seq_k (fun K1 hK1 => ?_)
 refine region ?_
 refine RS.assign (v := .int .i64 0) rfl ?_
 refine RS.nil ?_
 refine hK1 _ _ ?_
 try clear hK1
 refine wp_seq_k (fun K2 hK2 => ?_)
 refine wp_seq_k (fun K3 hK3 => ?_)
 refine region ?_
 refine RS.move (v := .int _ _) rfl ?_
 refine RS.o (D.ge rfl rfl) ?_
 refine RS.nil ?_
 refine hK3 _ _ ?_
 try clear hK3
 refine C.ifd rfl (fun c4 => ?_) (fun c4 => ?_)
 ·refine wp_seq_k (fun K5 hK5 => ?_)
  refine region ?_
  refine RS.move (v := .int _ _) rfl ?_
  refine RS.ob (D.shr_u64 rfl rfl (by omega) (by constructor <;> omega)) (fun z6 => ?_)
  refine RS.assign (v := .int _ _) rfl ?_
  refine RS.nil ?_
  refine hK5 _ _ ?_
  try clear hK5
  simp only [e32]
  refine region ?_
  refine RS.assign (v := .int .i64 32) rfl ?_
  refine RS.nil ?_
  refine hK2 _ _ ?_
  try clear hK2
  refine wp_seq_k (fun K7 hK7 => ?_)
  refine wp_seq_k (fun K8 hK8 => ?_)
  refine region ?_
  refine RS.move (v := .int _ _) rfl ?_
  refine RS.o (D.ge rfl rfl) ?_
  refine RS.nil ?_
  refine hK8 _ _ ?_
  try clear hK8
  refine C.ifd rfl (fun c9 => ?_) (fun c9 => ?_)
  ·refine wp_seq_k (fun K10 hK10 => ?_)
   refine region ?_
   refine RS.move (v := .int _ _) rfl ?_
   refine RS.ob (D.shr_u64 rfl rfl (by omega) (by constructor <;> omega)) (fun z11 => ?_)
   refine RS.assign (v := .int _ _) rfl ?_
   refine RS.nil ?_
   refine hK10 _ _ ?_
   try clear hK10
   simp only [e16]
   refine region ?_
   refine RS.move (v := .int _ _) rfl ?_
   refine RS.o (D.add rfl rfl (W.i64 (by omega))) ?_
   refine RS.assign (v := .int _ _) rfl ?_
   refine RS.nil ?_
   refine hK7 _ _ ?_
   try clear hK7
   refine wp_seq_k (fun K12 hK12 => ?_)
   refine wp_seq_k (fun K13 hK13 => ?_)
   refine region ?_
   refine RS.move (v := .int _ _) rfl ?_
   refine RS.o (D.ge rfl rfl) ?_
   refine RS.nil ?_
   refine hK13 _ _ ?_
   try clear hK13
   refine C.ifd rfl (fun c14 => ?_) (fun c14 => ?_)
   ·refine wp_seq_k (fun K15 hK15 => ?_)
    refine region ?_
    refine RS.move (v := .int _ _) rfl ?_
    refine RS.ob (D.shr_u64 rfl rfl (by omega) (by constructor <;> omega)) (fun z16 => ?_)
    refine RS.assign (v := .int _ _) rfl ?_
    refine RS.nil ?_
    refine hK15 _ _ ?_
    try clear hK15
    simp only [e8]
    refine region ?_
    refine RS.move (v := .int _ _) rfl ?_
    refine RS.o (D.add rfl rfl (W.i64 (by omega))) ?_
    refine RS.assign (v := .int _ _) rfl ?_
    refine RS.nil ?_
    refine hK12 _ _ ?_
    try clear hK12
    refine wp_seq_k (fun K17 hK17 => ?_)
    refine region ?_
    refine RS.move (v := .int _ _) rfl ?_
    refine RS.move (v := .int _ _) rfl ?_
    refine RS.o (D.conv rfl Tryz.underlying25 Tryz.underlying5 (W.u8 (by omega))) ?_
    refine RS.indexStr rfl rfl Tryz.underlying9 (by refine ⟨by omega, ?_⟩; show _ < ((256 : Nat) : Int); omega) (fun v18 q18 r18 => ?_)
    refine RS.norm (by dsimp only [List.set]) ?_
    simp only [lim] at r18
    have ht := S.tab_of q18 (by kernel_rfl) (by omega)
    refine RS.o (D.conv rfl Tryz.underlying5 Tryz.underlying3 (W.i64 (by omega))) ?_
    refine RS.o (D.add rfl rfl (W.i64 (by omega))) ?_
    refine RS.assign (v := .int _ _) rfl ?_
    refine RS.nil ?_
    refine hK17 _ _ ?_
    try clear hK17
    refine wp_ret ?_
    refine ret (rs := [.tmp 2]) (vs := [.int _ _]) (v := (.int _ _)) rfl ⟨rfl, trivial⟩ rfl ?_
    refine ⟨_, rfl, hE, _, rfl, S.len_big n _ 7 (n / 4294967296 / 65536 / 256) v18 (by show n / 4294967296 / 65536 / 256 = n / 72057594037927936; omega) (by omega) (by omega) (by omega) (by omega) (by omega), by omega, by omega⟩
   ·refine wp_skip ?_
    refine hK12 _ _ ?_
    try clear hK12
    refine wp_seq_k (fun K19 hK19 => ?_)
    refine region ?_
    refine RS.move (v := .int _ _) rfl ?_
    refine RS.move (v := .int _ _) rfl ?_
    refine RS.o (D.conv rfl Tryz.underlying25 Tryz.underlying5 (W.u8 (by omega))) ?_
    refine RS.indexStr rfl rfl Tryz.underlying9 (by refine ⟨by omega, ?_⟩; show _ < ((256 : Nat) : Int); omega) (fun v20 q20 r20 => ?_)
    refine RS.norm (by dsimp only [List.set]) ?_
    simp only [lim] at r20
    have ht := S.tab_of q20 (by kernel_rfl) (by omega)
    refine RS.o (D.conv rfl Tryz.underlying5 Tryz.underlying3 (W.i64 (by omega))) ?_
    refine RS.o (D.add rfl rfl (W.i64 (by omega))) ?_
    refine RS.assign (v := .int _ _) rfl ?_
    refine RS.nil ?_
    refine hK19 _ _ ?_
    try clear hK19
    refine wp_ret ?_
    refine ret (rs := [.tmp 2]) (vs := [.int _ _]) (v := (.int _ _)) rfl ⟨rfl, trivial⟩ rfl ?_
    refine ⟨_, rfl, hE, _, rfl, S.len_big n _ 6 (n / 4294967296 / 65536) v20 (by show n / 4294967296 / 65536 = n / 281474976710656; omega) (by omega) (by omega) (by omega) (by omega) (by omega), by omega, by omega⟩
  ·refine wp_skip ?_
   refine hK7 _ _ ?_
   try clear hK7
   refine wp_seq_k (fun K21 hK21 => ?_)
   refine wp_seq_k (fun K22 hK22 => ?_)
   refine region ?_
   refine RS.move (v := .int _ _) rfl ?_
   refine RS.o (D.ge rfl rfl) ?_
   refine RS.nil ?_
   refine hK22 _ _ ?_
   try clear hK22
   refine C.ifd rfl (fun c23 => ?_) (fun c23 => ?_)
   ·refine wp_seq_k (fun K24 hK24 => ?_)
    refine region ?_
    refine RS.move (v := .int _ _) rfl ?_
    refine RS.ob (D.shr_u64 rfl rfl (by omega) (by constructor <;> omega)) (fun z25 => ?_)
    refine RS.assign (v := .int _ _) rfl ?_
    refine RS.nil ?_
    refine hK24 _ _ ?_
    try clear hK24
    simp only [e8]
    refine region ?_
    refine RS.move (v := .int _ _) rfl ?_
    refine RS.o (D.add rfl rfl (W.i64 (by omega))) ?_
    refine RS.assign (v := .int _ _) rfl ?_
    refine RS.nil ?_
    refine hK21 _ _ ?_
    try clear hK21
    refine wp_seq_k (fun K26 hK26 => ?_)
    refine region ?_
    refine RS.move (v := .int _ _) rfl ?_
    refine RS.move (v := .int _ _) rfl ?_
    refine RS.o (D.conv rfl Tryz.underlying25 Tryz.underlying5 (W.u8 (by omega))) ?_
    refine RS.indexStr rfl rfl Tryz.underlying9 (by refine ⟨by omega, ?_⟩; show _ < ((256 : Nat) : Int); omega) (fun v27 q27 r27 => ?_)
    refine RS.norm (by dsimp only [List.set]) ?_
    simp only [lim] at r27
    have ht := S.tab_of q27 (by kernel_rfl) (by omega)
    refine RS.o (D.conv rfl Tryz.underlying5 Tryz.underlying3 (W.i64 (by omega))) ?_
    refine RS.o (D.add rfl rfl (W.i64 (by omega))) ?_
    refine RS.assign (v := .int _ _) rfl ?_
    refine RS.nil ?_
    refine hK26 _ _ ?_
    try clear hK26
    refine wp_ret ?_
    refine ret (rs := [.tmp 2]) (vs := [.int _ _]) (v := (.int _ _)) rfl ⟨rfl, trivial⟩ rfl ?_
    refine ⟨_, rfl, hE, _, rfl, S.len_big n _ 5 (n / 4294967296 / 256) v27 (by show n / 4294967296 / 256 = n / 1099511627776; omega) (by omega) (by omega) (by omega) (by omega) (by omega), by omega, by omega⟩
   ·refine wp_skip ?_
    refine hK21 _ _ ?_
    try clear hK21
    refine wp_seq_k (fun K28 hK28 => ?_)
    refine region ?_
    refine RS.move (v := .int _ _) rfl ?_
    refine RS.move (v := .int _ _) rfl ?_
    refine RS.o (D.conv rfl Tryz.underlying25 Tryz.underlying5 (W.u8 (by omega))) ?_
    refine RS.indexStr rfl rfl Tryz.underlying9 (by refine ⟨by omega, ?_⟩; show _ < ((256 : Nat) : Int); omega) (fun v29 q29 r29 => ?_)
    refine RS.norm (by dsimp only [List.set]) ?_
    simp only [lim] at r29
    have ht := S.tab_of q29 (by kernel_rfl) (by omega)
    refine RS.o (D.conv rfl Tryz.underlying5 Tryz.underlying3 (W.i64 (by omega))) ?_
    refine RS.o (D.add rfl rfl (W.i64 (by omega))) ?_
    refine RS.assign (v := .int _ _) rfl ?_
    refine RS.nil ?_
    refine hK28 _ _ ?_
    try clear hK28
    refine wp_ret ?_
    refine ret (rs := [.tmp 2]) (vs := [.int _ _]) (v := (.int _ _)) rfl ⟨rfl, trivial⟩ rfl ?_
    refine ⟨_, rfl, hE, _, rfl, S.len_big n _ 4 (n / 4294967296) v29 (by show n / 4294967296 = n / 4294967296; omega) (by omega) (by omega) (by omega) (by omega) (by omega), by omega, by omega⟩
 ·refine wp_skip ?_
  refine hK2 _ _ ?_
  try clear hK2
  refine wp_seq_k (fun K30 hK30 => ?_)
  refine wp_seq_k (fun K31 hK31 => ?_)
  refine region ?_
  refine RS.move (v := .int _ _) rfl ?_
  refine RS.o (D.ge rfl rfl) ?_
  refine RS.nil ?_
  refine hK31 _ _ ?_
  try clear hK31
  refine C.ifd rfl (fun c32 => ?_) (fun c32 => ?_)
  ·refine wp_seq_k (fun K33 hK33 => ?_)
   refine region ?_
   refine RS.move (v := .int _ _) rfl ?_
   refine RS.ob (D.shr_u64 rfl rfl (by omega) (by constructor <;> omega)) (fun z34 => ?_)
   refine RS.assign (v := .int _ _) rfl ?_
   refine RS.nil ?_
   refine hK33 _ _ ?_
   try clear hK33
   simp only [e16]
   refine region ?_
   refine RS.move (v := .int _ _) rfl ?_
   refine RS.o (D.add rfl rfl (W.i64 (by omega))) ?_
   refine RS.assign (v := .int _ _) rfl ?_
   refine RS.nil ?_
   refine hK30 _ _ ?_
   try clear hK30
   refine wp_seq_k (fun K35 hK35 => ?_)
   refine wp_seq_k (fun K36 hK36 => ?_)
   refine region ?_
   refine RS.move (v := .int _ _) rfl ?_
   refine RS.o (D.ge rfl rfl) ?_
   refine RS.nil ?_
   refine hK36 _ _ ?_
   try clear hK36
   refine C.ifd rfl (fun c37 => ?_) (fun c37 => ?_)
   ·refine wp_seq_k (fun K38 hK38 => ?_)
    refine region ?_
    refine RS.move (v := .int _ _) rfl ?_
    refine RS.ob (D.shr_u64 rfl rfl (by omega) (by constructor <;> omega)) (fun z39 => ?_)
    refine RS.assign (v := .int _ _) rfl ?_
    refine RS.nil ?_
    refine hK38 _ _ ?_
    try clear hK38
    simp only [e8]
    refine region ?_
    refine RS.move (v := .int _ _) rfl ?_
    refine RS.o (D.add rfl rfl (W.i64 (by omega))) ?_
    refine RS.assign (v := .int _ _) rfl ?_
    refine RS.nil ?_
    refine hK35 _ _ ?_
    try clear hK35
    refine wp_seq_k (fun K40 hK40 => ?_)
    refine region ?_
    refine RS.move (v := .int _ _) rfl ?_
    refine RS.move (v := .int _ _) rfl ?_
    refine RS.o (D.conv rfl Tryz.underlying25 Tryz.underlying5 (W.u8 (by omega))) ?_
    refine RS.indexStr rfl rfl Tryz.underlying9 (by refine ⟨by omega, ?_⟩; show _ < ((256 : Nat) : Int); omega) (fun v41 q41 r41 => ?_)
    refine RS.norm (by dsimp only [List.set]) ?_
    simp only [lim] at r41
    have ht := S.tab_of q41 (by kernel_rfl) (by omega)
    refine RS.o (D.conv rfl Tryz.underlying5 Tryz.underlying3 (W.i64 (by omega))) ?_
    refine RS.o (D.add rfl rfl (W.i64 (by omega))) ?_
    refine RS.assign (v := .int _ _) rfl ?_
    refine RS.nil ?_
    refine hK40 _ _ ?_
    try clear hK40
    refine wp_ret ?_
    refine ret (rs := [.tmp 2]) (vs := [.int _ _]) (v := (.int _ _)) rfl ⟨rfl, trivial⟩ rfl ?_
    refine ⟨_, rfl, hE, _, rfl, S.len_big n _ 3 (n / 65536 / 256) v41 (by show n / 65536 / 256 = n / 16777216; omega) (by omega) (by omega) (by omega) (by omega) (by omega), by omega, by omega⟩
   ·refine wp_skip ?_
    refine hK35 _ _ ?_
    try clear hK35
    refine wp_seq_k (fun K42 hK42 => ?_)
    refine region ?_
    refine RS.move (v := .int _ _) rfl ?_
    refine RS.move (v := .int _ _) rfl ?_
    refine RS.o (D.conv rfl Tryz.underlying25 Tryz.underlying5 (W.u8 (by omega))) ?_
    refine RS.indexStr rfl rfl Tryz.underlying9 (by refine ⟨by omega, ?_⟩; show _ < ((256 : Nat) : Int); omega) (fun v43 q43 r43 => ?_)
    refine RS.norm (by dsimp only [List.set]) ?_
    simp only [lim] at r43
    have ht := S.tab_of q43 (by kernel_rfl) (by omega)
    refine RS.o (D.conv rfl Tryz.underlying5 Tryz.underlying3 (W.i64 (by omega))) ?_
    refine RS.o (D.add rfl rfl (W.i64 (by omega))) ?_
    refine RS.assign (v := .int _ _) rfl ?_
    refine RS.nil ?_
    refine hK42 _ _ ?_
    try clear hK42
    refine wp_ret ?_
    refine ret (rs := [.tmp 2]) (vs := [.int _ _]) (v := (.int _ _)) rfl ⟨rfl, trivial⟩ rfl ?_
    refine ⟨_, rfl, hE, _, rfl, S.len_big n _ 2 (n / 65536) v43 (by show n / 65536 = n / 65536; omega) (by omega) (by omega) (by omega) (by omega) (by omega), by omega, by omega⟩
  ·refine wp_skip ?_
   refine hK30 _ _ ?_
   try clear hK30
   refine wp_seq_k (fun K44 hK44 => ?_)
   refine wp_seq_k (fun K45 hK45 => ?_)
   refine region ?_
   refine RS.move (v := .int _ _) rfl ?_
   refine RS.o (D.ge rfl rfl) ?_
   refine RS.nil ?_
   refine hK45 _ _ ?_
   try clear hK45
   refine C.ifd rfl (fun c46 => ?_) (fun c46 => ?_)
   ·refine wp_seq_k (fun K47 hK47 => ?_)
    refine region ?_
    refine RS.move (v := .int _ _) rfl ?_
    refine RS.ob (D.shr_u64 rfl rfl (by omega) (by constructor <;> omega)) (fun z48 => ?_)
    refine RS.assign (v := .int _ _) rfl ?_
    refine RS.nil ?_
    refine hK47 _ _ ?_
    try clear hK47
    simp only [e8]
    refine region ?_
    refine RS.move (v := .int _ _) rfl ?_
    refine RS.o (D.add rfl rfl (W.i64 (by omega))) ?_
    refine RS.assign (v := .int _ _) rfl ?_
    refine RS.nil ?_
    refine hK44 _ _ ?_
    try clear hK44
    refine wp_seq_k (fun K49 hK49 => ?_)
    refine region ?_
    refine RS.move (v := .int _ _) rfl ?_
    refine RS.move (v := .int _ _) rfl ?_
    refine RS.o (D.conv rfl Tryz.underlying25 Tryz.underlying5 (W.u8 (by omega))) ?_
    refine RS.indexStr rfl rfl Tryz.underlying9 (by refine ⟨by omega, ?_⟩; show _ < ((256 : Nat) : Int); omega) (fun v50 q50 r50 => ?_)
    refine RS.norm (by dsimp only [List.set]) ?_
    simp only [lim] at r50
    have ht := S.tab_of q50 (by kernel_rfl) (by omega)
    refine RS.o (D.conv rfl Tryz.underlying5 Tryz.underlying3 (W.i64 (by omega))) ?_
    refine RS.o (D.add rfl rfl (W.i64 (by omega))) ?_
    refine RS.assign (v := .int _ _) rfl ?_
    refine RS.nil ?_
    refine hK49 _ _ ?_
    try clear hK49
    refine wp_ret ?_
    refine ret (rs := [.tmp 2]) (vs := [.int _ _]) (v := (.int _ _)) rfl ⟨rfl, trivial⟩ rfl ?_
    refine ⟨_, rfl, hE, _, rfl, S.len_big n _ 1 (n / 256) v50 (by show n / 256 = n / 256; omega) (by omega) (by omega) (by omega) (by omega) (by omega), by omega, by omega⟩
   ·refine wp_skip ?_
    refine hK44 _ _ ?_
    try clear hK44
    refine wp_seq_k (fun K51 hK51 => ?_)
    refine region ?_
    refine RS.move (v := .int _ _) rfl ?_
    refine RS.move (v := .int _ _) rfl ?_
    refine RS.o (D.conv rfl Tryz.underlying25 Tryz.underlying5 (W.u8 (by omega))) ?_
    refine RS.indexStr rfl rfl Tryz.underlying9 (by refine ⟨by omega, ?_⟩; show _ < ((256 : Nat) : Int); omega) (fun v52 q52 r52 => ?_)
    refine RS.norm (by dsimp only [List.set]) ?_
    simp only [lim] at r52
    have ht := S.tab_of q52 (by kernel_rfl) (by omega)
    refine RS.o (D.conv rfl Tryz.underlying5 Tryz.underlying3 (W.i64 (by omega))) ?_
    refine RS.o (D.add rfl rfl (W.i64 (by omega))) ?_
    refine RS.assign (v := .int _ _) rfl ?_
    refine RS.nil ?_
    refine hK51 _ _ ?_
    try clear hK51
    refine wp_ret ?_
    refine ret (rs := [.tmp 2]) (vs := [.int _ _]) (v := (.int _ _)) rfl ⟨rfl, trivial⟩ rfl ?_
    refine ⟨_, rfl, hE, _, rfl, S.len_big n _ 0 (n) v52 (by show n = n / 1; omega) (by omega) (by omega) (by omega) (by omega) (by omega), by omega, by omega⟩
theorem numW (n : Int) (hn : 0 ≤ n ∧ n < 18446744073709551616) (w : World) :
  Calls Tryz.prog 64 #[.int .u64 n] w (Ret w fun v w' => ∃ a' n' c', v = .slice a' n' c' ∧ IOwn w.heap.size w' 5 .u8 a' n' c' (S.numS n)) := by
 have hE := Ext.refl w
 refine enter (args := [.int .u64 n]) (l := [.int .u64 n, undef, undef, undef, undef, undef, undef, undef, undef, undef, undef, undef, undef, undef, undef, undef, undef, undef, undef, undef, undef, undef, undef, undef, undef, undef, undef, undef, undef, undef, undef, undef, undef, undef, undef, undef, undef, undef, undef]) Tryz.func64 rfl rfl ?_
 refine wp_seq_k (fun K1 hK1 => ?_)
 refine region ?_
 refine RS.assign (v := .slice none 0 0) rfl ?_
 refine RS.nil ?_
 refine hK1 _ _ ?_
 try clear hK1
 refine wp_seq_k (fun K2 hK2 => ?_)
 refine wp_seq_k (fun K3 hK3 => ?_)
 refine region ?_
 refine RS.move (v := .int _ _) rfl ?_
 refine RS.o (D.le rfl rfl) ?_
 refine RS.nil ?_
 refine hK3 _ _ ?_
 try clear hK3
 refine C.ifd rfl (fun c4 => ?_) (fun c4 => ?_)
 ·have hs := c4
  refine wp_seq_k (fun K5 hK5 => ?_)
  refine region ?_
  refine RS.move (v := .int _ _) rfl ?_
  refine RS.o (D.conv rfl Tryz.underlying25 Tryz.underlying5 (W.u8 (by omega))) ?_
  refine RS.buildSlice (xs := [.tmp 9]) (vs := [.int _ _]) (cs := [.int _ _]) Tryz.underlying22 T5 (by decide) rfl rfl rfl rfl rfl rfl (by intro v hv; simp only [List.mem_cons, List.not_mem_nil, or_false] at hv; subst hv; rfl) rfl (fun b6 w6 e6 s6 x6 B6 => ?_)
  refine RS.norm (by dsimp only [List.set]) ?_
  replace hE := Ext.tr hE x6
  have zw6 := x6.size
  have O1 : IOwn w.heap.size w6 5 .u8 (some ⟨b6, 0, none⟩) 1 1 [_] := IOwn.of_blk B6 rfl rfl (by omega) (.cons (by simp only [lim]; omega) (.nil _)) (by decide)
  refine RS.assign (v := .slice _ _ _) rfl ?_
  refine RS.nil ?_
  refine hK5 _ _ ?_
  try clear hK5
  refine wp_ret ?_
  refine ret (rs := [.tmp 2]) (vs := [.slice _ _ _]) (v := (.slice _ _ _)) rfl ⟨rfl, trivial⟩ rfl ?_
  rw [S.numS_small n (by omega)]
  exact ⟨_, rfl, hE, _, _, _, rfl, O1⟩
 ·have hs := c4
  refine wp_skip ?_
  refine hK2 _ _ ?_
  try clear hK2
  refine wp_seq_k (fun K7 hK7 => ?_)
  refine region ?_
  refine RS.move (v := .int _ _) rfl ?_
  refine RS.call E108 (len64 _ (by omega) _) rfl (fun v8 w8 x8 A8 => ?_)
  replace hE := Ext.tr hE x8
  have zw8 := x8.size
  obtain ⟨L, rfl, hL, hL1⟩ := A8
  have hbl := S.blen_le n
  refine RS.norm (by dsimp only [List.set]) ?_
  refine RS.o (D.add rfl rfl (W.i64 (by omega))) ?_
  refine RS.o (D.quo rfl rfl (by omega) (by omega) (W.i64 (by omega))) ?_
  refine RS.assign (v := .int _ _) rfl ?_
  refine RS.nil ?_
  refine hK7 _ _ ?_
  try clear hK7
  refine wp_seq_k (fun K9 hK9 => ?_)
  rw [hL]
  refine region ?_
  refine RS.move (v := .int _ _) rfl ?_
  refine RS.o (D.add rfl rfl (W.i64 (by omega))) ?_
  refine RS.make rfl rfl Tryz.underlying22 T5 (by omega) (by omega) (by omega) (fun b10 w10 e10 s10 x10 B10 => ?_)
  refine RS.norm (by dsimp only [List.set]) ?_
  replace hE := Ext.tr hE x10
  have zw10 := x10.size
  have emk : ((S.blen n : Int) + 1).toNat * 1 = S.blen n + 1 := by omega
  rw [emk, S.made_ints] at B10
  have O1 : IOwn w.heap.size w10 5 .u8 (some ⟨b10, 0, none⟩) ((S.blen n : Int) + 1).toNat ((S.blen n : Int) + 1).toNat (List.replicate (S.blen n + 1) 0) := IOwn.of_blk B10 rfl (by rw [List.length_replicate]; omega) (by omega) (Bd.zeros _ _) (by omega)
  refine RS.assign (v := .slice _ _ _) rfl ?_
  refine RS.nil ?_
  refine hK9 _ _ ?_
  try clear hK9
  refine wp_seq_k (fun K11 hK11 => ?_)
  refine region ?_
  refine RS.move (v := .slice _ _ _) rfl ?_
  refine RS.move (v := .int _ _) rfl ?_
  refine RS.o (D.add rfl rfl (W.i64 (by omega))) ?_
  refine RS.o (D.conv rfl Tryz.underlying3 Tryz.underlying5 (W.u8 (by omega))) ?_
  refine RS.o (D.indexAddr rfl rfl Tryz.underlying22 C5 (by decide) rfl (by omega)) ?_
  refine RS.storeI O1 rfl rfl C5 (by omega) (by simp only [lim]; omega) (fun w12 y12 N12 => ?_)
  replace hE := hE.trans (y12.below (by intros; try (first | (intro _ _) | (intro _) | skip); first | omega | (dsimp only at *; omega) | (simp_all; done) | (simp at *; omega)))
  have zw12 := y12.size
  replace O1 := N12
  refine RS.nil ?_
  refine hK11 _ _ ?_
  try clear hK11
  refine wp_seq_k (fun K13 hK13 => ?_)
  refine wp_seq_k (fun K14 hK14 => ?_)
  refine region ?_
  refine RS.move (v := .int _ _) rfl ?_
  refine RS.move (v := .int .i64 0) rfl ?_
  refine RS.nil ?_
  refine hK14 _ _ ?_
  try clear hK14
  refine wp_block ?_
  refine C.loop (A := Int) (fun p => [(24, .int .i64 p)]) [5, 25, 26, 27, 28, 29, 30, 31, 32, 33, 34, 35, 36, 37] (fun p w' => Pr (fun k => k = b10) w12 w' ∧ ((0 ≤ p ∧ p ≤ (S.blen n : Int)) ∧ IOwn w.heap.size w' 5 .u8 (some ⟨b10, 0, none⟩) ((S.blen n : Int) + 1).toNat ((S.blen n : Int) + 1).toNat (S.numP n p.toNat))) (fun p => (S.blen n - p.toNat)) 0 (by kernel_rfl) ?_ ?_
  ·refine ⟨Pr.refl _ _, ⟨by omega, by omega⟩, ?_⟩
   rw [show (0 : Int).toNat = 0 from rfl, ← S.numP_first]
   exact O1
  ·rintro p j w15 ⟨x15, hI⟩
   replace hE := hE.trans (x15.below (by intros; try (first | (intro _ _) | (intro _) | skip); first | omega | (dsimp only at *; omega) | (simp_all; done) | (simp at *; omega)) (by intros; try (first | (intro _ _) | (intro _) | skip); first | omega | (dsimp only at *; omega) | (simp_all; done) | (simp at *; omega)))
   have zw15 := x15.size
   obtain ⟨h1, O1⟩ := hI
   refine C.norm (by simp only [upd, junk, List.map_cons, List.map_nil, List.set_cons_succ, List.set_cons_zero]; exact rfl) ?_
   refine wp_seq_k (fun K16 hK16 => ?_)
   refine region ?_
   refine RS.o (D.lt rfl rfl) ?_
   refine RS.nil ?_
   refine hK16 _ _ ?_
   try clear hK16
   refine wp_seq_k (fun K17 hK17 => ?_)
   refine C.ifd rfl (fun c18 => ?_) (fun c18 => ?_)
   ·refine wp_skip ?_
    refine hK17 _ _ ?_
    try clear hK17
    refine wp_seq_k (fun K19 hK19 => ?_)
    refine wp_block ?_
    refine wp_seq_k (fun K20 hK20 => ?_)
    refine region ?_
    refine RS.move (v := .int _ _) rfl ?_
    refine RS.assign (v := .int _ _) rfl ?_
    refine RS.nil ?_
    refine hK20 _ _ ?_
    try clear hK20
    refine region ?_
    refine RS.move (v := .slice _ _ _) rfl ?_
    refine RS.move (v := .int _ _) rfl ?_
    refine RS.move (v := .int _ _) rfl ?_
    refine RS.o (D.sub rfl rfl (W.i64 (by omega))) ?_
    refine RS.move (v := .int _ _) rfl ?_
    refine RS.move (v := .int _ _) rfl ?_
    refine RS.o (D.mul rfl rfl (W.i64 (by omega))) ?_
    refine RS.ob (D.shr_u64 rfl rfl (by omega) (by constructor <;> omega)) (fun z21 => ?_)
    refine RS.o (D.conv rfl Tryz.underlying25 Tryz.underlying5 (W.u8m _)) ?_
    refine RS.o (D.indexAddr rfl rfl Tryz.underlying22 C5 (by decide) rfl (by omega)) ?_
    refine RS.storeI O1 rfl rfl C5 (by omega) (by simp only [lim]; omega) (fun w22 y22 N22 => ?_)
    replace hE := hE.trans (y22.below (by intros; try (first | (intro _ _) | (intro _) | skip); first | omega | (dsimp only at *; omega) | (simp_all; done) | (simp at *; omega)))
    replace x15 := x15.stn y22 (by intros; try (first | (intro _ _) | (intro _) | skip); first | omega | (dsimp only at *; omega) | (simp_all; done) | (simp at *; omega))
    have zw22 := y22.size
    replace O1 := N22
    refine RS.nil ?_
    refine hK19 _ _ ?_
    try clear hK19
    refine region ?_
    refine RS.o (D.add rfl rfl (W.i64 (by omega))) ?_
    refine RS.move (v := .int _ _) rfl ?_
    refine RS.nil ?_
    change Nx _ _ _ _ _ _ _ _
    refine C.next (p + 1) ⟨rfl, trivial⟩ (by kernel_rfl) ?_ ?_
    ·refine ⟨x15, ⟨by omega, by omega⟩, ?_⟩
     rw [show (p + 1).toNat = p.toNat + 1 by omega, ← S.numP_step n p.toNat (by omega)]
     rw [show S.blen n - p.toNat = ((S.blen n : Int) - p).toNat by omega, show 8 * p.toNat = (8 * p).toNat by omega]
     exact O1
    ·omega
   ·refine wp_exit ?_
    refine hK13 _ _ ?_
    try clear hK13
    refine wp_seq_k (fun K23 hK23 => ?_)
    refine region ?_
    refine RS.move (v := .slice _ _ _) rfl ?_
    refine RS.assign (v := .slice _ _ _) rfl ?_
    refine RS.nil ?_
    refine hK23 _ _ ?_
    try clear hK23
    refine wp_ret ?_
    refine ret (rs := [.tmp 2]) (vs := [.slice _ _ _]) (v := (.slice _ _ _)) rfl ⟨rfl, trivial⟩ rfl ?_
    rw [show p.toNat = S.blen n by omega, S.numP_all n (by omega)] at O1
    exact ⟨_, rfl, hE, _, _, _, rfl, O1⟩
theorem numR (n : Int) (hn : 0 ≤ n ∧ n < 18446744073709551616) (w : World) :
  Calls Tryz.prog 84 #[.int .u64 n] w (Ret w fun v w' => ∃ a' n' c', v = .slice a' n' c' ∧ IOwn w.heap.size w' 5 .u8 a' n' c' (S.numS n)) := by
 have hE := Ext.refl w
 refine enter (args := [.int .u64 n]) (l := [.int .u64 n, undef, undef, undef, undef, undef, undef, undef, undef, undef, undef, undef, undef, undef, undef, undef, undef, undef, undef, undef, undef, undef, undef, undef, undef, undef, undef, undef, undef, undef, undef, undef, undef, undef, undef, undef, undef, undef, undef, undef, undef]) Tryz.func84 rfl rfl ?_
 refine wp_seq_k (fun K1 hK1 => ?_)
 refine region ?_
 refine RS.assign (v := .slice none 0 0) rfl ?_
 refine RS.nil ?_
 refine hK1 _ _ ?_
 try clear hK1
 refine wp_seq_k (fun K2 hK2 => ?_)
 refine wp_seq_k (fun K3 hK3 => ?_)
 refine region ?_
 refine RS.move (v := .int _ _) rfl ?_
 refine RS.o (D.le rfl rfl) ?_
 refine RS.nil ?_
 refine hK3 _ _ ?_
 try clear hK3
 refine C.ifd rfl (fun c4 => ?_) (fun c4 => ?_)
 ·have hs := c4
  refine wp_seq_k (fun K5 hK5 => ?_)
  refine region ?_
  refine RS.move (v := .int _ _) rfl ?_
  refine RS.o (D.conv rfl Tryz.underlying25 Tryz.underlying5 (W.u8 (by omega))) ?_
  refine RS.buildSlice (xs := [.tmp 9]) (vs := [.int _ _]) (cs := [.int _ _]) Tryz.underlying22 T5 (by decide) rfl rfl rfl rfl rfl rfl (by intro v hv; simp only [List.mem_cons, List.not_mem_nil, or_false] at hv; subst hv; rfl) rfl (fun b6 w6 e6 s6 x6 B6 => ?_)
  refine RS.norm (by dsimp only [List.set]) ?_
  replace hE := Ext.tr hE x6
  have zw6 := x6.size
  have O1 : IOwn w.heap.size w6 5 .u8 (some ⟨b6, 0, none⟩) 1 1 [_] := IOwn.of_blk B6 rfl rfl (by omega) (.cons (by simp only [lim]; omega) (.nil _)) (by decide)
  refine RS.assign (v := .slice _ _ _) rfl ?_
  refine RS.nil ?_
  refine hK5 _ _ ?_
  try clear hK5
  refine wp_ret ?_
  refine ret (rs := [.tmp 2]) (vs := [.slice _ _ _]) (v := (.slice _ _ _)) rfl ⟨rfl, trivial⟩ rfl ?_
  rw [S.numS_small n (by omega)]
  exact ⟨_, rfl, hE, _, _, _, rfl, O1⟩
 ·have hs := c4
  refine wp_skip ?_
  refine hK2 _ _ ?_
  try clear hK2
  refine wp_seq_k (fun K7 hK7 => ?_)
  refine region ?_
  refine RS.assign (v := .slice none 0 0) rfl ?_
  refine RS.nil ?_
  refine hK7 _ _ ?_
  try clear hK7
  refine wp_seq_k (fun K8 hK8 => ?_)
  refine wp_block ?_
  refine C.loop (A := Int × Option Addr × Nat × Nat × List Int) (fun p => [(0, .int .u64 p.1), (3, .slice p.2.1 p.2.2.1 p.2.2.2.1)]) [11, 12, 13, 14, 15, 16, 17, 18, 19, 20] (fun p w' => Pr (fun k => w.heap.size ≤ k) w w' ∧ ((0 ≤ p.1 ∧ p.1 < 18446744073709551616) ∧ p.2.2.1 ≤ 8 ∧ p.2.2.2.2 ++ S.leK (S.blen p.1) p.1 = S.leK (S.blen n) n ∧ IOwn w.heap.size w' 5 .u8 p.2.1 p.2.2.1 p.2.2.2.1 p.2.2.2.2)) (fun p => p.1.toNat) (n, none, 0, 0, []) (by kernel_rfl) ?_ ?_
  ·exact ⟨Pr.refl _ _, hn, by dsimp only; omega, rfl, IOwn.nil _ _ _ _⟩
  ·rintro p j w9 ⟨x9, hI⟩
   replace hE := hE.trans (x9.below (by intros; try (first | (intro _ _) | (intro _) | skip); first | omega | (dsimp only at *; omega) | (simp_all; done) | (simp at *; omega)) (by intros; try (first | (intro _ _) | (intro _) | skip); first | omega | (dsimp only at *; omega) | (simp_all; done) | (simp at *; omega)))
   have zw9 := x9.size
   obtain ⟨m, ao, no, co, ds⟩ := p
   dsimp only at hI
   obtain ⟨h1, hn8, h2, O1⟩ := hI
   have hdl := O1.len
   refine C.norm (by simp only [upd, junk, List.map_cons, List.map_nil, List.set_cons_succ, List.set_cons_zero]; exact rfl) ?_
   refine wp_seq_k (fun K10 hK10 => ?_)
   refine wp_seq_k (fun K11 hK11 => ?_)
   refine region ?_
   refine RS.move (v := .int _ _) rfl ?_
   refine RS.o (D.gt rfl rfl) ?_
   refine RS.nil ?_
   refine hK11 _ _ ?_
   try clear hK11
   refine C.ifd rfl (fun c12 => ?_) (fun c12 => ?_)
   ·refine wp_skip ?_
    refine hK10 _ _ ?_
    try clear hK10
    refine wp_block ?_
    refine wp_seq_k (fun K13 hK13 => ?_)
    refine region ?_
    refine RS.move (v := .slice _ _ _) rfl ?_
    refine RS.move (v := .int _ _) rfl ?_
    refine RS.o (D.rem rfl rfl (by omega) (by omega)) ?_
    refine RS.o (D.conv rfl Tryz.underlying25 Tryz.underlying5 (W.u8 (by omega))) ?_
    refine RS.buildSlice (xs := [.tmp 16]) (vs := [.int _ _]) (cs := [.int _ _]) Tryz.underlying22 T5 (by decide) rfl rfl rfl rfl rfl rfl (by intro v hv; simp only [List.mem_cons, List.not_mem_nil, or_false] at hv; subst hv; rfl) rfl (fun b14 w14 e14 s14 x14 B14 => ?_)
    refine RS.norm (by dsimp only [List.set]) ?_
    replace hE := Ext.tr hE x14
    replace x9 := x9.ext x14
    replace O1 := O1.ext x14
    have zw14 := x14.size
    have Q1 : IRow .u8 (fun k => k = b14) w14 (some ⟨b14, 0, none⟩) 1 [_] := IRow.of_blk B14 rfl rfl rfl (.cons (by simp only [lim]; omega) (.nil _))
    refine RS.appendI O1 Q1 rfl rfl Tryz.underlying22 T5 rfl (by omega) (by decide) (by omega) (fun a15 c15 w15 N15 x15 => ?_)
    refine RS.norm (by dsimp only [List.set]) ?_
    replace hE := hE.trans (x15.below (by intros; try (first | (intro _ _) | (intro _) | skip); first | omega | (have hq := O1.lo _ (by assumption); first | omega | (dsimp only at *; omega))) (by intros; try (first | (intro _ _) | (intro _) | skip); first | omega | (dsimp only at *; omega) | (simp_all; done) | (simp at *; omega)))
    replace x9 := x9.prn x15 (by intros; try (first | (intro _ _) | (intro _) | skip); first | omega | (have hq := O1.lo _ (by assumption); first | omega | (dsimp only at *; omega)))
    have zw15 := x15.size
    replace O1 := N15
    refine RS.assign (v := .slice _ _ _) rfl ?_
    refine RS.nil ?_
    refine hK13 _ _ ?_
    try clear hK13
    refine region ?_
    refine RS.move (v := .int _ _) rfl ?_
    refine RS.o (D.quo rfl rfl (by omega) (by omega) (by first | exact W.u64 (by omega) | exact W.u64m _)) ?_
    refine RS.assign (v := .int _ _) rfl ?_
    refine RS.nil ?_
    change Nx _ _ _ _ _ _ _ _
    refine C.next (m / 256, a15, no + 1, c15, ds ++ [m % 256]) ⟨rfl, rfl, trivial⟩ (by kernel_rfl) ?_ ?_
    ·have h2b := congrArg List.length h2
     rw [S.leK_step m (by omega) (by omega)] at h2 h2b
     rw [List.length_append, List.length_cons, S.leK_len, S.leK_len] at h2b
     have hb8 := S.blen_le n
     refine ⟨x9, ⟨by dsimp only; omega, by dsimp only; omega⟩, by dsimp only; omega, ?_, O1⟩
     dsimp only
     rw [List.append_assoc]
     exact h2
    ·dsimp only; omega
   ·have hz : m = 0 := by omega
    rw [hz, S.blen_zero] at h2
    have h3 : ds = S.leK (S.blen n) n := by rw [← h2]; exact (List.append_nil ds).symm
    rw [h3] at O1
    have hol := O1.len
    rw [S.leK_len] at hol
    have hbl := S.blen_le n
    refine wp_exit ?_
    refine hK8 _ _ ?_
    try clear hK8
    refine wp_seq_k (fun K16 hK16 => ?_)
    have R1 := O1.row.weaken (T := fun k => k < w9.heap.size) (fun k hk _ => hk)
    subst hol
    refine region ?_
    refine RS.move (v := .slice _ _ _) rfl ?_
    refine RS.o (D.len rfl Tryz.underlying22) ?_
    refine RS.o (D.add rfl rfl (W.i64 (by omega))) ?_
    refine RS.o (D.conv rfl Tryz.underlying3 Tryz.underlying5 (W.u8 (by omega))) ?_
    refine RS.buildSlice (xs := [.tmp 24]) (vs := [.int _ _]) (cs := [.int _ _]) Tryz.underlying22 T5 (by decide) rfl rfl rfl rfl rfl rfl (by intro v hv; simp only [List.mem_cons, List.not_mem_nil, or_false] at hv; subst hv; rfl) rfl (fun b17 w17 e17 s17 x17 B17 => ?_)
    refine RS.norm (by dsimp only [List.set]) ?_
    replace hE := Ext.tr hE x17
    replace R1 := R1.ext x17
    have zw17 := x17.size
    have O2 : IOwn w9.heap.size w17 5 .u8 (some ⟨b17, 0, none⟩) 1 1 [_] := IOwn.of_blk B17 rfl rfl (by omega) (.cons (by simp only [lim]; omega) (.nil _)) (by decide)
    refine RS.assign (v := .slice _ _ _) rfl ?_
    refine RS.nil ?_
    refine hK16 _ _ ?_
    try clear hK16
    refine wp_seq_k (fun K18 hK18 => ?_)
    refine wp_seq_k (fun K19 hK19 => ?_)
    refine region ?_
    refine RS.move (v := .slice _ _ _) rfl ?_
    refine RS.o (D.len rfl Tryz.underlying22) ?_
    refine RS.o (D.sub rfl rfl (W.i64 (by omega))) ?_
    refine RS.assign (v := .int _ _) rfl ?_
    refine RS.nil ?_
    refine hK19 _ _ ?_
    try clear hK19
    refine wp_block ?_
    refine C.loop (A := Int × Option Addr × Nat × Nat) (fun p => [(4, .slice p.2.1 p.2.2.1 p.2.2.2), (5, .int .i64 p.1)]) [29, 30, 31, 32, 33, 34, 35, 36, 37, 38, 39] (fun p w' => Pr (fun k => w9.heap.size ≤ k) w17 w' ∧ ((-1 ≤ p.1 ∧ p.1 < (S.blen n : Int)) ∧ IOwn w9.heap.size w' 5 .u8 p.2.1 p.2.2.1 p.2.2.2 ((247 + (S.blen n : Int)) :: ((S.leK (S.blen n) n).drop (p.1 + 1).toNat).reverse))) (fun p => (p.1 + 1).toNat) ((S.blen n : Int) - 1, some ⟨b17, 0, none⟩, 1, 1) (by kernel_rfl) ?_ ?_
    ·refine ⟨Pr.refl _ _, ⟨by dsimp only; omega, by dsimp only; omega⟩, ?_⟩
     dsimp only
     rw [List.drop_eq_nil_of_le (by rw [S.leK_len]; omega)]
     exact O2
    ·rintro p j w20 ⟨x20, hI⟩
     replace hE := hE.trans (x20.below (by intros; try (first | (intro _ _) | (intro _) | skip); first | omega | (dsimp only at *; omega) | (simp_all; done) | (simp at *; omega)) (by intros; try (first | (intro _ _) | (intro _) | skip); first | omega | (dsimp only at *; omega) | (simp_all; done) | (simp at *; omega)))
     replace R1 := R1.pr x20 (by intros; try (first | (intro _ _) | (intro _) | skip); first | omega | (dsimp only at *; omega) | (simp_all; done) | (simp at *; omega))
     have zw20 := x20.size
     obtain ⟨i, a2, n2, c2⟩ := p
     dsimp only at hI
     obtain ⟨g1, O2⟩ := hI
     have hol2 := O2.len
     rw [List.length_cons, List.length_reverse, List.length_drop, S.leK_len] at hol2
     refine C.norm (by simp only [upd, junk, List.map_cons, List.map_nil, List.set_cons_succ, List.set_cons_zero]; exact rfl) ?_
     refine wp_seq_k (fun K21 hK21 => ?_)
     refine wp_seq_k (fun K22 hK22 => ?_)
     refine region ?_
     refine RS.move (v := .int _ _) rfl ?_
     refine RS.o (D.ge rfl rfl) ?_
     refine RS.nil ?_
     refine hK22 _ _ ?_
     try clear hK22
     refine C.ifd rfl (fun c23 => ?_) (fun c23 => ?_)
     ·refine wp_skip ?_
      refine hK21 _ _ ?_
      try clear hK21
      refine wp_seq_k (fun K24 hK24 => ?_)
      refine wp_block ?_
      refine region ?_
      refine RS.move (v := .slice _ _ _) rfl ?_
      refine RS.move (v := .slice _ _ _) rfl ?_
      refine RS.move (v := .int _ _) rfl ?_
      refine RS.idx R1 rfl rfl Tryz.underlying22 C5 (by omega) (fun b25 o25 v25 h25 q25 r25 => ?_)
      refine RS.norm (by dsimp only [List.set]) ?_
      simp only [lim] at r25
      have qd := q25
      refine RS.o (D.load rfl Tryz.underlying5 rfl (h25)) ?_
      refine RS.buildSlice (xs := [.tmp 37]) (vs := [.int _ _]) (cs := [.int _ _]) Tryz.underlying22 T5 (by decide) rfl rfl rfl rfl rfl rfl (by intro v hv; simp only [List.mem_cons, List.not_mem_nil, or_false] at hv; subst hv; rfl) rfl (fun b26 w26 e26 s26 x26 B26 => ?_)
      refine RS.norm (by dsimp only [List.set]) ?_
      replace hE := Ext.tr hE x26
      replace x20 := x20.ext x26
      replace R1 := R1.ext x26
      replace O2 := O2.ext x26
      have zw26 := x26.size
      have Q1 : IRow .u8 (fun k => k = b26) w26 (some ⟨b26, 0, none⟩) 1 [_] := IRow.of_blk B26 rfl rfl rfl (.cons (by simp only [lim]; omega) (.nil _))
      refine RS.appendI O2 Q1 rfl rfl Tryz.underlying22 T5 rfl (by omega) (by decide) (by omega) (fun a27 c27 w27 N27 x27 => ?_)
      refine RS.norm (by dsimp only [List.set]) ?_
      replace hE := hE.trans (x27.below (by intros; try (first | (intro _ _) | (intro _) | skip); first | omega | (have hq := O2.lo _ (by assumption); first | omega | (dsimp only at *; omega))) (by intros; try (first | (intro _ _) | (intro _) | skip); first | omega | (dsimp only at *; omega) | (simp_all; done) | (simp at *; omega)))
      replace x20 := x20.prn x27 (by intros; try (first | (intro _ _) | (intro _) | skip); first | omega | (have hq := O2.lo _ (by assumption); first | omega | (dsimp only at *; omega)))
      replace R1 := R1.pr x27 (by intros; try (first | (intro _ _) | (intro _) | skip); first | omega | (have hq := O2.lo _ (by assumption); first | omega | (dsimp only at *; omega)))
      have zw27 := x27.size
      replace O2 := N27
      refine RS.assign (v := .slice _ _ _) rfl ?_
      refine RS.nil ?_
      refine hK24 _ _ ?_
      try clear hK24
      refine region ?_
      refine RS.move (v := .int _ _) rfl ?_
      refine RS.o (D.sub rfl rfl (W.i64 (by omega))) ?_
      refine RS.assign (v := .int _ _) rfl ?_
      refine RS.nil ?_
      change Nx _ _ _ _ _ _ _ _
      refine C.next (i - 1, _, _, _) ⟨rfl, rfl, trivial⟩ (by kernel_rfl) ?_ ?_
      ·refine ⟨x20, ⟨by dsimp only; omega, by dsimp only; omega⟩, ?_⟩
       dsimp only
       have ed : (S.leK (S.blen n) n).drop (i - 1 + 1).toNat = v25 :: (S.leK (S.blen n) n).drop (i + 1).toNat := by rw [show (i - 1 + 1).toNat = i.toNat by omega, List.drop_eq_getElem_cons (by rw [S.leK_len]; omega), show i.toNat + 1 = (i + 1).toNat by omega, qd, List.getD_eq_getElem?_getD, List.getElem?_eq_getElem (by rw [S.leK_len]; omega)]; rfl
       rw [ed, List.reverse_cons]
       exact O2
      ·dsimp only; omega
     ·refine wp_exit ?_
      refine hK18 _ _ ?_
      try clear hK18
      refine wp_seq_k (fun K28 hK28 => ?_)
      refine region ?_
      refine RS.move (v := .slice _ _ _) rfl ?_
      refine RS.assign (v := .slice _ _ _) rfl ?_
      refine RS.nil ?_
      refine hK28 _ _ ?_
      try clear hK28
      refine wp_ret ?_
      refine ret (rs := [.tmp 2]) (vs := [.slice _ _ _]) (v := (.slice _ _ _)) rfl ⟨rfl, trivial⟩ rfl ?_
      rw [show i = -1 by omega, show ((-1 : Int) + 1).toNat = 0 from rfl, List.drop_zero, ← S.numS_large n (by omega)] at O2
      exact ⟨_, rfl, hE, _, _, _, rfl, O2.base (fun k hk => by have := O2.lo k hk; omega)⟩
theorem bytesW {S0 : Nat → Prop} (a : Option Addr) (n c : Nat) (xs : List Int) (w : World) (R0 : IRow .u8 S0 w a n xs) (hn : n ≤ 10000) :
  Calls Tryz.prog 91 #[.slice a n c] w (Ret w fun v w' => ∃ a' n' c', v = .tuple #[.slice a' n' c', .int .i64 0] ∧ IOwn w.heap.size w' 5 .u8 a' n' c' (S.numS n ++ xs)) := by
 replace R0 := R0.weaken (T := fun k => k < w.heap.size) (fun k hk _ => hk)
 have hE := Ext.refl w
 refine enter (args := [.slice a n c]) (l := [.slice a n c, undef, undef, undef, undef, undef, undef, undef, undef, undef, undef, undef, undef]) Tryz.func91 rfl rfl ?_
 refine wp_seq_k (fun K1 hK1 => ?_)
 refine region ?_
 refine RS.assign (v := .slice none 0 0) rfl ?_
 refine RS.assign (v := .int .i64 0) rfl ?_
 refine RS.nil ?_
 refine hK1 _ _ ?_
 try clear hK1
 refine wp_seq_k (fun K2 hK2 => ?_)
 refine wp_seq_k (fun K3 hK3 => ?_)
 refine region ?_
 refine RS.move (v := .slice _ _ _) rfl ?_
 refine RS.o (D.len rfl Tryz.underlying22) ?_
 refine RS.o (D.gt rfl rfl) ?_
 refine RS.nil ?_
 refine hK3 _ _ ?_
 try clear hK3
 refine C.ifd rfl (fun c4 => ?_) (fun c4 => ?_)
 ·exact absurd c4 (by omega)
 ·refine wp_skip ?_
  refine hK2 _ _ ?_
  try clear hK2
  refine wp_seq_k (fun K5 hK5 => ?_)
  refine region ?_
  refine RS.move (v := .slice _ _ _) rfl ?_
  refine RS.o (D.len rfl Tryz.underlying22) ?_
  refine RS.o (D.conv rfl Tryz.underlying3 Tryz.underlying25 (W.u64 (by omega))) ?_
  refine RS.call E64 (numW _ (by omega) _) rfl (fun v6 w6 x6 A6 => ?_)
  replace hE := Ext.tr hE x6
  replace R0 := R0.ext x6
  have zw6 := x6.size
  obtain ⟨a6, n6, c6, rfl, O1⟩ := A6
  have hnl := S.numS_len (n : Int)
  have hol := O1.len
  refine RS.norm (by dsimp only [List.set]) ?_
  refine RS.move (v := .slice _ _ _) rfl ?_
  refine RS.appendI O1 R0 rfl rfl Tryz.underlying22 T5 rfl (by omega) (by decide) (by omega) (fun a7 c7 w7 N7 x7 => ?_)
  refine RS.norm (by dsimp only [List.set]) ?_
  replace hE := hE.trans (x7.below (by intros; try (first | (intro _ _) | (intro _) | skip); first | omega | (have hq := O1.lo _ (by assumption); first | omega | (dsimp only at *; omega))) (by intros; try (first | (intro _ _) | (intro _) | skip); first | omega | (dsimp only at *; omega) | (simp_all; done) | (simp at *; omega)))
  replace R0 := R0.pr x7 (by intros; try (first | (intro _ _) | (intro _) | skip); first | omega | (have hq := O1.lo _ (by assumption); first | omega | (dsimp only at *; omega)))
  have zw7 := x7.size
  replace O1 := N7
  refine RS.assign (v := .slice _ _ _) rfl ?_
  refine RS.assign (v := .int .i64 0) rfl ?_
  refine RS.nil ?_
  refine hK5 _ _ ?_
  try clear hK5
  refine wp_ret ?_
  refine ret (rs := [.tmp 2, .tmp 3]) (vs := [.slice _ _ _, .int _ _]) (v := (.tuple #[.slice _ _ _, .int _ _])) rfl ⟨rfl, rfl, trivial⟩ rfl ?_
  exact ⟨_, rfl, hE, _, _, _, rfl, O1⟩
theorem signedW (n : Int) (hn : -9223372036854775808 ≤ n ∧ n ≤ 9223372036854775807) (w : World) :
  Calls Tryz.prog 134 #[.int .i64 n] w (Ret w fun v w' => ∃ a' n' c', v = .slice a' n' c' ∧ IOwn w.heap.size w' 5 .u8 a' n' c' (S.numS (S.zig n))) := by
 have hz := S.zig_bd n hn
 have hze := S.zig_eq n hn
 have hE := Ext.refl w
 refine enter (args := [.int .i64 n]) (l := [.int .i64 n, undef, undef, undef, undef, undef, undef, undef, undef, undef, undef]) Tryz.func134 rfl rfl ?_
 refine wp_seq_k (fun K1 hK1 => ?_)
 refine region ?_
 refine RS.assign (v := .slice none 0 0) rfl ?_
 refine RS.nil ?_
 refine hK1 _ _ ?_
 try clear hK1
 refine wp_seq_k (fun K2 hK2 => ?_)
 refine region ?_
 refine RS.move (v := .int _ _) rfl ?_
 refine RS.o (D.conv rfl Tryz.underlying2 Tryz.underlying25 (W.u64m _)) ?_
 refine RS.o (D.shl rfl rfl (by constructor <;> (try simp only [IntKind.bits]) <;> omega) (W.u64m _)) ?_
 refine RS.move (v := .int _ _) rfl ?_
 refine RS.o (D.shr rfl rfl (by constructor <;> (try simp only [IntKind.bits]) <;> omega)) ?_
 refine RS.o (D.conv rfl Tryz.underlying2 Tryz.underlying25 (W.u64m _)) ?_
 refine RS.ob (D.bxor_u64 rfl rfl (by omega) (by omega)) (fun z3 => ?_)
 rw [hze]
 refine RS.call E64 (numW _ (by omega) _) rfl (fun v4 w4 x4 A4 => ?_)
 replace hE := Ext.tr hE x4
 have zw4 := x4.size
 obtain ⟨a4, n4, c4, rfl, O1⟩ := A4
 refine RS.norm (by dsimp only [List.set]) ?_
 refine RS.assign (v := .slice _ _ _) rfl ?_
 refine RS.nil ?_
 refine hK2 _ _ ?_
 try clear hK2
 refine wp_ret ?_
 refine ret (rs := [.tmp 2]) (vs := [.slice _ _ _]) (v := (.slice _ _ _)) rfl ⟨rfl, trivial⟩ rfl ?_
 exact ⟨_, rfl, hE, _, _, _, rfl, O1⟩
end Go.Proofs.YtiohpiiiapjblaaGreatDoor.W
namespace Go.Proofs.YtiohpiiiapjblaaGreatDoor.W
open Go.RowKit Go.Proofs.YtiohpiiiapjblaaGreatDoor.G
set_option linter.unusedVariables false
set_option maxRecDepth 20000
set_option maxHeartbeats 8000000
attribute [local irreducible] RS RX
theorem T3 : TI Tryz.prog 3 1 8 [.int .i64 0] := by
 have h : (Tryz.prog.info? 3).map (fun i => (i.size, i.bytes, i.zero)) = some (1, 8, some (.int .i64 0)) := by kernel_rfl
 exact TI.of h rfl
theorem E80 : Enters Tryz.prog 80 := .mk Tryz.func80 (by kernel_rfl) rfl
theorem E125 : Enters Tryz.prog 125 := .mk Tryz.func125 (by kernel_rfl) rfl
theorem E126 : Enters Tryz.prog 126 := .mk Tryz.func126 (by kernel_rfl) rfl
theorem E147 : Enters Tryz.prog 147 := .mk Tryz.func147 (by kernel_rfl) rfl
theorem risingC (xs : List Int) (X : Arr .u8 32 xs) (v : Int) (a : Option Addr) (n c : Nat) (ids : List Int) (bA bB : Nat) (TA TB : TypeId) (w : World) (BA : Blk w bA [.int .i64 v] TA) (BB : Blk w bB [.slice a n c] TB) (D0 : WRow .u8 32 (fun k => k < bA) w a n ids) (hne : bB < bA) (hc : n ≤ c) (hn : n ≤ 1000) (hv : 0 ≤ v ∧ v < n) :
  Calls Tryz.prog 126 #[.agg (ints .u8 xs).toArray, .pointer (some ⟨bA, 0, none⟩), .pointer (some ⟨bB, 0, none⟩)] w (fun e w' => ∃ r, e = .returned (.bool r) ∧ Pr (fun k => k = bA) w w' ∧ Blk w' bA [.int .i64 (v + 1)] TA ∧ (r = true ↔ (v + 1 < n ∧ 0 ≤ S.cmpS (S.idAt ids v.toNat) (S.idAt ids (v + 1).toNat)))) := by
 have hlt := BA.lt
 have hlt2 := BB.lt
 have hE := Pr.refl (fun k => k = bA) w
 refine enter (args := [.agg (ints .u8 xs).toArray, .pointer (some ⟨bA, 0, none⟩), .pointer (some ⟨bB, 0, none⟩)]) (l := [.agg (ints .u8 xs).toArray, .pointer (some ⟨bA, 0, none⟩), .pointer (some ⟨bB, 0, none⟩), undef, undef, undef, undef, undef, undef, undef, undef, undef, undef, undef, undef, undef, undef, undef, undef, undef, undef, undef, undef, undef]) Tryz.func126 rfl rfl ?_
 refine wp_seq_k (fun K1 hK1 => ?_)
 refine region ?_
 refine RS.box rfl rfl (fun b2 w2 e2 s2 x2 B2 => ?_)
 refine RS.norm (by dsimp only [List.set]) ?_
 replace hE := hE.ext x2
 replace BA := BA.ext x2
 replace BB := BB.ext x2
 replace D0 := D0.ext x2
 have zw2 := x2.size
 have A2 := IArr.ofA (n := 32) B2 X
 clear B2
 refine RS.assign (v := .bool false) rfl ?_
 refine RS.nil ?_
 refine hK1 _ _ ?_
 try clear hK1
 refine wp_seq_k (fun K3 hK3 => ?_)
 refine region ?_
 refine RS.o (D.load rfl Tryz.underlying3 rfl (BA.cell rfl)) ?_
 refine RS.o (D.add rfl rfl (W.i64 (by omega))) ?_
 refine RS.store rfl (v := .int _ _) rfl C3 rfl BA rfl (fun w4 y4 N4 => ?_)
 replace hE := hE.stn y4 (by intros; try (first | (intro _ _) | (intro _) | skip); first | omega | (dsimp only at *; omega) | (simp_all; done) | (simp at *; omega))
 replace BB := BB.st y4 (by intros; try (first | (intro _ _) | (intro _) | skip); first | omega | (dsimp only at *; omega) | (simp_all; done) | (simp at *; omega))
 replace D0 := D0.st y4 (by intros; try (first | (intro _ _) | (intro _) | skip); first | omega | (dsimp only at *; omega) | (simp_all; done) | (simp at *; omega))
 replace A2 := A2.st y4 (by intros; try (first | (intro _ _) | (intro _) | skip); first | omega | (dsimp only at *; omega) | (simp_all; done) | (simp at *; omega))
 have zw4 := y4.size
 replace BA := N4
 refine RS.nil ?_
 refine hK3 _ _ ?_
 try clear hK3
 refine wp_seq_k (fun K5 hK5 => ?_)
 refine regionX Ext [(0, .q), (1, .q), (2, .q), (3, .q), (4, .q), (5, .q), (6, .q), (7, .q), (8, .q), (9, .q), (10, .q), (11, .q), (12, .q), (13, .q), (14, .e), (15, .q), (16, .q), (17, .q)] mixed Ext.refl (fun h k => h.tr k) (by kernel_rfl) (fun w6 x6 => ?_)
 replace hE := hE.ext x6
 replace BA := BA.ext x6
 replace BB := BB.ext x6
 replace D0 := D0.ext x6
 replace A2 := A2.ext x6
 have zw6 := x6.size
 refine RX.o (fun w' hw => D.load rfl Tryz.underlying3 rfl ((BA.ext hw).cell rfl)) ?_
 refine RX.o (fun w' hw => D.load rfl Tryz.underlying24 rfl ((BB.ext hw).cell rfl)) ?_
 refine RX.o (fun w' hw => D.len rfl Tryz.underlying24) ?_
 refine RX.o (fun w' hw => D.lt rfl rfl) ?_
 refine RX.move (v := .bool _) rfl ?_
 refine RX.splitd 11 rfl rfl (fun c7 => ?_) (fun c7 => ?_)
 ·refine RX.norm (by dsimp only [List.set]) ?_
  refine RX.wantB 11 rfl rfl rfl ?_
  refine RX.o (fun w' hw => D.load rfl Tryz.underlying24 rfl ((BB.ext hw).cell rfl)) ?_
  refine RX.wantB 11 rfl rfl rfl ?_
  refine RX.o (fun w' hw => D.load rfl Tryz.underlying3 rfl ((BA.ext hw).cell rfl)) ?_
  refine RX.wantB 11 rfl rfl rfl ?_
  refine RX.o (fun w' hw => D.sub rfl rfl (W.i64 (by omega))) ?_
  refine RX.wantB 11 rfl rfl rfl ?_
  refine RX.idxW (fun _ h => h) D0 rfl rfl Tryz.underlying24 C35 (by decide) (by omega) (fun b8 o8 h8 q8 r8 => ?_)
  refine RX.norm (by dsimp only [List.set]) ?_
  have r1 := r8
  refine RX.wantB 11 rfl rfl rfl ?_
  refine RX.o (fun w' hw => D.loadW rfl Tryz.underlying35 rfl C35 (by decide) r8 (h8 w' hw)) ?_
  refine RX.wantB 11 rfl rfl rfl ?_
  refine RX.o (fun w' hw => D.load rfl Tryz.underlying24 rfl ((BB.ext hw).cell rfl)) ?_
  refine RX.wantB 11 rfl rfl rfl ?_
  refine RX.o (fun w' hw => D.load rfl Tryz.underlying3 rfl ((BA.ext hw).cell rfl)) ?_
  refine RX.wantB 11 rfl rfl rfl ?_
  refine RX.idxW (fun _ h => h) D0 rfl rfl Tryz.underlying24 C35 (by decide) (by omega) (fun b9 o9 h9 q9 r9 => ?_)
  refine RX.norm (by dsimp only [List.set]) ?_
  have r2 := r9
  refine RX.wantB 11 rfl rfl rfl ?_
  refine RX.o (fun w' hw => D.loadW rfl Tryz.underlying35 rfl C35 (by decide) r9 (h9 w' hw)) ?_
  refine RX.wantB 11 rfl rfl rfl ?_
  refine RX.eff ?_
  refine RS.call E80 (dcmp _ _ r1 r2 _) rfl (fun v10 w10 x10 A10 => ?_)
  replace hE := hE.ext x10
  replace BA := BA.ext x10
  replace BB := BB.ext x10
  replace D0 := D0.ext x10
  replace A2 := A2.ext x10
  have zw10 := x10.size
  subst A10
  refine RS.norm (by dsimp only [List.set]) ?_
  refine RS.nil ⟨x10, ?_⟩
  refine RX.wantB 11 rfl rfl rfl ?_
  refine RX.o (fun w' hw => D.ge rfl rfl) ?_
  refine RX.pick (v := .bool _) rfl rfl ?_
  refine RX.assign (v := .bool _) rfl ?_
  refine RX.nil ?_
  refine hK5 _ _ ?_
  try clear hK5
  refine wp_ret ?_
  change bodyPost Tryz.prog Tryz.f126 (fun e w' => ∃ r, e = .returned (.bool r) ∧ Pr (fun k => k = bA) w w' ∧ Blk w' bA [.int .i64 (v + 1)] TA ∧ (r = true ↔ (v + 1 < n ∧ 0 ≤ S.cmpS (S.idAt ids v.toNat) (S.idAt ids (v + 1).toNat)))) .ret _ _
  refine ret (rs := [.tmp 4]) (vs := [.bool _]) (v := (.bool _)) rfl ⟨rfl, trivial⟩ rfl ?_
  refine ⟨_, rfl, hE, BA, ?_⟩
  rw [decide_eq_true_iff, show v + 1 - 1 = v by omega]
  exact ⟨fun h => ⟨by omega, h⟩, fun h => h.2⟩
 ·refine RX.norm (by dsimp only [List.set]) ?_
  refine RX.skipB (b := false) 11 rfl rfl rfl rfl ?_
  refine RX.norm (by dsimp only [putL, List.set]) ?_
  refine RX.skipB (b := false) 11 rfl rfl rfl rfl ?_
  refine RX.norm (by dsimp only [putL, List.set]) ?_
  refine RX.skipB (b := false) 11 rfl rfl rfl rfl ?_
  refine RX.norm (by dsimp only [putL, List.set]) ?_
  refine RX.skipB (b := false) 11 rfl rfl rfl rfl ?_
  refine RX.norm (by dsimp only [putL, List.set]) ?_
  refine RX.skipB (b := false) 11 rfl rfl rfl rfl ?_
  refine RX.norm (by dsimp only [putL, List.set]) ?_
  refine RX.skipB (b := false) 11 rfl rfl rfl rfl ?_
  refine RX.norm (by dsimp only [putL, List.set]) ?_
  refine RX.skipB (b := false) 11 rfl rfl rfl rfl ?_
  refine RX.norm (by dsimp only [putL, List.set]) ?_
  refine RX.skipB (b := false) 11 rfl rfl rfl rfl ?_
  refine RX.norm (by dsimp only [putL, List.set]) ?_
  refine RX.skipB (b := false) 11 rfl rfl rfl rfl ?_
  refine RX.norm (by dsimp only [putL, List.set]) ?_
  refine RX.skipB (b := false) 11 rfl rfl rfl rfl ?_
  refine RX.norm (by dsimp only [putL, List.set]) ?_
  refine RX.skipB (b := false) 11 rfl rfl rfl rfl ?_
  refine RX.norm (by dsimp only [putL, List.set]) ?_
  refine RX.pick (v := .bool false) rfl rfl ?_
  refine RX.assign (v := .bool _) rfl ?_
  refine RX.nil ?_
  refine hK5 _ _ ?_
  try clear hK5
  refine wp_ret ?_
  change bodyPost Tryz.prog Tryz.f126 (fun e w' => ∃ r, e = .returned (.bool r) ∧ Pr (fun k => k = bA) w w' ∧ Blk w' bA [.int .i64 (v + 1)] TA ∧ (r = true ↔ (v + 1 < n ∧ 0 ≤ S.cmpS (S.idAt ids v.toNat) (S.idAt ids (v + 1).toNat)))) .ret _ _
  refine ret (rs := [.tmp 4]) (vs := [.bool _]) (v := (.bool _)) rfl ⟨rfl, trivial⟩ rfl ?_
  refine ⟨_, rfl, hE, BA, ?_⟩
  constructor
  ·intro h; cases h
  ·intro h; omega
theorem indexID (a : Option Addr) (n c : Nat) (ids : List Int) (bA bB : Nat) (TA TB : TypeId) (w : World) (BA : Blk w bA [.int .i64 0] TA) (BB : Blk w bB [.slice a n c] TB) (D0 : WRow .u8 32 (fun k => k < bA) w a n ids) (hne : bB < bA) (hc : n ≤ c) (hn : n ≤ 1000) :
  Calls Tryz.prog 147 #[.slice a n c, .func (.func 126) #[] #[.pointer (some ⟨bA, 0, none⟩), .pointer (some ⟨bB, 0, none⟩)]] w (fun e w' => ∃ j, e = .returned (.int .i64 j) ∧ Pr (fun k => k = bA) w w' ∧ (j < 0 ↔ S.Rising n ids)) := by
 have hlt := BA.lt
 have hlt2 := BB.lt
 have hE := Pr.refl (fun k => k = bA) w
 refine enter (args := [.slice a n c, .func (.func 126) #[] #[.pointer (some ⟨bA, 0, none⟩), .pointer (some ⟨bB, 0, none⟩)]]) (l := [.slice a n c, .func (.func 126) #[] #[.pointer (some ⟨bA, 0, none⟩), .pointer (some ⟨bB, 0, none⟩)], undef, undef, undef, undef, undef, undef, undef, undef, undef, undef, undef, undef, undef, undef, undef, undef, undef]) Tryz.func147 rfl rfl ?_
 refine wp_seq_k (fun K1 hK1 => ?_)
 refine region ?_
 refine RS.assign (v := .int .i64 0) rfl ?_
 refine RS.nil ?_
 refine hK1 _ _ ?_
 try clear hK1
 refine wp_seq_k (fun K2 hK2 => ?_)
 refine wp_seq_k (fun K3 hK3 => ?_)
 refine region ?_
 refine RS.move (v := .slice _ _ _) rfl ?_
 refine RS.o (D.len rfl Tryz.underlying24) ?_
 refine RS.move (v := .int .i64 0) rfl ?_
 refine RS.nil ?_
 refine hK3 _ _ ?_
 try clear hK3
 refine wp_block ?_
 refine C.loop (A := Int) (fun p => [(8, .int .i64 p)]) [4, 5, 9, 10, 11, 12, 13, 14, 15, 16, 17, 18] (fun p w' => Pr (fun k => k = bA) w w' ∧ ((0 ≤ p ∧ p ≤ n) ∧ Blk w' bA [.int .i64 p] TA ∧ (∀ j, j < p.toNat → j < n - 1 → S.cmpS (S.idAt ids j) (S.idAt ids (j + 1)) < 0))) (fun p => (n - p.toNat)) 0 (by kernel_rfl) ?_ ?_
 ·exact ⟨Pr.refl _ _, ⟨by omega, by omega⟩, BA, fun j hj => by omega⟩
 ·rintro p j w4 ⟨x4, hI⟩
  replace hE := hE.prn x4 (by intros; try (first | (intro _ _) | (intro _) | skip); first | omega | (dsimp only at *; omega) | (simp_all; done) | (simp at *; omega))
  replace BB := BB.pr x4 (by intros; try (first | (intro _ _) | (intro _) | skip); first | omega | (dsimp only at *; omega) | (simp_all; done) | (simp at *; omega))
  replace D0 := D0.pr x4 (by intros; try (first | (intro _ _) | (intro _) | skip); first | omega | (dsimp only at *; omega) | (simp_all; done) | (simp at *; omega))
  have zw4 := x4.size
  obtain ⟨h1, BA, h2⟩ := hI
  refine C.norm (by simp only [upd, junk, List.map_cons, List.map_nil, List.set_cons_succ, List.set_cons_zero]; exact rfl) ?_
  refine wp_seq_k (fun K5 hK5 => ?_)
  refine region ?_
  refine RS.o (D.lt rfl rfl) ?_
  refine RS.nil ?_
  refine hK5 _ _ ?_
  try clear hK5
  refine wp_seq_k (fun K6 hK6 => ?_)
  refine C.ifd rfl (fun c7 => ?_) (fun c7 => ?_)
  ·refine wp_skip ?_
   refine hK6 _ _ ?_
   try clear hK6
   refine wp_seq_k (fun K8 hK8 => ?_)
   refine wp_block ?_
   refine wp_seq_k (fun K9 hK9 => ?_)
   refine region ?_
   refine RS.move (v := .int _ _) rfl ?_
   refine RS.assign (v := .int _ _) rfl ?_
   refine RS.nil ?_
   refine hK9 _ _ ?_
   try clear hK9
   refine wp_seq_k (fun K10 hK10 => ?_)
   refine region ?_
   refine RS.move (v := .func _ _ _) rfl ?_
   refine RS.move (v := .slice _ _ _) rfl ?_
   refine RS.move (v := .int _ _) rfl ?_
   refine RS.idxW D0 rfl rfl Tryz.underlying24 C35 (by decide) (by omega) (fun b11 o11 h11 q11 r11 => ?_)
   refine RS.norm (by dsimp only [List.set]) ?_
   have r1 := r11
   refine RS.o (D.loadW rfl Tryz.underlying35 rfl C35 (by decide) r11 h11) ?_
   refine RS.callv E126 (risingC _ r1 _ _ _ _ _ _ _ _ _ _ BA BB D0 hne hc hn (by omega)) rfl rfl (fun e12 w12 A12 => ?_)
   obtain ⟨r12, rfl, X12, N12, hr⟩ := A12
   refine ⟨_, rfl, ?_⟩
   refine RS.norm (by dsimp only [List.set]) ?_
   replace hE := hE.prn X12 (by intros; try (first | (intro _ _) | (intro _) | skip); first | omega | (dsimp only at *; omega) | (simp_all; done) | (simp at *; omega))
   replace x4 := x4.prn X12 (by intros; try (first | (intro _ _) | (intro _) | skip); first | omega | (dsimp only at *; omega) | (simp_all; done) | (simp at *; omega))
   replace BB := BB.pr X12 (by intros; try (first | (intro _ _) | (intro _) | skip); first | omega | (dsimp only at *; omega) | (simp_all; done) | (simp at *; omega))
   replace D0 := D0.pr X12 (by intros; try (first | (intro _ _) | (intro _) | skip); first | omega | (dsimp only at *; omega) | (simp_all; done) | (simp at *; omega))
   have zw12 := X12.size
   replace BA := N12
   refine RS.nil ?_
   refine hK10 _ _ ?_
   try clear hK10
   refine C.ifb rfl (fun c13 => ?_) (fun c13 => ?_)
   ·have hrt := c13
    refine wp_seq_k (fun K14 hK14 => ?_)
    refine region ?_
    refine RS.move (v := .int _ _) rfl ?_
    refine RS.assign (v := .int _ _) rfl ?_
    refine RS.nil ?_
    refine hK14 _ _ ?_
    try clear hK14
    refine wp_ret ?_
    change bodyPost Tryz.prog Tryz.f147 (fun e w' => ∃ j, e = .returned (.int .i64 j) ∧ Pr (fun k => k = bA) w w' ∧ (j < 0 ↔ S.Rising n ids)) .ret _ _
    refine ret (rs := [.tmp 4]) (vs := [.int _ _]) (v := (.int _ _)) rfl ⟨rfl, trivial⟩ rfl ?_
    have h3 := hr.1 hrt
    refine ⟨_, rfl, hE, ⟨fun h => by omega, fun h => ?_⟩⟩
    have := h p.toNat (by omega)
    rw [show (p + 1).toNat = p.toNat + 1 by omega] at h3
    omega
   ·have hrf := c13
    refine wp_skip ?_
    refine hK8 _ _ ?_
    try clear hK8
    refine region ?_
    refine RS.o (D.add rfl rfl (W.i64 (by omega))) ?_
    refine RS.move (v := .int _ _) rfl ?_
    refine RS.nil ?_
    change Nx _ _ _ _ _ _ _ _
    refine C.next (p + 1) ⟨rfl, trivial⟩ (by kernel_rfl) ?_ ?_
    ·refine ⟨x4, ⟨by omega, by omega⟩, BA, fun j hj hj2 => ?_⟩
     by_cases hjp : j < p.toNat
     ·exact h2 j hjp hj2
     ·have ej : j = p.toNat := by omega
      subst ej
      by_cases hb : S.cmpS (S.idAt ids p.toNat) (S.idAt ids (p.toNat + 1)) < 0
      ·exact hb
      ·have := hr.2 ⟨by omega, by rw [show (p + 1).toNat = p.toNat + 1 by omega]; omega⟩
       rw [hrf] at this; cases this
    ·omega
  ·have hlast := c7
   refine wp_exit ?_
   refine hK2 _ _ ?_
   try clear hK2
   refine wp_seq_k (fun K15 hK15 => ?_)
   refine region ?_
   refine RS.assign (v := .int .i64 (-1)) rfl ?_
   refine RS.nil ?_
   refine hK15 _ _ ?_
   try clear hK15
   refine wp_ret ?_
   change bodyPost Tryz.prog Tryz.f147 (fun e w' => ∃ j, e = .returned (.int .i64 j) ∧ Pr (fun k => k = bA) w w' ∧ (j < 0 ↔ S.Rising n ids)) .ret _ _
   refine ret (rs := [.tmp 4]) (vs := [.int _ _]) (v := (.int _ _)) rfl ⟨rfl, trivial⟩ rfl ?_
   refine ⟨_, rfl, hE, ⟨fun _ j hj => h2 j (by omega) hj, fun _ => by decide⟩⟩
theorem containsID (a : Option Addr) (n c : Nat) (ids : List Int) (bA bB : Nat) (TA TB : TypeId) (w : World) (BA : Blk w bA [.int .i64 0] TA) (BB : Blk w bB [.slice a n c] TB) (D0 : WRow .u8 32 (fun k => k < bA) w a n ids) (hne : bB < bA) (hc : n ≤ c) (hn : n ≤ 1000) :
  Calls Tryz.prog 125 #[.slice a n c, .func (.func 126) #[] #[.pointer (some ⟨bA, 0, none⟩), .pointer (some ⟨bB, 0, none⟩)]] w (fun e w' => ∃ r, e = .returned (.bool r) ∧ Pr (fun k => k = bA) w w' ∧ (r = true ↔ ¬ S.Rising n ids)) := by
 have hlt := BA.lt
 have hlt2 := BB.lt
 have hE := Pr.refl (fun k => k = bA) w
 refine enter (args := [.slice a n c, .func (.func 126) #[] #[.pointer (some ⟨bA, 0, none⟩), .pointer (some ⟨bB, 0, none⟩)]]) (l := [.slice a n c, .func (.func 126) #[] #[.pointer (some ⟨bA, 0, none⟩), .pointer (some ⟨bB, 0, none⟩)], undef, undef, undef, undef, undef, undef, undef]) Tryz.func125 rfl rfl ?_
 refine wp_seq_k (fun K1 hK1 => ?_)
 refine region ?_
 refine RS.assign (v := .bool false) rfl ?_
 refine RS.nil ?_
 refine hK1 _ _ ?_
 try clear hK1
 refine wp_seq_k (fun K2 hK2 => ?_)
 refine region ?_
 refine RS.move (v := .slice _ _ _) rfl ?_
 refine RS.move (v := .func _ _ _) rfl ?_
 refine RS.callx E147 (indexID _ _ _ _ _ _ _ _ _ BA BB D0 hne hc hn) rfl (fun e3 w3 A3 => ?_)
 obtain ⟨jr, rfl, X3, hr⟩ := A3
 refine ⟨_, rfl, ?_⟩
 refine RS.norm (by dsimp only [List.set]) ?_
 replace hE := hE.prn X3 (by intros; try (first | (intro _ _) | (intro _) | skip); first | omega | (dsimp only at *; omega) | (simp_all; done) | (simp at *; omega))
 replace BB := BB.pr X3 (by intros; try (first | (intro _ _) | (intro _) | skip); first | omega | (dsimp only at *; omega) | (simp_all; done) | (simp at *; omega))
 replace D0 := D0.pr X3 (by intros; try (first | (intro _ _) | (intro _) | skip); first | omega | (dsimp only at *; omega) | (simp_all; done) | (simp at *; omega))
 have zw3 := X3.size
 refine RS.o (D.ge rfl rfl) ?_
 refine RS.assign (v := .bool _) rfl ?_
 refine RS.nil ?_
 refine hK2 _ _ ?_
 try clear hK2
 refine wp_ret ?_
 change bodyPost Tryz.prog Tryz.f125 (fun e w' => ∃ r, e = .returned (.bool r) ∧ Pr (fun k => k = bA) w w' ∧ (r = true ↔ ¬ S.Rising n ids)) .ret _ _
 refine ret (rs := [.tmp 4]) (vs := [.bool _]) (v := (.bool _)) rfl ⟨rfl, trivial⟩ rfl ?_
 refine ⟨_, rfl, hE, ?_⟩
 rw [decide_eq_true_iff]
 have hj := hr
 constructor
 ·intro h h2; have := hj.2 h2; omega
 ·intro h; by_cases h0 : 0 ≤ jr
  ·exact h0
  ·exact (h (hj.1 (by omega))).elim
theorem risingW {S0 : Nat → Prop} (a : Option Addr) (n c : Nat) (ids : List Int) (w : World) (D0 : WRow .u8 32 S0 w a n ids) (hc : n ≤ c) (hn : n ≤ 1000) :
  Calls Tryz.prog 75 #[.slice a n c] w (Ret w fun v _ => v = .bool (decide (S.Rising n ids))) := by
 replace D0 := D0.weaken (T := fun k => k < w.heap.size) (fun k hk _ => hk)
 have hE := Ext.refl w
 refine enter (args := [.slice a n c]) (l := [.slice a n c, undef, undef, undef, undef, undef, undef, undef]) Tryz.func75 rfl rfl ?_
 refine wp_seq_k (fun K1 hK1 => ?_)
 refine region ?_
 refine RS.box rfl rfl (fun b2 w2 e2 s2 x2 B2 => ?_)
 refine RS.norm (by dsimp only [List.set]) ?_
 replace hE := Ext.tr hE x2
 replace D0 := D0.ext x2
 have zw2 := x2.size
 refine RS.assign (v := .bool false) rfl ?_
 refine RS.nil ?_
 refine hK1 _ _ ?_
 try clear hK1
 refine wp_seq_k (fun K3 hK3 => ?_)
 refine region ?_
 refine RS.alloc T3 (fun b4 w4 e4 s4 x4 B4 => ?_)
 refine RS.norm (by dsimp only [List.set]) ?_
 replace hE := Ext.tr hE x4
 replace D0 := D0.ext x4
 replace B2 := B2.ext x4
 have zw4 := x4.size
 refine RS.store rfl (v := .int _ _) rfl C3 rfl B4 rfl (fun w5 y5 N5 => ?_)
 replace hE := hE.trans (y5.below (by intros; try (first | (intro _ _) | (intro _) | skip); first | omega | (dsimp only at *; omega) | (simp_all; done) | (simp at *; omega)))
 replace D0 := D0.st y5 (by intros; try (first | (intro _ _) | (intro _) | skip); first | omega | (dsimp only at *; omega) | (simp_all; done) | (simp at *; omega))
 replace B2 := B2.st y5 (by intros; try (first | (intro _ _) | (intro _) | skip); first | omega | (dsimp only at *; omega) | (simp_all; done) | (simp at *; omega))
 have zw5 := y5.size
 replace B4 := N5
 refine RS.nil ?_
 refine hK3 _ _ ?_
 try clear hK3
 refine wp_seq_k (fun K6 hK6 => ?_)
 refine region ?_
 refine RS.o (D.load rfl Tryz.underlying24 rfl (B2.cell rfl)) ?_
 refine RS.o (D.func (fs := []) (cs := [.pointer _, .pointer _]) rfl rfl) ?_
 refine RS.callx E125 (containsID _ _ _ _ _ _ _ _ _ B4 B2 (D0.weaken (T := fun k => k < b4) (fun k _ h => by omega)) (by omega) hc hn) rfl (fun e7 w7 A7 => ?_)
 obtain ⟨r, rfl, X7, hr⟩ := A7
 refine ⟨_, rfl, ?_⟩
 refine RS.norm (by dsimp only [List.set]) ?_
 replace hE := hE.trans (X7.below (by intros; try (first | (intro _ _) | (intro _) | skip); first | omega | (dsimp only at *; omega) | (simp_all; done) | (simp at *; omega)) (by intros; try (first | (intro _ _) | (intro _) | skip); first | omega | (dsimp only at *; omega) | (simp_all; done) | (simp at *; omega)))
 replace D0 := D0.pr X7 (by intros; try (first | (intro _ _) | (intro _) | skip); first | omega | (dsimp only at *; omega) | (simp_all; done) | (simp at *; omega))
 replace B2 := B2.pr X7 (by intros; try (first | (intro _ _) | (intro _) | skip); first | omega | (dsimp only at *; omega) | (simp_all; done) | (simp at *; omega))
 have zw7 := X7.size
 refine RS.o (D.not rfl) ?_
 refine RS.assign (v := .bool _) rfl ?_
 refine RS.nil ?_
 refine hK6 _ _ ?_
 try clear hK6
 refine wp_ret ?_
 refine ret (rs := [.tmp 2]) (vs := [.bool _]) (v := (.bool _)) rfl ⟨rfl, trivial⟩ rfl ?_
 refine ⟨_, rfl, hE, congrArg Value.bool ?_⟩
 by_cases h : S.Rising n ids
 ·rw [decide_eq_true h]; cases hb : r
  ·rfl
  ·exact (hr.1 hb h).elim
 ·rw [decide_eq_false h, hr.2 h]; rfl
end Go.Proofs.YtiohpiiiapjblaaGreatDoor.W
namespace Go.Proofs.YtiohpiiiapjblaaGreatDoor.W
open Go.RowKit Go.Proofs.YtiohpiiiapjblaaGreatDoor.G
set_option linter.unusedVariables false
set_option maxRecDepth 20000
set_option maxHeartbeats 8000000
attribute [local irreducible] RS RX
theorem E75 : Enters Tryz.prog 75 := .mk Tryz.func75 (by kernel_rfl) rfl
theorem E114 : Enters Tryz.prog 114 := .mk Tryz.func114 (by kernel_rfl) rfl
theorem idsW {S0 : Nat → Prop} (a : Option Addr) (n c : Nat) (ids : List Int) (w : World) (D0 : WRow .u8 32 S0 w a n ids) (hc : n ≤ c) (hn : n ≤ 60) (hr : S.Rising n ids) :
  Calls Tryz.prog 90 #[.slice a n c] w (Ret w fun v w' => ∃ a' n' c', v = .tuple #[.slice a' n' c', .int .i64 0] ∧ IOwn w.heap.size w' 5 .u8 a' n' c' (S.listS n ids)) := by
 replace D0 := D0.weaken (T := fun k => k < w.heap.size) (fun k hk _ => hk)
 have hE := Ext.refl w
 refine enter (args := [.slice a n c]) (l := [.slice a n c, undef, undef, undef, undef, undef, undef, undef, undef, undef, undef, undef, undef, undef, undef, undef, undef, undef, undef, undef, undef, undef, undef, undef, undef, undef, undef, undef]) Tryz.func90 rfl rfl ?_
 refine wp_seq_k (fun K1 hK1 => ?_)
 refine region ?_
 refine RS.assign (v := .slice none 0 0) rfl ?_
 refine RS.assign (v := .int .i64 0) rfl ?_
 refine RS.nil ?_
 refine hK1 _ _ ?_
 try clear hK1
 refine wp_seq_k (fun K2 hK2 => ?_)
 refine wp_seq_k (fun K3 hK3 => ?_)
 refine region ?_
 refine RS.move (v := .slice _ _ _) rfl ?_
 refine RS.o (D.len rfl Tryz.underlying24) ?_
 refine RS.o (D.gt rfl rfl) ?_
 refine RS.nil ?_
 refine hK3 _ _ ?_
 try clear hK3
 refine C.ifd rfl (fun c4 => ?_) (fun c4 => ?_)
 ·exact absurd c4 (by omega)
 ·refine wp_skip ?_
  refine hK2 _ _ ?_
  try clear hK2
  refine wp_seq_k (fun K5 hK5 => ?_)
  refine wp_seq_k (fun K6 hK6 => ?_)
  refine region ?_
  refine RS.move (v := .slice _ _ _) rfl ?_
  refine RS.call E75 (risingW _ _ _ _ _ D0 hc (by omega)) rfl (fun v7 w7 x7 A7 => ?_)
  replace hE := Ext.tr hE x7
  replace D0 := D0.ext x7
  have zw7 := x7.size
  subst A7
  refine RS.norm (by dsimp only [List.set]) ?_
  refine RS.o (D.not rfl) ?_
  refine RS.nil ?_
  refine hK6 _ _ ?_
  try clear hK6
  refine C.ifnot rfl (fun c8 => ?_) (fun c8 => ?_)
  ·rw [decide_eq_true hr] at c8; cases c8
  ·refine wp_skip ?_
   refine hK5 _ _ ?_
   try clear hK5
   refine wp_seq_k (fun K9 hK9 => ?_)
   refine region ?_
   refine RS.move (v := .slice _ _ _) rfl ?_
   refine RS.o (D.len rfl Tryz.underlying24) ?_
   refine RS.o (D.conv rfl Tryz.underlying3 Tryz.underlying25 (W.u64 (by omega))) ?_
   refine RS.call E64 (numW _ (by omega) _) rfl (fun v10 w10 x10 A10 => ?_)
   replace hE := Ext.tr hE x10
   replace D0 := D0.ext x10
   have zw10 := x10.size
   obtain ⟨a10, n10, c10, rfl, O1⟩ := A10
   replace O1 := O1.base (lo' := w.heap.size) (fun k hk => by have := O1.lo k hk; omega)
   have hnl := S.numS_len (n : Int)
   have hol0 := O1.len
   refine RS.norm (by dsimp only [List.set]) ?_
   refine RS.assign (v := .slice _ _ _) rfl ?_
   refine RS.nil ?_
   refine hK9 _ _ ?_
   try clear hK9
   refine wp_seq_k (fun K11 hK11 => ?_)
   refine wp_seq_k (fun K12 hK12 => ?_)
   refine region ?_
   refine RS.move (v := .slice _ _ _) rfl ?_
   refine RS.o (D.len rfl Tryz.underlying24) ?_
   refine RS.move (v := .int .i64 0) rfl ?_
   refine RS.nil ?_
   refine hK12 _ _ ?_
   try clear hK12
   refine wp_block ?_
   refine C.loop (A := Int × Option Addr × Nat × Nat) (fun p => [(4, .slice p.2.1 p.2.2.1 p.2.2.2), (19, .int .i64 p.1)]) [6, 20, 21, 22, 23, 24, 25, 26] (fun p w' => Pr (fun k => w.heap.size ≤ k) w10 w' ∧ ((0 ≤ p.1 ∧ p.1 ≤ n) ∧ IOwn w.heap.size w' 5 .u8 p.2.1 p.2.2.1 p.2.2.2 (S.numS n ++ ids.take (32 * p.1.toNat)))) (fun p => (n - p.1.toNat)) (0, a10, n10, c10) (by kernel_rfl) ?_ ?_
   ·refine ⟨Pr.refl _ _, ⟨by dsimp only; omega, by dsimp only; omega⟩, ?_⟩
    dsimp only
    rw [show (0 : Int).toNat = 0 from rfl, Nat.mul_zero, List.take_zero, List.append_nil]
    exact O1
   ·rintro p j w13 ⟨x13, hI⟩
    replace hE := hE.trans (x13.below (by intros; try (first | (intro _ _) | (intro _) | skip); first | omega | (dsimp only at *; omega) | (simp_all; done) | (simp at *; omega)) (by intros; try (first | (intro _ _) | (intro _) | skip); first | omega | (dsimp only at *; omega) | (simp_all; done) | (simp at *; omega)))
    replace D0 := D0.pr x13 (by intros; try (first | (intro _ _) | (intro _) | skip); first | omega | (dsimp only at *; omega) | (simp_all; done) | (simp at *; omega))
    have zw13 := x13.size
    obtain ⟨i, ao, no, co⟩ := p
    dsimp only at hI
    obtain ⟨h1, O1⟩ := hI
    have hol := O1.len
    rw [List.length_append, List.length_take, D0.len] at hol
    have hob := O1.lo
    refine C.norm (by simp only [upd, junk, List.map_cons, List.map_nil, List.set_cons_succ, List.set_cons_zero]; exact rfl) ?_
    refine wp_seq_k (fun K14 hK14 => ?_)
    refine region ?_
    refine RS.o (D.lt rfl rfl) ?_
    refine RS.nil ?_
    refine hK14 _ _ ?_
    try clear hK14
    refine wp_seq_k (fun K15 hK15 => ?_)
    refine C.ifd rfl (fun c16 => ?_) (fun c16 => ?_)
    ·refine wp_skip ?_
     refine hK15 _ _ ?_
     try clear hK15
     refine wp_seq_k (fun K17 hK17 => ?_)
     refine wp_block ?_
     refine wp_seq_k (fun K18 hK18 => ?_)
     refine region ?_
     refine RS.idxW D0 rfl rfl Tryz.underlying24 C35 (by decide) (by omega) (fun b19 o19 h19 q19 r19 => ?_)
     refine RS.norm (by dsimp only [List.set]) ?_
     have r1 := r19
     refine RS.o (D.loadW rfl Tryz.underlying35 rfl C35 (by decide) r19 h19) ?_
     refine RS.alloc T35 (fun b20 w20 e20 s20 x20 B20 => ?_)
     refine RS.norm (by dsimp only [List.set]) ?_
     replace hE := Ext.tr hE x20
     replace x13 := x13.ext x20
     replace D0 := D0.ext x20
     replace O1 := O1.ext x20
     have zw20 := x20.size
     have A20 : IArr .u8 w20 b20 32 (List.replicate 32 0) [] 35 := IArr.zero B20
     clear B20
     refine RS.storeArr A20 rfl rfl C35 (by decide) (by first | assumption | exact And.left (by assumption) | exact IArr.len (by assumption)) (by first | assumption | exact And.right (by assumption) | exact IArr.bd (by assumption)) (fun w21 y21 N21 => ?_)
     replace hE := hE.trans (y21.below (by intros; try (first | (intro _ _) | (intro _) | skip); first | omega | (dsimp only at *; omega) | (simp_all; done) | (simp at *; omega)))
     replace x13 := x13.stn y21 (by intros; try (first | (intro _ _) | (intro _) | skip); first | omega | (dsimp only at *; omega) | (simp_all; done) | (simp at *; omega))
     replace D0 := D0.st y21 (by intros; try (first | (intro _ _) | (intro _) | skip); first | omega | (dsimp only at *; omega) | (simp_all; done) | (simp at *; omega))
     replace O1 := O1.st y21 (by intros; try (first | (intro _ _) | (intro _) | skip); first | omega | (have hq := hob _ (by assumption); first | omega | (dsimp only at *; omega)))
     have zw21 := y21.size
     replace A20 := N21
     refine RS.nil ?_
     refine hK18 _ _ ?_
     try clear hK18
     refine region ?_
     refine RS.move (v := .slice _ _ _) rfl ?_
     refine RS.o (D.sliceArr (kl := .i64) (kh := .i64) rfl Tryz.underlying35 C5 rfl rfl (by omega)) ?_
     refine RS.appendI O1 (A20.row (S := fun k => k = b20) rfl) rfl rfl Tryz.underlying22 T5 rfl (by omega) (by decide) (by omega) (fun a22 c22 w22 N22 x22 => ?_)
     refine RS.norm (by dsimp only [List.set]) ?_
     replace hE := hE.trans (x22.below (by intros; try (first | (intro _ _) | (intro _) | skip); first | omega | (have hq := O1.lo _ (by assumption); first | omega | (dsimp only at *; omega))) (by intros; try (first | (intro _ _) | (intro _) | skip); first | omega | (dsimp only at *; omega) | (simp_all; done) | (simp at *; omega)))
     replace x13 := x13.prn x22 (by intros; try (first | (intro _ _) | (intro _) | skip); first | omega | (have hq := O1.lo _ (by assumption); first | omega | (dsimp only at *; omega)))
     replace D0 := D0.pr x22 (by intros; try (first | (intro _ _) | (intro _) | skip); first | omega | (have hq := O1.lo _ (by assumption); first | omega | (dsimp only at *; omega)))
     have zw22 := x22.size
     replace O1 := N22
     refine RS.assign (v := .slice _ _ _) rfl ?_
     refine RS.nil ?_
     refine hK17 _ _ ?_
     try clear hK17
     refine region ?_
     refine RS.o (D.add rfl rfl (W.i64 (by omega))) ?_
     refine RS.move (v := .int _ _) rfl ?_
     refine RS.nil ?_
     change Nx _ _ _ _ _ _ _ _
     refine C.next (i + 1, _, _, _) ⟨rfl, rfl, trivial⟩ (by kernel_rfl) ?_ ?_
     ·refine ⟨x13, ⟨by dsimp only; omega, by dsimp only; omega⟩, ?_⟩
      dsimp only
      rw [show (i + 1).toNat = i.toNat + 1 by omega, elt_cat, ← List.append_assoc]
      exact O1
     ·dsimp only; omega
    ·refine wp_exit ?_
     refine hK11 _ _ ?_
     try clear hK11
     refine wp_seq_k (fun K23 hK23 => ?_)
     refine region ?_
     refine RS.move (v := .slice _ _ _) rfl ?_
     refine RS.assign (v := .slice _ _ _) rfl ?_
     refine RS.assign (v := .int .i64 0) rfl ?_
     refine RS.nil ?_
     refine hK23 _ _ ?_
     try clear hK23
     refine wp_ret ?_
     refine ret (rs := [.tmp 2, .tmp 3]) (vs := [.slice _ _ _, .int _ _]) (v := (.tuple #[.slice _ _ _, .int _ _])) rfl ⟨rfl, rfl, trivial⟩ rfl ?_
     have hdl := D0.len
     rw [show i.toNat = n by omega, List.take_of_length_le (by omega)] at O1
     exact ⟨_, rfl, hE, _, _, _, rfl, O1⟩
theorem risingR {S0 : Nat → Prop} (a : Option Addr) (n c : Nat) (ids : List Int) (w : World) (D0 : WRow .u8 32 S0 w a n ids) (hc : n ≤ c) (hn : n ≤ 1000) :
  Calls Tryz.prog 67 #[.slice a n c] w (Ret w fun v _ => v = .bool (decide (S.Rising n ids))) := by
 replace D0 := D0.weaken (T := fun k => k < w.heap.size) (fun k hk _ => hk)
 have hE := Ext.refl w
 refine enter (args := [.slice a n c]) (l := [.slice a n c, undef, undef, undef, undef, undef, undef, undef, undef, undef, undef, undef, undef, undef, undef, undef, undef, undef, undef, undef, undef]) Tryz.func67 rfl rfl ?_
 refine wp_seq_k (fun K1 hK1 => ?_)
 refine region ?_
 refine RS.assign (v := .bool false) rfl ?_
 refine RS.nil ?_
 refine hK1 _ _ ?_
 try clear hK1
 refine wp_seq_k (fun K2 hK2 => ?_)
 refine wp_seq_k (fun K3 hK3 => ?_)
 refine region ?_
 refine RS.assign (v := .int .i64 1) rfl ?_
 refine RS.nil ?_
 refine hK3 _ _ ?_
 try clear hK3
 refine wp_block ?_
 refine C.loop (A := Int) (fun p => [(3, .int .i64 p)]) [2, 4, 5, 6, 7, 8, 9, 10, 11, 12, 13, 14, 15, 16, 17, 18, 19, 20] (fun p w' => Ext w w' ∧ ((1 ≤ p ∧ p ≤ 2000) ∧ (∀ j, j < p.toNat - 1 → S.cmpS (S.idAt ids j) (S.idAt ids (j + 1)) < 0))) (fun p => (2000 - p.toNat)) 1 (by kernel_rfl) ?_ ?_
 ·exact ⟨Ext.refl _, ⟨by omega, by omega⟩, fun j hj => by omega⟩
 ·rintro p j w4 ⟨x4, hI⟩
  replace hE := Ext.tr hE x4
  replace D0 := D0.ext x4
  have zw4 := x4.size
  obtain ⟨h1, h2⟩ := hI
  refine C.norm (by simp only [upd, junk, List.map_cons, List.map_nil, List.set_cons_succ, List.set_cons_zero]; exact rfl) ?_
  refine wp_seq_k (fun K5 hK5 => ?_)
  refine wp_seq_k (fun K6 hK6 => ?_)
  refine region ?_
  refine RS.move (v := .int _ _) rfl ?_
  refine RS.move (v := .slice _ _ _) rfl ?_
  refine RS.o (D.len rfl Tryz.underlying24) ?_
  refine RS.o (D.lt rfl rfl) ?_
  refine RS.nil ?_
  refine hK6 _ _ ?_
  try clear hK6
  refine C.ifd rfl (fun c7 => ?_) (fun c7 => ?_)
  ·refine wp_skip ?_
   refine hK5 _ _ ?_
   try clear hK5
   refine wp_seq_k (fun K8 hK8 => ?_)
   refine wp_block ?_
   refine wp_seq_k (fun K9 hK9 => ?_)
   refine regionX Ext [(0, .q), (1, .q), (2, .q), (3, .q), (4, .q), (5, .q), (6, .q), (7, .q), (8, .q), (9, .e), (10, .q)] mixed Ext.refl (fun h k => h.tr k) (by kernel_rfl) (fun w10 x10 => ?_)
   replace hE := Ext.tr hE x10
   replace x4 := Ext.tr x4 x10
   replace D0 := D0.ext x10
   have zw10 := x10.size
   refine RX.move (v := .slice _ _ _) rfl ?_
   refine RX.move (v := .int _ _) rfl ?_
   refine RX.o (fun w' hw => D.sub rfl rfl (W.i64 (by omega))) ?_
   refine RX.idxW (fun _ h => h) D0 rfl rfl Tryz.underlying24 C35 (by decide) (by omega) (fun b11 o11 h11 q11 r11 => ?_)
   refine RX.norm (by dsimp only [List.set]) ?_
   have r1 := r11
   refine RX.o (fun w' hw => D.loadW rfl Tryz.underlying35 rfl C35 (by decide) r11 (h11 w' hw)) ?_
   refine RX.move (v := .slice _ _ _) rfl ?_
   refine RX.move (v := .int _ _) rfl ?_
   refine RX.idxW (fun _ h => h) D0 rfl rfl Tryz.underlying24 C35 (by decide) (by omega) (fun b12 o12 h12 q12 r12 => ?_)
   refine RX.norm (by dsimp only [List.set]) ?_
   have r2 := r12
   refine RX.o (fun w' hw => D.loadW rfl Tryz.underlying35 rfl C35 (by decide) r12 (h12 w' hw)) ?_
   refine RX.eff ?_
   refine RS.call E114 (rcmp _ _ r1 r2 _) rfl (fun v13 w13 x13 A13 => ?_)
   replace hE := Ext.tr hE x13
   replace x4 := Ext.tr x4 x13
   replace D0 := D0.ext x13
   have zw13 := x13.size
   subst A13
   refine RS.norm (by dsimp only [List.set]) ?_
   refine RS.nil ⟨x13, ?_⟩
   refine RX.o (fun w' hw => D.ge rfl rfl) ?_
   refine RX.nil ?_
   refine hK9 _ _ ?_
   try clear hK9
   refine C.ifd rfl (fun c14 => ?_) (fun c14 => ?_)
   ·have hg := c14
    refine wp_seq_k (fun K15 hK15 => ?_)
    refine region ?_
    refine RS.assign (v := .bool false) rfl ?_
    refine RS.nil ?_
    refine hK15 _ _ ?_
    try clear hK15
    refine wp_ret ?_
    refine ret (rs := [.tmp 2]) (vs := [.bool _]) (v := (.bool _)) rfl ⟨rfl, trivial⟩ rfl ?_
    refine ⟨_, rfl, hE, congrArg Value.bool (decide_eq_false ?_).symm⟩
    intro h
    have := h (p.toNat - 1) (by omega)
    rw [S.idAt_elt, S.idAt_elt, show p.toNat - 1 = (p - 1).toNat by omega, show (p - 1).toNat + 1 = p.toNat by omega] at this
    omega
   ·have hg := c14
    refine wp_skip ?_
    refine hK8 _ _ ?_
    try clear hK8
    refine region ?_
    refine RS.move (v := .int _ _) rfl ?_
    refine RS.o (D.add rfl rfl (W.i64 (by omega))) ?_
    refine RS.assign (v := .int _ _) rfl ?_
    refine RS.nil ?_
    change Nx _ _ _ _ _ _ _ _
    refine C.next (p + 1) ⟨rfl, trivial⟩ (by kernel_rfl) ?_ ?_
    ·refine ⟨x4, ⟨by omega, by omega⟩, S.rising_step n ids p (by omega) h2 ?_⟩
     rw [S.idAt_elt, S.idAt_elt]
     omega
    ·omega
  ·have hl := c7
   refine wp_exit ?_
   refine hK2 _ _ ?_
   try clear hK2
   refine wp_seq_k (fun K16 hK16 => ?_)
   refine region ?_
   refine RS.assign (v := .bool true) rfl ?_
   refine RS.nil ?_
   refine hK16 _ _ ?_
   try clear hK16
   refine wp_ret ?_
   refine ret (rs := [.tmp 2]) (vs := [.bool _]) (v := (.bool _)) rfl ⟨rfl, trivial⟩ rfl ?_
   exact ⟨_, rfl, hE, congrArg Value.bool (decide_eq_true (fun j hj => h2 j (by omega))).symm⟩
theorem sameIDs {S0 S1 : Nat → Prop} (a : Option Addr) (n c : Nat) (xs : List Int) (a2 : Option Addr) (n2 c2 : Nat) (ys : List Int) (w : World) (D0 : WRow .u8 32 S0 w a n xs) (D1 : WRow .u8 32 S1 w a2 n2 ys) (hn : n ≤ 1000) (hn2 : n2 ≤ 1000) :
  Calls Tryz.prog 37 #[.slice a n c, .slice a2 n2 c2] w (Ret w fun v _ => v = .bool (decide (xs = ys))) := by
 have hl0 := D0.len
 have hl1 := D1.len
 have hE := Ext.refl w
 refine enter (args := [.slice a n c, .slice a2 n2 c2]) (l := [.slice a n c, .slice a2 n2 c2, undef, undef, undef, undef, undef, undef, undef, undef, undef, undef, undef, undef, undef, undef, undef, undef, undef, undef, undef, undef, undef, undef, undef, undef]) Tryz.func37 rfl rfl ?_
 refine wp_seq_k (fun K1 hK1 => ?_)
 refine region ?_
 refine RS.assign (v := .bool false) rfl ?_
 refine RS.nil ?_
 refine hK1 _ _ ?_
 try clear hK1
 refine wp_seq_k (fun K2 hK2 => ?_)
 refine wp_seq_k (fun K3 hK3 => ?_)
 refine region ?_
 refine RS.move (v := .slice _ _ _) rfl ?_
 refine RS.o (D.len rfl Tryz.underlying24) ?_
 refine RS.move (v := .slice _ _ _) rfl ?_
 refine RS.o (D.len rfl Tryz.underlying24) ?_
 refine RS.o (D.ne rfl rfl) ?_
 refine RS.nil ?_
 refine hK3 _ _ ?_
 try clear hK3
 refine C.ifn rfl (fun c4 => ?_) (fun c4 => ?_)
 ·have hne := c4
  refine wp_seq_k (fun K5 hK5 => ?_)
  refine region ?_
  refine RS.assign (v := .bool false) rfl ?_
  refine RS.nil ?_
  refine hK5 _ _ ?_
  try clear hK5
  refine wp_ret ?_
  refine ret (rs := [.tmp 4]) (vs := [.bool _]) (v := (.bool _)) rfl ⟨rfl, trivial⟩ rfl ?_
  refine ⟨_, rfl, hE, congrArg Value.bool (decide_eq_false ?_).symm⟩
  intro e
  rw [e] at hl0
  omega
 ·have hne := c4
  refine wp_skip ?_
  refine hK2 _ _ ?_
  try clear hK2
  refine wp_seq_k (fun K6 hK6 => ?_)
  refine wp_seq_k (fun K7 hK7 => ?_)
  refine region ?_
  refine RS.assign (v := .int .i64 0) rfl ?_
  refine RS.nil ?_
  refine hK7 _ _ ?_
  try clear hK7
  refine wp_block ?_
  refine C.loop (A := Int) (fun p => [(5, .int .i64 p)]) [4, 11, 12, 13, 14, 15, 16, 17, 18, 19, 20, 21, 22, 23, 24, 25] (fun p w' => Ext w w' ∧ ((0 ≤ p ∧ p ≤ n) ∧ xs.take (32 * p.toNat) = ys.take (32 * p.toNat))) (fun p => (n - p.toNat)) 0 (by kernel_rfl) ?_ ?_
  ·exact ⟨Ext.refl _, ⟨by omega, by omega⟩, rfl⟩
  ·rintro p j w8 ⟨x8, hI⟩
   replace hE := Ext.tr hE x8
   replace D0 := D0.ext x8
   replace D1 := D1.ext x8
   have zw8 := x8.size
   obtain ⟨h1, h2⟩ := hI
   refine C.norm (by simp only [upd, junk, List.map_cons, List.map_nil, List.set_cons_succ, List.set_cons_zero]; exact rfl) ?_
   refine wp_seq_k (fun K9 hK9 => ?_)
   refine wp_seq_k (fun K10 hK10 => ?_)
   refine region ?_
   refine RS.move (v := .int _ _) rfl ?_
   refine RS.move (v := .slice _ _ _) rfl ?_
   refine RS.o (D.len rfl Tryz.underlying24) ?_
   refine RS.o (D.lt rfl rfl) ?_
   refine RS.nil ?_
   refine hK10 _ _ ?_
   try clear hK10
   refine C.ifd rfl (fun c11 => ?_) (fun c11 => ?_)
   ·refine wp_skip ?_
    refine hK9 _ _ ?_
    try clear hK9
    refine wp_seq_k (fun K12 hK12 => ?_)
    refine wp_block ?_
    refine wp_seq_k (fun K13 hK13 => ?_)
    refine regionX Ext [(0, .q), (1, .q), (2, .q), (3, .q), (4, .q), (5, .q), (6, .q), (7, .q), (8, .q)] mixed Ext.refl (fun h k => h.tr k) (by kernel_rfl) (fun w14 x14 => ?_)
    replace hE := Ext.tr hE x14
    replace x8 := Ext.tr x8 x14
    replace D0 := D0.ext x14
    replace D1 := D1.ext x14
    have zw14 := x14.size
    refine RX.move (v := .slice _ _ _) rfl ?_
    refine RX.move (v := .int _ _) rfl ?_
    refine RX.idxW (fun _ h => h) D0 rfl rfl Tryz.underlying24 C35 (by decide) (by omega) (fun b15 o15 h15 q15 r15 => ?_)
    refine RX.norm (by dsimp only [List.set]) ?_
    have r1 := r15
    refine RX.o (fun w' hw => D.loadW rfl Tryz.underlying35 rfl C35 (by decide) r15 (h15 w' hw)) ?_
    refine RX.move (v := .slice _ _ _) rfl ?_
    refine RX.move (v := .int _ _) rfl ?_
    refine RX.idxW (fun _ h => h) D1 rfl rfl Tryz.underlying24 C35 (by decide) (by omega) (fun b16 o16 h16 q16 r16 => ?_)
    refine RX.norm (by dsimp only [List.set]) ?_
    have r2 := r16
    refine RX.o (fun w' hw => D.loadW rfl Tryz.underlying35 rfl C35 (by decide) r16 (h16 w' hw)) ?_
    refine RX.o (fun w' hw => D.neI rfl rfl Tryz.underlying35 Tryz.underlying5 C5 (by kernel_rfl) r1.1 r2.1 (by decide)) ?_
    refine RX.nil ?_
    refine hK13 _ _ ?_
    try clear hK13
    refine C.ifb rfl (fun c17 => ?_) (fun c17 => ?_)
    ·have hd := c17
     refine wp_seq_k (fun K18 hK18 => ?_)
     refine region ?_
     refine RS.assign (v := .bool false) rfl ?_
     refine RS.nil ?_
     refine hK18 _ _ ?_
     try clear hK18
     refine wp_ret ?_
     refine ret (rs := [.tmp 4]) (vs := [.bool _]) (v := (.bool _)) rfl ⟨rfl, trivial⟩ rfl ?_
     refine ⟨_, rfl, hE, congrArg Value.bool (decide_eq_false ?_).symm⟩
     intro e
     rw [e] at hd
     exact of_decide_eq_true hd rfl
    ·have hd := c17
     refine wp_skip ?_
     refine hK12 _ _ ?_
     try clear hK12
     refine region ?_
     refine RS.move (v := .int _ _) rfl ?_
     refine RS.o (D.add rfl rfl (W.i64 (by omega))) ?_
     refine RS.assign (v := .int _ _) rfl ?_
     refine RS.nil ?_
     change Nx _ _ _ _ _ _ _ _
     refine C.next (p + 1) ⟨rfl, trivial⟩ (by kernel_rfl) ?_ ?_
     ·refine ⟨x8, ⟨by omega, by omega⟩, ?_⟩
      rw [show (p + 1).toNat = p.toNat + 1 by omega, elt_cat, elt_cat, h2]
      rw [Decidable.not_not.1 (of_decide_eq_false hd)]
     ·omega
   ·have hlt := c11
    refine wp_exit ?_
    refine hK6 _ _ ?_
    try clear hK6
    refine wp_seq_k (fun K19 hK19 => ?_)
    refine region ?_
    refine RS.assign (v := .bool true) rfl ?_
    refine RS.nil ?_
    refine hK19 _ _ ?_
    try clear hK19
    refine wp_ret ?_
    refine ret (rs := [.tmp 4]) (vs := [.bool _]) (v := (.bool _)) rfl ⟨rfl, trivial⟩ rfl ?_
    refine ⟨_, rfl, hE, congrArg Value.bool (decide_eq_true ?_).symm⟩
    rw [List.take_of_length_le (by omega), List.take_of_length_le (by omega)] at h2
    exact h2
theorem isSorted {S0 : Nat → Prop} (a : Option Addr) (n c : Nat) (ids : List Int) (w : World) (D0 : WRow .u8 32 S0 w a n ids) (hc : n ≤ c) (hn : n ≤ 1000) :
  Calls Tryz.prog 79 #[.slice a n c, .func (.func 80) #[] #[]] w (Ret w fun v _ => v = .bool (decide (S.Sorted n ids))) := by
 replace D0 := D0.weaken (T := fun k => k < w.heap.size) (fun k hk _ => hk)
 have hE := Ext.refl w
 refine enter (args := [.slice a n c, .func (.func 80) #[] #[]]) (l := [.slice a n c, .func (.func 80) #[] #[], undef, undef, undef, undef, undef, undef, undef, undef, undef, undef, undef, undef, undef, undef, undef, undef, undef, undef, undef, undef, undef, undef, undef]) Tryz.func79 rfl rfl ?_
 refine wp_seq_k (fun K1 hK1 => ?_)
 refine region ?_
 refine RS.assign (v := .bool false) rfl ?_
 refine RS.nil ?_
 refine hK1 _ _ ?_
 try clear hK1
 refine wp_seq_k (fun K2 hK2 => ?_)
 refine wp_seq_k (fun K3 hK3 => ?_)
 refine region ?_
 refine RS.move (v := .slice _ _ _) rfl ?_
 refine RS.o (D.len rfl Tryz.underlying24) ?_
 refine RS.o (D.sub rfl rfl (W.i64 (by omega))) ?_
 refine RS.assign (v := .int _ _) rfl ?_
 refine RS.nil ?_
 refine hK3 _ _ ?_
 try clear hK3
 refine wp_block ?_
 refine C.loop (A := Int) (fun p => [(5, .int .i64 p)]) [4, 9, 10, 11, 12, 13, 14, 15, 16, 17, 18, 19, 20, 21, 22, 23, 24] (fun p w' => Ext w w' ∧ ((-1 ≤ p ∧ p < n) ∧ (∀ j, p.toNat ≤ j → j < n - 1 → ¬ S.cmpS (S.idAt ids (j + 1)) (S.idAt ids j) < 0))) (fun p => (p + 1).toNat) ((n : Int) - 1) (by kernel_rfl) ?_ ?_
 ·exact ⟨Ext.refl _, ⟨by omega, by omega⟩, fun j hj hj2 => by omega⟩
 ·rintro p j w4 ⟨x4, hI⟩
  replace hE := Ext.tr hE x4
  replace D0 := D0.ext x4
  have zw4 := x4.size
  obtain ⟨h1, h2⟩ := hI
  refine C.norm (by simp only [upd, junk, List.map_cons, List.map_nil, List.set_cons_succ, List.set_cons_zero]; exact rfl) ?_
  refine wp_seq_k (fun K5 hK5 => ?_)
  refine wp_seq_k (fun K6 hK6 => ?_)
  refine region ?_
  refine RS.move (v := .int _ _) rfl ?_
  refine RS.o (D.gt rfl rfl) ?_
  refine RS.nil ?_
  refine hK6 _ _ ?_
  try clear hK6
  refine C.ifd rfl (fun c7 => ?_) (fun c7 => ?_)
  ·refine wp_skip ?_
   refine hK5 _ _ ?_
   try clear hK5
   refine wp_seq_k (fun K8 hK8 => ?_)
   refine wp_block ?_
   refine wp_seq_k (fun K9 hK9 => ?_)
   refine regionX Ext [(0, .q), (1, .q), (2, .q), (3, .q), (4, .q), (5, .q), (6, .q), (7, .q), (8, .q), (9, .q), (10, .e), (11, .q)] mixed Ext.refl (fun h k => h.tr k) (by kernel_rfl) (fun w10 x10 => ?_)
   replace hE := Ext.tr hE x10
   replace x4 := Ext.tr x4 x10
   replace D0 := D0.ext x10
   have zw10 := x10.size
   refine RX.move (v := .func _ _ _) rfl ?_
   refine RX.move (v := .slice _ _ _) rfl ?_
   refine RX.move (v := .int _ _) rfl ?_
   refine RX.idxW (fun _ h => h) D0 rfl rfl Tryz.underlying24 C35 (by decide) (by omega) (fun b11 o11 h11 q11 r11 => ?_)
   refine RX.norm (by dsimp only [List.set]) ?_
   have r1 := r11
   refine RX.o (fun w' hw => D.loadW rfl Tryz.underlying35 rfl C35 (by decide) r11 (h11 w' hw)) ?_
   refine RX.move (v := .slice _ _ _) rfl ?_
   refine RX.move (v := .int _ _) rfl ?_
   refine RX.o (fun w' hw => D.sub rfl rfl (W.i64 (by omega))) ?_
   refine RX.idxW (fun _ h => h) D0 rfl rfl Tryz.underlying24 C35 (by decide) (by omega) (fun b12 o12 h12 q12 r12 => ?_)
   refine RX.norm (by dsimp only [List.set]) ?_
   have r2 := r12
   refine RX.o (fun w' hw => D.loadW rfl Tryz.underlying35 rfl C35 (by decide) r12 (h12 w' hw)) ?_
   refine RX.eff ?_
   refine RS.callv E80 (dcmp _ _ r1 r2 _) rfl rfl (fun e13 w13 A13 => ?_)
   obtain ⟨v13, rfl, x13, A13⟩ := A13
   refine ⟨_, rfl, ?_⟩
   replace hE := Ext.tr hE x13
   replace x4 := Ext.tr x4 x13
   replace D0 := D0.ext x13
   have zw13 := x13.size
   subst A13
   refine RS.norm (by dsimp only [List.set]) ?_
   refine RS.nil ⟨x13, ?_⟩
   refine RX.o (fun w' hw => D.lt rfl rfl) ?_
   refine RX.nil ?_
   refine hK9 _ _ ?_
   try clear hK9
   refine C.ifd rfl (fun c14 => ?_) (fun c14 => ?_)
   ·have hg := c14
    refine wp_seq_k (fun K15 hK15 => ?_)
    refine region ?_
    refine RS.assign (v := .bool false) rfl ?_
    refine RS.nil ?_
    refine hK15 _ _ ?_
    try clear hK15
    refine wp_ret ?_
    refine ret (rs := [.tmp 4]) (vs := [.bool _]) (v := (.bool _)) rfl ⟨rfl, trivial⟩ rfl ?_
    refine ⟨_, rfl, hE, congrArg Value.bool (decide_eq_false ?_).symm⟩
    intro h
    have := h (p - 1).toNat (by omega)
    rw [S.idAt_elt, S.idAt_elt, show (p - 1).toNat + 1 = p.toNat by omega] at this
    exact this hg
   ·have hg := c14
    refine wp_skip ?_
    refine hK8 _ _ ?_
    try clear hK8
    refine region ?_
    refine RS.move (v := .int _ _) rfl ?_
    refine RS.o (D.sub rfl rfl (W.i64 (by omega))) ?_
    refine RS.assign (v := .int _ _) rfl ?_
    refine RS.nil ?_
    change Nx _ _ _ _ _ _ _ _
    refine C.next (p - 1) ⟨rfl, trivial⟩ (by kernel_rfl) ?_ ?_
    ·refine ⟨x4, ⟨by omega, by omega⟩, fun j hj hj2 => ?_⟩
     by_cases hjp : p.toNat ≤ j
     ·exact h2 j hjp hj2
     ·rw [S.idAt_elt, S.idAt_elt, show j + 1 = p.toNat by omega, show j = (p - 1).toNat by omega]
      exact hg
    ·omega
  ·have hl := c7
   refine wp_exit ?_
   refine hK2 _ _ ?_
   try clear hK2
   refine wp_seq_k (fun K16 hK16 => ?_)
   refine region ?_
   refine RS.assign (v := .bool true) rfl ?_
   refine RS.nil ?_
   refine hK16 _ _ ?_
   try clear hK16
   refine wp_ret ?_
   refine ret (rs := [.tmp 4]) (vs := [.bool _]) (v := (.bool _)) rfl ⟨rfl, trivial⟩ rfl ?_
   exact ⟨_, rfl, hE, congrArg Value.bool (decide_eq_true (fun j hj => h2 j (by omega) hj)).symm⟩
theorem cloneID {S0 : Nat → Prop} (a : Option Addr) (n c : Nat) (ids : List Int) (w : World) (D0 : WRow .u8 32 S0 w a n ids) (hc : n ≤ c) (hn : n ≤ 1000) :
  Calls Tryz.prog 53 #[.slice a n c] w (Ret w fun v w' => ∃ a' n' c', v = .slice a' n' c' ∧ n' = n ∧ WOwn w.heap.size w' 35 .u8 32 a' n' c' ids) := by
 replace D0 := D0.weaken (T := fun k => k < w.heap.size) (fun k hk _ => hk)
 have hE := Ext.refl w
 refine enter (args := [.slice a n c]) (l := [.slice a n c, undef, undef, undef, undef, undef, undef, undef]) Tryz.func53 rfl rfl ?_
 refine wp_seq_k (fun K1 hK1 => ?_)
 refine region ?_
 refine RS.assign (v := .slice none 0 0) rfl ?_
 refine RS.nil ?_
 refine hK1 _ _ ?_
 try clear hK1
 refine wp_seq_k (fun K2 hK2 => ?_)
 refine wp_seq_k (fun K3 hK3 => ?_)
 refine region ?_
 refine RS.move (v := .slice _ _ _) rfl ?_
 refine RS.o (D.nilS rfl rfl Tryz.underlying24) ?_
 refine RS.nil ?_
 refine hK3 _ _ ?_
 try clear hK3
 refine C.ifb rfl (fun c4 => ?_) (fun c4 => ?_)
 ·have hc0 := c4
  refine wp_seq_k (fun K5 hK5 => ?_)
  refine region ?_
  refine RS.assign (v := .slice none 0 0) rfl ?_
  refine RS.nil ?_
  refine hK5 _ _ ?_
  try clear hK5
  refine wp_ret ?_
  refine ret (rs := [.tmp 2]) (vs := [.slice _ _ _]) (v := (.slice _ _ _)) rfl ⟨rfl, trivial⟩ rfl ?_
  obtain ⟨rfl, rfl⟩ := D0.none (by decide) hc0
  exact ⟨_, rfl, hE, _, _, _, rfl, rfl, WOwn.nil _ _ _ _ _⟩
 ·refine wp_skip ?_
  refine hK2 _ _ ?_
  try clear hK2
  refine wp_seq_k (fun K6 hK6 => ?_)
  refine region ?_
  refine RS.buildNone Tryz.underlying24 T35 (fun b7 w7 e7 s7 x7 B7 => ?_)
  refine RS.norm (by dsimp only [List.set]) ?_
  replace hE := Ext.tr hE x7
  replace D0 := D0.ext x7
  have zw7 := x7.size
  have O1 : WOwn w.heap.size w7 35 .u8 32 (some ⟨b7, 0, none⟩) 0 0 [] := WOwn.of_blk B7 rfl rfl (by omega) (Bd.nil _) (by decide)
  refine RS.move (v := .slice _ _ _) rfl ?_
  refine RS.appendW O1 D0 rfl rfl Tryz.underlying24 T35 (by simp [ints]) (by decide) (by omega) (by decide) (by omega) (fun a8 c8 w8 N8 x8 => ?_)
  refine RS.norm (by dsimp only [List.set]) ?_
  replace hE := hE.trans (x8.below (by intros; try (first | (intro _ _) | (intro _) | skip); first | omega | (have hq := O1.los _ (by assumption); first | omega | (dsimp only at *; omega))) (by intros; try (first | (intro _ _) | (intro _) | skip); first | omega | (dsimp only at *; omega) | (simp_all; done) | (simp at *; omega)))
  replace D0 := D0.pr x8 (by intros; try (first | (intro _ _) | (intro _) | skip); first | omega | (have hq := O1.los _ (by assumption); first | omega | (dsimp only at *; omega)))
  have zw8 := x8.size
  replace O1 := N8
  refine RS.assign (v := .slice _ _ _) rfl ?_
  refine RS.nil ?_
  refine hK6 _ _ ?_
  try clear hK6
  refine wp_ret ?_
  refine ret (rs := [.tmp 2]) (vs := [.slice _ _ _]) (v := (.slice _ _ _)) rfl ⟨rfl, trivial⟩ rfl ?_
  exact ⟨_, rfl, hE, _, _, _, rfl, Nat.zero_add _, O1⟩
theorem compact (lo : Nat) (a : Option Addr) (n c : Nat) (ids : List Int) (g0 : Nat) (w : World) (O1 : WOwn lo w 35 .u8 32 a n c ids) (hg : n < 2 ∨ a = some ⟨g0, 0, none⟩) (hn : n ≤ 1000) :
  Calls Tryz.prog 81 #[.slice a n c] w (fun e w' => ∃ a' n' c', e = .returned (.slice a' n' c') ∧ Pr (fun k => k = g0) w w' ∧ (n' = n ↔ S.Apart n ids)) := by
 have D0 := O1.row
 have hcap := O1.own.pre
 have hdl := D0.len
 have hE := Pr.refl (fun k => k = g0) w
 refine enter (args := [.slice a n c]) (l := [.slice a n c, undef, undef, undef, undef, undef, undef, undef, undef, undef, undef, undef, undef, undef, undef, undef, undef, undef, undef, undef, undef, undef, undef, undef, undef, undef, undef, undef, undef, undef, undef, undef, undef, undef, undef, undef, undef, undef, undef, undef, undef, undef, undef, undef, undef, undef, undef, undef, undef, undef, undef, undef, undef, undef, undef, undef, undef, undef, undef, undef, undef]) Tryz.func81 rfl rfl ?_
 refine wp_seq_k (fun K1 hK1 => ?_)
 refine region ?_
 refine RS.assign (v := .slice none 0 0) rfl ?_
 refine RS.nil ?_
 refine hK1 _ _ ?_
 try clear hK1
 refine wp_seq_k (fun K2 hK2 => ?_)
 refine wp_seq_k (fun K3 hK3 => ?_)
 refine region ?_
 refine RS.move (v := .slice _ _ _) rfl ?_
 refine RS.o (D.len rfl Tryz.underlying24) ?_
 refine RS.o (D.lt rfl rfl) ?_
 refine RS.nil ?_
 refine hK3 _ _ ?_
 try clear hK3
 refine C.ifd rfl (fun c4 => ?_) (fun c4 => ?_)
 ·have h8 := c4
  refine wp_seq_k (fun K5 hK5 => ?_)
  refine region ?_
  refine RS.move (v := .slice _ _ _) rfl ?_
  refine RS.assign (v := .slice _ _ _) rfl ?_
  refine RS.nil ?_
  refine hK5 _ _ ?_
  try clear hK5
  refine wp_ret ?_
  change bodyPost Tryz.prog Tryz.f81 (fun e w' => ∃ a' n' c', e = .returned (.slice a' n' c') ∧ Pr (fun k => k = g0) w w' ∧ (n' = n ↔ S.Apart n ids)) .ret _ _
  refine ret (rs := [.tmp 2]) (vs := [.slice _ _ _]) (v := (.slice _ _ _)) rfl ⟨rfl, trivial⟩ rfl ?_
  exact ⟨_, _, _, rfl, hE, ⟨fun _ i hi => by omega, fun _ => rfl⟩⟩
 ·have h8 := c4
  refine wp_skip ?_
  refine hK2 _ _ ?_
  try clear hK2
  refine wp_seq_k (fun K6 hK6 => ?_)
  refine wp_seq_k (fun K7 hK7 => ?_)
  obtain rfl : a = some ⟨g0, 0, none⟩ := by rcases hg with h | h; omega; exact h
  refine region ?_
  refine RS.assign (v := .int .i64 1) rfl ?_
  refine RS.nil ?_
  refine hK7 _ _ ?_
  try clear hK7
  refine wp_block ?_
  refine C.loop (A := Int) (fun p => [(3, .int .i64 p)]) [2, 4, 5, 10, 11, 12, 13, 14, 15, 16, 17, 18, 19, 20, 21, 22, 23, 24, 25, 26, 27, 28, 29, 30, 31, 32, 33, 34, 35, 36, 37, 38, 39, 40, 41, 42, 43, 44, 45, 46, 47, 48, 49, 50, 51, 52, 53, 54, 55, 56, 57, 58, 59] (fun p w' => Ext w w' ∧ ((1 ≤ p ∧ p ≤ n) ∧ (∀ j, j < p.toNat - 1 → S.idAt ids (j + 1) ≠ S.idAt ids j))) (fun p => (n - p.toNat)) 1 (by kernel_rfl) ?_ ?_
  ·exact ⟨Ext.refl _, ⟨by omega, by omega⟩, fun j hj => by omega⟩
  ·rintro p j w8 ⟨x8, hI⟩
   replace hE := hE.ext x8
   replace O1 := O1.ext x8
   replace D0 := D0.ext x8
   have zw8 := x8.size
   obtain ⟨h1, h2⟩ := hI
   obtain ⟨k, hk⟩ : ∃ k, k = p := ⟨p, rfl⟩
   subst hk
   refine C.norm (by simp only [upd, junk, List.map_cons, List.map_nil, List.set_cons_succ, List.set_cons_zero]; exact rfl) ?_
   refine wp_seq_k (fun K9 hK9 => ?_)
   refine wp_seq_k (fun K10 hK10 => ?_)
   refine region ?_
   refine RS.move (v := .int _ _) rfl ?_
   refine RS.move (v := .slice _ _ _) rfl ?_
   refine RS.o (D.len rfl Tryz.underlying24) ?_
   refine RS.o (D.lt rfl rfl) ?_
   refine RS.nil ?_
   refine hK10 _ _ ?_
   try clear hK10
   refine C.ifd rfl (fun c11 => ?_) (fun c11 => ?_)
   ·refine wp_skip ?_
    refine hK9 _ _ ?_
    try clear hK9
    refine wp_seq_k (fun K12 hK12 => ?_)
    refine wp_block ?_
    refine wp_seq_k (fun K13 hK13 => ?_)
    refine regionX Ext [(0, .q), (1, .q), (2, .q), (3, .q), (4, .q), (5, .q), (6, .q), (7, .q), (8, .q), (9, .q)] mixed Ext.refl (fun h k => h.tr k) (by kernel_rfl) (fun w14 x14 => ?_)
    replace hE := hE.ext x14
    replace x8 := Ext.tr x8 x14
    replace O1 := O1.ext x14
    replace D0 := D0.ext x14
    have zw14 := x14.size
    refine RX.move (v := .slice _ _ _) rfl ?_
    refine RX.move (v := .int _ _) rfl ?_
    refine RX.idxW (fun _ h => h) D0 rfl rfl Tryz.underlying24 C35 (by decide) (by omega) (fun b15 o15 h15 q15 r15 => ?_)
    refine RX.norm (by dsimp only [List.set]) ?_
    have r1 := r15
    refine RX.o (fun w' hw => D.loadW rfl Tryz.underlying35 rfl C35 (by decide) r15 (h15 w' hw)) ?_
    refine RX.move (v := .slice _ _ _) rfl ?_
    refine RX.move (v := .int _ _) rfl ?_
    refine RX.o (fun w' hw => D.sub rfl rfl (W.i64 (by omega))) ?_
    refine RX.idxW (fun _ h => h) D0 rfl rfl Tryz.underlying24 C35 (by decide) (by omega) (fun b16 o16 h16 q16 r16 => ?_)
    refine RX.norm (by dsimp only [List.set]) ?_
    have r2 := r16
    refine RX.o (fun w' hw => D.loadW rfl Tryz.underlying35 rfl C35 (by decide) r16 (h16 w' hw)) ?_
    refine RX.o (fun w' hw => D.eqI rfl rfl Tryz.underlying35 Tryz.underlying5 C5 (by kernel_rfl) r1.1 r2.1 (by decide)) ?_
    refine RX.nil ?_
    refine hK13 _ _ ?_
    try clear hK13
    refine C.ifb rfl (fun c17 => ?_) (fun c17 => ?_)
    ·have heq := of_decide_eq_true c17
     refine wp_seq_k (fun K18 hK18 => ?_)
     refine region ?_
     refine RS.move (v := .slice _ _ _) rfl ?_
     refine RS.move (v := .int _ _) rfl ?_
     refine RS.o (D.slice (kl := .i64) (kh := .i64) rfl Tryz.underlying24 C35 (by decide) rfl rfl (by omega) (by omega)) ?_
     refine RS.assign (v := .slice _ _ _) rfl ?_
     refine RS.nil ?_
     refine hK18 _ _ ?_
     try clear hK18
     refine wp_seq_k (fun K19 hK19 => ?_)
     refine wp_seq_k (fun K20 hK20 => ?_)
     have hA2 : subA (some ⟨g0, 0, none⟩) k.toNat 32 c = some ⟨g0, k.toNat * 32, none⟩ := by unfold subA; rw [if_neg (by omega)]; simp [add_mk]
     have U1 := O1.ub
     refine region ?_
     refine RS.assign (v := .int .i64 1) rfl ?_
     refine RS.nil ?_
     refine hK20 _ _ ?_
     try clear hK20
     refine wp_block ?_
     refine C.loop (A := Int × Int) (fun p => [(3, .int .i64 p.1), (5, .int .i64 p.2)]) [29, 30, 31, 32, 33, 34, 35, 36, 37, 38, 39, 40, 41, 42, 43, 44, 45, 46, 47, 48, 49, 50, 51, 52, 53] (fun p w' => Pr (fun k => k = g0) w14 w' ∧ (UB w' g0 (32 * n) 35 ∧ (k ≤ p.1 ∧ 1 ≤ p.2 ∧ p.1 + 1 ≤ k + p.2 ∧ p.2 ≤ n - k))) (fun p => (n - p.2.toNat)) (k, 1) (by kernel_rfl) ?_ ?_
     ·exact ⟨Pr.refl _ _, U1, by dsimp only; omega⟩
     ·rintro p j w21 ⟨x21, hI⟩
      replace hE := hE.prn x21 (by intros; try (first | (intro _ _) | (intro _) | skip); first | omega | (dsimp only at *; omega) | (simp_all; done) | (simp at *; omega))
      have zw21 := x21.size
      obtain ⟨k1, k2⟩ := p
      dsimp only at hI
      obtain ⟨U1, g1⟩ := hI
      refine C.norm (by simp only [upd, junk, List.map_cons, List.map_nil, List.set_cons_succ, List.set_cons_zero]; exact rfl) ?_
      refine wp_seq_k (fun K22 hK22 => ?_)
      refine wp_seq_k (fun K23 hK23 => ?_)
      refine region ?_
      refine RS.move (v := .int _ _) rfl ?_
      refine RS.move (v := .slice _ _ _) rfl ?_
      refine RS.o (D.len rfl Tryz.underlying24) ?_
      refine RS.o (D.lt rfl rfl) ?_
      refine RS.nil ?_
      refine hK23 _ _ ?_
      try clear hK23
      refine C.ifd rfl (fun c24 => ?_) (fun c24 => ?_)
      ·refine wp_skip ?_
       refine hK22 _ _ ?_
       try clear hK22
       refine wp_seq_k (fun K25 hK25 => ?_)
       refine wp_block ?_
       refine wp_seq_k (fun K26 hK26 => ?_)
       refine regionX Ext [(0, .q), (1, .q), (2, .q), (3, .q), (4, .q), (5, .q), (6, .q), (7, .q), (8, .q), (9, .q)] mixed Ext.refl (fun h k => h.tr k) (by kernel_rfl) (fun w27 x27 => ?_)
       replace hE := hE.ext x27
       replace x21 := x21.ext x27
       replace U1 := U1.ext x27
       have zw27 := x27.size
       refine RX.move (v := .slice _ _ _) rfl ?_
       refine RX.move (v := .int _ _) rfl ?_
       refine RX.idxU (fun _ h => h) U1 hA2 rfl rfl Tryz.underlying24 C35 (by decide) (by omega) (by omega) (fun u28 o28 g28 h28 r28 => ?_)
       refine RX.norm (by dsimp only [List.set]) ?_
       have r3 := r28
       refine RX.o (fun w' hw => D.loadW rfl Tryz.underlying35 rfl C35 (by decide) r28 (h28 w' hw)) ?_
       refine RX.move (v := .slice _ _ _) rfl ?_
       refine RX.move (v := .int _ _) rfl ?_
       refine RX.o (fun w' hw => D.sub rfl rfl (W.i64 (by omega))) ?_
       refine RX.idxU (fun _ h => h) U1 hA2 rfl rfl Tryz.underlying24 C35 (by decide) (by omega) (by omega) (fun u29 o29 g29 h29 r29 => ?_)
       refine RX.norm (by dsimp only [List.set]) ?_
       have r4 := r29
       refine RX.o (fun w' hw => D.loadW rfl Tryz.underlying35 rfl C35 (by decide) r29 (h29 w' hw)) ?_
       refine RX.o (fun w' hw => D.neI rfl rfl Tryz.underlying35 Tryz.underlying5 C5 (by kernel_rfl) r3.1 r4.1 (by decide)) ?_
       refine RX.nil ?_
       refine hK26 _ _ ?_
       try clear hK26
       refine C.ifb rfl (fun c30 => ?_) (fun c30 => ?_)
       ·refine wp_seq_k (fun K31 hK31 => ?_)
        refine region ?_
        refine RS.move (v := .slice _ _ _) rfl ?_
        refine RS.move (v := .int _ _) rfl ?_
        refine RS.move (v := .slice _ _ _) rfl ?_
        refine RS.move (v := .int _ _) rfl ?_
        refine RS.idxU U1 hA2 rfl rfl Tryz.underlying24 C35 (by decide) (by omega) (by omega) (fun u32 o32 g32 h32 r32 => ?_)
        refine RS.norm (by dsimp only [List.set]) ?_
        have r5 := r32
        refine RS.o (D.loadW rfl Tryz.underlying35 rfl C35 (by decide) r32 h32) ?_
        refine RS.idxU U1 rfl rfl rfl Tryz.underlying24 C35 (by decide) (by omega) (by omega) (fun u33 o33 g33 h33 r33 => ?_)
        refine RS.norm (by dsimp only [List.set]) ?_
        refine RS.storeU U1 rfl rfl C35 (by decide) (by assumption) (by omega) (fun w34 y34 N34 => ?_)
        replace hE := hE.stn y34 (by intros; try (first | (intro _ _) | (intro _) | skip); first | omega | (dsimp only at *; omega) | (simp_all; done) | (simp at *; omega))
        replace x21 := x21.stn y34 (by intros; try (first | (intro _ _) | (intro _) | skip); first | omega | (dsimp only at *; omega) | (simp_all; done) | (simp at *; omega))
        have zw34 := y34.size
        replace U1 := N34
        refine RS.nil ?_
        refine hK31 _ _ ?_
        try clear hK31
        refine region ?_
        refine RS.move (v := .int _ _) rfl ?_
        refine RS.o (D.add rfl rfl (W.i64 (by omega))) ?_
        refine RS.assign (v := .int _ _) rfl ?_
        refine RS.nil ?_
        refine hK25 _ _ ?_
        try clear hK25
        refine region ?_
        refine RS.move (v := .int _ _) rfl ?_
        refine RS.o (D.add rfl rfl (W.i64 (by omega))) ?_
        refine RS.assign (v := .int _ _) rfl ?_
        refine RS.nil ?_
        change Nx _ _ _ _ _ _ _ _
        refine C.next (k1 + 1, k2 + 1) ⟨rfl, rfl, trivial⟩ (by kernel_rfl) ?_ ?_
        ·exact ⟨x21, U1, by dsimp only; omega⟩
        ·dsimp only; omega
       ·refine wp_skip ?_
        refine hK25 _ _ ?_
        try clear hK25
        refine region ?_
        refine RS.move (v := .int _ _) rfl ?_
        refine RS.o (D.add rfl rfl (W.i64 (by omega))) ?_
        refine RS.assign (v := .int _ _) rfl ?_
        refine RS.nil ?_
        change Nx _ _ _ _ _ _ _ _
        refine C.next (k1, k2 + 1) ⟨rfl, rfl, trivial⟩ (by kernel_rfl) ?_ ?_
        ·exact ⟨x21, U1, by dsimp only; omega⟩
        ·dsimp only; omega
      ·refine wp_exit ?_
       refine hK19 _ _ ?_
       try clear hK19
       refine wp_seq_k (fun K35 hK35 => ?_)
       have hA3 : subA (some ⟨g0, 0, none⟩) k1.toNat 32 c = some ⟨g0, k1.toNat * 32, none⟩ := by unfold subA; rw [if_neg (by omega)]; simp [add_mk]
       refine region ?_
       refine RS.move (v := .slice _ _ _) rfl ?_
       refine RS.move (v := .int _ _) rfl ?_
       refine RS.o (D.slice (kl := .i64) (kh := .i64) rfl Tryz.underlying24 C35 (by decide) rfl rfl (by omega) (by omega)) ?_
       refine RS.clearU U1 hA3 rfl Tryz.underlying24 T35 (by intro v hv; obtain ⟨x, hx, rfl⟩ := List.mem_map.1 hv; rw [(List.mem_replicate.1 hx).2]) (by simp [ints]) (by decide) (by omega) (fun w36 y36 N36 => ?_)
       replace hE := hE.stn y36 (by intros; try (first | (intro _ _) | (intro _) | skip); first | omega | (dsimp only at *; omega) | (simp_all; done) | (simp at *; omega))
       have zw36 := y36.size
       replace U1 := N36
       refine RS.nil ?_
       refine hK35 _ _ ?_
       try clear hK35
       refine wp_seq_k (fun K37 hK37 => ?_)
       refine region ?_
       refine RS.move (v := .slice _ _ _) rfl ?_
       refine RS.move (v := .int _ _) rfl ?_
       refine RS.o (D.slice (kl := .i64) (kh := .i64) rfl Tryz.underlying24 C35 (by decide) rfl rfl (by omega) (by omega)) ?_
       refine RS.assign (v := .slice _ _ _) rfl ?_
       refine RS.nil ?_
       refine hK37 _ _ ?_
       try clear hK37
       refine wp_ret ?_
       change bodyPost Tryz.prog Tryz.f81 (fun e w' => ∃ a' n' c', e = .returned (.slice a' n' c') ∧ Pr (fun k => k = g0) w w' ∧ (n' = n ↔ S.Apart n ids)) .ret _ _
       refine ret (rs := [.tmp 2]) (vs := [.slice _ _ _]) (v := (.slice _ _ _)) rfl ⟨rfl, trivial⟩ rfl ?_
       refine ⟨_, _, _, rfl, hE, ⟨fun h => ?_, fun h => ?_⟩⟩
       ·omega
       ·have := h (k.toNat - 1) (by omega)
        rw [S.idAt_elt, S.idAt_elt, show k.toNat - 1 + 1 = k.toNat by omega, show k.toNat - 1 = (k - 1).toNat by omega] at this
        exact (this heq).elim
    ·have hne := of_decide_eq_false c17
     refine wp_skip ?_
     refine hK12 _ _ ?_
     try clear hK12
     refine region ?_
     refine RS.move (v := .int _ _) rfl ?_
     refine RS.o (D.add rfl rfl (W.i64 (by omega))) ?_
     refine RS.assign (v := .int _ _) rfl ?_
     refine RS.nil ?_
     change Nx _ _ _ _ _ _ _ _
     refine C.next (k + 1) ⟨rfl, trivial⟩ (by kernel_rfl) ?_ ?_
     ·refine ⟨x8, ⟨by omega, by omega⟩, fun j hj => ?_⟩
      by_cases hjp : j < k.toNat - 1
      ·exact h2 j hjp
      ·rw [S.idAt_elt, S.idAt_elt, show j + 1 = k.toNat by omega, show j = (k - 1).toNat by omega]
       exact hne
     ·omega
   ·have hlast := c11
    refine wp_exit ?_
    refine hK6 _ _ ?_
    try clear hK6
    refine wp_seq_k (fun K38 hK38 => ?_)
    refine region ?_
    refine RS.move (v := .slice _ _ _) rfl ?_
    refine RS.assign (v := .slice _ _ _) rfl ?_
    refine RS.nil ?_
    refine hK38 _ _ ?_
    try clear hK38
    refine wp_ret ?_
    change bodyPost Tryz.prog Tryz.f81 (fun e w' => ∃ a' n' c', e = .returned (.slice a' n' c') ∧ Pr (fun k => k = g0) w w' ∧ (n' = n ↔ S.Apart n ids)) .ret _ _
    refine ret (rs := [.tmp 2]) (vs := [.slice _ _ _]) (v := (.slice _ _ _)) rfl ⟨rfl, trivial⟩ rfl ?_
    exact ⟨_, _, _, rfl, hE, ⟨fun _ i hi => h2 i (by omega), fun _ => rfl⟩⟩
end Go.Proofs.YtiohpiiiapjblaaGreatDoor.W
