/-
  W8: walks of functions, printed by gen.py from the annotations ann8.py.
-/
import Derived.Test.YtiohpiiiapjblaaDoorW7
import Derived.Test.YtiohpiiiapjblaaDoorS7
namespace Go.Proofs.YtiohpiiiapjblaaDoor.W
open Go.RowKit Go.Proofs.YtiohpiiiapjblaaDoor.G
set_option linter.unusedVariables false
set_option maxRecDepth 20000
set_option maxHeartbeats 8000000
attribute [local irreducible] RS RX

theorem E44 : Enters Tryd.prog 44 := .mk Tryd.func44 (by kernel_rfl) rfl
theorem E81 : Enters Tryd.prog 81 := .mk Tryd.func81 (by kernel_rfl) rfl
theorem E83 : Enters Tryd.prog 83 := .mk Tryd.func83 (by kernel_rfl) rfl
theorem len64 (n : Int) (hn : 247 < n ∧ n < 18446744073709551616) (w : World) :
    Calls Tryd.prog 81 #[.int .u64 n] w (Ret w fun v _ => ∃ L, v = .int .i64 L ∧ (L + 7) / 8 = ((S.blen n : Nat) : Int) ∧ 0 ≤ L ∧ L ≤ 64) := by
  have e32 : (2 : Int) ^ (32 : Int).toNat = 4294967296 := by decide
  have e16 : (2 : Int) ^ (16 : Int).toNat = 65536 := by decide
  have e8 : (2 : Int) ^ (8 : Int).toNat = 256 := by decide
  have hE := Ext.refl w
  refine enter (args := [.int .u64 n]) (l := [.int .u64 n, undef, undef, undef, undef, undef, undef, undef, undef, undef, undef, undef, undef, undef, undef, undef, undef, undef, undef, undef, undef, undef, undef, undef, undef]) Tryd.func81 rfl rfl ?_
  refine wp_seq_k (fun K1 hK1 => ?_)
  refine region ?_
  refine RS.assign (v := .int .i64 0) rfl ?_
  refine RS.nil ?_
  refine hK1 _ _ ?_
  try clear hK1
  refine wp_seq_k (fun K2 hK2 => ?_)
  refine wp_seq_k (fun K3 hK3 => ?_)
  refine region ?_
  refine RS.move (v := .int _ _) rfl ?_
  refine RS.o (D.ge rfl rfl) ?_
  refine RS.nil ?_
  refine hK3 _ _ ?_
  try clear hK3
  refine C.ifd rfl (fun c4 => ?_) (fun c4 => ?_)
  · refine wp_seq_k (fun K5 hK5 => ?_)
    refine region ?_
    refine RS.move (v := .int _ _) rfl ?_
    refine RS.ob (D.shr_u64 rfl rfl (by omega) (by constructor <;> omega)) (fun z6 => ?_)
    refine RS.assign (v := .int _ _) rfl ?_
    refine RS.nil ?_
    refine hK5 _ _ ?_
    try clear hK5
    simp only [e32]
    refine region ?_
    refine RS.assign (v := .int .i64 32) rfl ?_
    refine RS.nil ?_
    refine hK2 _ _ ?_
    try clear hK2
    refine wp_seq_k (fun K7 hK7 => ?_)
    refine wp_seq_k (fun K8 hK8 => ?_)
    refine region ?_
    refine RS.move (v := .int _ _) rfl ?_
    refine RS.o (D.ge rfl rfl) ?_
    refine RS.nil ?_
    refine hK8 _ _ ?_
    try clear hK8
    refine C.ifd rfl (fun c9 => ?_) (fun c9 => ?_)
    · refine wp_seq_k (fun K10 hK10 => ?_)
      refine region ?_
      refine RS.move (v := .int _ _) rfl ?_
      refine RS.ob (D.shr_u64 rfl rfl (by omega) (by constructor <;> omega)) (fun z11 => ?_)
      refine RS.assign (v := .int _ _) rfl ?_
      refine RS.nil ?_
      refine hK10 _ _ ?_
      try clear hK10
      simp only [e16]
      refine region ?_
      refine RS.move (v := .int _ _) rfl ?_
      refine RS.o (D.add rfl rfl (W.i64 (by omega))) ?_
      refine RS.assign (v := .int _ _) rfl ?_
      refine RS.nil ?_
      refine hK7 _ _ ?_
      try clear hK7
      refine wp_seq_k (fun K12 hK12 => ?_)
      refine wp_seq_k (fun K13 hK13 => ?_)
      refine region ?_
      refine RS.move (v := .int _ _) rfl ?_
      refine RS.o (D.ge rfl rfl) ?_
      refine RS.nil ?_
      refine hK13 _ _ ?_
      try clear hK13
      refine C.ifd rfl (fun c14 => ?_) (fun c14 => ?_)
      · refine wp_seq_k (fun K15 hK15 => ?_)
        refine region ?_
        refine RS.move (v := .int _ _) rfl ?_
        refine RS.ob (D.shr_u64 rfl rfl (by omega) (by constructor <;> omega)) (fun z16 => ?_)
        refine RS.assign (v := .int _ _) rfl ?_
        refine RS.nil ?_
        refine hK15 _ _ ?_
        try clear hK15
        simp only [e8]
        refine region ?_
        refine RS.move (v := .int _ _) rfl ?_
        refine RS.o (D.add rfl rfl (W.i64 (by omega))) ?_
        refine RS.assign (v := .int _ _) rfl ?_
        refine RS.nil ?_
        refine hK12 _ _ ?_
        try clear hK12
        refine wp_seq_k (fun K17 hK17 => ?_)
        refine region ?_
        refine RS.move (v := .int _ _) rfl ?_
        refine RS.move (v := .int _ _) rfl ?_
        refine RS.o (D.conv rfl Tryd.underlying24 Tryd.underlying5 (W.u8 (by omega))) ?_
        refine RS.indexStr rfl rfl Tryd.underlying9 (by refine ⟨by omega, ?_⟩; show _ < ((256 : Nat) : Int); omega) (fun v18 q18 r18 => ?_)
        refine RS.norm (by dsimp only [List.set]) ?_
        simp only [lim] at r18
        have ht := S.tab_of q18 (by kernel_rfl) (by omega)
        refine RS.o (D.conv rfl Tryd.underlying5 Tryd.underlying3 (W.i64 (by omega))) ?_
        refine RS.o (D.add rfl rfl (W.i64 (by omega))) ?_
        refine RS.assign (v := .int _ _) rfl ?_
        refine RS.nil ?_
        refine hK17 _ _ ?_
        try clear hK17
        refine wp_ret ?_
        refine ret (rs := [.tmp 2]) (vs := [.int _ _]) (v := (.int _ _)) rfl ⟨rfl, trivial⟩ rfl ?_
        refine ⟨_, rfl, hE, _, rfl, S.len_big n _ 7 (n / 4294967296 / 65536 / 256) v18 (by show n / 4294967296 / 65536 / 256 = n / 72057594037927936; omega) (by omega) (by omega) (by omega) (by omega) (by omega), by omega, by omega⟩
      · refine wp_skip ?_
        refine hK12 _ _ ?_
        try clear hK12
        refine wp_seq_k (fun K19 hK19 => ?_)
        refine region ?_
        refine RS.move (v := .int _ _) rfl ?_
        refine RS.move (v := .int _ _) rfl ?_
        refine RS.o (D.conv rfl Tryd.underlying24 Tryd.underlying5 (W.u8 (by omega))) ?_
        refine RS.indexStr rfl rfl Tryd.underlying9 (by refine ⟨by omega, ?_⟩; show _ < ((256 : Nat) : Int); omega) (fun v20 q20 r20 => ?_)
        refine RS.norm (by dsimp only [List.set]) ?_
        simp only [lim] at r20
        have ht := S.tab_of q20 (by kernel_rfl) (by omega)
        refine RS.o (D.conv rfl Tryd.underlying5 Tryd.underlying3 (W.i64 (by omega))) ?_
        refine RS.o (D.add rfl rfl (W.i64 (by omega))) ?_
        refine RS.assign (v := .int _ _) rfl ?_
        refine RS.nil ?_
        refine hK19 _ _ ?_
        try clear hK19
        refine wp_ret ?_
        refine ret (rs := [.tmp 2]) (vs := [.int _ _]) (v := (.int _ _)) rfl ⟨rfl, trivial⟩ rfl ?_
        refine ⟨_, rfl, hE, _, rfl, S.len_big n _ 6 (n / 4294967296 / 65536) v20 (by show n / 4294967296 / 65536 = n / 281474976710656; omega) (by omega) (by omega) (by omega) (by omega) (by omega), by omega, by omega⟩
    · refine wp_skip ?_
      refine hK7 _ _ ?_
      try clear hK7
      refine wp_seq_k (fun K21 hK21 => ?_)
      refine wp_seq_k (fun K22 hK22 => ?_)
      refine region ?_
      refine RS.move (v := .int _ _) rfl ?_
      refine RS.o (D.ge rfl rfl) ?_
      refine RS.nil ?_
      refine hK22 _ _ ?_
      try clear hK22
      refine C.ifd rfl (fun c23 => ?_) (fun c23 => ?_)
      · refine wp_seq_k (fun K24 hK24 => ?_)
        refine region ?_
        refine RS.move (v := .int _ _) rfl ?_
        refine RS.ob (D.shr_u64 rfl rfl (by omega) (by constructor <;> omega)) (fun z25 => ?_)
        refine RS.assign (v := .int _ _) rfl ?_
        refine RS.nil ?_
        refine hK24 _ _ ?_
        try clear hK24
        simp only [e8]
        refine region ?_
        refine RS.move (v := .int _ _) rfl ?_
        refine RS.o (D.add rfl rfl (W.i64 (by omega))) ?_
        refine RS.assign (v := .int _ _) rfl ?_
        refine RS.nil ?_
        refine hK21 _ _ ?_
        try clear hK21
        refine wp_seq_k (fun K26 hK26 => ?_)
        refine region ?_
        refine RS.move (v := .int _ _) rfl ?_
        refine RS.move (v := .int _ _) rfl ?_
        refine RS.o (D.conv rfl Tryd.underlying24 Tryd.underlying5 (W.u8 (by omega))) ?_
        refine RS.indexStr rfl rfl Tryd.underlying9 (by refine ⟨by omega, ?_⟩; show _ < ((256 : Nat) : Int); omega) (fun v27 q27 r27 => ?_)
        refine RS.norm (by dsimp only [List.set]) ?_
        simp only [lim] at r27
        have ht := S.tab_of q27 (by kernel_rfl) (by omega)
        refine RS.o (D.conv rfl Tryd.underlying5 Tryd.underlying3 (W.i64 (by omega))) ?_
        refine RS.o (D.add rfl rfl (W.i64 (by omega))) ?_
        refine RS.assign (v := .int _ _) rfl ?_
        refine RS.nil ?_
        refine hK26 _ _ ?_
        try clear hK26
        refine wp_ret ?_
        refine ret (rs := [.tmp 2]) (vs := [.int _ _]) (v := (.int _ _)) rfl ⟨rfl, trivial⟩ rfl ?_
        refine ⟨_, rfl, hE, _, rfl, S.len_big n _ 5 (n / 4294967296 / 256) v27 (by show n / 4294967296 / 256 = n / 1099511627776; omega) (by omega) (by omega) (by omega) (by omega) (by omega), by omega, by omega⟩
      · refine wp_skip ?_
        refine hK21 _ _ ?_
        try clear hK21
        refine wp_seq_k (fun K28 hK28 => ?_)
        refine region ?_
        refine RS.move (v := .int _ _) rfl ?_
        refine RS.move (v := .int _ _) rfl ?_
        refine RS.o (D.conv rfl Tryd.underlying24 Tryd.underlying5 (W.u8 (by omega))) ?_
        refine RS.indexStr rfl rfl Tryd.underlying9 (by refine ⟨by omega, ?_⟩; show _ < ((256 : Nat) : Int); omega) (fun v29 q29 r29 => ?_)
        refine RS.norm (by dsimp only [List.set]) ?_
        simp only [lim] at r29
        have ht := S.tab_of q29 (by kernel_rfl) (by omega)
        refine RS.o (D.conv rfl Tryd.underlying5 Tryd.underlying3 (W.i64 (by omega))) ?_
        refine RS.o (D.add rfl rfl (W.i64 (by omega))) ?_
        refine RS.assign (v := .int _ _) rfl ?_
        refine RS.nil ?_
        refine hK28 _ _ ?_
        try clear hK28
        refine wp_ret ?_
        refine ret (rs := [.tmp 2]) (vs := [.int _ _]) (v := (.int _ _)) rfl ⟨rfl, trivial⟩ rfl ?_
        refine ⟨_, rfl, hE, _, rfl, S.len_big n _ 4 (n / 4294967296) v29 (by show n / 4294967296 = n / 4294967296; omega) (by omega) (by omega) (by omega) (by omega) (by omega), by omega, by omega⟩
  · refine wp_skip ?_
    refine hK2 _ _ ?_
    try clear hK2
    refine wp_seq_k (fun K30 hK30 => ?_)
    refine wp_seq_k (fun K31 hK31 => ?_)
    refine region ?_
    refine RS.move (v := .int _ _) rfl ?_
    refine RS.o (D.ge rfl rfl) ?_
    refine RS.nil ?_
    refine hK31 _ _ ?_
    try clear hK31
    refine C.ifd rfl (fun c32 => ?_) (fun c32 => ?_)
    · refine wp_seq_k (fun K33 hK33 => ?_)
      refine region ?_
      refine RS.move (v := .int _ _) rfl ?_
      refine RS.ob (D.shr_u64 rfl rfl (by omega) (by constructor <;> omega)) (fun z34 => ?_)
      refine RS.assign (v := .int _ _) rfl ?_
      refine RS.nil ?_
      refine hK33 _ _ ?_
      try clear hK33
      simp only [e16]
      refine region ?_
      refine RS.move (v := .int _ _) rfl ?_
      refine RS.o (D.add rfl rfl (W.i64 (by omega))) ?_
      refine RS.assign (v := .int _ _) rfl ?_
      refine RS.nil ?_
      refine hK30 _ _ ?_
      try clear hK30
      refine wp_seq_k (fun K35 hK35 => ?_)
      refine wp_seq_k (fun K36 hK36 => ?_)
      refine region ?_
      refine RS.move (v := .int _ _) rfl ?_
      refine RS.o (D.ge rfl rfl) ?_
      refine RS.nil ?_
      refine hK36 _ _ ?_
      try clear hK36
      refine C.ifd rfl (fun c37 => ?_) (fun c37 => ?_)
      · refine wp_seq_k (fun K38 hK38 => ?_)
        refine region ?_
        refine RS.move (v := .int _ _) rfl ?_
        refine RS.ob (D.shr_u64 rfl rfl (by omega) (by constructor <;> omega)) (fun z39 => ?_)
        refine RS.assign (v := .int _ _) rfl ?_
        refine RS.nil ?_
        refine hK38 _ _ ?_
        try clear hK38
        simp only [e8]
        refine region ?_
        refine RS.move (v := .int _ _) rfl ?_
        refine RS.o (D.add rfl rfl (W.i64 (by omega))) ?_
        refine RS.assign (v := .int _ _) rfl ?_
        refine RS.nil ?_
        refine hK35 _ _ ?_
        try clear hK35
        refine wp_seq_k (fun K40 hK40 => ?_)
        refine region ?_
        refine RS.move (v := .int _ _) rfl ?_
        refine RS.move (v := .int _ _) rfl ?_
        refine RS.o (D.conv rfl Tryd.underlying24 Tryd.underlying5 (W.u8 (by omega))) ?_
        refine RS.indexStr rfl rfl Tryd.underlying9 (by refine ⟨by omega, ?_⟩; show _ < ((256 : Nat) : Int); omega) (fun v41 q41 r41 => ?_)
        refine RS.norm (by dsimp only [List.set]) ?_
        simp only [lim] at r41
        have ht := S.tab_of q41 (by kernel_rfl) (by omega)
        refine RS.o (D.conv rfl Tryd.underlying5 Tryd.underlying3 (W.i64 (by omega))) ?_
        refine RS.o (D.add rfl rfl (W.i64 (by omega))) ?_
        refine RS.assign (v := .int _ _) rfl ?_
        refine RS.nil ?_
        refine hK40 _ _ ?_
        try clear hK40
        refine wp_ret ?_
        refine ret (rs := [.tmp 2]) (vs := [.int _ _]) (v := (.int _ _)) rfl ⟨rfl, trivial⟩ rfl ?_
        refine ⟨_, rfl, hE, _, rfl, S.len_big n _ 3 (n / 65536 / 256) v41 (by show n / 65536 / 256 = n / 16777216; omega) (by omega) (by omega) (by omega) (by omega) (by omega), by omega, by omega⟩
      · refine wp_skip ?_
        refine hK35 _ _ ?_
        try clear hK35
        refine wp_seq_k (fun K42 hK42 => ?_)
        refine region ?_
        refine RS.move (v := .int _ _) rfl ?_
        refine RS.move (v := .int _ _) rfl ?_
        refine RS.o (D.conv rfl Tryd.underlying24 Tryd.underlying5 (W.u8 (by omega))) ?_
        refine RS.indexStr rfl rfl Tryd.underlying9 (by refine ⟨by omega, ?_⟩; show _ < ((256 : Nat) : Int); omega) (fun v43 q43 r43 => ?_)
        refine RS.norm (by dsimp only [List.set]) ?_
        simp only [lim] at r43
        have ht := S.tab_of q43 (by kernel_rfl) (by omega)
        refine RS.o (D.conv rfl Tryd.underlying5 Tryd.underlying3 (W.i64 (by omega))) ?_
        refine RS.o (D.add rfl rfl (W.i64 (by omega))) ?_
        refine RS.assign (v := .int _ _) rfl ?_
        refine RS.nil ?_
        refine hK42 _ _ ?_
        try clear hK42
        refine wp_ret ?_
        refine ret (rs := [.tmp 2]) (vs := [.int _ _]) (v := (.int _ _)) rfl ⟨rfl, trivial⟩ rfl ?_
        refine ⟨_, rfl, hE, _, rfl, S.len_big n _ 2 (n / 65536) v43 (by show n / 65536 = n / 65536; omega) (by omega) (by omega) (by omega) (by omega) (by omega), by omega, by omega⟩
    · refine wp_skip ?_
      refine hK30 _ _ ?_
      try clear hK30
      refine wp_seq_k (fun K44 hK44 => ?_)
      refine wp_seq_k (fun K45 hK45 => ?_)
      refine region ?_
      refine RS.move (v := .int _ _) rfl ?_
      refine RS.o (D.ge rfl rfl) ?_
      refine RS.nil ?_
      refine hK45 _ _ ?_
      try clear hK45
      refine C.ifd rfl (fun c46 => ?_) (fun c46 => ?_)
      · refine wp_seq_k (fun K47 hK47 => ?_)
        refine region ?_
        refine RS.move (v := .int _ _) rfl ?_
        refine RS.ob (D.shr_u64 rfl rfl (by omega) (by constructor <;> omega)) (fun z48 => ?_)
        refine RS.assign (v := .int _ _) rfl ?_
        refine RS.nil ?_
        refine hK47 _ _ ?_
        try clear hK47
        simp only [e8]
        refine region ?_
        refine RS.move (v := .int _ _) rfl ?_
        refine RS.o (D.add rfl rfl (W.i64 (by omega))) ?_
        refine RS.assign (v := .int _ _) rfl ?_
        refine RS.nil ?_
        refine hK44 _ _ ?_
        try clear hK44
        refine wp_seq_k (fun K49 hK49 => ?_)
        refine region ?_
        refine RS.move (v := .int _ _) rfl ?_
        refine RS.move (v := .int _ _) rfl ?_
        refine RS.o (D.conv rfl Tryd.underlying24 Tryd.underlying5 (W.u8 (by omega))) ?_
        refine RS.indexStr rfl rfl Tryd.underlying9 (by refine ⟨by omega, ?_⟩; show _ < ((256 : Nat) : Int); omega) (fun v50 q50 r50 => ?_)
        refine RS.norm (by dsimp only [List.set]) ?_
        simp only [lim] at r50
        have ht := S.tab_of q50 (by kernel_rfl) (by omega)
        refine RS.o (D.conv rfl Tryd.underlying5 Tryd.underlying3 (W.i64 (by omega))) ?_
        refine RS.o (D.add rfl rfl (W.i64 (by omega))) ?_
        refine RS.assign (v := .int _ _) rfl ?_
        refine RS.nil ?_
        refine hK49 _ _ ?_
        try clear hK49
        refine wp_ret ?_
        refine ret (rs := [.tmp 2]) (vs := [.int _ _]) (v := (.int _ _)) rfl ⟨rfl, trivial⟩ rfl ?_
        refine ⟨_, rfl, hE, _, rfl, S.len_big n _ 1 (n / 256) v50 (by show n / 256 = n / 256; omega) (by omega) (by omega) (by omega) (by omega) (by omega), by omega, by omega⟩
      · refine wp_skip ?_
        refine hK44 _ _ ?_
        try clear hK44
        refine wp_seq_k (fun K51 hK51 => ?_)
        refine region ?_
        refine RS.move (v := .int _ _) rfl ?_
        refine RS.move (v := .int _ _) rfl ?_
        refine RS.o (D.conv rfl Tryd.underlying24 Tryd.underlying5 (W.u8 (by omega))) ?_
        refine RS.indexStr rfl rfl Tryd.underlying9 (by refine ⟨by omega, ?_⟩; show _ < ((256 : Nat) : Int); omega) (fun v52 q52 r52 => ?_)
        refine RS.norm (by dsimp only [List.set]) ?_
        simp only [lim] at r52
        have ht := S.tab_of q52 (by kernel_rfl) (by omega)
        refine RS.o (D.conv rfl Tryd.underlying5 Tryd.underlying3 (W.i64 (by omega))) ?_
        refine RS.o (D.add rfl rfl (W.i64 (by omega))) ?_
        refine RS.assign (v := .int _ _) rfl ?_
        refine RS.nil ?_
        refine hK51 _ _ ?_
        try clear hK51
        refine wp_ret ?_
        refine ret (rs := [.tmp 2]) (vs := [.int _ _]) (v := (.int _ _)) rfl ⟨rfl, trivial⟩ rfl ?_
        refine ⟨_, rfl, hE, _, rfl, S.len_big n _ 0 (n) v52 (by show n = n / 1; omega) (by omega) (by omega) (by omega) (by omega) (by omega), by omega, by omega⟩

theorem numW (n : Int) (hn : 0 ≤ n ∧ n < 18446744073709551616) (w : World) :
    Calls Tryd.prog 44 #[.int .u64 n] w (Ret w fun v w' => ∃ a' n' c', v = .slice a' n' c' ∧ IOwn w.heap.size w' 5 .u8 a' n' c' (S.numS n)) := by
  have hE := Ext.refl w
  refine enter (args := [.int .u64 n]) (l := [.int .u64 n, undef, undef, undef, undef, undef, undef, undef, undef, undef, undef, undef, undef, undef, undef, undef, undef, undef, undef, undef, undef, undef, undef, undef, undef, undef, undef, undef, undef, undef, undef, undef, undef, undef, undef, undef, undef, undef, undef]) Tryd.func44 rfl rfl ?_
  refine wp_seq_k (fun K1 hK1 => ?_)
  refine region ?_
  refine RS.assign (v := .slice none 0 0) rfl ?_
  refine RS.nil ?_
  refine hK1 _ _ ?_
  try clear hK1
  refine wp_seq_k (fun K2 hK2 => ?_)
  refine wp_seq_k (fun K3 hK3 => ?_)
  refine region ?_
  refine RS.move (v := .int _ _) rfl ?_
  refine RS.o (D.le rfl rfl) ?_
  refine RS.nil ?_
  refine hK3 _ _ ?_
  try clear hK3
  refine C.ifd rfl (fun c4 => ?_) (fun c4 => ?_)
  · have hs := c4
    refine wp_seq_k (fun K5 hK5 => ?_)
    refine region ?_
    refine RS.move (v := .int _ _) rfl ?_
    refine RS.o (D.conv rfl Tryd.underlying24 Tryd.underlying5 (W.u8 (by omega))) ?_
    refine RS.buildSlice (xs := [.tmp 9]) (vs := [.int _ _]) (cs := [.int _ _]) Tryd.underlying35 T5 (by decide) rfl rfl rfl rfl rfl rfl (by intro v hv; simp only [List.mem_cons, List.not_mem_nil, or_false] at hv; subst hv; rfl) rfl (fun b6 w6 e6 s6 x6 B6 => ?_)
    refine RS.norm (by dsimp only [List.set]) ?_
    replace hE := Ext.tr hE x6
    have zw6 := x6.size
    have O1 : IOwn w.heap.size w6 5 .u8 (some ⟨b6, 0, none⟩) 1 1 [_] := IOwn.of_blk B6 rfl rfl (by omega) (.cons (by simp only [lim]; omega) (.nil _)) (by decide)
    refine RS.assign (v := .slice _ _ _) rfl ?_
    refine RS.nil ?_
    refine hK5 _ _ ?_
    try clear hK5
    refine wp_ret ?_
    refine ret (rs := [.tmp 2]) (vs := [.slice _ _ _]) (v := (.slice _ _ _)) rfl ⟨rfl, trivial⟩ rfl ?_
    rw [S.numS_small n (by omega)]
    exact ⟨_, rfl, hE, _, _, _, rfl, O1⟩
  · have hs := c4
    refine wp_skip ?_
    refine hK2 _ _ ?_
    try clear hK2
    refine wp_seq_k (fun K7 hK7 => ?_)
    refine region ?_
    refine RS.move (v := .int _ _) rfl ?_
    refine RS.call E81 (len64 _ (by omega) _) rfl (fun v8 w8 x8 A8 => ?_)
    replace hE := Ext.tr hE x8
    have zw8 := x8.size
    obtain ⟨L, rfl, hL, hL1⟩ := A8
    have hbl := S.blen_le n
    refine RS.norm (by dsimp only [List.set]) ?_
    refine RS.o (D.add rfl rfl (W.i64 (by omega))) ?_
    refine RS.o (D.quo rfl rfl (by omega) (by omega) (W.i64 (by omega))) ?_
    refine RS.assign (v := .int _ _) rfl ?_
    refine RS.nil ?_
    refine hK7 _ _ ?_
    try clear hK7
    refine wp_seq_k (fun K9 hK9 => ?_)
    rw [hL]
    refine region ?_
    refine RS.move (v := .int _ _) rfl ?_
    refine RS.o (D.add rfl rfl (W.i64 (by omega))) ?_
    refine RS.make rfl rfl Tryd.underlying35 T5 (by omega) (by omega) (by omega) (fun b10 w10 e10 s10 x10 B10 => ?_)
    refine RS.norm (by dsimp only [List.set]) ?_
    replace hE := Ext.tr hE x10
    have zw10 := x10.size
    have emk : ((S.blen n : Int) + 1).toNat * 1 = S.blen n + 1 := by omega
    rw [emk, S.made_ints] at B10
    have O1 : IOwn w.heap.size w10 5 .u8 (some ⟨b10, 0, none⟩) ((S.blen n : Int) + 1).toNat ((S.blen n : Int) + 1).toNat (List.replicate (S.blen n + 1) 0) := IOwn.of_blk B10 rfl (by rw [List.length_replicate]; omega) (by omega) (Bd.zeros _ _) (by omega)
    refine RS.assign (v := .slice _ _ _) rfl ?_
    refine RS.nil ?_
    refine hK9 _ _ ?_
    try clear hK9
    refine wp_seq_k (fun K11 hK11 => ?_)
    refine region ?_
    refine RS.move (v := .slice _ _ _) rfl ?_
    refine RS.move (v := .int _ _) rfl ?_
    refine RS.o (D.add rfl rfl (W.i64 (by omega))) ?_
    refine RS.o (D.conv rfl Tryd.underlying3 Tryd.underlying5 (W.u8 (by omega))) ?_
    refine RS.o (D.indexAddr rfl rfl Tryd.underlying35 C5 (by decide) rfl (by omega)) ?_
    refine RS.storeI O1 rfl rfl C5 (by omega) (by simp only [lim]; omega) (fun w12 y12 N12 => ?_)
    replace hE := hE.trans (y12.below (by intros; try (first | (intro _ _) | (intro _) | skip); first | omega | (dsimp only at *; omega) | (simp_all; done) | (simp at *; omega)))
    have zw12 := y12.size
    replace O1 := N12
    refine RS.nil ?_
    refine hK11 _ _ ?_
    try clear hK11
    refine wp_seq_k (fun K13 hK13 => ?_)
    refine wp_seq_k (fun K14 hK14 => ?_)
    refine region ?_
    refine RS.move (v := .int _ _) rfl ?_
    refine RS.move (v := .int .i64 0) rfl ?_
    refine RS.nil ?_
    refine hK14 _ _ ?_
    try clear hK14
    refine wp_block ?_
    refine C.loop (A := Int) (fun p => [(24, .int .i64 p)]) [5, 25, 26, 27, 28, 29, 30, 31, 32, 33, 34, 35, 36, 37] (fun p w' => Pr (fun k => k = b10) w12 w' ∧ ((0 ≤ p ∧ p ≤ (S.blen n : Int)) ∧ IOwn w.heap.size w' 5 .u8 (some ⟨b10, 0, none⟩) ((S.blen n : Int) + 1).toNat ((S.blen n : Int) + 1).toNat (S.numP n p.toNat))) (fun p => (S.blen n - p.toNat)) 0 (by kernel_rfl) ?_ ?_
    · refine ⟨Pr.refl _ _, ⟨by omega, by omega⟩, ?_⟩
      rw [show (0 : Int).toNat = 0 from rfl, ← S.numP_first]
      exact O1
    · rintro p j w15 ⟨x15, hI⟩
      replace hE := hE.trans (x15.below (by intros; try (first | (intro _ _) | (intro _) | skip); first | omega | (dsimp only at *; omega) | (simp_all; done) | (simp at *; omega)) (by intros; try (first | (intro _ _) | (intro _) | skip); first | omega | (dsimp only at *; omega) | (simp_all; done) | (simp at *; omega)))
      have zw15 := x15.size
      obtain ⟨h1, O1⟩ := hI
      refine C.norm (by simp only [upd, junk, List.map_cons, List.map_nil, List.set_cons_succ, List.set_cons_zero]; exact rfl) ?_
      refine wp_seq_k (fun K16 hK16 => ?_)
      refine region ?_
      refine RS.o (D.lt rfl rfl) ?_
      refine RS.nil ?_
      refine hK16 _ _ ?_
      try clear hK16
      refine wp_seq_k (fun K17 hK17 => ?_)
      refine C.ifd rfl (fun c18 => ?_) (fun c18 => ?_)
      · refine wp_skip ?_
        refine hK17 _ _ ?_
        try clear hK17
        refine wp_seq_k (fun K19 hK19 => ?_)
        refine wp_block ?_
        refine wp_seq_k (fun K20 hK20 => ?_)
        refine region ?_
        refine RS.move (v := .int _ _) rfl ?_
        refine RS.assign (v := .int _ _) rfl ?_
        refine RS.nil ?_
        refine hK20 _ _ ?_
        try clear hK20
        refine region ?_
        refine RS.move (v := .slice _ _ _) rfl ?_
        refine RS.move (v := .int _ _) rfl ?_
        refine RS.move (v := .int _ _) rfl ?_
        refine RS.o (D.sub rfl rfl (W.i64 (by omega))) ?_
        refine RS.move (v := .int _ _) rfl ?_
        refine RS.move (v := .int _ _) rfl ?_
        refine RS.o (D.mul rfl rfl (W.i64 (by omega))) ?_
        refine RS.ob (D.shr_u64 rfl rfl (by omega) (by constructor <;> omega)) (fun z21 => ?_)
        refine RS.o (D.conv rfl Tryd.underlying24 Tryd.underlying5 (W.u8m _)) ?_
        refine RS.o (D.indexAddr rfl rfl Tryd.underlying35 C5 (by decide) rfl (by omega)) ?_
        refine RS.storeI O1 rfl rfl C5 (by omega) (by simp only [lim]; omega) (fun w22 y22 N22 => ?_)
        replace hE := hE.trans (y22.below (by intros; try (first | (intro _ _) | (intro _) | skip); first | omega | (dsimp only at *; omega) | (simp_all; done) | (simp at *; omega)))
        replace x15 := x15.stn y22 (by intros; try (first | (intro _ _) | (intro _) | skip); first | omega | (dsimp only at *; omega) | (simp_all; done) | (simp at *; omega))
        have zw22 := y22.size
        replace O1 := N22
        refine RS.nil ?_
        refine hK19 _ _ ?_
        try clear hK19
        refine region ?_
        refine RS.o (D.add rfl rfl (W.i64 (by omega))) ?_
        refine RS.move (v := .int _ _) rfl ?_
        refine RS.nil ?_
        change Nx _ _ _ _ _ _ _ _
        refine C.next (p + 1) ⟨rfl, trivial⟩ (by kernel_rfl) ?_ ?_
        · refine ⟨x15, ⟨by omega, by omega⟩, ?_⟩
          rw [show (p + 1).toNat = p.toNat + 1 by omega, ← S.numP_step n p.toNat (by omega)]
          rw [show S.blen n - p.toNat = ((S.blen n : Int) - p).toNat by omega, show 8 * p.toNat = (8 * p).toNat by omega]
          exact O1
        · omega
      · refine wp_exit ?_
        refine hK13 _ _ ?_
        try clear hK13
        refine wp_seq_k (fun K23 hK23 => ?_)
        refine region ?_
        refine RS.move (v := .slice _ _ _) rfl ?_
        refine RS.assign (v := .slice _ _ _) rfl ?_
        refine RS.nil ?_
        refine hK23 _ _ ?_
        try clear hK23
        refine wp_ret ?_
        refine ret (rs := [.tmp 2]) (vs := [.slice _ _ _]) (v := (.slice _ _ _)) rfl ⟨rfl, trivial⟩ rfl ?_
        rw [show p.toNat = S.blen n by omega, S.numP_all n (by omega)] at O1
        exact ⟨_, rfl, hE, _, _, _, rfl, O1⟩

theorem numR (n : Int) (hn : 0 ≤ n ∧ n < 18446744073709551616) (w : World) :
    Calls Tryd.prog 83 #[.int .u64 n] w (Ret w fun v w' => ∃ a' n' c', v = .slice a' n' c' ∧ IOwn w.heap.size w' 5 .u8 a' n' c' (S.numS n)) := by
  have hE := Ext.refl w
  refine enter (args := [.int .u64 n]) (l := [.int .u64 n, undef, undef, undef, undef, undef, undef, undef, undef, undef, undef, undef, undef, undef, undef, undef, undef, undef, undef, undef, undef, undef, undef, undef, undef, undef, undef, undef, undef, undef, undef, undef, undef, undef, undef, undef, undef, undef, undef, undef, undef]) Tryd.func83 rfl rfl ?_
  refine wp_seq_k (fun K1 hK1 => ?_)
  refine region ?_
  refine RS.assign (v := .slice none 0 0) rfl ?_
  refine RS.nil ?_
  refine hK1 _ _ ?_
  try clear hK1
  refine wp_seq_k (fun K2 hK2 => ?_)
  refine wp_seq_k (fun K3 hK3 => ?_)
  refine region ?_
  refine RS.move (v := .int _ _) rfl ?_
  refine RS.o (D.le rfl rfl) ?_
  refine RS.nil ?_
  refine hK3 _ _ ?_
  try clear hK3
  refine C.ifd rfl (fun c4 => ?_) (fun c4 => ?_)
  · have hs := c4
    refine wp_seq_k (fun K5 hK5 => ?_)
    refine region ?_
    refine RS.move (v := .int _ _) rfl ?_
    refine RS.o (D.conv rfl Tryd.underlying24 Tryd.underlying5 (W.u8 (by omega))) ?_
    refine RS.buildSlice (xs := [.tmp 9]) (vs := [.int _ _]) (cs := [.int _ _]) Tryd.underlying35 T5 (by decide) rfl rfl rfl rfl rfl rfl (by intro v hv; simp only [List.mem_cons, List.not_mem_nil, or_false] at hv; subst hv; rfl) rfl (fun b6 w6 e6 s6 x6 B6 => ?_)
    refine RS.norm (by dsimp only [List.set]) ?_
    replace hE := Ext.tr hE x6
    have zw6 := x6.size
    have O1 : IOwn w.heap.size w6 5 .u8 (some ⟨b6, 0, none⟩) 1 1 [_] := IOwn.of_blk B6 rfl rfl (by omega) (.cons (by simp only [lim]; omega) (.nil _)) (by decide)
    refine RS.assign (v := .slice _ _ _) rfl ?_
    refine RS.nil ?_
    refine hK5 _ _ ?_
    try clear hK5
    refine wp_ret ?_
    refine ret (rs := [.tmp 2]) (vs := [.slice _ _ _]) (v := (.slice _ _ _)) rfl ⟨rfl, trivial⟩ rfl ?_
    rw [S.numS_small n (by omega)]
    exact ⟨_, rfl, hE, _, _, _, rfl, O1⟩
  · have hs := c4
    refine wp_skip ?_
    refine hK2 _ _ ?_
    try clear hK2
    refine wp_seq_k (fun K7 hK7 => ?_)
    refine region ?_
    refine RS.assign (v := .slice none 0 0) rfl ?_
    refine RS.nil ?_
    refine hK7 _ _ ?_
    try clear hK7
    refine wp_seq_k (fun K8 hK8 => ?_)
    refine wp_block ?_
    refine C.loop (A := Int × Option Addr × Nat × Nat × List Int) (fun p => [(0, .int .u64 p.1), (3, .slice p.2.1 p.2.2.1 p.2.2.2.1)]) [11, 12, 13, 14, 15, 16, 17, 18, 19, 20] (fun p w' => Pr (fun k => w.heap.size ≤ k) w w' ∧ ((0 ≤ p.1 ∧ p.1 < 18446744073709551616) ∧ p.2.2.1 ≤ 8 ∧ p.2.2.2.2 ++ S.leK (S.blen p.1) p.1 = S.leK (S.blen n) n ∧ IOwn w.heap.size w' 5 .u8 p.2.1 p.2.2.1 p.2.2.2.1 p.2.2.2.2)) (fun p => p.1.toNat) (n, none, 0, 0, []) (by kernel_rfl) ?_ ?_
    · exact ⟨Pr.refl _ _, hn, by dsimp only; omega, rfl, IOwn.nil _ _ _ _⟩
    · rintro p j w9 ⟨x9, hI⟩
      replace hE := hE.trans (x9.below (by intros; try (first | (intro _ _) | (intro _) | skip); first | omega | (dsimp only at *; omega) | (simp_all; done) | (simp at *; omega)) (by intros; try (first | (intro _ _) | (intro _) | skip); first | omega | (dsimp only at *; omega) | (simp_all; done) | (simp at *; omega)))
      have zw9 := x9.size
      obtain ⟨m, ao, no, co, ds⟩ := p
      dsimp only at hI
      obtain ⟨h1, hn8, h2, O1⟩ := hI
      have hdl := O1.len
      refine C.norm (by simp only [upd, junk, List.map_cons, List.map_nil, List.set_cons_succ, List.set_cons_zero]; exact rfl) ?_
      refine wp_seq_k (fun K10 hK10 => ?_)
      refine wp_seq_k (fun K11 hK11 => ?_)
      refine region ?_
      refine RS.move (v := .int _ _) rfl ?_
      refine RS.o (D.gt rfl rfl) ?_
      refine RS.nil ?_
      refine hK11 _ _ ?_
      try clear hK11
      refine C.ifd rfl (fun c12 => ?_) (fun c12 => ?_)
      · refine wp_skip ?_
        refine hK10 _ _ ?_
        try clear hK10
        refine wp_block ?_
        refine wp_seq_k (fun K13 hK13 => ?_)
        refine region ?_
        refine RS.move (v := .slice _ _ _) rfl ?_
        refine RS.move (v := .int _ _) rfl ?_
        refine RS.o (D.rem rfl rfl (by omega) (by omega)) ?_
        refine RS.o (D.conv rfl Tryd.underlying24 Tryd.underlying5 (W.u8 (by omega))) ?_
        refine RS.buildSlice (xs := [.tmp 16]) (vs := [.int _ _]) (cs := [.int _ _]) Tryd.underlying35 T5 (by decide) rfl rfl rfl rfl rfl rfl (by intro v hv; simp only [List.mem_cons, List.not_mem_nil, or_false] at hv; subst hv; rfl) rfl (fun b14 w14 e14 s14 x14 B14 => ?_)
        refine RS.norm (by dsimp only [List.set]) ?_
        replace hE := Ext.tr hE x14
        replace x9 := x9.ext x14
        replace O1 := O1.ext x14
        have zw14 := x14.size
        have Q1 : IRow .u8 (fun k => k = b14) w14 (some ⟨b14, 0, none⟩) 1 [_] := IRow.of_blk B14 rfl rfl rfl (.cons (by simp only [lim]; omega) (.nil _))
        refine RS.appendI O1 Q1 rfl rfl Tryd.underlying35 T5 rfl (by omega) (by decide) (by omega) (fun a15 c15 w15 N15 x15 => ?_)
        refine RS.norm (by dsimp only [List.set]) ?_
        replace hE := hE.trans (x15.below (by intros; try (first | (intro _ _) | (intro _) | skip); first | omega | (have hq := O1.lo _ (by assumption); first | omega | (dsimp only at *; omega))) (by intros; try (first | (intro _ _) | (intro _) | skip); first | omega | (dsimp only at *; omega) | (simp_all; done) | (simp at *; omega)))
        replace x9 := x9.prn x15 (by intros; try (first | (intro _ _) | (intro _) | skip); first | omega | (have hq := O1.lo _ (by assumption); first | omega | (dsimp only at *; omega)))
        have zw15 := x15.size
        replace O1 := N15
        refine RS.assign (v := .slice _ _ _) rfl ?_
        refine RS.nil ?_
        refine hK13 _ _ ?_
        try clear hK13
        refine region ?_
        refine RS.move (v := .int _ _) rfl ?_
        refine RS.o (D.quo rfl rfl (by omega) (by omega) (by first | exact W.u64 (by omega) | exact W.u64m _)) ?_
        refine RS.assign (v := .int _ _) rfl ?_
        refine RS.nil ?_
        change Nx _ _ _ _ _ _ _ _
        refine C.next (m / 256, a15, no + 1, c15, ds ++ [m % 256]) ⟨rfl, rfl, trivial⟩ (by kernel_rfl) ?_ ?_
        · have h2b := congrArg List.length h2
          rw [S.leK_step m (by omega) (by omega)] at h2 h2b
          rw [List.length_append, List.length_cons, S.leK_len, S.leK_len] at h2b
          have hb8 := S.blen_le n
          refine ⟨x9, ⟨by dsimp only; omega, by dsimp only; omega⟩, by dsimp only; omega, ?_, O1⟩
          dsimp only
          rw [List.append_assoc]
          exact h2
        · dsimp only; omega
      · have hz : m = 0 := by omega
        rw [hz, S.blen_zero] at h2
        have h3 : ds = S.leK (S.blen n) n := by rw [← h2]; exact (List.append_nil ds).symm
        rw [h3] at O1
        have hol := O1.len
        rw [S.leK_len] at hol
        have hbl := S.blen_le n
        refine wp_exit ?_
        refine hK8 _ _ ?_
        try clear hK8
        refine wp_seq_k (fun K16 hK16 => ?_)
        have R1 := O1.row.weaken (T := fun k => k < w9.heap.size) (fun k hk _ => hk)
        subst hol
        refine region ?_
        refine RS.move (v := .slice _ _ _) rfl ?_
        refine RS.o (D.len rfl Tryd.underlying35) ?_
        refine RS.o (D.add rfl rfl (W.i64 (by omega))) ?_
        refine RS.o (D.conv rfl Tryd.underlying3 Tryd.underlying5 (W.u8 (by omega))) ?_
        refine RS.buildSlice (xs := [.tmp 24]) (vs := [.int _ _]) (cs := [.int _ _]) Tryd.underlying35 T5 (by decide) rfl rfl rfl rfl rfl rfl (by intro v hv; simp only [List.mem_cons, List.not_mem_nil, or_false] at hv; subst hv; rfl) rfl (fun b17 w17 e17 s17 x17 B17 => ?_)
        refine RS.norm (by dsimp only [List.set]) ?_
        replace hE := Ext.tr hE x17
        replace R1 := R1.ext x17
        have zw17 := x17.size
        have O2 : IOwn w9.heap.size w17 5 .u8 (some ⟨b17, 0, none⟩) 1 1 [_] := IOwn.of_blk B17 rfl rfl (by omega) (.cons (by simp only [lim]; omega) (.nil _)) (by decide)
        refine RS.assign (v := .slice _ _ _) rfl ?_
        refine RS.nil ?_
        refine hK16 _ _ ?_
        try clear hK16
        refine wp_seq_k (fun K18 hK18 => ?_)
        refine wp_seq_k (fun K19 hK19 => ?_)
        refine region ?_
        refine RS.move (v := .slice _ _ _) rfl ?_
        refine RS.o (D.len rfl Tryd.underlying35) ?_
        refine RS.o (D.sub rfl rfl (W.i64 (by omega))) ?_
        refine RS.assign (v := .int _ _) rfl ?_
        refine RS.nil ?_
        refine hK19 _ _ ?_
        try clear hK19
        refine wp_block ?_
        refine C.loop (A := Int × Option Addr × Nat × Nat) (fun p => [(4, .slice p.2.1 p.2.2.1 p.2.2.2), (5, .int .i64 p.1)]) [29, 30, 31, 32, 33, 34, 35, 36, 37, 38, 39] (fun p w' => Pr (fun k => w9.heap.size ≤ k) w17 w' ∧ ((-1 ≤ p.1 ∧ p.1 < (S.blen n : Int)) ∧ IOwn w9.heap.size w' 5 .u8 p.2.1 p.2.2.1 p.2.2.2 ((247 + (S.blen n : Int)) :: ((S.leK (S.blen n) n).drop (p.1 + 1).toNat).reverse))) (fun p => (p.1 + 1).toNat) ((S.blen n : Int) - 1, some ⟨b17, 0, none⟩, 1, 1) (by kernel_rfl) ?_ ?_
        · refine ⟨Pr.refl _ _, ⟨by dsimp only; omega, by dsimp only; omega⟩, ?_⟩
          dsimp only
          rw [List.drop_eq_nil_of_le (by rw [S.leK_len]; omega)]
          exact O2
        · rintro p j w20 ⟨x20, hI⟩
          replace hE := hE.trans (x20.below (by intros; try (first | (intro _ _) | (intro _) | skip); first | omega | (dsimp only at *; omega) | (simp_all; done) | (simp at *; omega)) (by intros; try (first | (intro _ _) | (intro _) | skip); first | omega | (dsimp only at *; omega) | (simp_all; done) | (simp at *; omega)))
          replace R1 := R1.pr x20 (by intros; try (first | (intro _ _) | (intro _) | skip); first | omega | (dsimp only at *; omega) | (simp_all; done) | (simp at *; omega))
          have zw20 := x20.size
          obtain ⟨i, a2, n2, c2⟩ := p
          dsimp only at hI
          obtain ⟨g1, O2⟩ := hI
          have hol2 := O2.len
          rw [List.length_cons, List.length_reverse, List.length_drop, S.leK_len] at hol2
          refine C.norm (by simp only [upd, junk, List.map_cons, List.map_nil, List.set_cons_succ, List.set_cons_zero]; exact rfl) ?_
          refine wp_seq_k (fun K21 hK21 => ?_)
          refine wp_seq_k (fun K22 hK22 => ?_)
          refine region ?_
          refine RS.move (v := .int _ _) rfl ?_
          refine RS.o (D.ge rfl rfl) ?_
          refine RS.nil ?_
          refine hK22 _ _ ?_
          try clear hK22
          refine C.ifd rfl (fun c23 => ?_) (fun c23 => ?_)
          · refine wp_skip ?_
            refine hK21 _ _ ?_
            try clear hK21
            refine wp_seq_k (fun K24 hK24 => ?_)
            refine wp_block ?_
            refine region ?_
            refine RS.move (v := .slice _ _ _) rfl ?_
            refine RS.move (v := .slice _ _ _) rfl ?_
            refine RS.move (v := .int _ _) rfl ?_
            refine RS.idx R1 rfl rfl Tryd.underlying35 C5 (by omega) (fun b25 o25 v25 h25 q25 r25 => ?_)
            refine RS.norm (by dsimp only [List.set]) ?_
            simp only [lim] at r25
            have qd := q25
            refine RS.o (D.load rfl Tryd.underlying5 rfl (h25)) ?_
            refine RS.buildSlice (xs := [.tmp 37]) (vs := [.int _ _]) (cs := [.int _ _]) Tryd.underlying35 T5 (by decide) rfl rfl rfl rfl rfl rfl (by intro v hv; simp only [List.mem_cons, List.not_mem_nil, or_false] at hv; subst hv; rfl) rfl (fun b26 w26 e26 s26 x26 B26 => ?_)
            refine RS.norm (by dsimp only [List.set]) ?_
            replace hE := Ext.tr hE x26
            replace x20 := x20.ext x26
            replace R1 := R1.ext x26
            replace O2 := O2.ext x26
            have zw26 := x26.size
            have Q1 : IRow .u8 (fun k => k = b26) w26 (some ⟨b26, 0, none⟩) 1 [_] := IRow.of_blk B26 rfl rfl rfl (.cons (by simp only [lim]; omega) (.nil _))
            refine RS.appendI O2 Q1 rfl rfl Tryd.underlying35 T5 rfl (by omega) (by decide) (by omega) (fun a27 c27 w27 N27 x27 => ?_)
            refine RS.norm (by dsimp only [List.set]) ?_
            replace hE := hE.trans (x27.below (by intros; try (first | (intro _ _) | (intro _) | skip); first | omega | (have hq := O2.lo _ (by assumption); first | omega | (dsimp only at *; omega))) (by intros; try (first | (intro _ _) | (intro _) | skip); first | omega | (dsimp only at *; omega) | (simp_all; done) | (simp at *; omega)))
            replace x20 := x20.prn x27 (by intros; try (first | (intro _ _) | (intro _) | skip); first | omega | (have hq := O2.lo _ (by assumption); first | omega | (dsimp only at *; omega)))
            replace R1 := R1.pr x27 (by intros; try (first | (intro _ _) | (intro _) | skip); first | omega | (have hq := O2.lo _ (by assumption); first | omega | (dsimp only at *; omega)))
            have zw27 := x27.size
            replace O2 := N27
            refine RS.assign (v := .slice _ _ _) rfl ?_
            refine RS.nil ?_
            refine hK24 _ _ ?_
            try clear hK24
            refine region ?_
            refine RS.move (v := .int _ _) rfl ?_
            refine RS.o (D.sub rfl rfl (W.i64 (by omega))) ?_
            refine RS.assign (v := .int _ _) rfl ?_
            refine RS.nil ?_
            change Nx _ _ _ _ _ _ _ _
            refine C.next (i - 1, _, _, _) ⟨rfl, rfl, trivial⟩ (by kernel_rfl) ?_ ?_
            · refine ⟨x20, ⟨by dsimp only; omega, by dsimp only; omega⟩, ?_⟩
              dsimp only
              have ed : (S.leK (S.blen n) n).drop (i - 1 + 1).toNat = v25 :: (S.leK (S.blen n) n).drop (i + 1).toNat := by rw [show (i - 1 + 1).toNat = i.toNat by omega, List.drop_eq_getElem_cons (by rw [S.leK_len]; omega), show i.toNat + 1 = (i + 1).toNat by omega, qd, List.getD_eq_getElem?_getD, List.getElem?_eq_getElem (by rw [S.leK_len]; omega)]; rfl
              rw [ed, List.reverse_cons]
              exact O2
            · dsimp only; omega
          · refine wp_exit ?_
            refine hK18 _ _ ?_
            try clear hK18
            refine wp_seq_k (fun K28 hK28 => ?_)
            refine region ?_
            refine RS.move (v := .slice _ _ _) rfl ?_
            refine RS.assign (v := .slice _ _ _) rfl ?_
            refine RS.nil ?_
            refine hK28 _ _ ?_
            try clear hK28
            refine wp_ret ?_
            refine ret (rs := [.tmp 2]) (vs := [.slice _ _ _]) (v := (.slice _ _ _)) rfl ⟨rfl, trivial⟩ rfl ?_
            rw [show i = -1 by omega, show ((-1 : Int) + 1).toNat = 0 from rfl, List.drop_zero, ← S.numS_large n (by omega)] at O2
            exact ⟨_, rfl, hE, _, _, _, rfl, O2.base (fun k hk => by have := O2.lo k hk; omega)⟩

theorem bytesW {S0 : Nat → Prop} (a : Option Addr) (n c : Nat) (xs : List Int) (w : World) (R0 : IRow .u8 S0 w a n xs) (hn : n ≤ 10000) :
    Calls Tryd.prog 45 #[.slice a n c] w (Ret w fun v w' => ∃ a' n' c', v = .tuple #[.slice a' n' c', .int .i64 0] ∧ IOwn w.heap.size w' 5 .u8 a' n' c' (S.numS n ++ xs)) := by
  replace R0 := R0.weaken (T := fun k => k < w.heap.size) (fun k hk _ => hk)
  have hE := Ext.refl w
  refine enter (args := [.slice a n c]) (l := [.slice a n c, undef, undef, undef, undef, undef, undef, undef, undef, undef, undef, undef, undef]) Tryd.func45 rfl rfl ?_
  refine wp_seq_k (fun K1 hK1 => ?_)
  refine region ?_
  refine RS.assign (v := .slice none 0 0) rfl ?_
  refine RS.assign (v := .int .i64 0) rfl ?_
  refine RS.nil ?_
  refine hK1 _ _ ?_
  try clear hK1
  refine wp_seq_k (fun K2 hK2 => ?_)
  refine wp_seq_k (fun K3 hK3 => ?_)
  refine region ?_
  refine RS.move (v := .slice _ _ _) rfl ?_
  refine RS.o (D.len rfl Tryd.underlying35) ?_
  refine RS.o (D.gt rfl rfl) ?_
  refine RS.nil ?_
  refine hK3 _ _ ?_
  try clear hK3
  refine C.ifd rfl (fun c4 => ?_) (fun c4 => ?_)
  · exact absurd c4 (by omega)
  · refine wp_skip ?_
    refine hK2 _ _ ?_
    try clear hK2
    refine wp_seq_k (fun K5 hK5 => ?_)
    refine region ?_
    refine RS.move (v := .slice _ _ _) rfl ?_
    refine RS.o (D.len rfl Tryd.underlying35) ?_
    refine RS.o (D.conv rfl Tryd.underlying3 Tryd.underlying24 (W.u64 (by omega))) ?_
    refine RS.call E44 (numW _ (by omega) _) rfl (fun v6 w6 x6 A6 => ?_)
    replace hE := Ext.tr hE x6
    replace R0 := R0.ext x6
    have zw6 := x6.size
    obtain ⟨a6, n6, c6, rfl, O1⟩ := A6
    have hnl := S.numS_len (n : Int)
    have hol := O1.len
    refine RS.norm (by dsimp only [List.set]) ?_
    refine RS.move (v := .slice _ _ _) rfl ?_
    refine RS.appendI O1 R0 rfl rfl Tryd.underlying35 T5 rfl (by omega) (by decide) (by omega) (fun a7 c7 w7 N7 x7 => ?_)
    refine RS.norm (by dsimp only [List.set]) ?_
    replace hE := hE.trans (x7.below (by intros; try (first | (intro _ _) | (intro _) | skip); first | omega | (have hq := O1.lo _ (by assumption); first | omega | (dsimp only at *; omega))) (by intros; try (first | (intro _ _) | (intro _) | skip); first | omega | (dsimp only at *; omega) | (simp_all; done) | (simp at *; omega)))
    replace R0 := R0.pr x7 (by intros; try (first | (intro _ _) | (intro _) | skip); first | omega | (have hq := O1.lo _ (by assumption); first | omega | (dsimp only at *; omega)))
    have zw7 := x7.size
    replace O1 := N7
    refine RS.assign (v := .slice _ _ _) rfl ?_
    refine RS.assign (v := .int .i64 0) rfl ?_
    refine RS.nil ?_
    refine hK5 _ _ ?_
    try clear hK5
    refine wp_ret ?_
    refine ret (rs := [.tmp 2, .tmp 3]) (vs := [.slice _ _ _, .int _ _]) (v := (.tuple #[.slice _ _ _, .int _ _])) rfl ⟨rfl, rfl, trivial⟩ rfl ?_
    exact ⟨_, rfl, hE, _, _, _, rfl, O1⟩

theorem textR {S0 : Nat → Prop} (a : Option Addr) (n c : Nat) (xs : List Int) (w : World) (R0 : IRow .u8 S0 w a n xs) (hn : n ≤ 10000) :
    Calls Tryd.prog 85 #[.slice a n c] w (Ret w fun v w' => ∃ a' n' c', v = .slice a' n' c' ∧ IOwn w.heap.size w' 5 .u8 a' n' c' (S.numS n ++ xs)) := by
  replace R0 := R0.weaken (T := fun k => k < w.heap.size) (fun k hk _ => hk)
  have hE := Ext.refl w
  refine enter (args := [.slice a n c]) (l := [.slice a n c, undef, undef, undef, undef, undef, undef, undef, undef]) Tryd.func85 rfl rfl ?_
  refine wp_seq_k (fun K1 hK1 => ?_)
  refine region ?_
  refine RS.assign (v := .slice none 0 0) rfl ?_
  refine RS.nil ?_
  refine hK1 _ _ ?_
  try clear hK1
  refine wp_seq_k (fun K2 hK2 => ?_)
  refine region ?_
  refine RS.move (v := .slice _ _ _) rfl ?_
  refine RS.o (D.len rfl Tryd.underlying35) ?_
  refine RS.o (D.conv rfl Tryd.underlying3 Tryd.underlying24 (W.u64 (by omega))) ?_
  refine RS.call E83 (numR _ (by omega) _) rfl (fun v3 w3 x3 A3 => ?_)
  replace hE := Ext.tr hE x3
  replace R0 := R0.ext x3
  have zw3 := x3.size
  obtain ⟨a3, n3, c3, rfl, O1⟩ := A3
  have hnl := S.numS_len (n : Int)
  have hol := O1.len
  refine RS.norm (by dsimp only [List.set]) ?_
  refine RS.move (v := .slice _ _ _) rfl ?_
  refine RS.appendI O1 R0 rfl rfl Tryd.underlying35 T5 rfl (by omega) (by decide) (by omega) (fun a4 c4 w4 N4 x4 => ?_)
  refine RS.norm (by dsimp only [List.set]) ?_
  replace hE := hE.trans (x4.below (by intros; try (first | (intro _ _) | (intro _) | skip); first | omega | (have hq := O1.lo _ (by assumption); first | omega | (dsimp only at *; omega))) (by intros; try (first | (intro _ _) | (intro _) | skip); first | omega | (dsimp only at *; omega) | (simp_all; done) | (simp at *; omega)))
  replace R0 := R0.pr x4 (by intros; try (first | (intro _ _) | (intro _) | skip); first | omega | (have hq := O1.lo _ (by assumption); first | omega | (dsimp only at *; omega)))
  have zw4 := x4.size
  replace O1 := N4
  refine RS.assign (v := .slice _ _ _) rfl ?_
  refine RS.nil ?_
  refine hK2 _ _ ?_
  try clear hK2
  refine wp_ret ?_
  refine ret (rs := [.tmp 2]) (vs := [.slice _ _ _]) (v := (.slice _ _ _)) rfl ⟨rfl, trivial⟩ rfl ?_
  exact ⟨_, rfl, hE, _, _, _, rfl, O1⟩

theorem signedW (n : Int) (hn : -9223372036854775808 ≤ n ∧ n ≤ 9223372036854775807) (w : World) :
    Calls Tryd.prog 82 #[.int .i64 n] w (Ret w fun v w' => ∃ a' n' c', v = .slice a' n' c' ∧ IOwn w.heap.size w' 5 .u8 a' n' c' (S.numS (S.zig n))) := by
  have hz := S.zig_bd n hn
  have hze := S.zig_eq n hn
  have hE := Ext.refl w
  refine enter (args := [.int .i64 n]) (l := [.int .i64 n, undef, undef, undef, undef, undef, undef, undef, undef, undef, undef]) Tryd.func82 rfl rfl ?_
  refine wp_seq_k (fun K1 hK1 => ?_)
  refine region ?_
  refine RS.assign (v := .slice none 0 0) rfl ?_
  refine RS.nil ?_
  refine hK1 _ _ ?_
  try clear hK1
  refine wp_seq_k (fun K2 hK2 => ?_)
  refine region ?_
  refine RS.move (v := .int _ _) rfl ?_
  refine RS.o (D.conv rfl Tryd.underlying2 Tryd.underlying24 (W.u64m _)) ?_
  refine RS.o (D.shl rfl rfl (by constructor <;> (try simp only [IntKind.bits]) <;> omega) (W.u64m _)) ?_
  refine RS.move (v := .int _ _) rfl ?_
  refine RS.o (D.shr rfl rfl (by constructor <;> (try simp only [IntKind.bits]) <;> omega)) ?_
  refine RS.o (D.conv rfl Tryd.underlying2 Tryd.underlying24 (W.u64m _)) ?_
  refine RS.ob (D.bxor_u64 rfl rfl (by omega) (by omega)) (fun z3 => ?_)
  rw [hze]
  refine RS.call E44 (numW _ (by omega) _) rfl (fun v4 w4 x4 A4 => ?_)
  replace hE := Ext.tr hE x4
  have zw4 := x4.size
  obtain ⟨a4, n4, c4, rfl, O1⟩ := A4
  refine RS.norm (by dsimp only [List.set]) ?_
  refine RS.assign (v := .slice _ _ _) rfl ?_
  refine RS.nil ?_
  refine hK2 _ _ ?_
  try clear hK2
  refine wp_ret ?_
  refine ret (rs := [.tmp 2]) (vs := [.slice _ _ _]) (v := (.slice _ _ _)) rfl ⟨rfl, trivial⟩ rfl ?_
  exact ⟨_, rfl, hE, _, _, _, rfl, O1⟩

theorem signedR (n : Int) (hn : -9223372036854775808 ≤ n ∧ n ≤ 9223372036854775807) (w : World) :
    Calls Tryd.prog 116 #[.int .i64 n] w (Ret w fun v w' => ∃ a' n' c', v = .slice a' n' c' ∧ IOwn w.heap.size w' 5 .u8 a' n' c' (S.numS (S.zig n))) := by
  unfold S.zig
  have hE := Ext.refl w
  refine enter (args := [.int .i64 n]) (l := [.int .i64 n, undef, undef, undef, undef, undef, undef, undef, undef, undef, undef, undef, undef, undef, undef, undef]) Tryd.func116 rfl rfl ?_
  refine wp_seq_k (fun K1 hK1 => ?_)
  refine region ?_
  refine RS.assign (v := .slice none 0 0) rfl ?_
  refine RS.nil ?_
  refine hK1 _ _ ?_
  try clear hK1
  refine wp_seq_k (fun K2 hK2 => ?_)
  refine wp_seq_k (fun K3 hK3 => ?_)
  refine region ?_
  refine RS.move (v := .int _ _) rfl ?_
  refine RS.o (D.ge rfl rfl) ?_
  refine RS.nil ?_
  refine hK3 _ _ ?_
  try clear hK3
  refine C.ifd rfl (fun c4 => ?_) (fun c4 => ?_)
  · have hc := c4
    refine wp_seq_k (fun K5 hK5 => ?_)
    refine region ?_
    refine RS.move (v := .int _ _) rfl ?_
    refine RS.o (D.conv rfl Tryd.underlying2 Tryd.underlying24 (W.u64 (by omega))) ?_
    refine RS.o (D.mul rfl rfl (W.u64 (by omega))) ?_
    refine RS.call E83 (numR _ (by omega) _) rfl (fun v6 w6 x6 A6 => ?_)
    replace hE := Ext.tr hE x6
    have zw6 := x6.size
    obtain ⟨a6, n6, c6, rfl, O1⟩ := A6
    refine RS.norm (by dsimp only [List.set]) ?_
    refine RS.assign (v := .slice _ _ _) rfl ?_
    refine RS.nil ?_
    refine hK5 _ _ ?_
    try clear hK5
    refine wp_ret ?_
    refine ret (rs := [.tmp 2]) (vs := [.slice _ _ _]) (v := (.slice _ _ _)) rfl ⟨rfl, trivial⟩ rfl ?_
    rw [if_pos hc]
    refine ⟨_, rfl, hE, _, _, _, rfl, ?_⟩
    first | exact O1 | (rw [show 2 * n = n * 2 by omega]; exact O1)
  · have hc := c4
    refine wp_skip ?_
    refine hK2 _ _ ?_
    try clear hK2
    refine wp_seq_k (fun K7 hK7 => ?_)
    refine region ?_
    refine RS.move (v := .int _ _) rfl ?_
    refine RS.o (D.add rfl rfl (W.i64 (by omega))) ?_
    refine RS.o (D.neg rfl (W.i64 (by omega))) ?_
    refine RS.o (D.conv rfl Tryd.underlying2 Tryd.underlying24 (W.u64 (by omega))) ?_
    refine RS.o (D.mul rfl rfl (W.u64 (by omega))) ?_
    refine RS.o (D.add rfl rfl (W.u64 (by omega))) ?_
    refine RS.call E83 (numR _ (by omega) _) rfl (fun v8 w8 x8 A8 => ?_)
    replace hE := Ext.tr hE x8
    have zw8 := x8.size
    obtain ⟨a8, n8, c8, rfl, O1⟩ := A8
    refine RS.norm (by dsimp only [List.set]) ?_
    refine RS.assign (v := .slice _ _ _) rfl ?_
    refine RS.nil ?_
    refine hK7 _ _ ?_
    try clear hK7
    refine wp_ret ?_
    refine ret (rs := [.tmp 2]) (vs := [.slice _ _ _]) (v := (.slice _ _ _)) rfl ⟨rfl, trivial⟩ rfl ?_
    rw [if_neg hc]
    refine ⟨_, rfl, hE, _, _, _, rfl, ?_⟩
    rw [show -2 * n - 1 = 2 * (0 - (n + 1)) + 1 by omega]
    exact O1

end Go.Proofs.YtiohpiiiapjblaaDoor.W
