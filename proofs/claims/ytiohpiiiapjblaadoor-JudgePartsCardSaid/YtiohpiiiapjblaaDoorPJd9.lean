/-
  Part 9 of the lemmas of these laws: JudgeExact, JudgeParts.
-/
import Derived.Test.YtiohpiiiapjblaaDoorPJd8
namespace Go.Proofs.YtiohpiiiapjblaaDoor.S
open G
theorem zer8 : (0 : Int) ≤ 0 ∧ (0 : Int) < 256 := by decide
theorem zerI : -9223372036854775808 ≤ (0 : Int) ∧ (0 : Int) ≤ 9223372036854775807 := by decide
theorem zer64 : (0 : Int) ≤ 0 ∧ (0 : Int) < 18446744073709551616 := by decide
theorem sg_bd {b : List Int} (hB : Bd .u8 b) : -9223372036854775808 ≤ (if rdE b = 0 then unzig (rdV b) else 0) ∧ (if rdE b = 0 then unzig (rdV b) else 0) ≤ 9223372036854775807 := by
  split
  · exact unzig_bd _ (rd_bd hB).1
  · decide
section
variable {x : Int} {r : List Int}
theorem valR_one (hk : x = 1) (h : rdE r = 0) : valR x r = some ((if rdE r = 0 then unzig (rdV r) else 0), 0, .empty, rdU r) := by
  unfold valR
  rw [if_pos hk, rd_zero h, if_pos h]
  rfl
theorem valR_oneN (hk : x = 1) (h : rdE r ≠ 0) : valR x r = none := by
  unfold valR
  rw [if_pos hk, rd_bad h]
  rfl
theorem valR_twoN (hk : x = 2) (h : r.length < 8) : valR x r = none := by
  unfold valR
  rw [if_neg (by omega), if_pos hk, if_pos h]
theorem valR_two (hk : x = 2) (h : ¬ r.length < 8) {v : Int} (hv : v = be (r.take 8)) : valR x r = some (0, v, .empty, 8) := by
  unfold valR
  rw [if_neg (by omega), if_pos hk, if_neg h, hv]
theorem valR_three (hk : x = 3) (h : ptE 30 1 r = 0) : valR x r = some (0, 0, strOfNums (ptS 30 1 r), ptU 30 1 r) := by
  unfold valR
  rw [if_neg (by omega), if_neg (by omega), if_pos hk]
  have := readB_pt 30 r
  rw [if_pos h] at this
  rw [show ((30 : Nat) : Int) = 30 from rfl] at this
  rw [this]
  rfl
theorem valR_threeN (hk : x = 3) (h : ptE 30 1 r ≠ 0) : valR x r = none := by
  unfold valR
  rw [if_neg (by omega), if_neg (by omega), if_pos hk]
  have := readB_pt 30 r
  rw [if_neg h] at this
  rw [show ((30 : Nat) : Int) = 30 from rfl] at this
  rw [this]
  rfl
theorem valR_else (h1 : x ≠ 1) (h2 : x ≠ 2) (h3 : x ≠ 3) : valR x r = some (0, 0, .empty, 0) := by
  unfold valR
  rw [if_neg h1, if_neg h2, if_neg h3]
theorem vd_nil : vdS [] = ⟨0, 0, 0, .empty, 0, 12⟩ := rfl
theorem vd_fail (h : valR x r = none) : vdS (x :: r) = ⟨0, 0, 0, .empty, 0, 12⟩ := vd_none (by unfold valD; simp only [h]; rfl)
theorem vd_bad {num bits : Int} {t : ByteArray} {u : Nat} (h : valR x r = some (num, bits, t, u)) (hE : valE x num bits t ≠ 0) : vdS (x :: r) = ⟨0, 0, 0, .empty, 0, 12⟩ :=
  vd_none (by unfold valD; simp only [h, Option.bind_some]; exact if_neg (fun hF => hE (valE_zero.2 hF)))
theorem vd_good {num bits : Int} {t : ByteArray} {u : Nat} (h : valR x r = some (num, bits, t, u)) (hE : valE x num bits t = 0) : vdS (x :: r) = ⟨x, num, bits, t, u + 1, 0⟩ :=
  vd_some (by unfold valD; simp only [h, Option.bind_some]; exact if_pos (valE_zero.1 hE))
end
/-- The state behind a step. -/
def nxB (e : Int) (bad : Bool) : Bool := if e = 0 then bad else true
def nxL (e : Int) (u : Nat) (b : List Int) : List Int := if e = 0 then b.drop u else b
theorem nx_zero {e : Int} (h : e = 0) (u : Nat) (bad : Bool) (b : List Int) : nxB e bad = bad ∧ nxL e u b = b.drop u := by unfold nxB nxL; rw [if_pos h, if_pos h]; exact ⟨rfl, rfl⟩
theorem nx_ne {e : Int} (h : e ≠ 0) (u : Nat) (bad : Bool) (b : List Int) : nxB e bad = true ∧ nxL e u b = b := by unfold nxB nxL; rw [if_neg h, if_neg h]; exact ⟨rfl, rfl⟩
theorem numB_rd (m : Int) (bad : Bool) (b : List Int) : rdV b = (numB m bad b).1 ∧ (nxB (rdE b) bad || decide (m < rdV b)) = (numB m bad b).2.1 ∧ nxL (rdE b) (rdU b) b = (numB m bad b).2.2 := by
  unfold numB numR
  cases h : readN b with
  | none =>
    obtain ⟨e1, e2, e3⟩ := rd_none h
    obtain ⟨h1, h2⟩ := nx_ne (e := rdE b) (by rw [e3]; decide) (rdU b) bad b
    rw [e1, h1, h2]
    exact ⟨rfl, rfl, rfl⟩
  | some y =>
    obtain ⟨n, u⟩ := y
    obtain ⟨e1, e2, e3⟩ := rd_some h
    obtain ⟨h1, h2⟩ := nx_zero e3 (rdU b) bad b
    rw [e1, h1, h2, e2]
    exact ⟨rfl, rfl, rfl⟩
theorem idsB_rd (bad : Bool) (b : List Int) : idN 4 b = (idsB bad b).1 ∧ idL 4 b = (idsB bad b).2.1 ∧ nxB (idE 4 b) bad = (idsB bad b).2.2.1 ∧ nxL (idE 4 b) (idU 4 b) b = (idsB bad b).2.2.2 := by
  unfold idsB idsR
  have e : readI ((4 : Nat) : Int) b = readI 4 b := rfl
  cases h : readI 4 b with
  | none =>
    obtain ⟨e1, e2, e3, e4⟩ := id_none (most := 4) (e.trans h)
    obtain ⟨h1, h2⟩ := nx_ne (e := idE 4 b) (by rw [e4]; decide) (idU 4 b) bad b
    rw [e1, e2, h1, h2]
    exact ⟨rfl, rfl, rfl, rfl⟩
  | some y =>
    obtain ⟨n, l, u⟩ := y
    obtain ⟨e1, e2, e3, e4⟩ := id_some (most := 4) (e.trans h)
    obtain ⟨h1, h2⟩ := nx_zero e4 (idU 4 b) bad b
    rw [e1, e2, h1, h2, e3]
    exact ⟨rfl, rfl, rfl, rfl⟩
theorem keyB_rd (bad : Bool) (b : List Int) : strOfNums (ptS 20 1 b) = (keyB bad b).1 ∧ nxB (ptE 20 1 b) bad = (keyB bad b).2.1 ∧ nxL (ptE 20 1 b) (ptU 20 1 b) b = (keyB bad b).2.2 := by
  have hr := readB_pt 20 b
  rw [show ((20 : Nat) : Int) = 20 from rfl] at hr
  unfold keyB keyR
  by_cases h : ptE 20 1 b = 0
  · rw [if_pos h] at hr
    obtain ⟨h1, h2⟩ := nx_zero h (ptU 20 1 b) bad b
    rw [h1, h2, hr]
    exact ⟨rfl, rfl, rfl⟩
  · rw [if_neg h] at hr
    obtain ⟨h1, h2⟩ := nx_ne h (ptU 20 1 b) bad b
    obtain ⟨_, _, q3⟩ := pt_not (fun hk => h (ptE_zero.2 hk))
    rw [h1, h2, hr, q3]
    exact ⟨by rfl, rfl, rfl⟩
theorem valB_rd (key : ByteArray) (bad : Bool) (b : List Int) : (⟨(vdS b).k, (vdS b).num, (vdS b).bits, key, (vdS b).t⟩ : ActV) = (valB key bad b).1 ∧ nxB (vdS b).e bad = (valB key bad b).2.1 ∧ nxL (vdS b).e (vdS b).u b = (valB key bad b).2.2 := by
  unfold valB valV
  cases h : valD b with
  | none =>
    rw [vd_none h]
    exact ⟨rfl, rfl, rfl⟩
  | some y =>
    obtain ⟨k, n, c, t, u⟩ := y
    rw [vd_some h]
    exact ⟨rfl, rfl, rfl⟩
theorem actB_none {k : Int} (bad : Bool) (b : List Int) (h : k = 1) : (⟨0, 0, 0, .empty, .empty⟩, bad, b) = actB k bad b := by unfold actB; rw [if_pos h]
theorem actB_key {k : Int} (bad : Bool) (b : List Int) (h : k ≠ 1) (h4 : k ≠ 4) : (⟨0, 0, 0, (keyB bad b).1, .empty⟩, (keyB bad b).2.1, (keyB bad b).2.2) = actB k bad b := by unfold actB; rw [if_neg h, if_neg h4]
theorem actB_val {k : Int} (bad : Bool) (b : List Int) (h4 : k = 4) : valB (keyB bad b).1 (keyB bad b).2.1 (keyB bad b).2.2 = actB k bad b := by unfold actB; rw [if_neg (by omega), if_pos h4]
theorem id_le {b : List Int} (hB : Bd .u8 b) : idN 4 b ≤ 4 ∧ idU 4 b ≤ b.length ∧ (idL 4 b).length = 32 * idN 4 b := by
  have e : readI ((4 : Nat) : Int) b = readI 4 b := rfl
  cases h : readI 4 b with
  | none =>
    obtain ⟨e1, e2, e3, e4⟩ := id_none (most := 4) (e.trans h)
    rw [e1, e2, e3]
    simp
  | some y =>
    obtain ⟨n, l, u⟩ := y
    obtain ⟨e1, e2, e3, e4⟩ := id_some (most := 4) (e.trans h)
    obtain ⟨q1, q2, q3, _⟩ := readI_inv hB h
    rw [e1, e2, e3]
    exact ⟨by omega, q2, q3⟩
theorem ptU_le {most wd : Nat} {b : List Int} (hB : Bd .u8 b) (hw : 0 < wd) : ptU most wd b ≤ b.length := by
  by_cases h : ptOk most wd b
  · have := pt_mul hB h hw
    rw [(pt_ok h).2.1]; omega
  · rw [(pt_not h).2.1]; omega
theorem vd_bd {b : List Int} (hB : Bd .u8 b) : (0 ≤ (vdS b).k ∧ (vdS b).k < 256) ∧ (-9223372036854775808 ≤ (vdS b).num ∧ (vdS b).num ≤ 9223372036854775807) ∧ (0 ≤ (vdS b).bits ∧ (vdS b).bits < 18446744073709551616) ∧ (vdS b).u ≤ b.length ∧ (vdS b).t.size ≤ 30 := by
  cases h : valD b with
  | none => rw [vd_none h]; simp
  | some y =>
    obtain ⟨k, n, c, t, u⟩ := y
    obtain ⟨q1, q2, q3, q4, q5, _⟩ := val_inv hB h
    rw [vd_some h]
    refine ⟨q2, q3, q4, q5, ?_⟩
    rcases q1 with ⟨_, _, rfl⟩ | ⟨_, _, rfl, _⟩ | ⟨_, _, _, ht, _⟩
    · simp
    · simp
    · exact ht
theorem nxL_bd {e : Int} {u : Nat} {b : List Int} (hB : Bd .u8 b) : Bd .u8 (nxL e u b) := by unfold nxL; split; exact hB.drop _; exact hB
theorem numB_bd {m : Int} {bad : Bool} {b : List Int} (hB : Bd .u8 b) : (0 ≤ (numB m bad b).1 ∧ (numB m bad b).1 < 18446744073709551616) ∧ Bd .u8 (numB m bad b).2.2 := by
  obtain ⟨h1, _, h3⟩ := numB_rd m bad b
  rw [← h1, ← h3]
  exact ⟨(rd_bd hB).1, nxL_bd hB⟩
theorem oneB_bd {bad : Bool} {b : List Int} (hB : Bd .u8 b) : (0 ≤ (oneB bad b).1 ∧ (oneB bad b).1 < 256) ∧ Bd .u8 (oneB bad b).2.2 := by
  unfold oneB
  split
  · exact ⟨zer8, hB⟩
  · cases b with
    | nil => exact ⟨zer8, hB⟩
    | cons x t => exact ⟨hB x List.mem_cons_self, fun y hy => hB y (List.mem_cons_of_mem _ hy)⟩
theorem idsB_bd {bad : Bool} {b : List Int} (hB : Bd .u8 b) : (idsB bad b).1 ≤ 4 ∧ (idsB bad b).2.1.length = 32 * (idsB bad b).1 ∧ Bd .u8 (idsB bad b).2.2.2 := by
  obtain ⟨h1, h2, _, h4⟩ := idsB_rd bad b
  obtain ⟨q1, q2, q3⟩ := id_le hB
  rw [← h1, ← h2, ← h4]
  exact ⟨q1, q3, nxL_bd hB⟩
theorem keyB_bd {bad : Bool} {b : List Int} (hB : Bd .u8 b) : (keyB bad b).1.size ≤ 20 ∧ Bd .u8 (keyB bad b).2.2 := by
  obtain ⟨h1, _, h3⟩ := keyB_rd bad b
  rw [← h1, ← h3]
  refine ⟨?_, nxL_bd hB⟩
  rw [← bys_len, bys_strOf _ (ptS_bd _ _ _ hB)]
  by_cases h : ptOk 20 1 b
  · rw [ptS_len hB h (by decide)]
    have := h.2.1
    omega
  · rw [(pt_not h).2.2]; simp
theorem actB_bd {k : Int} {bad : Bool} {b : List Int} (hB : Bd .u8 b) : ((0 ≤ (actB k bad b).1.vk ∧ (actB k bad b).1.vk < 256) ∧ (-9223372036854775808 ≤ (actB k bad b).1.num ∧ (actB k bad b).1.num ≤ 9223372036854775807) ∧ (0 ≤ (actB k bad b).1.bits ∧ (actB k bad b).1.bits < 18446744073709551616) ∧ (actB k bad b).1.key.size ≤ 20 ∧ (actB k bad b).1.t.size ≤ 30) ∧ Bd .u8 (actB k bad b).2.2 := by
  have hk := keyB_bd (bad := bad) hB
  unfold actB
  split
  · exact ⟨⟨zer8, zerI, zer64, by simp, by simp⟩, hB⟩
  · split
    · obtain ⟨h1, _, h3⟩ := valB_rd (keyB bad b).1 (keyB bad b).2.1 (keyB bad b).2.2
      obtain ⟨q1, q2, q3, _, q5⟩ := vd_bd hk.2
      rw [← h1, ← h3]
      exact ⟨⟨q1, q2, q3, hk.1, q5⟩, nxL_bd hk.2⟩
    · exact ⟨⟨zer8, zerI, zer64, hk.1, by simp⟩, hk.2⟩
theorem dec_head {b : List Int} (h : (oneB false b).1 ≠ 111) : decS b = none := by
  unfold decS
  cases b with
  | nil => rfl
  | cons x t => exact if_neg h
theorem Steps.none {b : List Int} (hB : Bd .u8 b) (p : Steps b) (h : ¬ (p.h.1 = 111 ∧ p.s.2.1 = false ∧ p.s.2.2 = [] ∧ checkE p.op = 0)) : decS b = .none := by
  cases hd : decS b with
  | none => rfl
  | some o => exact absurd (Steps.bad hB p hd) h
theorem Steps.ok {b : List Int} (hB : Bd .u8 b) (p : Steps b) : p.op.ok ∧ p.op.ids.length = 32 * p.op.n := by
  obtain ⟨h, a, l, t, k, x, e, s, eh, ea, el, et, ek, ex, ee, es⟩ := p
  simp only [Steps.op]
  subst eh
  have B1 := (oneB_bd (bad := false) hB).2
  subst ea
  obtain ⟨_, B2⟩ := numB_bd (m := 1000000007) (bad := (oneB false b).2.1) B1
  generalize numB 1000000007 _ _ = a at *
  subst el
  obtain ⟨l1, l2, B3⟩ := idsB_bd (bad := a.2.1) B2
  generalize idsB _ _ = l at *
  subst et
  obtain ⟨t1, B4⟩ := numB_bd (m := 1000000000000) (bad := l.2.2.1) B3
  generalize numB 1000000000000 _ _ = t at *
  subst ek
  obtain ⟨k1, B5⟩ := oneB_bd (bad := t.2.1) B4
  generalize oneB t.2.1 _ = k at *
  subst ex
  obtain ⟨⟨x1, x2, x3, x4, x5⟩, B6⟩ := actB_bd (k := k.1) (bad := k.2.1) B5
  generalize actB _ _ _ = x at *
  exact ⟨⟨by show 0 ≤ a.1 % 4294967296 ∧ a.1 % 4294967296 < 4294967296; omega, t1, k1, x1, x2, x3, by show 0 ≤ e.1 % 4294967296 ∧ e.1 % 4294967296 < 4294967296; omega, by show 0 ≤ s.1 % 4294967296 ∧ s.1 % 4294967296 < 4294967296; omega, by show l.1 ≤ 20; omega, by show x.1.key.size ≤ 100; omega, by show x.1.t.size ≤ 100; omega⟩, l2⟩
end Go.Proofs.YtiohpiiiapjblaaDoor.S
namespace Go.Proofs.YtiohpiiiapjblaaDoor.W
open Go.RowKit Go.Proofs.YtiohpiiiapjblaaDoor.G
set_option linter.unusedVariables false
set_option maxRecDepth 20000
set_option maxHeartbeats 8000000
attribute [local irreducible] RS RX
theorem C4 : Tryd.prog.cellsOf 4 = 1 := by kernel_rfl
theorem E74 : Enters Tryd.prog 74 := .mk Tryd.func74 (by kernel_rfl) rfl
theorem E75 : Enters Tryd.prog 75 := .mk Tryd.func75 (by kernel_rfl) rfl
theorem E108 : Enters Tryd.prog 108 := .mk Tryd.func108 (by kernel_rfl) rfl
theorem decodeV {S0 : Nat → Prop} (a : Option Addr) (n c : Nat) (bs : List Int) (w : World) (R0 : IRow .u8 S0 w a n bs) (hc : n ≤ c) (hn : n ≤ 1000000) :
  Calls Tryd.prog 76 #[.slice a n c] w (Ret w fun v _ => v = .tuple #[.agg ([.int .u8 (S.vdS bs).k, .int .i64 (S.vdS bs).num, .int .u64 (S.vdS bs).bits, .string (S.vdS bs).t] : List Value).toArray, .int .i64 (S.vdS bs).u, .int .i64 (S.vdS bs).e]) := by
 replace R0 := R0.weaken (T := fun k => k < w.heap.size) (fun k hk _ => hk)
 have hbl := R0.len
 have hbd := R0.bd
 have hE := Ext.refl w
 refine enter (args := [.slice a n c]) (l := [.slice a n c, undef, undef, undef, undef, undef, undef, undef, undef, undef, undef, undef, undef, undef, undef, undef, undef, undef, undef, undef, undef, undef, undef, undef, undef, undef, undef, undef, undef, undef, undef, undef, undef, undef, undef, undef, undef, undef, undef, undef, undef, undef, undef, undef, undef, undef, undef, undef, undef, undef, undef, undef, undef, undef, undef, undef, undef, undef, undef, undef, undef, undef, undef, undef, undef, undef, undef, undef, undef, undef, undef, undef, undef, undef, undef, undef]) Tryd.func76 rfl rfl ?_
 refine wp_seq_k (fun K1 hK1 => ?_)
 refine region ?_
 refine RS.alloc T26 (fun b2 w2 e2 s2 x2 B2 => ?_)
 refine RS.norm (by dsimp only [List.set]) ?_
 replace hE := Ext.tr hE x2
 replace R0 := R0.ext x2
 have zw2 := x2.size
 refine RS.assign (v := .int .i64 0) rfl ?_
 refine RS.assign (v := .int .i64 0) rfl ?_
 refine RS.nil ?_
 refine hK1 _ _ ?_
 try clear hK1
 refine wp_seq_k (fun K3 hK3 => ?_)
 refine wp_seq_k (fun K4 hK4 => ?_)
 refine region ?_
 refine RS.move (v := .slice _ _ _) rfl ?_
 refine RS.o (D.len rfl Tryd.underlying35) ?_
 refine RS.o (D.eq rfl rfl) ?_
 refine RS.nil ?_
 refine hK4 _ _ ?_
 try clear hK4
 refine C.ife rfl (fun c5 => ?_) (fun c5 => ?_)
 ·obtain rfl : bs = [] := List.eq_nil_of_length_eq_zero (by omega)
  refine wp_seq_k (fun K6 hK6 => ?_)
  refine region ?_
  refine RS.o (D.buildS T26 F26 (ps := []) rfl rfl) ?_
  refine RS.storeAggB rfl rfl C26 (by decide) rfl rfl B2 rfl (fun w7 y7 N7 => ?_)
  replace hE := hE.trans (y7.below (by intros; try (first | (intro _ _) | (intro _) | skip); first | omega | (dsimp only at *; omega) | (simp_all; done) | (simp at *; omega)))
  replace R0 := R0.st y7 (by intros; try (first | (intro _ _) | (intro _) | skip); first | omega | (dsimp only at *; omega) | (simp_all; done) | (simp at *; omega))
  have zw7 := y7.size
  replace B2 := N7
  refine RS.assign (v := .int .i64 0) rfl ?_
  refine RS.assign (v := .int .i64 12) rfl ?_
  refine RS.nil ?_
  refine hK6 _ _ ?_
  try clear hK6
  refine wp_ret ?_
  refine ret (rs := [.cell 2 26, .tmp 3, .tmp 4]) (vs := [.agg _, .int _ _, .int _ _]) (v := (.tuple #[.agg _, .int _ _, .int _ _])) rfl ⟨⟨_, rfl, loadVar_agg Tryd.underlying26 rfl C26 (by decide) rfl (B2.cellsN 4 rfl)⟩, rfl, rfl, trivial⟩ rfl ?_
  rw [S.vd_nil]
  exact ⟨_, rfl, hE, rfl⟩
 ·obtain ⟨x, r, rfl⟩ : ∃ x r, bs = x :: r := by
   cases bs with
   | nil => simp at hbl; omega
   | cons x r => exact ⟨x, r, rfl⟩
  rw [List.length_cons] at hbl
  have hx := hbd x List.mem_cons_self
  simp only [lim] at hx
  have hrb : Bd .u8 r := fun y hy => hbd y (List.mem_cons_of_mem _ hy)
  have QR : IRow .u8 (fun k => k < w.heap.size) w2 (subA a 1 1 c) (n - 1) r := R0.rest 1 c (by omega) (by omega)
  have hrd := S.rd_bd hrb
  have hsg := S.sg_bd hrb
  have hpu := S.ptU_le (most := 30) (wd := 1) hrb (by decide)
  refine wp_skip ?_
  refine hK3 _ _ ?_
  try clear hK3
  refine wp_seq_k (fun K8 hK8 => ?_)
  refine region ?_
  refine RS.move (v := .slice _ _ _) rfl ?_
  refine RS.idx R0 rfl rfl Tryd.underlying35 C5 (by omega) (fun b9 o9 v9 h9 q9 r9 => ?_)
  refine RS.norm (by dsimp only [List.set]) ?_
  simp only [lim] at r9
  replace q9 : x = v9 := Eq.symm q9
  subst q9
  refine RS.o (D.load rfl Tryd.underlying5 rfl (h9)) ?_
  refine RS.o (D.buildS T26 F26 (ps := [(0, .int _ _)]) rfl rfl) ?_
  refine RS.alloc T26 (fun b10 w10 e10 s10 x10 B10 => ?_)
  refine RS.norm (by dsimp only [List.set]) ?_
  replace hE := Ext.tr hE x10
  replace R0 := R0.ext x10
  replace B2 := B2.ext x10
  replace QR := QR.ext x10
  have zw10 := x10.size
  refine RS.storeAggB rfl rfl C26 (by decide) rfl rfl B10 rfl (fun w11 y11 N11 => ?_)
  replace hE := hE.trans (y11.below (by intros; try (first | (intro _ _) | (intro _) | skip); first | omega | (dsimp only at *; omega) | (simp_all; done) | (simp at *; omega)))
  replace R0 := R0.st y11 (by intros; try (first | (intro _ _) | (intro _) | skip); first | omega | (dsimp only at *; omega) | (simp_all; done) | (simp at *; omega))
  replace B2 := B2.st y11 (by intros; try (first | (intro _ _) | (intro _) | skip); first | omega | (dsimp only at *; omega) | (simp_all; done) | (simp at *; omega))
  replace QR := QR.st y11 (by intros; try (first | (intro _ _) | (intro _) | skip); first | omega | (dsimp only at *; omega) | (simp_all; done) | (simp at *; omega))
  have zw11 := y11.size
  replace B10 := N11
  refine RS.assign (v := .int .i64 0) rfl ?_
  refine RS.assign (v := .int .i64 0) rfl ?_
  refine RS.nil ?_
  refine hK8 _ _ ?_
  try clear hK8
  refine wp_seq_k (fun K12 hK12 => ?_)
  refine wp_seq_k (fun K13 hK13 => ?_)
  refine region ?_
  refine RS.move (v := .slice _ _ _) rfl ?_
  refine RS.o (D.slice (kl := .i64) (kh := .i64) rfl Tryd.underlying35 C5 (by decide) rfl rfl (by omega) (by omega)) ?_
  refine RS.assign (v := .slice _ _ _) rfl ?_
  refine RS.nil ?_
  refine hK13 _ _ ?_
  try clear hK13
  refine wp_seq_k (fun K14 hK14 => ?_)
  refine region ?_
  refine RS.o (D.fieldL 0 rfl Tryd.underlying26 rfl C5 (by decide) rfl) ?_
  refine RS.o (D.load rfl Tryd.underlying5 rfl (B10.cell rfl)) ?_
  refine RS.nil ?_
  refine hK14 _ _ ?_
  try clear hK14
  refine wp_block ?_
  refine wp_seq_k (fun K15 hK15 => ?_)
  refine region ?_
  refine RS.o (D.eq rfl rfl) ?_
  refine RS.assign (v := .bool _) rfl ?_
  refine RS.nil ?_
  refine hK15 _ _ ?_
  try clear hK15
  refine C.ife rfl (fun c16 => ?_) (fun c16 => ?_)
  ·have hk := c16
   refine region ?_
   refine RS.move (v := .slice _ _ _) rfl ?_
   refine RS.call E108 (readSg _ _ _ _ _ QR (by omega) (by omega)) rfl (fun v17 w17 x17 A17 => ?_)
   replace hE := Ext.tr hE x17
   replace R0 := R0.ext x17
   replace B2 := B2.ext x17
   replace QR := QR.ext x17
   replace B10 := B10.ext x17
   have zw17 := x17.size
   subst A17
   refine RS.norm (by dsimp only [List.set]) ?_
   refine RS.move (v := .tuple _) rfl ?_
   refine RS.extract (v := .int _ _) rfl rfl ?_
   refine RS.extract (v := .int _ _) rfl rfl ?_
   refine RS.extract (v := .int _ _) rfl rfl ?_
   refine RS.o (D.fieldL 1 rfl Tryd.underlying26 rfl C2 (by decide) rfl) ?_
   refine RS.store rfl (v := .int _ _) rfl C2 rfl B10 rfl (fun w18 y18 N18 => ?_)
   replace hE := hE.trans (y18.below (by intros; try (first | (intro _ _) | (intro _) | skip); first | omega | (dsimp only at *; omega) | (simp_all; done) | (simp at *; omega)))
   replace R0 := R0.st y18 (by intros; try (first | (intro _ _) | (intro _) | skip); first | omega | (dsimp only at *; omega) | (simp_all; done) | (simp at *; omega))
   replace B2 := B2.st y18 (by intros; try (first | (intro _ _) | (intro _) | skip); first | omega | (dsimp only at *; omega) | (simp_all; done) | (simp at *; omega))
   replace QR := QR.st y18 (by intros; try (first | (intro _ _) | (intro _) | skip); first | omega | (dsimp only at *; omega) | (simp_all; done) | (simp at *; omega))
   have zw18 := y18.size
   replace B10 := N18
   refine RS.assign (v := .int _ _) rfl ?_
   refine RS.assign (v := .int _ _) rfl ?_
   refine RS.nil ?_
   refine hK12 _ _ ?_
   try clear hK12
   refine wp_seq_k (fun K19 hK19 => ?_)
   refine wp_seq_k (fun K20 hK20 => ?_)
   refine region ?_
   refine RS.move (v := .int _ _) rfl ?_
   refine RS.o (D.ne rfl rfl) ?_
   refine RS.move (v := .bool _) rfl ?_
   refine RS.splitn 67 rfl rfl (fun c21 => ?_) (fun c21 => ?_)
   ·refine RS.norm (by dsimp only [List.set]) ?_
    have hbad := c21
    refine RS.skipB (b := true) 67 rfl rfl rfl rfl ?_
    refine RS.norm (by dsimp only [putL, List.set]) ?_
    refine RS.skipB (b := true) 67 rfl rfl rfl rfl ?_
    refine RS.norm (by dsimp only [putL, List.set]) ?_
    refine RS.skipB (b := true) 67 rfl rfl rfl rfl ?_
    refine RS.norm (by dsimp only [putL, List.set]) ?_
    refine RS.pick (v := .bool true) rfl rfl ?_
    refine RS.nil ?_
    refine hK20 _ _ ?_
    try clear hK20
    refine C.ift rfl ?_
    refine wp_seq_k (fun K22 hK22 => ?_)
    refine region ?_
    refine RS.o (D.buildS T26 F26 (ps := []) rfl rfl) ?_
    refine RS.storeAggB rfl rfl C26 (by decide) rfl rfl B2 rfl (fun w23 y23 N23 => ?_)
    replace hE := hE.trans (y23.below (by intros; try (first | (intro _ _) | (intro _) | skip); first | omega | (dsimp only at *; omega) | (simp_all; done) | (simp at *; omega)))
    replace R0 := R0.st y23 (by intros; try (first | (intro _ _) | (intro _) | skip); first | omega | (dsimp only at *; omega) | (simp_all; done) | (simp at *; omega))
    replace QR := QR.st y23 (by intros; try (first | (intro _ _) | (intro _) | skip); first | omega | (dsimp only at *; omega) | (simp_all; done) | (simp at *; omega))
    replace B10 := B10.st y23 (by intros; try (first | (intro _ _) | (intro _) | skip); first | omega | (dsimp only at *; omega) | (simp_all; done) | (simp at *; omega))
    have zw23 := y23.size
    replace B2 := N23
    refine RS.assign (v := .int .i64 0) rfl ?_
    refine RS.assign (v := .int .i64 12) rfl ?_
    refine RS.nil ?_
    refine hK22 _ _ ?_
    try clear hK22
    refine wp_ret ?_
    refine ret (rs := [.cell 2 26, .tmp 3, .tmp 4]) (vs := [.agg _, .int _ _, .int _ _]) (v := (.tuple #[.agg _, .int _ _, .int _ _])) rfl ⟨⟨_, rfl, loadVar_agg Tryd.underlying26 rfl C26 (by decide) rfl (B2.cellsN 4 rfl)⟩, rfl, rfl, trivial⟩ rfl ?_
    first | exact absurd rfl hbad | (rw [S.vd_fail (S.valR_oneN hk hbad)]; exact ⟨_, rfl, hE, rfl⟩) | (rw [S.vd_fail (S.valR_threeN hk hbad)]; exact ⟨_, rfl, hE, rfl⟩)
   ·refine RS.norm (by dsimp only [List.set]) ?_
    first | have hv := S.valR_one hk c21 | have hv := S.valR_two hk hlt hacc | have hv := S.valR_three hk c21 | have hv := S.valR_else (r := r) hk1 hk2 hk3
    refine RS.wantB 67 rfl rfl rfl ?_
    refine RS.o (D.loadAgg rfl Tryd.underlying26 rfl C26 (by decide) rfl (B10.cellsN 4 rfl)) ?_
    refine RS.wantB 67 rfl rfl rfl ?_
    refine RS.call E52 (checkV _ _ _ _ (by omega) (by omega) (by omega) _) rfl (fun v24 w24 x24 A24 => ?_)
    replace hE := Ext.tr hE x24
    replace R0 := R0.ext x24
    replace B2 := B2.ext x24
    replace QR := QR.ext x24
    replace B10 := B10.ext x24
    have zw24 := x24.size
    subst A24
    refine RS.norm (by dsimp only [List.set]) ?_
    refine RS.wantB 67 rfl rfl rfl ?_
    refine RS.o (D.ne rfl rfl) ?_
    refine RS.pick (v := .bool _) rfl rfl ?_
    refine RS.nil ?_
    refine hK20 _ _ ?_
    try clear hK20
    refine C.ifn rfl (fun c25 => ?_) (fun c25 => ?_)
    ·have hz := c25
     refine wp_seq_k (fun K26 hK26 => ?_)
     refine region ?_
     refine RS.o (D.buildS T26 F26 (ps := []) rfl rfl) ?_
     refine RS.storeAggB rfl rfl C26 (by decide) rfl rfl B2 rfl (fun w27 y27 N27 => ?_)
     replace hE := hE.trans (y27.below (by intros; try (first | (intro _ _) | (intro _) | skip); first | omega | (dsimp only at *; omega) | (simp_all; done) | (simp at *; omega)))
     replace R0 := R0.st y27 (by intros; try (first | (intro _ _) | (intro _) | skip); first | omega | (dsimp only at *; omega) | (simp_all; done) | (simp at *; omega))
     replace QR := QR.st y27 (by intros; try (first | (intro _ _) | (intro _) | skip); first | omega | (dsimp only at *; omega) | (simp_all; done) | (simp at *; omega))
     replace B10 := B10.st y27 (by intros; try (first | (intro _ _) | (intro _) | skip); first | omega | (dsimp only at *; omega) | (simp_all; done) | (simp at *; omega))
     have zw27 := y27.size
     replace B2 := N27
     refine RS.assign (v := .int .i64 0) rfl ?_
     refine RS.assign (v := .int .i64 12) rfl ?_
     refine RS.nil ?_
     refine hK26 _ _ ?_
     try clear hK26
     refine wp_ret ?_
     refine ret (rs := [.cell 2 26, .tmp 3, .tmp 4]) (vs := [.agg _, .int _ _, .int _ _]) (v := (.tuple #[.agg _, .int _ _, .int _ _])) rfl ⟨⟨_, rfl, loadVar_agg Tryd.underlying26 rfl C26 (by decide) rfl (B2.cellsN 4 rfl)⟩, rfl, rfl, trivial⟩ rfl ?_
     rw [S.vd_bad hv hz]
     exact ⟨_, rfl, hE, rfl⟩
    ·have hz := c25
     refine wp_skip ?_
     refine hK19 _ _ ?_
     try clear hK19
     refine wp_seq_k (fun K28 hK28 => ?_)
     refine region ?_
     refine RS.o (D.loadAgg rfl Tryd.underlying26 rfl C26 (by decide) rfl (B10.cellsN 4 rfl)) ?_
     refine RS.move (v := .int _ _) rfl ?_
     refine RS.o (D.add rfl rfl (W.i64 (by omega))) ?_
     refine RS.storeAggB rfl rfl C26 (by decide) rfl rfl B2 rfl (fun w29 y29 N29 => ?_)
     replace hE := hE.trans (y29.below (by intros; try (first | (intro _ _) | (intro _) | skip); first | omega | (dsimp only at *; omega) | (simp_all; done) | (simp at *; omega)))
     replace R0 := R0.st y29 (by intros; try (first | (intro _ _) | (intro _) | skip); first | omega | (dsimp only at *; omega) | (simp_all; done) | (simp at *; omega))
     replace QR := QR.st y29 (by intros; try (first | (intro _ _) | (intro _) | skip); first | omega | (dsimp only at *; omega) | (simp_all; done) | (simp at *; omega))
     replace B10 := B10.st y29 (by intros; try (first | (intro _ _) | (intro _) | skip); first | omega | (dsimp only at *; omega) | (simp_all; done) | (simp at *; omega))
     have zw29 := y29.size
     replace B2 := N29
     refine RS.assign (v := .int _ _) rfl ?_
     refine RS.assign (v := .int .i64 0) rfl ?_
     refine RS.nil ?_
     refine hK28 _ _ ?_
     try clear hK28
     refine wp_ret ?_
     refine ret (rs := [.cell 2 26, .tmp 3, .tmp 4]) (vs := [.agg _, .int _ _, .int _ _]) (v := (.tuple #[.agg _, .int _ _, .int _ _])) rfl ⟨⟨_, rfl, loadVar_agg Tryd.underlying26 rfl C26 (by decide) rfl (B2.cellsN 4 rfl)⟩, rfl, rfl, trivial⟩ rfl ?_
     rw [S.vd_good hv hz]
     exact ⟨_, rfl, hE, rfl⟩
  ·have hk1 := c16
   refine wp_seq_k (fun K30 hK30 => ?_)
   refine region ?_
   refine RS.o (D.eq rfl rfl) ?_
   refine RS.assign (v := .bool _) rfl ?_
   refine RS.nil ?_
   refine hK30 _ _ ?_
   try clear hK30
   refine C.ife rfl (fun c31 => ?_) (fun c31 => ?_)
   ·have hk := c31
    refine wp_seq_k (fun K32 hK32 => ?_)
    refine wp_seq_k (fun K33 hK33 => ?_)
    refine region ?_
    refine RS.move (v := .slice _ _ _) rfl ?_
    refine RS.o (D.len rfl Tryd.underlying35) ?_
    refine RS.o (D.lt rfl rfl) ?_
    refine RS.nil ?_
    refine hK33 _ _ ?_
    try clear hK33
    refine C.ifd rfl (fun c34 => ?_) (fun c34 => ?_)
    ·refine wp_seq_k (fun K35 hK35 => ?_)
     refine region ?_
     refine RS.o (D.buildS T26 F26 (ps := []) rfl rfl) ?_
     refine RS.storeAggB rfl rfl C26 (by decide) rfl rfl B2 rfl (fun w36 y36 N36 => ?_)
     replace hE := hE.trans (y36.below (by intros; try (first | (intro _ _) | (intro _) | skip); first | omega | (dsimp only at *; omega) | (simp_all; done) | (simp at *; omega)))
     replace R0 := R0.st y36 (by intros; try (first | (intro _ _) | (intro _) | skip); first | omega | (dsimp only at *; omega) | (simp_all; done) | (simp at *; omega))
     replace QR := QR.st y36 (by intros; try (first | (intro _ _) | (intro _) | skip); first | omega | (dsimp only at *; omega) | (simp_all; done) | (simp at *; omega))
     replace B10 := B10.st y36 (by intros; try (first | (intro _ _) | (intro _) | skip); first | omega | (dsimp only at *; omega) | (simp_all; done) | (simp at *; omega))
     have zw36 := y36.size
     replace B2 := N36
     refine RS.assign (v := .int .i64 0) rfl ?_
     refine RS.assign (v := .int .i64 12) rfl ?_
     refine RS.nil ?_
     refine hK35 _ _ ?_
     try clear hK35
     refine wp_ret ?_
     refine ret (rs := [.cell 2 26, .tmp 3, .tmp 4]) (vs := [.agg _, .int _ _, .int _ _]) (v := (.tuple #[.agg _, .int _ _, .int _ _])) rfl ⟨⟨_, rfl, loadVar_agg Tryd.underlying26 rfl C26 (by decide) rfl (B2.cellsN 4 rfl)⟩, rfl, rfl, trivial⟩ rfl ?_
     rw [S.vd_fail (S.valR_twoN hk (by omega))]
     exact ⟨_, rfl, hE, rfl⟩
    ·have hlt : ¬ r.length < 8 := by omega
     refine wp_skip ?_
     refine hK32 _ _ ?_
     try clear hK32
     refine wp_seq_k (fun K37 hK37 => ?_)
     refine wp_seq_k (fun K38 hK38 => ?_)
     have QS := QR.sub 0 8 (c - 1) (by omega) (by omega) (by omega)
     have hQb := QS.bd
     have hQl := QS.len
     rw [List.drop_zero] at hQb hQl
     have hq8 : (r.take 8).length = 8 := by rw [List.length_take]; omega
     refine region ?_
     refine RS.move (v := .slice _ _ _) rfl ?_
     refine RS.o (D.slice (kl := .i64) (kh := .i64) rfl Tryd.underlying35 C5 (by decide) rfl rfl (by omega) (by omega)) ?_
     refine RS.o (D.len rfl Tryd.underlying35) ?_
     refine RS.move (v := .int .i64 0) rfl ?_
     refine RS.nil ?_
     refine hK38 _ _ ?_
     try clear hK38
     refine wp_block ?_
     refine C.loop (A := Int × Int) (fun p => [(42, .int .i64 p.1)]) [10, 43, 44, 45, 46, 47, 48, 49, 50, 51, 52, 53] (fun p w' => Pr (fun k => k = b10) w11 w' ∧ (Blk w' b10 [.int .u8 x, .int .i64 0, .int .u64 p.2, .string .empty] 26 ∧ (0 ≤ p.1 ∧ p.1 ≤ 8) ∧ p.2 = S.be ((r.take 8).take p.1.toNat))) (fun p => (8 - p.1.toNat)) (0, 0) (by kernel_rfl) ?_ ?_
     ·exact ⟨Pr.refl _ _, B10, ⟨by dsimp only; omega, by dsimp only; omega⟩, rfl⟩
     ·rintro p j w39 ⟨x39, hI⟩
      replace hE := hE.trans (x39.below (by intros; try (first | (intro _ _) | (intro _) | skip); first | omega | (dsimp only at *; omega) | (simp_all; done) | (simp at *; omega)) (by intros; try (first | (intro _ _) | (intro _) | skip); first | omega | (dsimp only at *; omega) | (simp_all; done) | (simp at *; omega)))
      replace R0 := R0.pr x39 (by intros; try (first | (intro _ _) | (intro _) | skip); first | omega | (dsimp only at *; omega) | (simp_all; done) | (simp at *; omega))
      replace B2 := B2.pr x39 (by intros; try (first | (intro _ _) | (intro _) | skip); first | omega | (dsimp only at *; omega) | (simp_all; done) | (simp at *; omega))
      replace QR := QR.pr x39 (by intros; try (first | (intro _ _) | (intro _) | skip); first | omega | (dsimp only at *; omega) | (simp_all; done) | (simp at *; omega))
      replace QS := QS.pr x39 (by intros; try (first | (intro _ _) | (intro _) | skip); first | omega | (dsimp only at *; omega) | (simp_all; done) | (simp at *; omega))
      have zw39 := x39.size
      obtain ⟨i, acc⟩ := p
      dsimp only at hI
      obtain ⟨B10, g1, g2⟩ := hI
      have g3 := S.be8_lt (r.take 8) i.toNat hQb (by omega)
      rw [← g2] at g3
      refine C.norm (by simp only [upd, junk, List.map_cons, List.map_nil, List.set_cons_succ, List.set_cons_zero]; exact rfl) ?_
      refine wp_seq_k (fun K40 hK40 => ?_)
      refine region ?_
      refine RS.o (D.lt rfl rfl) ?_
      refine RS.nil ?_
      refine hK40 _ _ ?_
      try clear hK40
      refine wp_seq_k (fun K41 hK41 => ?_)
      refine C.ifd rfl (fun c42 => ?_) (fun c42 => ?_)
      ·refine wp_skip ?_
       refine hK41 _ _ ?_
       try clear hK41
       refine wp_seq_k (fun K43 hK43 => ?_)
       refine wp_block ?_
       refine wp_seq_k (fun K44 hK44 => ?_)
       refine region ?_
       refine RS.idx QS rfl rfl Tryd.underlying35 C5 (by omega) (fun b45 o45 v45 h45 q45 r45 => ?_)
       refine RS.norm (by dsimp only [List.set]) ?_
       simp only [lim] at r45
       have q6 := q45
       rw [List.drop_zero] at q6
       refine RS.o (D.load rfl Tryd.underlying5 rfl (h45)) ?_
       refine RS.assign (v := .int _ _) rfl ?_
       refine RS.nil ?_
       refine hK44 _ _ ?_
       try clear hK44
       refine region ?_
       refine RS.o (D.fieldL 2 rfl Tryd.underlying26 rfl C24 (by decide) rfl) ?_
       refine RS.o (D.load rfl Tryd.underlying24 rfl (B10.cell rfl)) ?_
       refine RS.o (D.shl rfl rfl (by constructor <;> (try simp only [IntKind.bits]) <;> omega) (by first | exact W.u64 (by omega) | exact W.u64m _)) ?_
       refine RS.move (v := .int _ _) rfl ?_
       refine RS.o (D.conv rfl Tryd.underlying5 Tryd.underlying24 (by first | exact W.u64 (by omega) | exact W.u64m _)) ?_
       refine RS.ob (D.bor_u64 rfl rfl (by omega) (by omega)) (fun z46 => ?_)
       refine RS.o (D.fieldL 2 rfl Tryd.underlying26 rfl C24 (by decide) rfl) ?_
       refine RS.store rfl (v := .int _ _) rfl C24 rfl B10 rfl (fun w47 y47 N47 => ?_)
       replace hE := hE.trans (y47.below (by intros; try (first | (intro _ _) | (intro _) | skip); first | omega | (dsimp only at *; omega) | (simp_all; done) | (simp at *; omega)))
       replace x39 := x39.stn y47 (by intros; try (first | (intro _ _) | (intro _) | skip); first | omega | (dsimp only at *; omega) | (simp_all; done) | (simp at *; omega))
       replace R0 := R0.st y47 (by intros; try (first | (intro _ _) | (intro _) | skip); first | omega | (dsimp only at *; omega) | (simp_all; done) | (simp at *; omega))
       replace B2 := B2.st y47 (by intros; try (first | (intro _ _) | (intro _) | skip); first | omega | (dsimp only at *; omega) | (simp_all; done) | (simp at *; omega))
       replace QR := QR.st y47 (by intros; try (first | (intro _ _) | (intro _) | skip); first | omega | (dsimp only at *; omega) | (simp_all; done) | (simp at *; omega))
       replace QS := QS.st y47 (by intros; try (first | (intro _ _) | (intro _) | skip); first | omega | (dsimp only at *; omega) | (simp_all; done) | (simp at *; omega))
       have zw47 := y47.size
       replace B10 := N47
       refine RS.nil ?_
       refine hK43 _ _ ?_
       try clear hK43
       refine region ?_
       refine RS.o (D.add rfl rfl (W.i64 (by omega))) ?_
       refine RS.move (v := .int _ _) rfl ?_
       refine RS.nil ?_
       change Nx _ _ _ _ _ _ _ _
       refine C.next (i + 1, S.be ((r.take 8).take (i + 1).toNat)) ⟨rfl, trivial⟩ (by kernel_rfl) ?_ ?_
       ·have hnx := S.be_next (r.take 8) i.toNat hQb (by omega) (by omega)
        rw [← g2, ← q6, show i.toNat + 1 = (i + 1).toNat by omega] at hnx
        refine ⟨x39, ?_, ⟨by dsimp only; omega, by dsimp only; omega⟩, rfl⟩
        dsimp only
        rw [← hnx]
        exact B10
       ·dsimp only; omega
      ·refine wp_exit ?_
       refine hK37 _ _ ?_
       try clear hK37
       have hacc : acc = S.be (r.take 8) := by rw [g2, show i.toNat = 8 by omega, List.take_take]; rfl
       refine region ?_
       refine RS.assign (v := .int .i64 8) rfl ?_
       refine RS.nil ?_
       refine hK12 _ _ ?_
       try clear hK12
       refine wp_seq_k (fun K48 hK48 => ?_)
       refine wp_seq_k (fun K49 hK49 => ?_)
       refine region ?_
       refine RS.move (v := .int _ _) rfl ?_
       refine RS.o (D.ne rfl rfl) ?_
       refine RS.move (v := .bool _) rfl ?_
       refine RS.splitn 67 rfl rfl (fun c50 => ?_) (fun c50 => ?_)
       ·refine RS.norm (by dsimp only [List.set]) ?_
        have hbad := c50
        refine RS.skipB (b := true) 67 rfl rfl rfl rfl ?_
        refine RS.norm (by dsimp only [putL, List.set]) ?_
        refine RS.skipB (b := true) 67 rfl rfl rfl rfl ?_
        refine RS.norm (by dsimp only [putL, List.set]) ?_
        refine RS.skipB (b := true) 67 rfl rfl rfl rfl ?_
        refine RS.norm (by dsimp only [putL, List.set]) ?_
        refine RS.pick (v := .bool true) rfl rfl ?_
        refine RS.nil ?_
        refine hK49 _ _ ?_
        try clear hK49
        refine C.ift rfl ?_
        refine wp_seq_k (fun K51 hK51 => ?_)
        refine region ?_
        refine RS.o (D.buildS T26 F26 (ps := []) rfl rfl) ?_
        refine RS.storeAggB rfl rfl C26 (by decide) rfl rfl B2 rfl (fun w52 y52 N52 => ?_)
        replace hE := hE.trans (y52.below (by intros; try (first | (intro _ _) | (intro _) | skip); first | omega | (dsimp only at *; omega) | (simp_all; done) | (simp at *; omega)))
        replace R0 := R0.st y52 (by intros; try (first | (intro _ _) | (intro _) | skip); first | omega | (dsimp only at *; omega) | (simp_all; done) | (simp at *; omega))
        replace QR := QR.st y52 (by intros; try (first | (intro _ _) | (intro _) | skip); first | omega | (dsimp only at *; omega) | (simp_all; done) | (simp at *; omega))
        replace B10 := B10.st y52 (by intros; try (first | (intro _ _) | (intro _) | skip); first | omega | (dsimp only at *; omega) | (simp_all; done) | (simp at *; omega))
        replace QS := QS.st y52 (by intros; try (first | (intro _ _) | (intro _) | skip); first | omega | (dsimp only at *; omega) | (simp_all; done) | (simp at *; omega))
        have zw52 := y52.size
        replace B2 := N52
        refine RS.assign (v := .int .i64 0) rfl ?_
        refine RS.assign (v := .int .i64 12) rfl ?_
        refine RS.nil ?_
        refine hK51 _ _ ?_
        try clear hK51
        refine wp_ret ?_
        refine ret (rs := [.cell 2 26, .tmp 3, .tmp 4]) (vs := [.agg _, .int _ _, .int _ _]) (v := (.tuple #[.agg _, .int _ _, .int _ _])) rfl ⟨⟨_, rfl, loadVar_agg Tryd.underlying26 rfl C26 (by decide) rfl (B2.cellsN 4 rfl)⟩, rfl, rfl, trivial⟩ rfl ?_
        first | exact absurd rfl hbad | (rw [S.vd_fail (S.valR_oneN hk hbad)]; exact ⟨_, rfl, hE, rfl⟩) | (rw [S.vd_fail (S.valR_threeN hk hbad)]; exact ⟨_, rfl, hE, rfl⟩)
       ·refine RS.norm (by dsimp only [List.set]) ?_
        first | have hv := S.valR_one hk c50 | have hv := S.valR_two hk hlt hacc | have hv := S.valR_three hk c50 | have hv := S.valR_else (r := r) hk1 hk2 hk3
        refine RS.wantB 67 rfl rfl rfl ?_
        refine RS.o (D.loadAgg rfl Tryd.underlying26 rfl C26 (by decide) rfl (B10.cellsN 4 rfl)) ?_
        refine RS.wantB 67 rfl rfl rfl ?_
        refine RS.call E52 (checkV _ _ _ _ (by omega) (by omega) (by omega) _) rfl (fun v53 w53 x53 A53 => ?_)
        replace hE := Ext.tr hE x53
        replace R0 := R0.ext x53
        replace B2 := B2.ext x53
        replace QR := QR.ext x53
        replace B10 := B10.ext x53
        replace QS := QS.ext x53
        have zw53 := x53.size
        subst A53
        refine RS.norm (by dsimp only [List.set]) ?_
        refine RS.wantB 67 rfl rfl rfl ?_
        refine RS.o (D.ne rfl rfl) ?_
        refine RS.pick (v := .bool _) rfl rfl ?_
        refine RS.nil ?_
        refine hK49 _ _ ?_
        try clear hK49
        refine C.ifn rfl (fun c54 => ?_) (fun c54 => ?_)
        ·have hz := c54
         refine wp_seq_k (fun K55 hK55 => ?_)
         refine region ?_
         refine RS.o (D.buildS T26 F26 (ps := []) rfl rfl) ?_
         refine RS.storeAggB rfl rfl C26 (by decide) rfl rfl B2 rfl (fun w56 y56 N56 => ?_)
         replace hE := hE.trans (y56.below (by intros; try (first | (intro _ _) | (intro _) | skip); first | omega | (dsimp only at *; omega) | (simp_all; done) | (simp at *; omega)))
         replace R0 := R0.st y56 (by intros; try (first | (intro _ _) | (intro _) | skip); first | omega | (dsimp only at *; omega) | (simp_all; done) | (simp at *; omega))
         replace QR := QR.st y56 (by intros; try (first | (intro _ _) | (intro _) | skip); first | omega | (dsimp only at *; omega) | (simp_all; done) | (simp at *; omega))
         replace B10 := B10.st y56 (by intros; try (first | (intro _ _) | (intro _) | skip); first | omega | (dsimp only at *; omega) | (simp_all; done) | (simp at *; omega))
         replace QS := QS.st y56 (by intros; try (first | (intro _ _) | (intro _) | skip); first | omega | (dsimp only at *; omega) | (simp_all; done) | (simp at *; omega))
         have zw56 := y56.size
         replace B2 := N56
         refine RS.assign (v := .int .i64 0) rfl ?_
         refine RS.assign (v := .int .i64 12) rfl ?_
         refine RS.nil ?_
         refine hK55 _ _ ?_
         try clear hK55
         refine wp_ret ?_
         refine ret (rs := [.cell 2 26, .tmp 3, .tmp 4]) (vs := [.agg _, .int _ _, .int _ _]) (v := (.tuple #[.agg _, .int _ _, .int _ _])) rfl ⟨⟨_, rfl, loadVar_agg Tryd.underlying26 rfl C26 (by decide) rfl (B2.cellsN 4 rfl)⟩, rfl, rfl, trivial⟩ rfl ?_
         rw [S.vd_bad hv hz]
         exact ⟨_, rfl, hE, rfl⟩
        ·have hz := c54
         refine wp_skip ?_
         refine hK48 _ _ ?_
         try clear hK48
         refine wp_seq_k (fun K57 hK57 => ?_)
         refine region ?_
         refine RS.o (D.loadAgg rfl Tryd.underlying26 rfl C26 (by decide) rfl (B10.cellsN 4 rfl)) ?_
         refine RS.move (v := .int _ _) rfl ?_
         refine RS.o (D.add rfl rfl (W.i64 (by omega))) ?_
         refine RS.storeAggB rfl rfl C26 (by decide) rfl rfl B2 rfl (fun w58 y58 N58 => ?_)
         replace hE := hE.trans (y58.below (by intros; try (first | (intro _ _) | (intro _) | skip); first | omega | (dsimp only at *; omega) | (simp_all; done) | (simp at *; omega)))
         replace R0 := R0.st y58 (by intros; try (first | (intro _ _) | (intro _) | skip); first | omega | (dsimp only at *; omega) | (simp_all; done) | (simp at *; omega))
         replace QR := QR.st y58 (by intros; try (first | (intro _ _) | (intro _) | skip); first | omega | (dsimp only at *; omega) | (simp_all; done) | (simp at *; omega))
         replace B10 := B10.st y58 (by intros; try (first | (intro _ _) | (intro _) | skip); first | omega | (dsimp only at *; omega) | (simp_all; done) | (simp at *; omega))
         replace QS := QS.st y58 (by intros; try (first | (intro _ _) | (intro _) | skip); first | omega | (dsimp only at *; omega) | (simp_all; done) | (simp at *; omega))
         have zw58 := y58.size
         replace B2 := N58
         refine RS.assign (v := .int _ _) rfl ?_
         refine RS.assign (v := .int .i64 0) rfl ?_
         refine RS.nil ?_
         refine hK57 _ _ ?_
         try clear hK57
         refine wp_ret ?_
         refine ret (rs := [.cell 2 26, .tmp 3, .tmp 4]) (vs := [.agg _, .int _ _, .int _ _]) (v := (.tuple #[.agg _, .int _ _, .int _ _])) rfl ⟨⟨_, rfl, loadVar_agg Tryd.underlying26 rfl C26 (by decide) rfl (B2.cellsN 4 rfl)⟩, rfl, rfl, trivial⟩ rfl ?_
         rw [S.vd_good hv hz]
         exact ⟨_, rfl, hE, rfl⟩
   ·have hk2 := c31
    refine wp_seq_k (fun K59 hK59 => ?_)
    refine region ?_
    refine RS.o (D.eq rfl rfl) ?_
    refine RS.assign (v := .bool _) rfl ?_
    refine RS.nil ?_
    refine hK59 _ _ ?_
    try clear hK59
    refine C.ife rfl (fun c60 => ?_) (fun c60 => ?_)
    ·have hk := c60
     refine wp_seq_k (fun K61 hK61 => ?_)
     refine region ?_
     refine RS.assign (v := .slice none 0 0) rfl ?_
     refine RS.nil ?_
     refine hK61 _ _ ?_
     try clear hK61
     refine wp_seq_k (fun K62 hK62 => ?_)
     refine region ?_
     refine RS.move (v := .slice _ _ _) rfl ?_
     refine RS.call E75 (readB _ _ _ _ 30 (by decide) _ QR (by omega) (by omega)) rfl (fun v63 w63 x63 A63 => ?_)
     replace hE := Ext.tr hE x63
     replace R0 := R0.ext x63
     replace B2 := B2.ext x63
     replace QR := QR.ext x63
     replace B10 := B10.ext x63
     have zw63 := x63.size
     obtain ⟨aC, nC, cC, rfl, OC⟩ := A63
     have hOC := OC.lo
     refine RS.norm (by dsimp only [List.set]) ?_
     refine RS.move (v := .tuple _) rfl ?_
     refine RS.extract (v := .slice _ _ _) rfl rfl ?_
     refine RS.extract (v := .int _ _) rfl rfl ?_
     refine RS.extract (v := .int _ _) rfl rfl ?_
     refine RS.assign (v := .slice _ _ _) rfl ?_
     refine RS.assign (v := .int _ _) rfl ?_
     refine RS.assign (v := .int _ _) rfl ?_
     refine RS.nil ?_
     refine hK62 _ _ ?_
     try clear hK62
     refine region ?_
     refine RS.move (v := .slice _ _ _) rfl ?_
     refine RS.o (D.convBS OC.row rfl Tryd.underlying35 Tryd.underlying5 Tryd.underlying9) ?_
     refine RS.o (D.fieldL 3 rfl Tryd.underlying26 rfl C9 (by decide) rfl) ?_
     refine RS.store rfl  rfl C9 rfl B10 rfl (fun w64 y64 N64 => ?_)
     replace hE := hE.trans (y64.below (by intros; try (first | (intro _ _) | (intro _) | skip); first | omega | (dsimp only at *; omega) | (simp_all; done) | (simp at *; omega)))
     replace R0 := R0.st y64 (by intros; try (first | (intro _ _) | (intro _) | skip); first | omega | (dsimp only at *; omega) | (simp_all; done) | (simp at *; omega))
     replace B2 := B2.st y64 (by intros; try (first | (intro _ _) | (intro _) | skip); first | omega | (dsimp only at *; omega) | (simp_all; done) | (simp at *; omega))
     replace QR := QR.st y64 (by intros; try (first | (intro _ _) | (intro _) | skip); first | omega | (dsimp only at *; omega) | (simp_all; done) | (simp at *; omega))
     replace OC := OC.st y64 (by intros; try (first | (intro _ _) | (intro _) | skip); first | omega | (have hq := hOC _ (by assumption); first | omega | (dsimp only at *; omega)))
     have zw64 := y64.size
     replace B10 := N64
     refine RS.nil ?_
     refine hK12 _ _ ?_
     try clear hK12
     refine wp_seq_k (fun K65 hK65 => ?_)
     refine wp_seq_k (fun K66 hK66 => ?_)
     refine region ?_
     refine RS.move (v := .int _ _) rfl ?_
     refine RS.o (D.ne rfl rfl) ?_
     refine RS.move (v := .bool _) rfl ?_
     refine RS.splitn 67 rfl rfl (fun c67 => ?_) (fun c67 => ?_)
     ·refine RS.norm (by dsimp only [List.set]) ?_
      have hbad := c67
      refine RS.skipB (b := true) 67 rfl rfl rfl rfl ?_
      refine RS.norm (by dsimp only [putL, List.set]) ?_
      refine RS.skipB (b := true) 67 rfl rfl rfl rfl ?_
      refine RS.norm (by dsimp only [putL, List.set]) ?_
      refine RS.skipB (b := true) 67 rfl rfl rfl rfl ?_
      refine RS.norm (by dsimp only [putL, List.set]) ?_
      refine RS.pick (v := .bool true) rfl rfl ?_
      refine RS.nil ?_
      refine hK66 _ _ ?_
      try clear hK66
      refine C.ift rfl ?_
      refine wp_seq_k (fun K68 hK68 => ?_)
      refine region ?_
      refine RS.o (D.buildS T26 F26 (ps := []) rfl rfl) ?_
      refine RS.storeAggB rfl rfl C26 (by decide) rfl rfl B2 rfl (fun w69 y69 N69 => ?_)
      replace hE := hE.trans (y69.below (by intros; try (first | (intro _ _) | (intro _) | skip); first | omega | (dsimp only at *; omega) | (simp_all; done) | (simp at *; omega)))
      replace R0 := R0.st y69 (by intros; try (first | (intro _ _) | (intro _) | skip); first | omega | (dsimp only at *; omega) | (simp_all; done) | (simp at *; omega))
      replace QR := QR.st y69 (by intros; try (first | (intro _ _) | (intro _) | skip); first | omega | (dsimp only at *; omega) | (simp_all; done) | (simp at *; omega))
      replace B10 := B10.st y69 (by intros; try (first | (intro _ _) | (intro _) | skip); first | omega | (dsimp only at *; omega) | (simp_all; done) | (simp at *; omega))
      replace OC := OC.st y69 (by intros; try (first | (intro _ _) | (intro _) | skip); first | omega | (have hq := hOC _ (by assumption); first | omega | (dsimp only at *; omega)))
      have zw69 := y69.size
      replace B2 := N69
      refine RS.assign (v := .int .i64 0) rfl ?_
      refine RS.assign (v := .int .i64 12) rfl ?_
      refine RS.nil ?_
      refine hK68 _ _ ?_
      try clear hK68
      refine wp_ret ?_
      refine ret (rs := [.cell 2 26, .tmp 3, .tmp 4]) (vs := [.agg _, .int _ _, .int _ _]) (v := (.tuple #[.agg _, .int _ _, .int _ _])) rfl ⟨⟨_, rfl, loadVar_agg Tryd.underlying26 rfl C26 (by decide) rfl (B2.cellsN 4 rfl)⟩, rfl, rfl, trivial⟩ rfl ?_
      first | exact absurd rfl hbad | (rw [S.vd_fail (S.valR_oneN hk hbad)]; exact ⟨_, rfl, hE, rfl⟩) | (rw [S.vd_fail (S.valR_threeN hk hbad)]; exact ⟨_, rfl, hE, rfl⟩)
     ·refine RS.norm (by dsimp only [List.set]) ?_
      first | have hv := S.valR_one hk c67 | have hv := S.valR_two hk hlt hacc | have hv := S.valR_three hk c67 | have hv := S.valR_else (r := r) hk1 hk2 hk3
      refine RS.wantB 67 rfl rfl rfl ?_
      refine RS.o (D.loadAgg rfl Tryd.underlying26 rfl C26 (by decide) rfl (B10.cellsN 4 rfl)) ?_
      refine RS.wantB 67 rfl rfl rfl ?_
      refine RS.call E52 (checkV _ _ _ _ (by omega) (by omega) (by omega) _) rfl (fun v70 w70 x70 A70 => ?_)
      replace hE := Ext.tr hE x70
      replace R0 := R0.ext x70
      replace B2 := B2.ext x70
      replace QR := QR.ext x70
      replace B10 := B10.ext x70
      replace OC := OC.ext x70
      have zw70 := x70.size
      subst A70
      refine RS.norm (by dsimp only [List.set]) ?_
      refine RS.wantB 67 rfl rfl rfl ?_
      refine RS.o (D.ne rfl rfl) ?_
      refine RS.pick (v := .bool _) rfl rfl ?_
      refine RS.nil ?_
      refine hK66 _ _ ?_
      try clear hK66
      refine C.ifn rfl (fun c71 => ?_) (fun c71 => ?_)
      ·have hz := c71
       refine wp_seq_k (fun K72 hK72 => ?_)
       refine region ?_
       refine RS.o (D.buildS T26 F26 (ps := []) rfl rfl) ?_
       refine RS.storeAggB rfl rfl C26 (by decide) rfl rfl B2 rfl (fun w73 y73 N73 => ?_)
       replace hE := hE.trans (y73.below (by intros; try (first | (intro _ _) | (intro _) | skip); first | omega | (dsimp only at *; omega) | (simp_all; done) | (simp at *; omega)))
       replace R0 := R0.st y73 (by intros; try (first | (intro _ _) | (intro _) | skip); first | omega | (dsimp only at *; omega) | (simp_all; done) | (simp at *; omega))
       replace QR := QR.st y73 (by intros; try (first | (intro _ _) | (intro _) | skip); first | omega | (dsimp only at *; omega) | (simp_all; done) | (simp at *; omega))
       replace B10 := B10.st y73 (by intros; try (first | (intro _ _) | (intro _) | skip); first | omega | (dsimp only at *; omega) | (simp_all; done) | (simp at *; omega))
       replace OC := OC.st y73 (by intros; try (first | (intro _ _) | (intro _) | skip); first | omega | (have hq := hOC _ (by assumption); first | omega | (dsimp only at *; omega)))
       have zw73 := y73.size
       replace B2 := N73
       refine RS.assign (v := .int .i64 0) rfl ?_
       refine RS.assign (v := .int .i64 12) rfl ?_
       refine RS.nil ?_
       refine hK72 _ _ ?_
       try clear hK72
       refine wp_ret ?_
       refine ret (rs := [.cell 2 26, .tmp 3, .tmp 4]) (vs := [.agg _, .int _ _, .int _ _]) (v := (.tuple #[.agg _, .int _ _, .int _ _])) rfl ⟨⟨_, rfl, loadVar_agg Tryd.underlying26 rfl C26 (by decide) rfl (B2.cellsN 4 rfl)⟩, rfl, rfl, trivial⟩ rfl ?_
       rw [S.vd_bad hv hz]
       exact ⟨_, rfl, hE, rfl⟩
      ·have hz := c71
       refine wp_skip ?_
       refine hK65 _ _ ?_
       try clear hK65
       refine wp_seq_k (fun K74 hK74 => ?_)
       refine region ?_
       refine RS.o (D.loadAgg rfl Tryd.underlying26 rfl C26 (by decide) rfl (B10.cellsN 4 rfl)) ?_
       refine RS.move (v := .int _ _) rfl ?_
       refine RS.o (D.add rfl rfl (W.i64 (by omega))) ?_
       refine RS.storeAggB rfl rfl C26 (by decide) rfl rfl B2 rfl (fun w75 y75 N75 => ?_)
       replace hE := hE.trans (y75.below (by intros; try (first | (intro _ _) | (intro _) | skip); first | omega | (dsimp only at *; omega) | (simp_all; done) | (simp at *; omega)))
       replace R0 := R0.st y75 (by intros; try (first | (intro _ _) | (intro _) | skip); first | omega | (dsimp only at *; omega) | (simp_all; done) | (simp at *; omega))
       replace QR := QR.st y75 (by intros; try (first | (intro _ _) | (intro _) | skip); first | omega | (dsimp only at *; omega) | (simp_all; done) | (simp at *; omega))
       replace B10 := B10.st y75 (by intros; try (first | (intro _ _) | (intro _) | skip); first | omega | (dsimp only at *; omega) | (simp_all; done) | (simp at *; omega))
       replace OC := OC.st y75 (by intros; try (first | (intro _ _) | (intro _) | skip); first | omega | (have hq := hOC _ (by assumption); first | omega | (dsimp only at *; omega)))
       have zw75 := y75.size
       replace B2 := N75
       refine RS.assign (v := .int _ _) rfl ?_
       refine RS.assign (v := .int .i64 0) rfl ?_
       refine RS.nil ?_
       refine hK74 _ _ ?_
       try clear hK74
       refine wp_ret ?_
       refine ret (rs := [.cell 2 26, .tmp 3, .tmp 4]) (vs := [.agg _, .int _ _, .int _ _]) (v := (.tuple #[.agg _, .int _ _, .int _ _])) rfl ⟨⟨_, rfl, loadVar_agg Tryd.underlying26 rfl C26 (by decide) rfl (B2.cellsN 4 rfl)⟩, rfl, rfl, trivial⟩ rfl ?_
       rw [S.vd_good hv hz]
       exact ⟨_, rfl, hE, rfl⟩
    ·have hk3 := c60
     refine wp_skip ?_
     refine hK12 _ _ ?_
     try clear hK12
     refine wp_seq_k (fun K76 hK76 => ?_)
     refine wp_seq_k (fun K77 hK77 => ?_)
     refine region ?_
     refine RS.move (v := .int _ _) rfl ?_
     refine RS.o (D.ne rfl rfl) ?_
     refine RS.move (v := .bool _) rfl ?_
     refine RS.splitn 67 rfl rfl (fun c78 => ?_) (fun c78 => ?_)
     ·refine RS.norm (by dsimp only [List.set]) ?_
      have hbad := c78
      refine RS.skipB (b := true) 67 rfl rfl rfl rfl ?_
      refine RS.norm (by dsimp only [putL, List.set]) ?_
      refine RS.skipB (b := true) 67 rfl rfl rfl rfl ?_
      refine RS.norm (by dsimp only [putL, List.set]) ?_
      refine RS.skipB (b := true) 67 rfl rfl rfl rfl ?_
      refine RS.norm (by dsimp only [putL, List.set]) ?_
      refine RS.pick (v := .bool true) rfl rfl ?_
      refine RS.nil ?_
      refine hK77 _ _ ?_
      try clear hK77
      refine C.ift rfl ?_
      refine wp_seq_k (fun K79 hK79 => ?_)
      refine region ?_
      refine RS.o (D.buildS T26 F26 (ps := []) rfl rfl) ?_
      refine RS.storeAggB rfl rfl C26 (by decide) rfl rfl B2 rfl (fun w80 y80 N80 => ?_)
      replace hE := hE.trans (y80.below (by intros; try (first | (intro _ _) | (intro _) | skip); first | omega | (dsimp only at *; omega) | (simp_all; done) | (simp at *; omega)))
      replace R0 := R0.st y80 (by intros; try (first | (intro _ _) | (intro _) | skip); first | omega | (dsimp only at *; omega) | (simp_all; done) | (simp at *; omega))
      replace QR := QR.st y80 (by intros; try (first | (intro _ _) | (intro _) | skip); first | omega | (dsimp only at *; omega) | (simp_all; done) | (simp at *; omega))
      replace B10 := B10.st y80 (by intros; try (first | (intro _ _) | (intro _) | skip); first | omega | (dsimp only at *; omega) | (simp_all; done) | (simp at *; omega))
      have zw80 := y80.size
      replace B2 := N80
      refine RS.assign (v := .int .i64 0) rfl ?_
      refine RS.assign (v := .int .i64 12) rfl ?_
      refine RS.nil ?_
      refine hK79 _ _ ?_
      try clear hK79
      refine wp_ret ?_
      refine ret (rs := [.cell 2 26, .tmp 3, .tmp 4]) (vs := [.agg _, .int _ _, .int _ _]) (v := (.tuple #[.agg _, .int _ _, .int _ _])) rfl ⟨⟨_, rfl, loadVar_agg Tryd.underlying26 rfl C26 (by decide) rfl (B2.cellsN 4 rfl)⟩, rfl, rfl, trivial⟩ rfl ?_
      first | exact absurd rfl hbad | (rw [S.vd_fail (S.valR_oneN hk hbad)]; exact ⟨_, rfl, hE, rfl⟩) | (rw [S.vd_fail (S.valR_threeN hk hbad)]; exact ⟨_, rfl, hE, rfl⟩)
     ·refine RS.norm (by dsimp only [List.set]) ?_
      first | have hv := S.valR_one hk c78 | have hv := S.valR_two hk hlt hacc | have hv := S.valR_three hk c78 | have hv := S.valR_else (r := r) hk1 hk2 hk3
      refine RS.wantB 67 rfl rfl rfl ?_
      refine RS.o (D.loadAgg rfl Tryd.underlying26 rfl C26 (by decide) rfl (B10.cellsN 4 rfl)) ?_
      refine RS.wantB 67 rfl rfl rfl ?_
      refine RS.call E52 (checkV _ _ _ _ (by omega) (by omega) (by omega) _) rfl (fun v81 w81 x81 A81 => ?_)
      replace hE := Ext.tr hE x81
      replace R0 := R0.ext x81
      replace B2 := B2.ext x81
      replace QR := QR.ext x81
      replace B10 := B10.ext x81
      have zw81 := x81.size
      subst A81
      refine RS.norm (by dsimp only [List.set]) ?_
      refine RS.wantB 67 rfl rfl rfl ?_
      refine RS.o (D.ne rfl rfl) ?_
      refine RS.pick (v := .bool _) rfl rfl ?_
      refine RS.nil ?_
      refine hK77 _ _ ?_
      try clear hK77
      refine C.ifn rfl (fun c82 => ?_) (fun c82 => ?_)
      ·have hz := c82
       refine wp_seq_k (fun K83 hK83 => ?_)
       refine region ?_
       refine RS.o (D.buildS T26 F26 (ps := []) rfl rfl) ?_
       refine RS.storeAggB rfl rfl C26 (by decide) rfl rfl B2 rfl (fun w84 y84 N84 => ?_)
       replace hE := hE.trans (y84.below (by intros; try (first | (intro _ _) | (intro _) | skip); first | omega | (dsimp only at *; omega) | (simp_all; done) | (simp at *; omega)))
       replace R0 := R0.st y84 (by intros; try (first | (intro _ _) | (intro _) | skip); first | omega | (dsimp only at *; omega) | (simp_all; done) | (simp at *; omega))
       replace QR := QR.st y84 (by intros; try (first | (intro _ _) | (intro _) | skip); first | omega | (dsimp only at *; omega) | (simp_all; done) | (simp at *; omega))
       replace B10 := B10.st y84 (by intros; try (first | (intro _ _) | (intro _) | skip); first | omega | (dsimp only at *; omega) | (simp_all; done) | (simp at *; omega))
       have zw84 := y84.size
       replace B2 := N84
       refine RS.assign (v := .int .i64 0) rfl ?_
       refine RS.assign (v := .int .i64 12) rfl ?_
       refine RS.nil ?_
       refine hK83 _ _ ?_
       try clear hK83
       refine wp_ret ?_
       refine ret (rs := [.cell 2 26, .tmp 3, .tmp 4]) (vs := [.agg _, .int _ _, .int _ _]) (v := (.tuple #[.agg _, .int _ _, .int _ _])) rfl ⟨⟨_, rfl, loadVar_agg Tryd.underlying26 rfl C26 (by decide) rfl (B2.cellsN 4 rfl)⟩, rfl, rfl, trivial⟩ rfl ?_
       rw [S.vd_bad hv hz]
       exact ⟨_, rfl, hE, rfl⟩
      ·have hz := c82
       refine wp_skip ?_
       refine hK76 _ _ ?_
       try clear hK76
       refine wp_seq_k (fun K85 hK85 => ?_)
       refine region ?_
       refine RS.o (D.loadAgg rfl Tryd.underlying26 rfl C26 (by decide) rfl (B10.cellsN 4 rfl)) ?_
       refine RS.move (v := .int _ _) rfl ?_
       refine RS.o (D.add rfl rfl (W.i64 (by omega))) ?_
       refine RS.storeAggB rfl rfl C26 (by decide) rfl rfl B2 rfl (fun w86 y86 N86 => ?_)
       replace hE := hE.trans (y86.below (by intros; try (first | (intro _ _) | (intro _) | skip); first | omega | (dsimp only at *; omega) | (simp_all; done) | (simp at *; omega)))
       replace R0 := R0.st y86 (by intros; try (first | (intro _ _) | (intro _) | skip); first | omega | (dsimp only at *; omega) | (simp_all; done) | (simp at *; omega))
       replace QR := QR.st y86 (by intros; try (first | (intro _ _) | (intro _) | skip); first | omega | (dsimp only at *; omega) | (simp_all; done) | (simp at *; omega))
       replace B10 := B10.st y86 (by intros; try (first | (intro _ _) | (intro _) | skip); first | omega | (dsimp only at *; omega) | (simp_all; done) | (simp at *; omega))
       have zw86 := y86.size
       replace B2 := N86
       refine RS.assign (v := .int _ _) rfl ?_
       refine RS.assign (v := .int .i64 0) rfl ?_
       refine RS.nil ?_
       refine hK85 _ _ ?_
       try clear hK85
       refine wp_ret ?_
       refine ret (rs := [.cell 2 26, .tmp 3, .tmp 4]) (vs := [.agg _, .int _ _, .int _ _]) (v := (.tuple #[.agg _, .int _ _, .int _ _])) rfl ⟨⟨_, rfl, loadVar_agg Tryd.underlying26 rfl C26 (by decide) rfl (B2.cellsN 4 rfl)⟩, rfl, rfl, trivial⟩ rfl ?_
       rw [S.vd_good hv hz]
       exact ⟨_, rfl, hE, rfl⟩
theorem rNext (b N : Nat) (T : TypeId) (hN : N ≤ b) (a : Option Addr) (n c : Nat) (bs : List Int) (bad : Bool) (u : Nat) (e : Int) (hu : e = 0 → u ≤ n) (w : World) (B0 : Blk w b [.slice a n c, .bool bad] T) (R0 : IRow .u8 (fun k => k < N) w a n bs) (hc : n ≤ c) (hn : n ≤ 1000000) :
  Calls Tryd.prog 74 #[.pointer (some ⟨b, 0, none⟩), .int .i64 u, .int .i64 e] w (fun ex w' => ex = .returned (.tuple #[]) ∧ Pr (fun k => k = b) w w' ∧ ∃ a' n' c', Blk w' b [.slice a' n' c', .bool (S.nxB e bad)] T ∧ n' ≤ c' ∧ n' ≤ n ∧ IRow .u8 (fun k => k < N) w' a' n' (S.nxL e u bs)) := by
 have hbb := B0.lt
 have hbl := R0.len
 have hbd := R0.bd
 have hE := Pr.refl (fun k => k = b) w
 refine enter (args := [.pointer (some ⟨b, 0, none⟩), .int .i64 u, .int .i64 e]) (l := [.pointer (some ⟨b, 0, none⟩), .int .i64 u, .int .i64 e, undef, undef, undef, undef, undef, undef, undef, undef, undef, undef, undef, undef, undef, undef, undef, undef, undef]) Tryd.func74 rfl rfl ?_
 refine wp_seq_k (fun K1 hK1 => ?_)
 refine wp_seq_k (fun K2 hK2 => ?_)
 refine region ?_
 refine RS.move (v := .int _ _) rfl ?_
 refine RS.o (D.ne rfl rfl) ?_
 refine RS.nil ?_
 refine hK2 _ _ ?_
 try clear hK2
 refine C.ifn rfl (fun c3 => ?_) (fun c3 => ?_)
 ·have he := c3
  refine wp_seq_k (fun K4 hK4 => ?_)
  refine region ?_
  refine RS.move (v := .pointer _) rfl ?_
  refine RS.nilCheck rfl ?_
  refine RS.o (D.fieldL 1 rfl Tryd.underlying103 rfl C4 (by decide) rfl) ?_
  refine RS.store rfl  rfl C4 rfl B0 rfl (fun w5 y5 N5 => ?_)
  replace hE := hE.stn y5 (by intros; try (first | (intro _ _) | (intro _) | skip); first | omega | (dsimp only at *; omega) | (simp_all; done) | (simp at *; omega))
  replace R0 := R0.st y5 (by intros; try (first | (intro _ _) | (intro _) | skip); first | omega | (dsimp only at *; omega) | (simp_all; done) | (simp at *; omega))
  have zw5 := y5.size
  replace B0 := N5
  refine RS.nil ?_
  refine hK4 _ _ ?_
  try clear hK4
  refine wp_ret ?_
  change bodyPost Tryd.prog Tryd.f74 (fun ex w' => ex = .returned (.tuple #[]) ∧ Pr (fun k => k = b) w w' ∧ ∃ a' n' c', Blk w' b [.slice a' n' c', .bool (S.nxB e bad)] T ∧ n' ≤ c' ∧ n' ≤ n ∧ IRow .u8 (fun k => k < N) w' a' n' (S.nxL e u bs)) .ret _ _
  refine ret (rs := []) (vs := []) rfl trivial rfl ?_
  obtain ⟨e1, e2⟩ := S.nx_ne he u bad bs
  rw [e1, e2]
  exact ⟨rfl, hE, _, _, _, B0, hc, Nat.le_refl _, R0⟩
 ·have he := c3
  have hu2 := hu he
  refine wp_skip ?_
  refine hK1 _ _ ?_
  try clear hK1
  refine region ?_
  refine RS.move (v := .pointer _) rfl ?_
  refine RS.move (v := .pointer _) rfl ?_
  refine RS.nilCheck rfl ?_
  refine RS.o (D.fieldL 0 rfl Tryd.underlying103 rfl C35 (by decide) rfl) ?_
  refine RS.o (D.load rfl Tryd.underlying35 rfl (B0.cell rfl)) ?_
  refine RS.move (v := .int _ _) rfl ?_
  refine RS.o (D.slice (kl := .i64) (kh := .i64) rfl Tryd.underlying35 C5 (by decide) rfl rfl (by omega) (by omega)) ?_
  refine RS.nilCheck rfl ?_
  refine RS.o (D.fieldL 0 rfl Tryd.underlying103 rfl C35 (by decide) rfl) ?_
  refine RS.store rfl  rfl C35 rfl B0 rfl (fun w6 y6 N6 => ?_)
  replace hE := hE.stn y6 (by intros; try (first | (intro _ _) | (intro _) | skip); first | omega | (dsimp only at *; omega) | (simp_all; done) | (simp at *; omega))
  replace R0 := R0.st y6 (by intros; try (first | (intro _ _) | (intro _) | skip); first | omega | (dsimp only at *; omega) | (simp_all; done) | (simp at *; omega))
  have zw6 := y6.size
  replace B0 := N6
  refine RS.nil ?_
  refine retN (rs := []) (vs := []) rfl trivial rfl ?_
  obtain ⟨e1, e2⟩ := S.nx_zero he u bad bs
  rw [e1, e2]
  exact ⟨rfl, hE, _, _, _, B0, by omega, by omega, R0.rest u c (by omega) hc⟩
theorem rNumber (b N : Nat) (T : TypeId) (hN : N ≤ b) (a : Option Addr) (n c : Nat) (bs : List Int) (bad : Bool) (most : Int) (hm : 0 ≤ most ∧ most < 18446744073709551616) (w : World) (B0 : Blk w b [.slice a n c, .bool bad] T) (R0 : IRow .u8 (fun k => k < N) w a n bs) (hc : n ≤ c) (hn : n ≤ 1000000) :
  Calls Tryd.prog 72 #[.pointer (some ⟨b, 0, none⟩), .int .u64 most] w (fun ex w' => ex = .returned (.int .u64 (S.numB most bad bs).1) ∧ Pr (fun k => k = b) w w' ∧ ∃ a' n' c', Blk w' b [.slice a' n' c', .bool (S.numB most bad bs).2.1] T ∧ n' ≤ c' ∧ n' ≤ n ∧ IRow .u8 (fun k => k < N) w' a' n' (S.numB most bad bs).2.2) := by
 have hbb := B0.lt
 have hbl := R0.len
 have hbd := R0.bd
 have hrd := S.rd_bd hbd
 have hE := Pr.refl (fun k => k = b) w
 refine enter (args := [.pointer (some ⟨b, 0, none⟩), .int .u64 most]) (l := [.pointer (some ⟨b, 0, none⟩), .int .u64 most, undef, undef, undef, undef, undef, undef, undef, undef, undef, undef, undef, undef, undef, undef, undef, undef, undef, undef, undef, undef, undef, undef, undef, undef, undef, undef, undef, undef, undef, undef, undef, undef]) Tryd.func72 rfl rfl ?_
 refine wp_seq_k (fun K1 hK1 => ?_)
 refine region ?_
 refine RS.assign (v := .int .u64 0) rfl ?_
 refine RS.nil ?_
 refine hK1 _ _ ?_
 try clear hK1
 refine wp_seq_k (fun K2 hK2 => ?_)
 refine region ?_
 refine RS.move (v := .pointer _) rfl ?_
 refine RS.nilCheck rfl ?_
 refine RS.o (D.fieldL 0 rfl Tryd.underlying103 rfl C35 (by decide) rfl) ?_
 refine RS.o (D.load rfl Tryd.underlying35 rfl (B0.cell rfl)) ?_
 refine RS.call E105 (readN _ _ _ _ _ R0 hc hn) rfl (fun v3 w3 x3 A3 => ?_)
 replace hE := hE.ext x3
 replace B0 := B0.ext x3
 replace R0 := R0.ext x3
 have zw3 := x3.size
 subst A3
 refine RS.norm (by dsimp only [List.set]) ?_
 refine RS.move (v := .tuple _) rfl ?_
 refine RS.extract (v := .int _ _) rfl rfl ?_
 refine RS.extract (v := .int _ _) rfl rfl ?_
 refine RS.extract (v := .int _ _) rfl rfl ?_
 refine RS.assign (v := .int _ _) rfl ?_
 refine RS.assign (v := .int _ _) rfl ?_
 refine RS.assign (v := .int _ _) rfl ?_
 refine RS.nil ?_
 refine hK2 _ _ ?_
 try clear hK2
 refine wp_seq_k (fun K4 hK4 => ?_)
 refine region ?_
 refine RS.move (v := .pointer _) rfl ?_
 refine RS.move (v := .int _ _) rfl ?_
 refine RS.move (v := .int _ _) rfl ?_
 refine RS.callx E74 (rNext _ N _ hN _ _ _ _ _ (S.rdU bs) (S.rdE bs) (by omega) _ B0 R0 hc (by omega)) rfl (fun e5 w5 A5 => ?_)
 obtain ⟨rfl, X5, a5, n5, c5, N5, hc5, hn5, Q5⟩ := A5
 refine ⟨_, rfl, ?_⟩
 refine RS.norm (by dsimp only [List.set]) ?_
 replace hE := hE.prn X5 (by intros; try (first | (intro _ _) | (intro _) | skip); first | omega | (dsimp only at *; omega) | (simp_all; done) | (simp at *; omega))
 replace R0 := R0.pr X5 (by intros; try (first | (intro _ _) | (intro _) | skip); first | omega | (dsimp only at *; omega) | (simp_all; done) | (simp at *; omega))
 have zw5 := X5.size
 replace B0 := N5
 have R1 := Q5
 refine RS.nil ?_
 refine hK4 _ _ ?_
 try clear hK4
 refine wp_seq_k (fun K6 hK6 => ?_)
 obtain ⟨e1, e2, e3⟩ := S.numB_rd most bad bs
 refine region ?_
 refine RS.move (v := .pointer _) rfl ?_
 refine RS.move (v := .pointer _) rfl ?_
 refine RS.nilCheck rfl ?_
 refine RS.o (D.fieldL 1 rfl Tryd.underlying103 rfl C4 (by decide) rfl) ?_
 refine RS.o (D.load rfl Tryd.underlying4 rfl (B0.cell rfl)) ?_
 refine RS.move (v := .bool _) rfl ?_
 refine RS.splitb 26 rfl rfl (fun c7 => ?_) (fun c7 => ?_)
 ·refine RS.norm (by dsimp only [List.set]) ?_
  rw [c7] at e2
  refine RS.skipB (b := true) 26 rfl rfl rfl rfl ?_
  refine RS.norm (by dsimp only [putL, List.set]) ?_
  refine RS.skipB (b := true) 26 rfl rfl rfl rfl ?_
  refine RS.norm (by dsimp only [putL, List.set]) ?_
  refine RS.skipB (b := true) 26 rfl rfl rfl rfl ?_
  refine RS.norm (by dsimp only [putL, List.set]) ?_
  refine RS.pick (v := .bool true) rfl rfl ?_
  refine RS.nilCheck rfl ?_
  refine RS.o (D.fieldL 1 rfl Tryd.underlying103 rfl C4 (by decide) rfl) ?_
  refine RS.store rfl  rfl C4 rfl B0 rfl (fun w8 y8 N8 => ?_)
  replace hE := hE.stn y8 (by intros; try (first | (intro _ _) | (intro _) | skip); first | omega | (dsimp only at *; omega) | (simp_all; done) | (simp at *; omega))
  replace R1 := R1.st y8 (by intros; try (first | (intro _ _) | (intro _) | skip); first | omega | (dsimp only at *; omega) | (simp_all; done) | (simp at *; omega))
  have zw8 := y8.size
  replace B0 := N8
  refine RS.nil ?_
  refine hK6 _ _ ?_
  try clear hK6
  refine wp_seq_k (fun K9 hK9 => ?_)
  refine region ?_
  refine RS.move (v := .int _ _) rfl ?_
  refine RS.assign (v := .int _ _) rfl ?_
  refine RS.nil ?_
  refine hK9 _ _ ?_
  try clear hK9
  refine wp_ret ?_
  change bodyPost Tryd.prog Tryd.f72 (fun ex w' => ex = .returned (.int .u64 (S.numB most bad bs).1) ∧ Pr (fun k => k = b) w w' ∧ ∃ a' n' c', Blk w' b [.slice a' n' c', .bool (S.numB most bad bs).2.1] T ∧ n' ≤ c' ∧ n' ≤ n ∧ IRow .u8 (fun k => k < N) w' a' n' (S.numB most bad bs).2.2) .ret _ _
  refine ret (rs := [.tmp 4]) (vs := [.int _ _]) (v := (.int _ _)) rfl ⟨rfl, trivial⟩ rfl ?_
  rw [← e1, ← e2, ← e3]
  exact ⟨rfl, hE, _, _, _, B0, by assumption, by assumption, R1⟩
 ·refine RS.norm (by dsimp only [List.set]) ?_
  rw [c7] at e2
  refine RS.wantB 26 rfl rfl rfl ?_
  refine RS.move (v := .int _ _) rfl ?_
  refine RS.wantB 26 rfl rfl rfl ?_
  refine RS.move (v := .int _ _) rfl ?_
  refine RS.wantB 26 rfl rfl rfl ?_
  refine RS.o (D.gt rfl rfl) ?_
  refine RS.pick (v := .bool _) rfl rfl ?_
  refine RS.nilCheck rfl ?_
  refine RS.o (D.fieldL 1 rfl Tryd.underlying103 rfl C4 (by decide) rfl) ?_
  refine RS.store rfl  rfl C4 rfl B0 rfl (fun w10 y10 N10 => ?_)
  replace hE := hE.stn y10 (by intros; try (first | (intro _ _) | (intro _) | skip); first | omega | (dsimp only at *; omega) | (simp_all; done) | (simp at *; omega))
  replace R1 := R1.st y10 (by intros; try (first | (intro _ _) | (intro _) | skip); first | omega | (dsimp only at *; omega) | (simp_all; done) | (simp at *; omega))
  have zw10 := y10.size
  replace B0 := N10
  refine RS.nil ?_
  refine hK6 _ _ ?_
  try clear hK6
  refine wp_seq_k (fun K11 hK11 => ?_)
  refine region ?_
  refine RS.move (v := .int _ _) rfl ?_
  refine RS.assign (v := .int _ _) rfl ?_
  refine RS.nil ?_
  refine hK11 _ _ ?_
  try clear hK11
  refine wp_ret ?_
  change bodyPost Tryd.prog Tryd.f72 (fun ex w' => ex = .returned (.int .u64 (S.numB most bad bs).1) ∧ Pr (fun k => k = b) w w' ∧ ∃ a' n' c', Blk w' b [.slice a' n' c', .bool (S.numB most bad bs).2.1] T ∧ n' ≤ c' ∧ n' ≤ n ∧ IRow .u8 (fun k => k < N) w' a' n' (S.numB most bad bs).2.2) .ret _ _
  refine ret (rs := [.tmp 4]) (vs := [.int _ _]) (v := (.int _ _)) rfl ⟨rfl, trivial⟩ rfl ?_
  rw [← e1, ← e2, ← e3, Bool.false_or]
  exact ⟨rfl, hE, _, _, _, B0, by assumption, by assumption, R1⟩
theorem rOne (b N : Nat) (T : TypeId) (hN : N ≤ b) (a : Option Addr) (n c : Nat) (bs : List Int) (bad : Bool) (w : World) (B0 : Blk w b [.slice a n c, .bool bad] T) (R0 : IRow .u8 (fun k => k < N) w a n bs) (hc : n ≤ c) (hn : n ≤ 1000000) :
  Calls Tryd.prog 71 #[.pointer (some ⟨b, 0, none⟩)] w (fun ex w' => ex = .returned (.int .u8 (S.oneB bad bs).1) ∧ Pr (fun k => k = b) w w' ∧ ∃ a' n' c', Blk w' b [.slice a' n' c', .bool (S.oneB bad bs).2.1] T ∧ n' ≤ c' ∧ n' ≤ n ∧ IRow .u8 (fun k => k < N) w' a' n' (S.oneB bad bs).2.2) := by
 have hbb := B0.lt
 have hbl := R0.len
 have hbd := R0.bd
 have hE := Pr.refl (fun k => k = b) w
 refine enter (args := [.pointer (some ⟨b, 0, none⟩)]) (l := [.pointer (some ⟨b, 0, none⟩), undef, undef, undef, undef, undef, undef, undef, undef, undef, undef, undef, undef, undef, undef, undef, undef, undef, undef, undef, undef, undef, undef, undef, undef, undef, undef, undef]) Tryd.func71 rfl rfl ?_
 refine wp_seq_k (fun K1 hK1 => ?_)
 refine region ?_
 refine RS.assign (v := .int .u8 0) rfl ?_
 refine RS.nil ?_
 refine hK1 _ _ ?_
 try clear hK1
 refine wp_seq_k (fun K2 hK2 => ?_)
 refine wp_seq_k (fun K3 hK3 => ?_)
 refine region ?_
 refine RS.move (v := .pointer _) rfl ?_
 refine RS.nilCheck rfl ?_
 refine RS.o (D.fieldL 1 rfl Tryd.underlying103 rfl C4 (by decide) rfl) ?_
 refine RS.o (D.load rfl Tryd.underlying4 rfl (B0.cell rfl)) ?_
 refine RS.move (v := .bool _) rfl ?_
 refine RS.splitb 8 rfl rfl (fun c4 => ?_) (fun c4 => ?_)
 ·refine RS.norm (by dsimp only [List.set]) ?_
  have hb := c4
  refine RS.skipB (b := true) 8 rfl rfl rfl rfl ?_
  refine RS.norm (by dsimp only [putL, List.set]) ?_
  refine RS.skipB (b := true) 8 rfl rfl rfl rfl ?_
  refine RS.norm (by dsimp only [putL, List.set]) ?_
  refine RS.skipB (b := true) 8 rfl rfl rfl rfl ?_
  refine RS.norm (by dsimp only [putL, List.set]) ?_
  refine RS.skipB (b := true) 8 rfl rfl rfl rfl ?_
  refine RS.norm (by dsimp only [putL, List.set]) ?_
  refine RS.skipB (b := true) 8 rfl rfl rfl rfl ?_
  refine RS.norm (by dsimp only [putL, List.set]) ?_
  refine RS.skipB (b := true) 8 rfl rfl rfl rfl ?_
  refine RS.norm (by dsimp only [putL, List.set]) ?_
  refine RS.pick (v := .bool true) rfl rfl ?_
  refine RS.nil ?_
  refine hK3 _ _ ?_
  try clear hK3
  refine C.ift rfl ?_
  refine wp_seq_k (fun K5 hK5 => ?_)
  refine region ?_
  refine RS.move (v := .pointer _) rfl ?_
  refine RS.nilCheck rfl ?_
  refine RS.o (D.fieldL 1 rfl Tryd.underlying103 rfl C4 (by decide) rfl) ?_
  refine RS.store rfl  rfl C4 rfl B0 rfl (fun w6 y6 N6 => ?_)
  replace hE := hE.stn y6 (by intros; try (first | (intro _ _) | (intro _) | skip); first | omega | (dsimp only at *; omega) | (simp_all; done) | (simp at *; omega))
  replace R0 := R0.st y6 (by intros; try (first | (intro _ _) | (intro _) | skip); first | omega | (dsimp only at *; omega) | (simp_all; done) | (simp at *; omega))
  have zw6 := y6.size
  replace B0 := N6
  refine RS.nil ?_
  refine hK5 _ _ ?_
  try clear hK5
  refine wp_seq_k (fun K7 hK7 => ?_)
  refine region ?_
  refine RS.assign (v := .int .u8 0) rfl ?_
  refine RS.nil ?_
  refine hK7 _ _ ?_
  try clear hK7
  refine wp_ret ?_
  change bodyPost Tryd.prog Tryd.f71 (fun ex w' => ex = .returned (.int .u8 (S.oneB bad bs).1) ∧ Pr (fun k => k = b) w w' ∧ ∃ a' n' c', Blk w' b [.slice a' n' c', .bool (S.oneB bad bs).2.1] T ∧ n' ≤ c' ∧ n' ≤ n ∧ IRow .u8 (fun k => k < N) w' a' n' (S.oneB bad bs).2.2) .ret _ _
  refine ret (rs := [.tmp 2]) (vs := [.int _ _]) (v := (.int _ _)) rfl ⟨rfl, trivial⟩ rfl ?_
  subst hb
  exact ⟨rfl, hE, _, _, _, B0, hc, Nat.le_refl _, R0⟩
 ·refine RS.norm (by dsimp only [List.set]) ?_
  have hb := c4
  refine RS.wantB 8 rfl rfl rfl ?_
  refine RS.move (v := .pointer _) rfl ?_
  refine RS.wantB 8 rfl rfl rfl ?_
  refine RS.nilCheck rfl ?_
  refine RS.wantB 8 rfl rfl rfl ?_
  refine RS.o (D.fieldL 0 rfl Tryd.underlying103 rfl C35 (by decide) rfl) ?_
  refine RS.wantB 8 rfl rfl rfl ?_
  refine RS.o (D.load rfl Tryd.underlying35 rfl (B0.cell rfl)) ?_
  refine RS.wantB 8 rfl rfl rfl ?_
  refine RS.o (D.len rfl Tryd.underlying35) ?_
  refine RS.wantB 8 rfl rfl rfl ?_
  refine RS.o (D.eq rfl rfl) ?_
  refine RS.pick (v := .bool _) rfl rfl ?_
  refine RS.nil ?_
  refine hK3 _ _ ?_
  try clear hK3
  refine C.ife rfl (fun c8 => ?_) (fun c8 => ?_)
  ·have hz := c8
   refine wp_seq_k (fun K9 hK9 => ?_)
   refine region ?_
   refine RS.move (v := .pointer _) rfl ?_
   refine RS.nilCheck rfl ?_
   refine RS.o (D.fieldL 1 rfl Tryd.underlying103 rfl C4 (by decide) rfl) ?_
   refine RS.store rfl  rfl C4 rfl B0 rfl (fun w10 y10 N10 => ?_)
   replace hE := hE.stn y10 (by intros; try (first | (intro _ _) | (intro _) | skip); first | omega | (dsimp only at *; omega) | (simp_all; done) | (simp at *; omega))
   replace R0 := R0.st y10 (by intros; try (first | (intro _ _) | (intro _) | skip); first | omega | (dsimp only at *; omega) | (simp_all; done) | (simp at *; omega))
   have zw10 := y10.size
   replace B0 := N10
   refine RS.nil ?_
   refine hK9 _ _ ?_
   try clear hK9
   refine wp_seq_k (fun K11 hK11 => ?_)
   refine region ?_
   refine RS.assign (v := .int .u8 0) rfl ?_
   refine RS.nil ?_
   refine hK11 _ _ ?_
   try clear hK11
   refine wp_ret ?_
   change bodyPost Tryd.prog Tryd.f71 (fun ex w' => ex = .returned (.int .u8 (S.oneB bad bs).1) ∧ Pr (fun k => k = b) w w' ∧ ∃ a' n' c', Blk w' b [.slice a' n' c', .bool (S.oneB bad bs).2.1] T ∧ n' ≤ c' ∧ n' ≤ n ∧ IRow .u8 (fun k => k < N) w' a' n' (S.oneB bad bs).2.2) .ret _ _
   refine ret (rs := [.tmp 2]) (vs := [.int _ _]) (v := (.int _ _)) rfl ⟨rfl, trivial⟩ rfl ?_
   subst hb
   obtain rfl : bs = [] := List.eq_nil_of_length_eq_zero (by omega)
   exact ⟨rfl, hE, _, _, _, B0, hc, Nat.le_refl _, R0⟩
  ·have hz := c8
   refine wp_skip ?_
   refine hK2 _ _ ?_
   try clear hK2
   refine wp_seq_k (fun K12 hK12 => ?_)
   refine region ?_
   refine RS.move (v := .pointer _) rfl ?_
   refine RS.nilCheck rfl ?_
   refine RS.o (D.fieldL 0 rfl Tryd.underlying103 rfl C35 (by decide) rfl) ?_
   refine RS.o (D.load rfl Tryd.underlying35 rfl (B0.cell rfl)) ?_
   refine RS.idx R0 rfl rfl Tryd.underlying35 C5 (by omega) (fun b13 o13 v13 h13 q13 r13 => ?_)
   refine RS.norm (by dsimp only [List.set]) ?_
   simp only [lim] at r13
   have q1 := q13
   refine RS.o (D.load rfl Tryd.underlying5 rfl (h13)) ?_
   refine RS.assign (v := .int _ _) rfl ?_
   refine RS.nil ?_
   refine hK12 _ _ ?_
   try clear hK12
   refine wp_seq_k (fun K14 hK14 => ?_)
   refine region ?_
   refine RS.move (v := .pointer _) rfl ?_
   refine RS.callx E74 (rNext _ N _ hN _ _ _ _ _ 1 0 (by omega) _ B0 R0 hc (by omega)) rfl (fun e15 w15 A15 => ?_)
   obtain ⟨rfl, X15, a15, n15, c15, N15, hc15, hn15, Q15⟩ := A15
   refine ⟨_, rfl, ?_⟩
   refine RS.norm (by dsimp only [List.set]) ?_
   replace hE := hE.prn X15 (by intros; try (first | (intro _ _) | (intro _) | skip); first | omega | (dsimp only at *; omega) | (simp_all; done) | (simp at *; omega))
   replace R0 := R0.pr X15 (by intros; try (first | (intro _ _) | (intro _) | skip); first | omega | (dsimp only at *; omega) | (simp_all; done) | (simp at *; omega))
   have zw15 := X15.size
   replace B0 := N15
   have R1 := Q15
   refine RS.nil ?_
   refine hK14 _ _ ?_
   try clear hK14
   refine wp_seq_k (fun K16 hK16 => ?_)
   refine region ?_
   refine RS.move (v := .int _ _) rfl ?_
   refine RS.assign (v := .int _ _) rfl ?_
   refine RS.nil ?_
   refine hK16 _ _ ?_
   try clear hK16
   refine wp_ret ?_
   change bodyPost Tryd.prog Tryd.f71 (fun ex w' => ex = .returned (.int .u8 (S.oneB bad bs).1) ∧ Pr (fun k => k = b) w w' ∧ ∃ a' n' c', Blk w' b [.slice a' n' c', .bool (S.oneB bad bs).2.1] T ∧ n' ≤ c' ∧ n' ≤ n ∧ IRow .u8 (fun k => k < N) w' a' n' (S.oneB bad bs).2.2) .ret _ _
   refine ret (rs := [.tmp 2]) (vs := [.int _ _]) (v := (.int _ _)) rfl ⟨rfl, trivial⟩ rfl ?_
   subst hb
   obtain ⟨x, r, rfl⟩ : ∃ x r, bs = x :: r := by
    cases bs with
    | nil => simp at hbl; omega
    | cons x r => exact ⟨x, r, rfl⟩
   rw [q1]
   exact ⟨rfl, hE, _, _, _, B0, by assumption, by assumption, R1⟩
end Go.Proofs.YtiohpiiiapjblaaDoor.W
