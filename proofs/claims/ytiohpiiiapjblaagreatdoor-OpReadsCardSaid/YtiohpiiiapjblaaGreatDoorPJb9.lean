/-
  Part 9 of the lemmas of these laws: JudgeFinds, JudgeLists, OpReads.
-/
import Derived.Test.YtiohpiiiapjblaaGreatDoorPJb8
namespace Go.Proofs.YtiohpiiiapjblaaGreatDoor.S
open G
def rdV (b : List Int) : Int := match readN b with | some r => r.1 | none => 0
def rdU (b : List Int) : Nat := match readN b with | some r => r.2 | none => 0
def rdE (b : List Int) : Int := match readN b with | some _ => 0 | none => 12
theorem rd_none {b : List Int} (h : readN b = none) : rdV b = 0 ∧ rdU b = 0 ∧ rdE b = 12 := by unfold rdV rdU rdE; rw [h]; exact ⟨rfl, rfl, rfl⟩
theorem rd_some {b : List Int} {n : Int} {u : Nat} (h : readN b = some (n, u)) : rdV b = n ∧ rdU b = u ∧ rdE b = 0 := by unfold rdV rdU rdE; rw [h]; exact ⟨rfl, rfl, rfl⟩
theorem rd_zero {b : List Int} (h : rdE b = 0) : readN b = some (rdV b, rdU b) := by
  unfold rdE at h
  split at h
  · rename_i r hr
    unfold rdV rdU
    rw [hr]
  · cases h
theorem rd_bad {b : List Int} (h : rdE b ≠ 0) : readN b = none := by
  unfold rdE at h
  split at h
  · exact absurd rfl h
  · assumption
theorem rd_bd {b : List Int} (hB : Bd .u8 b) : (0 ≤ rdV b ∧ rdV b < 18446744073709551616) ∧ rdU b ≤ b.length ∧ rdU b ≤ 9 ∧ (rdE b = 0 ∨ rdE b = 12) := by
  unfold rdV rdU rdE
  cases h : readN b with
  | none => simp
  | some r =>
    obtain ⟨n, u⟩ := r
    obtain ⟨q1, q2, q3, _, q5⟩ := read_inv hB h
    have := numS_len n
    simp only
    exact ⟨⟨q1, q2⟩, q3, by omega, .inl trivial⟩
theorem readN_none {b : List Int} (h : b.length = 0 ∨ (247 < b.getD 0 0 ∧ ((b.length : Int) ≤ b.getD 0 0 - 247 ∨ b.getD 1 0 = 0 ∨ (b.getD 0 0 - 247 = 1 ∧ b.getD 1 0 ≤ 247)))) : readN b = none := by
  cases b with
  | nil => rfl
  | cons x t =>
    simp only [List.length_cons, List.getD_cons_zero, List.getD_cons_succ] at h
    unfold readN
    simp only
    rw [if_neg (by omega), if_pos (by omega)]
theorem readN_one {b : List Int} (h0 : b.length ≠ 0) (h : b.getD 0 0 ≤ 247) : readN b = some (b.getD 0 0, 1) := by
  cases b with
  | nil => exact absurd rfl h0
  | cons x t =>
    simp only [List.getD_cons_zero] at h ⊢
    unfold readN
    simp only
    rw [if_pos h]
theorem readN_many {b : List Int} {k : Int} {i : Nat} {v : Int} (h0 : b.length ≠ 0) (hk : k = b.getD 0 0 - 247) (h1 : 0 < k) (h2 : ¬ (b.length : Int) ≤ k) (h3 : b.getD 1 0 ≠ 0) (h4 : ¬ (k = 1 ∧ b.getD 1 0 ≤ 247)) (hi : i = k.toNat) (hv : v = be (((b.drop 1).take k.toNat).take i)) : readN b = some (v, (k + 1).toNat) := by
  cases b with
  | nil => exact absurd rfl h0
  | cons x t =>
    simp only [List.length_cons, List.getD_cons_zero, List.getD_cons_succ, List.drop_succ_cons, List.drop_zero] at *
    unfold readN
    simp only
    rw [if_neg (by omega), if_neg (by omega), hv, hi, List.take_take, Nat.min_self, hk, show (x - 247 + 1).toNat = (x - 247).toNat + 1 by omega]
theorem be_next (xs : List Int) (i : Nat) (hB : Bd .u8 xs) (hi : i < 8) (hl : i < xs.length) : ior (be (xs.take i) * 2 ^ (8 : Int).toNat % 18446744073709551616) (xs.getD i 0) = be (xs.take (i + 1)) := by
  have hb := be_bd _ (hB.take i)
  have hx := hB.get i
  simp only [lim] at hx
  have hp : (256 : Int) ^ (xs.take i).length ≤ 256 ^ 7 := pow256 (by simp; omega)
  have h256 : (256 : Int) ^ 7 = 72057594037927936 := by decide
  have h8 : (2 : Int) ^ (8 : Int).toNat = 256 := by decide
  rw [take_snoc xs i hl, be_snoc, h8, Int.emod_eq_of_lt (by omega) (by omega)]
  exact ior_add _ _ hb.1 hx
/-- Parts that are read. -/
def ptOk (most wd : Nat) (b : List Int) : Prop := rdE b = 0 ∧ rdV b ≤ most ∧ rdV b ≤ ((b.length : Int) - rdU b) / wd
instance (most wd : Nat) (b : List Int) : Decidable (ptOk most wd b) := by unfold ptOk; infer_instance
def ptE (most wd : Nat) (b : List Int) : Int := if ptOk most wd b then 0 else 12
def ptU (most wd : Nat) (b : List Int) : Nat := if ptOk most wd b then rdU b + wd * (rdV b).toNat else 0
def ptS (most wd : Nat) (b : List Int) : List Int := if ptOk most wd b then (b.drop (rdU b)).take (wd * (rdV b).toNat) else []
theorem ptE_zero {most wd : Nat} {b : List Int} : ptE most wd b = 0 ↔ ptOk most wd b := by unfold ptE; split <;> simp_all
theorem pt_ok {most wd : Nat} {b : List Int} (h : ptOk most wd b) : ptE most wd b = 0 ∧ ptU most wd b = rdU b + wd * (rdV b).toNat ∧ ptS most wd b = (b.drop (rdU b)).take (wd * (rdV b).toNat) := by unfold ptE ptU ptS; rw [if_pos h, if_pos h, if_pos h]; exact ⟨rfl, rfl, rfl⟩
theorem pt_not {most wd : Nat} {b : List Int} (h : ¬ ptOk most wd b) : ptE most wd b = 12 ∧ ptU most wd b = 0 ∧ ptS most wd b = [] := by unfold ptE ptU ptS; rw [if_neg h, if_neg h, if_neg h]; exact ⟨rfl, rfl, rfl⟩
theorem pt_mul {most wd : Nat} {b : List Int} (hB : Bd .u8 b) (h : ptOk most wd b) (hw : 0 < wd) : wd * (rdV b).toNat + rdU b ≤ b.length := by
  obtain ⟨_, _, h3⟩ := h
  obtain ⟨h4, h5, _⟩ := rd_bd hB
  have h6 := (Int.le_ediv_iff_mul_le (show (0 : Int) < wd by omega)).1 h3
  have h7 : ((wd * (rdV b).toNat : Nat) : Int) = rdV b * wd := by rw [Int.natCast_mul, Int.toNat_of_nonneg h4.1, Int.mul_comm]
  omega
theorem ptS_len {most wd : Nat} {b : List Int} (hB : Bd .u8 b) (h : ptOk most wd b) (hw : 0 < wd) : (ptS most wd b).length = wd * (rdV b).toNat := by
  have := pt_mul hB h hw
  rw [(pt_ok h).2.2, List.length_take, List.length_drop]
  omega
theorem readB_pt (most : Nat) (b : List Int) : readB most b = if ptE most 1 b = 0 then some (ptS most 1 b, ptU most 1 b) else none := by
  by_cases h : ptOk most 1 b
  · obtain ⟨h1, h2, h3⟩ := h
    rw [if_pos (ptE_zero.2 ⟨h1, h2, h3⟩), (pt_ok ⟨h1, h2, h3⟩).2.1, (pt_ok ⟨h1, h2, h3⟩).2.2]
    unfold readB
    rw [rd_zero h1]
    simp only
    rw [if_pos (by omega), Nat.one_mul]
  · rw [if_neg (fun e => h (ptE_zero.1 e))]
    unfold readB
    split
    · rename_i n u hr
      obtain ⟨q1, q2, q3⟩ := rd_some hr
      rw [if_neg]
      intro hc
      exact h ⟨q3, by omega, by rw [q1, q2]; simp; omega⟩
    · rfl
theorem readI_pt (most : Nat) (b : List Int) (hB : Bd .u8 b) : readI most b = if ptE most 32 b = 0 ∧ Rising ((ptS most 32 b).length / 32) (ptS most 32 b) then some ((ptS most 32 b).length / 32, ptS most 32 b, ptU most 32 b) else none := by
  by_cases h : ptOk most 32 b
  · have hl := ptS_len hB h (by decide)
    have hb := (rd_bd hB).1
    obtain ⟨h1, h2, h3⟩ := h
    have hq := pt_ok ⟨h1, h2, h3⟩
    have hd : (ptS most 32 b).length / 32 = (rdV b).toNat := by rw [hl]; omega
    rw [hd, hq.2.2, hq.2.1]
    unfold readI
    rw [rd_zero h1]
    simp only
    have e : (rdV b ≤ (most : Int) ∧ rdV b ≤ ((b.length : Int) - (rdU b : Int)) / 32 ∧ Rising (rdV b).toNat ((b.drop (rdU b)).take (32 * (rdV b).toNat))) ↔ (ptE most 32 b = 0 ∧ Rising (rdV b).toNat ((b.drop (rdU b)).take (32 * (rdV b).toNat))) :=
      ⟨fun h => ⟨hq.1, h.2.2⟩, fun h => ⟨h2, h3, h.2⟩⟩
    simp only [e]
  · rw [if_neg (fun e => h (ptE_zero.1 e.1))]
    unfold readI
    split
    · rename_i n u hr
      obtain ⟨q1, q2, q3⟩ := rd_some hr
      rw [if_neg]
      intro hc
      exact h ⟨q3, by omega, by rw [q1, q2]; exact hc.2.1⟩
    · rfl
/-- What is returned for a list of ids. -/
def idN (most : Nat) (b : List Int) : Nat := match readI most b with | some r => r.1 | none => 0
def idL (most : Nat) (b : List Int) : List Int := match readI most b with | some r => r.2.1 | none => []
def idU (most : Nat) (b : List Int) : Nat := match readI most b with | some r => r.2.2 | none => 0
def idE (most : Nat) (b : List Int) : Int := match readI most b with | some _ => 0 | none => 12
theorem id_none {most : Nat} {b : List Int} (h : readI most b = none) : idN most b = 0 ∧ idL most b = [] ∧ idU most b = 0 ∧ idE most b = 12 := by unfold idN idL idU idE; rw [h]; exact ⟨rfl, rfl, rfl, rfl⟩
theorem id_some {most : Nat} {b : List Int} {n : Nat} {l : List Int} {u : Nat} (h : readI most b = some (n, l, u)) : idN most b = n ∧ idL most b = l ∧ idU most b = u ∧ idE most b = 0 := by unfold idN idL idU idE; rw [h]; exact ⟨rfl, rfl, rfl, rfl⟩
/-- What is returned for a value. -/
structure ValO where
  (k num bits : Int) (t : ByteArray) (u : Nat) (e : Int)
def vdS (b : List Int) : ValO := match valD b with | some r => ⟨r.1, r.2.1, r.2.2.1, r.2.2.2.1, r.2.2.2.2, 0⟩ | none => ⟨0, 0, 0, .empty, 0, 12⟩
theorem vd_none {b : List Int} (h : valD b = none) : vdS b = ⟨0, 0, 0, .empty, 0, 12⟩ := by unfold vdS; rw [h]
theorem vd_some {b : List Int} {k num bits : Int} {t : ByteArray} {u : Nat} (h : valD b = some (k, num, bits, t, u)) : vdS b = ⟨k, num, bits, t, u, 0⟩ := by unfold vdS; rw [h]
/-- What is returned for an operation. -/
def decO (b : List Int) : OpV := (decS b).getD OpV.zero
def decE (b : List Int) : Int := if (decS b).isSome then 0 else 12
theorem dec_none {b : List Int} (h : decS b = none) : decO b = OpV.zero ∧ decE b = 12 := by unfold decO decE; rw [h]; exact ⟨rfl, rfl⟩
theorem dec_some {b : List Int} {o : OpV} (h : decS b = some o) : decO b = o ∧ decE b = 0 := by unfold decO decE; rw [h]; exact ⟨rfl, rfl⟩
theorem dec_zero {b : List Int} (h : decE b = 0) : decS b = some (decO b) := by
  unfold decE at h
  unfold decO
  cases hd : decS b with
  | none => rw [hd] at h; cases h
  | some o => rfl
theorem dec_ne {b : List Int} (h : decE b ≠ 0) : decS b = none ∧ decE b = 12 := by
  unfold decE at h ⊢
  cases hd : decS b with
  | none => exact ⟨rfl, rfl⟩
  | some o => rw [hd] at h; exact absurd rfl h
theorem ptS_le (most wd : Nat) (b : List Int) : (ptS most wd b).length ≤ b.length := by
  unfold ptS
  split
  · rw [List.length_take, List.length_drop]; omega
  · simp
theorem pt_mulI {wd : Nat} {b : List Int} (hB : Bd .u8 b) : (wd : Int) * rdV b = ((wd * (rdV b).toNat : Nat) : Int) := by
  rw [Int.natCast_mul, Int.toNat_of_nonneg (rd_bd hB).1.1]
theorem div_bd (a b : Int) (ha : 0 ≤ a) (hb : 0 < b) : 0 ≤ a / b ∧ a / b ≤ a := ⟨Int.ediv_nonneg ha (by omega), Int.ediv_le_self b ha⟩
theorem copy_step (l : List Int) (i m : Nat) (h : l.length = 32 * m) (hi : i < m) : (l.take (32 * i) ++ List.replicate (32 * (m - i)) 0).take (0 + i * 32) ++ (l.drop (32 * i)).take 32 ++ (l.take (32 * i) ++ List.replicate (32 * (m - i)) 0).drop (0 + i * 32 + 32) = l.take (32 * (i + 1)) ++ List.replicate (32 * (m - (i + 1))) 0 := by
  have hl : (l.take (32 * i)).length = 32 * i := by rw [List.length_take]; omega
  rw [show 0 + i * 32 = 32 * i by omega, List.take_append_of_le_length (by omega), List.take_of_length_le (by omega), Nat.mul_add, Nat.mul_one, List.take_add]
  congr 1
  rw [List.drop_append, List.drop_of_length_le (by omega), List.nil_append, hl, List.drop_replicate]
  congr 1
  omega
theorem half_bd (n : Int) (h : 0 ≤ n ∧ n < 18446744073709551616) : (0 ≤ n / 2 ^ (1 : Int).toNat ∧ n / 2 ^ (1 : Int).toNat ≤ 9223372036854775807) ∧ 0 ≤ iand n 1 ∧ iand n 1 ≤ 1 := by
  have h2 : (2 : Int) ^ (1 : Int).toNat = 2 := by decide
  have ha : iand n 1 = n % 2 := by
    unfold iand
    rw [show (1 : Int).toNat = 1 from rfl, Nat.and_one_is_mod]
    omega
  rw [h2, ha]
  omega
theorem ptS_bd (most wd : Nat) (b : List Int) (hB : Bd .u8 b) : Bd .u8 (ptS most wd b) := by
  unfold ptS
  split
  · exact (hB.drop _).take _
  · exact Bd.nil _
theorem unzig_sxor (n : Int) (h : 0 ≤ n ∧ n < 18446744073709551616) : sxor .i64 (n / 2 ^ (1 : Int).toNat) (0 - iand n 1) = unzig n := by
  have h2 : (2 : Int) ^ (1 : Int).toNat = 2 := by decide
  have ha : iand n 1 = n % 2 := by
    unfold iand
    rw [show (1 : Int).toNat = 1 from rfl, Nat.and_one_is_mod]
    omega
  obtain ⟨a, hn⟩ : ∃ a : Nat, n / 2 = a := ⟨(n / 2).toNat, by omega⟩
  rw [h2, ha, hn]
  have e1 : (BitVec.ofInt 64 (a : Int)).toNat = a := ofInt_toNat 64 a (by omega) (by omega)
  unfold unzig
  by_cases hm : n % 2 = 0
  · rw [if_pos hm, hm, show (0 : Int) - 0 = 0 from rfl]
    have e2 : (BitVec.ofInt 64 (a : Int) ^^^ BitVec.ofInt 64 0).toNat = a := by rw [show BitVec.ofInt 64 0 = 0#64 by decide, BitVec.xor_zero, e1]
    show IntKind.i64.wrap ((BitVec.ofInt 64 (a : Int) ^^^ BitVec.ofInt 64 0).toNat : Nat) = n / 2
    rw [e2, W.i64 (by omega), hn]
  · rw [if_neg hm, show n % 2 = 1 by omega, show (0 : Int) - 1 = -1 from rfl]
    have e2 : (BitVec.ofInt 64 (a : Int) ^^^ BitVec.ofInt 64 (-1)).toNat = 2 ^ 64 - 1 - a := by rw [show BitVec.ofInt 64 (-1) = BitVec.allOnes 64 by decide, BitVec.xor_allOnes, BitVec.toNat_not, e1]
    show IntKind.i64.wrap ((BitVec.ofInt 64 (a : Int) ^^^ BitVec.ofInt 64 (-1)).toNat : Nat) = - (n / 2) - 1
    rw [e2, hn]
    have e3 : (((2 ^ 64 - 1 - a : Nat)) : Int) % 18446744073709551616 = 18446744073709551615 - a := by omega
    show (if IntKind.i64.signed && decide ((((2 ^ 64 - 1 - a : Nat)) : Int) % 18446744073709551616 ≥ 9223372036854775808) then (((2 ^ 64 - 1 - a : Nat)) : Int) % 18446744073709551616 - 18446744073709551616 else (((2 ^ 64 - 1 - a : Nat)) : Int) % 18446744073709551616) = - (a : Int) - 1
    rw [e3, if_pos (by simp [IntKind.signed]; omega)]
    omega
end Go.Proofs.YtiohpiiiapjblaaGreatDoor.S
namespace Go.Proofs.YtiohpiiiapjblaaGreatDoor.W
open Go.RowKit Go.Proofs.YtiohpiiiapjblaaGreatDoor.G
set_option linter.unusedVariables false
set_option maxRecDepth 20000
set_option maxHeartbeats 8000000
attribute [local irreducible] RS RX
theorem E73 : Enters Tryz.prog 73 := .mk Tryz.func73 (by kernel_rfl) rfl
theorem E74 : Enters Tryz.prog 74 := .mk Tryz.func74 (by kernel_rfl) rfl
theorem E76 : Enters Tryz.prog 76 := .mk Tryz.func76 (by kernel_rfl) rfl
theorem readN {S0 : Nat → Prop} (a : Option Addr) (n c : Nat) (bs : List Int) (w : World) (R0 : IRow .u8 S0 w a n bs) (hc : n ≤ c) (hn : n ≤ 1000000) :
  Calls Tryz.prog 73 #[.slice a n c] w (Ret w fun v _ => v = .tuple #[.int .u64 (S.rdV bs), .int .i64 (S.rdU bs), .int .i64 (S.rdE bs)]) := by
 have hbl := R0.len
 have hbd := R0.bd
 have hE := Ext.refl w
 refine enterU 62 Tryz.func73 rfl rfl ?_
 refine sq fun K1 hK1 => ?_
 refine RS.asI rfl ?_
 refine RS.asI rfl ?_
 refine RS.asI rfl ?_
 refine nl hK1 ?_
 refine wp_seq_k (fun K2 hK2 => ?_)
 refine sq fun K3 hK3 => ?_
 refine RS.mvS rfl ?_
 refine RS.o (D.len rfl Tryz.underlying22) ?_
 refine RS.o (D.eq rfl rfl) ?_
 refine nl hK3 ?_
 refine C.ife rfl (fun c4 => ?_) (fun c4 => ?_)
 ·refine wp_seq_k (fun K5 hK5 => ?_)
  refine region ?_
  refine RS.asI rfl ?_
  refine RS.asI rfl ?_
  refine RS.asI rfl ?_
  refine nl hK5 ?_
  refine wp_ret ?_
  refine ret (rs := [.tmp 2, .tmp 3, .tmp 4]) (vs := [.int _ _, .int _ _, .int _ _]) (v := (.tuple #[.int _ _, .int _ _, .int _ _])) rfl ⟨rfl, rfl, rfl, trivial⟩ rfl ?_
  obtain ⟨e1, e2, e3⟩ := S.rd_none (S.readN_none (b := bs) (by omega))
  rw [e1, e2, e3]
  exact ⟨_, rfl, hE, rfl⟩
 refine wp_skip ?_
 refine hK2 _ _ ?_
 refine wp_seq_k (fun K6 hK6 => ?_)
 refine sq fun K7 hK7 => ?_
 refine RS.mvS rfl ?_
 refine RS.idx R0 rfl rfl Tryz.underlying22 C5 (by omega) (fun b8 o8 v8 h8 q8 r8 => ?_)
 refine RS.nm ?_
 simp only [lim] at r8
 replace q8 : v8 = bs.getD 0 0 := q8
 have q1 := q8
 refine RS.o (D.load rfl Tryz.underlying5 rfl (h8)) ?_
 refine RS.o (D.le rfl rfl) ?_
 refine nl hK7 ?_
 refine C.ifd rfl (fun c9 => ?_) (fun c9 => ?_)
 ·refine wp_seq_k (fun K10 hK10 => ?_)
  refine region ?_
  refine RS.mvS rfl ?_
  refine RS.idx R0 rfl rfl Tryz.underlying22 C5 (by omega) (fun b11 o11 v11 h11 q11 r11 => ?_)
  refine RS.nm ?_
  simp only [lim] at r11
  replace q11 : v11 = bs.getD 0 0 := q11
  have q2 := q11
  refine RS.o (D.load rfl Tryz.underlying5 rfl (h11)) ?_
  refine RS.o (D.conv rfl Tryz.underlying5 Tryz.underlying25 (by first | exact W.u64 (by omega) | exact W.u64m _)) ?_
  refine RS.asI rfl ?_
  refine RS.asI rfl ?_
  refine RS.asI rfl ?_
  refine nl hK10 ?_
  refine wp_ret ?_
  refine ret (rs := [.tmp 2, .tmp 3, .tmp 4]) (vs := [.int _ _, .int _ _, .int _ _]) (v := (.tuple #[.int _ _, .int _ _, .int _ _])) rfl ⟨rfl, rfl, rfl, trivial⟩ rfl ?_
  obtain ⟨e1, e2, e3⟩ := S.rd_some (S.readN_one (b := bs) (by omega) (by omega))
  rw [e1, e2, e3, ← q2]
  exact ⟨_, rfl, hE, rfl⟩
 refine wp_skip ?_
 refine hK6 _ _ ?_
 refine sq fun K12 hK12 => ?_
 refine RS.mvS rfl ?_
 refine RS.idx R0 rfl rfl Tryz.underlying22 C5 (by omega) (fun b13 o13 v13 h13 q13 r13 => ?_)
 refine RS.nm ?_
 simp only [lim] at r13
 replace q13 : v13 = bs.getD 0 0 := q13
 have q3 := q13
 obtain ⟨k, hk⟩ : ∃ k : Int, k = v13 - 247 := ⟨_, rfl⟩
 refine RS.o (D.load rfl Tryz.underlying5 rfl (h13)) ?_
 refine RS.o (D.conv rfl Tryz.underlying5 Tryz.underlying3 (W.i64 (by omega))) ?_
 refine RS.o (D.sub rfl rfl (W.i64 (by omega))) ?_
 refine RS.asI rfl ?_
 refine nl hK12 ?_
 refine wp_seq_k (fun K14 hK14 => ?_)
 refine wp_seq_k (fun K15 hK15 => ?_)
 rw [← hk]
 refine region ?_
 refine RS.mvS rfl ?_
 refine RS.o (D.len rfl Tryz.underlying22) ?_
 refine RS.mvI rfl ?_
 refine RS.o (D.le rfl rfl) ?_
 refine RS.mvB rfl ?_
 refine RS.splitd 29 rfl rfl (fun c16 => ?_) (fun c16 => ?_)
 ·refine RS.nm ?_
  refine RS.skT 29 ?_
  refine RS.skT 29 ?_
  refine RS.skT 29 ?_
  refine RS.skT 29 ?_
  refine RS.pick (v := .bool true) rfl rfl ?_
  refine RS.mvB rfl ?_
  refine RS.skT 35 ?_
  refine RS.skT 35 ?_
  refine RS.skT 35 ?_
  refine RS.skipU 38 rfl rfl rfl ?_
  refine RS.norm (by dsimp only [putL, List.set]) ?_
  refine RS.skipU 38 rfl rfl rfl ?_
  refine RS.norm (by dsimp only [putL, List.set]) ?_
  refine RS.skipU 38 rfl rfl rfl ?_
  refine RS.norm (by dsimp only [putL, List.set]) ?_
  refine RS.skipU 38 rfl rfl rfl ?_
  refine RS.norm (by dsimp only [putL, List.set]) ?_
  refine RS.skT 35 ?_
  refine RS.pick (v := .bool true) rfl rfl ?_
  refine nl hK15 ?_
  refine C.ift rfl ?_
  refine sq fun K17 hK17 => ?_
  refine RS.asI rfl ?_
  refine RS.asI rfl ?_
  refine RS.asI rfl ?_
  refine nl hK17 ?_
  refine wp_ret ?_
  refine ret (rs := [.tmp 2, .tmp 3, .tmp 4]) (vs := [.int _ _, .int _ _, .int _ _]) (v := (.tuple #[.int _ _, .int _ _, .int _ _])) rfl ⟨rfl, rfl, rfl, trivial⟩ rfl ?_
  obtain ⟨e1, e2, e3⟩ := S.rd_none (S.readN_none (b := bs) (by omega))
  rw [e1, e2, e3]
  exact ⟨_, rfl, hE, rfl⟩
 refine RS.nm ?_
 refine RS.wt 29 ?_
 refine RS.mvS rfl ?_
 refine RS.wt 29 ?_
 refine RS.idx R0 rfl rfl Tryz.underlying22 C5 (by omega) (fun b18 o18 v18 h18 q18 r18 => ?_)
 refine RS.nm ?_
 simp only [lim] at r18
 replace q18 : v18 = bs.getD 1 0 := q18
 have q4 := q18
 refine RS.wt 29 ?_
 refine RS.o (D.load rfl Tryz.underlying5 rfl (h18)) ?_
 refine RS.wt 29 ?_
 refine RS.o (D.eq rfl rfl) ?_
 refine RS.pick (v := .bool _) rfl rfl ?_
 refine RS.mvB rfl ?_
 refine RS.splite 35 rfl rfl (fun c19 => ?_) (fun c19 => ?_)
 ·refine RS.nm ?_
  refine RS.skT 35 ?_
  refine RS.skT 35 ?_
  refine RS.skT 35 ?_
  refine RS.skipU 38 rfl rfl rfl ?_
  refine RS.norm (by dsimp only [putL, List.set]) ?_
  refine RS.skipU 38 rfl rfl rfl ?_
  refine RS.norm (by dsimp only [putL, List.set]) ?_
  refine RS.skipU 38 rfl rfl rfl ?_
  refine RS.norm (by dsimp only [putL, List.set]) ?_
  refine RS.skipU 38 rfl rfl rfl ?_
  refine RS.norm (by dsimp only [putL, List.set]) ?_
  refine RS.skT 35 ?_
  refine RS.pick (v := .bool true) rfl rfl ?_
  refine nl hK15 ?_
  refine C.ift rfl ?_
  refine sq fun K20 hK20 => ?_
  refine RS.asI rfl ?_
  refine RS.asI rfl ?_
  refine RS.asI rfl ?_
  refine nl hK20 ?_
  refine wp_ret ?_
  refine ret (rs := [.tmp 2, .tmp 3, .tmp 4]) (vs := [.int _ _, .int _ _, .int _ _]) (v := (.tuple #[.int _ _, .int _ _, .int _ _])) rfl ⟨rfl, rfl, rfl, trivial⟩ rfl ?_
  obtain ⟨e1, e2, e3⟩ := S.rd_none (S.readN_none (b := bs) (by omega))
  rw [e1, e2, e3]
  exact ⟨_, rfl, hE, rfl⟩
 refine RS.nm ?_
 refine RS.wt 35 ?_
 refine RS.mvI rfl ?_
 refine RS.wt 35 ?_
 refine RS.o (D.eq rfl rfl) ?_
 refine RS.wt 35 ?_
 refine RS.mvB rfl ?_
 refine RS.splite 38 rfl rfl (fun c21 => ?_) (fun c21 => ?_)
 ·refine RS.nm ?_
  refine RS.wt 38 ?_
  refine RS.mvS rfl ?_
  refine RS.wt 38 ?_
  refine RS.idx R0 rfl rfl Tryz.underlying22 C5 (by omega) (fun b22 o22 v22 h22 q22 r22 => ?_)
  refine RS.nm ?_
  simp only [lim] at r22
  replace q22 : v22 = bs.getD 1 0 := q22
  have q5 := q22
  refine RS.wt 38 ?_
  refine RS.o (D.load rfl Tryz.underlying5 rfl (h22)) ?_
  refine RS.wt 38 ?_
  refine RS.o (D.le rfl rfl) ?_
  refine RS.wt 35 ?_
  refine RS.pick (v := .bool _) rfl rfl ?_
  refine RS.pick (v := .bool _) rfl rfl ?_
  refine nl hK15 ?_
  refine C.ifd rfl (fun c23 => ?_) (fun c23 => ?_)
  ·refine wp_seq_k (fun K24 hK24 => ?_)
   refine region ?_
   refine RS.asI rfl ?_
   refine RS.asI rfl ?_
   refine RS.asI rfl ?_
   refine nl hK24 ?_
   refine wp_ret ?_
   refine ret (rs := [.tmp 2, .tmp 3, .tmp 4]) (vs := [.int _ _, .int _ _, .int _ _]) (v := (.tuple #[.int _ _, .int _ _, .int _ _])) rfl ⟨rfl, rfl, rfl, trivial⟩ rfl ?_
   obtain ⟨e1, e2, e3⟩ := S.rd_none (S.readN_none (b := bs) (by omega))
   rw [e1, e2, e3]
   exact ⟨_, rfl, hE, rfl⟩
  refine wp_skip ?_
  refine hK14 _ _ ?_
  refine wp_seq_k (fun K25 hK25 => ?_)
  have QR := R0.sub 1 (k + 1).toNat c (by omega) (by omega) (by omega)
  have hQb := QR.bd
  have hQl := QR.len
  have em : (k + 1).toNat - 1 = k.toNat := by omega
  refine region ?_
  refine RS.asI rfl ?_
  refine nl hK25 ?_
  refine wp_seq_k (fun K26 hK26 => ?_)
  refine sq fun K27 hK27 => ?_
  refine RS.mvS rfl ?_
  refine RS.mvI rfl ?_
  refine RS.o (D.add rfl rfl (W.i64 (by omega))) ?_
  refine RS.o (D.slice (kl := .i64) (kh := .i64) rfl Tryz.underlying22 C5 (by decide) rfl rfl (by omega) (by omega)) ?_
  refine RS.o (D.len rfl Tryz.underlying22) ?_
  refine RS.mvI rfl ?_
  refine nl hK27 ?_
  refine wp_block ?_
  refine C.loop (A := Int × Int) (fun p => [(6, .int .u64 p.2), (50, .int .i64 p.1)]) [8, 51, 52, 53, 54, 55, 56, 57, 58, 59] (fun p w' => Ext w w' ∧ ((0 ≤ p.1 ∧ p.1 ≤ ((k + 1).toNat - 1 : Nat)) ∧ p.2 = S.be (((bs.drop 1).take ((k + 1).toNat - 1)).take p.1.toNat))) (fun p => (((k + 1).toNat - 1) - p.1.toNat)) (0, 0) (by kernel_rfl) ?_ ?_
  ·exact ⟨Ext.refl _, ⟨by dsimp only; omega, by dsimp only; omega⟩, rfl⟩
  rintro p j w28 ⟨x28, hI⟩
  replace hE := Ext.tr hE x28
  replace R0 := R0.ext x28
  replace QR := QR.ext x28
  have zw28 := x28.size
  obtain ⟨i, r⟩ := p
  dsimp only at hI
  obtain ⟨g1, g2⟩ := hI
  have g3 := S.be8_lt ((bs.drop 1).take ((k + 1).toNat - 1)) i.toNat hQb (by omega)
  rw [← g2] at g3
  refine C.norm (by simp only [upd, junk, List.map_cons, List.map_nil, List.set_cons_succ, List.set_cons_zero]; exact rfl) ?_
  refine sq fun K29 hK29 => ?_
  refine RS.o (D.lt rfl rfl) ?_
  refine nl hK29 ?_
  refine wp_seq_k (fun K30 hK30 => ?_)
  refine C.ifd rfl (fun c31 => ?_) (fun c31 => ?_)
  ·refine wp_skip ?_
   refine hK30 _ _ ?_
   refine wp_seq_k (fun K32 hK32 => ?_)
   refine wp_block ?_
   refine sq fun K33 hK33 => ?_
   refine RS.idx QR rfl rfl Tryz.underlying22 C5 (by omega) (fun b34 o34 v34 h34 q34 r34 => ?_)
   refine RS.nm ?_
   simp only [lim] at r34
   have q6 := q34
   refine RS.o (D.load rfl Tryz.underlying5 rfl (h34)) ?_
   refine RS.asI rfl ?_
   refine nl hK33 ?_
   refine region ?_
   refine RS.mvI rfl ?_
   refine RS.o (D.shl rfl rfl (by constructor <;> (try simp only [IntKind.bits]) <;> omega) (by first | exact W.u64 (by omega) | exact W.u64m _)) ?_
   refine RS.mvI rfl ?_
   refine RS.o (D.conv rfl Tryz.underlying5 Tryz.underlying25 (by first | exact W.u64 (by omega) | exact W.u64m _)) ?_
   refine RS.ob (D.bor_u64 rfl rfl (by omega) (by omega)) (fun z35 => ?_)
   refine RS.asI rfl ?_
   refine nl hK32 ?_
   refine region ?_
   refine RS.o (D.add rfl rfl (W.i64 (by omega))) ?_
   refine RS.mvI rfl ?_
   refine RS.nil ?_
   change Nx _ _ _ _ _ _ _ _
   refine C.next (i + 1, _) ⟨rfl, rfl, trivial⟩ (by kernel_rfl) ?_ ?_
   ·refine ⟨x28, ⟨by dsimp only; omega, by dsimp only; omega⟩, ?_⟩
    dsimp only
    rw [show (i + 1).toNat = i.toNat + 1 by omega, ← S.be_next _ _ hQb (by omega) (by omega), ← g2, ← q6]
    rfl
   dsimp only; omega
  refine wp_exit ?_
  refine hK26 _ _ ?_
  refine sq fun K36 hK36 => ?_
  refine RS.mvI rfl ?_
  refine RS.mvI rfl ?_
  refine RS.o (D.add rfl rfl (W.i64 (by omega))) ?_
  refine RS.asI rfl ?_
  refine RS.asI rfl ?_
  refine RS.asI rfl ?_
  refine nl hK36 ?_
  refine wp_ret ?_
  refine ret (rs := [.tmp 2, .tmp 3, .tmp 4]) (vs := [.int _ _, .int _ _, .int _ _]) (v := (.tuple #[.int _ _, .int _ _, .int _ _])) rfl ⟨rfl, rfl, rfl, trivial⟩ rfl ?_
  rw [em] at g2
  obtain ⟨e1, e2, e3⟩ := S.rd_some (S.readN_many (b := bs) (k := k) (i := i.toNat) (v := r) (by omega) (by omega) (by omega) (by omega) (by omega) (by omega) (by omega) g2)
  rw [e1, e2, e3, show (((k + 1).toNat : Nat) : Int) = k + 1 by omega]
  exact ⟨_, rfl, hE, rfl⟩
 refine RS.nm ?_
 refine RS.skF 38 ?_
 refine RS.skF 38 ?_
 refine RS.skF 38 ?_
 refine RS.skF 38 ?_
 refine RS.wt 35 ?_
 refine RS.pick (v := .bool false) rfl rfl ?_
 refine RS.pick (v := .bool _) rfl rfl ?_
 refine nl hK15 ?_
 refine C.iff rfl ?_
 refine wp_skip ?_
 refine hK14 _ _ ?_
 refine wp_seq_k (fun K37 hK37 => ?_)
 have QR := R0.sub 1 (k + 1).toNat c (by omega) (by omega) (by omega)
 have hQb := QR.bd
 have hQl := QR.len
 have em : (k + 1).toNat - 1 = k.toNat := by omega
 refine region ?_
 refine RS.asI rfl ?_
 refine nl hK37 ?_
 refine wp_seq_k (fun K38 hK38 => ?_)
 refine sq fun K39 hK39 => ?_
 refine RS.mvS rfl ?_
 refine RS.mvI rfl ?_
 refine RS.o (D.add rfl rfl (W.i64 (by omega))) ?_
 refine RS.o (D.slice (kl := .i64) (kh := .i64) rfl Tryz.underlying22 C5 (by decide) rfl rfl (by omega) (by omega)) ?_
 refine RS.o (D.len rfl Tryz.underlying22) ?_
 refine RS.mvI rfl ?_
 refine nl hK39 ?_
 refine wp_block ?_
 refine C.loop (A := Int × Int) (fun p => [(6, .int .u64 p.2), (50, .int .i64 p.1)]) [8, 51, 52, 53, 54, 55, 56, 57, 58, 59] (fun p w' => Ext w w' ∧ ((0 ≤ p.1 ∧ p.1 ≤ ((k + 1).toNat - 1 : Nat)) ∧ p.2 = S.be (((bs.drop 1).take ((k + 1).toNat - 1)).take p.1.toNat))) (fun p => (((k + 1).toNat - 1) - p.1.toNat)) (0, 0) (by kernel_rfl) ?_ ?_
 ·exact ⟨Ext.refl _, ⟨by dsimp only; omega, by dsimp only; omega⟩, rfl⟩
 rintro p j w40 ⟨x40, hI⟩
 replace hE := Ext.tr hE x40
 replace R0 := R0.ext x40
 replace QR := QR.ext x40
 have zw40 := x40.size
 obtain ⟨i, r⟩ := p
 dsimp only at hI
 obtain ⟨g1, g2⟩ := hI
 have g3 := S.be8_lt ((bs.drop 1).take ((k + 1).toNat - 1)) i.toNat hQb (by omega)
 rw [← g2] at g3
 refine C.norm (by simp only [upd, junk, List.map_cons, List.map_nil, List.set_cons_succ, List.set_cons_zero]; exact rfl) ?_
 refine sq fun K41 hK41 => ?_
 refine RS.o (D.lt rfl rfl) ?_
 refine nl hK41 ?_
 refine wp_seq_k (fun K42 hK42 => ?_)
 refine C.ifd rfl (fun c43 => ?_) (fun c43 => ?_)
 ·refine wp_skip ?_
  refine hK42 _ _ ?_
  refine wp_seq_k (fun K44 hK44 => ?_)
  refine wp_block ?_
  refine sq fun K45 hK45 => ?_
  refine RS.idx QR rfl rfl Tryz.underlying22 C5 (by omega) (fun b46 o46 v46 h46 q46 r46 => ?_)
  refine RS.nm ?_
  simp only [lim] at r46
  have q6 := q46
  refine RS.o (D.load rfl Tryz.underlying5 rfl (h46)) ?_
  refine RS.asI rfl ?_
  refine nl hK45 ?_
  refine region ?_
  refine RS.mvI rfl ?_
  refine RS.o (D.shl rfl rfl (by constructor <;> (try simp only [IntKind.bits]) <;> omega) (by first | exact W.u64 (by omega) | exact W.u64m _)) ?_
  refine RS.mvI rfl ?_
  refine RS.o (D.conv rfl Tryz.underlying5 Tryz.underlying25 (by first | exact W.u64 (by omega) | exact W.u64m _)) ?_
  refine RS.ob (D.bor_u64 rfl rfl (by omega) (by omega)) (fun z47 => ?_)
  refine RS.asI rfl ?_
  refine nl hK44 ?_
  refine region ?_
  refine RS.o (D.add rfl rfl (W.i64 (by omega))) ?_
  refine RS.mvI rfl ?_
  refine RS.nil ?_
  change Nx _ _ _ _ _ _ _ _
  refine C.next (i + 1, _) ⟨rfl, rfl, trivial⟩ (by kernel_rfl) ?_ ?_
  ·refine ⟨x40, ⟨by dsimp only; omega, by dsimp only; omega⟩, ?_⟩
   dsimp only
   rw [show (i + 1).toNat = i.toNat + 1 by omega, ← S.be_next _ _ hQb (by omega) (by omega), ← g2, ← q6]
   rfl
  dsimp only; omega
 refine wp_exit ?_
 refine hK38 _ _ ?_
 refine sq fun K48 hK48 => ?_
 refine RS.mvI rfl ?_
 refine RS.mvI rfl ?_
 refine RS.o (D.add rfl rfl (W.i64 (by omega))) ?_
 refine RS.asI rfl ?_
 refine RS.asI rfl ?_
 refine RS.asI rfl ?_
 refine nl hK48 ?_
 refine wp_ret ?_
 refine ret (rs := [.tmp 2, .tmp 3, .tmp 4]) (vs := [.int _ _, .int _ _, .int _ _]) (v := (.tuple #[.int _ _, .int _ _, .int _ _])) rfl ⟨rfl, rfl, rfl, trivial⟩ rfl ?_
 rw [em] at g2
 obtain ⟨e1, e2, e3⟩ := S.rd_some (S.readN_many (b := bs) (k := k) (i := i.toNat) (v := r) (by omega) (by omega) (by omega) (by omega) (by omega) (by omega) (by omega) g2)
 rw [e1, e2, e3, show (((k + 1).toNat : Nat) : Int) = k + 1 by omega]
 exact ⟨_, rfl, hE, rfl⟩
theorem partW {S0 : Nat → Prop} (a : Option Addr) (n c : Nat) (bs : List Int) (most wd : Nat) (hm : most ≤ 1000000) (hw : 0 < wd ∧ wd ≤ 32) (w : World) (R0 : IRow .u8 S0 w a n bs) (hc : n ≤ c) (hn : n ≤ 1000000) :
  Calls Tryz.prog 74 #[.slice a n c, .int .i64 most, .int .i64 wd] w (Ret w fun v w' => ∃ a' n' c', v = .tuple #[.slice a' n' c', .int .i64 (S.ptU most wd bs), .int .i64 (S.ptE most wd bs)] ∧ n' ≤ c' ∧ IRow .u8 S0 w' a' n' (S.ptS most wd bs)) := by
 have hbl := R0.len
 have hbd := R0.bd
 obtain ⟨hv, hu, hu9, he⟩ := S.rd_bd R0.bd
 have hdv := S.div_bd ((n : Int) - (S.rdU bs : Int)) (wd : Int) (by omega) (by omega)
 have hE := Ext.refl w
 refine enterU 48 Tryz.func74 rfl rfl ?_
 refine sq fun K1 hK1 => ?_
 refine RS.asS rfl ?_
 refine RS.asI rfl ?_
 refine RS.asI rfl ?_
 refine nl hK1 ?_
 refine wp_seq_k (fun K2 hK2 => ?_)
 refine sq fun K3 hK3 => ?_
 refine RS.mvI rfl ?_
 refine RS.o (D.lt rfl rfl) ?_
 refine nl hK3 ?_
 refine C.ifd rfl (fun c4 => ?_) (fun c4 => ?_)
 ·exfalso; omega
 refine wp_skip ?_
 refine hK2 _ _ ?_
 refine sq fun K5 hK5 => ?_
 refine RS.mvS rfl ?_
 refine RS.call E73 (readN _ _ _ _ _ R0 hc hn) rfl (fun v6 w6 x6 A6 => ?_)
 replace hE := Ext.tr hE x6
 replace R0 := R0.ext x6
 have zw6 := x6.size
 subst A6
 refine RS.nm ?_
 refine RS.move (v := .tuple _) rfl ?_
 refine RS.extract (v := .int _ _) rfl rfl ?_
 refine RS.extract (v := .int _ _) rfl rfl ?_
 refine RS.extract (v := .int _ _) rfl rfl ?_
 refine RS.asI rfl ?_
 refine RS.asI rfl ?_
 refine RS.asI rfl ?_
 refine nl hK5 ?_
 refine wp_seq_k (fun K7 hK7 => ?_)
 refine sq fun K8 hK8 => ?_
 refine RS.mvI rfl ?_
 refine RS.o (D.ne rfl rfl) ?_
 refine RS.mvB rfl ?_
 refine RS.splitn 23 rfl rfl (fun c9 => ?_) (fun c9 => ?_)
 ·refine RS.nm ?_
  refine RS.skT 23 ?_
  refine RS.skT 23 ?_
  refine RS.skT 23 ?_
  refine RS.skT 23 ?_
  refine RS.pick (v := .bool true) rfl rfl ?_
  refine RS.mvB rfl ?_
  refine RS.skT 29 ?_
  refine RS.skT 29 ?_
  refine RS.skT 29 ?_
  refine RS.skT 29 ?_
  refine RS.skT 29 ?_
  refine RS.skT 29 ?_
  refine RS.skT 29 ?_
  refine RS.skT 29 ?_
  refine RS.skT 29 ?_
  refine RS.pick (v := .bool true) rfl rfl ?_
  refine nl hK8 ?_
  refine C.ift rfl ?_
  refine sq fun K10 hK10 => ?_
  refine RS.asS rfl ?_
  refine RS.asI rfl ?_
  refine RS.asI rfl ?_
  refine nl hK10 ?_
  refine wp_ret ?_
  refine ret (rs := [.tmp 6, .tmp 7, .tmp 8]) (vs := [.slice _ _ _, .int _ _, .int _ _]) (v := (.tuple #[.slice _ _ _, .int _ _, .int _ _])) rfl ⟨rfl, rfl, rfl, trivial⟩ rfl ?_
  obtain ⟨e1, e2, e3⟩ := S.pt_not (most := most) (wd := wd) (b := bs) (fun h => by have h1 := h.1; have h2 := h.2.1; have h3 := h.2.2; rw [hbl] at h3; omega)
  rw [e1, e2]
  exact ⟨_, rfl, hE, _, _, _, rfl, Nat.le_refl _, by rw [e3]; exact IRow.nil⟩
 refine RS.nm ?_
 refine RS.wt 23 ?_
 refine RS.mvI rfl ?_
 refine RS.wt 23 ?_
 refine RS.mvI rfl ?_
 refine RS.wt 23 ?_
 refine RS.o (D.conv rfl Tryz.underlying3 Tryz.underlying25 (W.u64 (by omega))) ?_
 refine RS.wt 23 ?_
 refine RS.o (D.gt rfl rfl) ?_
 refine RS.pick (v := .bool _) rfl rfl ?_
 refine RS.mvB rfl ?_
 refine RS.splitd 29 rfl rfl (fun c11 => ?_) (fun c11 => ?_)
 ·refine RS.nm ?_
  refine RS.skT 29 ?_
  refine RS.skT 29 ?_
  refine RS.skT 29 ?_
  refine RS.skT 29 ?_
  refine RS.skT 29 ?_
  refine RS.skT 29 ?_
  refine RS.skT 29 ?_
  refine RS.skT 29 ?_
  refine RS.skT 29 ?_
  refine RS.pick (v := .bool true) rfl rfl ?_
  refine nl hK8 ?_
  refine C.ift rfl ?_
  refine sq fun K12 hK12 => ?_
  refine RS.asS rfl ?_
  refine RS.asI rfl ?_
  refine RS.asI rfl ?_
  refine nl hK12 ?_
  refine wp_ret ?_
  refine ret (rs := [.tmp 6, .tmp 7, .tmp 8]) (vs := [.slice _ _ _, .int _ _, .int _ _]) (v := (.tuple #[.slice _ _ _, .int _ _, .int _ _])) rfl ⟨rfl, rfl, rfl, trivial⟩ rfl ?_
  obtain ⟨e1, e2, e3⟩ := S.pt_not (most := most) (wd := wd) (b := bs) (fun h => by have h1 := h.1; have h2 := h.2.1; have h3 := h.2.2; rw [hbl] at h3; omega)
  rw [e1, e2]
  exact ⟨_, rfl, hE, _, _, _, rfl, Nat.le_refl _, by rw [e3]; exact IRow.nil⟩
 refine RS.nm ?_
 refine RS.wt 29 ?_
 refine RS.mvI rfl ?_
 refine RS.wt 29 ?_
 refine RS.mvS rfl ?_
 refine RS.wt 29 ?_
 refine RS.o (D.len rfl Tryz.underlying22) ?_
 refine RS.wt 29 ?_
 refine RS.mvI rfl ?_
 refine RS.wt 29 ?_
 refine RS.o (D.sub rfl rfl (W.i64 (by omega))) ?_
 refine RS.wt 29 ?_
 refine RS.mvI rfl ?_
 refine RS.wt 29 ?_
 refine RS.o (D.quo rfl rfl (by omega) (by omega) (W.i64 (by omega))) ?_
 refine RS.wt 29 ?_
 refine RS.o (D.conv rfl Tryz.underlying3 Tryz.underlying25 (W.u64 (by omega))) ?_
 refine RS.wt 29 ?_
 refine RS.o (D.gt rfl rfl) ?_
 refine RS.pick (v := .bool _) rfl rfl ?_
 refine nl hK8 ?_
 refine C.ifd rfl (fun c13 => ?_) (fun c13 => ?_)
 ·refine wp_seq_k (fun K14 hK14 => ?_)
  refine region ?_
  refine RS.asS rfl ?_
  refine RS.asI rfl ?_
  refine RS.asI rfl ?_
  refine nl hK14 ?_
  refine wp_ret ?_
  refine ret (rs := [.tmp 6, .tmp 7, .tmp 8]) (vs := [.slice _ _ _, .int _ _, .int _ _]) (v := (.tuple #[.slice _ _ _, .int _ _, .int _ _])) rfl ⟨rfl, rfl, rfl, trivial⟩ rfl ?_
  obtain ⟨e1, e2, e3⟩ := S.pt_not (most := most) (wd := wd) (b := bs) (fun h => by have h1 := h.1; have h2 := h.2.1; have h3 := h.2.2; rw [hbl] at h3; omega)
  rw [e1, e2]
  exact ⟨_, rfl, hE, _, _, _, rfl, Nat.le_refl _, by rw [e3]; exact IRow.nil⟩
 refine wp_skip ?_
 refine hK7 _ _ ?_
 refine wp_seq_k (fun K15 hK15 => ?_)
 have hok : S.ptOk most wd bs := ⟨by omega, by omega, by rw [hbl]; omega⟩
 have hml := S.pt_mul R0.bd hok (by omega)
 have hmi := S.pt_mulI (wd := wd) R0.bd
 refine region ?_
 refine RS.mvI rfl ?_
 refine RS.mvI rfl ?_
 refine RS.mvI rfl ?_
 refine RS.o (D.conv rfl Tryz.underlying25 Tryz.underlying3 (W.i64 (by omega))) ?_
 refine RS.o (D.mul rfl rfl (W.i64 (by omega))) ?_
 refine RS.o (D.add rfl rfl (W.i64 (by omega))) ?_
 refine RS.asI rfl ?_
 refine nl hK15 ?_
 refine sq fun K16 hK16 => ?_
 refine RS.mvS rfl ?_
 refine RS.mvI rfl ?_
 refine RS.mvI rfl ?_
 refine RS.o (D.slice (kl := .i64) (kh := .i64) rfl Tryz.underlying22 C5 (by decide) rfl rfl (by omega) (by omega)) ?_
 refine RS.mvI rfl ?_
 refine RS.asS rfl ?_
 refine RS.asI rfl ?_
 refine RS.asI rfl ?_
 refine nl hK16 ?_
 refine wp_ret ?_
 refine ret (rs := [.tmp 6, .tmp 7, .tmp 8]) (vs := [.slice _ _ _, .int _ _, .int _ _]) (v := (.tuple #[.slice _ _ _, .int _ _, .int _ _])) rfl ⟨rfl, rfl, rfl, trivial⟩ rfl ?_
 obtain ⟨e1, e2, e3⟩ := S.pt_ok hok
 have QR := R0.sub (S.rdU bs) (S.rdU bs + wd * (S.rdV bs).toNat) c (by omega) (by omega) (by omega)
 have ex : S.rdU bs + wd * (S.rdV bs).toNat - S.rdU bs = wd * (S.rdV bs).toNat := by omega
 rw [hmi]
 refine ⟨_, rfl, hE, subA a (S.rdU bs) 1 c, S.rdU bs + wd * (S.rdV bs).toNat - S.rdU bs, c - S.rdU bs, by rw [e1, e2]; rfl, by omega, ?_⟩
 rw [e3]
 rw [ex] at QR ⊢
 exact QR
theorem readB {S0 : Nat → Prop} (a : Option Addr) (n c : Nat) (bs : List Int) (most : Nat) (hm : most ≤ 1000000) (w : World) (R0 : IRow .u8 S0 w a n bs) (hc : n ≤ c) (hn : n ≤ 1000000) :
  Calls Tryz.prog 44 #[.slice a n c, .int .i64 most] w (Ret w fun v w' => ∃ a' n' c', v = .tuple #[.slice a' n' c', .int .i64 (S.ptU most 1 bs), .int .i64 (S.ptE most 1 bs)] ∧ IOwn w.heap.size w' 5 .u8 a' n' c' (S.ptS most 1 bs)) := by
 have hbl := R0.len
 have hbd := R0.bd
 have hE := Ext.refl w
 refine enterU 19 Tryz.func44 rfl rfl ?_
 refine sq fun K1 hK1 => ?_
 refine RS.asS rfl ?_
 refine RS.asI rfl ?_
 refine RS.asI rfl ?_
 refine nl hK1 ?_
 refine sq fun K2 hK2 => ?_
 refine RS.mvS rfl ?_
 refine RS.mvI rfl ?_
 refine RS.call E74 (partW _ _ _ _ most 1 hm (by decide) _ R0 hc hn) rfl (fun v3 w3 x3 A3 => ?_)
 replace hE := Ext.tr hE x3
 replace R0 := R0.ext x3
 have zw3 := x3.size
 obtain ⟨aP, nP, cP, rfl, hcP, P1⟩ := A3
 have hpl := P1.len
 have hpe := S.ptS_le most 1 bs
 refine RS.nm ?_
 refine RS.move (v := .tuple _) rfl ?_
 refine RS.extract (v := .slice _ _ _) rfl rfl ?_
 refine RS.extract (v := .int _ _) rfl rfl ?_
 refine RS.extract (v := .int _ _) rfl rfl ?_
 refine RS.asS rfl ?_
 refine RS.asI rfl ?_
 refine RS.asI rfl ?_
 refine nl hK2 ?_
 refine sq fun K4 hK4 => ?_
 refine RS.mvS rfl ?_
 refine RS.call E76 (cloneB2 _ _ _ _ _ P1 (by omega)) rfl (fun v5 w5 x5 A5 => ?_)
 replace hE := Ext.tr hE x5
 replace R0 := R0.ext x5
 replace P1 := P1.ext x5
 have zw5 := x5.size
 obtain ⟨aC, nC, cC, rfl, OC⟩ := A5
 refine RS.nm ?_
 refine RS.mvI rfl ?_
 refine RS.mvI rfl ?_
 refine RS.asS rfl ?_
 refine RS.asI rfl ?_
 refine RS.asI rfl ?_
 refine nl hK4 ?_
 refine wp_ret ?_
 refine ret (rs := [.tmp 4, .tmp 5, .tmp 6]) (vs := [.slice _ _ _, .int _ _, .int _ _]) (v := (.tuple #[.slice _ _ _, .int _ _, .int _ _])) rfl ⟨rfl, rfl, rfl, trivial⟩ rfl ?_
 exact ⟨_, rfl, hE, _, _, _, rfl, OC.base (fun b hb => by have := OC.lo b hb; omega)⟩
theorem readIds {S0 : Nat → Prop} (a : Option Addr) (n c : Nat) (bs : List Int) (most : Nat) (hm : most ≤ 1000) (w : World) (R0 : IRow .u8 S0 w a n bs) (hc : n ≤ c) (hn : n ≤ 1000000) :
  Calls Tryz.prog 42 #[.slice a n c, .int .i64 most] w (Ret w fun v w' => ∃ a' c', v = .tuple #[.slice a' (S.idN most bs) c', .int .i64 (S.idU most bs), .int .i64 (S.idE most bs)] ∧ S.idN most bs ≤ c' ∧ WRow .u8 32 (fun k => w.heap.size ≤ k) w' a' (S.idN most bs) (S.idL most bs)) := by
 replace R0 := R0.weaken (T := fun k => k < w.heap.size) (fun k hk _ => hk)
 have hbl := R0.len
 have hbd := R0.bd
 have hrd := S.rd_bd R0.bd
 have hE := Ext.refl w
 refine enterU 43 Tryz.func42 rfl rfl ?_
 refine sq fun K1 hK1 => ?_
 refine RS.asS rfl ?_
 refine RS.asI rfl ?_
 refine RS.asI rfl ?_
 refine nl hK1 ?_
 refine sq fun K2 hK2 => ?_
 refine RS.mvS rfl ?_
 refine RS.mvI rfl ?_
 refine RS.call E74 (partW _ _ _ _ most 32 (by omega) (by decide) _ R0 hc hn) rfl (fun v3 w3 x3 A3 => ?_)
 replace hE := Ext.tr hE x3
 replace R0 := R0.ext x3
 have zw3 := x3.size
 obtain ⟨aP, nP, cP, rfl, hcP, P1⟩ := A3
 have hpl := P1.len
 refine RS.nm ?_
 refine RS.move (v := .tuple _) rfl ?_
 refine RS.extract (v := .slice _ _ _) rfl rfl ?_
 refine RS.extract (v := .int _ _) rfl rfl ?_
 refine RS.extract (v := .int _ _) rfl rfl ?_
 refine RS.asS rfl ?_
 refine RS.asI rfl ?_
 refine RS.asI rfl ?_
 refine nl hK2 ?_
 refine wp_seq_k (fun K4 hK4 => ?_)
 refine sq fun K5 hK5 => ?_
 refine RS.mvI rfl ?_
 refine RS.o (D.ne rfl rfl) ?_
 refine nl hK5 ?_
 refine C.ifn rfl (fun c6 => ?_) (fun c6 => ?_)
 ·have he := c6
  refine sq fun K7 hK7 => ?_
  refine RS.mvI rfl ?_
  refine RS.asS rfl ?_
  refine RS.asI rfl ?_
  refine RS.asI rfl ?_
  refine nl hK7 ?_
  refine wp_ret ?_
  refine ret (rs := [.tmp 4, .tmp 5, .tmp 6]) (vs := [.slice _ _ _, .int _ _, .int _ _]) (v := (.tuple #[.slice _ _ _, .int _ _, .int _ _])) rfl ⟨rfl, rfl, rfl, trivial⟩ rfl ?_
  obtain ⟨e1, e2, e3, e4⟩ := S.id_none (most := most) (b := bs) (by rw [S.readI_pt most bs hbd, if_neg (fun h => he h.1)])
  have e5 : S.ptE most 32 bs = 12 := (S.pt_not (fun h => he (S.ptE_zero.2 h))).1
  rw [e5]
  rw [e1, e3, e4]
  refine ⟨_, rfl, hE, _, _, rfl, Nat.le_refl _, by rw [e2]; exact WRow.nil⟩
 have he := c6
 have hok := S.ptE_zero.1 he
 have hps := S.ptS_len R0.bd hok (by decide)
 have hvb := hok.2.1
 obtain ⟨m, hm2⟩ : ∃ m : Nat, m = (S.rdV bs).toNat := ⟨_, rfl⟩
 rw [← hm2] at hps
 refine wp_skip ?_
 refine hK4 _ _ ?_
 refine sq fun K8 hK8 => ?_
 refine RS.mvS rfl ?_
 refine RS.o (D.len rfl Tryz.underlying22) ?_
 refine RS.o (D.quo rfl rfl (by omega) (by omega) (W.i64 (by omega))) ?_
 refine RS.make rfl rfl Tryz.underlying24 T35 (by omega) (by omega) (by omega) (fun b9 w9 e9 s9 x9 B9 => ?_)
 refine RS.nm ?_
 replace hE := Ext.tr hE x9
 replace R0 := R0.ext x9
 replace P1 := P1.ext x9
 have zw9 := x9.size
 have em : ((nP : Int) / 32).toNat = m := by omega
 rw [em] at B9 ⊢
 rw [made_wide .u8 32 m (by decide)] at B9
 obtain ⟨bM, hbM⟩ : ∃ b, b = b9 := ⟨_, rfl⟩
 have BM := B9
 have hBM := BM.lt
 refine RS.asS rfl ?_
 refine nl hK8 ?_
 refine wp_seq_k (fun K10 hK10 => ?_)
 refine sq fun K11 hK11 => ?_
 refine RS.mvS rfl ?_
 refine RS.o (D.len rfl Tryz.underlying24) ?_
 refine RS.mvI rfl ?_
 refine nl hK11 ?_
 refine wp_block ?_
 refine C.loop (A := Int × Option Addr × Nat × Nat) (fun p => [(7, .slice p.2.1 p.2.2.1 p.2.2.2), (28, .int .i64 p.1)]) [11, 29, 30, 31, 32, 33, 34, 35, 36, 37, 38, 39] (fun p w' => Pr (fun k => k = b9) w9 w' ∧ ((0 ≤ p.1 ∧ p.1 ≤ m) ∧ Blk w' b9 (ints .u8 ((S.ptS most 32 bs).take (32 * p.1.toNat) ++ List.replicate (32 * (m - p.1.toNat)) 0)) 35 ∧ p.2.2.1 ≤ p.2.2.2 ∧ IRow .u8 (fun k => k < w.heap.size) w' p.2.1 p.2.2.1 ((S.ptS most 32 bs).drop (32 * p.1.toNat)))) (fun p => (m - p.1.toNat)) (0, aP, nP, cP) (by kernel_rfl) ?_ ?_
 ·exact ⟨Pr.refl _ _, ⟨by dsimp only; omega, by dsimp only; omega⟩, by simpa using BM, hcP, by simpa using P1⟩
 rintro p j w12 ⟨x12, hI⟩
 replace hE := hE.trans (x12.belo)
 replace R0 := R0.pro x12
 have zw12 := x12.size
 obtain ⟨i, az, ns, cs⟩ := p
 dsimp only at hI
 obtain ⟨g1, BM, hcs, P1⟩ := hI
 have hns := P1.len
 rw [List.length_drop] at hns
 refine C.norm (by simp only [upd, junk, List.map_cons, List.map_nil, List.set_cons_succ, List.set_cons_zero]; exact rfl) ?_
 refine sq fun K13 hK13 => ?_
 refine RS.o (D.lt rfl rfl) ?_
 refine nl hK13 ?_
 refine wp_seq_k (fun K14 hK14 => ?_)
 refine C.ifd rfl (fun c15 => ?_) (fun c15 => ?_)
 ·refine wp_skip ?_
  refine hK14 _ _ ?_
  refine wp_seq_k (fun K16 hK16 => ?_)
  refine wp_block ?_
  refine sq fun K17 hK17 => ?_
  refine RS.mvI rfl ?_
  refine RS.asI rfl ?_
  refine nl hK17 ?_
  refine region ?_
  refine RS.mvS rfl ?_
  refine RS.mvS rfl ?_
  refine RS.mvI rfl ?_
  refine RS.o (D.indexAddr rfl rfl Tryz.underlying24 C35 (by decide) rfl (by omega)) ?_
  refine RS.o (D.sliceAt rfl Tryz.underlying35 C5 (by decide)) ?_
  refine RS.mvS rfl ?_
  refine RS.copyA BM P1 rfl rfl Tryz.underlying22 C5 (by decide) (by omega) (by simp; omega) (fun w18 y18 N18 => ?_)
  refine RS.nm ?_
  replace hE := hE.trans (y18.belo)
  replace x12 := x12.stno y18
  replace R0 := R0.sto y18
  replace P1 := P1.sto y18
  have zw18 := y18.size
  replace BM := N18
  refine RS.o (D.slice (kl := .i64) (kh := .i64) rfl Tryz.underlying22 C5 (by decide) rfl rfl (by omega) (by omega)) ?_
  refine RS.asS rfl ?_
  refine nl hK16 ?_
  refine region ?_
  refine RS.o (D.add rfl rfl (W.i64 (by omega))) ?_
  refine RS.mvI rfl ?_
  refine RS.nil ?_
  change Nx _ _ _ _ _ _ _ _
  refine C.next (i + 1, _, _, _) ⟨rfl, rfl, trivial⟩ (by kernel_rfl) ?_ ?_
  ·refine ⟨x12, ⟨by dsimp only; omega, by dsimp only; omega⟩, ?_, by dsimp only; omega, ?_⟩
   ·dsimp only
    rw [show (i + 1).toNat = i.toNat + 1 by omega, ← S.copy_step _ _ _ hps (by omega)]
    exact BM
   dsimp only
   have := P1.rest 32 cs (by omega) (by omega)
   rw [List.drop_drop, show 32 * i.toNat + 32 = 32 * (i + 1).toNat by omega] at this
   exact this
  dsimp only; omega
 refine wp_exit ?_
 refine hK10 _ _ ?_
 refine wp_seq_k (fun K19 hK19 => ?_)
 refine wp_seq_k (fun K20 hK20 => ?_)
 have ei : i.toNat = m := by omega
 rw [ei, Nat.sub_self, Nat.mul_zero, List.replicate_zero, List.append_nil, List.take_of_length_le (by omega)] at BM
 have OI : WOwn w.heap.size w12 35 .u8 32 _ m m (S.ptS most 32 bs) := WOwn.of_blk BM rfl hps (by omega) (S.ptS_bd most 32 bs hbd) (by omega)
 refine region ?_
 refine RS.mvS rfl ?_
 refine RS.call E75 (risingW _ _ _ _ _ OI.row (Nat.le_refl _) (by omega)) rfl (fun v21 w21 x21 A21 => ?_)
 replace hE := Ext.tr hE x21
 replace R0 := R0.ext x21
 replace OI := OI.ext x21
 have zw21 := x21.size
 subst A21
 refine RS.nm ?_
 refine RS.o (D.not rfl) ?_
 refine nl hK20 ?_
 refine C.ifnot rfl (fun c22 => ?_) (fun c22 => ?_)
 ·have hr := of_decide_eq_false c22
  refine sq fun K23 hK23 => ?_
  refine RS.asS rfl ?_
  refine RS.asI rfl ?_
  refine RS.asI rfl ?_
  refine nl hK23 ?_
  refine wp_ret ?_
  refine ret (rs := [.tmp 4, .tmp 5, .tmp 6]) (vs := [.slice _ _ _, .int _ _, .int _ _]) (v := (.tuple #[.slice _ _ _, .int _ _, .int _ _])) rfl ⟨rfl, rfl, rfl, trivial⟩ rfl ?_
  obtain ⟨e1, e2, e3, e4⟩ := S.id_none (most := most) (b := bs) (by rw [S.readI_pt most bs hbd, hps, show 32 * m / 32 = m by omega, if_neg (fun h => hr h.2)])
  rw [e1, e3, e4]
  refine ⟨_, rfl, hE, _, _, rfl, Nat.le_refl _, by rw [e2]; exact WRow.nil⟩
 have hr := of_decide_eq_true c22
 refine wp_skip ?_
 refine hK19 _ _ ?_
 refine sq fun K24 hK24 => ?_
 refine RS.mvS rfl ?_
 refine RS.mvI rfl ?_
 refine RS.asS rfl ?_
 refine RS.asI rfl ?_
 refine RS.asI rfl ?_
 refine nl hK24 ?_
 refine wp_ret ?_
 refine ret (rs := [.tmp 4, .tmp 5, .tmp 6]) (vs := [.slice _ _ _, .int _ _, .int _ _]) (v := (.tuple #[.slice _ _ _, .int _ _, .int _ _])) rfl ⟨rfl, rfl, rfl, trivial⟩ rfl ?_
 obtain ⟨e1, e2, e3, e4⟩ := S.id_some (show S.readI most bs = some (m, S.ptS most 32 bs, S.ptU most 32 bs) by rw [S.readI_pt most bs hbd, hps, show 32 * m / 32 = m by omega, if_pos ⟨he, hr⟩])
 rw [e1, e3, e4]
 exact ⟨_, rfl, hE, _, _, rfl, Nat.le_refl _, by rw [e2]; exact OI.row⟩
theorem readSg {S0 : Nat → Prop} (a : Option Addr) (n c : Nat) (bs : List Int) (w : World) (R0 : IRow .u8 S0 w a n bs) (hc : n ≤ c) (hn : n ≤ 1000000) :
  Calls Tryz.prog 77 #[.slice a n c] w (Ret w fun v _ => v = .tuple #[.int .i64 (if S.rdE bs = 0 then S.unzig (S.rdV bs) else 0), .int .i64 (S.rdU bs), .int .i64 (S.rdE bs)]) := by
 have hbl := R0.len
 have hbd := R0.bd
 obtain ⟨hv, hu, hu9, he⟩ := S.rd_bd R0.bd
 have hE := Ext.refl w
 refine enterU 25 Tryz.func77 rfl rfl ?_
 refine sq fun K1 hK1 => ?_
 refine RS.asI rfl ?_
 refine RS.asI rfl ?_
 refine RS.asI rfl ?_
 refine nl hK1 ?_
 refine sq fun K2 hK2 => ?_
 refine RS.mvS rfl ?_
 refine RS.call E73 (readN _ _ _ _ _ R0 hc hn) rfl (fun v3 w3 x3 A3 => ?_)
 replace hE := Ext.tr hE x3
 replace R0 := R0.ext x3
 have zw3 := x3.size
 subst A3
 refine RS.nm ?_
 refine RS.move (v := .tuple _) rfl ?_
 refine RS.extract (v := .int _ _) rfl rfl ?_
 refine RS.extract (v := .int _ _) rfl rfl ?_
 refine RS.extract (v := .int _ _) rfl rfl ?_
 refine RS.asI rfl ?_
 refine RS.asI rfl ?_
 refine RS.asI rfl ?_
 refine nl hK2 ?_
 refine wp_seq_k (fun K4 hK4 => ?_)
 refine sq fun K5 hK5 => ?_
 refine RS.mvI rfl ?_
 refine RS.o (D.ne rfl rfl) ?_
 refine nl hK5 ?_
 refine C.ifn rfl (fun c6 => ?_) (fun c6 => ?_)
 ·have hz := c6
  refine sq fun K7 hK7 => ?_
  refine RS.mvI rfl ?_
  refine RS.asI rfl ?_
  refine RS.asI rfl ?_
  refine RS.asI rfl ?_
  refine nl hK7 ?_
  refine wp_ret ?_
  refine ret (rs := [.tmp 2, .tmp 3, .tmp 4]) (vs := [.int _ _, .int _ _, .int _ _]) (v := (.tuple #[.int _ _, .int _ _, .int _ _])) rfl ⟨rfl, rfl, rfl, trivial⟩ rfl ?_
  obtain ⟨e1, e2, e3⟩ := S.rd_none (S.rd_bad hz)
  rw [if_neg hz, e2]
  exact ⟨_, rfl, hE, rfl⟩
 have hz := c6
 have hhb := S.half_bd _ hv
 refine wp_skip ?_
 refine hK4 _ _ ?_
 refine sq fun K8 hK8 => ?_
 refine RS.mvI rfl ?_
 refine RS.ob (D.shr_u64 rfl rfl (by omega) (by constructor <;> omega)) (fun z9 => ?_)
 refine RS.o (D.conv rfl Tryz.underlying25 Tryz.underlying2 (W.i64 (by omega))) ?_
 refine RS.mvI rfl ?_
 refine RS.ob (D.band_u64 rfl rfl (by omega) (by omega)) (fun z10 => ?_)
 refine RS.o (D.conv rfl Tryz.underlying25 Tryz.underlying2 (W.i64 (by omega))) ?_
 refine RS.o (D.neg rfl (W.i64 (by omega))) ?_
 refine RS.o (D.sxor rfl rfl) ?_
 refine RS.mvI rfl ?_
 refine RS.asI rfl ?_
 refine RS.asI rfl ?_
 refine RS.asI rfl ?_
 refine nl hK8 ?_
 refine wp_ret ?_
 refine ret (rs := [.tmp 2, .tmp 3, .tmp 4]) (vs := [.int _ _, .int _ _, .int _ _]) (v := (.tuple #[.int _ _, .int _ _, .int _ _])) rfl ⟨rfl, rfl, rfl, trivial⟩ rfl ?_
 rw [if_pos hz, hz, ← S.unzig_sxor _ hv]
 exact ⟨_, rfl, hE, rfl⟩
end Go.Proofs.YtiohpiiiapjblaaGreatDoor.W
namespace Go.Proofs.YtiohpiiiapjblaaGreatDoor.S
open G
theorem zer8 : (0 : Int) ≤ 0 ∧ (0 : Int) < 256 := by decide
theorem zerI : -9223372036854775808 ≤ (0 : Int) ∧ (0 : Int) ≤ 9223372036854775807 := by decide
theorem zer64 : (0 : Int) ≤ 0 ∧ (0 : Int) < 18446744073709551616 := by decide
theorem sg_bd {b : List Int} (hB : Bd .u8 b) : -9223372036854775808 ≤ (if rdE b = 0 then unzig (rdV b) else 0) ∧ (if rdE b = 0 then unzig (rdV b) else 0) ≤ 9223372036854775807 := by
  split
  · exact unzig_bd _ (rd_bd hB).1
  · decide
section
variable {x : Int} {r : List Int}
theorem valR_one (hk : x = 1) (h : rdE r = 0) : valR x r = some ((if rdE r = 0 then unzig (rdV r) else 0), 0, .empty, rdU r) := by
  unfold valR
  rw [if_pos hk, rd_zero h, if_pos h]
  rfl
theorem valR_oneN (hk : x = 1) (h : rdE r ≠ 0) : valR x r = none := by
  unfold valR
  rw [if_pos hk, rd_bad h]
  rfl
theorem valR_twoN (hk : x = 2) (h : r.length < 8) : valR x r = none := by
  unfold valR
  rw [if_neg (by omega), if_pos hk, if_pos h]
theorem valR_two (hk : x = 2) (h : ¬ r.length < 8) {v : Int} (hv : v = be (r.take 8)) : valR x r = some (0, v, .empty, 8) := by
  unfold valR
  rw [if_neg (by omega), if_pos hk, if_neg h, hv]
theorem valR_three (hk : x = 3) (h : ptE 30 1 r = 0) : valR x r = some (0, 0, strOfNums (ptS 30 1 r), ptU 30 1 r) := by
  unfold valR
  rw [if_neg (by omega), if_neg (by omega), if_pos hk]
  have := readB_pt 30 r
  rw [if_pos h] at this
  rw [show ((30 : Nat) : Int) = 30 from rfl] at this
  rw [this]
  rfl
theorem valR_threeN (hk : x = 3) (h : ptE 30 1 r ≠ 0) : valR x r = none := by
  unfold valR
  rw [if_neg (by omega), if_neg (by omega), if_pos hk]
  have := readB_pt 30 r
  rw [if_neg h] at this
  rw [show ((30 : Nat) : Int) = 30 from rfl] at this
  rw [this]
  rfl
theorem valR_else (h1 : x ≠ 1) (h2 : x ≠ 2) (h3 : x ≠ 3) : valR x r = some (0, 0, .empty, 0) := by
  unfold valR
  rw [if_neg h1, if_neg h2, if_neg h3]
theorem vd_nil : vdS [] = ⟨0, 0, 0, .empty, 0, 12⟩ := rfl
theorem vd_fail (h : valR x r = none) : vdS (x :: r) = ⟨0, 0, 0, .empty, 0, 12⟩ := vd_none (by unfold valD; simp only [h]; rfl)
theorem vd_bad {num bits : Int} {t : ByteArray} {u : Nat} (h : valR x r = some (num, bits, t, u)) (hE : valE x num bits t ≠ 0) : vdS (x :: r) = ⟨0, 0, 0, .empty, 0, 12⟩ :=
  vd_none (by unfold valD; simp only [h, Option.bind_some]; exact if_neg (fun hF => hE (valE_zero.2 hF)))
theorem vd_good {num bits : Int} {t : ByteArray} {u : Nat} (h : valR x r = some (num, bits, t, u)) (hE : valE x num bits t = 0) : vdS (x :: r) = ⟨x, num, bits, t, u + 1, 0⟩ :=
  vd_some (by unfold valD; simp only [h, Option.bind_some]; exact if_pos (valE_zero.1 hE))
end
/-- The state behind a step. -/
def nxB (e : Int) (bad : Bool) : Bool := if e = 0 then bad else true
def nxL (e : Int) (u : Nat) (b : List Int) : List Int := if e = 0 then b.drop u else b
theorem nx_zero {e : Int} (h : e = 0) (u : Nat) (bad : Bool) (b : List Int) : nxB e bad = bad ∧ nxL e u b = b.drop u := by unfold nxB nxL; rw [if_pos h, if_pos h]; exact ⟨rfl, rfl⟩
theorem nx_ne {e : Int} (h : e ≠ 0) (u : Nat) (bad : Bool) (b : List Int) : nxB e bad = true ∧ nxL e u b = b := by unfold nxB nxL; rw [if_neg h, if_neg h]; exact ⟨rfl, rfl⟩
theorem numB_rd (m : Int) (bad : Bool) (b : List Int) : rdV b = (numB m bad b).1 ∧ (nxB (rdE b) bad || decide (m < rdV b)) = (numB m bad b).2.1 ∧ nxL (rdE b) (rdU b) b = (numB m bad b).2.2 := by
  unfold numB numR
  cases h : readN b with
  | none =>
    obtain ⟨e1, e2, e3⟩ := rd_none h
    obtain ⟨h1, h2⟩ := nx_ne (e := rdE b) (by rw [e3]; decide) (rdU b) bad b
    rw [e1, h1, h2]
    exact ⟨rfl, rfl, rfl⟩
  | some y =>
    obtain ⟨n, u⟩ := y
    obtain ⟨e1, e2, e3⟩ := rd_some h
    obtain ⟨h1, h2⟩ := nx_zero e3 (rdU b) bad b
    rw [e1, h1, h2, e2]
    exact ⟨rfl, rfl, rfl⟩
theorem idsB_rd (bad : Bool) (b : List Int) : idN 4 b = (idsB bad b).1 ∧ idL 4 b = (idsB bad b).2.1 ∧ nxB (idE 4 b) bad = (idsB bad b).2.2.1 ∧ nxL (idE 4 b) (idU 4 b) b = (idsB bad b).2.2.2 := by
  unfold idsB idsR
  have e : readI ((4 : Nat) : Int) b = readI 4 b := rfl
  cases h : readI 4 b with
  | none =>
    obtain ⟨e1, e2, e3, e4⟩ := id_none (most := 4) (e.trans h)
    obtain ⟨h1, h2⟩ := nx_ne (e := idE 4 b) (by rw [e4]; decide) (idU 4 b) bad b
    rw [e1, e2, h1, h2]
    exact ⟨rfl, rfl, rfl, rfl⟩
  | some y =>
    obtain ⟨n, l, u⟩ := y
    obtain ⟨e1, e2, e3, e4⟩ := id_some (most := 4) (e.trans h)
    obtain ⟨h1, h2⟩ := nx_zero e4 (idU 4 b) bad b
    rw [e1, e2, h1, h2, e3]
    exact ⟨rfl, rfl, rfl, rfl⟩
theorem keyB_rd (bad : Bool) (b : List Int) : strOfNums (ptS 20 1 b) = (keyB bad b).1 ∧ nxB (ptE 20 1 b) bad = (keyB bad b).2.1 ∧ nxL (ptE 20 1 b) (ptU 20 1 b) b = (keyB bad b).2.2 := by
  have hr := readB_pt 20 b
  rw [show ((20 : Nat) : Int) = 20 from rfl] at hr
  unfold keyB keyR
  by_cases h : ptE 20 1 b = 0
  · rw [if_pos h] at hr
    obtain ⟨h1, h2⟩ := nx_zero h (ptU 20 1 b) bad b
    rw [h1, h2, hr]
    exact ⟨rfl, rfl, rfl⟩
  · rw [if_neg h] at hr
    obtain ⟨h1, h2⟩ := nx_ne h (ptU 20 1 b) bad b
    obtain ⟨_, _, q3⟩ := pt_not (fun hk => h (ptE_zero.2 hk))
    rw [h1, h2, hr, q3]
    exact ⟨by rfl, rfl, rfl⟩
theorem valB_rd (key : ByteArray) (bad : Bool) (b : List Int) : (⟨(vdS b).k, (vdS b).num, (vdS b).bits, key, (vdS b).t⟩ : ActV) = (valB key bad b).1 ∧ nxB (vdS b).e bad = (valB key bad b).2.1 ∧ nxL (vdS b).e (vdS b).u b = (valB key bad b).2.2 := by
  unfold valB valV
  cases h : valD b with
  | none =>
    rw [vd_none h]
    exact ⟨rfl, rfl, rfl⟩
  | some y =>
    obtain ⟨k, n, c, t, u⟩ := y
    rw [vd_some h]
    exact ⟨rfl, rfl, rfl⟩
theorem actB_none {k : Int} (bad : Bool) (b : List Int) (h : k = 1) : (⟨0, 0, 0, .empty, .empty⟩, bad, b) = actB k bad b := by unfold actB; rw [if_pos h]
theorem actB_key {k : Int} (bad : Bool) (b : List Int) (h : k ≠ 1) (h4 : k ≠ 4) : (⟨0, 0, 0, (keyB bad b).1, .empty⟩, (keyB bad b).2.1, (keyB bad b).2.2) = actB k bad b := by unfold actB; rw [if_neg h, if_neg h4]
theorem actB_val {k : Int} (bad : Bool) (b : List Int) (h4 : k = 4) : valB (keyB bad b).1 (keyB bad b).2.1 (keyB bad b).2.2 = actB k bad b := by unfold actB; rw [if_neg (by omega), if_pos h4]
theorem id_le {b : List Int} (hB : Bd .u8 b) : idN 4 b ≤ 4 ∧ idU 4 b ≤ b.length ∧ (idL 4 b).length = 32 * idN 4 b := by
  have e : readI ((4 : Nat) : Int) b = readI 4 b := rfl
  cases h : readI 4 b with
  | none =>
    obtain ⟨e1, e2, e3, e4⟩ := id_none (most := 4) (e.trans h)
    rw [e1, e2, e3]
    simp
  | some y =>
    obtain ⟨n, l, u⟩ := y
    obtain ⟨e1, e2, e3, e4⟩ := id_some (most := 4) (e.trans h)
    obtain ⟨q1, q2, q3, _⟩ := readI_inv hB h
    rw [e1, e2, e3]
    exact ⟨by omega, q2, q3⟩
theorem ptU_le {most wd : Nat} {b : List Int} (hB : Bd .u8 b) (hw : 0 < wd) : ptU most wd b ≤ b.length := by
  by_cases h : ptOk most wd b
  · have := pt_mul hB h hw
    rw [(pt_ok h).2.1]; omega
  · rw [(pt_not h).2.1]; omega
theorem vd_bd {b : List Int} (hB : Bd .u8 b) : (0 ≤ (vdS b).k ∧ (vdS b).k < 256) ∧ (-9223372036854775808 ≤ (vdS b).num ∧ (vdS b).num ≤ 9223372036854775807) ∧ (0 ≤ (vdS b).bits ∧ (vdS b).bits < 18446744073709551616) ∧ (vdS b).u ≤ b.length ∧ (vdS b).t.size ≤ 30 := by
  cases h : valD b with
  | none => rw [vd_none h]; simp
  | some y =>
    obtain ⟨k, n, c, t, u⟩ := y
    obtain ⟨q1, q2, q3, q4, q5, _⟩ := val_inv hB h
    rw [vd_some h]
    refine ⟨q2, q3, q4, q5, ?_⟩
    rcases q1 with ⟨_, _, rfl⟩ | ⟨_, _, rfl, _⟩ | ⟨_, _, _, ht, _⟩
    · simp
    · simp
    · exact ht
theorem nxL_bd {e : Int} {u : Nat} {b : List Int} (hB : Bd .u8 b) : Bd .u8 (nxL e u b) := by unfold nxL; split; exact hB.drop _; exact hB
theorem numB_bd {m : Int} {bad : Bool} {b : List Int} (hB : Bd .u8 b) : (0 ≤ (numB m bad b).1 ∧ (numB m bad b).1 < 18446744073709551616) ∧ Bd .u8 (numB m bad b).2.2 := by
  obtain ⟨h1, _, h3⟩ := numB_rd m bad b
  rw [← h1, ← h3]
  exact ⟨(rd_bd hB).1, nxL_bd hB⟩
theorem oneB_bd {bad : Bool} {b : List Int} (hB : Bd .u8 b) : (0 ≤ (oneB bad b).1 ∧ (oneB bad b).1 < 256) ∧ Bd .u8 (oneB bad b).2.2 := by
  unfold oneB
  split
  · exact ⟨zer8, hB⟩
  · cases b with
    | nil => exact ⟨zer8, hB⟩
    | cons x t => exact ⟨hB x List.mem_cons_self, fun y hy => hB y (List.mem_cons_of_mem _ hy)⟩
theorem idsB_bd {bad : Bool} {b : List Int} (hB : Bd .u8 b) : (idsB bad b).1 ≤ 4 ∧ (idsB bad b).2.1.length = 32 * (idsB bad b).1 ∧ Bd .u8 (idsB bad b).2.2.2 := by
  obtain ⟨h1, h2, _, h4⟩ := idsB_rd bad b
  obtain ⟨q1, q2, q3⟩ := id_le hB
  rw [← h1, ← h2, ← h4]
  exact ⟨q1, q3, nxL_bd hB⟩
theorem keyB_bd {bad : Bool} {b : List Int} (hB : Bd .u8 b) : (keyB bad b).1.size ≤ 20 ∧ Bd .u8 (keyB bad b).2.2 := by
  obtain ⟨h1, _, h3⟩ := keyB_rd bad b
  rw [← h1, ← h3]
  refine ⟨?_, nxL_bd hB⟩
  rw [← bys_len, bys_strOf _ (ptS_bd _ _ _ hB)]
  by_cases h : ptOk 20 1 b
  · rw [ptS_len hB h (by decide)]
    have := h.2.1
    omega
  · rw [(pt_not h).2.2]; simp
theorem actB_bd {k : Int} {bad : Bool} {b : List Int} (hB : Bd .u8 b) : ((0 ≤ (actB k bad b).1.vk ∧ (actB k bad b).1.vk < 256) ∧ (-9223372036854775808 ≤ (actB k bad b).1.num ∧ (actB k bad b).1.num ≤ 9223372036854775807) ∧ (0 ≤ (actB k bad b).1.bits ∧ (actB k bad b).1.bits < 18446744073709551616) ∧ (actB k bad b).1.key.size ≤ 20 ∧ (actB k bad b).1.t.size ≤ 30) ∧ Bd .u8 (actB k bad b).2.2 := by
  have hk := keyB_bd (bad := bad) hB
  unfold actB
  split
  · exact ⟨⟨zer8, zerI, zer64, by simp, by simp⟩, hB⟩
  · split
    · obtain ⟨h1, _, h3⟩ := valB_rd (keyB bad b).1 (keyB bad b).2.1 (keyB bad b).2.2
      obtain ⟨q1, q2, q3, _, q5⟩ := vd_bd hk.2
      rw [← h1, ← h3]
      exact ⟨⟨q1, q2, q3, hk.1, q5⟩, nxL_bd hk.2⟩
    · exact ⟨⟨zer8, zerI, zer64, hk.1, by simp⟩, hk.2⟩
theorem dec_head {b : List Int} (h : (oneB false b).1 ≠ 111) : decS b = none := by
  unfold decS
  cases b with
  | nil => rfl
  | cons x t => exact if_neg h
theorem Steps.none {b : List Int} (hB : Bd .u8 b) (p : Steps b) (h : ¬ (p.h.1 = 111 ∧ p.s.2.1 = false ∧ p.s.2.2 = [] ∧ checkE p.op = 0)) : decS b = .none := by
  cases hd : decS b with
  | none => rfl
  | some o => exact absurd (Steps.bad hB p hd) h
theorem Steps.ok {b : List Int} (hB : Bd .u8 b) (p : Steps b) : p.op.ok ∧ p.op.ids.length = 32 * p.op.n := by
  obtain ⟨h, a, l, t, k, x, e, s, eh, ea, el, et, ek, ex, ee, es⟩ := p
  simp only [Steps.op]
  subst eh
  have B1 := (oneB_bd (bad := false) hB).2
  subst ea
  obtain ⟨_, B2⟩ := numB_bd (m := 1000000007) (bad := (oneB false b).2.1) B1
  generalize numB 1000000007 _ _ = a at *
  subst el
  obtain ⟨l1, l2, B3⟩ := idsB_bd (bad := a.2.1) B2
  generalize idsB _ _ = l at *
  subst et
  obtain ⟨t1, B4⟩ := numB_bd (m := 1000000000000) (bad := l.2.2.1) B3
  generalize numB 1000000000000 _ _ = t at *
  subst ek
  obtain ⟨k1, B5⟩ := oneB_bd (bad := t.2.1) B4
  generalize oneB t.2.1 _ = k at *
  subst ex
  obtain ⟨⟨x1, x2, x3, x4, x5⟩, B6⟩ := actB_bd (k := k.1) (bad := k.2.1) B5
  generalize actB _ _ _ = x at *
  exact ⟨⟨by show 0 ≤ a.1 % 4294967296 ∧ a.1 % 4294967296 < 4294967296; omega, t1, k1, x1, x2, x3, by show 0 ≤ e.1 % 4294967296 ∧ e.1 % 4294967296 < 4294967296; omega, by show 0 ≤ s.1 % 4294967296 ∧ s.1 % 4294967296 < 4294967296; omega, by show l.1 ≤ 20; omega, by show x.1.key.size ≤ 100; omega, by show x.1.t.size ≤ 100; omega⟩, l2⟩
end Go.Proofs.YtiohpiiiapjblaaGreatDoor.S
namespace Go.Proofs.YtiohpiiiapjblaaGreatDoor.W
open Go.RowKit Go.Proofs.YtiohpiiiapjblaaGreatDoor.G
set_option linter.unusedVariables false
set_option maxRecDepth 20000
set_option maxHeartbeats 8000000
attribute [local irreducible] RS RX
theorem C4 : Tryz.prog.cellsOf 4 = 1 := by kernel_rfl
theorem E43 : Enters Tryz.prog 43 := .mk Tryz.func43 (by kernel_rfl) rfl
theorem E44 : Enters Tryz.prog 44 := .mk Tryz.func44 (by kernel_rfl) rfl
theorem E77 : Enters Tryz.prog 77 := .mk Tryz.func77 (by kernel_rfl) rfl
theorem decodeV {S0 : Nat → Prop} (a : Option Addr) (n c : Nat) (bs : List Int) (w : World) (R0 : IRow .u8 S0 w a n bs) (hc : n ≤ c) (hn : n ≤ 1000000) :
  Calls Tryz.prog 45 #[.slice a n c] w (Ret w fun v _ => v = .tuple #[.agg ([.int .u8 (S.vdS bs).k, .int .i64 (S.vdS bs).num, .int .u64 (S.vdS bs).bits, .string (S.vdS bs).t] : List Value).toArray, .int .i64 (S.vdS bs).u, .int .i64 (S.vdS bs).e]) := by
 replace R0 := R0.weaken (T := fun k => k < w.heap.size) (fun k hk _ => hk)
 have hbl := R0.len
 have hbd := R0.bd
 have hE := Ext.refl w
 refine enterU 75 Tryz.func45 rfl rfl ?_
 refine sq fun K1 hK1 => ?_
 refine RS.alloc T27 (fun b2 w2 e2 s2 x2 B2 => ?_)
 refine RS.nm ?_
 replace hE := Ext.tr hE x2
 replace R0 := R0.ext x2
 have zw2 := x2.size
 refine RS.asI rfl ?_
 refine RS.asI rfl ?_
 refine nl hK1 ?_
 refine wp_seq_k (fun K3 hK3 => ?_)
 refine sq fun K4 hK4 => ?_
 refine RS.mvS rfl ?_
 refine RS.o (D.len rfl Tryz.underlying22) ?_
 refine RS.o (D.eq rfl rfl) ?_
 refine nl hK4 ?_
 refine C.ife rfl (fun c5 => ?_) (fun c5 => ?_)
 ·obtain rfl : bs = [] := List.eq_nil_of_length_eq_zero (by omega)
  refine sq fun K6 hK6 => ?_
  refine RS.o (D.buildS T27 F27 (ps := []) rfl rfl) ?_
  refine RS.storeAggB rfl rfl C27 (by decide) rfl rfl B2 rfl (fun w7 y7 N7 => ?_)
  replace hE := hE.trans (y7.belo)
  replace R0 := R0.sto y7
  have zw7 := y7.size
  replace B2 := N7
  refine RS.asI rfl ?_
  refine RS.asI rfl ?_
  refine nl hK6 ?_
  refine wp_ret ?_
  refine ret (rs := [.cell 2 27, .tmp 3, .tmp 4]) (vs := [.agg _, .int _ _, .int _ _]) (v := (.tuple #[.agg _, .int _ _, .int _ _])) rfl ⟨⟨_, rfl, loadVar_agg Tryz.underlying27 rfl C27 (by decide) rfl (B2.cellsN 4 rfl)⟩, rfl, rfl, trivial⟩ rfl ?_
  rw [S.vd_nil]
  exact ⟨_, rfl, hE, rfl⟩
 obtain ⟨x, r, rfl⟩ : ∃ x r, bs = x :: r := by
  cases bs with
  | nil => simp at hbl; omega
  | cons x r => exact ⟨x, r, rfl⟩
 rw [List.length_cons] at hbl
 have hx := hbd x List.mem_cons_self
 simp only [lim] at hx
 have hrb : Bd .u8 r := fun y hy => hbd y (List.mem_cons_of_mem _ hy)
 have QR : IRow .u8 (fun k => k < w.heap.size) w2 (subA a 1 1 c) (n - 1) r := R0.rest 1 c (by omega) (by omega)
 have hrd := S.rd_bd hrb
 have hsg := S.sg_bd hrb
 have hpu := S.ptU_le (most := 30) (wd := 1) hrb (by decide)
 refine wp_skip ?_
 refine hK3 _ _ ?_
 refine sq fun K8 hK8 => ?_
 refine RS.mvS rfl ?_
 refine RS.idx R0 rfl rfl Tryz.underlying22 C5 (by omega) (fun b9 o9 v9 h9 q9 r9 => ?_)
 refine RS.nm ?_
 simp only [lim] at r9
 replace q9 : x = v9 := Eq.symm q9
 subst q9
 refine RS.o (D.load rfl Tryz.underlying5 rfl (h9)) ?_
 refine RS.o (D.buildS T27 F27 (ps := [(0, .int _ _)]) rfl rfl) ?_
 refine RS.alloc T27 (fun b10 w10 e10 s10 x10 B10 => ?_)
 refine RS.nm ?_
 replace hE := Ext.tr hE x10
 replace R0 := R0.ext x10
 replace B2 := B2.ext x10
 replace QR := QR.ext x10
 have zw10 := x10.size
 refine RS.storeAggB rfl rfl C27 (by decide) rfl rfl B10 rfl (fun w11 y11 N11 => ?_)
 replace hE := hE.trans (y11.belo)
 replace R0 := R0.sto y11
 replace B2 := B2.sto y11
 replace QR := QR.sto y11
 have zw11 := y11.size
 replace B10 := N11
 refine RS.asI rfl ?_
 refine RS.asI rfl ?_
 refine nl hK8 ?_
 refine wp_seq_k (fun K12 hK12 => ?_)
 refine sq fun K13 hK13 => ?_
 refine RS.mvS rfl ?_
 refine RS.o (D.slice (kl := .i64) (kh := .i64) rfl Tryz.underlying22 C5 (by decide) rfl rfl (by omega) (by omega)) ?_
 refine RS.asS rfl ?_
 refine nl hK13 ?_
 refine sq fun K14 hK14 => ?_
 refine RS.o (D.fieldL 0 rfl Tryz.underlying27 rfl C5 (by decide) rfl) ?_
 refine RS.o (D.load rfl Tryz.underlying5 rfl (B10.cell rfl)) ?_
 refine nl hK14 ?_
 refine wp_block ?_
 refine sq fun K15 hK15 => ?_
 refine RS.o (D.eq rfl rfl) ?_
 refine RS.asB rfl ?_
 refine nl hK15 ?_
 refine C.ife rfl (fun c16 => ?_) (fun c16 => ?_)
 ·have hk := c16
  refine region ?_
  refine RS.mvS rfl ?_
  refine RS.call E77 (readSg _ _ _ _ _ QR (by omega) (by omega)) rfl (fun v17 w17 x17 A17 => ?_)
  replace hE := Ext.tr hE x17
  replace R0 := R0.ext x17
  replace B2 := B2.ext x17
  replace QR := QR.ext x17
  replace B10 := B10.ext x17
  have zw17 := x17.size
  subst A17
  refine RS.nm ?_
  refine RS.move (v := .tuple _) rfl ?_
  refine RS.extract (v := .int _ _) rfl rfl ?_
  refine RS.extract (v := .int _ _) rfl rfl ?_
  refine RS.extract (v := .int _ _) rfl rfl ?_
  refine RS.o (D.fieldL 1 rfl Tryz.underlying27 rfl C2 (by decide) rfl) ?_
  refine RS.store rfl (v := .int _ _) rfl C2 rfl B10 rfl (fun w18 y18 N18 => ?_)
  replace hE := hE.trans (y18.belo)
  replace R0 := R0.sto y18
  replace B2 := B2.sto y18
  replace QR := QR.sto y18
  have zw18 := y18.size
  replace B10 := N18
  refine RS.asI rfl ?_
  refine RS.asI rfl ?_
  refine nl hK12 ?_
  refine wp_seq_k (fun K19 hK19 => ?_)
  refine sq fun K20 hK20 => ?_
  refine RS.mvI rfl ?_
  refine RS.o (D.ne rfl rfl) ?_
  refine RS.mvB rfl ?_
  refine RS.splitn 67 rfl rfl (fun c21 => ?_) (fun c21 => ?_)
  ·refine RS.nm ?_
   have hbad := c21
   refine RS.skT 67 ?_
   refine RS.skT 67 ?_
   refine RS.skT 67 ?_
   refine RS.pick (v := .bool true) rfl rfl ?_
   refine nl hK20 ?_
   refine C.ift rfl ?_
   refine sq fun K22 hK22 => ?_
   refine RS.o (D.buildS T27 F27 (ps := []) rfl rfl) ?_
   refine RS.storeAggB rfl rfl C27 (by decide) rfl rfl B2 rfl (fun w23 y23 N23 => ?_)
   replace hE := hE.trans (y23.belo)
   replace R0 := R0.sto y23
   replace QR := QR.sto y23
   replace B10 := B10.sto y23
   have zw23 := y23.size
   replace B2 := N23
   refine RS.asI rfl ?_
   refine RS.asI rfl ?_
   refine nl hK22 ?_
   refine wp_ret ?_
   refine ret (rs := [.cell 2 27, .tmp 3, .tmp 4]) (vs := [.agg _, .int _ _, .int _ _]) (v := (.tuple #[.agg _, .int _ _, .int _ _])) rfl ⟨⟨_, rfl, loadVar_agg Tryz.underlying27 rfl C27 (by decide) rfl (B2.cellsN 4 rfl)⟩, rfl, rfl, trivial⟩ rfl ?_
   first | exact absurd rfl hbad | (rw [S.vd_fail (S.valR_oneN hk hbad)]; exact ⟨_, rfl, hE, rfl⟩) | (rw [S.vd_fail (S.valR_threeN hk hbad)]; exact ⟨_, rfl, hE, rfl⟩)
  refine RS.nm ?_
  first | have hv := S.valR_one hk c21 | have hv := S.valR_two hk hlt hacc | have hv := S.valR_three hk c21 | have hv := S.valR_else (r := r) hk1 hk2 hk3
  refine RS.wt 67 ?_
  refine RS.o (D.loadAgg rfl Tryz.underlying27 rfl C27 (by decide) rfl (B10.cellsN 4 rfl)) ?_
  refine RS.wt 67 ?_
  refine RS.call E78 (checkV _ _ _ _ (by omega) (by omega) (by omega) _) rfl (fun v24 w24 x24 A24 => ?_)
  replace hE := Ext.tr hE x24
  replace R0 := R0.ext x24
  replace B2 := B2.ext x24
  replace QR := QR.ext x24
  replace B10 := B10.ext x24
  have zw24 := x24.size
  subst A24
  refine RS.nm ?_
  refine RS.wt 67 ?_
  refine RS.o (D.ne rfl rfl) ?_
  refine RS.pick (v := .bool _) rfl rfl ?_
  refine nl hK20 ?_
  refine C.ifn rfl (fun c25 => ?_) (fun c25 => ?_)
  ·have hz := c25
   refine sq fun K26 hK26 => ?_
   refine RS.o (D.buildS T27 F27 (ps := []) rfl rfl) ?_
   refine RS.storeAggB rfl rfl C27 (by decide) rfl rfl B2 rfl (fun w27 y27 N27 => ?_)
   replace hE := hE.trans (y27.belo)
   replace R0 := R0.sto y27
   replace QR := QR.sto y27
   replace B10 := B10.sto y27
   have zw27 := y27.size
   replace B2 := N27
   refine RS.asI rfl ?_
   refine RS.asI rfl ?_
   refine nl hK26 ?_
   refine wp_ret ?_
   refine ret (rs := [.cell 2 27, .tmp 3, .tmp 4]) (vs := [.agg _, .int _ _, .int _ _]) (v := (.tuple #[.agg _, .int _ _, .int _ _])) rfl ⟨⟨_, rfl, loadVar_agg Tryz.underlying27 rfl C27 (by decide) rfl (B2.cellsN 4 rfl)⟩, rfl, rfl, trivial⟩ rfl ?_
   rw [S.vd_bad hv hz]
   exact ⟨_, rfl, hE, rfl⟩
  have hz := c25
  refine wp_skip ?_
  refine hK19 _ _ ?_
  refine sq fun K28 hK28 => ?_
  refine RS.o (D.loadAgg rfl Tryz.underlying27 rfl C27 (by decide) rfl (B10.cellsN 4 rfl)) ?_
  refine RS.mvI rfl ?_
  refine RS.o (D.add rfl rfl (W.i64 (by omega))) ?_
  refine RS.storeAggB rfl rfl C27 (by decide) rfl rfl B2 rfl (fun w29 y29 N29 => ?_)
  replace hE := hE.trans (y29.belo)
  replace R0 := R0.sto y29
  replace QR := QR.sto y29
  replace B10 := B10.sto y29
  have zw29 := y29.size
  replace B2 := N29
  refine RS.asI rfl ?_
  refine RS.asI rfl ?_
  refine nl hK28 ?_
  refine wp_ret ?_
  refine ret (rs := [.cell 2 27, .tmp 3, .tmp 4]) (vs := [.agg _, .int _ _, .int _ _]) (v := (.tuple #[.agg _, .int _ _, .int _ _])) rfl ⟨⟨_, rfl, loadVar_agg Tryz.underlying27 rfl C27 (by decide) rfl (B2.cellsN 4 rfl)⟩, rfl, rfl, trivial⟩ rfl ?_
  rw [S.vd_good hv hz]
  exact ⟨_, rfl, hE, rfl⟩
 have hk1 := c16
 refine sq fun K30 hK30 => ?_
 refine RS.o (D.eq rfl rfl) ?_
 refine RS.asB rfl ?_
 refine nl hK30 ?_
 refine C.ife rfl (fun c31 => ?_) (fun c31 => ?_)
 ·have hk := c31
  refine wp_seq_k (fun K32 hK32 => ?_)
  refine sq fun K33 hK33 => ?_
  refine RS.mvS rfl ?_
  refine RS.o (D.len rfl Tryz.underlying22) ?_
  refine RS.o (D.lt rfl rfl) ?_
  refine nl hK33 ?_
  refine C.ifd rfl (fun c34 => ?_) (fun c34 => ?_)
  ·refine wp_seq_k (fun K35 hK35 => ?_)
   refine region ?_
   refine RS.o (D.buildS T27 F27 (ps := []) rfl rfl) ?_
   refine RS.storeAggB rfl rfl C27 (by decide) rfl rfl B2 rfl (fun w36 y36 N36 => ?_)
   replace hE := hE.trans (y36.belo)
   replace R0 := R0.sto y36
   replace QR := QR.sto y36
   replace B10 := B10.sto y36
   have zw36 := y36.size
   replace B2 := N36
   refine RS.asI rfl ?_
   refine RS.asI rfl ?_
   refine nl hK35 ?_
   refine wp_ret ?_
   refine ret (rs := [.cell 2 27, .tmp 3, .tmp 4]) (vs := [.agg _, .int _ _, .int _ _]) (v := (.tuple #[.agg _, .int _ _, .int _ _])) rfl ⟨⟨_, rfl, loadVar_agg Tryz.underlying27 rfl C27 (by decide) rfl (B2.cellsN 4 rfl)⟩, rfl, rfl, trivial⟩ rfl ?_
   rw [S.vd_fail (S.valR_twoN hk (by omega))]
   exact ⟨_, rfl, hE, rfl⟩
  have hlt : ¬ r.length < 8 := by omega
  refine wp_skip ?_
  refine hK32 _ _ ?_
  refine wp_seq_k (fun K37 hK37 => ?_)
  refine wp_seq_k (fun K38 hK38 => ?_)
  have QS := QR.sub 0 8 (c - 1) (by omega) (by omega) (by omega)
  have hQb := QS.bd
  have hQl := QS.len
  rw [List.drop_zero] at hQb hQl
  have hq8 : (r.take 8).length = 8 := by rw [List.length_take]; omega
  refine region ?_
  refine RS.mvS rfl ?_
  refine RS.o (D.slice (kl := .i64) (kh := .i64) rfl Tryz.underlying22 C5 (by decide) rfl rfl (by omega) (by omega)) ?_
  refine RS.o (D.len rfl Tryz.underlying22) ?_
  refine RS.mvI rfl ?_
  refine nl hK38 ?_
  refine wp_block ?_
  refine C.loop (A := Int × Int) (fun p => [(42, .int .i64 p.1)]) [10, 43, 44, 45, 46, 47, 48, 49, 50, 51, 52, 53] (fun p w' => Pr (fun k => k = b10) w11 w' ∧ (Blk w' b10 [.int .u8 x, .int .i64 0, .int .u64 p.2, .string .empty] 27 ∧ (0 ≤ p.1 ∧ p.1 ≤ 8) ∧ p.2 = S.be ((r.take 8).take p.1.toNat))) (fun p => (8 - p.1.toNat)) (0, 0) (by kernel_rfl) ?_ ?_
  ·exact ⟨Pr.refl _ _, B10, ⟨by dsimp only; omega, by dsimp only; omega⟩, rfl⟩
  rintro p j w39 ⟨x39, hI⟩
  replace hE := hE.trans (x39.belo)
  replace R0 := R0.pro x39
  replace B2 := B2.pro x39
  replace QR := QR.pro x39
  replace QS := QS.pro x39
  have zw39 := x39.size
  obtain ⟨i, acc⟩ := p
  dsimp only at hI
  obtain ⟨B10, g1, g2⟩ := hI
  have g3 := S.be8_lt (r.take 8) i.toNat hQb (by omega)
  rw [← g2] at g3
  refine C.norm (by simp only [upd, junk, List.map_cons, List.map_nil, List.set_cons_succ, List.set_cons_zero]; exact rfl) ?_
  refine sq fun K40 hK40 => ?_
  refine RS.o (D.lt rfl rfl) ?_
  refine nl hK40 ?_
  refine wp_seq_k (fun K41 hK41 => ?_)
  refine C.ifd rfl (fun c42 => ?_) (fun c42 => ?_)
  ·refine wp_skip ?_
   refine hK41 _ _ ?_
   refine wp_seq_k (fun K43 hK43 => ?_)
   refine wp_block ?_
   refine sq fun K44 hK44 => ?_
   refine RS.idx QS rfl rfl Tryz.underlying22 C5 (by omega) (fun b45 o45 v45 h45 q45 r45 => ?_)
   refine RS.nm ?_
   simp only [lim] at r45
   have q6 := q45
   rw [List.drop_zero] at q6
   refine RS.o (D.load rfl Tryz.underlying5 rfl (h45)) ?_
   refine RS.asI rfl ?_
   refine nl hK44 ?_
   refine region ?_
   refine RS.o (D.fieldL 2 rfl Tryz.underlying27 rfl C25 (by decide) rfl) ?_
   refine RS.o (D.load rfl Tryz.underlying25 rfl (B10.cell rfl)) ?_
   refine RS.o (D.shl rfl rfl (by constructor <;> (try simp only [IntKind.bits]) <;> omega) (by first | exact W.u64 (by omega) | exact W.u64m _)) ?_
   refine RS.mvI rfl ?_
   refine RS.o (D.conv rfl Tryz.underlying5 Tryz.underlying25 (by first | exact W.u64 (by omega) | exact W.u64m _)) ?_
   refine RS.ob (D.bor_u64 rfl rfl (by omega) (by omega)) (fun z46 => ?_)
   refine RS.o (D.fieldL 2 rfl Tryz.underlying27 rfl C25 (by decide) rfl) ?_
   refine RS.store rfl (v := .int _ _) rfl C25 rfl B10 rfl (fun w47 y47 N47 => ?_)
   replace hE := hE.trans (y47.belo)
   replace x39 := x39.stno y47
   replace R0 := R0.sto y47
   replace B2 := B2.sto y47
   replace QR := QR.sto y47
   replace QS := QS.sto y47
   have zw47 := y47.size
   replace B10 := N47
   refine nl hK43 ?_
   refine region ?_
   refine RS.o (D.add rfl rfl (W.i64 (by omega))) ?_
   refine RS.mvI rfl ?_
   refine RS.nil ?_
   change Nx _ _ _ _ _ _ _ _
   refine C.next (i + 1, S.be ((r.take 8).take (i + 1).toNat)) ⟨rfl, trivial⟩ (by kernel_rfl) ?_ ?_
   ·have hnx := S.be_next (r.take 8) i.toNat hQb (by omega) (by omega)
    rw [← g2, ← q6, show i.toNat + 1 = (i + 1).toNat by omega] at hnx
    refine ⟨x39, ?_, ⟨by dsimp only; omega, by dsimp only; omega⟩, rfl⟩
    dsimp only
    rw [← hnx]
    exact B10
   dsimp only; omega
  refine wp_exit ?_
  refine hK37 _ _ ?_
  have hacc : acc = S.be (r.take 8) := by rw [g2, show i.toNat = 8 by omega, List.take_take]; rfl
  refine region ?_
  refine RS.asI rfl ?_
  refine nl hK12 ?_
  refine wp_seq_k (fun K48 hK48 => ?_)
  refine sq fun K49 hK49 => ?_
  refine RS.mvI rfl ?_
  refine RS.o (D.ne rfl rfl) ?_
  refine RS.mvB rfl ?_
  refine RS.splitn 67 rfl rfl (fun c50 => ?_) (fun c50 => ?_)
  ·refine RS.nm ?_
   have hbad := c50
   refine RS.skT 67 ?_
   refine RS.skT 67 ?_
   refine RS.skT 67 ?_
   refine RS.pick (v := .bool true) rfl rfl ?_
   refine nl hK49 ?_
   refine C.ift rfl ?_
   refine sq fun K51 hK51 => ?_
   refine RS.o (D.buildS T27 F27 (ps := []) rfl rfl) ?_
   refine RS.storeAggB rfl rfl C27 (by decide) rfl rfl B2 rfl (fun w52 y52 N52 => ?_)
   replace hE := hE.trans (y52.belo)
   replace R0 := R0.sto y52
   replace QR := QR.sto y52
   replace B10 := B10.sto y52
   replace QS := QS.sto y52
   have zw52 := y52.size
   replace B2 := N52
   refine RS.asI rfl ?_
   refine RS.asI rfl ?_
   refine nl hK51 ?_
   refine wp_ret ?_
   refine ret (rs := [.cell 2 27, .tmp 3, .tmp 4]) (vs := [.agg _, .int _ _, .int _ _]) (v := (.tuple #[.agg _, .int _ _, .int _ _])) rfl ⟨⟨_, rfl, loadVar_agg Tryz.underlying27 rfl C27 (by decide) rfl (B2.cellsN 4 rfl)⟩, rfl, rfl, trivial⟩ rfl ?_
   first | exact absurd rfl hbad | (rw [S.vd_fail (S.valR_oneN hk hbad)]; exact ⟨_, rfl, hE, rfl⟩) | (rw [S.vd_fail (S.valR_threeN hk hbad)]; exact ⟨_, rfl, hE, rfl⟩)
  refine RS.nm ?_
  first | have hv := S.valR_one hk c50 | have hv := S.valR_two hk hlt hacc | have hv := S.valR_three hk c50 | have hv := S.valR_else (r := r) hk1 hk2 hk3
  refine RS.wt 67 ?_
  refine RS.o (D.loadAgg rfl Tryz.underlying27 rfl C27 (by decide) rfl (B10.cellsN 4 rfl)) ?_
  refine RS.wt 67 ?_
  refine RS.call E78 (checkV _ _ _ _ (by omega) (by omega) (by omega) _) rfl (fun v53 w53 x53 A53 => ?_)
  replace hE := Ext.tr hE x53
  replace R0 := R0.ext x53
  replace B2 := B2.ext x53
  replace QR := QR.ext x53
  replace B10 := B10.ext x53
  replace QS := QS.ext x53
  have zw53 := x53.size
  subst A53
  refine RS.nm ?_
  refine RS.wt 67 ?_
  refine RS.o (D.ne rfl rfl) ?_
  refine RS.pick (v := .bool _) rfl rfl ?_
  refine nl hK49 ?_
  refine C.ifn rfl (fun c54 => ?_) (fun c54 => ?_)
  ·have hz := c54
   refine sq fun K55 hK55 => ?_
   refine RS.o (D.buildS T27 F27 (ps := []) rfl rfl) ?_
   refine RS.storeAggB rfl rfl C27 (by decide) rfl rfl B2 rfl (fun w56 y56 N56 => ?_)
   replace hE := hE.trans (y56.belo)
   replace R0 := R0.sto y56
   replace QR := QR.sto y56
   replace B10 := B10.sto y56
   replace QS := QS.sto y56
   have zw56 := y56.size
   replace B2 := N56
   refine RS.asI rfl ?_
   refine RS.asI rfl ?_
   refine nl hK55 ?_
   refine wp_ret ?_
   refine ret (rs := [.cell 2 27, .tmp 3, .tmp 4]) (vs := [.agg _, .int _ _, .int _ _]) (v := (.tuple #[.agg _, .int _ _, .int _ _])) rfl ⟨⟨_, rfl, loadVar_agg Tryz.underlying27 rfl C27 (by decide) rfl (B2.cellsN 4 rfl)⟩, rfl, rfl, trivial⟩ rfl ?_
   rw [S.vd_bad hv hz]
   exact ⟨_, rfl, hE, rfl⟩
  have hz := c54
  refine wp_skip ?_
  refine hK48 _ _ ?_
  refine sq fun K57 hK57 => ?_
  refine RS.o (D.loadAgg rfl Tryz.underlying27 rfl C27 (by decide) rfl (B10.cellsN 4 rfl)) ?_
  refine RS.mvI rfl ?_
  refine RS.o (D.add rfl rfl (W.i64 (by omega))) ?_
  refine RS.storeAggB rfl rfl C27 (by decide) rfl rfl B2 rfl (fun w58 y58 N58 => ?_)
  replace hE := hE.trans (y58.belo)
  replace R0 := R0.sto y58
  replace QR := QR.sto y58
  replace B10 := B10.sto y58
  replace QS := QS.sto y58
  have zw58 := y58.size
  replace B2 := N58
  refine RS.asI rfl ?_
  refine RS.asI rfl ?_
  refine nl hK57 ?_
  refine wp_ret ?_
  refine ret (rs := [.cell 2 27, .tmp 3, .tmp 4]) (vs := [.agg _, .int _ _, .int _ _]) (v := (.tuple #[.agg _, .int _ _, .int _ _])) rfl ⟨⟨_, rfl, loadVar_agg Tryz.underlying27 rfl C27 (by decide) rfl (B2.cellsN 4 rfl)⟩, rfl, rfl, trivial⟩ rfl ?_
  rw [S.vd_good hv hz]
  exact ⟨_, rfl, hE, rfl⟩
 have hk2 := c31
 refine sq fun K59 hK59 => ?_
 refine RS.o (D.eq rfl rfl) ?_
 refine RS.asB rfl ?_
 refine nl hK59 ?_
 refine C.ife rfl (fun c60 => ?_) (fun c60 => ?_)
 ·have hk := c60
  refine sq fun K61 hK61 => ?_
  refine RS.asS rfl ?_
  refine nl hK61 ?_
  refine sq fun K62 hK62 => ?_
  refine RS.mvS rfl ?_
  refine RS.call E44 (readB _ _ _ _ 30 (by decide) _ QR (by omega) (by omega)) rfl (fun v63 w63 x63 A63 => ?_)
  replace hE := Ext.tr hE x63
  replace R0 := R0.ext x63
  replace B2 := B2.ext x63
  replace QR := QR.ext x63
  replace B10 := B10.ext x63
  have zw63 := x63.size
  obtain ⟨aC, nC, cC, rfl, OC⟩ := A63
  have hOC := OC.lo
  refine RS.nm ?_
  refine RS.move (v := .tuple _) rfl ?_
  refine RS.extract (v := .slice _ _ _) rfl rfl ?_
  refine RS.extract (v := .int _ _) rfl rfl ?_
  refine RS.extract (v := .int _ _) rfl rfl ?_
  refine RS.asS rfl ?_
  refine RS.asI rfl ?_
  refine RS.asI rfl ?_
  refine nl hK62 ?_
  refine region ?_
  refine RS.mvS rfl ?_
  refine RS.o (D.convBS OC.row rfl Tryz.underlying22 Tryz.underlying5 Tryz.underlying9) ?_
  refine RS.o (D.fieldL 3 rfl Tryz.underlying27 rfl C9 (by decide) rfl) ?_
  refine RS.store rfl  rfl C9 rfl B10 rfl (fun w64 y64 N64 => ?_)
  replace hE := hE.trans (y64.belo)
  replace R0 := R0.sto y64
  replace B2 := B2.sto y64
  replace QR := QR.sto y64
  replace OC := OC.st y64 (by intros; try (first | (intro _ _) | (intro _) | skip); first | omega | (have hq := hOC _ (by assumption); first | omega | (dsimp only at *; omega)))
  have zw64 := y64.size
  replace B10 := N64
  refine nl hK12 ?_
  refine wp_seq_k (fun K65 hK65 => ?_)
  refine sq fun K66 hK66 => ?_
  refine RS.mvI rfl ?_
  refine RS.o (D.ne rfl rfl) ?_
  refine RS.mvB rfl ?_
  refine RS.splitn 67 rfl rfl (fun c67 => ?_) (fun c67 => ?_)
  ·refine RS.nm ?_
   have hbad := c67
   refine RS.skT 67 ?_
   refine RS.skT 67 ?_
   refine RS.skT 67 ?_
   refine RS.pick (v := .bool true) rfl rfl ?_
   refine nl hK66 ?_
   refine C.ift rfl ?_
   refine sq fun K68 hK68 => ?_
   refine RS.o (D.buildS T27 F27 (ps := []) rfl rfl) ?_
   refine RS.storeAggB rfl rfl C27 (by decide) rfl rfl B2 rfl (fun w69 y69 N69 => ?_)
   replace hE := hE.trans (y69.belo)
   replace R0 := R0.sto y69
   replace QR := QR.sto y69
   replace B10 := B10.sto y69
   replace OC := OC.st y69 (by intros; try (first | (intro _ _) | (intro _) | skip); first | omega | (have hq := hOC _ (by assumption); first | omega | (dsimp only at *; omega)))
   have zw69 := y69.size
   replace B2 := N69
   refine RS.asI rfl ?_
   refine RS.asI rfl ?_
   refine nl hK68 ?_
   refine wp_ret ?_
   refine ret (rs := [.cell 2 27, .tmp 3, .tmp 4]) (vs := [.agg _, .int _ _, .int _ _]) (v := (.tuple #[.agg _, .int _ _, .int _ _])) rfl ⟨⟨_, rfl, loadVar_agg Tryz.underlying27 rfl C27 (by decide) rfl (B2.cellsN 4 rfl)⟩, rfl, rfl, trivial⟩ rfl ?_
   first | exact absurd rfl hbad | (rw [S.vd_fail (S.valR_oneN hk hbad)]; exact ⟨_, rfl, hE, rfl⟩) | (rw [S.vd_fail (S.valR_threeN hk hbad)]; exact ⟨_, rfl, hE, rfl⟩)
  refine RS.nm ?_
  first | have hv := S.valR_one hk c67 | have hv := S.valR_two hk hlt hacc | have hv := S.valR_three hk c67 | have hv := S.valR_else (r := r) hk1 hk2 hk3
  refine RS.wt 67 ?_
  refine RS.o (D.loadAgg rfl Tryz.underlying27 rfl C27 (by decide) rfl (B10.cellsN 4 rfl)) ?_
  refine RS.wt 67 ?_
  refine RS.call E78 (checkV _ _ _ _ (by omega) (by omega) (by omega) _) rfl (fun v70 w70 x70 A70 => ?_)
  replace hE := Ext.tr hE x70
  replace R0 := R0.ext x70
  replace B2 := B2.ext x70
  replace QR := QR.ext x70
  replace B10 := B10.ext x70
  replace OC := OC.ext x70
  have zw70 := x70.size
  subst A70
  refine RS.nm ?_
  refine RS.wt 67 ?_
  refine RS.o (D.ne rfl rfl) ?_
  refine RS.pick (v := .bool _) rfl rfl ?_
  refine nl hK66 ?_
  refine C.ifn rfl (fun c71 => ?_) (fun c71 => ?_)
  ·have hz := c71
   refine sq fun K72 hK72 => ?_
   refine RS.o (D.buildS T27 F27 (ps := []) rfl rfl) ?_
   refine RS.storeAggB rfl rfl C27 (by decide) rfl rfl B2 rfl (fun w73 y73 N73 => ?_)
   replace hE := hE.trans (y73.belo)
   replace R0 := R0.sto y73
   replace QR := QR.sto y73
   replace B10 := B10.sto y73
   replace OC := OC.st y73 (by intros; try (first | (intro _ _) | (intro _) | skip); first | omega | (have hq := hOC _ (by assumption); first | omega | (dsimp only at *; omega)))
   have zw73 := y73.size
   replace B2 := N73
   refine RS.asI rfl ?_
   refine RS.asI rfl ?_
   refine nl hK72 ?_
   refine wp_ret ?_
   refine ret (rs := [.cell 2 27, .tmp 3, .tmp 4]) (vs := [.agg _, .int _ _, .int _ _]) (v := (.tuple #[.agg _, .int _ _, .int _ _])) rfl ⟨⟨_, rfl, loadVar_agg Tryz.underlying27 rfl C27 (by decide) rfl (B2.cellsN 4 rfl)⟩, rfl, rfl, trivial⟩ rfl ?_
   rw [S.vd_bad hv hz]
   exact ⟨_, rfl, hE, rfl⟩
  have hz := c71
  refine wp_skip ?_
  refine hK65 _ _ ?_
  refine sq fun K74 hK74 => ?_
  refine RS.o (D.loadAgg rfl Tryz.underlying27 rfl C27 (by decide) rfl (B10.cellsN 4 rfl)) ?_
  refine RS.mvI rfl ?_
  refine RS.o (D.add rfl rfl (W.i64 (by omega))) ?_
  refine RS.storeAggB rfl rfl C27 (by decide) rfl rfl B2 rfl (fun w75 y75 N75 => ?_)
  replace hE := hE.trans (y75.belo)
  replace R0 := R0.sto y75
  replace QR := QR.sto y75
  replace B10 := B10.sto y75
  replace OC := OC.st y75 (by intros; try (first | (intro _ _) | (intro _) | skip); first | omega | (have hq := hOC _ (by assumption); first | omega | (dsimp only at *; omega)))
  have zw75 := y75.size
  replace B2 := N75
  refine RS.asI rfl ?_
  refine RS.asI rfl ?_
  refine nl hK74 ?_
  refine wp_ret ?_
  refine ret (rs := [.cell 2 27, .tmp 3, .tmp 4]) (vs := [.agg _, .int _ _, .int _ _]) (v := (.tuple #[.agg _, .int _ _, .int _ _])) rfl ⟨⟨_, rfl, loadVar_agg Tryz.underlying27 rfl C27 (by decide) rfl (B2.cellsN 4 rfl)⟩, rfl, rfl, trivial⟩ rfl ?_
  rw [S.vd_good hv hz]
  exact ⟨_, rfl, hE, rfl⟩
 have hk3 := c60
 refine wp_skip ?_
 refine hK12 _ _ ?_
 refine wp_seq_k (fun K76 hK76 => ?_)
 refine sq fun K77 hK77 => ?_
 refine RS.mvI rfl ?_
 refine RS.o (D.ne rfl rfl) ?_
 refine RS.mvB rfl ?_
 refine RS.splitn 67 rfl rfl (fun c78 => ?_) (fun c78 => ?_)
 ·refine RS.nm ?_
  have hbad := c78
  refine RS.skT 67 ?_
  refine RS.skT 67 ?_
  refine RS.skT 67 ?_
  refine RS.pick (v := .bool true) rfl rfl ?_
  refine nl hK77 ?_
  refine C.ift rfl ?_
  refine sq fun K79 hK79 => ?_
  refine RS.o (D.buildS T27 F27 (ps := []) rfl rfl) ?_
  refine RS.storeAggB rfl rfl C27 (by decide) rfl rfl B2 rfl (fun w80 y80 N80 => ?_)
  replace hE := hE.trans (y80.belo)
  replace R0 := R0.sto y80
  replace QR := QR.sto y80
  replace B10 := B10.sto y80
  have zw80 := y80.size
  replace B2 := N80
  refine RS.asI rfl ?_
  refine RS.asI rfl ?_
  refine nl hK79 ?_
  refine wp_ret ?_
  refine ret (rs := [.cell 2 27, .tmp 3, .tmp 4]) (vs := [.agg _, .int _ _, .int _ _]) (v := (.tuple #[.agg _, .int _ _, .int _ _])) rfl ⟨⟨_, rfl, loadVar_agg Tryz.underlying27 rfl C27 (by decide) rfl (B2.cellsN 4 rfl)⟩, rfl, rfl, trivial⟩ rfl ?_
  first | exact absurd rfl hbad | (rw [S.vd_fail (S.valR_oneN hk hbad)]; exact ⟨_, rfl, hE, rfl⟩) | (rw [S.vd_fail (S.valR_threeN hk hbad)]; exact ⟨_, rfl, hE, rfl⟩)
 refine RS.nm ?_
 first | have hv := S.valR_one hk c78 | have hv := S.valR_two hk hlt hacc | have hv := S.valR_three hk c78 | have hv := S.valR_else (r := r) hk1 hk2 hk3
 refine RS.wt 67 ?_
 refine RS.o (D.loadAgg rfl Tryz.underlying27 rfl C27 (by decide) rfl (B10.cellsN 4 rfl)) ?_
 refine RS.wt 67 ?_
 refine RS.call E78 (checkV _ _ _ _ (by omega) (by omega) (by omega) _) rfl (fun v81 w81 x81 A81 => ?_)
 replace hE := Ext.tr hE x81
 replace R0 := R0.ext x81
 replace B2 := B2.ext x81
 replace QR := QR.ext x81
 replace B10 := B10.ext x81
 have zw81 := x81.size
 subst A81
 refine RS.nm ?_
 refine RS.wt 67 ?_
 refine RS.o (D.ne rfl rfl) ?_
 refine RS.pick (v := .bool _) rfl rfl ?_
 refine nl hK77 ?_
 refine C.ifn rfl (fun c82 => ?_) (fun c82 => ?_)
 ·have hz := c82
  refine sq fun K83 hK83 => ?_
  refine RS.o (D.buildS T27 F27 (ps := []) rfl rfl) ?_
  refine RS.storeAggB rfl rfl C27 (by decide) rfl rfl B2 rfl (fun w84 y84 N84 => ?_)
  replace hE := hE.trans (y84.belo)
  replace R0 := R0.sto y84
  replace QR := QR.sto y84
  replace B10 := B10.sto y84
  have zw84 := y84.size
  replace B2 := N84
  refine RS.asI rfl ?_
  refine RS.asI rfl ?_
  refine nl hK83 ?_
  refine wp_ret ?_
  refine ret (rs := [.cell 2 27, .tmp 3, .tmp 4]) (vs := [.agg _, .int _ _, .int _ _]) (v := (.tuple #[.agg _, .int _ _, .int _ _])) rfl ⟨⟨_, rfl, loadVar_agg Tryz.underlying27 rfl C27 (by decide) rfl (B2.cellsN 4 rfl)⟩, rfl, rfl, trivial⟩ rfl ?_
  rw [S.vd_bad hv hz]
  exact ⟨_, rfl, hE, rfl⟩
 have hz := c82
 refine wp_skip ?_
 refine hK76 _ _ ?_
 refine sq fun K85 hK85 => ?_
 refine RS.o (D.loadAgg rfl Tryz.underlying27 rfl C27 (by decide) rfl (B10.cellsN 4 rfl)) ?_
 refine RS.mvI rfl ?_
 refine RS.o (D.add rfl rfl (W.i64 (by omega))) ?_
 refine RS.storeAggB rfl rfl C27 (by decide) rfl rfl B2 rfl (fun w86 y86 N86 => ?_)
 replace hE := hE.trans (y86.belo)
 replace R0 := R0.sto y86
 replace QR := QR.sto y86
 replace B10 := B10.sto y86
 have zw86 := y86.size
 replace B2 := N86
 refine RS.asI rfl ?_
 refine RS.asI rfl ?_
 refine nl hK85 ?_
 refine wp_ret ?_
 refine ret (rs := [.cell 2 27, .tmp 3, .tmp 4]) (vs := [.agg _, .int _ _, .int _ _]) (v := (.tuple #[.agg _, .int _ _, .int _ _])) rfl ⟨⟨_, rfl, loadVar_agg Tryz.underlying27 rfl C27 (by decide) rfl (B2.cellsN 4 rfl)⟩, rfl, rfl, trivial⟩ rfl ?_
 rw [S.vd_good hv hz]
 exact ⟨_, rfl, hE, rfl⟩
theorem rNext (b N : Nat) (T : TypeId) (hN : N ≤ b) (a : Option Addr) (n c : Nat) (bs : List Int) (bad : Bool) (u : Nat) (e : Int) (hu : e = 0 → u ≤ n) (w : World) (B0 : Blk w b [.slice a n c, .bool bad] T) (R0 : IRow .u8 (fun k => k < N) w a n bs) (hc : n ≤ c) (hn : n ≤ 1000000) :
  Calls Tryz.prog 43 #[.pointer (some ⟨b, 0, none⟩), .int .i64 u, .int .i64 e] w (fun ex w' => ex = .returned (.tuple #[]) ∧ Pr (fun k => k = b) w w' ∧ ∃ a' n' c', Blk w' b [.slice a' n' c', .bool (S.nxB e bad)] T ∧ n' ≤ c' ∧ n' ≤ n ∧ IRow .u8 (fun k => k < N) w' a' n' (S.nxL e u bs)) := by
 have hbb := B0.lt
 have hbl := R0.len
 have hbd := R0.bd
 have hE := Pr.refl (fun k => k = b) w
 refine enterU 17 Tryz.func43 rfl rfl ?_
 refine wp_seq_k (fun K1 hK1 => ?_)
 refine sq fun K2 hK2 => ?_
 refine RS.mvI rfl ?_
 refine RS.o (D.ne rfl rfl) ?_
 refine nl hK2 ?_
 refine C.ifn rfl (fun c3 => ?_) (fun c3 => ?_)
 ·have he := c3
  refine sq fun K4 hK4 => ?_
  refine RS.mvP rfl ?_
  refine RS.nilCheck rfl ?_
  refine RS.o (D.fieldL 1 rfl Tryz.underlying78 rfl C4 (by decide) rfl) ?_
  refine RS.store rfl  rfl C4 rfl B0 rfl (fun w5 y5 N5 => ?_)
  replace hE := hE.stno y5
  replace R0 := R0.sto y5
  have zw5 := y5.size
  replace B0 := N5
  refine nl hK4 ?_
  refine wp_ret ?_
  change bodyPost Tryz.prog Tryz.f43 (fun ex w' => ex = .returned (.tuple #[]) ∧ Pr (fun k => k = b) w w' ∧ ∃ a' n' c', Blk w' b [.slice a' n' c', .bool (S.nxB e bad)] T ∧ n' ≤ c' ∧ n' ≤ n ∧ IRow .u8 (fun k => k < N) w' a' n' (S.nxL e u bs)) .ret _ _
  refine ret (rs := []) (vs := []) rfl trivial rfl ?_
  obtain ⟨e1, e2⟩ := S.nx_ne he u bad bs
  rw [e1, e2]
  exact ⟨rfl, hE, _, _, _, B0, hc, Nat.le_refl _, R0⟩
 have he := c3
 have hu2 := hu he
 refine wp_skip ?_
 refine hK1 _ _ ?_
 refine region ?_
 refine RS.mvP rfl ?_
 refine RS.mvP rfl ?_
 refine RS.nilCheck rfl ?_
 refine RS.o (D.fieldL 0 rfl Tryz.underlying78 rfl C22 (by decide) rfl) ?_
 refine RS.o (D.load rfl Tryz.underlying22 rfl (B0.cell rfl)) ?_
 refine RS.mvI rfl ?_
 refine RS.o (D.slice (kl := .i64) (kh := .i64) rfl Tryz.underlying22 C5 (by decide) rfl rfl (by omega) (by omega)) ?_
 refine RS.nilCheck rfl ?_
 refine RS.o (D.fieldL 0 rfl Tryz.underlying78 rfl C22 (by decide) rfl) ?_
 refine RS.store rfl  rfl C22 rfl B0 rfl (fun w6 y6 N6 => ?_)
 replace hE := hE.stno y6
 replace R0 := R0.sto y6
 have zw6 := y6.size
 replace B0 := N6
 refine RS.nil ?_
 refine retN (rs := []) (vs := []) rfl trivial rfl ?_
 obtain ⟨e1, e2⟩ := S.nx_zero he u bad bs
 rw [e1, e2]
 exact ⟨rfl, hE, _, _, _, B0, by omega, by omega, R0.rest u c (by omega) hc⟩
theorem rNumber (b N : Nat) (T : TypeId) (hN : N ≤ b) (a : Option Addr) (n c : Nat) (bs : List Int) (bad : Bool) (most : Int) (hm : 0 ≤ most ∧ most < 18446744073709551616) (w : World) (B0 : Blk w b [.slice a n c, .bool bad] T) (R0 : IRow .u8 (fun k => k < N) w a n bs) (hc : n ≤ c) (hn : n ≤ 1000000) :
  Calls Tryz.prog 41 #[.pointer (some ⟨b, 0, none⟩), .int .u64 most] w (fun ex w' => ex = .returned (.int .u64 (S.numB most bad bs).1) ∧ Pr (fun k => k = b) w w' ∧ ∃ a' n' c', Blk w' b [.slice a' n' c', .bool (S.numB most bad bs).2.1] T ∧ n' ≤ c' ∧ n' ≤ n ∧ IRow .u8 (fun k => k < N) w' a' n' (S.numB most bad bs).2.2) := by
 have hbb := B0.lt
 have hbl := R0.len
 have hbd := R0.bd
 have hrd := S.rd_bd hbd
 have hE := Pr.refl (fun k => k = b) w
 refine enterU 32 Tryz.func41 rfl rfl ?_
 refine sq fun K1 hK1 => ?_
 refine RS.asI rfl ?_
 refine nl hK1 ?_
 refine sq fun K2 hK2 => ?_
 refine RS.mvP rfl ?_
 refine RS.nilCheck rfl ?_
 refine RS.o (D.fieldL 0 rfl Tryz.underlying78 rfl C22 (by decide) rfl) ?_
 refine RS.o (D.load rfl Tryz.underlying22 rfl (B0.cell rfl)) ?_
 refine RS.call E73 (readN _ _ _ _ _ R0 hc hn) rfl (fun v3 w3 x3 A3 => ?_)
 replace hE := hE.ext x3
 replace B0 := B0.ext x3
 replace R0 := R0.ext x3
 have zw3 := x3.size
 subst A3
 refine RS.nm ?_
 refine RS.move (v := .tuple _) rfl ?_
 refine RS.extract (v := .int _ _) rfl rfl ?_
 refine RS.extract (v := .int _ _) rfl rfl ?_
 refine RS.extract (v := .int _ _) rfl rfl ?_
 refine RS.asI rfl ?_
 refine RS.asI rfl ?_
 refine RS.asI rfl ?_
 refine nl hK2 ?_
 refine sq fun K4 hK4 => ?_
 refine RS.mvP rfl ?_
 refine RS.mvI rfl ?_
 refine RS.mvI rfl ?_
 refine RS.callx E43 (rNext _ N _ hN _ _ _ _ _ (S.rdU bs) (S.rdE bs) (by omega) _ B0 R0 hc (by omega)) rfl (fun e5 w5 A5 => ?_)
 obtain ⟨rfl, X5, a5, n5, c5, N5, hc5, hn5, Q5⟩ := A5
 refine ⟨_, rfl, ?_⟩
 refine RS.nm ?_
 replace hE := hE.prno X5
 replace R0 := R0.pro X5
 have zw5 := X5.size
 replace B0 := N5
 have R1 := Q5
 refine nl hK4 ?_
 refine wp_seq_k (fun K6 hK6 => ?_)
 obtain ⟨e1, e2, e3⟩ := S.numB_rd most bad bs
 refine region ?_
 refine RS.mvP rfl ?_
 refine RS.mvP rfl ?_
 refine RS.nilCheck rfl ?_
 refine RS.o (D.fieldL 1 rfl Tryz.underlying78 rfl C4 (by decide) rfl) ?_
 refine RS.o (D.load rfl Tryz.underlying4 rfl (B0.cell rfl)) ?_
 refine RS.mvB rfl ?_
 refine RS.splitb 26 rfl rfl (fun c7 => ?_) (fun c7 => ?_)
 ·refine RS.nm ?_
  rw [c7] at e2
  refine RS.skT 26 ?_
  refine RS.skT 26 ?_
  refine RS.skT 26 ?_
  refine RS.pick (v := .bool true) rfl rfl ?_
  refine RS.nilCheck rfl ?_
  refine RS.o (D.fieldL 1 rfl Tryz.underlying78 rfl C4 (by decide) rfl) ?_
  refine RS.store rfl  rfl C4 rfl B0 rfl (fun w8 y8 N8 => ?_)
  replace hE := hE.stno y8
  replace R1 := R1.sto y8
  have zw8 := y8.size
  replace B0 := N8
  refine nl hK6 ?_
  refine sq fun K9 hK9 => ?_
  refine RS.mvI rfl ?_
  refine RS.asI rfl ?_
  refine nl hK9 ?_
  refine wp_ret ?_
  change bodyPost Tryz.prog Tryz.f41 (fun ex w' => ex = .returned (.int .u64 (S.numB most bad bs).1) ∧ Pr (fun k => k = b) w w' ∧ ∃ a' n' c', Blk w' b [.slice a' n' c', .bool (S.numB most bad bs).2.1] T ∧ n' ≤ c' ∧ n' ≤ n ∧ IRow .u8 (fun k => k < N) w' a' n' (S.numB most bad bs).2.2) .ret _ _
  refine retI rfl rfl ?_
  rw [← e1, ← e2, ← e3]
  exact ⟨rfl, hE, _, _, _, B0, by assumption, by assumption, R1⟩
 refine RS.nm ?_
 rw [c7] at e2
 refine RS.wt 26 ?_
 refine RS.mvI rfl ?_
 refine RS.wt 26 ?_
 refine RS.mvI rfl ?_
 refine RS.wt 26 ?_
 refine RS.o (D.gt rfl rfl) ?_
 refine RS.pick (v := .bool _) rfl rfl ?_
 refine RS.nilCheck rfl ?_
 refine RS.o (D.fieldL 1 rfl Tryz.underlying78 rfl C4 (by decide) rfl) ?_
 refine RS.store rfl  rfl C4 rfl B0 rfl (fun w10 y10 N10 => ?_)
 replace hE := hE.stno y10
 replace R1 := R1.sto y10
 have zw10 := y10.size
 replace B0 := N10
 refine nl hK6 ?_
 refine sq fun K11 hK11 => ?_
 refine RS.mvI rfl ?_
 refine RS.asI rfl ?_
 refine nl hK11 ?_
 refine wp_ret ?_
 change bodyPost Tryz.prog Tryz.f41 (fun ex w' => ex = .returned (.int .u64 (S.numB most bad bs).1) ∧ Pr (fun k => k = b) w w' ∧ ∃ a' n' c', Blk w' b [.slice a' n' c', .bool (S.numB most bad bs).2.1] T ∧ n' ≤ c' ∧ n' ≤ n ∧ IRow .u8 (fun k => k < N) w' a' n' (S.numB most bad bs).2.2) .ret _ _
 refine retI rfl rfl ?_
 rw [← e1, ← e2, ← e3, Bool.false_or]
 exact ⟨rfl, hE, _, _, _, B0, by assumption, by assumption, R1⟩
theorem rOne (b N : Nat) (T : TypeId) (hN : N ≤ b) (a : Option Addr) (n c : Nat) (bs : List Int) (bad : Bool) (w : World) (B0 : Blk w b [.slice a n c, .bool bad] T) (R0 : IRow .u8 (fun k => k < N) w a n bs) (hc : n ≤ c) (hn : n ≤ 1000000) :
  Calls Tryz.prog 40 #[.pointer (some ⟨b, 0, none⟩)] w (fun ex w' => ex = .returned (.int .u8 (S.oneB bad bs).1) ∧ Pr (fun k => k = b) w w' ∧ ∃ a' n' c', Blk w' b [.slice a' n' c', .bool (S.oneB bad bs).2.1] T ∧ n' ≤ c' ∧ n' ≤ n ∧ IRow .u8 (fun k => k < N) w' a' n' (S.oneB bad bs).2.2) := by
 have hbb := B0.lt
 have hbl := R0.len
 have hbd := R0.bd
 have hE := Pr.refl (fun k => k = b) w
 refine enterU 27 Tryz.func40 rfl rfl ?_
 refine sq fun K1 hK1 => ?_
 refine RS.asI rfl ?_
 refine nl hK1 ?_
 refine wp_seq_k (fun K2 hK2 => ?_)
 refine sq fun K3 hK3 => ?_
 refine RS.mvP rfl ?_
 refine RS.nilCheck rfl ?_
 refine RS.o (D.fieldL 1 rfl Tryz.underlying78 rfl C4 (by decide) rfl) ?_
 refine RS.o (D.load rfl Tryz.underlying4 rfl (B0.cell rfl)) ?_
 refine RS.mvB rfl ?_
 refine RS.splitb 8 rfl rfl (fun c4 => ?_) (fun c4 => ?_)
 ·refine RS.nm ?_
  have hb := c4
  refine RS.skT 8 ?_
  refine RS.skT 8 ?_
  refine RS.skT 8 ?_
  refine RS.skT 8 ?_
  refine RS.skT 8 ?_
  refine RS.skT 8 ?_
  refine RS.pick (v := .bool true) rfl rfl ?_
  refine nl hK3 ?_
  refine C.ift rfl ?_
  refine sq fun K5 hK5 => ?_
  refine RS.mvP rfl ?_
  refine RS.nilCheck rfl ?_
  refine RS.o (D.fieldL 1 rfl Tryz.underlying78 rfl C4 (by decide) rfl) ?_
  refine RS.store rfl  rfl C4 rfl B0 rfl (fun w6 y6 N6 => ?_)
  replace hE := hE.stno y6
  replace R0 := R0.sto y6
  have zw6 := y6.size
  replace B0 := N6
  refine nl hK5 ?_
  refine sq fun K7 hK7 => ?_
  refine RS.asI rfl ?_
  refine nl hK7 ?_
  refine wp_ret ?_
  change bodyPost Tryz.prog Tryz.f40 (fun ex w' => ex = .returned (.int .u8 (S.oneB bad bs).1) ∧ Pr (fun k => k = b) w w' ∧ ∃ a' n' c', Blk w' b [.slice a' n' c', .bool (S.oneB bad bs).2.1] T ∧ n' ≤ c' ∧ n' ≤ n ∧ IRow .u8 (fun k => k < N) w' a' n' (S.oneB bad bs).2.2) .ret _ _
  refine retI rfl rfl ?_
  subst hb
  exact ⟨rfl, hE, _, _, _, B0, hc, Nat.le_refl _, R0⟩
 refine RS.nm ?_
 have hb := c4
 refine RS.wt 8 ?_
 refine RS.mvP rfl ?_
 refine RS.wt 8 ?_
 refine RS.nilCheck rfl ?_
 refine RS.wt 8 ?_
 refine RS.o (D.fieldL 0 rfl Tryz.underlying78 rfl C22 (by decide) rfl) ?_
 refine RS.wt 8 ?_
 refine RS.o (D.load rfl Tryz.underlying22 rfl (B0.cell rfl)) ?_
 refine RS.wt 8 ?_
 refine RS.o (D.len rfl Tryz.underlying22) ?_
 refine RS.wt 8 ?_
 refine RS.o (D.eq rfl rfl) ?_
 refine RS.pick (v := .bool _) rfl rfl ?_
 refine nl hK3 ?_
 refine C.ife rfl (fun c8 => ?_) (fun c8 => ?_)
 ·have hz := c8
  refine sq fun K9 hK9 => ?_
  refine RS.mvP rfl ?_
  refine RS.nilCheck rfl ?_
  refine RS.o (D.fieldL 1 rfl Tryz.underlying78 rfl C4 (by decide) rfl) ?_
  refine RS.store rfl  rfl C4 rfl B0 rfl (fun w10 y10 N10 => ?_)
  replace hE := hE.stno y10
  replace R0 := R0.sto y10
  have zw10 := y10.size
  replace B0 := N10
  refine nl hK9 ?_
  refine sq fun K11 hK11 => ?_
  refine RS.asI rfl ?_
  refine nl hK11 ?_
  refine wp_ret ?_
  change bodyPost Tryz.prog Tryz.f40 (fun ex w' => ex = .returned (.int .u8 (S.oneB bad bs).1) ∧ Pr (fun k => k = b) w w' ∧ ∃ a' n' c', Blk w' b [.slice a' n' c', .bool (S.oneB bad bs).2.1] T ∧ n' ≤ c' ∧ n' ≤ n ∧ IRow .u8 (fun k => k < N) w' a' n' (S.oneB bad bs).2.2) .ret _ _
  refine retI rfl rfl ?_
  subst hb
  obtain rfl : bs = [] := List.eq_nil_of_length_eq_zero (by omega)
  exact ⟨rfl, hE, _, _, _, B0, hc, Nat.le_refl _, R0⟩
 have hz := c8
 refine wp_skip ?_
 refine hK2 _ _ ?_
 refine sq fun K12 hK12 => ?_
 refine RS.mvP rfl ?_
 refine RS.nilCheck rfl ?_
 refine RS.o (D.fieldL 0 rfl Tryz.underlying78 rfl C22 (by decide) rfl) ?_
 refine RS.o (D.load rfl Tryz.underlying22 rfl (B0.cell rfl)) ?_
 refine RS.idx R0 rfl rfl Tryz.underlying22 C5 (by omega) (fun b13 o13 v13 h13 q13 r13 => ?_)
 refine RS.nm ?_
 simp only [lim] at r13
 have q1 := q13
 refine RS.o (D.load rfl Tryz.underlying5 rfl (h13)) ?_
 refine RS.asI rfl ?_
 refine nl hK12 ?_
 refine sq fun K14 hK14 => ?_
 refine RS.mvP rfl ?_
 refine RS.callx E43 (rNext _ N _ hN _ _ _ _ _ 1 0 (by omega) _ B0 R0 hc (by omega)) rfl (fun e15 w15 A15 => ?_)
 obtain ⟨rfl, X15, a15, n15, c15, N15, hc15, hn15, Q15⟩ := A15
 refine ⟨_, rfl, ?_⟩
 refine RS.nm ?_
 replace hE := hE.prno X15
 replace R0 := R0.pro X15
 have zw15 := X15.size
 replace B0 := N15
 have R1 := Q15
 refine nl hK14 ?_
 refine sq fun K16 hK16 => ?_
 refine RS.mvI rfl ?_
 refine RS.asI rfl ?_
 refine nl hK16 ?_
 refine wp_ret ?_
 change bodyPost Tryz.prog Tryz.f40 (fun ex w' => ex = .returned (.int .u8 (S.oneB bad bs).1) ∧ Pr (fun k => k = b) w w' ∧ ∃ a' n' c', Blk w' b [.slice a' n' c', .bool (S.oneB bad bs).2.1] T ∧ n' ≤ c' ∧ n' ≤ n ∧ IRow .u8 (fun k => k < N) w' a' n' (S.oneB bad bs).2.2) .ret _ _
 refine retI rfl rfl ?_
 subst hb
 obtain ⟨x, r, rfl⟩ : ∃ x r, bs = x :: r := by
  cases bs with
  | nil => simp at hbl; omega
  | cons x r => exact ⟨x, r, rfl⟩
 rw [q1]
 exact ⟨rfl, hE, _, _, _, B0, by assumption, by assumption, R1⟩
end Go.Proofs.YtiohpiiiapjblaaGreatDoor.W
