/-
  S1: plain arithmetic of the group, no program in sight.
-/
import Derived.Test.YtiohpiiiapjblaaDoorG9
namespace Go.Proofs.YtiohpiiiapjblaaDoor.S

/-- A power modulo m. -/
def pw (a n m : Int) : Int := a ^ n.toNat % m
theorem pw_nonneg (a n m : Int) (hm : 0 < m) : 0 ≤ pw a n m := Int.emod_nonneg _ (by omega)
theorem pw_lt (a n m : Int) (hm : 0 < m) : pw a n m < m := Int.emod_lt_of_pos _ hm

theorem mul32 {a b : Int} (ha : 0 ≤ a ∧ a < 4294967296) (hb : 0 ≤ b ∧ b < 4294967296) : 0 ≤ a * b ∧ a * b < 18446744073709551616 := by
  refine ⟨Int.mul_nonneg ha.1 hb.1, ?_⟩
  have h1 : a * b ≤ 4294967295 * b := Int.mul_le_mul_of_nonneg_right (by omega) hb.1
  omega

/-- Is a number in the group? -/
def isG (a : Int) : Bool := decide (0 < a) && (decide (a < 1000000007) && (pw a 500000003 1000000007 == 1))

theorem pow_half (a : Int) (n : Nat) : a ^ n = (a * a) ^ (n / 2) * a ^ (n % 2) := by
  have h : n = 2 * (n / 2) + n % 2 := by omega
  have e : (a * a) = a ^ 2 := by rw [Int.pow_succ, Int.pow_succ, Int.pow_zero, Int.one_mul]
  conv => lhs; rw [h]
  rw [Int.pow_add, Int.pow_mul, e]

theorem mod_pow (a m : Int) (n : Nat) : (a % m) ^ n % m = a ^ n % m := by
  induction n with
  | zero => rw [Int.pow_zero, Int.pow_zero]
  | succ n ih => rw [Int.pow_succ, Int.pow_succ, Int.mul_emod, ih, Int.emod_emod_of_dvd _ (Int.dvd_refl m), ← Int.mul_emod]

theorem power_odd (a r m : Int) (n : Int) (hn : 0 ≤ n) (ho : n % 2 = 1) : (r * a % m) * (a * a % m) ^ (n / 2).toNat % m = r * a ^ n.toNat % m := by
  have h2 : n.toNat % 2 = 1 := by omega
  have h3 : (n / 2).toNat = n.toNat / 2 := by omega
  rw [Int.mul_emod, mod_pow, Int.emod_emod_of_dvd _ (Int.dvd_refl m), ← Int.mul_emod, pow_half a n.toNat, h2, h3]
  congr 1
  rw [Int.pow_succ, Int.pow_zero, Int.one_mul, Int.mul_assoc, Int.mul_comm a]
theorem power_even (a r m : Int) (n : Int) (hn : 0 ≤ n) (ho : ¬ n % 2 = 1) : r * (a * a % m) ^ (n / 2).toNat % m = r * a ^ n.toNat % m := by
  have h2 : n.toNat % 2 = 0 := by omega
  have h3 : (n / 2).toNat = n.toNat / 2 := by omega
  rw [Int.mul_emod, mod_pow, ← Int.mul_emod, pow_half a n.toNat, h2, h3, Int.pow_zero, Int.mul_one]

/-- The first k digits of n, from the highest one of 64. -/
def hi64 (n : Int) (k : Nat) : Int := n / 2 ^ (64 - k)
theorem hi64_zero (n : Int) (h : 0 ≤ n ∧ n < 18446744073709551616) : hi64 n 0 = 0 := by
  unfold hi64
  exact Int.ediv_eq_zero_of_lt h.1 (by have : (2 : Int) ^ (64 - 0) = 18446744073709551616 := by decide
                                       rw [this]; exact h.2)
theorem hi64_all (n : Int) : hi64 n 64 = n := by unfold hi64; simp
theorem hi64_succ (n : Int) (k : Nat) (_h0 : 0 ≤ n) (hk : k < 64) : hi64 n (k + 1) = 2 * hi64 n k + n / 2 ^ (63 - k) % 2 := by
  unfold hi64
  have e : 64 - k = (63 - k) + 1 := by omega
  rw [show 64 - (k + 1) = 63 - k by omega, e, Int.pow_succ, ← Int.ediv_ediv_of_nonneg (Int.pow_nonneg (by decide))]
  omega
theorem hi64_nonneg (n : Int) (k : Nat) (h0 : 0 ≤ n) : 0 ≤ hi64 n k := Int.ediv_nonneg h0 (Int.pow_nonneg (by decide))

theorem pw_step_one (a n m : Int) (k : Nat) (h0 : 0 ≤ n) (hk : k < 64) (hb : n / 2 ^ (63 - k) % 2 = 1) : pw a (hi64 n k) m * pw a (hi64 n k) m % m * a % m = pw a (hi64 n (k + 1)) m := by
  have h := hi64_nonneg n k h0
  unfold pw
  rw [hi64_succ n k h0 hk, hb, show (2 * hi64 n k + 1).toNat = (hi64 n k).toNat + (hi64 n k).toNat + 1 by omega, Int.pow_succ, Int.pow_add, ← Int.mul_emod, Int.mul_emod, Int.emod_emod_of_dvd _ (Int.dvd_refl m), ← Int.mul_emod]
theorem pw_step_zero (a n m : Int) (k : Nat) (h0 : 0 ≤ n) (hk : k < 64) (hb : n / 2 ^ (63 - k) % 2 = 0) : pw a (hi64 n k) m * pw a (hi64 n k) m % m = pw a (hi64 n (k + 1)) m := by
  have h := hi64_nonneg n k h0
  unfold pw
  rw [hi64_succ n k h0 hk, hb, show (2 * hi64 n k + 0).toNat = (hi64 n k).toNat + (hi64 n k).toNat by omega, Int.pow_add, ← Int.mul_emod]

theorem iand_one (a : Int) (h : 0 ≤ a) : G.iand a 1 = a % 2 := by
  unfold G.iand
  rw [show (1 : Int).toNat = 1 from rfl, Nat.and_one_is_mod]
  omega

theorem shr_bd {a M : Int} (k : Nat) (h : 0 ≤ a ∧ a < M) : 0 ≤ a / 2 ^ k ∧ a / 2 ^ k < M := by
  have hp : (0 : Int) ≤ 2 ^ k := Int.pow_nonneg (by decide)
  have h1 := Int.ediv_nonneg h.1 hp
  have h2 := Int.ediv_le_self (2 ^ k) h.1
  omega
theorem bit_one (n i : Int) (hn : 0 ≤ n) (hi : 0 ≤ i ∧ i < 64) (h : G.iand (n / 2 ^ (63 - i).toNat) 1 = 1) : n / 2 ^ (63 - i.toNat) % 2 = 1 := by
  rw [iand_one _ (Int.ediv_nonneg hn (Int.pow_nonneg (by decide))), show (63 - i).toNat = 63 - i.toNat by omega] at h
  exact h
theorem bit_zero (n i : Int) (hn : 0 ≤ n) (hi : 0 ≤ i ∧ i < 64) (h : ¬ G.iand (n / 2 ^ (63 - i).toNat) 1 = 1) : n / 2 ^ (63 - i.toNat) % 2 = 0 := by
  rw [iand_one _ (Int.ediv_nonneg hn (Int.pow_nonneg (by decide))), show (63 - i).toNat = 63 - i.toNat by omega] at h
  omega

/-- A product of numbers modulo m, one after the other. -/
def mulf (m : Int) (xs : List Int) : Int := xs.foldl (fun o x => o * x % m) 1
theorem mulf_succ (m : Int) (xs : List Int) (k : Nat) (h : k < xs.length) : mulf m (xs.take (k + 1)) = mulf m (xs.take k) * xs.getD k 0 % m := by
  rw [List.take_succ_eq_append_getElem h, mulf, List.foldl_append]
  simp [mulf, List.getD_eq_getElem?_getD, List.getElem?_eq_getElem h]
theorem mulf_two (m x y : Int) : mulf m [x, y] = x * y % m := by
  simp only [mulf, List.foldl, Int.one_mul]
  rw [Int.mul_emod, Int.emod_emod_of_dvd _ (Int.dvd_refl m), ← Int.mul_emod]
def allG (xs : List Int) : Bool := xs.all isG
theorem allG_take (xs : List Int) (k : Nat) (h : k < xs.length) (ht : allG (xs.take k) = true) : allG (xs.take (k + 1)) = isG (xs.getD k 0) := by
  unfold allG at *
  rw [List.take_succ_eq_append_getElem h, List.all_append, ht]
  simp [List.getD_eq_getElem?_getD, List.getElem?_eq_getElem h]
theorem allG_false (xs : List Int) (k : Nat) (h : k < xs.length) (hf : isG (xs.getD k 0) = false) : allG xs = false := by
  unfold allG
  rw [List.all_eq_false]
  refine ⟨xs[k], List.getElem_mem h, ?_⟩
  rw [List.getD_eq_getElem?_getD, List.getElem?_eq_getElem h] at hf
  simpa using hf
theorem isG_true {a : Int} (h1 : 0 < a) (h2 : a < 1000000007) : isG a = (pw a 500000003 1000000007 == 1) := by simp [isG, h1, h2]
theorem isG_lo {a : Int} (h1 : ¬ 0 < a) : isG a = false := by simp [isG, h1]
theorem isG_hi {a : Int} (h1 : ¬ a < 1000000007) : isG a = false := by simp [isG, h1]
theorem allG_one (a : Int) : allG [a] = isG a := by simp [allG]
theorem allG_two (a b : Int) : allG [a, b] = (isG a && isG b) := by simp [allG]
theorem isG_bd {a : Int} (h : isG a = true) : 0 < a ∧ a < 1000000007 := by
  simp [isG] at h
  exact ⟨h.1, h.2.1⟩
end Go.Proofs.YtiohpiiiapjblaaDoor.S
