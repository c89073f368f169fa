/-
  S7: numbers with a sign, lists of ids; no program in sight.
-/
import Derived.Test.YtiohpiiiapjblaaDoorS6
import Derived.Test.YtiohpiiiapjblaaDoorG15
namespace Go.Proofs.YtiohpiiiapjblaaDoor.S
open G
instance (n : Nat) (ids : List Int) : Decidable (Sorted n ids) := by unfold Sorted; infer_instance
instance (n : Nat) (ids : List Int) : Decidable (Apart n ids) := by unfold Apart; infer_instance
theorem idAt_elt (ids : List Int) (i : Nat) : idAt ids i = elt 32 ids i := rfl
theorem leK_step (n : Int) (h : 0 < n) (h2 : n < 18446744073709551616) : leK (blen n) n = n % 256 :: leK (blen (n / 256)) (n / 256) := by
  rw [blen_step n h h2]; rfl
theorem made_ints (k : IntKind) (m : Nat) : (madeCells [Value.int k 0].toArray m).toList = ints k (List.replicate m 0) := by
  apply List.ext_getElem
  · simp [madeCells, ints_length]
  intro i h1 h2
  simp [madeCells, ints, Nat.mod_one]
theorem numP_first (n : Int) : (List.replicate (blen n + 1) (0 : Int)).set 0 (247 + (blen n : Int)) = numP n 0 := by
  rw [numP_zero, List.replicate_succ]; rfl
theorem len_big (n L : Int) (j : Int) (x : Int) (t : Int) (hx : x = n / 2 ^ (8 * j).toNat) (hj : 0 ≤ j ∧ j ≤ 7) (h256 : 0 ≤ x ∧ x < 256) (hx0 : 0 < x) (ht : 1 ≤ t ∧ t ≤ 8) (hL : L = 8 * j + t) : (L + 7) / 8 = (blen n : Int) := by
  have key : (L + 7) / 8 = j + 1 := by omega
  rw [key]
  have hj' : j = 0 ∨ j = 1 ∨ j = 2 ∨ j = 3 ∨ j = 4 ∨ j = 5 ∨ j = 6 ∨ j = 7 := by omega
  unfold blen
  rcases hj' with rfl | rfl | rfl | rfl | rfl | rfl | rfl | rfl
  · have : x = n := by rw [hx]; simp
    rw [if_neg (by omega), if_pos (by omega)]; rfl
  · have : x = n / 256 := hx
    rw [if_neg (by omega), if_neg (by omega), if_pos (by omega)]; rfl
  · have : x = n / 65536 := hx
    rw [if_neg (by omega), if_neg (by omega), if_neg (by omega), if_pos (by omega)]; rfl
  · have : x = n / 16777216 := hx
    rw [if_neg (by omega), if_neg (by omega), if_neg (by omega), if_neg (by omega), if_pos (by omega)]; rfl
  · have : x = n / 4294967296 := hx
    rw [if_neg (by omega), if_neg (by omega), if_neg (by omega), if_neg (by omega), if_neg (by omega), if_pos (by omega)]; rfl
  · have : x = n / 1099511627776 := hx
    rw [if_neg (by omega), if_neg (by omega), if_neg (by omega), if_neg (by omega), if_neg (by omega), if_neg (by omega), if_pos (by omega)]; rfl
  · have : x = n / 281474976710656 := hx
    rw [if_neg (by omega), if_neg (by omega), if_neg (by omega), if_neg (by omega), if_neg (by omega), if_neg (by omega), if_neg (by omega), if_pos (by omega)]; rfl
  · have : x = n / 72057594037927936 := hx
    rw [if_neg (by omega), if_neg (by omega), if_neg (by omega), if_neg (by omega), if_neg (by omega), if_neg (by omega), if_neg (by omega), if_neg (by omega)]; rfl
theorem tab_of {xs : List Int} {i v : Int} (hq : v = xs.getD i.toNat 0) (h : tabOk xs = true) (hi : 0 ≤ i ∧ i < 256) : (i = 0 → v = 0) ∧ (0 < i → 1 ≤ v) ∧ 0 ≤ v ∧ v ≤ 8 := by
  rw [hq]; exact tab_get xs h i hi
/-- A number with a sign. -/
def zig (n : Int) : Int := if 0 ≤ n then 2 * n else -2 * n - 1
theorem zig_bd (n : Int) (h : -9223372036854775808 ≤ n ∧ n ≤ 9223372036854775807) : 0 ≤ zig n ∧ zig n < 18446744073709551616 := by
  unfold zig; split <;> omega
theorem ixor_ones (x : Int) (h : 0 ≤ x ∧ x < 18446744073709551616) : ixor x 18446744073709551615 = 18446744073709551615 - x := by
  obtain ⟨n, rfl⟩ := Int.eq_ofNat_of_zero_le h.1
  have hn : n < 2 ^ 64 := by omega
  unfold ixor
  have e : n ^^^ (2 ^ 64 - 1) = 2 ^ 64 - 1 - n := by
    have h1 : (BitVec.ofNat 64 n ^^^ BitVec.allOnes 64).toNat = (~~~ BitVec.ofNat 64 n).toNat := by rw [BitVec.xor_allOnes]
    rw [BitVec.toNat_xor, BitVec.toNat_not, BitVec.toNat_ofNat, BitVec.toNat_allOnes, Nat.mod_eq_of_lt hn] at h1
    exact h1
  rw [show ((n : Int)).toNat = n from rfl, show (18446744073709551615 : Int).toNat = 2 ^ 64 - 1 from rfl, e]
  omega
theorem ixor_zero (x : Int) (h : 0 ≤ x) : ixor x 0 = x := by
  unfold ixor
  rw [show (0 : Int).toNat = 0 from rfl, Nat.xor_zero]
  omega
theorem zig_eq (n : Int) (h : -9223372036854775808 ≤ n ∧ n ≤ 9223372036854775807) : ixor (n % 18446744073709551616 * 2 ^ (1 : Int).toNat % 18446744073709551616) (n / 2 ^ (63 : Int).toNat % 18446744073709551616) = zig n := by
  have h63 : (2 : Int) ^ (63 : Int).toNat = 9223372036854775808 := by decide
  have h1 : (2 : Int) ^ (1 : Int).toNat = 2 := by decide
  rw [h63, h1]
  unfold zig
  split
  · rw [show n / 9223372036854775808 % 18446744073709551616 = 0 by omega, ixor_zero _ (by omega)]; omega
  · rw [show n / 9223372036854775808 % 18446744073709551616 = 18446744073709551615 by omega, ixor_ones _ (by omega)]; omega
/-- The bytes of a list of ids. -/
def listS (n : Nat) (ids : List Int) : List Int := numS n ++ ids
theorem rising_step (n : Nat) (ids : List Int) (p : Int) (h0 : 1 ≤ p) (h : ∀ j, j < p.toNat - 1 → cmpS (idAt ids j) (idAt ids (j + 1)) < 0) (h2 : cmpS (idAt ids (p - 1).toNat) (idAt ids p.toNat) < 0) : ∀ j, j < (p + 1).toNat - 1 → cmpS (idAt ids j) (idAt ids (j + 1)) < 0 := by
  intro j hj
  by_cases hj' : j < p.toNat - 1
  · exact h j hj'
  · rw [show (p - 1).toNat = j by omega, show p.toNat = j + 1 by omega] at h2
    exact h2
end Go.Proofs.YtiohpiiiapjblaaDoor.S
