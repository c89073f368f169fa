/-
  S2: plain words of 32 bits and the digest, no program in sight.
-/
import Derived.Test.YtiohpiiiapjblaaDoorS1
namespace Go.Proofs.YtiohpiiiapjblaaDoor.S
open G

/-- A word turned right. -/
def rotr (x n : Int) : Int := ior (x / 2 ^ n.toNat) (x * 2 ^ (32 - n).toNat % 4294967296)
theorem ior_comm (a b : Int) : ior a b = ior b a := by unfold ior; rw [Nat.or_comm]
theorem rotr_bd (x n : Int) (hx : 0 ≤ x ∧ x < 4294967296) : 0 ≤ rotr x n ∧ rotr x n < 4294967296 :=
  or_nat _ _ 32 (shr_nat x _ n.toNat hx) ⟨Int.emod_nonneg _ (by decide), Int.emod_lt_of_pos _ (by decide)⟩
theorem rot_amt (n : Int) (h : 0 < n ∧ n < 32) : iand (-n % 18446744073709551616) 31 = 32 - n := by
  have e : -n % 18446744073709551616 = 18446744073709551616 - n := by omega
  have h31 : (31 : Int).toNat = 2 ^ 5 - 1 := rfl
  unfold iand
  rw [e, h31, Nat.and_two_pow_sub_one_eq_mod]
  omega
theorem rotr_eq (x n : Int) (_h : 0 < n ∧ n < 32) : ior (x * 2 ^ (32 - n).toNat % 4294967296) (x / 2 ^ (32 - (32 - n)).toNat) = rotr x n := by
  rw [ior_comm, show 32 - (32 - n) = n by omega]
  rfl

def mix (x i j k : Int) : Int := ixor (ixor (rotr x i) (rotr x j)) (rotr x k)
theorem mix_bd (x i j k : Int) (hx : 0 ≤ x ∧ x < 4294967296) : 0 ≤ mix x i j k ∧ mix x i j k < 4294967296 :=
  xor_nat _ _ 32 (xor_nat _ _ 32 (rotr_bd x i hx) (rotr_bd x j hx)) (rotr_bd x k hx)

/-- The first words of a digest. -/
def IV : List Int := [1779033703, 3144134277, 1013904242, 2773480762, 1359893119, 2600822924, 528734635, 1541459225]
/-- The constants. -/
def KK : List Int := [
  0x428a2f98, 0x71374491, 0xb5c0fbcf, 0xe9b5dba5, 0x3956c25b, 0x59f111f1, 0x923f82a4, 0xab1c5ed5,
  0xd807aa98, 0x12835b01, 0x243185be, 0x550c7dc3, 0x72be5d74, 0x80deb1fe, 0x9bdc06a7, 0xc19bf174,
  0xe49b69c1, 0xefbe4786, 0x0fc19dc6, 0x240ca1cc, 0x2de92c6f, 0x4a7484aa, 0x5cb0a9dc, 0x76f988da,
  0x983e5152, 0xa831c66d, 0xb00327c8, 0xbf597fc7, 0xc6e00bf3, 0xd5a79147, 0x06ca6351, 0x14292967,
  0x27b70a85, 0x2e1b2138, 0x4d2c6dfc, 0x53380d13, 0x650a7354, 0x766a0abb, 0x81c2c92e, 0x92722c85,
  0xa2bfe8a1, 0xa81a664b, 0xc24b8b70, 0xc76c51a3, 0xd192e819, 0xd6990624, 0xf40e3585, 0x106aa070,
  0x19a4c116, 0x1e376c08, 0x2748774c, 0x34b0bcb5, 0x391c0cb3, 0x4ed8aa4a, 0x5b9cca4f, 0x682e6ff3,
  0x748f82ee, 0x78a5636f, 0x84c87814, 0x8cc70208, 0x90befffa, 0xa4506ceb, 0xbef9a3f7, 0xc67178f2]

/-- Bytes, read as one number. -/
def be (xs : List Int) : Int := xs.foldl (fun a x => a * 256 + x) 0
theorem be_snoc (xs : List Int) (x : Int) : be (xs ++ [x]) = be xs * 256 + x := by simp [be, List.foldl_append]
theorem be_go : ∀ (xs : List Int) (a : Int), 0 ≤ a → Bd .u8 xs → 0 ≤ xs.foldl (fun a x => a * 256 + x) a ∧ xs.foldl (fun a x => a * 256 + x) a < (a + 1) * 256 ^ xs.length
  | [], a, ha, _ => by simp; omega
  | x :: xs, a, ha, h => by
    have h2 := h x (by simp)
    simp only [lim] at h2
    have ih := be_go xs (a * 256 + x) (by omega) (fun y hy => h y (by simp [hy]))
    refine ⟨ih.1, Int.lt_of_lt_of_le ih.2 ?_⟩
    rw [List.length_cons, Int.pow_succ, Int.mul_comm (256 ^ xs.length), ← Int.mul_assoc]
    exact Int.mul_le_mul_of_nonneg_right (by omega) (Int.pow_nonneg (by decide))
theorem be_bd (xs : List Int) (h : Bd .u8 xs) : 0 ≤ be xs ∧ be xs < 256 ^ xs.length := by
  have := be_go xs 0 (Int.le_refl _) h
  simpa [be] using this
theorem ior_add (a x : Int) (ha : 0 ≤ a) (hx : 0 ≤ x ∧ x < 256) : ior (a * 256) x = a * 256 + x := by
  unfold ior
  have h := Nat.shiftLeft_add_eq_or_of_lt (i := 8) (b := x.toNat) (by omega) a.toNat
  rw [show (a * 256).toNat = a.toNat <<< 8 by rw [Nat.shiftLeft_eq]; omega, ← h, Nat.shiftLeft_eq]
  omega
end Go.Proofs.YtiohpiiiapjblaaDoor.S
