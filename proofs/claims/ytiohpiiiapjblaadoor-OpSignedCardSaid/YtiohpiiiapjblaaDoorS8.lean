/-
  S8: keys, texts, values; no program in sight.
-/
import Derived.Test.YtiohpiiiapjblaaDoorS7
namespace Go.Proofs.YtiohpiiiapjblaaDoor.S
open G
/-- All bytes lie between a lowest one and '~'. -/
def Asc (lo : Int) (s : ByteArray) : Prop := ∀ j, j < s.size → lo ≤ (bys s).getD j 0 ∧ (bys s).getD j 0 ≤ 126
instance (lo : Int) (s : ByteArray) : Decidable (Asc lo s) := by unfold Asc; infer_instance
theorem dec_case (s : ByteArray) (p : Nat) (hp : p < s.size) : ((bys s).getD p 0 < 128 ∧ ((Utf8.decode s p).1 : Int) = (bys s).getD p 0 ∧ (Utf8.decode s p).2 = 1) ∨ (128 ≤ (bys s).getD p 0 ∧ (128 : Int) ≤ (Utf8.decode s p).1) := by
  rw [bys_get s p hp]
  by_cases h : (s[p]'hp).toNat < 128
  · left
    rw [decode_ascii s p hp h]
    exact ⟨by omega, rfl, rfl⟩
  · right
    have := decode_high s p hp (by omega)
    omega
theorem dec_bd (s : ByteArray) (p : Nat) : 0 ≤ ((Utf8.decode s p).1 : Int) ∧ ((Utf8.decode s p).1 : Int) ≤ 2147483647 := by
  have := decode_le s p
  omega
/-- A key. -/
def KeyOk (s : ByteArray) : Prop := 1 ≤ s.size ∧ s.size ≤ 20 ∧ Asc 33 s
instance (s : ByteArray) : Decidable (KeyOk s) := by unfold KeyOk; infer_instance
def clsS (b : Int) : Int :=
  if b / 4503599627370496 % 2048 = 2047 then (if b % 4503599627370496 = 0 then 4 else 5)
  else if b / 4503599627370496 % 2048 = 0 then (if b % 4503599627370496 = 0 then 1 else 2) else 3
def canS (b : Int) : Int := if clsS b = 5 then 9221120237041090560 else b
theorem canS_bd (b : Int) (h : 0 ≤ b ∧ b < 18446744073709551616) : 0 ≤ canS b ∧ canS b < 18446744073709551616 := by
  unfold canS; split <;> omega
theorem sand_2047 (a : Int) (h : 0 ≤ a ∧ a < 9223372036854775808) : sand .i64 a 2047 = a % 2048 := by
  unfold sand
  have e1 : (BitVec.ofInt IntKind.i64.bits a &&& BitVec.ofInt IntKind.i64.bits 2047).toNat = a.toNat % 2048 := by
    rw [BitVec.toNat_and]
    have h1 : (BitVec.ofInt IntKind.i64.bits a).toNat = a.toNat := ofInt_toNat 64 a h.1 (by omega)
    have h2 : (BitVec.ofInt IntKind.i64.bits 2047).toNat = 2 ^ 11 - 1 := ofInt_toNat 64 2047 (by decide) (by decide)
    rw [h1, h2, Nat.and_two_pow_sub_one_eq_mod]
  rw [e1, W.i64 (by omega)]
  omega
theorem iand_full (b : Int) (h : 0 ≤ b) : iand b 4503599627370495 = b % 4503599627370496 := by
  unfold iand
  rw [show (4503599627370495 : Int).toNat = 2 ^ 52 - 1 from rfl, Nat.and_two_pow_sub_one_eq_mod]
  omega
theorem exp_eq (b : Int) (h : 0 ≤ b) : b % 9223372036854775808 / 4503599627370496 = b / 4503599627370496 % 2048 := by omega
/-- A value that is valid. -/
def FineV (k num bits : Int) (t : ByteArray) : Prop :=
  (k = 1 ∧ bits = 0 ∧ t = ByteArray.empty) ∨ (k = 2 ∧ num = 0 ∧ t = ByteArray.empty ∧ canS bits = bits) ∨ (k = 3 ∧ num = 0 ∧ bits = 0 ∧ t.size ≤ 30 ∧ Asc 32 t)
instance (k num bits : Int) (t : ByteArray) : Decidable (FineV k num bits t) := by unfold FineV; infer_instance
def valE (k num bits : Int) (t : ByteArray) : Int := if FineV k num bits t then 0 else 8
def TextOk (t : ByteArray) : Prop := t.size ≤ 30 ∧ Asc 32 t
instance (t : ByteArray) : Decidable (TextOk t) := by unfold TextOk; infer_instance
theorem eqV (a b c a' b' c' : Int) (d d' : ByteArray) : eqC [.int .u8 a, .int .i64 b, .int .u64 c, .string d] [.int .u8 a', .int .i64 b', .int .u64 c', .string d'] = decide (a = a' ∧ b = b' ∧ c = c' ∧ d = d') := by
  simp only [eqC, strEq, Bool.and_true]
  by_cases h1 : a = a' <;> by_cases h2 : b = b' <;> by_cases h3 : c = c' <;> by_cases h4 : d = d' <;> simp [h1, h2, h3, h4]
theorem valE_pos {k num bits : Int} {t : ByteArray} (h : FineV k num bits t) : (0 : Int) = valE k num bits t := by unfold valE; rw [if_pos h]
theorem valE_neg {k num bits : Int} {t : ByteArray} (h : ¬ FineV k num bits t) : (8 : Int) = valE k num bits t := by unfold valE; rw [if_neg h]
/-- The bytes of a value. -/
def valS (k num bits : Int) (t : ByteArray) : List Int :=
  [k] ++ (if k = 1 then numS (zig num) else if k = 2 then be8 bits else if k = 3 then numS t.size ++ bys t else [])
end Go.Proofs.YtiohpiiiapjblaaDoor.S
