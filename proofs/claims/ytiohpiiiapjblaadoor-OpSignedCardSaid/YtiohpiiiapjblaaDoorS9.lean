/-
  S9: operations: what is valid, their bytes; no program in sight.
-/
import Derived.Test.YtiohpiiiapjblaaDoorS8
import Derived.Test.YtiohpiiiapjblaaDoorS1
namespace Go.Proofs.YtiohpiiiapjblaaDoor.S
open G
/-- An operation, without the place of its predecessors. -/
structure OpV where
  (au st k vk num bits e s : Int) (n : Nat) (ids : List Int) (key t : ByteArray)
structure OpV.ok (o : OpV) : Prop where
  au : 0 ≤ o.au ∧ o.au < 4294967296
  st : 0 ≤ o.st ∧ o.st < 18446744073709551616
  k : 0 ≤ o.k ∧ o.k < 256
  vk : 0 ≤ o.vk ∧ o.vk < 256
  num : -9223372036854775808 ≤ o.num ∧ o.num ≤ 9223372036854775807
  bits : 0 ≤ o.bits ∧ o.bits < 18446744073709551616
  e : 0 ≤ o.e ∧ o.e < 4294967296
  s : 0 ≤ o.s ∧ o.s < 4294967296
  n : o.n ≤ 20
  key : o.key.size ≤ 100
  t : o.t.size ≤ 100
def FineAct (k : Int) (key : ByteArray) (vk num bits : Int) (t : ByteArray) : Prop :=
  (k = 1 ∧ key = ByteArray.empty ∧ vk = 0 ∧ num = 0 ∧ bits = 0 ∧ t = ByteArray.empty) ∨ ((k = 2 ∨ k = 3) ∧ KeyOk key ∧ vk = 0 ∧ num = 0 ∧ bits = 0 ∧ t = ByteArray.empty) ∨ (k = 4 ∧ KeyOk key ∧ FineV vk num bits t)
instance (k : Int) (key : ByteArray) (vk num bits : Int) (t : ByteArray) : Decidable (FineAct k key vk num bits t) := by unfold FineAct; infer_instance
def actE (k : Int) (key : ByteArray) (vk num bits : Int) (t : ByteArray) : Int := if FineAct k key vk num bits t then 0 else 8
theorem actE_pos {k : Int} {key : ByteArray} {vk num bits : Int} {t : ByteArray} (h : FineAct k key vk num bits t) : (0 : Int) = actE k key vk num bits t := by unfold actE; rw [if_pos h]
theorem actE_neg {k : Int} {key : ByteArray} {vk num bits : Int} {t : ByteArray} (h : ¬ FineAct k key vk num bits t) : (8 : Int) = actE k key vk num bits t := by unfold actE; rw [if_neg h]
theorem valE_zero {k num bits : Int} {t : ByteArray} : valE k num bits t = 0 ↔ FineV k num bits t := by unfold valE; split <;> simp_all
theorem actE_zero {k : Int} {key : ByteArray} {vk num bits : Int} {t : ByteArray} : actE k key vk num bits t = 0 ↔ FineAct k key vk num bits t := by unfold actE; split <;> simp_all
theorem eqA6 (a b c d a' b' c' d' : Int) (x y x' y' : ByteArray) : eqC [.int .u8 a, .string x, .int .u8 b, .int .i64 c, .int .u64 d, .string y] [.int .u8 a', .string x', .int .u8 b', .int .i64 c', .int .u64 d', .string y'] = decide (a = a' ∧ x = x' ∧ b = b' ∧ c = c' ∧ d = d' ∧ y = y') := by
  simp only [eqC, strEq, Bool.and_true]
  by_cases h1 : a = a' <;> by_cases h2 : b = b' <;> by_cases h3 : c = c' <;> by_cases h4 : d = d' <;> by_cases h5 : x = x' <;> by_cases h6 : y = y' <;> simp [h1, h2, h3, h4, h5, h6]
theorem eqS2 (a b a' b' : Int) : eqC [.int .u32 a, .int .u32 b] [.int .u32 a', .int .u32 b'] = decide (a = a' ∧ b = b') := by
  simp only [eqC, Bool.and_true]
  by_cases h1 : a = a' <;> by_cases h2 : b = b' <;> simp [h1, h2]
def OpV.Fine (o : OpV) : Prop := isG o.au = true ∧ o.st ≤ 1000000000000 ∧ o.e < 500000003 ∧ o.s < 500000003 ∧ FineAct o.k o.key o.vk o.num o.bits o.t
instance (o : OpV) : Decidable o.Fine := by unfold OpV.Fine; infer_instance
def checkE (o : OpV) : Int := if 4 < o.n then 4 else if Rising o.n o.ids then (if o.Fine then 0 else 8) else 32
theorem check4 {o : OpV} (h : 4 < o.n) : (4 : Int) = checkE o := by unfold checkE; rw [if_pos h]
theorem check32 {o : OpV} (h : ¬ 4 < o.n) (hr : ¬ Rising o.n o.ids) : (32 : Int) = checkE o := by unfold checkE; rw [if_neg h, if_neg hr]
theorem check8 {o : OpV} (h : ¬ 4 < o.n) (hr : Rising o.n o.ids) (hf : ¬ o.Fine) : (8 : Int) = checkE o := by unfold checkE; rw [if_neg h, if_pos hr, if_neg hf]
theorem check0 {o : OpV} (h : ¬ 4 < o.n) (hr : Rising o.n o.ids) (hf : o.Fine) : (0 : Int) = checkE o := by unfold checkE; rw [if_neg h, if_pos hr, if_pos hf]
theorem checkA {o : OpV} (h : ¬ 4 < o.n) (hr : Rising o.n o.ids) (h1 : isG o.au = true) (h2 : o.st ≤ 1000000000000) (h3 : o.e < 500000003) (h4 : o.s < 500000003) : actE o.k o.key o.vk o.num o.bits o.t = checkE o := by
  by_cases hf : FineAct o.k o.key o.vk o.num o.bits o.t
  · rw [← check0 h hr ⟨h1, h2, h3, h4, hf⟩, ← actE_pos hf]
  · rw [← check8 h hr (fun h => hf h.2.2.2.2), ← actE_neg hf]
theorem check_zero {o : OpV} : checkE o = 0 ↔ o.n ≤ 4 ∧ Rising o.n o.ids ∧ o.Fine := by
  unfold checkE
  by_cases h : 4 < o.n <;> by_cases hr : Rising o.n o.ids <;> by_cases hf : o.Fine <;> simp [h, hr, hf] <;> omega
/-- The message of an operation. -/
def msgS (o : OpV) : List Int := [111] ++ numS o.au ++ listS o.n o.ids ++ numS o.st ++ [o.k] ++ (if o.k = 1 then [] else (numS o.key.size ++ bys o.key) ++ (if o.k = 4 then valS o.vk o.num o.bits o.t else []))
def encS (o : OpV) : List Int := msgS o ++ numS o.e ++ numS o.s
def OpV.bare (o : OpV) : OpV := { o with e := 0, s := 0 }
theorem OpV.bare_ok {o : OpV} (h : o.ok) : o.bare.ok := ⟨h.au, h.st, h.k, h.vk, h.num, h.bits, ⟨(by decide : (0 : Int) ≤ 0), (by decide : (0 : Int) < 4294967296)⟩, ⟨(by decide : (0 : Int) ≤ 0), (by decide : (0 : Int) < 4294967296)⟩, h.n, h.key, h.t⟩
theorem valS_len (k num bits : Int) (t : ByteArray) (h : t.size ≤ 100) : (valS k num bits t).length ≤ 110 := by
  have h1 := numS_len (zig num)
  have h2 := numS_len (t.size : Int)
  unfold valS
  repeat' split
  all_goals simp [be8_len, bys_len]
  all_goals omega
theorem msg_len (o : OpV) (h : o.ok) (h4 : o.n ≤ 4) (hl : o.ids.length = 32 * o.n) : (msgS o).length ≤ 400 := by
  have h1 := numS_len o.au
  have h2 := numS_len (o.n : Int)
  have h3 := numS_len o.st
  have h5 := numS_len (o.key.size : Int)
  have h6 := valS_len o.vk o.num o.bits o.t h.t
  have h7 := h.key
  unfold msgS listS
  repeat' split
  all_goals simp [bys_len]
  all_goals omega
def SameO (a b : OpV) : Prop := a.au = b.au ∧ a.ids = b.ids ∧ a.st = b.st ∧ (a.k = b.k ∧ a.key = b.key ∧ a.vk = b.vk ∧ a.num = b.num ∧ a.bits = b.bits ∧ a.t = b.t) ∧ (a.e = b.e ∧ a.s = b.s)
instance (a b : OpV) : Decidable (SameO a b) := by unfold SameO; infer_instance
end Go.Proofs.YtiohpiiiapjblaaDoor.S
