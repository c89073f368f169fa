/-
  S10: what the laws on operations ask; no program in sight.
-/
import Derived.Test.YtiohpiiiapjblaaDoorS9
namespace Go.Proofs.YtiohpiiiapjblaaDoor.S
open G
/-- What every operation that comes in meets. -/
structure OpV.rng (o : OpV) : Prop where
  au : 0 ≤ o.au ∧ o.au < 4294967296
  st : 0 ≤ o.st ∧ o.st < 18446744073709551616
  k : 0 ≤ o.k ∧ o.k < 256
  vk : 0 ≤ o.vk ∧ o.vk < 256
  num : -9223372036854775808 ≤ o.num ∧ o.num ≤ 9223372036854775807
  bits : 0 ≤ o.bits ∧ o.bits < 18446744073709551616
  e : 0 ≤ o.e ∧ o.e < 4294967296
  s : 0 ≤ o.s ∧ o.s < 4294967296
theorem OpV.rng.ok {o : OpV} (h : o.rng) (hG : ¬ (20 < o.n ∨ 100 < o.key.size ∨ 100 < o.t.size)) : o.ok :=
  ⟨h.au, h.st, h.k, h.vk, h.num, h.bits, h.e, h.s, by omega, by omega, by omega⟩
theorem sameO_refl (o : OpV) : SameO o o := ⟨rfl, rfl, rfl, ⟨rfl, rfl, rfl, rfl, rfl, rfl⟩, rfl, rfl⟩
theorem msgX_len (o : OpV) (h : o.ok) (hl : o.ids.length = 32 * o.n) : (if checkE o.bare = 0 then msgS o else []).length ≤ 400 := by
  split
  · rename_i hz
    exact msg_len o h (check_zero.1 hz).1 hl
  · simp
theorem encX_len (o : OpV) (h : o.ok) (hl : o.ids.length = 32 * o.n) : (if checkE o = 0 then encS o else []).length ≤ 418 := by
  split
  · rename_i hz
    have h1 := msg_len o h (check_zero.1 hz).1 hl
    have h2 := numS_len o.e
    have h3 := numS_len o.s
    unfold encS
    rw [List.length_append, List.length_append]
    omega
  · simp
theorem idX_arr (o : OpV) : Arr .u8 32 (if checkE o = 0 then sha (encS o) else List.replicate 32 0) := by
  split
  · exact sha_arr _
  · exact Arr.zeros .u8 32
end Go.Proofs.YtiohpiiiapjblaaDoor.S
