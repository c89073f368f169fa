/-
  S4: whole blocks, the bytes behind, the digest; no program in sight.
-/
import Derived.Test.YtiohpiiiapjblaaDoorS3
namespace Go.Proofs.YtiohpiiiapjblaaDoor.S
open G

theorem words_append (a b : List Int) (h : 64 ≤ a.length) : words (a ++ b) = words a := by
  unfold words
  apply List.map_congr_left
  intro t ht
  have ht := List.mem_range.1 ht
  rw [List.drop_append_of_le_length (by omega), List.take_append_of_le_length (by rw [List.length_drop]; omega)]
theorem sch_congr {a b : List Int} (h : words a = words b) : ∀ n, sch a n = sch b n
  | 0 => by rw [sch, sch, h]
  | n + 1 => by rw [sch, sch, sch_congr h n]
theorem grind_append (h a b : List Int) (hl : 64 ≤ a.length) : grind h (a ++ b) = grind h a := by
  rw [grind_eq, grind_eq, sch_congr (words_append a b hl)]
theorem grind_take (h a : List Int) (hl : 64 ≤ a.length) : grind h (a.take 64) = grind h a := by
  have := grind_append h (a.take 64) (a.drop 64) (by rw [List.length_take]; omega)
  rwa [List.take_append_drop, eq_comm] at this

def blocksN : Nat → List Int → List Int → List Int
  | 0, h, _ => h
  | n + 1, h, bs => blocksN n (grind h bs) (bs.drop 64)
/-- The words after all whole blocks. -/
def blocksS (h bs : List Int) : List Int := blocksN (bs.length / 64) h bs
/-- What lies behind the whole blocks. -/
def restS (bs : List Int) : List Int := bs.drop (bs.length / 64 * 64)
theorem blocks_lt (h bs : List Int) (hl : bs.length < 64) : blocksS h bs = h := by
  unfold blocksS; rw [Nat.div_eq_of_lt hl]; rfl
theorem rest_lt (bs : List Int) (hl : bs.length < 64) : restS bs = bs := by
  unfold restS; rw [Nat.div_eq_of_lt hl, Nat.zero_mul]; rfl
theorem blocks_ge (h bs : List Int) (hl : 64 ≤ bs.length) : blocksS (grind h bs) (bs.drop 64) = blocksS h bs := by
  unfold blocksS
  obtain ⟨k, hk⟩ : ∃ k, bs.length / 64 = k + 1 := ⟨bs.length / 64 - 1, by omega⟩
  rw [hk, List.length_drop, show (bs.length - 64) / 64 = k by omega]
  rfl
theorem rest_ge (bs : List Int) (hl : 64 ≤ bs.length) : restS (bs.drop 64) = restS bs := by
  unfold restS
  rw [List.drop_drop, List.length_drop]
  congr 1
  omega
theorem blocks_arr (h bs : List Int) (ha : Arr .u32 8 h) : Arr .u32 8 (blocksS h bs) := by
  unfold blocksS
  generalize bs.length / 64 = n
  induction n generalizing h bs with
  | zero => exact ha
  | succ n ih => exact ih _ _ (grind_arr _ _)
theorem blocks_append : ∀ (n : Nat) (h a b : List Int), a.length / 64 = n → blocksS h (a ++ b) = blocksS (blocksS h a) (restS a ++ b)
  | 0, h, a, b, hn => by rw [blocks_lt h a (by omega), rest_lt a (by omega)]
  | n + 1, h, a, b, hn => by
    rw [← blocks_ge h a (by omega), ← rest_ge a (by omega), ← blocks_ge h (a ++ b) (by rw [List.length_append]; omega), List.drop_append_of_le_length (by omega), grind_append _ _ _ (by omega)]
    exact blocks_append n _ _ b (by rw [List.length_drop]; omega)

theorem rest_append : ∀ (n : Nat) (a b : List Int), a.length / 64 = n → restS (a ++ b) = restS (restS a ++ b)
  | 0, a, b, hn => by rw [rest_lt a (by omega)]
  | n + 1, a, b, hn => by
    rw [← rest_ge a (by omega), ← rest_ge (a ++ b) (by rw [List.length_append]; omega), List.drop_append_of_le_length (by omega)]
    exact rest_append n _ b (by rw [List.length_drop]; omega)
theorem rest_le (bs : List Int) : (restS bs).length ≤ bs.length := by
  unfold restS; rw [List.length_drop]; omega
/-- A number in eight bytes. -/
def be8 (n : Int) : List Int := (List.range 8).map fun i => n / 2 ^ (56 - 8 * i) % 256
/-- What comes behind n bytes. -/
def padS (n : Int) : List Int := (128 :: List.replicate ((119 - n % 64) % 64).toNat 0) ++ be8 (8 * n)
/-- The bytes of eight words. -/
def outS (h : List Int) : List Int := (List.range 32).map fun i => h.getD (i / 4) 0 / 2 ^ (24 - 8 * (i % 4)) % 256
/-- THE DIGEST. -/
def sha (bs : List Int) : List Int := outS (blocksS IV (bs ++ padS bs.length))
theorem byte_bd (x : Int) : 0 ≤ x % 256 ∧ x % 256 < 256 := ⟨Int.emod_nonneg _ (by decide), Int.emod_lt_of_pos _ (by decide)⟩
theorem be8_len (n : Int) : (be8 n).length = 8 := by simp [be8]
theorem be8_bd (n : Int) : Bd .u8 (be8 n) := by
  intro x hx
  obtain ⟨i, _, rfl⟩ := List.mem_map.1 hx
  exact byte_bd _
theorem pad_len (n : Int) : (padS n).length = 9 + ((119 - n % 64) % 64).toNat := by simp [padS, be8_len]; omega
theorem pad_bd (n : Int) : Bd .u8 (padS n) := by
  refine Bd.append (fun x hx => ?_) (be8_bd _)
  rcases List.mem_cons.1 hx with rfl | hx
  · exact ⟨by decide, by decide⟩
  · exact Bd.zeros .u8 _ x hx
theorem out_arr (h : List Int) : Arr .u8 32 (outS h) := by
  refine ⟨by simp [outS], ?_⟩
  intro x hx
  obtain ⟨i, _, rfl⟩ := List.mem_map.1 hx
  exact byte_bd _
theorem sha_arr (bs : List Int) : Arr .u8 32 (sha bs) := out_arr _
theorem sha_eq (bs : List Int) (n : Int) (hn : n = bs.length) : outS (blocksS (blocksS IV bs) (restS bs ++ padS n)) = sha bs := by
  subst hn
  rw [← blocks_append _ _ _ _ rfl]
  rfl
theorem IV_arr : Arr .u32 8 IV := by
  refine ⟨rfl, ?_⟩
  intro x hx
  simp only [IV, List.mem_cons, List.not_mem_nil, or_false] at hx
  rcases hx with rfl | rfl | rfl | rfl | rfl | rfl | rfl | rfl <;> exact ⟨by decide, by decide⟩
/-- A list that is filled place by place. -/
theorem set_step {ys xs : List Int} (z : List Int) (i : Nat) (hx : xs = ys.take i ++ z.drop i) (hi : i < ys.length) (hz : z.length = ys.length) :
    xs.set i (ys.getD i 0) = ys.take (i + 1) ++ z.drop (i + 1) := by
  have ht : (ys.take i).length = i := by rw [List.length_take]; omega
  rw [hx, List.set_append_right _ _ (by omega), ht, Nat.sub_self, List.take_succ_eq_append_getElem hi, List.append_assoc, List.drop_eq_getElem_cons (show i < z.length by omega), List.set_cons_zero]
  congr 1
  simp [List.getD_eq_getElem?_getD, List.getElem?_eq_getElem hi]
theorem out_get (h : List Int) (i : Nat) (hi : i < 32) : (outS h).getD i 0 = h.getD (i / 4) 0 / 2 ^ (24 - 8 * (i % 4)) % 256 := by
  simp only [outS, List.getD_eq_getElem?_getD, List.getElem?_map, List.getElem?_range hi, Option.map_some, Option.getD_some]
theorem be8_get (n : Int) (i : Nat) (hi : i < 8) : (be8 n).getD i 0 = n / 2 ^ (56 - 8 * i) % 256 := by
  simp only [be8, List.getD_eq_getElem?_getD, List.getElem?_map, List.getElem?_range hi, Option.map_some, Option.getD_some]
theorem take_snoc (ys : List Int) (i : Nat) (hi : i < ys.length) : ys.take (i + 1) = ys.take i ++ [ys.getD i 0] := by
  rw [List.take_succ_eq_append_getElem hi]
  simp [List.getD_eq_getElem?_getD, List.getElem?_eq_getElem hi]
theorem be8_snoc (n i : Int) (hi : 0 ≤ i ∧ i ≤ 56) (h8 : i % 8 = 0) : (be8 n).take ((56 - (i - 8)) / 8).toNat = (be8 n).take ((56 - i) / 8).toNat ++ [n / 2 ^ i.toNat % 256] := by
  rw [show ((56 - (i - 8)) / 8).toNat = ((56 - i) / 8).toNat + 1 by omega, take_snoc _ _ (by rw [be8_len]; omega), be8_get _ _ (by omega), show 56 - 8 * ((56 - i) / 8).toNat = i.toNat by omega]
theorem be8_snoc' (n i : Int) (hi : 0 ≤ i ∧ i ≤ 7) : (be8 n).take (7 - (i - 1)).toNat = (be8 n).take (7 - i).toNat ++ [n / 2 ^ (8 * i).toNat % 256] := by
  rw [show (7 - (i - 1)).toNat = (7 - i).toNat + 1 by omega, take_snoc _ _ (by rw [be8_len]; omega), be8_get _ _ (by omega), show 56 - 8 * (7 - i).toNat = (8 * i).toNat by omega]
theorem out_step (h ids : List Int) (i w : Int) (hi : 0 ≤ i ∧ i < 8) (hw : w = h.getD i.toNat 0) (he : ids = (outS h).take (4 * i).toNat ++ (List.replicate 32 0).drop (4 * i).toNat) :
    (((ids.set (4 * i).toNat (w / 2 ^ (24 : Int).toNat % 256)).set (4 * i + 1).toNat (w / 2 ^ (16 : Int).toNat % 256)).set (4 * i + 2).toNat (w / 2 ^ (8 : Int).toNat % 256)).set (4 * i + 3).toNat (w % 256) = (outS h).take (4 * (i + 1)).toNat ++ (List.replicate 32 0).drop (4 * (i + 1)).toNat := by
  have hl : (outS h).length = 32 := (out_arr h).1
  have g : ∀ j : Nat, j < 4 → (outS h).getD ((4 * i).toNat + j) 0 = w / 2 ^ (24 - 8 * j) % 256 := by
    intro j hj
    rw [out_get _ _ (by omega), show ((4 * i).toNat + j) / 4 = i.toNat by omega, show ((4 * i).toNat + j) % 4 = j by omega, hw]
  have s0 := set_step (List.replicate 32 0) (4 * i).toNat he (by omega) (by simp [hl])
  rw [show (4 * i).toNat = (4 * i).toNat + 0 by omega, g 0 (by omega)] at s0
  have s1 := set_step (List.replicate 32 0) _ s0 (by omega) (by simp [hl])
  rw [show (4 * i).toNat + 0 + 1 = (4 * i).toNat + 1 by omega, g 1 (by omega)] at s1
  have s2 := set_step (List.replicate 32 0) _ s1 (by omega) (by simp [hl])
  rw [show (4 * i).toNat + 1 + 1 = (4 * i).toNat + 2 by omega, g 2 (by omega)] at s2
  have s3 := set_step (List.replicate 32 0) _ s2 (by omega) (by simp [hl])
  rw [show (4 * i).toNat + 2 + 1 = (4 * i).toNat + 3 by omega, g 3 (by omega)] at s3
  rw [show (4 * (i + 1)).toNat = (4 * i).toNat + 3 + 1 by omega, show (4 * i + 1).toNat = (4 * i).toNat + 1 by omega, show (4 * i + 2).toNat = (4 * i).toNat + 2 by omega, show (4 * i + 3).toNat = (4 * i).toNat + 3 by omega, ← s3]
  simp
theorem out_step1 (h ids : List Int) (i w : Int) (hi : 0 ≤ i ∧ i < 32) (hw : w = h.getD (i / 4).toNat 0) (he : ids = (outS h).take i.toNat ++ (List.replicate 32 0).drop i.toNat) :
    ids.set i.toNat (w / 2 ^ (24 - 8 * (i % 4)).toNat % 256) = (outS h).take (i + 1).toNat ++ (List.replicate 32 0).drop (i + 1).toNat := by
  have hl : (outS h).length = 32 := (out_arr h).1
  have s0 := set_step (List.replicate 32 0) i.toNat he (by omega) (by simp [hl])
  rw [out_get _ _ (by omega)] at s0
  rw [show (i + 1).toNat = i.toNat + 1 by omega, ← s0, hw, show (i / 4).toNat = i.toNat / 4 by omega, show (24 - 8 * (i % 4)).toNat = 24 - 8 * (i.toNat % 4) by omega]
theorem pad_eq (n : Int) (j : Nat) (hj : j = ((119 - n % 64) % 64).toNat) : ([128] ++ List.replicate j 0) ++ be8 (8 * n) = padS n := by
  subst hj; rfl
theorem pad_zero (n : Int) (j : Nat) (hn : 0 ≤ n) (hj : (j : Int) ≤ (119 - n % 64) % 64) (h : (n + (1 + j) + 8) % 64 = 0) : j = ((119 - n % 64) % 64).toNat := by omega
theorem pad_more (n : Int) (j : Nat) (hn : 0 ≤ n) (hj : (j : Int) ≤ (119 - n % 64) % 64) (h : ¬ (n + (1 + j) + 8) % 64 = 0) : ((j + 1 : Nat) : Int) ≤ (119 - n % 64) % 64 := by omega
attribute [irreducible] blocksS restS padS outS sha be8
end Go.Proofs.YtiohpiiiapjblaaDoor.S
