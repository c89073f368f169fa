/-
  S6: the reference's way of the digest; no program in sight.
-/
import Derived.Test.YtiohpiiiapjblaaDoorS5
namespace Go.Proofs.YtiohpiiiapjblaaDoor.S
open G
theorem be4 (a b c d : Int) : be [a, b, c, d] = ((a * 256 + b) * 256 + c) * 256 + d := by simp [be]
theorem drop_take4 (bs : List Int) (i : Nat) (h : i + 4 ≤ bs.length) : (bs.drop i).take 4 = [bs.getD i 0, bs.getD (i + 1) 0, bs.getD (i + 2) 0, bs.getD (i + 3) 0] := by
  rw [List.drop_eq_getElem_cons (show i < bs.length by omega), List.drop_eq_getElem_cons (show i + 1 < bs.length by omega), List.drop_eq_getElem_cons (show i + 1 + 1 < bs.length by omega), List.drop_eq_getElem_cons (show i + 1 + 1 + 1 < bs.length by omega)]
  have e : ∀ j (hj : j < bs.length), bs.getD j 0 = bs[j] := fun j hj => by simp [List.getD_eq_getElem?_getD, List.getElem?_eq_getElem hj]
  rw [e i (by omega), e (i + 1) (by omega), e (i + 2) (by omega), e (i + 3) (by omega)]
  rfl
theorem words_len (bs : List Int) : (words bs).length = 16 := by unfold words; simp
theorem words_snoc (bs : List Int) (i : Int) (hi : 0 ≤ i ∧ i < 16) (hb : 64 ≤ bs.length) (x y z v : Int) (h0 : x = bs.getD (4 * i).toNat 0) (h1 : y = bs.getD (4 * i + 1).toNat 0) (h2 : z = bs.getD (4 * i + 2).toNat 0) (h3 : v = bs.getD (4 * i + 3).toNat 0) :
    (words bs).take (i + 1).toNat = (words bs).take i.toNat ++ [((x * 256 + y) * 256 + z) * 256 + v] := by
  rw [show (i + 1).toNat = i.toNat + 1 by omega, take_snoc _ _ (by rw [words_len]; omega)]
  congr 2
  unfold words
  simp only [List.getD_eq_getElem?_getD, List.getElem?_map, List.getElem?_range (show i.toNat < 16 by omega), Option.map_some, Option.getD_some]
  rw [drop_take4 _ _ (by omega), be4, h0, h1, h2, h3, show (4 * i).toNat = 4 * i.toNat by omega, show (4 * i + 1).toNat = 4 * i.toNat + 1 by omega, show (4 * i + 2).toNat = 4 * i.toNat + 2 by omega, show (4 * i + 3).toNat = 4 * i.toNat + 3 by omega]
theorem sch_zero (bs : List Int) : sch bs 0 = words bs := by rw [sch]
theorem sch_snoc (bs : List Int) (t : Int) (h : 16 ≤ t ∧ t < 64) : sch bs ((t + 1).toNat - 16) = sch bs (t.toNat - 16) ++ [nextW (sch bs (t.toNat - 16)) t] := by
  rw [show (t + 1).toNat - 16 = (t.toNat - 16) + 1 by omega, sch]
  congr 3
  omega
theorem words_all (bs : List Int) : (words bs).take 16 = sch bs 0 := by rw [sch_zero, List.take_of_length_le (by rw [words_len]; exact Nat.le_refl _)]
theorem sha_of (bs : List Int) (n : Int) (hn : n = bs.length) : outS (blocksS IV (bs ++ padS n)) = sha bs := by
  rw [blocks_append _ _ _ _ rfl]
  exact sha_eq bs n hn
theorem grind_last (h v : List Int) (bs : List Int) (st : H8) (hs : st = rounds (sch bs 48) (H8.of h) 64) (hv : v = (addW h st.toL).take 8 ++ h.drop 8) (hh : h.length = 8) : v = grind h bs := by
  rw [hv, List.take_of_length_le (by rw [addW_len]; exact Nat.le_refl _), List.drop_eq_nil_of_le (by omega), List.append_nil, grind_eq, hs]
theorem toL_of (h : List Int) (hl : h.length = 8) : h = (H8.of h).toL := by
  match h, hl with
  | [a, b, c, d, e, f, g, i], _ => rfl
theorem sch_len48 (bs : List Int) : (sch bs 48).length = 64 := sch_len bs 48
end Go.Proofs.YtiohpiiiapjblaaDoor.S
