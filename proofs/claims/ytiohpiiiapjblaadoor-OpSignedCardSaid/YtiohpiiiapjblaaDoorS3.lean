/-
  S3: the schedule and the rounds of the digest, no program in sight.
-/
import Derived.Test.YtiohpiiiapjblaaDoorS2
namespace Go.Proofs.YtiohpiiiapjblaaDoor.S
open G

def s0 (x : Int) : Int := ixor (ixor (rotr x 7) (rotr x 18)) (x / 2 ^ (3 : Int).toNat)
def s1 (x : Int) : Int := ixor (ixor (rotr x 17) (rotr x 19)) (x / 2 ^ (10 : Int).toNat)
def words (b : List Int) : List Int := (List.range 16).map fun t => be ((b.drop (4 * t)).take 4)
def nextW (ws : List Int) (t : Int) : Int :=
  (((ws.getD (t - 16).toNat 0 + ws.getD (t - 7).toNat 0) % 4294967296 + s0 (ws.getD (t - 15).toNat 0)) % 4294967296 + s1 (ws.getD (t - 2).toNat 0)) % 4294967296
def sch (b : List Int) : Nat → List Int
  | 0 => words b
  | n + 1 => sch b n ++ [nextW (sch b n) (n + 16 : Nat)]
theorem sch_len (b : List Int) : ∀ n, (sch b n).length = n + 16
  | 0 => by simp [sch, words]
  | n + 1 => by rw [sch, List.length_append, sch_len b n, List.length_singleton]

/-- The words while the bytes come. -/
def PW (b : List Int) (i : Nat) (W : List Int) : Prop := ∀ t, t < 64 → W.getD t 0 = be (((b.take i).drop (4 * t)).take 4)
theorem PW_zero (b : List Int) : PW b 0 (List.replicate 64 0) := by
  intro t ht
  rw [List.getD_eq_getElem?_getD, List.getElem?_replicate, if_pos ht, List.take_zero, List.drop_nil, List.take_nil]
  rfl
theorem pow256 {m n : Nat} (h : m ≤ n) : (256 : Int) ^ m ≤ 256 ^ n := by
  have := Nat.pow_le_pow_right (show 0 < 256 by decide) h
  have e : ∀ k : Nat, (256 : Int) ^ k = ((256 ^ k : Nat) : Int) := fun k => (Int.natCast_pow 256 k).symm
  rw [e, e]
  omega
theorem getD_set (W : List Int) (i j : Nat) (v : Int) (hi : i < W.length) : (W.set i v).getD j 0 = if i = j then v else W.getD j 0 := by
  simp only [List.getD_eq_getElem?_getD, List.getElem?_set]
  split
  · rename_i h; subst h; simp [hi]
  · rfl
theorem PW_step (b W : List Int) (i x : Int) (hi : 0 ≤ i ∧ i < 64) (hW : W.length = 64) (hb : 64 ≤ b.length) (hB : Bd .u8 b) (hx : x = b.getD i.toNat 0) (h : PW b i.toNat W) :
    PW b (i + 1).toNat (W.set (i / 4).toNat (ior (W.getD (i / 4).toNat 0 * 2 ^ (8 : Int).toNat % 4294967296) x)) := by
  intro t ht
  have hx2 := hB.get i.toNat
  rw [← hx] at hx2
  simp only [lim] at hx2
  rw [getD_set _ _ _ _ (by omega)]
  have e1 : b.take (i + 1).toNat = b.take i.toNat ++ [x] := by
    rw [show (i + 1).toNat = i.toNat + 1 by omega, List.take_succ_eq_append_getElem (by omega), hx]
    simp [List.getD_eq_getElem?_getD, List.getElem?_eq_getElem (show i.toNat < b.length by omega)]
  have hl : (b.take i.toNat).length = i.toNat := by simp; omega
  have key : ((b.take i.toNat ++ [x]).drop (4 * t)) = if 4 * t ≤ i.toNat then (b.take i.toNat).drop (4 * t) ++ [x] else [] := by
    split
    · rw [List.drop_append_of_le_length (by omega)]
    · exact List.drop_eq_nil_of_le (by rw [List.length_append, hl, List.length_singleton]; omega)
  have hd : ((b.take i.toNat).drop (4 * t)).length = i.toNat - 4 * t := by rw [List.length_drop, hl]
  have hbd := be_bd _ ((hB.take i.toNat).drop (4 * t))
  have hWt := h t ht
  rw [e1, key]
  generalize (b.take i.toNat).drop (4 * t) = D at *
  split
  · rename_i he
    rw [he, hWt]
    rw [if_pos (by omega), List.take_of_length_le (by omega), List.take_of_length_le (by rw [List.length_append, List.length_singleton]; omega), be_snoc]
    rw [hd] at hbd
    have hp : (256 : Int) ^ (i.toNat - 4 * t) ≤ 256 ^ 3 := pow256 (by omega)
    have h256 : (256 : Int) ^ 3 = 16777216 := by decide
    have h8 : (2 : Int) ^ (8 : Int).toNat = 256 := by decide
    rw [h8, Int.emod_eq_of_lt (by omega) (by omega)]
    exact ior_add _ _ hbd.1 hx2
  · rename_i he
    rw [hWt]
    split
    · rw [List.take_append_of_le_length (by omega)]
    · obtain rfl : D = [] := List.length_eq_zero_iff.1 (by omega)
      rfl
theorem take_words (b W : List Int) (hb : 64 ≤ b.length) (hW : W.length = 64) (h : PW b 64 W) : W.take 16 = sch b 0 := by
  rw [sch]
  apply List.ext_getElem
  · simp [words, hW]
  intro t h1 h2
  have ht : t < 16 := by simp at h1; omega
  have := h t (by omega)
  rw [List.getD_eq_getElem?_getD, List.getElem?_eq_getElem (by omega)] at this
  simp only [List.getElem_take, words, List.getElem_map, List.getElem_range]
  rw [show W[t] = _ from this, List.drop_take, List.take_take, show min 4 (64 - 4 * t) = 4 by omega]
theorem nextW_bd (ws : List Int) (t : Int) : 0 ≤ nextW ws t ∧ nextW ws t < 4294967296 := ⟨Int.emod_nonneg _ (by decide), Int.emod_lt_of_pos _ (by decide)⟩
theorem words_bd (b : List Int) (hB : Bd .u8 b) : Bd .u32 (words b) := by
  intro x hx
  obtain ⟨t, _, rfl⟩ := List.mem_map.1 hx
  have h := be_bd _ ((hB.drop (4 * t)).take 4)
  have hp : (256 : Int) ^ ((b.drop (4 * t)).take 4).length ≤ 256 ^ 4 := pow256 (by simp; omega)
  have h256 : (256 : Int) ^ 4 = 4294967296 := by decide
  simp only [lim]
  omega
theorem sch_bd (b : List Int) (hB : Bd .u8 b) : ∀ n, Bd .u32 (sch b n)
  | 0 => words_bd b hB
  | n + 1 => (sch_bd b hB n).append (by intro x hx; obtain rfl := List.mem_singleton.1 hx; exact nextW_bd _ _)
theorem sch_arr (b : List Int) (hB : Bd .u8 b) : Arr .u32 64 (sch b 48) := ⟨sch_len b 48, sch_bd b hB 48⟩
theorem take_getD (W : List Int) (n j : Nat) (h : j < n) : (W.take n).getD j 0 = W.getD j 0 := by
  simp [List.getD_eq_getElem?_getD, List.getElem?_take, h]
theorem take64 (b : List Int) (i : Int) (h : 0 ≤ i ∧ i < 64) : ((b.drop 0).take (64 - 0)).getD i.toNat 0 = b.getD i.toNat 0 := by
  rw [List.drop_zero, take_getD _ _ _ (by omega)]
theorem sch_step (b W : List Int) (t : Int) (ht : 16 ≤ t ∧ t < 64) (hW : W.length = 64) (h : W.take t.toNat = sch b (t.toNat - 16)) :
    (W.set t.toNat (nextW W t)).take (t + 1).toNat = sch b ((t + 1).toNat - 16) := by
  rw [show (t + 1).toNat = t.toNat + 1 by omega, List.take_succ_eq_append_getElem (by rw [List.length_set]; omega), List.getElem_set_self, List.take_set_of_le (Nat.le_refl _), h,
    show t.toNat + 1 - 16 = (t.toNat - 16) + 1 by omega, sch]
  congr 2
  have e : ((t.toNat - 16 + 16 : Nat) : Int) = t := by omega
  rw [e, ← h]
  unfold nextW
  rw [take_getD _ _ _ (by omega), take_getD _ _ _ (by omega), take_getD _ _ _ (by omega), take_getD _ _ _ (by omega)]

/-- The eight words that the rounds turn over. -/
structure H8 where
  (a b c d e f g h : Int)
def H8.toL (s : H8) : List Int := [s.a, s.b, s.c, s.d, s.e, s.f, s.g, s.h]
def W32 (x : Int) : Prop := 0 ≤ x ∧ x < 4294967296
def H8.ok (s : H8) : Prop := W32 s.a ∧ W32 s.b ∧ W32 s.c ∧ W32 s.d ∧ W32 s.e ∧ W32 s.f ∧ W32 s.g ∧ W32 s.h
def H8.of (h : List Int) : H8 := ⟨h.getD 0 0, h.getD 1 0, h.getD 2 0, h.getD 3 0, h.getD 4 0, h.getD 5 0, h.getD 6 0, h.getD 7 0⟩
theorem H8.of_ok (h : List Int) (hb : Bd .u32 h) : (H8.of h).ok := ⟨hb.get 0, hb.get 1, hb.get 2, hb.get 3, hb.get 4, hb.get 5, hb.get 6, hb.get 7⟩
def pp (k w : Int) (s : H8) : Int := ((((s.h + mix s.e 6 11 25) % 4294967296 + ixor (iand s.e s.f) (iand (4294967295 - s.e) s.g)) % 4294967296 + k) % 4294967296 + w) % 4294967296
def qq (s : H8) : Int := (mix s.a 2 13 22 + ixor (ixor (iand s.a s.b) (iand s.a s.c)) (iand s.b s.c)) % 4294967296
def rnd (k w : Int) (s : H8) : H8 := ⟨(pp k w s + qq s) % 4294967296, s.a, s.b, s.c, (s.d + pp k w s) % 4294967296, s.e, s.f, s.g⟩
theorem mod_bd (x : Int) : W32 (x % 4294967296) := ⟨Int.emod_nonneg _ (by decide), Int.emod_lt_of_pos _ (by decide)⟩
theorem rnd_ok (k w : Int) (s : H8) (h : s.ok) : (rnd k w s).ok := ⟨mod_bd _, h.1, h.2.1, h.2.2.1, mod_bd _, h.2.2.2.2.1, h.2.2.2.2.2.1, h.2.2.2.2.2.2.1⟩
def rounds (ws : List Int) (s : H8) : Nat → H8
  | 0 => s
  | n + 1 => rnd (KK.getD n 0) (ws.getD n 0) (rounds ws s n)
theorem rounds_ok (ws : List Int) (s : H8) (h : s.ok) : ∀ n, (rounds ws s n).ok
  | 0 => h
  | n + 1 => rnd_ok _ _ _ (rounds_ok ws s h n)
theorem ok_arr (s : H8) (h : s.ok) : Arr .u32 8 s.toL := by
  refine ⟨rfl, ?_⟩
  obtain ⟨o1, o2, o3, o4, o5, o6, o7, o8⟩ := h
  intro x hx
  simp only [H8.toL, List.mem_cons, List.not_mem_nil, or_false] at hx
  rcases hx with rfl | rfl | rfl | rfl | rfl | rfl | rfl | rfl <;> assumption
/-- The words behind those of a block. -/
def addW (h v : List Int) : List Int := (List.range 8).map fun i => (h.getD i 0 + v.getD i 0) % 4294967296
def grind (h b : List Int) : List Int := addW h (rounds (sch b 48) (H8.of h) 64).toL
theorem grind_arr (h b : List Int) : Arr .u32 8 (grind h b) := by
  refine ⟨by simp [grind, addW], ?_⟩
  intro x hx
  obtain ⟨i, _, rfl⟩ := List.mem_map.1 hx
  exact mod_bd _
theorem add_step (h v xs : List Int) (i : Int) (hi : 0 ≤ i ∧ i < 8) (hl : xs.length = 8) (h1 : xs = (addW h v).take i.toNat ++ h.drop i.toNat) (hh : h.length = 8) :
    xs.set i.toNat ((xs.getD i.toNat 0 + v.getD i.toNat 0) % 4294967296) = (addW h v).take (i + 1).toNat ++ h.drop (i + 1).toNat := by
  have ha : (addW h v).length = 8 := by simp [addW]
  have ht : ((addW h v).take i.toNat).length = i.toNat := by simp [ha]; omega
  have e1 : xs.getD i.toNat 0 = h.getD i.toNat 0 := by
    rw [h1, List.getD_eq_getElem?_getD, List.getElem?_append_right (by omega), ht, List.getElem?_drop, ← List.getD_eq_getElem?_getD]
    congr 1; omega
  rw [e1, h1, List.set_append_right _ _ (by omega), ht, Nat.sub_self, show (i + 1).toNat = i.toNat + 1 by omega, List.take_succ_eq_append_getElem (by omega), List.append_assoc]
  congr 1
  rw [List.drop_eq_getElem_cons (show i.toNat < h.length by omega), List.set_cons_zero]
  simp [addW]
theorem rounds_zero (ws : List Int) (s : H8) : rounds ws s 0 = s := rfl
theorem rounds_succ (ws : List Int) (s : H8) (n : Nat) : rounds ws s (n + 1) = rnd (KK.getD n 0) (ws.getD n 0) (rounds ws s n) := rfl
theorem grind_eq (h b : List Int) : grind h b = addW h (rounds (sch b 48) (H8.of h) 64).toL := rfl
theorem addW_len (h v : List Int) : (addW h v).length = 8 := by simp [addW]
attribute [irreducible] sch rounds words addW grind
end Go.Proofs.YtiohpiiiapjblaaDoor.S
