/-
  S5: numbers in bytes, ids in order; no program in sight.
-/
import Derived.Test.YtiohpiiiapjblaaDoorS4
import Derived.Test.YtiohpiiiapjblaaDoorG13
import GoSem.Extern.BytealgCompare
namespace Go.Proofs.YtiohpiiiapjblaaDoor.S
open G

/-- How many bytes a number has. -/
def blen (n : Int) : Nat :=
  if n ≤ 0 then 0 else if n < 256 then 1 else if n < 65536 then 2 else if n < 16777216 then 3 else if n < 4294967296 then 4 else if n < 1099511627776 then 5 else if n < 281474976710656 then 6 else if n < 72057594037927936 then 7 else 8
theorem blen_zero : blen 0 = 0 := rfl
theorem blen_step (n : Int) (h : 0 < n) (h2 : n < 18446744073709551616) : blen n = blen (n / 256) + 1 := by
  have e0 : n / 256 ≤ 0 ↔ n < 256 := by omega
  have e1 : n / 256 < 256 ↔ n < 65536 := by omega
  have e2 : n / 256 < 65536 ↔ n < 16777216 := by omega
  have e3 : n / 256 < 16777216 ↔ n < 4294967296 := by omega
  have e4 : n / 256 < 4294967296 ↔ n < 1099511627776 := by omega
  have e5 : n / 256 < 1099511627776 ↔ n < 281474976710656 := by omega
  have e6 : n / 256 < 281474976710656 ↔ n < 72057594037927936 := by omega
  have e7 : n / 256 < 72057594037927936 := by omega
  have e8 : ¬ n ≤ 0 := by omega
  simp only [blen, e0, e1, e2, e3, e4, e5, e6, e7, e8, if_true, if_false]
  repeat' split
  all_goals rfl
theorem blen_le (n : Int) : blen n ≤ 8 := by
  simp only [blen]
  repeat' split
  all_goals omega
theorem blen_pos (n : Int) (h : 0 < n) : 0 < blen n := by
  simp only [blen]
  repeat' split
  all_goals omega
/-- The digits, the lowest one first. -/
def leK : Nat → Int → List Int
  | 0, _ => []
  | k + 1, n => n % 256 :: leK k (n / 256)
theorem leK_len : ∀ (k : Nat) (n : Int), (leK k n).length = k
  | 0, _ => rfl
  | k + 1, n => by rw [leK, List.length_cons, leK_len k]
theorem leK_bd : ∀ (k : Nat) (n : Int), Bd .u8 (leK k n)
  | 0, _ => Bd.nil _
  | k + 1, n => by
    intro x hx
    rcases List.mem_cons.1 hx with rfl | hx
    · exact byte_bd _
    · exact leK_bd k _ x hx
theorem leK_get : ∀ (k : Nat) (n : Int) (i : Nat), i < k → (leK k n).getD i 0 = n / 2 ^ (8 * i) % 256
  | 0, _, _, h => by omega
  | k + 1, n, 0, _ => by simp [leK]
  | k + 1, n, i + 1, h => by
    rw [leK, List.getD_cons_succ, leK_get k _ i (by omega), Int.ediv_ediv_of_nonneg (by decide)]
    congr 2
    rw [show 8 * (i + 1) = 8 + 8 * i by omega, Int.pow_add]
    rfl
/-- THE BYTES OF A NUMBER. -/
def numS (n : Int) : List Int := if n ≤ 247 then [n] else (247 + (blen n : Int)) :: (leK (blen n) n).reverse
theorem numS_small (n : Int) (h : n ≤ 247) : numS n = [n] := by unfold numS; rw [if_pos h]
theorem numS_large (n : Int) (h : ¬ n ≤ 247) : numS n = (247 + (blen n : Int)) :: (leK (blen n) n).reverse := by unfold numS; rw [if_neg h]
theorem numS_len (n : Int) : 1 ≤ (numS n).length ∧ (numS n).length ≤ 9 := by
  have := blen_le n
  unfold numS
  split
  · simp
  · simp [leK_len]; omega
theorem numS_bd (n : Int) (h : 0 ≤ n) : Bd .u8 (numS n) := by
  have := blen_le n
  unfold numS
  split
  · intro x hx
    obtain rfl := List.mem_singleton.1 hx
    simp only [lim]; omega
  · intro x hx
    rcases List.mem_cons.1 hx with rfl | hx
    · simp only [lim]; omega
    · exact leK_bd _ _ x (List.mem_reverse.1 hx)
/-- The bytes of a number while they are written. -/
def numP (n : Int) (i : Nat) : List Int := (247 + (blen n : Int)) :: (List.replicate (blen n - i) 0 ++ ((leK (blen n) n).take i).reverse)
theorem numP_zero (n : Int) : numP n 0 = (247 + (blen n : Int)) :: List.replicate (blen n) 0 := by simp [numP]
theorem numP_step (n : Int) (i : Nat) (h : i < blen n) : (numP n i).set (blen n - i) (n / 2 ^ (8 * i) % 256) = numP n (i + 1) := by
  rw [← leK_get (blen n) n i h]
  unfold numP
  obtain ⟨m, hm⟩ : ∃ m, blen n - i = m + 1 := ⟨blen n - i - 1, by omega⟩
  rw [hm, show blen n - (i + 1) = m by omega, List.set_cons_succ, take_snoc _ _ (by rw [leK_len]; exact h), List.reverse_append]
  congr 1
  rw [List.replicate_succ', List.append_assoc, List.set_append_right _ _ (by simp), List.length_replicate, Nat.sub_self]
  rfl
theorem numP_all (n : Int) (h : ¬ n ≤ 247) : numP n (blen n) = numS n := by
  rw [numS_large n h, numP, Nat.sub_self, List.take_of_length_le (by rw [leK_len]; exact Nat.le_refl _)]
  rfl
theorem numP_len (n : Int) (i : Nat) (h : i ≤ blen n) : (numP n i).length = blen n + 1 := by
  simp [numP, leK_len]; omega
/-- A table of the lengths of bytes. -/
def tabOk (xs : List Int) : Bool := Nat.beq xs.length 256 && xs.head? == some 0 && xs.tail.all fun x => decide (1 ≤ x) && decide (x ≤ 8)
theorem tab_get (xs : List Int) (h : tabOk xs = true) (i : Int) (hi : 0 ≤ i ∧ i < 256) : (i = 0 → xs.getD i.toNat 0 = 0) ∧ (0 < i → 1 ≤ xs.getD i.toNat 0) ∧ 0 ≤ xs.getD i.toNat 0 ∧ xs.getD i.toNat 0 ≤ 8 := by
  simp only [tabOk, Bool.and_eq_true] at h
  obtain ⟨⟨h1, h2⟩, h3⟩ := h
  have h1 := Nat.eq_of_beq_eq_true h1
  cases xs with
  | nil => simp at h1
  | cons a r =>
    simp only [List.head?_cons, beq_iff_eq, Option.some.injEq] at h2
    subst h2
    by_cases h0 : i = 0
    · subst h0; simp
    · obtain ⟨m, hm⟩ : ∃ m, i.toNat = m + 1 := ⟨i.toNat - 1, by omega⟩
      rw [hm, List.getD_cons_succ]
      have hr : m < r.length := by simp at h1; omega
      have := List.all_eq_true.1 h3 (r.getD m 0) (by simp only [List.tail_cons, List.getD_eq_getElem?_getD, List.getElem?_eq_getElem hr, Option.getD_some]; exact List.getElem_mem hr)
      simp only [Bool.and_eq_true, decide_eq_true_eq] at this
      omega

/-- Bytes compared, the first ones first. -/
def cmpS : List Int → List Int → Int
  | [], [] => 0
  | [], _ :: _ => -1
  | _ :: _, [] => 1
  | x :: xs, y :: ys => if x < y then -1 else if y < x then 1 else cmpS xs ys
theorem cmpS_rng : ∀ (a b : List Int), cmpS a b = -1 ∨ cmpS a b = 0 ∨ cmpS a b = 1
  | [], [] => by simp [cmpS]
  | [], _ :: _ => by simp [cmpS]
  | _ :: _, [] => by simp [cmpS]
  | x :: xs, y :: ys => by
    unfold cmpS
    split
    · simp
    · split
      · simp
      · exact cmpS_rng xs ys
theorem cmpS_swap : ∀ (a b : List Int), cmpS b a = - cmpS a b
  | [], [] => by simp [cmpS]
  | [], _ :: _ => by simp [cmpS]
  | _ :: _, [] => by simp [cmpS]
  | x :: xs, y :: ys => by
    have ih := cmpS_swap xs ys
    simp only [cmpS]
    repeat' split
    all_goals omega
theorem cmpS_eq : ∀ (a b : List Int), cmpS a b = 0 ↔ a = b
  | [], [] => by simp [cmpS]
  | [], _ :: _ => by simp [cmpS]
  | _ :: _, [] => by simp [cmpS]
  | x :: xs, y :: ys => by
    have ih := cmpS_eq xs ys
    unfold cmpS
    split
    · simp; omega
    · split
      · simp; omega
      · have : x = y := by omega
        simp [ih, this]
theorem cmpS_step (a b : List Int) (i : Nat) (ha : i < a.length) (hb : i < b.length) :
    cmpS (a.drop i) (b.drop i) = if a.getD i 0 < b.getD i 0 then -1 else if b.getD i 0 < a.getD i 0 then 1 else cmpS (a.drop (i + 1)) (b.drop (i + 1)) := by
  rw [List.drop_eq_getElem_cons ha, List.drop_eq_getElem_cons hb]
  simp [cmpS, List.getD_eq_getElem?_getD, List.getElem?_eq_getElem ha, List.getElem?_eq_getElem hb]

/-- An id in a row of ids. -/
def idAt (ids : List Int) (i : Nat) : List Int := (ids.drop (32 * i)).take 32
theorem idAt_len (ids : List Int) (i n : Nat) (h : ids.length = 32 * n) (hi : i < n) : (idAt ids i).length = 32 := by
  unfold idAt; rw [List.length_take, List.length_drop]; omega
def Rising (n : Nat) (ids : List Int) : Prop := ∀ i, i < n - 1 → cmpS (idAt ids i) (idAt ids (i + 1)) < 0
instance (n : Nat) (ids : List Int) : Decidable (Rising n ids) := by unfold Rising; infer_instance
def Sorted (n : Nat) (ids : List Int) : Prop := ∀ i, i < n - 1 → ¬ cmpS (idAt ids (i + 1)) (idAt ids i) < 0
def Apart (n : Nat) (ids : List Int) : Prop := ∀ i, i < n - 1 → idAt ids (i + 1) ≠ idAt ids i
theorem rising_iff (n : Nat) (ids : List Int) : Rising n ids ↔ Sorted n ids ∧ Apart n ids := by
  have key : ∀ a b : List Int, cmpS a b < 0 ↔ ¬ cmpS b a < 0 ∧ b ≠ a := by
    intro a b
    have h1 := cmpS_swap a b
    have h2 := cmpS_rng a b
    have h3 := cmpS_eq a b
    constructor
    · intro h
      exact ⟨by omega, fun e => by have := h3.2 e.symm; omega⟩
    · rintro ⟨h, hn⟩
      have : cmpS a b ≠ 0 := fun e => hn (h3.1 e).symm
      omega
  unfold Rising Sorted Apart
  constructor
  · intro h
    exact ⟨fun i hi => ((key _ _).1 (h i hi)).1, fun i hi => ((key _ _).1 (h i hi)).2⟩
  · rintro ⟨h1, h2⟩ i hi
    exact (key _ _).2 ⟨h1 i hi, h2 i hi⟩

/-- The kit's compare of bytes. -/
theorem cmp_go (p q : Int) : ∀ (xs ys : List UInt8), (match (List.range (min xs.length ys.length)).find? fun i => xs.getD i 0 != ys.getD i 0 with
    | some i => if xs.getD i 0 < ys.getD i 0 then (-1 : Int) else 1
    | none => if xs.length < ys.length then -1 else if xs.length > ys.length then 1 else 0) = cmpS (xs.map fun b => (b.toNat : Int)) (ys.map fun b => (b.toNat : Int))
  | [], [] => by simp [cmpS]
  | [], _ :: _ => by simp [cmpS]
  | _ :: _, [] => by simp [cmpS]
  | x :: xs, y :: ys => by
    have ih := cmp_go p q xs ys
    simp only [List.length_cons, List.map_cons, cmpS]
    rw [show min (xs.length + 1) (ys.length + 1) = min xs.length ys.length + 1 by omega, List.range_succ_eq_map, List.find?_cons]
    simp only [List.getD_cons_zero]
    by_cases h : x = y
    · subst h
      simp only [bne_self_eq_false, List.find?_map, Int.lt_irrefl, if_false]
      rw [← ih]
      simp only [Function.comp_def, Nat.succ_eq_add_one, List.getD_cons_succ]
      cases (List.range (min xs.length ys.length)).find? fun i => xs.getD i 0 != ys.getD i 0 with
      | none => simp
      | some i => simp
    · have h1 : (x != y) = true := by simpa using h
      simp only [h1, List.getD_cons_zero]
      have h2 : x.toNat ≠ y.toNat := fun e => h (UInt8.toNat_inj.1 e)
      by_cases hlt : x < y
      · have := UInt8.lt_iff_toNat_lt.1 hlt
        rw [if_pos hlt, if_pos (by omega)]
      · have : ¬ x.toNat < y.toNat := fun e => hlt (UInt8.lt_iff_toNat_lt.2 e)
        rw [if_neg hlt, if_neg (by omega), if_pos (by omega)]
theorem cmp_eq (A B : ByteArray) : Go.Extern.BytealgCompare.cmp A B = cmpS (bys A) (bys B) := by
  rw [bys, bys, ← cmp_go 0 0]
  have hA : A.size = A.data.toList.length := by rw [Array.length_toList]; rfl
  have hB : B.size = B.data.toList.length := by rw [Array.length_toList]; rfl
  have ga : ∀ (C : ByteArray) (i : Nat), C[i]! = C.data.toList.getD i 0 := by
    intro C i
    by_cases h : i < C.size
    · rw [getElem!_pos C i h]
      simp only [List.getD_eq_getElem?_getD]
      rw [List.getElem?_eq_getElem (by simpa using h)]
      rfl
    · rw [getElem!_neg C i h]
      simp only [List.getD_eq_getElem?_getD]
      rw [List.getElem?_eq_none (by simpa using h)]
      rfl
  simp only [Go.Extern.BytealgCompare.cmp, hA, hB, ga]
  generalize List.find? _ _ = o
  cases o <;> rfl
theorem cmp_run {P : Program} {w : World} {S T : Nat → Prop} {a a2 : Option Addr} {n n2 c c2 : Nat} {xs ys : List Int} (h : IRow .u8 S w a n xs) (h2 : IRow .u8 T w a2 n2 ys) :
    (Go.Extern.BytealgCompare.compare [.slice a n c, .slice a2 n2 c2].toArray).run P w = .ok (.int .i64 (cmpS xs ys)) w := by
  show ((do pure (goInt (Go.Extern.BytealgCompare.cmp (← Go.Extern.Bytes.bytesOf (.slice a n c)) (← Go.Extern.Bytes.bytesOf (.slice a2 n2 c2)))) : Sem Value)).run P w = _
  simp only [Sem.run_bind, bytesOf_run h, bytesOf_run h2, Result.andThen, Sem.run_pure]
  rw [cmp_eq, bys_strOf _ h.bd, bys_strOf _ h2.bd]
  rfl
end Go.Proofs.YtiohpiiiapjblaaDoor.S
