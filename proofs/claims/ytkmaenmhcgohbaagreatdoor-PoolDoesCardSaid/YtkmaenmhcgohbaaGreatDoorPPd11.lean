/-
  Part 11 of the lemmas of these laws: PoolDoes.
-/
import Derived.Test.YtkmaenmhcgohbaaGreatDoorPPd10
set_option linter.unusedSimpArgs false
namespace Go.Proofs.YtkmaenmhcgohbaaGreatDoor.S
open G
set_option linter.unusedVariables false
structure JbV where
  (t : Int) (b : List Int)
structure HdV where
  (s jt : Int) (b : List Int) (j : JdV)
structure PlV where
  (cap : Int) (js : List JbV) (hs : List HdV) (ds : List JdV)
noncomputable instance : DecidableEq PlV := fun _ _ => Classical.propDecidable _
noncomputable instance : DecidableEq JdV := fun _ _ => Classical.propDecidable _
noncomputable instance : DecidableEq JbV := fun _ _ => Classical.propDecidable _
noncomputable instance : DecidableEq HdV := fun _ _ => Classical.propDecidable _
def JdV.zero : JdV := ⟨0, 0, OpV.zero, List.replicate 32 0⟩
def HdV.zero : HdV := ⟨0, 0, [], JdV.zero⟩
def JbV.zero : JbV := ⟨0, []⟩
def PlV.zero : PlV := ⟨0, [], [], []⟩
theorem sameJ_eq {a b : JdV} (ha : a.o.wide) (hb : b.o.wide) : SameJ a b ↔ a = b := by
  unfold SameJ
  constructor
  · rintro ⟨h1, h2, h3, h4⟩
    have h5 := (sameO_eq ha hb).1 h4
    cases a; cases b
    simp only at h1 h2 h3 h5
    subst h1 h2 h3 h5
    rfl
  · rintro rfl
    exact ⟨rfl, rfl, rfl, (sameO_eq ha hb).2 rfl⟩
def jobZ (h : HdV) : Prop := h.jt = 0 ∧ h.b.length = 0
def judZ (h : HdV) : Prop := NoO h.j.o h.j.id ∧ h.j.t = 0 ∧ h.j.v = 0
def handT (h : HdV) : Int := if h.s = 1 then h.jt else if h.s = 2 then h.j.t else -1
def handL (h : HdV) : List Int := if h.s = 1 then [h.jt] else if h.s = 2 then [h.j.t] else []
def handP (h : HdV) : Prop := (h.s = 0 ∧ jobZ h ∧ judZ h) ∨ (h.s = 1 ∧ judZ h ∧ TickP h.jt) ∨ (h.s = 2 ∧ jobZ h ∧ FindP h.j)
noncomputable instance (h : HdV) : Decidable (handP h) := Classical.propDecidable _
theorem handL_eq {h : HdV} (hp : handP h) : handL h = if 0 ≤ handT h then [handT h] else [] := by
  unfold handL handT
  rcases hp with h1 | h1 | h1
  · simp [h1.1]
  · have := h1.2.2.1
    simp [h1.1, this]
  · have := h1.2.2.1.1
    simp [h1.1, this]
@[reducible] def PlV.dT (v : PlV) : List Int := v.ds.map JdV.t
@[reducible] def PlV.hT (v : PlV) : List Int := v.hs.map handT
@[reducible] def PlV.jT (v : PlV) : List Int := v.js.map JbV.t
def PlV.tk (v : PlV) : List Int := v.dT ++ v.hs.flatMap handL
def maxL : List Int → Int
  | [] => 0
  | x :: l => l.foldl max x
theorem foldl_max : ∀ (l : List Int) (x k : Int), l.foldl max x < k ↔ x < k ∧ ∀ y ∈ l, y < k
  | [], x, k => by simp
  | y :: l, x, k => by
    rw [List.foldl_cons, foldl_max l]
    simp only [List.mem_cons, forall_eq_or_imp]
    constructor
    · rintro ⟨h1, h2⟩; exact ⟨by omega, by omega, h2⟩
    · rintro ⟨h1, h2, h3⟩; exact ⟨by omega, h3⟩
theorem maxL_lt {l : List Int} (hl : l ≠ []) {k : Int} : maxL l < k ↔ ∀ y ∈ l, y < k := by
  cases l with
  | nil => exact absurd rfl hl
  | cons x l =>
    unfold maxL
    rw [foldl_max]
    simp
def C1 (v : PlV) : Prop := 1 ≤ v.cap ∧ v.cap ≤ 8 ∧ (v.js.length : Int) ≤ v.cap ∧ 1 ≤ v.hs.length ∧ v.hs.length ≤ 3 ∧ v.ds.length ≤ 60
def dn1 (v : PlV) (k : Nat) : Prop := FindP (v.ds.getD k JdV.zero) ∧ (0 < k → v.dT.getD (k - 1) 0 < v.dT.getD k 0)
def C2 (v : PlV) : Prop := ∀ k, k < v.ds.length → dn1 v k
def hd1 (v : PlV) (k : Nat) : Prop := handP (v.hs.getD k HdV.zero) ∧ (0 ≤ v.hT.getD k 0 → ¬ v.hT.getD k 0 ∈ v.dT ++ v.hT.take k)
def C3 (v : PlV) : Prop := ∀ k, k < v.hs.length → hd1 v k
def lastT (v : PlV) (k : Nat) : Int := if k = 0 then maxL (v.dT ++ v.hT) else v.jT.getD (k - 1) 0
def jb1 (v : PlV) (k : Nat) : Prop := TickP (v.jT.getD k 0) ∧ lastT v k < v.jT.getD k 0
def C4 (v : PlV) : Prop := ∀ k, k < v.js.length → jb1 v k
def vldP (v : PlV) : Prop := C1 v ∧ C2 v ∧ C3 v ∧ C4 v
noncomputable instance (v : PlV) : Decidable (vldP v) := Classical.propDecidable _
noncomputable def vldE (v : PlV) : Int := if vldP v then 0 else 8
def R3 (v : PlV) : Prop := ∀ k, k < v.hs.length → handP (v.hs.getD k HdV.zero)
def jb2 (v : PlV) (k : Nat) : Prop := TickP (v.jT.getD k 0) ∧ (0 < k → v.jT.getD (k - 1) 0 < v.jT.getD k 0)
def R4 (v : PlV) : Prop := ∀ k, k < v.js.length → jb2 v k
def tk1 (v : PlV) (i : Nat) : Prop := (∀ k, k < i → v.tk.getD k 0 ≠ v.tk.getD i 0) ∧ (0 < v.js.length → v.tk.getD i 0 < v.jT.getD 0 0)
def R5 (v : PlV) : Prop := ∀ i, i < v.tk.length → tk1 v i
theorem nodup_of {l : List Int} : l.Nodup ↔ ∀ i, i < l.length → ∀ k, k < i → l.getD k 0 ≠ l.getD i 0 := by
  unfold List.Nodup
  rw [List.pairwise_iff_getElem]
  constructor
  · intro h i hi k hk
    have := h k i (by omega) hi hk
    rw [List.getD_eq_getElem?_getD, List.getD_eq_getElem?_getD, List.getElem?_eq_getElem hi, List.getElem?_eq_getElem (by omega : k < l.length)]
    exact this
  · intro h k i hk hi hlt
    have := h i hi k hlt
    rw [List.getD_eq_getElem?_getD, List.getD_eq_getElem?_getD, List.getElem?_eq_getElem hi, List.getElem?_eq_getElem hk] at this
    exact this
theorem nodup_rising {l : List Int} (h : ∀ k, k < l.length → 0 < k → l.getD (k - 1) 0 < l.getD k 0) : l.Nodup := by
  refine nodup_of.2 fun i hi k hk => ?_
  have : ∀ n, k + n + 1 < l.length → l.getD k 0 < l.getD (k + n + 1) 0 := by
    intro n
    induction n with
    | zero => exact fun h1 => h (k + 1) h1 (by omega)
    | succ n ih =>
      intro h1
      have h2 := ih (by omega)
      have h3 := h (k + n + 2) h1 (by omega)
      exact Int.lt_trans h2 h3
  have h1 := this (i - k - 1) (by omega)
  rw [show k + (i - k - 1) + 1 = i by omega] at h1
  omega
theorem nodup_snoc {l : List Int} {x : Int} : (l ++ [x]).Nodup ↔ l.Nodup ∧ ¬ x ∈ l := by
  rw [List.nodup_append]
  simp only [List.nodup_cons, List.not_mem_nil, not_false_eq_true, List.nodup_nil, and_self, true_and, List.mem_singleton]
  constructor
  · rintro ⟨h1, h2⟩; exact ⟨h1, fun h => h2 x h x rfl rfl⟩
  · rintro ⟨h1, h2⟩; exact ⟨h1, fun a ha b hb he => h2 (by rw [← hb, ← he]; exact ha)⟩
def pos (l : List Int) : List Int := l.filter fun x => decide (0 ≤ x)
theorem apart_iff : ∀ (H D : List Int), (D.Nodup ∧ ∀ k, k < H.length → 0 ≤ H.getD k 0 → ¬ H.getD k 0 ∈ D ++ H.take k) ↔ (D ++ pos H).Nodup
  | [], D => by simp [pos]
  | h :: H, D => by
    by_cases h0 : 0 ≤ h
    · have ih := apart_iff H (D ++ [h])
      rw [List.append_assoc] at ih
      rw [show D ++ pos (h :: H) = D ++ ([h] ++ pos H) by simp [pos, h0], ← ih, nodup_snoc]
      constructor
      · rintro ⟨h1, h2⟩
        refine ⟨⟨h1, fun hm => h2 0 (by simp) h0 (by simpa using hm)⟩, fun k hk hp hm => h2 (k + 1) (by simpa using hk) (by simpa using hp) (by simpa using hm)⟩
      · rintro ⟨⟨h1, h3⟩, h2⟩
        refine ⟨h1, fun k hk hp hm => ?_⟩
        cases k with
        | zero => exact h3 (by simpa using hm)
        | succ k => exact h2 k (by simpa using hk) (by simpa using hp) (by simpa using hm)
    · have ih := apart_iff H D
      rw [show D ++ pos (h :: H) = D ++ pos H by simp [pos, h0], ← ih]
      constructor
      · rintro ⟨h1, h2⟩
        refine ⟨h1, fun k hk hp hm => h2 (k + 1) (by simpa using hk) (by simpa using hp) ?_⟩
        rcases List.mem_append.1 hm with h3 | h3
        · exact List.mem_append_left _ (by simpa using h3)
        · exact List.mem_append_right _ (by simp only [List.take_succ_cons, List.getD_cons_succ]; exact List.mem_cons_of_mem _ h3)
      · rintro ⟨h1, h2⟩
        refine ⟨h1, fun k hk hp hm => ?_⟩
        cases k with
        | zero => exact h0 (by simpa using hp)
        | succ k =>
          refine h2 k (by simpa using hk) (by simpa using hp) ?_
          simp only [List.take_succ_cons, List.getD_cons_succ] at hm hp
          rcases List.mem_append.1 hm with h3 | h3
          · exact List.mem_append_left _ h3
          · rcases List.mem_cons.1 h3 with h4 | h4
            · exact absurd (h4 ▸ hp) h0
            · exact List.mem_append_right _ h4
theorem tk_pos {v : PlV} (h : R3 v) : v.tk = v.dT ++ pos v.hT := by
  unfold PlV.tk
  congr 1
  have : ∀ l : List HdV, (∀ x ∈ l, handP x) → l.flatMap handL = pos (l.map handT) := by
    intro l
    induction l with
    | nil => intro _; rfl
    | cons x l ih =>
      intro hl
      rw [List.flatMap_cons, ih (fun y hy => hl y (List.mem_cons_of_mem _ hy)), handL_eq (hl x (List.mem_cons_self)), List.map_cons]
      unfold pos
      by_cases h0 : 0 ≤ handT x
      · simp [h0]
      · simp [h0]
  refine this _ fun x hx => ?_
  obtain ⟨i, hi, rfl⟩ := List.mem_iff_getElem.1 hx
  have := h i hi
  rwa [List.getD_eq_getElem?_getD, List.getElem?_eq_getElem hi] at this
theorem mem_pos {l : List Int} {x : Int} : x ∈ pos l ↔ x ∈ l ∧ 0 ≤ x := by simp [pos]
theorem mem_getD {l : List Int} {P : Int → Prop} : (∀ x ∈ l, P x) ↔ ∀ i, i < l.length → P (l.getD i 0) := by
  constructor
  · intro h i hi
    rw [List.getD_eq_getElem?_getD, List.getElem?_eq_getElem hi]
    exact h _ (List.getElem_mem hi)
  · intro h x hx
    obtain ⟨i, hi, rfl⟩ := List.mem_iff_getElem.1 hx
    have := h i hi
    rwa [List.getD_eq_getElem?_getD, List.getElem?_eq_getElem hi] at this
theorem vldP_iff (v : PlV) : vldP v ↔ C1 v ∧ C2 v ∧ R3 v ∧ R4 v ∧ R5 v := by
  have hT : ∀ k, k < v.hs.length → v.hT.getD k 0 = handT (v.hs.getD k HdV.zero) := fun k hk => by
    rw [List.getD_eq_getElem?_getD, List.getD_eq_getElem?_getD, List.getElem?_map, List.getElem?_eq_getElem hk]; rfl
  have hDn : C2 v → v.dT.Nodup := fun h2 => nodup_rising fun k hk h0 => (h2 k (by simpa using hk)).2 h0
  have key : C1 v → C2 v → R3 v → ((C3 v ∧ C4 v) ↔ (R4 v ∧ R5 v)) := by
    intro h1 h2 h3
    have hne : v.dT ++ v.hT ≠ [] := fun h => by
      have h5 := h1.2.2.2.1
      have h6 : v.hT.length = 0 := by rw [(List.append_eq_nil_iff.1 h).2]; rfl
      rw [List.length_map] at h6
      omega
    have e3 : C3 v ↔ ∀ k, k < v.hT.length → 0 ≤ v.hT.getD k 0 → ¬ v.hT.getD k 0 ∈ v.dT ++ v.hT.take k := by
      unfold C3 hd1
      simp only [List.length_map]
      exact ⟨fun h k hk => (h k hk).2, fun h k hk => ⟨h3 k hk, h k hk⟩⟩
    have e4 : R5 v ↔ v.tk.Nodup ∧ (0 < v.js.length → ∀ x ∈ v.tk, x < v.jT.getD 0 0) := by
      unfold R5 tk1
      rw [nodup_of]
      constructor
      · exact fun h => ⟨fun i hi => (h i hi).1, fun h0 => mem_getD.2 fun i hi => (h i hi).2 h0⟩
      · exact fun h i hi => ⟨h.1 i hi, fun h0 => mem_getD.1 (h.2 h0) i hi⟩
    have ap := apart_iff v.hT v.dT
    rw [← tk_pos h3, ← e3] at ap
    have e5 : (∀ k, k < v.js.length → TickP (v.jT.getD k 0)) → 0 < v.js.length → (maxL (v.dT ++ v.hT) < v.jT.getD 0 0 ↔ ∀ x ∈ v.tk, x < v.jT.getD 0 0) := by
      intro ht h0
      have hp := (ht 0 h0).1
      rw [maxL_lt hne, tk_pos h3]
      constructor
      · intro h x hx
        rcases List.mem_append.1 hx with k | k
        · exact h x (List.mem_append_left _ k)
        · exact h x (List.mem_append_right _ (mem_pos.1 k).1)
      · intro h x hx
        rcases List.mem_append.1 hx with k | k
        · exact h x (List.mem_append_left _ k)
        · by_cases hx0 : 0 ≤ x
          · exact h x (List.mem_append_right _ (mem_pos.2 ⟨k, hx0⟩))
          · omega
    constructor
    · rintro ⟨h4, h5⟩
      have ht : ∀ k, k < v.js.length → TickP (v.jT.getD k 0) := fun k hk => (h5 k hk).1
      refine ⟨fun k hk => ⟨ht k hk, fun h0 => ?_⟩, e4.2 ⟨ap.1 ⟨hDn h2, h4⟩, fun h0 => (e5 ht h0).1 ?_⟩⟩
      · have := (h5 k hk).2
        unfold lastT at this
        rwa [if_neg (by omega)] at this
      · have := (h5 0 h0).2
        unfold lastT at this
        rwa [if_pos rfl] at this
    · rintro ⟨h4, h5⟩
      obtain ⟨h5, h6⟩ := e4.1 h5
      have ht : ∀ k, k < v.js.length → TickP (v.jT.getD k 0) := fun k hk => (h4 k hk).1
      refine ⟨(ap.2 h5).2, fun k hk => ⟨ht k hk, ?_⟩⟩
      unfold lastT
      by_cases h0 : k = 0
      · subst h0
        rw [if_pos rfl]
        exact (e5 ht hk).2 (h6 hk)
      · rw [if_neg h0]
        exact (h4 k hk).2 (by omega)
  unfold vldP
  constructor
  · rintro ⟨h1, h2, h3, h4⟩
    have hr : R3 v := fun k hk => (h3 k hk).1
    exact ⟨h1, h2, hr, ((key h1 h2 hr).1 ⟨h3, h4⟩).1, ((key h1 h2 hr).1 ⟨h3, h4⟩).2⟩
  · rintro ⟨h1, h2, h3, h4, h5⟩
    exact ⟨h1, h2, (key h1 h2 h3).2 ⟨h4, h5⟩⟩
theorem rise_lt {l : List Int} (h : ∀ k, k < l.length → 0 < k → l.getD (k - 1) 0 < l.getD k 0) {i j : Nat} (hij : i < j) (hj : j < l.length) : l.getD i 0 < l.getD j 0 := by
  have : ∀ n, i + n + 1 < l.length → l.getD i 0 < l.getD (i + n + 1) 0 := by
    intro n
    induction n with
    | zero => exact fun h1 => h (i + 1) h1 (by omega)
    | succ n ih =>
      intro h1
      have h2 := ih (by omega)
      have h3 := h (i + n + 2) h1 (by omega)
      exact Int.lt_trans h2 h3
  have h1 := this (j - i - 1) (by omega)
  rwa [show i + (j - i - 1) + 1 = j by omega] at h1
theorem dT_at (v : PlV) {i : Nat} (hi : i < v.ds.length) : v.dT.getD i 0 = (v.ds.getD i JdV.zero).t := by
  rw [List.getD_eq_getElem?_getD, List.getD_eq_getElem?_getD, List.getElem?_map, List.getElem?_eq_getElem hi]; rfl
theorem C2.rise {v : PlV} (h : C2 v) : ∀ k, k < v.dT.length → 0 < k → v.dT.getD (k - 1) 0 < v.dT.getD k 0 := fun k hk h0 => (h k (by simpa using hk)).2 h0
theorem maxL_step {l : List Int} {i : Nat} (h1 : 1 ≤ i) (hi : i < l.length) : maxL (l.take (i + 1)) = if maxL (l.take i) < l.getD i 0 then l.getD i 0 else maxL (l.take i) := by
  cases l with
  | nil => simp at hi
  | cons x l =>
    obtain ⟨k, rfl⟩ : ∃ k, i = k + 1 := ⟨i - 1, by omega⟩
    have hk : k < l.length := by simpa using hi
    rw [List.take_succ_cons, List.take_succ_cons]
    unfold maxL
    dsimp only
    rw [List.take_add_one, List.getElem?_eq_getElem hk, Option.toList_some, List.foldl_append, List.getD_cons_succ, List.getD_eq_getElem?_getD, List.getElem?_eq_getElem hk, Option.getD_some]
    simp only [List.foldl_cons, List.foldl_nil]
    show max _ _ = _
    rw [Int.max_def]
    split <;> split <;> omega
theorem max_step (x y : Int) : (if x < y then y else x) = max x y := by
  rw [Int.max_def]
  split <;> split <;> omega
theorem takeT_snoc {l : List Int} {i : Nat} (hi : i < l.length) : l.take i ++ [l.getD i 0] = l.take (i + 1) := by
  rw [List.take_add_one, List.getElem?_eq_getElem hi, Option.toList_some, List.getD_eq_getElem?_getD, List.getElem?_eq_getElem hi, Option.getD_some]
theorem not_mem_getD {l : List Int} {x : Int} : (∀ i, i < l.length → l.getD i 0 ≠ x) ↔ ¬ x ∈ l := by
  have h := mem_getD (l := l) (P := fun y => y ≠ x)
  rw [← h]
  exact ⟨fun k hx => k x hx rfl, fun k y hy he => k (he ▸ hy)⟩
def cmT (t n : Int) : Int := if t < n then -1 else if t > n then 1 else 0
theorem cmT_0 {t n : Int} : cmT t n = 0 ↔ t = n := by unfold cmT; split <;> (try split) <;> omega
theorem cmT_lt {t n : Int} : cmT t n < 0 ↔ t < n := by unfold cmT; split <;> (try split) <;> omega
def cT (v : PlV) (n : Int) (i : Nat) : Int := cmT (v.ds.getD i JdV.zero).t n
def spT (v : PlV) (n : Int) : Nat := spotC v.ds.length (cT v n)
def hasT (v : PlV) (n : Int) : Prop := ∃ d ∈ v.ds, d.t = n
noncomputable instance (v : PlV) (n : Int) : Decidable (hasT v n) := Classical.propDecidable _
theorem mono_T {v : PlV} (h : C2 v) (n : Int) : MonoC v.ds.length (cT v n) := fun i j hij hj hc => by
  unfold cT at hc ⊢
  rw [cmT_lt] at hc ⊢
  have := rise_lt h.rise hij (by simpa using hj)
  rw [dT_at v (by omega), dT_at v hj] at this
  omega
theorem spT_lo {v : PlV} {n : Int} {i : Nat} (h : i < spT v n) : (v.ds.getD i JdV.zero).t < n := cmT_lt.1 (spotC_lt (c := cT v n) h)
theorem hasT_sp {v : PlV} (h : C2 v) {n : Int} : hasT v n ↔ spT v n < v.ds.length ∧ (v.ds.getD (spT v n) JdV.zero).t = n := by
  constructor
  · rintro ⟨x, hx, rfl⟩
    obtain ⟨i, hi, rfl⟩ := List.mem_iff_getElem.1 hx
    have e : (v.ds.getD i JdV.zero).t = v.ds[i].t := by rw [List.getD_eq_getElem?_getD, List.getElem?_eq_getElem hi]; rfl
    have h1 : spT v v.ds[i].t = i := spotC_eq (by omega) (fun j hj => by
      unfold cT
      rw [cmT_lt, ← e]
      have := rise_lt h.rise hj (by simpa using hi)
      rwa [dT_at v (by omega), dT_at v hi] at this) fun _ => by
      unfold cT
      rw [e, cmT_0.2 rfl]
      exact Int.le_refl _
    rw [h1]
    exact ⟨hi, e⟩
  · rintro ⟨h1, h2⟩
    refine ⟨v.ds[spT v n], List.getElem_mem h1, ?_⟩
    rw [List.getD_eq_getElem?_getD, List.getElem?_eq_getElem h1] at h2
    exact h2
theorem first_sp {v : PlV} (h : C2 v) {n : Int} {i : Nat} (hi : i < v.ds.length) (he : (v.ds.getD i JdV.zero).t = n) : hasT v n ∧ spT v n = i := by
  have hh : hasT v n := ⟨v.ds[i], List.getElem_mem hi, by rw [List.getD_eq_getElem?_getD, List.getElem?_eq_getElem hi] at he; exact he⟩
  obtain ⟨h1, h2⟩ := (hasT_sp h).1 hh
  refine ⟨hh, ?_⟩
  rcases Nat.lt_trichotomy (spT v n) i with k | k | k
  · have := rise_lt h.rise k (by simpa using hi)
    rw [dT_at v h1, dT_at v hi] at this
    omega
  · exact k
  · have := spT_lo k
    omega
theorem none_sp {v : PlV} {n : Int} (h : ∀ i, i < v.ds.length → (v.ds.getD i JdV.zero).t ≠ n) : ¬ hasT v n := fun ⟨x, hx, he⟩ => by
  obtain ⟨i, hi, rfl⟩ := List.mem_iff_getElem.1 hx
  exact h i hi (by rw [List.getD_eq_getElem?_getD, List.getElem?_eq_getElem hi]; exact he)
noncomputable def takeE (v : PlV) (n : Int) : Int := if ¬ vldP v then 8 else if hasT v n then 0 else 38
def cutD (v : PlV) (i : Nat) : PlV := { v with ds := v.ds.take i ++ v.ds.drop (i + 1) }
noncomputable def takeV (v : PlV) (n : Int) : PlV := if takeE v n = 0 then cutD v (spT v n) else PlV.zero
noncomputable def takeJ (v : PlV) (n : Int) : JdV := if takeE v n = 0 then v.ds.getD (spT v n) JdV.zero else JdV.zero
theorem takeE_8 {v : PlV} {n : Int} (h : ¬ vldP v) : takeE v n = 8 := if_pos h
theorem takeE_38 {v : PlV} {n : Int} (h : vldP v) (h2 : ¬ hasT v n) : takeE v n = 38 := by unfold takeE; rw [if_neg (not_not_intro h), if_neg h2]
theorem takeE_0 {v : PlV} {n : Int} (h : vldP v) (h2 : hasT v n) : takeE v n = 0 := by unfold takeE; rw [if_neg (not_not_intro h), if_pos h2]
theorem take_no {v : PlV} {n : Int} (h : takeE v n ≠ 0) : takeV v n = PlV.zero ∧ takeJ v n = JdV.zero := ⟨if_neg h, if_neg h⟩
theorem take_yes {v : PlV} {n : Int} (h : takeE v n = 0) : takeV v n = cutD v (spT v n) ∧ takeJ v n = v.ds.getD (spT v n) JdV.zero := ⟨if_pos h, if_pos h⟩
def overT (v : PlV) (t : Int) : Prop := ∃ x ∈ v.tk ++ v.jT, t ≤ x
noncomputable instance (v : PlV) (t : Int) : Decidable (overT v t) := Classical.propDecidable _
def grtT (v : PlV) : Int := (v.jT ++ v.hT ++ v.dT).foldl max (-1)
theorem grt_iff {v : PlV} (h : vldP v) {t : Int} (ht : TickP t) : t ≤ grtT v ↔ overT v t := by
  have h3 := ((vldP_iff v).1 h).2.2.1
  have h0 := ht.1
  have e : ¬ t ≤ grtT v ↔ ¬ overT v t := by
    unfold overT grtT
    rw [Int.not_le, foldl_max, tk_pos h3]
    constructor
    · rintro ⟨h1, h2⟩ ⟨x, hx, hl⟩
      have : x < t := by
        refine h2 x ?_
        rcases List.mem_append.1 hx with k | k
        · rcases List.mem_append.1 k with k | k
          · exact List.mem_append_right _ k
          · exact List.mem_append_left _ (List.mem_append_right _ (mem_pos.1 k).1)
        · exact List.mem_append_left _ (List.mem_append_left _ k)
      omega
    · intro h1
      refine ⟨by omega, fun x hx => ?_⟩
      apply Classical.byContradiction
      intro hn
      refine h1 ⟨x, ?_, by omega⟩
      rcases List.mem_append.1 hx with k | k
      · rcases List.mem_append.1 k with k | k
        · exact List.mem_append_right _ k
        · exact List.mem_append_left _ (List.mem_append_right _ (mem_pos.2 ⟨k, by omega⟩))
      · exact List.mem_append_left _ (List.mem_append_left _ k)
  exact Decidable.not_iff_not.1 e
noncomputable def putE (v : PlV) (t : Int) : Int := if ¬ vldP v then 8 else if ¬ TickP t then 2 else if overT v t then 32 else if (v.js.length : Int) = v.cap then 38 else 0
def addJ (v : PlV) (t : Int) (b : List Int) : PlV := { v with js := v.js ++ [⟨t, b⟩] }
noncomputable def putV (v : PlV) (t : Int) (b : List Int) : PlV := if putE v t = 0 then addJ v t b else PlV.zero
section
variable {v : PlV} {t : Int} {b : List Int}
theorem putE_8 (h : ¬ vldP v) : putE v t = 8 := if_pos h
theorem putE_2 (h : vldP v) (h2 : ¬ TickP t) : putE v t = 2 := by unfold putE; rw [if_neg (not_not_intro h), if_pos h2]
theorem putE_32 (h : vldP v) (h2 : TickP t) (h3 : overT v t) : putE v t = 32 := by unfold putE; rw [if_neg (not_not_intro h), if_neg (not_not_intro h2), if_pos h3]
theorem putE_38 (h : vldP v) (h2 : TickP t) (h3 : ¬ overT v t) (h4 : (v.js.length : Int) = v.cap) : putE v t = 38 := by unfold putE; rw [if_neg (not_not_intro h), if_neg (not_not_intro h2), if_neg h3, if_pos h4]
theorem putE_0 (h : vldP v) (h2 : TickP t) (h3 : ¬ overT v t) (h4 : ¬ (v.js.length : Int) = v.cap) : putE v t = 0 := by unfold putE; rw [if_neg (not_not_intro h), if_neg (not_not_intro h2), if_neg h3, if_neg h4]
theorem put_no (h : putE v t ≠ 0) : putV v t b = PlV.zero := if_neg h
theorem put_yes (h : putE v t = 0) : putV v t b = addJ v t b := if_pos h
end
noncomputable def newE (n k : Int) : Int := if n < 1 ∨ n > 8 ∨ k < 1 ∨ k > 3 then 2 else 0
noncomputable def newV (n k : Int) : PlV := if newE n k = 0 then ⟨n, [], List.replicate k.toNat HdV.zero, []⟩ else PlV.zero
theorem vldE_8 {v : PlV} (h : ¬ vldP v) : vldE v = 8 := if_neg h
theorem vldE_0 {v : PlV} (h : vldP v) : vldE v = 0 := if_pos h
theorem vldE_ok {v : PlV} : vldE v = 0 ↔ vldP v := by unfold vldE; split <;> simp_all
end Go.Proofs.YtkmaenmhcgohbaaGreatDoor.S
namespace Go.Proofs.YtkmaenmhcgohbaaGreatDoor.W
open Go.RowKit Go.Proofs.YtkmaenmhcgohbaaGreatDoor.G
set_option linter.unusedVariables false
set_option linter.unusedSimpArgs false
set_option maxRecDepth 20000
set_option maxHeartbeats 8000000
attribute [local irreducible] RS RX RY Code.wp bodyPost J Ent.blk Ent.irow Ent.iown Ent.wrow Ent.wown Ent.grow Ent.gown Ent.all Ent.emp
structure JbA where
  (t : Int) (a : Option Addr) (n c : Nat) (bs : List Int)
@[reducible] def jbC (j : JbA) : List Value := [.int .i64 j.t, .slice j.a j.n j.c]
@[reducible] def JbA.V (j : JbA) : S.JbV := ⟨j.t, j.bs⟩
@[reducible] def HdA.V (h : HdA) : S.HdV := ⟨h.s, h.jt, h.bs, h.j.V⟩
def JdA.zero : JdA := ⟨0, 0, ⟨S.OpV.zero, none, 0⟩, List.replicate 32 0, rfl⟩
def HdA.zero : HdA := ⟨0, 0, none, 0, 0, [], JdA.zero⟩
structure PlA where
  (cap : Int) (ja : Option Addr) (jn jc : Nat) (js : List JbA) (ha : Option Addr) (hn hc : Nat) (hs : List HdA) (da : Option Addr) (dn dc : Nat) (ds : List JdA)
@[reducible] def plC (p : PlA) : List Value := [.int .i64 p.cap, .slice p.ja p.jn p.jc, .slice p.ha p.hn p.hc, .slice p.da p.dn p.dc]
def PlA.V (p : PlA) : S.PlV := ⟨p.cap, p.js.map JbA.V, p.hs.map HdA.V, p.ds.map JdA.V⟩
def PlA.zero : PlA := ⟨0, none, 0, 0, [], none, 0, 0, [], none, 0, 0, []⟩
theorem jbC_len (j : JbA) : (jbC j).length = 2 := rfl
theorem hdC_len' (h : HdA) : (hdC h).length = 48 := hdC_len h.j.h
theorem jdC_len' (d : JdA) : (jdC d).length = 45 := jdC_len d.h
theorem jbC_one (j : JbA) : ∀ u ∈ jbC j, u.oneCell' = true := by
  intro u hu
  simp only [jbC, List.mem_cons, List.not_mem_nil, or_false] at hu
  rcases hu with rfl | rfl <;> rfl
theorem jdC_one (d : JdA) : ∀ u ∈ jdC d, u.oneCell' = true := by
  intro u hu
  simp only [jdC, List.mem_cons, List.mem_append] at hu
  rcases hu with rfl | rfl | hu | hu
  · rfl
  · rfl
  · exact opC_one d.o u (by simpa using hu)
  · exact ints_one _ _ u hu
theorem hdC_one (h : HdA) : ∀ u ∈ hdC h, u.oneCell' = true := by
  intro u hu
  rcases List.mem_cons.1 hu with rfl | hu
  · rfl
  rcases List.mem_cons.1 hu with rfl | hu
  · rfl
  rcases List.mem_cons.1 hu with rfl | hu
  · rfl
  exact jdC_one h.j u hu
theorem jdC_cells (d : JdA) : (jdC d).all cellB = true := by
  show ((.int .i64 d.t :: .int .u8 d.v :: (opC d.o ++ ints .u8 d.id) : List Value)).all cellB = true
  rw [List.all_cons, List.all_cons, List.all_append, ints_cellB]
  rfl
theorem hdC_cells (h : HdA) : (hdC h).all cellB = true := by
  show ((.int .u8 h.s :: .int .i64 h.jt :: .slice h.ba h.bn h.bc :: jdC h.j : List Value)).all cellB = true
  rw [List.all_cons, List.all_cons, List.all_cons, jdC_cells]
  rfl
instance (j : JbA) : LenC (jbC j) 2 := ⟨rfl, rfl⟩
instance (d : JdA) : LenC (jdC d) 45 := ⟨jdC_len' d, jdC_cells d⟩
instance (h : HdA) : LenC (hdC h) 48 := ⟨hdC_len' h, hdC_cells h⟩
structure JbK (j : JbA) : Prop where
  cap : j.n ≤ j.c
  n : j.n ≤ 600
structure JdK (d : JdA) : Prop where
  ok : d.o.o.ok
  cap : d.o.o.n ≤ d.o.pc
  id : Arr .u8 32 d.id
structure HdK (h : HdA) : Prop where
  j : JdK h.j
  cap : h.bn ≤ h.bc
  n : h.bn ≤ 600
structure JbR (S0 : Nat → Prop) (w : World) (j : JbA) : Prop where
  k : JbK j
  row : IRow .u8 S0 w j.a j.n j.bs
structure HdR (S0 : Nat → Prop) (w : World) (h : HdA) : Prop where
  k : HdK h
  j : JdR S0 w h.j
  row : IRow .u8 S0 w h.ba h.bn h.bs
theorem JdR.k {S0 : Nat → Prop} {w : World} {d : JdA} (h : JdR S0 w d) : JdK d := ⟨h.o.ok, h.o.cap, h.id⟩
theorem JbR.ext {S0 : Nat → Prop} {w w' : World} {j : JbA} (h : JbR S0 w j) (x : Ext w w') : JbR S0 w' j := ⟨h.k, h.row.ext x⟩
theorem HdR.ext {S0 : Nat → Prop} {w w' : World} {j : HdA} (h : HdR S0 w j) (x : Ext w w') : HdR S0 w' j := ⟨h.k, h.j.ext x, h.row.ext x⟩
structure PlR (S0 : Nat → Prop) (w : World) (p : PlA) : Prop where
  jr : GRow jbC 2 S0 w p.ja p.jn p.js
  hr : GRow hdC 48 S0 w p.ha p.hn p.hs
  dr : GRow jdC 45 S0 w p.da p.dn p.ds
  ji : ∀ j ∈ p.js, JbR S0 w j
  hi : ∀ h ∈ p.hs, HdR S0 w h
  di : ∀ d ∈ p.ds, JdR S0 w d
  cap : p.jn ≤ p.jc ∧ p.hn ≤ p.hc ∧ p.dn ≤ p.dc ∧ p.jn ≤ 100 ∧ p.hn ≤ 100 ∧ p.dn ≤ 200
structure JbI (S0 : Nat → Prop) (w : World) (j : JbA) : Prop where
  row : IRow .u8 S0 w j.a j.n j.bs
  cap : j.n ≤ j.c
structure JdI (S0 : Nat → Prop) (w : World) (d : JdA) : Prop where
  rng : d.o.o.rng
  row : WRow .u8 32 S0 w d.o.pa d.o.o.n d.o.o.ids
  cap : d.o.o.n ≤ d.o.pc
  id : Arr .u8 32 d.id
structure HdI (S0 : Nat → Prop) (w : World) (h : HdA) : Prop where
  j : JdI S0 w h.j
  row : IRow .u8 S0 w h.ba h.bn h.bs
  cap : h.bn ≤ h.bc
structure PlI (S0 : Nat → Prop) (w : World) (p : PlA) : Prop where
  jr : GRow jbC 2 S0 w p.ja p.jn p.js
  hr : GRow hdC 48 S0 w p.ha p.hn p.hs
  dr : GRow jdC 45 S0 w p.da p.dn p.ds
  ji : ∀ j ∈ p.js, JbI S0 w j
  hi : ∀ h ∈ p.hs, HdI S0 w h
  di : ∀ d ∈ p.ds, JdI S0 w d
  cap : p.jn ≤ p.jc ∧ p.hn ≤ p.hc ∧ p.dn ≤ p.dc
section
variable {S0 : Nat → Prop} {w w' : World} {p : PlA}
theorem PlR.ext (h : PlR S0 w p) (x : Ext w w') : PlR S0 w' p := ⟨h.jr.ext x, h.hr.ext x, h.dr.ext x, fun j hj => (h.ji j hj).ext x, fun j hj => (h.hi j hj).ext x, fun j hj => (h.di j hj).ext x, h.cap⟩
theorem PlR.j (h : PlR S0 w p) {i : Nat} {j : JbA} (hj : p.js[i]? = some j) : JbR S0 w j := h.ji j (List.mem_of_getElem? hj)
theorem PlR.h (h : PlR S0 w p) {i : Nat} {j : HdA} (hj : p.hs[i]? = some j) : HdR S0 w j := h.hi j (List.mem_of_getElem? hj)
theorem PlR.d (h : PlR S0 w p) {i : Nat} {j : JdA} (hj : p.ds[i]? = some j) : JdR S0 w j := h.di j (List.mem_of_getElem? hj)
theorem PlR.jl (h : PlR S0 w p) : p.V.js.length = p.jn := (List.length_map _).trans h.jr.len
theorem PlR.hl (h : PlR S0 w p) : p.V.hs.length = p.hn := (List.length_map _).trans h.hr.len
theorem PlR.dl (h : PlR S0 w p) : p.V.ds.length = p.dn := (List.length_map _).trans h.dr.len
end
section
variable {p : PlA} {i : Nat}
theorem PlA.hAt {j : HdA} (hj : p.hs[i]? = some j) : p.V.hs.getD i S.HdV.zero = j.V := by
  unfold PlA.V; rw [List.getD_eq_getElem?_getD, List.getElem?_map, hj]; rfl
theorem PlA.dAt {j : JdA} (hj : p.ds[i]? = some j) : p.V.ds.getD i S.JdV.zero = j.V := by
  unfold PlA.V; rw [List.getD_eq_getElem?_getD, List.getElem?_map, hj]; rfl
theorem PlA.jtAt {j : JbA} (hj : p.js[i]? = some j) : p.V.jT.getD i 0 = j.t := by
  unfold PlA.V S.PlV.jT; rw [List.getD_eq_getElem?_getD, List.getElem?_map, List.getElem?_map, hj]; rfl
theorem PlA.htAt {j : HdA} (hj : p.hs[i]? = some j) : p.V.hT.getD i 0 = S.handT j.V := by
  unfold PlA.V S.PlV.hT; rw [List.getD_eq_getElem?_getD, List.getElem?_map, List.getElem?_map, hj]; rfl
theorem PlA.dtAt {j : JdA} (hj : p.ds[i]? = some j) : p.V.dT.getD i 0 = j.t := by
  unfold PlA.V S.PlV.dT; rw [List.getD_eq_getElem?_getD, List.getElem?_map, List.getElem?_map, hj]; rfl
end
theorem handP_V {h : HdA} (hl : h.bs.length = h.bn) : HandP h ↔ S.handP h.V := by
  unfold HandP S.handP JobZ JudZ S.jobZ S.judZ HdA.V
  rw [hl]
def jbE (j : JbA) : Ent := .irow .u8 j.a j.n j.bs
def jdE (d : JdA) : Ent := .wrow .u8 32 d.o.pa d.o.o.n d.o.o.ids
def hdE (h : HdA) : Ent := .all [.irow .u8 h.ba h.bn h.bs, .wrow .u8 32 h.j.o.pa h.j.o.o.n h.j.o.o.ids]
@[reducible] def plE (p : PlA) : List Ent := [.gown jbC 2 155 p.ja p.jn p.jc p.js, .gown hdC 48 223 p.ha p.hn p.hc p.hs, .gown jdC 45 158 p.da p.dn p.dc p.ds, .all (p.js.map jbE), .all (p.hs.map hdE), .all (p.ds.map jdE)]
structure PlP (v : S.PlV) (p : PlA) : Prop where
  V : p.V = v
  j : ∀ j ∈ p.js, JbK j
  h : ∀ h ∈ p.hs, HdK h
  d : ∀ d ∈ p.ds, JdK d
  n : p.jn ≤ 100 ∧ p.hn ≤ 100 ∧ p.dn ≤ 200
theorem PlP.zero : PlP S.PlV.zero PlA.zero := ⟨rfl, fun _ h => (by cases h), fun _ h => (by cases h), fun _ h => (by cases h), by decide⟩
theorem jdR_e {d : JdA} {S : Nat → Prop} {w : World} (k : JdK d) (h : (jdE d).ok S w) : JdR S w d := ⟨⟨k.ok, wrow_e h, k.cap⟩, k.id⟩
theorem jbR_e {j : JbA} {S : Nat → Prop} {w : World} (k : JbK j) (h : (jbE j).ok S w) : JbR S w j := ⟨k, irow_e h⟩
theorem hdR_e {d : HdA} {S : Nat → Prop} {w : World} (k : HdK d) (h : (hdE d).ok S w) : HdR S w d := by
  obtain ⟨A, B, h1, h2, _, h4, C, D, h6, h7, _, h8, _⟩ := all_e h
  exact ⟨k, ⟨⟨k.j.ok, (wrow_e h8).weaken fun b _ hb => h2 b (h6 b hb), k.j.cap⟩, k.j.id⟩, (irow_e h4).weaken fun b _ hb => h1 b hb⟩
theorem JdR.weak {S T : Nat → Prop} {w : World} {d : JdA} (h : JdR S w d) (k : ∀ b, S b → T b) : JdR T w d := ⟨⟨h.o.ok, h.o.row.weaken fun b _ hb => k b hb, h.o.cap⟩, h.id⟩
theorem HdR.weak {S T : Nat → Prop} {w : World} {d : HdA} (h : HdR S w d) (k : ∀ b, S b → T b) : HdR T w d := ⟨h.k, h.j.weak k, h.row.weaken fun b _ hb => k b hb⟩
theorem JbR.weak {S T : Nat → Prop} {w : World} {d : JbA} (h : JbR S w d) (k : ∀ b, S b → T b) : JbR T w d := ⟨h.k, h.row.weaken fun b _ hb => k b hb⟩
theorem PlR.own {S0 : Nat → Prop} {w0 : World} {L : List Ent} {p : PlA} {v : S.PlV} {F1 : Option Addr → Nat → Nat → List JbA → List Ent} {F2 : Option Addr → Nat → Nat → List HdA → List Ent} {F3 : Option Addr → Nat → Nat → List JdA → List Ent} {F4 F5 F6 : Ent → List Ent}
    [R1 : GO L p.ja jbC 2 155 p.jn p.jc p.js F1] [R2 : GO L p.ha hdC 48 223 p.hn p.hc p.hs F2] [R3 : GO L p.da jdC 45 158 p.dn p.dc p.ds F3] [R4 : RE L (.all (p.js.map jbE)) F4] [R5 : RE L (.all (p.hs.map hdE)) F5] [R6 : RE L (.all (p.ds.map jdE)) F6] (hp : PlP v p) (w : World) (M : Mem S0 w0 L w) : PlR (fun _ => True) w p := by
  obtain ⟨A, _, a⟩ := M.get (R1.h p.ja p.jn p.jc p.js).same
  obtain ⟨B, _, b⟩ := M.get (R2.h p.ha p.hn p.hc p.hs).same
  obtain ⟨C, _, c⟩ := M.get (R3.h p.da p.dn p.dc p.ds).same
  obtain ⟨D, _, d⟩ := M.get (R4.h (.all (p.js.map jbE))).same
  obtain ⟨E, _, e⟩ := M.get (R5.h (.all (p.hs.map hdE))).same
  obtain ⟨F, _, f⟩ := M.get (R6.h (.all (p.ds.map jdE))).same
  have a := (gown_e a).1
  have b := (gown_e b).1
  have c := (gown_e c).1
  refine ⟨a.row.weaken fun _ _ _ => trivial, b.row.weaken fun _ _ _ => trivial, c.row.weaken fun _ _ _ => trivial, fun j hj => ?_, fun j hj => ?_, fun j hj => ?_, a.capn, b.capn, c.capn, hp.n⟩
  · obtain ⟨S', _, k⟩ := sep_mem (List.mem_map.2 ⟨j, hj, rfl⟩) (all_e d)
    exact (jbR_e (hp.j j hj) k).weak fun _ _ => trivial
  · obtain ⟨S', _, k⟩ := sep_mem (List.mem_map.2 ⟨j, hj, rfl⟩) (all_e e)
    exact (hdR_e (hp.h j hj) k).weak fun _ _ => trivial
  · obtain ⟨S', _, k⟩ := sep_mem (List.mem_map.2 ⟨j, hj, rfl⟩) (all_e f)
    exact (jdR_e (hp.d j hj) k).weak fun _ _ => trivial
end Go.Proofs.YtkmaenmhcgohbaaGreatDoor.W
namespace Go.Proofs.YtkmaenmhcgohbaaGreatDoor.L
open Go Go.Proofs.YtkmaenmhcgohbaaGreatDoor Go.Proofs.YtkmaenmhcgohbaaGreatDoor.G Go.Proofs.YtkmaenmhcgohbaaGreatDoor.W
open Go.ChangeShapes Go.WideShapes Go.ChangeAt Go.RowKit
set_option linter.unusedVariables false
set_option maxRecDepth 100000
theorem z_int : Tryz.prog.cellsOf 3 = 1 := by kernel_rfl
theorem z_job : Tryz.prog.cellsOf 155 = 2 := by kernel_rfl
theorem z_jud : Tryz.prog.cellsOf 158 = 45 := by kernel_rfl
theorem z_hand : Tryz.prog.cellsOf 223 = 48 := by kernel_rfl
theorem z_pool : Tryz.prog.cellsOf 146 = 4 := by kernel_rfl
theorem z_jobs : Tryz.prog.cellsOf 142 = 1 := by kernel_rfl
theorem z_juds : Tryz.prog.cellsOf 144 = 1 := by kernel_rfl
theorem z_hands : Tryz.prog.cellsOf 143 = 1 := by kernel_rfl
theorem cut4 {cs a b c d : List Value} {i j k n : Nat} (ha : cs.take i = a) (hb : (cs.drop i).take j = b) (hc : (cs.drop (i + j)).take k = c) (hd : (cs.drop (i + j + k)).take n = d) (hl : cs.length = i + j + k + n) : cs = a ++ (b ++ (c ++ d)) := by
  subst ha hb hc hd
  have h4 : (cs.drop (i + j + k)).take n = cs.drop (i + j + k) := List.take_of_length_le (by rw [List.length_drop]; omega)
  rw [h4]
  have h3 : (cs.drop (i + j)).take k ++ cs.drop (i + j + k) = cs.drop (i + j) := by rw [show cs.drop (i + j + k) = (cs.drop (i + j)).drop k by rw [List.drop_drop], List.take_append_drop]
  have h2 : (cs.drop i).take j ++ cs.drop (i + j) = cs.drop i := by rw [show cs.drop (i + j) = (cs.drop i).drop j by rw [List.drop_drop], List.take_append_drop]
  rw [h3, h2, List.take_append_drop]
theorem cut3 {cs a b c : List Value} {i j k : Nat} (ha : cs.take i = a) (hb : (cs.drop i).take j = b) (hc : (cs.drop (i + j)).take k = c) (hl : cs.length = i + j + k) : cs = a ++ (b ++ c) := by
  have := cut4 (n := 0) (d := []) ha hb hc (by rw [List.take_zero]) hl
  rwa [List.append_nil] at this
section
variable {H : Type} {enc : TypeId × Value → H} {w : World} {base : Nat} {sp : Nat → Bool} {held : Bool} {fuel : Nat} {cs : List Value} {x : DataW H × List MemPlace}
theorem job_in (h : DataW.trod enc Tryz.prog w base sp held fuel 155 cs = some x) : ∃ j : JbA, cs = jbC j ∧ JbI (fun _ => True) w j := by
  have hl := (fields_in Tryz.underlying155 h).1
  rw [z_job] at hl
  match cs, hl, h with
  | [c0, c1], _, h =>
    obtain ⟨_, _, f0⟩ := field_in 0 Tryz.underlying155 rfl z_int h
    obtain ⟨_, _, f1⟩ := field_in 1 Tryz.underlying155 rfl z_bs h
    obtain ⟨t, e0, _⟩ := int_in Tryz.underlying3 f0
    obtain ⟨a, n, c, xs, e1, hc, hR⟩ := bytesS_in f1
    have q0 : [c0] = [Value.int .i64 t] := e0
    have q1 : [c1] = [Value.slice a n c] := e1
    simp only [List.cons.injEq, and_true] at q0 q1
    subst q0 q1
    exact ⟨⟨t, a, n, c, xs⟩, rfl, hR, hc⟩
theorem judged_in (h : DataW.trod enc Tryz.prog w base sp held fuel 158 cs = some x) : ∃ j : JdA, cs = jdC j ∧ JdI (fun _ => True) w j := by
  have hl := (fields_in Tryz.underlying158 h).1
  rw [z_jud] at hl
  obtain ⟨_, _, f0⟩ := field_in 0 Tryz.underlying158 rfl z_int h
  obtain ⟨_, _, f1⟩ := field_in 1 Tryz.underlying158 rfl z_u8 h
  obtain ⟨_, _, f2⟩ := field_in 2 Tryz.underlying158 rfl z_op h
  obtain ⟨_, _, f3⟩ := field_in 3 Tryz.underlying158 rfl z_id h
  obtain ⟨t, e0, _⟩ := int_in Tryz.underlying3 f0
  obtain ⟨v, e1, _⟩ := int_in Tryz.underlying5 f1
  obtain ⟨o, pa, pc, e2, r2, c2, R2⟩ := op_in f2
  obtain ⟨xs, e3, hA⟩ := id_in f3
  exact ⟨⟨t, v, ⟨o, pa, pc⟩, xs, hA.1⟩, cut4 (i := 1) (j := 1) (k := 11) (n := 32) (cs := cs) e0 e1 e2 e3 hl, r2, R2, c2, hA⟩
theorem hand_in (h : DataW.trod enc Tryz.prog w base sp held fuel 223 cs = some x) : ∃ j : HdA, cs = hdC j ∧ HdI (fun _ => True) w j := by
  have hl := (fields_in Tryz.underlying223 h).1
  rw [z_hand] at hl
  obtain ⟨_, _, f0⟩ := field_in 0 Tryz.underlying223 rfl z_u8 h
  obtain ⟨_, _, f1⟩ := field_in 1 Tryz.underlying223 rfl z_job h
  obtain ⟨_, _, f2⟩ := field_in 2 Tryz.underlying223 rfl z_jud h
  obtain ⟨s, e0, _⟩ := int_in Tryz.underlying5 f0
  obtain ⟨j, e1, J⟩ := job_in f1
  obtain ⟨d, e2, D⟩ := judged_in f2
  exact ⟨⟨s, j.t, j.a, j.n, j.c, j.bs, d⟩, cut3 (i := 1) (j := 2) (k := 45) (cs := cs) e0 e1 e2 hl, D, J.row, J.cap⟩
theorem pool_in (h : DataW.trod enc Tryz.prog w base sp held fuel 146 cs = some x) : ∃ p : PlA, cs = plC p ∧ PlI (fun _ => True) w p := by
  have hl := (fields_in Tryz.underlying146 h).1
  rw [z_pool] at hl
  match cs, hl, h with
  | [c0, c1, c2, c3], _, h =>
    obtain ⟨_, _, f0⟩ := field_in 0 Tryz.underlying146 rfl z_int h
    obtain ⟨_, _, f1⟩ := field_in 1 Tryz.underlying146 rfl z_jobs h
    obtain ⟨_, _, f2⟩ := field_in 2 Tryz.underlying146 rfl z_hands h
    obtain ⟨_, _, f3⟩ := field_in 3 Tryz.underlying146 rfl z_juds h
    obtain ⟨cap, e0, _⟩ := int_in Tryz.underlying3 f0
    obtain ⟨ja, jn, jc, js, e1, c1', R1, Q1⟩ := grow_in jbC (fun j => JbI (fun _ => True) w j) ⟨0, none, 0, 0, []⟩ jbC_len Tryz.underlying142 z_job (by decide) (fun m ds y hd => job_in hd) f1
    obtain ⟨ha, hn, hc, hs, e2, c2', R2, Q2⟩ := grow_in hdC (fun j => HdI (fun _ => True) w j) HdA.zero hdC_len' Tryz.underlying143 z_hand (by decide) (fun m ds y hd => hand_in hd) f2
    obtain ⟨da, dn, dc, ds, e3, c3', R3, Q3⟩ := grow_in jdC (fun j => JdI (fun _ => True) w j) JdA.zero jdC_len' Tryz.underlying144 z_jud (by decide) (fun m ds y hd => judged_in hd) f3
    have q0 : [c0] = [Value.int .i64 cap] := e0
    have q1 : [c1] = [Value.slice ja jn jc] := e1
    have q2 : [c2] = [Value.slice ha hn hc] := e2
    have q3 : [c3] = [Value.slice da dn dc] := e3
    simp only [List.cons.injEq, and_true] at q0 q1 q2 q3
    subst q0 q1 q2 q3
    exact ⟨⟨cap, ja, jn, jc, js, ha, hn, hc, hs, da, dn, dc, ds⟩, rfl, R1, R2, R3, Q1, Q2, Q3, c1', c2', c3'⟩
end
end Go.Proofs.YtkmaenmhcgohbaaGreatDoor.L
