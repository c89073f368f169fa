/-
  L0: an operation that comes in is read off its datum.
-/
import Derived.Test.YtiohpiiiapjblaaDoorTy
import Derived.Test.YtiohpiiiapjblaaDoorS10
import Derived.Test.YtiohpiiiapjblaaDoorRows
import Derived.Test.YtiohpiiiapjblaaDoorTie
import Derived.Test.YtiohpiiiapjblaaDoorCards
import Derived.WalkKit
import Derived.ProofKit
import Derived.LaidMore
import Derived.OpenShut
import Derived.Below
import Derived.Carry
import Derived.SevenTiedAt
import Derived.DataReads
namespace Go.Proofs.YtiohpiiiapjblaaDoor.L
open Go Go.Proofs.YtiohpiiiapjblaaDoor Go.Proofs.YtiohpiiiapjblaaDoor.G Go.Proofs.YtiohpiiiapjblaaDoor.W
open Go.ChangeShapes Go.WideShapes Go.ChangeAt Go.RowKit
set_option linter.unusedVariables false
section
variable {H : Type} {enc : TypeId × Value → H} {P : Program} {w : World} {base : Nat} {sp : Nat → Bool} {held : Bool} {fuel : Nat} {cs : List Value} {x : DataW H × List MemPlace} {t : TypeId}

theorem int_in {k : IntKind} (ht : P.underlying t = some (.int k)) (h : DataW.trod enc P w base sp held fuel t cs = some x) : ∃ n, cs = [.int k n] ∧ k.min ≤ n ∧ n ≤ k.max := by
  obtain ⟨n, h1, _, h2⟩ := DataW.trod_int ht h
  simp only [Lit.wf, Bool.and_eq_true, decide_eq_true_eq] at h2
  exact ⟨n, h1, h2.1, h2.2⟩

/-- The fields of a record, each read off its part of the cells. -/
theorem fields_in {fs : Array Field} (ht : P.underlying t = some (.struct fs)) (h : DataW.trod enc P w base sp held fuel t cs = some x) :
    cs.length = P.cellsOf t ∧ ∀ (i : Nat) (f : Field), fs[i]? = some f → ∃ n y, DataW.trod enc P w base sp held n f.type ((cs.drop f.offset).take (P.cellsOf f.type)) = some y := by
  obtain ⟨xs, n, _, _, hl, hlen, hf⟩ := DataW.trod_struct ht h
  refine ⟨hl, fun i f hi => ?_⟩
  have hlt : i < xs.length := by rw [hlen]; exact (Array.getElem?_eq_some_iff.1 hi).1
  have := hf i f hi
  rw [List.getElem?_eq_getElem hlt] at this
  exact ⟨n, _, this⟩

theorem cells_in {a : Addr} {n : Nat} (h : w.cells? base a n = some cs) : cs.length = n ∧ ∀ j, j < n → w.cell? (a.add j) = cs[j]? := by
  unfold World.cells? at h
  split at h
  · have h1 := mapM_some_length h
    refine ⟨by simpa using h1, fun j hj => ?_⟩
    exact mapM_some_get h j j (by simp [hj])
  · cases h

/-- An array of bytes. -/
theorem bytes_in {e n : Nat} (ht : P.underlying t = some (.array n e)) (he : P.underlying e = some (.int .u8)) (hs : P.cellsOf e = 1) (hts : P.cellsOf t = n) (h : DataW.trod enc P w base sp held fuel t cs = some x) : ∃ xs, cs = ints .u8 xs ∧ Arr .u8 n xs := by
  obtain ⟨ys, m, _, _, hl, hlen, hf⟩ := DataW.trod_array ht h
  rw [hts] at hl
  have key : ∀ i, i < n → ∃ z, cs[i]? = some (.int .u8 z) ∧ 0 ≤ z ∧ z < 256 := by
    intro i hi
    have h1 := hf i hi
    rw [List.getElem?_eq_getElem (by omega), hs, Nat.mul_one] at h1
    obtain ⟨z, h2, h3, h4⟩ := int_in he h1
    refine ⟨z, ?_, h3, by have : z ≤ 255 := h4; omega⟩
    have := congrArg (fun l => l[0]?) h2
    simpa [List.getElem?_take, List.getElem?_drop] using this
  clear hf hlen h
  have gen : ∀ k, k ≤ n → ∃ xs : List Int, cs.take k = ints .u8 xs ∧ Arr .u8 k xs := by
    intro k
    induction k with
    | zero => intro _; exact ⟨[], rfl, rfl, Bd.nil _⟩
    | succ k ih =>
      intro hk
      obtain ⟨xs, h1, h2, h3⟩ := ih (by omega)
      obtain ⟨z, h4, h5⟩ := key k (by omega)
      refine ⟨xs ++ [z], ?_, by simp [h2], h3.append (.cons (by simp only [lim]; omega) (.nil _))⟩
      rw [List.take_add_one, h1, h4, ints_append]
      rfl
  obtain ⟨xs, h1, h2⟩ := gen n (Nat.le_refl _)
  rw [List.take_of_length_le (by omega)] at h1
  exact ⟨xs, h1, h2⟩

/-- A slice of arrays of bytes. -/
theorem ids_in {e b sz : Nat} (ht : P.underlying t = some (.slice e)) (he : P.underlying e = some (.array sz b)) (hb : P.underlying b = some (.int .u8)) (hs : P.cellsOf b = 1) (hes : P.cellsOf e = sz) (hz : 0 < sz) (h : DataW.trod enc P w base sp held fuel t cs = some x) :
    ∃ a n c ids, cs = [.slice a n c] ∧ n ≤ c ∧ WRow .u8 sz (fun _ => True) w a n ids := by
  rcases DataW.trod_slice ht h with ⟨h1, _⟩ | ⟨a, len, cap, elems, rest, m, _, h1, _, _, hlc, _, hel, hf, _⟩
  · exact ⟨none, 0, 0, [], h1, Nat.le_refl _, WRow.nil⟩
  · refine ⟨some a, len, cap, ?_⟩
    by_cases h0 : len = 0
    · subst h0
      exact ⟨[], h1, hlc, WRow.nil⟩
    · have one : ∀ i, i < len → ∃ xs, Arr .u8 sz xs ∧ ∀ j, j < sz → w.cell? ((a.add (i * sz)).add j) = some (.int .u8 (xs.getD j 0)) := by
        intro i hi
        have h2 := hf i hi
        rw [List.getElem?_eq_getElem (by omega), hes] at h2
        cases hc : w.cells? base (a.add (i * sz)) sz with
        | none => rw [hc] at h2; cases h2
        | some ds =>
          rw [hc, Option.bind_some] at h2
          obtain ⟨xs, h3, h4⟩ := bytes_in he hb hs hes h2
          obtain ⟨h5, h6⟩ := cells_in hc
          refine ⟨xs, h4, fun j hj => ?_⟩
          rw [h6 j hj, h3]
          have : j < xs.length := by rw [h4.1]; exact hj
          simp [ints, List.getD_eq_getElem?_getD, List.getElem?_eq_getElem this]
      obtain ⟨b0, o, spot⟩ := a
      obtain rfl : spot = none := by
        obtain ⟨xs, _, h3⟩ := one 0 (by omega)
        have := World.cell?_spot (h3 0 hz)
        simpa [Addr.add] using this
      have gen : ∀ k, k ≤ len → ∃ ids : List Int, ids.length = sz * k ∧ Bd .u8 ids ∧ ∀ j, j < sz * k → w.cell? ⟨b0, o + j, none⟩ = some (.int .u8 (ids.getD j 0)) := by
        intro k
        induction k with
        | zero => intro _; exact ⟨[], by simp, Bd.nil _, fun j hj => by simp at hj⟩
        | succ k ih =>
          intro hk
          obtain ⟨ids, h2, h3, h4⟩ := ih (by omega)
          obtain ⟨xs, h5, h6⟩ := one k (by omega)
          refine ⟨ids ++ xs, by rw [List.length_append, h2, h5.1, Nat.mul_add, Nat.mul_one], h3.append h5.2, fun j hj => ?_⟩
          rw [Nat.mul_add, Nat.mul_one] at hj
          by_cases hj2 : j < sz * k
          · rw [h4 j hj2, List.getD_eq_getElem?_getD, List.getD_eq_getElem?_getD, List.getElem?_append_left (by omega)]
          · have := h6 (j - sz * k) (by omega)
            rw [add_mk, add_mk, Nat.mul_comm k, show o + sz * k + (j - sz * k) = o + j by omega] at this
            rw [this, List.getD_eq_getElem?_getD, List.getD_eq_getElem?_getD, List.getElem?_append_right (by omega), h2]
      obtain ⟨ids, h2, h3, h4⟩ := gen len (Nat.le_refl _)
      refine ⟨ids, h1, hlc, ⟨.inr ⟨b0, o, rfl, trivial, fun j hj => ?_⟩, h2, h3⟩⟩
      rw [ints_length] at hj
      rw [h4 j (by omega), ints_getD _ _ _ hj]
end

theorem cC : Tryd.prog.cellsOf 5 = 1 := by kernel_rfl
/-- The constants, laid in the heap at the start. -/
theorem own : ownKnob Tryd.prog.godebug = none := by kernel_rfl
theorem laidOut : laidOutB Tryd.prog = true := by kernel_rfl
section
variable {H : Type} {enc : TypeId × Value → H} {w : World} {base : Nat} {sp : Nat → Bool} {held : Bool} {fuel : Nat} {cs : List Value} {x : DataW H × List MemPlace}
end
end Go.Proofs.YtiohpiiiapjblaaDoor.L
