/-
  G11: equality of arrays and records, strings.
-/
import Derived.Test.YtiohpiiiapjblaaDoorG10
import Derived.DeepKeys
import Derived.Laws.BytesArg
import Derived.Laws.RangeAny
namespace Go.Proofs.YtiohpiiiapjblaaDoor.G
open Go.RowKit

/-- Cells that are equal one by one. -/
def eqC : List Value → List Value → Bool
  | [], [] => true
  | .int _ a :: xs, .int _ b :: ys => (a == b) && eqC xs ys
  | .bool a :: xs, .bool b :: ys => (a == b) && eqC xs ys
  | .string a :: xs, .string b :: ys => (a.toList == b.toList) && eqC xs ys
  | _, _ => false
def plainV : Value → Bool
  | .int _ _ | .bool _ | .string _ => true
  | _ => false
theorem eqC_append : ∀ (a b c d : List Value), a.length = b.length → eqC (a ++ c) (b ++ d) = (eqC a b && eqC c d)
  | [], [], c, d, _ => by simp [eqC]
  | [], _ :: _, _, _, h => by simp at h
  | _ :: _, [], _, _, h => by simp at h
  | x :: a, y :: b, c, d, h => by
    have ih := eqC_append a b c d (by simpa using h)
    cases x <;> cases y <;> simp [eqC, ih, Bool.and_assoc]
theorem eqC_ints {k : IntKind} : ∀ (xs ys : List Int), eqC (ints k xs) (ints k ys) = decide (xs = ys)
  | [], [] => by simp [ints, eqC]
  | [], _ :: _ => by simp [ints, eqC]
  | _ :: _, [] => by simp [ints, eqC]
  | x :: xs, y :: ys => by
    have ih := eqC_ints (k := k) xs ys
    simp only [ints] at ih
    simp [ints, eqC, ih]
    rfl

def partsOk : Nat → List (Nat × Nat) → Option Nat
  | o, [] => some o
  | o, (a, sz) :: r => if Nat.beq a o then partsOk (o + sz) r else none

/-- Cells that are those of a type of integers, bools and strings, to some depth. -/
def FitsT (P : Program) : Nat → TypeId → List Value → Bool
  | 0, _, _ => false
  | d + 1, t, cs =>
    match P.underlying t with
    | some .bool => match cs with | [.bool _] => true | _ => false
    | some (.int q) => match cs with | [.int q' _] => q' == q | _ => false
    | some .string => match cs with | [.string _] => true | _ => false
    | some (.array n e) => (Nat.blt 0 n && Nat.beq cs.length (n * P.cellsOf e)) && (List.range n).all fun i => FitsT P d e ((cs.drop (i * P.cellsOf e)).take (P.cellsOf e))
    | some (.struct fs) => !P.stoodInHeld t && (partsOk 0 (fs.toList.map fun f => (f.offset, P.cellsOf f.type)) == some cs.length) && fs.toList.all fun f => f.name != "_" && FitsT P d f.type ((cs.drop f.offset).take (P.cellsOf f.type))
    | _ => false

/-- A value of cells. -/
def valC (ed : TypeDesc) (cs : List Value) : Value := if isAggD ed then .agg cs.toArray else cs.headD undef

section
variable {P : Program} {w : World}

theorem fits_len : ∀ {d : Nat} {t : TypeId} {cs : List Value}, FitsT P d t cs = true → ∃ ed, P.underlying t = some ed ∧ (isAggD ed = false → cs.length = 1)
  | 0, _, _, h => by simp [FitsT] at h
  | d + 1, t, cs, h => by
    unfold FitsT at h
    split at h
    · rename_i hu; refine ⟨_, hu, fun _ => ?_⟩; split at h <;> simp_all
    · rename_i hu; refine ⟨_, hu, fun _ => ?_⟩; split at h <;> simp_all
    · rename_i hu; refine ⟨_, hu, fun _ => ?_⟩; split at h <;> simp_all
    · rename_i hu; exact ⟨_, hu, fun h => by simp [isAggD] at h⟩
    · rename_i hu; exact ⟨_, hu, fun h => by simp [isAggD] at h⟩
    · cases h

theorem info_cells {t : TypeId} {ed : TypeDesc} (h : P.underlying t = some ed) : ∃ i, P.info? t = some i ∧ i.size = P.cellsOf t := by
  obtain ⟨i, hi⟩ := info_of_underlying h
  exact ⟨i, hi, by simp [Program.cellsOf, hi]⟩

theorem part_run {e : TypeId} {ed : TypeDesc} {off : Nat} {xs : Array Value} (hu : P.underlying e = some ed) (h1 : isAggD ed = false → ((xs.toList.drop off).take (P.cellsOf e)).length = 1) :
    (part e xs off).run P w = .ok (valC ed ((xs.toList.drop off).take (P.cellsOf e))) w := by
  obtain ⟨i, hi, hs⟩ := info_cells hu
  cases hd : isAggD ed
  · have h1 := h1 hd
    have hoff : off < xs.size := by
      rw [List.length_take, List.length_drop, Array.length_toList] at h1; omega
    have hpos : 0 < P.cellsOf e := by
      rw [List.length_take] at h1; omega
    have h2 : xs[off]? = some xs[off] := by simp [hoff]
    simp [part, agg_run hu, hd, h2, valC]
    obtain ⟨m, hm⟩ : ∃ m, P.cellsOf e = m + 1 := ⟨P.cellsOf e - 1, by omega⟩
    rw [hm, List.drop_eq_getElem_cons (show off < xs.toList.length by simpa using hoff)]
    simp
  · have hl : (xs.extract off (off + P.cellsOf e)).toList = (xs.toList.drop off).take (P.cellsOf e) := by
      rw [Array.toList_extract]
      simp [List.extract]
    simp [part, agg_run hu, hd, run_sizeOf w hi, hs, valC]
    apply Array.ext'
    simp [hl]

theorem eq_run (d : Nat) : ∀ (m : Nat) (t : TypeId) (xs ys : List Value) (ed : TypeDesc) (w : World), FitsT P m t xs = true → FitsT P m t ys = true → P.underlying t = some ed → xs.length = ys.length ∧ (Op.equalIn (d + m) t (valC ed xs) (valC ed ys)).run P w = .ok (eqC xs ys) w
  | 0, _, _, _, _, _, h, _, _ => by simp [FitsT] at h
  | m + 1, t, xs, ys, ed, w, hx, hy, hu => by
    unfold FitsT at hx hy
    rw [hu] at hx hy
    rw [show d + (m + 1) = (d + m) + 1 from rfl]
    cases ed
    case bool =>
      dsimp only at hx hy
      split at hx <;> split at hy <;> simp at hx hy
      exact ⟨rfl, by simp [valC, isAggD, run_equalIn_bool w _ _ _ _ hu, eqC]⟩
    case int q =>
      dsimp only at hx hy
      split at hx <;> split at hy <;> simp at hx hy
      subst hx; subst hy
      exact ⟨rfl, by simp [valC, isAggD, run_equalIn_int w _ _ _ _ _ _ hu, eqC]⟩
    case string =>
      dsimp only at hx hy
      split at hx <;> split at hy <;> simp at hx hy
      exact ⟨rfl, by simp [valC, isAggD, run_equalIn_string w _ _ _ _ hu, eqC]⟩
    case array n e =>
      dsimp only at hx hy
      rw [Bool.and_eq_true] at hx hy
      have lx := Nat.eq_of_beq_eq_true (Bool.and_eq_true_iff.1 hx.1).2
      have ly := Nat.eq_of_beq_eq_true (Bool.and_eq_true_iff.1 hy.1).2
      rw [Bool.and_eq_true] at hx
      refine ⟨by rw [lx, ly], ?_⟩
      simp only [valC, isAggD, if_true]
      have key : ∀ (k j : Nat), j + k = n → (Op.eqItems (d + m) e (P.cellsOf e) xs.toArray ys.toArray (List.range' j k)).run P w = .ok (eqC (xs.drop (j * P.cellsOf e)) (ys.drop (j * P.cellsOf e))) w := by
        intro k
        induction k with
        | zero =>
          intro j hj
          have e1 : xs.drop (j * P.cellsOf e) = [] := List.drop_eq_nil_of_le (by rw [lx]; simp at hj; subst hj; exact Nat.le_refl _)
          have e2 : ys.drop (j * P.cellsOf e) = [] := List.drop_eq_nil_of_le (by rw [ly]; simp at hj; subst hj; exact Nat.le_refl _)
          simp [Op.eqItems, e1, e2, eqC]
        | succ k ih =>
          intro j hj
          have fx := List.all_eq_true.1 hx.2 j (by simp; omega)
          have fy := List.all_eq_true.1 hy.2 j (by simp; omega)
          obtain ⟨ed, hue, h1⟩ := fits_len fx
          obtain ⟨ed', hue', h1'⟩ := fits_len fy
          obtain rfl : ed = ed' := by rw [hue] at hue'; exact Option.some.inj hue'
          obtain ⟨hl, hr⟩ := eq_run d m e _ _ ed w fx fy hue
          have ih := ih (j + 1) (by omega)
          have sp : ∀ zs : List Value, zs.drop (j * P.cellsOf e) = (zs.drop (j * P.cellsOf e)).take (P.cellsOf e) ++ zs.drop ((j + 1) * P.cellsOf e) := by
            intro zs
            rw [Nat.add_mul, Nat.one_mul, ← List.drop_drop, List.take_append_drop]
          rw [List.range'_succ, sp xs, sp ys, eqC_append _ _ _ _ hl]
          simp only [Op.eqItems, Sem.run_bind, part_run (xs := xs.toArray) hue (by simpa using h1), part_run (xs := ys.toArray) hue (by simpa using h1'), Result.andThen_ok, hr]
          cases eqC ((xs.drop (j * P.cellsOf e)).take (P.cellsOf e)) ((ys.drop (j * P.cellsOf e)).take (P.cellsOf e))
          · simp
          · simpa using ih
      have hn : 0 < n := by have := hx.1.1; simpa [Nat.blt_eq] using this
      obtain ⟨ed, hue, _⟩ := fits_len (List.all_eq_true.1 hx.2 0 (by simp; omega))
      obtain ⟨i, hi, _⟩ := info_cells hue
      rw [run_equalIn_array w (d + m) _ _ hu hi, List.range_eq_range', key n 0 (by omega)]
      simp
    case struct fs =>
      dsimp only at hx hy
      simp only [Bool.and_eq_true, Bool.not_eq_true'] at hx hy
      have lx : partsOk 0 (fs.toList.map fun f => (f.offset, P.cellsOf f.type)) = some xs.length := by simpa using hx.1.2
      have ly : partsOk 0 (fs.toList.map fun f => (f.offset, P.cellsOf f.type)) = some ys.length := by simpa using hy.1.2
      refine ⟨by rw [lx] at ly; exact Option.some.inj ly, ?_⟩
      simp only [valC, isAggD, if_true]
      have hfs : P.fieldsOf t = fs := by simp [Program.fieldsOf, hu]
      rw [run_equalIn_struct w (d + m) t _ _ (by rw [hfs]; exact hu) hx.1.1, hfs]
      have key : ∀ (l : List Field) (o : Nat), partsOk o (l.map fun f => (f.offset, P.cellsOf f.type)) = some xs.length → partsOk o (l.map fun f => (f.offset, P.cellsOf f.type)) = some ys.length →
          (∀ f ∈ l, (f.name != "_" && FitsT P m f.type ((xs.drop f.offset).take (P.cellsOf f.type))) = true) → (∀ f ∈ l, (f.name != "_" && FitsT P m f.type ((ys.drop f.offset).take (P.cellsOf f.type))) = true) →
          (Op.eqFields (d + m) xs.toArray ys.toArray l).run P w = .ok (eqC (xs.drop o) (ys.drop o)) w := by
        intro l
        induction l with
        | nil =>
          intro o h1 h2 _ _
          simp only [List.map_nil, partsOk, Option.some.injEq] at h1 h2
          rw [List.drop_eq_nil_of_le (by omega), List.drop_eq_nil_of_le (by omega)]
          simp [Op.eqFields, eqC]
        | cons f l ih =>
          intro o h1 h2 h3 h4
          simp only [List.map_cons, partsOk] at h1 h2
          split at h1
          · rename_i ho
            rw [if_pos ho] at h2
            have ho := Nat.eq_of_beq_eq_true ho
            have g3 := h3 f (by simp)
            have g4 := h4 f (by simp)
            rw [Bool.and_eq_true] at g3 g4
            rw [ho] at g3 g4
            have hn : f.name ≠ "_" := by simpa using g3.1
            obtain ⟨ed, hue, e1⟩ := fits_len g3.2
            obtain ⟨ed', hue', e1'⟩ := fits_len g4.2
            obtain rfl : ed = ed' := by rw [hue] at hue'; exact Option.some.inj hue'
            obtain ⟨hl, hr⟩ := eq_run d m f.type _ _ ed w g3.2 g4.2 hue
            have ih := ih (o + P.cellsOf f.type) h1 h2 (fun g hg => h3 g (by simp [hg])) (fun g hg => h4 g (by simp [hg]))
            have sp : ∀ zs : List Value, zs.drop o = (zs.drop o).take (P.cellsOf f.type) ++ zs.drop (o + P.cellsOf f.type) := by
              intro zs
              rw [← List.drop_drop, List.take_append_drop]
            rw [sp xs, sp ys, eqC_append _ _ _ _ hl]
            simp only [Op.eqFields, hn, ne_eq, not_false_eq_true, if_true, ho, Sem.run_bind, part_run (xs := xs.toArray) hue (by simpa using e1), part_run (xs := ys.toArray) hue (by simpa using e1'), Result.andThen_ok, hr]
            cases eqC ((xs.drop o).take (P.cellsOf f.type)) ((ys.drop o).take (P.cellsOf f.type))
            · simp
            · simpa using ih
          · cases h1
      have := key fs.toList 0 lx ly (List.all_eq_true.1 hx.2) (List.all_eq_true.1 hy.2)
      simpa using this
    all_goals simp at hx

theorem fits_arr {t e : TypeId} {n : Nat} {k : IntKind} {xs : List Int} (d : Nat) (hu : P.underlying t = some (.array n e)) (he : P.underlying e = some (.int k)) (hs : P.cellsOf e = 1) (hl : xs.length = n) (hn : 0 < n) : FitsT P (d + 2) t (ints k xs) = true := by
  unfold FitsT
  rw [hu]
  simp only [hs, Nat.mul_one, ints_length, hl, Bool.and_eq_true, Nat.beq_refl, Nat.blt_eq, hn, true_and]
  refine List.all_eq_true.2 fun i hi => ?_
  have hi := List.mem_range.1 hi
  have e1 : ((ints k xs).drop i).take 1 = [.int k (xs.getD i 0)] := by
    rw [List.drop_eq_getElem_cons (show i < (ints k xs).length by rw [ints_length]; omega)]
    simp [ints, List.getD_eq_getElem?_getD, List.getElem?_eq_getElem (show i < xs.length by omega)]
  rw [e1]
  unfold FitsT
  rw [he]
  simp
end

section
variable {P : Program} {ops : Array Oper} {R : World → World → Prop} {K : List Value → World → Prop} {rest : List Oper} {l : List Value} {w : World} {d : Tmp} {dd : Option Tmp} {ty xt yt : TypeId} {pos : String} {af : Array Edge} {g : Option (Nat × Bool)} {x y : Operand}

theorem eqC_bin (op : BinOp) (ho : op = .eql ∨ op = .neq) {xs ys : List Value} {ed : TypeDesc} (hx : ev l x = .agg xs.toArray) (hy : ev l y = .agg ys.toArray) (hu : P.underlying xt = some ed) (ha : isAggD ed = true) (hg : P.eqGuardType P.depth xt = false) (fx : FitsT P 9 xt xs = true) (fy : FitsT P 9 xt ys = true) :
    (execOp (ev l) ⟨dd, .binOp op xt x y yt, ty, pos, af, g⟩).run P w = .ok (.value (.bool (if op = .eql then eqC xs ys else !(eqC xs ys)))) w := by
  have h1 := (eq_run (P := P) 9991 9 xt xs ys ed w fx fy hu).2
  simp only [valC, ha, if_true] at h1
  simp only [execOp]
  rw [hx, hy]
  rcases ho with rfl | rfl
  · simp only [Sem.run_bind, run_eqGuard_agg w .eql xt x y _ _ hg, Result.andThen_ok, run_eql_struct, h1]
    rfl
  · simp only [Sem.run_bind, run_eqGuard_agg w .neq xt x y _ _ hg, Result.andThen_ok, run_neq_struct, h1]
    rfl
theorem D.eqA {xs ys : List Value} {ed : TypeDesc} (hx : ev l x = .agg xs.toArray) (hy : ev l y = .agg ys.toArray) (hu : P.underlying xt = some ed) (ha : isAggD ed = true) (hg : P.eqGuardType P.depth xt = false) (fx : FitsT P 9 xt xs = true) (fy : FitsT P 9 xt ys = true) :
    (execOp (ev l) ⟨dd, .binOp .eql xt x y yt, ty, pos, af, g⟩).run P w = .ok (.value (.bool (eqC xs ys))) w := eqC_bin .eql (.inl rfl) hx hy hu ha hg fx fy
theorem D.neA {xs ys : List Value} {ed : TypeDesc} (hx : ev l x = .agg xs.toArray) (hy : ev l y = .agg ys.toArray) (hu : P.underlying xt = some ed) (ha : isAggD ed = true) (hg : P.eqGuardType P.depth xt = false) (fx : FitsT P 9 xt xs = true) (fy : FitsT P 9 xt ys = true) :
    (execOp (ev l) ⟨dd, .binOp .neq xt x y yt, ty, pos, af, g⟩).run P w = .ok (.value (.bool (!(eqC xs ys)))) w := eqC_bin .neq (.inr rfl) hx hy hu ha hg fx fy
/-- Arrays of integers that are equal. -/
theorem D.eqI {e : TypeId} {n : Nat} {k : IntKind} {xs ys : List Int} (hx : ev l x = .agg (ints k xs).toArray) (hy : ev l y = .agg (ints k ys).toArray) (hu : P.underlying xt = some (.array n e)) (he : P.underlying e = some (.int k)) (hs : P.cellsOf e = 1) (hg : P.eqGuardType P.depth xt = false) (lx : xs.length = n) (ly : ys.length = n) (hn : 0 < n) :
    (execOp (ev l) ⟨dd, .binOp .eql xt x y yt, ty, pos, af, g⟩).run P w = .ok (.value (.bool (decide (xs = ys)))) w := by
  have := D.eqA (dd := dd) (yt := yt) (ty := ty) (pos := pos) (af := af) (g := g) (w := w) hx hy hu rfl hg (fits_arr 7 hu he hs lx hn) (fits_arr 7 hu he hs ly hn)
  rwa [eqC_ints] at this
theorem D.neI {e : TypeId} {n : Nat} {k : IntKind} {xs ys : List Int} (hx : ev l x = .agg (ints k xs).toArray) (hy : ev l y = .agg (ints k ys).toArray) (hu : P.underlying xt = some (.array n e)) (he : P.underlying e = some (.int k)) (hs : P.cellsOf e = 1) (hg : P.eqGuardType P.depth xt = false) (lx : xs.length = n) (ly : ys.length = n) (hn : 0 < n) :
    (execOp (ev l) ⟨dd, .binOp .neq xt x y yt, ty, pos, af, g⟩).run P w = .ok (.value (.bool (decide (xs ≠ ys)))) w := by
  have := D.neA (dd := dd) (yt := yt) (ty := ty) (pos := pos) (af := af) (g := g) (w := w) hx hy hu rfl hg (fits_arr 7 hu he hs lx hn) (fits_arr 7 hu he hs ly hn)
  rw [eqC_ints] at this
  rw [this]
  simp
end
end Go.Proofs.YtiohpiiiapjblaaDoor.G
