/-
  G12: strings: their bytes, conversions, the range over one; copy; fields of values.
-/
import Derived.Test.YtiohpiiiapjblaaDoorG11
import Derived.Laws.IdiomStrings
namespace Go.Proofs.YtiohpiiiapjblaaDoor.G
open Go.RowKit

/-- The bytes of a string, as numbers. -/
def bys (s : ByteArray) : List Int := s.data.toList.map fun b => (b.toNat : Int)
theorem bys_len (s : ByteArray) : (bys s).length = s.size := by simp [bys]
theorem bys_bd (s : ByteArray) : Bd .u8 (bys s) := by
  intro x hx
  obtain ⟨b, _, rfl⟩ := List.mem_map.1 hx
  have := b.toNat_lt
  simp only [lim]
  omega
theorem bys_get (s : ByteArray) (i : Nat) (h : i < s.size) : (bys s).getD i 0 = (s[i].toNat : Int) := by
  have h2 : i < s.data.toList.length := by simpa using h
  simp only [bys, List.getD_eq_getElem?_getD, List.getElem?_map, List.getElem?_eq_getElem h2, Option.map_some, Option.getD_some]
  rfl
theorem bys_inj {s t : ByteArray} (h : bys s = bys t) : s = t := by
  have h1 : s.data.toList = t.data.toList := by
    have := congrArg (List.map fun x : Int => UInt8.ofNat x.toNat) h
    simpa [bys, Function.comp_def] using this
  exact ByteArray.ext (Array.ext' h1)
theorem bys_strOf (xs : List Int) (h : Bd .u8 xs) : bys (strOfNums xs) = xs := by
  simp only [bys, strOfNums, List.map_map]
  have : ∀ x ∈ xs, ((fun b : UInt8 => (b.toNat : Int)) ∘ fun n : Int => UInt8.ofNat n.toNat) x = x := by
    intro x hx
    have := h x hx
    simp only [lim] at this
    simp only [Function.comp_def, UInt8.toNat_ofNat']
    omega
  rw [List.map_congr_left this]
  simp
theorem strOf_bys (s : ByteArray) : strOfNums (bys s) = s := bys_inj (bys_strOf _ (bys_bd s))
theorem strEq (s t : ByteArray) : (s.toList == t.toList) = decide (s = t) := by
  rw [ByteArray.toList_eq, ByteArray.toList_eq]
  by_cases h : s = t
  · simp [h]
  · have : s.data.toList ≠ t.data.toList := fun e => h (ByteArray.ext (Array.ext' e))
    rw [decide_eq_false h]
    exact beq_eq_false_iff_ne.2 this
theorem eqC_str (a b : ByteArray) (xs ys : List Value) : eqC (.string a :: xs) (.string b :: ys) = (decide (a = b) && eqC xs ys) := by rw [eqC, strEq]
theorem empty_eq (s : ByteArray) : s = ByteArray.empty ↔ bys s = [] := by
  constructor
  · rintro rfl; rfl
  · intro h; exact bys_inj h

/-- A place in a string. -/
def It (w : World) (b : Nat) (s : ByteArray) (p : Nat) : Prop := w.heap[b]? = some (.stringIter s p)
theorem It.lt {w : World} {b : Nat} {s : ByteArray} {p : Nat} (h : It w b s p) : b < w.heap.size := (Array.getElem?_eq_some_iff.1 h).1
theorem It.ext {w w' : World} {b : Nat} {s : ByteArray} {p : Nat} (h : It w b s p) (k : Ext w w') : It w' b s p := by unfold It; rw [k.block b h.lt]; exact h
theorem It.st {w w' : World} {b c : Nat} {s : ByteArray} {p : Nat} (h : It w b s p) (k : St c w w') (hn : b ≠ c) : It w' b s p := by unfold It; rw [k.block b hn]; exact h
theorem It.pr {S : Nat → Prop} {w w' : World} {b : Nat} {s : ByteArray} {p : Nat} (h : It w b s p) (k : Pr S w w') (hn : ¬ S b) : It w' b s p := by unfold It; rw [k.block b h.lt hn]; exact h

section
variable {P : Program} {ops : Array Oper} {R : World → World → Prop} {K : List Value → World → Prop} {rest : List Oper} {l : List Value} {w : World} {d : Tmp} {dd : Option Tmp} {ty xt yt : TypeId} {pos : String} {af : Array Edge} {g : Option (Nat × Bool)} {x y : Operand}

theorem D.indexStr {s : ByteArray} {k : IntKind} {i : Int} (hx : ev l x = .string s) (hy : ev l y = .int k i) (hu : P.underlying xt = some .string) (hi : 0 ≤ i ∧ i < s.size) :
    (execOp (ev l) ⟨dd, .index xt x y, ty, pos, af, g⟩).run P w = .ok (.value (.int .u8 ((bys s).getD i.toNat 0))) w := by
  have h1 : i.toNat < s.size := by omega
  rw [bys_get s _ h1]
  simp only [execOp]; rw [hx, hy]
  simp [Instr.index, asIntOf, run_underlying hu, hi.1, h1]
/-- A byte of a string. -/
theorem RS.indexStr {s : ByteArray} {k : IntKind} {i : Int} (hx : ev l x = .string s) (hy : ev l y = .int k i) (hu : P.underlying xt = some .string) (hi : 0 ≤ i ∧ i < s.size)
    (h : ∀ v, v = (bys s).getD i.toNat 0 → 0 ≤ v ∧ v < lim .u8 → RS P ops K rest (l.set d (.int .u8 v)) w) : RS P ops K (⟨some d, .index xt x y, ty, pos, af, none⟩ :: rest) l w :=
  RS.o (D.indexStr hx hy hu hi) (h _ rfl ((bys_bd s).get _)) rfl

/-- '[]byte(s)'. -/
theorem RS.convSB {s : ByteArray} {src dst e : TypeId} (hx : ev l x = .string s) (hs : P.underlying src = some .string) (hd : P.underlying dst = some (.slice e)) (he : P.underlying e = some (.int .u8))
    (h : ∀ a c w', Ext w w' → s.size ≤ c → w'.heap.size = w.heap.size + 1 → IRow .u8 (fun k => w.heap.size ≤ k) w' a s.size (bys s) → RS P ops K rest (l.set d (.slice a s.size c)) w') :
    RS P ops K (⟨some d, .convert src dst x, ty, pos, af, none⟩ :: rest) l w := by
  have hr := run_bytes_of_string (P := P) w src dst e s hs hd he
  have hx2 : Ext w (w.drew.alloc (.cells (bytesRow s (grownCap w s.size 0 e)) e ((bytesRow s (grownCap w s.size 0 e)).size, (bytesRow s (grownCap w s.size 0 e)).size + 1))) :=
    ((Below.refl _ _).drew).alloc (Nat.le_refl _) _
  refine RS.o (v := .slice (some ⟨w.heap.size, 0, none⟩) s.size (grownCap w s.size 0 e)) (w' := _) ?_ (h _ _ _ hx2 (grownCap_ge w s.size 0 e) (World.size_alloc _ _) ⟨.inr ⟨w.heap.size, 0, rfl, Nat.le_refl _, ?_⟩, bys_len s, bys_bd s⟩) rfl
  · simp only [execOp]; rw [hx]
    simp [hr]
  · intro j hj
    have hj' : j < s.data.size := by rw [ints_length, bys_len] at hj; exact hj
    have h1 := World.cell?_alloc_mark w.drew (bytesRow s (grownCap w s.size 0 e)) e ((bytesRow s (grownCap w s.size 0 e)).size, (bytesRow s (grownCap w s.size 0 e)).size + 1) j
    have hsz : w.drew.heap.size = w.heap.size := rfl
    rw [hsz] at h1
    rw [Nat.zero_add, h1, bytesRow_at s _ j hj']
    congr 1
    simp only [ints, bys, List.getD_eq_getElem?_getD, List.getElem?_map, Array.getElem?_toList]
    rw [Array.getElem?_eq_getElem hj']
    rfl

theorem Row.load {S : Nat → Prop} {a : Addr} {xs : List Int} {k : IntKind} (h : Row S w (some a) (ints k xs)) : ∀ (j : Nat) (v : Value), (ints k xs)[j]? = some v → w.cell? (a.add j) = some v := h.news rfl

/-- 'string(b)'. -/
theorem D.convBS {S : Nat → Prop} {a : Option Addr} {n c : Nat} {xs : List Int} {src dst e : TypeId} (hR : IRow .u8 S w a n xs) (hx : ev l x = .slice a n c) (hs : P.underlying src = some (.slice e)) (he : P.underlying e = some (.int .u8)) (hd : P.underlying dst = some .string) :
    (execOp (ev l) ⟨dd, .convert src dst x, ty, pos, af, g⟩).run P w = .ok (.value (.string (strOfNums xs))) w := by
  have hl := hR.len
  have key : (convert src dst (.slice a n c)).run P w = .ok (.string (strOfNums xs)) w := by
    cases a with
    | none =>
      have : xs = [] := by
        rcases hR.row with h | ⟨b, o, h, _⟩
        · exact List.eq_nil_of_length_eq_zero (by rw [← ints_length (k := .u8), h]; rfl)
        · cases h
      subst this
      rw [run_convert_bytes_nil w src e hs he n c dst hd]
      rfl
    | some ad =>
      rcases hR.row with h | ⟨b, o, h, _, hc⟩
      · have : xs = [] := List.eq_nil_of_length_eq_zero (by rw [← ints_length (k := .u8), h]; rfl)
        subst this
        simp at hl
        subst hl
        rw [run_convert_bytes_string w src dst e _ 0 c hs he hd, run_bytesToString w ad 0 c [] (by simp [loadCells, loadCellsFrom])]
        rfl
      · obtain rfl := Option.some.inj h
        exact run_convert_bytes_arg w src e hs he b o n c xs hl (fun i hi => by rw [hc i (by rw [ints_length]; omega), ints_getD _ _ _ (by omega)]) dst hd
  simp only [execOp]; rw [hx]
  simp [key]

theorem RS.range {s : ByteArray} (hx : ev l x = .string s) (hu : P.underlying xt = some .string)
    (h : ∀ b w', w.heap.size = b → w'.heap.size = b + 1 → Ext w w' → It w' b s 0 → RS P ops K rest (l.set d (.pointer (some ⟨b, 0, none⟩))) w') : RS P ops K (⟨some d, .range xt x, ty, pos, af, none⟩ :: rest) l w := by
  refine RS.o (v := .pointer (some ⟨w.heap.size, 0, none⟩)) (w' := w.iter s 0) ?_ (h w.heap.size _ rfl (by simp [World.iter]) ((Below.refl _ _).alloc (Nat.le_refl _) _) (World.iter_heap w s 0)) rfl
  simp only [execOp]; rw [hx]
  simp [run_range_string w xt s hu]

theorem RS.next {s : ByteArray} {b p : Nat} (hI : It w b s p) (hx : ev l x = .pointer (some ⟨b, 0, none⟩))
    (h1 : p < s.size → ∀ w', St b w w' → It w' b s (p + (Utf8.decode s p).2) → RS P ops K rest (l.set d (.tuple #[.bool true, .int .i64 p, .int .i32 (Utf8.decode s p).1])) w')
    (h2 : ¬ p < s.size → RS P ops K rest (l.set d (.tuple #[.bool false])) w) : RS P ops K (⟨some d, .next x true, ty, pos, af, none⟩ :: rest) l w := by
  by_cases hp : p < s.size
  · refine RS.o (v := .tuple #[.bool true, .int .i64 p, .int .i32 (Utf8.decode s p).1]) (w' := { w with heap := w.heap.setIfInBounds b (.stringIter s (p + (Utf8.decode s p).2)) }) ?_
      (h1 hp _ ⟨rfl, rfl, rfl, by simp, fun k hk => by simp [Array.getElem?_setIfInBounds, Ne.symm hk]⟩ (by unfold It; simp [hI.lt])) rfl
    simp only [execOp]; rw [hx]
    have := hI
    unfold It at this
    simp [Instr.next, getObj, setObj, Sem.run, this, Result.andThen, hp, goInt]
  · refine RS.o (v := .tuple #[.bool false]) (w' := w) ?_ (h2 hp) rfl
    simp only [execOp]; rw [hx]
    have := hI
    unfold It at this
    simp [Instr.next, getObj, Sem.run, this, Result.andThen, hp]

/-- A field of a value. -/
theorem D.field {cs vs : List Value} {fs : Array Field} {f : Field} {i : Nat} {ed : TypeDesc} {v : Value} (hx : ev l x = .agg cs.toArray) (hu : P.underlying xt = some (.struct fs)) (hf : fs[i]? = some f) (he : P.underlying f.type = some ed) (hv : (cs.drop f.offset).take (P.cellsOf f.type) = vs)
    (h1 : isAggD ed = false → vs.length = 1) (hv2 : valC ed vs = v) : (execOp (ev l) ⟨dd, .field xt x i, ty, pos, af, g⟩).run P w = .ok (.value v) w := by
  subst hv hv2
  have := part_run (P := P) (w := w) (off := f.offset) (xs := cs.toArray) he (by simpa using h1)
  simp only [execOp]; rw [hx]
  have h2 : (asAgg (.agg cs.toArray)).run P w = .ok cs.toArray w := by simp [asAgg]
  simp [Instr.field, run_underlying hu, hf, h2, Result.andThen, this]
end
end Go.Proofs.YtiohpiiiapjblaaDoor.G
