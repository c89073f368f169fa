/-
  G3: the world while a call runs: what grows, what is written; rules for operations that make or write memory, for calls, and for code around regions.
-/
import Derived.Test.YtiohpiiiapjblaaDoorG2
import Derived.Deep.LoopGhost
namespace Go.Proofs.YtiohpiiiapjblaaDoor.G
open Go.RowKit

/-- What was there is as it was. -/
abbrev Ext (w w' : World) : Prop := Below w.heap.size w w'
theorem Ext.refl (w : World) : Ext w w := Below.refl _ _
theorem Ext.tr {a b c : World} (h : Ext a b) (k : Ext b c) : Ext a c := Below.trans h (k.mono h.size)

/-- One block was written, nothing else. -/
structure St (b : Nat) (w w' : World) : Prop where
  os : w'.os = w.os
  tape : w'.tape = w.tape
  output : w'.output = w.output
  size : w'.heap.size = w.heap.size
  block : ∀ k, k ≠ b → w'.heap[k]? = w.heap[k]?

theorem St.below {B b : Nat} {w w' : World} (h : St b w w') (hb : B ≤ b) : Below B w w' :=
  ⟨h.os, h.tape, h.output, by rw [h.size]; exact Nat.le_refl _, fun k hk => h.block k (by omega)⟩

/-- A block of cells, known whole. -/
def Blk (w : World) (b : Nat) (cs : List Value) (T : TypeId) : Prop := w.heap[b]? = some (.cells cs.toArray T (0, 0))

theorem Blk.lt {w : World} {b : Nat} {cs : List Value} {T : TypeId} (h : Blk w b cs T) : b < w.heap.size := by
  unfold Blk at h
  exact (Array.getElem?_eq_some_iff.1 h).1
theorem Blk.ext {w w' : World} {b : Nat} {cs : List Value} {T : TypeId} (h : Blk w b cs T) (k : Ext w w') : Blk w' b cs T := by
  unfold Blk; rw [k.block b h.lt]; exact h
theorem Blk.st {w w' : World} {b c : Nat} {cs : List Value} {T : TypeId} (h : Blk w b cs T) (k : St c w w') (hne : b ≠ c) : Blk w' b cs T := by
  unfold Blk; rw [k.block b hne]; exact h
theorem Blk.cell {w : World} {b o : Nat} {cs : List Value} {T : TypeId} {v : Value} (h : Blk w b cs T) (hv : cs[o]? = some v) : w.cell? ⟨b, o, none⟩ = some v := by
  simp only [World.cell?]
  rw [show w.heap[b]? = _ from h]
  simp [hv]
theorem Blk.cells {w : World} {b o : Nat} {cs vs : List Value} {T : TypeId} (h : Blk w b cs T) (hv : (cs.drop o).take vs.length = vs) : Cells w b o vs := by
  intro j hj
  refine h.cell ?_
  have e : ((cs.drop o).take vs.length)[j]? = vs[j]? := by rw [hv]
  rw [List.getElem?_take] at e
  simp only [hj, if_true, List.getElem?_drop] at e
  rw [e, List.getD_eq_getElem?_getD, List.getElem?_eq_getElem hj]
  rfl

theorem Blk.cellsN {w : World} {b o : Nat} {cs : List Value} {T : TypeId} (h : Blk w b cs T) (n : Nat) {vs : List Value} (hv : (cs.drop o).take n = vs) : Cells w b o vs := by
  intro j hj
  refine h.cell ?_
  have e : ((cs.drop o).take n)[j]? = vs[j]? := by rw [hv]
  have hn : j < n := by rw [← hv] at hj; simp at hj; omega
  rw [List.getElem?_take] at e
  simp only [hn, if_true, List.getElem?_drop] at e
  rw [e, List.getD_eq_getElem?_getD, List.getElem?_eq_getElem hj]
  rfl

/-- What was there is as it was, but for blocks in a set. -/
structure Pr (S : Nat → Prop) (w w' : World) : Prop where
  os : w'.os = w.os
  tape : w'.tape = w.tape
  output : w'.output = w.output
  size : w.heap.size ≤ w'.heap.size
  block : ∀ k, k < w.heap.size → ¬ S k → w'.heap[k]? = w.heap[k]?
theorem Pr.below {S : Nat → Prop} {B : Nat} {w w' : World} (h : Pr S w w') (hb : ∀ k, S k → B ≤ k) (hB : B ≤ w.heap.size) : Below B w w' :=
  ⟨h.os, h.tape, h.output, h.size, fun k hk => h.block k (by omega) (fun hs => by have := hb k hs; omega)⟩
theorem Pr.refl (S : Nat → Prop) (w : World) : Pr S w w := ⟨rfl, rfl, rfl, Nat.le_refl _, fun _ _ _ => rfl⟩
theorem Pr.tr {S : Nat → Prop} {a b c : World} (h : Pr S a b) (k : Pr S b c) : Pr S a c :=
  ⟨k.os.trans h.os, k.tape.trans h.tape, k.output.trans h.output, Nat.le_trans h.size k.size, fun i hi hs => (k.block i (Nat.lt_of_lt_of_le hi h.size) hs).trans (h.block i hi hs)⟩
theorem Pr.ext {S : Nat → Prop} {a b c : World} (h : Pr S a b) (k : Ext b c) : Pr S a c :=
  h.tr ⟨k.os, k.tape, k.output, k.size, fun i hi _ => k.block i hi⟩
theorem Pr.st {S : Nat → Prop} {a b c : World} {n : Nat} (h : Pr S a b) (k : St n b c) (hs : S n) : Pr S a c :=
  h.tr ⟨k.os, k.tape, k.output, by rw [k.size]; exact Nat.le_refl _, fun i _ hi => k.block i (fun e => hi (e ▸ hs))⟩
theorem Pr.prn {S T : Nat → Prop} {a b c : World} (h : Pr S a b) (k : Pr T b c) (ht : ∀ n, T n → S n ∨ a.heap.size ≤ n) : Pr S a c :=
  ⟨k.os.trans h.os, k.tape.trans h.tape, k.output.trans h.output, Nat.le_trans h.size k.size, fun i hi hs => (k.block i (Nat.lt_of_lt_of_le hi h.size) (fun e => by rcases ht i e with h | h; exact hs h; omega)).trans (h.block i hi hs)⟩
/-- A block that was not there yet may be written at will. -/
theorem Pr.new {S : Nat → Prop} {a b c : World} {n : Nat} (h : Pr S a b) (k : St n b c) (hn : a.heap.size ≤ n) : Pr S a c :=
  ⟨k.os.trans h.os, k.tape.trans h.tape, k.output.trans h.output, by rw [k.size]; exact h.size, fun i hi hs => (k.block i (by omega)).trans (h.block i hi hs)⟩
theorem Blk.pr {S : Nat → Prop} {w w' : World} {b : Nat} {cs : List Value} {T : TypeId} (h : Blk w b cs T) (k : Pr S w w') (hb : ¬ S b) : Blk w' b cs T := by
  unfold Blk; rw [k.block b h.lt hb]; exact h

def cellB : Value → Bool
  | .agg _ | .tuple _ => false
  | _ => true

theorem store_blk {P : Program} {w : World} {b o : Nat} {cs : List Value} {T : TypeId} {v : Value} (h : Blk w b cs T) (ho : o < cs.length) (hv : cellB v = true) :
    ∃ w', (Go.store ⟨b, o, none⟩ v).run P w = .ok () w' ∧ St b w w' ∧ Blk w' b (cs.set o v) T := by
  have hc : w.cell? ⟨b, o, none⟩ = some cs[o] := h.cell (by simp [List.getElem?_eq_getElem ho])
  have hf : w.frozen? ⟨b, o, none⟩ = false := by
    simp only [World.frozen?]
    rw [show w.heap[b]? = _ from h]
    simp
  refine ⟨w.setCell ⟨b, o, none⟩ v, ?_, ⟨rfl, rfl, rfl, by simp [World.setCell], ?_⟩, ?_⟩
  · cases v <;> simp [cellB] at hv <;> simp only [Go.store, Sem.run, hc, hf] <;> rfl
  · intro k hk
    simp only [World.setCell, Array.getElem?_modify]
    rw [if_neg (by omega)]
  · unfold Blk
    simp only [World.setCell, Array.getElem?_modify, if_true]
    rw [show w.heap[b]? = _ from h]
    simp

theorem St.refl (b : Nat) (w : World) : St b w w := ⟨rfl, rfl, rfl, rfl, fun _ _ => rfl⟩
theorem St.tr {b : Nat} {w w' w'' : World} (h : St b w w') (k : St b w' w'') : St b w w'' :=
  ⟨k.os.trans h.os, k.tape.trans h.tape, k.output.trans h.output, k.size.trans h.size, fun i hi => (k.block i hi).trans (h.block i hi)⟩

/-- A list into which another one was written from a place on. -/
def splice (cs : List Value) (o : Nat) : List Value → List Value
  | [] => cs
  | v :: vs => splice (cs.set o v) (o + 1) vs
theorem splice_length : ∀ (vs cs : List Value) (o : Nat), (splice cs o vs).length = cs.length
  | [], _, _ => rfl
  | v :: vs, cs, o => by unfold splice; rw [splice_length vs]; simp

theorem storeCells_blk {P : Program} {b o : Nat} {T : TypeId} : ∀ (vs : List Value) (i : Nat) (cs : List Value) (w : World), Blk w b cs T → o + i + vs.length ≤ cs.length → (∀ v ∈ vs, cellB v = true) →
    ∃ w', (storeCells ⟨b, o, none⟩ vs i).run P w = .ok () w' ∧ St b w w' ∧ Blk w' b (splice cs (o + i) vs) T
  | [], i, cs, w, h, _, _ => ⟨w, by simp [storeCells], St.refl _ _, h⟩
  | v :: vs, i, cs, w, h, hl, hv => by
    have hl' : o + i + (vs.length + 1) ≤ cs.length := by simpa using hl
    obtain ⟨w1, h1, h2, h3⟩ := store_blk (P := P) (o := o + i) (v := v) h (by omega) (hv v (by simp))
    obtain ⟨w2, k1, k2, k3⟩ := storeCells_blk (P := P) (o := o) vs (i + 1) _ w1 h3 (by simp; omega) (fun v hm => hv v (by simp [hm]))
    refine ⟨w2, ?_, h2.tr k2, k3⟩
    simp only [storeCells, add_mk]
    rw [Sem.run_bind, h1]
    exact k1

section
variable {P : Program} {ops : Array Oper} {K : List Value → World → Prop} {rest : List Oper} {l : List Value} {w : World} {d : Tmp} {ty : TypeId} {pos : String} {af : Array Edge}

theorem RS.store {x y : Operand} {xt : TypeId} {b o : Nat} {cs : List Value} {T : TypeId} {v : Value} (hx : ev l x = .pointer (some ⟨b, o, none⟩)) (hy : ev l y = v) (hs : P.cellsOf xt = 1) (hv : cellB v = true)
    (hB : Blk w b cs T) (ho : Nat.ble (o + 1) cs.length = true) (k : ∀ w', St b w w' → Blk w' b (cs.set o v) T → RS P ops K rest l w') :
    RS P ops K (⟨none, .store xt x y, ty, pos, af, none⟩ :: rest) l w := by
  obtain ⟨w1, h1, h2, h3⟩ := store_blk (P := P) (v := v) hB (Nat.le_of_ble_eq_true ho) hv
  have hvc : v.cells = #[v] := by cases v <;> simp [cellB] at hv <;> rfl
  refine RS.u rfl rfl ?_ (k w1 h2 h3)
  simp only [execOp]; rw [hx, hy]
  simp [Instr.storeAt, Instr.sureAddr, storeVar, size_run hs (by decide), hvc, storeCells, h1, Addr.add]

theorem RS.storeAgg {x y : Operand} {xt : TypeId} {b o sz : Nat} {cs vs : List Value} {T : TypeId} (hx : ev l x = .pointer (some ⟨b, o, none⟩)) (hy : ev l y = .agg vs.toArray) (hs : P.cellsOf xt = sz) (hz : sz ≠ 0) (hn : vs.length = sz)
    (hv : ∀ v ∈ vs, cellB v = true) (hB : Blk w b cs T) (ho : o + vs.length ≤ cs.length) (k : ∀ w', St b w w' → Blk w' b (splice cs o vs) T → RS P ops K rest l w') :
    RS P ops K (⟨none, .store xt x y, ty, pos, af, none⟩ :: rest) l w := by
  obtain ⟨w1, h1, h2, h3⟩ := storeCells_blk (P := P) (o := o) vs 0 cs w hB (by simpa using ho) hv
  refine RS.u rfl rfl ?_ (k w1 h2 h3)
  simp only [execOp]; rw [hx, hy]
  simp [Instr.storeAt, Instr.sureAddr, storeVar, size_run hs hz, Value.cells, hn, h1]

/-- A new block. -/
theorem new_facts (w : World) (cs : List Value) (T : TypeId) : Ext w (w.alloc (.cells cs.toArray T)) ∧ Blk (w.alloc (.cells cs.toArray T)) w.heap.size cs T ∧ (w.alloc (.cells cs.toArray T)).heap.size = w.heap.size + 1 := by
  refine ⟨(Below.refl _ _).alloc (Nat.le_refl _) _, ?_, by simp⟩
  unfold Blk
  show (w.heap.push _)[w.heap.size]? = _
  simp

theorem RS.new {op : Op} {cs : List Value} {T : TypeId} {f : Nat → Value}
    (hr : (execOp (ev l) ⟨some d, op, ty, pos, af, none⟩).run P w = .ok (.value (f w.heap.size)) (w.alloc (.cells cs.toArray T)))
    (k : ∀ b w', w.heap.size = b → w'.heap.size = b + 1 → Ext w w' → Blk w' b cs T → RS P ops K rest (l.set d (f b)) w') : RS P ops K (⟨some d, op, ty, pos, af, none⟩ :: rest) l w :=
  RS.o hr (k _ _ rfl (new_facts w cs T).2.2 (new_facts w cs T).1 (new_facts w cs T).2.1) rfl

/-- A type's row. -/
def TI (P : Program) (t : TypeId) (sz by_ : Nat) (z : List Value) : Prop := ∃ i v, P.info? t = some i ∧ i.size = sz ∧ i.bytes = by_ ∧ i.zero = some v ∧ v.cells = z.toArray
theorem TI.mk {i : TypeInfo} {t : TypeId} {sz by_ : Nat} {z : List Value} {v : Value} (h : P.info? t = some i) (h1 : i.size = sz) (h2 : i.bytes = by_) (h3 : i.zero = some v) (h4 : v.cells = z.toArray) : TI P t sz by_ z := ⟨i, v, h, h1, h2, h3, h4⟩

theorem TI.of {t : TypeId} {sz by_ : Nat} {z : List Value} {v : Value} (h : (P.info? t).map (fun i => (i.size, i.bytes, i.zero)) = some (sz, by_, some v)) (h4 : v.cells = z.toArray) : TI P t sz by_ z := by
  cases hi : P.info? t with
  | none => simp [hi] at h
  | some i =>
    simp [hi] at h
    exact ⟨i, v, hi, h.1, h.2.1, h.2.2, h4⟩

theorem D.alloc {t : TypeId} {sz by_ : Nat} {z : List Value} (ht : TI P t sz by_ z) :
    (execOp (ev l) ⟨some d, .alloc t, ty, pos, af, none⟩).run P w = .ok (.value (.pointer (some ⟨w.heap.size, 0, none⟩))) (w.alloc (.cells z.toArray t)) := by
  obtain ⟨i, v, h1, h2, h3, h4, h5⟩ := ht
  simp only [execOp]
  simp [Instr.alloc, zeroValue, typeInfo, h1, h4, newVar, newRow, h5]
theorem D.box {t : TypeId} {x : Operand} {v : Value} {cs : List Value} (hx : ev l x = v) (hc : v.cells = cs.toArray) :
    (execOp (ev l) ⟨some d, .box t x, ty, pos, af, none⟩).run P w = .ok (.value (.pointer (some ⟨w.heap.size, 0, none⟩))) (w.alloc (.cells cs.toArray t)) := by
  simp only [execOp]; rw [hx]
  simp [Instr.box, newVar, newRow, hc]

theorem RS.alloc {t : TypeId} {sz by_ : Nat} {z : List Value} (ht : TI P t sz by_ z)
    (k : ∀ b w', w.heap.size = b → w'.heap.size = b + 1 → Ext w w' → Blk w' b z t → RS P ops K rest (l.set d (.pointer (some ⟨b, 0, none⟩))) w') :
    RS P ops K (⟨some d, .alloc t, ty, pos, af, none⟩ :: rest) l w :=
  RS.new (f := fun b => .pointer (some ⟨b, 0, none⟩)) (D.alloc ht) k
theorem RS.box {t : TypeId} {x : Operand} {v : Value} {cs : List Value} (hx : ev l x = v) (hc : v.cells = cs.toArray)
    (k : ∀ b w', w.heap.size = b → w'.heap.size = b + 1 → Ext w w' → Blk w' b cs t → RS P ops K rest (l.set d (.pointer (some ⟨b, 0, none⟩))) w') :
    RS P ops K (⟨some d, .box t x, ty, pos, af, none⟩ :: rest) l w :=
  RS.new (f := fun b => .pointer (some ⟨b, 0, none⟩)) (D.box hx hc) k

/-- Parts in their order, from a place on. -/
def enumV {α : Type} : Nat → List α → List (Nat × α)
  | _, [] => []
  | k, x :: xs => (k, x) :: enumV (k + 1) xs
theorem enumV_map {α β : Type} (f : α → β) : ∀ (xs : List α) (k : Nat), (enumV k xs).map (fun (i, x) => (i, f x)) = enumV k (xs.map f)
  | [], _ => rfl
  | x :: xs, k => by simp [enumV]; simpa using enumV_map f xs (k + 1)

theorem foldl_set : ∀ (vs : List Value) (cells : Array Value) (at_ i : Nat), at_ + i + vs.length ≤ cells.size →
    ((vs.zipIdx i).foldl (fun (cs : Array Value) (x : Value × Nat) => cs.setIfInBounds (at_ + x.2) x.1) cells).toList = cells.toList.take (at_ + i) ++ vs ++ cells.toList.drop (at_ + i + vs.length)
  | [], cells, at_, i, _ => by simp
  | v :: vs, cells, at_, i, h => by
    simp only [List.length_cons] at h
    rw [List.zipIdx_cons, List.foldl_cons, foldl_set vs _ at_ (i + 1) (by simp; omega)]
    have hi : at_ + i < cells.toList.length := by simp; omega
    rw [Array.toList_setIfInBounds, ← Nat.add_assoc, List.take_succ_eq_append_getElem (by simpa using hi)]
    rw [List.getElem_set_self, List.take_set_of_le (Nat.le_refl _), List.drop_set_of_lt (by omega)]
    simp only [List.append_assoc, List.cons_append, List.nil_append, List.length_cons]
    rw [show at_ + i + 1 + vs.length = at_ + i + (vs.length + 1) by omega]

theorem fill_enum {sz : Nat} : ∀ (vs : List Value) (k : Nat) (cells : Array Value), (∀ v ∈ vs, v.cells.size = sz) → cells.size = (k + vs.length) * sz →
    Instr.fill (fun i => some (i * sz, sz)) cells (enumV k vs) = some (cells.toList.take (k * sz) ++ vs.flatMap (·.cells.toList)).toArray
  | [], k, cells, _, h => by
    have : cells.toList.take (k * sz) = cells.toList := List.take_of_length_le (by simp at h ⊢; omega)
    simp [enumV, Instr.fill, this]
  | v :: vs, k, cells, hv, h => by
    have h1 := hv v (by simp)
    simp only [List.length_cons] at h
    have h2 : (k + (vs.length + 1)) * sz = k * sz + sz + vs.length * sz := by rw [Nat.add_mul, Nat.add_mul]; omega
    have h3 : ¬ k * sz + v.cells.size > cells.size := by omega
    simp only [enumV, Instr.fill]
    rw [if_neg (by simp [h1]; omega)]
    have hf := foldl_set v.cells.toList cells (k * sz) 0 (by simp; omega)
    simp only [Nat.add_zero] at hf
    have e1 : (v.cells.zipIdx.foldl (fun (cs : Array Value) (x : Value × Nat) => cs.setIfInBounds (k * sz + x.2) x.1) cells) = (cells.toList.take (k * sz) ++ v.cells.toList ++ cells.toList.drop (k * sz + sz)).toArray := by
      apply Array.ext'
      rw [← Array.foldl_toList, Array.toList_zipIdx, hf]
      simp [h1]
    have e2 := fill_enum vs (k + 1) _ (fun v hm => hv v (by simp [hm])) (show ((cells.toList.take (k * sz) ++ v.cells.toList ++ cells.toList.drop (k * sz + sz)).toArray).size = (k + 1 + vs.length) * sz by
      simp [h1]
      rw [h, Nat.add_mul, Nat.add_mul, Nat.one_mul]
      rw [Nat.add_mul, Nat.add_mul, Nat.one_mul]
      omega)
    show Instr.fill _ (v.cells.zipIdx.foldl (fun (cs : Array Value) (x : Value × Nat) => cs.setIfInBounds (k * sz + x.2) x.1) cells) (enumV (k + 1) vs) = _
    rw [e1, e2]
    congr 2
    have h4 : (k + 1) * sz = k * sz + sz := by rw [Nat.add_mul, Nat.one_mul]
    have h5 : (cells.toList.take (k * sz) ++ v.cells.toList).length = (k + 1) * sz := by simp [h1]; omega
    have h6 : ((cells.toList.take (k * sz) ++ v.cells.toList ++ cells.toList.drop (k * sz + sz)).toArray.toList).take ((k + 1) * sz) = cells.toList.take (k * sz) ++ v.cells.toList := List.take_left' h5
    rw [h6, List.flatMap_cons, List.append_assoc]

/-- A slice literal. -/
theorem RS.buildSlice {e n sz : Nat} {parts : Array (Nat × Operand)} {xs : List Operand} {t : TypeId} {by_ : Nat} {z cs : List Value} {vs : List Value} (hu : P.underlying t = some (.slice e)) (ht : TI P e sz by_ z) (hsz : 0 < sz) (hn : Nat.ble n 1000 = true) (hsz' : Nat.ble sz 1000 = true)
    (hp : parts.toList = enumV 0 xs) (hv : xs.map (ev l) = vs) (hl : vs.length = n) (hc : vs.flatMap (·.cells.toList) = cs) (hcs : ∀ v ∈ vs, v.cells.size = sz) (h0 : Nat.ble 1 n = true)
    (k : ∀ b w', w.heap.size = b → w'.heap.size = b + 1 → Ext w w' → Blk w' b cs e → RS P ops K rest (l.set d (.slice (some ⟨b, 0, none⟩) n n)) w') :
    RS P ops K (⟨some d, .buildSlice t n parts, ty, pos, af, none⟩ :: rest) l w := by
  obtain ⟨i, v, h1, h2, h3, h4, h5⟩ := ht
  have hn' := Nat.le_of_ble_eq_true hn
  have h0' := Nat.le_of_ble_eq_true h0
  have hs' := Nat.le_of_ble_eq_true hsz'
  refine RS.new (f := fun b => .slice (some ⟨b, 0, none⟩) n n) ?_ k
  simp only [execOp]
  have hs : (sizeOf e).run P w = .ok sz w := by simp [sizeOf, typeInfo, h1, h2]
  have hlim : ¬ n * sz > 2 ^ 24 := by
    have : n * sz ≤ 1000 * 1000 := Nat.mul_le_mul hn' hs'
    omega
  have hz0 : ¬ n * sz = 0 := by
    have := Nat.mul_pos (show 0 < n by omega) hsz
    omega
  have hz1 : (zeroValue e).run P w = .ok v w := by simp [zeroValue, typeInfo, h1, h4]
  simp only [Instr.buildSlice, Sem.run_bind, run_underlying hu, Result.andThen, hs, if_neg hlim, if_neg hz0, hz1, Sem.run_pure, h5]
  have hf : Instr.fill (fun i => some (i * sz, sz)) (Array.map (fun x => z.toArray[x % z.toArray.size]!) (Array.range (n * sz))) (Array.map (fun x => (x.fst, ev l x.snd)) parts).toList = some cs.toArray := by
    rw [Array.toList_map, hp]
    have e1 := enumV_map (ev l) xs 0
    rw [hv] at e1
    have e2 : List.map (fun x => (x.fst, ev l x.snd)) (enumV 0 xs) = enumV 0 vs := e1
    rw [e2, fill_enum vs 0 _ hcs (by simp [hl]), hc]
    simp
  rw [hf]
  simp [newRow]

/-- What a function returns, and that what was there is as it was. -/
def Ret (w : World) (A : Value → World → Prop) (e : Ending) (w' : World) : Prop := ∃ v, e = .returned v ∧ Ext w w' ∧ A v w'

def Enters (P : Program) (f : FuncId) : Prop := ∃ fn, P.funcs[f]? = some fn ∧ (fn.name == "runtime.NumGoroutine") = false ∧ fn.body.isNone = false
theorem Enters.mk {f : FuncId} {fn : Func} (h : P.funcs[f]? = some fn) (h1 : (fn.name == "runtime.NumGoroutine") = false) (h2 : fn.body.isNone = false) : Enters P f := ⟨fn, h, h1, h2⟩

theorem call_run {f : FuncId} {args : Array Operand} {av : Array Value} {ts : Array TypeId} {dd : Option Tmp} (he : Enters P f) (ha : args.map (ev l) = av) :
    (execOp (ev l) ⟨dd, .call { callee := .value (.func f), args := args, argTypes := ts }, ty, pos, af, none⟩).run P w = .ok (.enter f av) w := by
  obtain ⟨fn, h1, h2, h3⟩ := he
  simp only [execOp, resolve, ha]
  have hfun : ev l (.func f) = .func (.func f) #[] #[] := rfl
  rw [hfun]
  have h4 : ¬ fn.name = "runtime.NumGoroutine" := by simpa using h2
  have h5 : ¬ fn.body = none := by intro e; simp [e] at h3
  simp [Deferred.ofValue, invoke, callFunc, h1, h4, h5, program, Sem.run]

theorem args_map {args : Array Operand} {av : List Value} (ha : args.toList.map (ev l) = av) : args.map (ev l) = av.toArray := by
  rw [← ha]; apply Array.ext'; simp

theorem RS.callx {f : FuncId} {args : Array Operand} {av : List Value} {ts : Array TypeId} {R : Ending → World → Prop} (he : Enters P f) (h : Calls P f av.toArray w R) (ha : args.toList.map (ev l) = av)
    (k : ∀ e w', R e w' → ∃ v, e = .returned v ∧ RS P ops K rest (l.set d v) w') :
    RS P ops K (⟨some d, .call { callee := .value (.func f), args := args, argTypes := ts }, ty, pos, af, none⟩ :: rest) l w := by
  unfold RS
  rw [if_pos (by simp [Region.wanted])]
  unfold Oper.wp
  rw [eval_fr, call_run he (args_map ha)]
  simp only [Oper.upon]
  refine h.mono fun e w' hR => ?_
  obtain ⟨v, rfl, hk⟩ := k e w' hR
  exact ⟨_, put_fr _ _ _, hk⟩

theorem callv_run {f : FuncId} {x : Operand} {args : Array Operand} {av cap : Array Value} {ts : Array TypeId} {dd : Option Tmp} (he : Enters P f) (hx : ev l x = .func (.func f) #[] cap) (ha : args.map (ev l) ++ cap = av) :
    (execOp (ev l) ⟨dd, .call { callee := .value x, args := args, argTypes := ts }, ty, pos, af, none⟩).run P w = .ok (.enter f av) w := by
  obtain ⟨fn, h1, h2, h3⟩ := he
  have h4 : ¬ fn.name = "runtime.NumGoroutine" := by simpa using h2
  have h5 : ¬ fn.body = none := by intro e; simp [e] at h3
  simp only [execOp, resolve]
  rw [hx, ← ha]
  simp [Deferred.ofValue, invoke, callFunc, h1, h4, h5, program, Sem.run]

/-- A call of a function value. -/
theorem RS.callv {f : FuncId} {x : Operand} {args : Array Operand} {av cap : List Value} {ts : Array TypeId} {R : Ending → World → Prop} (he : Enters P f) (h : Calls P f av.toArray w R) (hx : ev l x = .func (.func f) #[] cap.toArray) (ha : args.toList.map (ev l) ++ cap = av)
    (k : ∀ e w', R e w' → ∃ v, e = .returned v ∧ RS P ops K rest (l.set d v) w') :
    RS P ops K (⟨some d, .call { callee := .value x, args := args, argTypes := ts }, ty, pos, af, none⟩ :: rest) l w := by
  unfold RS
  rw [if_pos (by simp [Region.wanted])]
  unfold Oper.wp
  rw [eval_fr, callv_run he hx (show args.map (ev l) ++ cap.toArray = av.toArray by rw [args_map rfl, ← ha]; simp)]
  simp only [Oper.upon]
  refine h.mono fun e w' hR => ?_
  obtain ⟨v, rfl, hk⟩ := k e w' hR
  exact ⟨_, put_fr _ _ _, hk⟩

theorem D.func {fn : Fn} {first captured : Array Operand} {dd : Option Tmp} {fs cs : List Value} (hf : first.toList.map (ev l) = fs) (hc : captured.toList.map (ev l) = cs) : (execOp (ev l) ⟨dd, .makeFunc fn first captured, ty, pos, af, none⟩).run P w = .ok (.value (.func fn fs.toArray cs.toArray)) w := by
  simp only [execOp, Instr.makeFunc, args_map hf, args_map hc]
  rfl

theorem RS.call {f : FuncId} {args : Array Operand} {av : List Value} {ts : Array TypeId} {A : Value → World → Prop} (he : Enters P f) (h : Calls P f av.toArray w (Ret w A)) (ha : args.toList.map (ev l) = av)
    (k : ∀ v w', Ext w w' → A v w' → RS P ops K rest (l.set d v) w') :
    RS P ops K (⟨some d, .call { callee := .value (.func f), args := args, argTypes := ts }, ty, pos, af, none⟩ :: rest) l w :=
  RS.callx he h ha fun _ _ ⟨v, hv, hx, hA⟩ => ⟨v, hv, k v _ hx hA⟩

end

/-! ### code around regions -/
section
variable {P : Program} {Q : Exit → Act → World → Prop} {l : List Value} {w : World} {x y : Code} {c : Operand}

theorem C.ift (hc : ev l c = .bool true) (h : x.wp P Q (fr l) w) : (Code.cond c x y).wp P Q (fr l) w := wp_cond_true (by rw [eval_fr]; exact hc) h
theorem C.iff (hc : ev l c = .bool false) (h : y.wp P Q (fr l) w) : (Code.cond c x y).wp P Q (fr l) w := wp_cond_false (by rw [eval_fr]; exact hc) h
theorem C.ifb {b : Bool} (hc : ev l c = .bool b) (ht : b = true → x.wp P Q (fr l) w) (hf : b = false → y.wp P Q (fr l) w) : (Code.cond c x y).wp P Q (fr l) w :=
  wp_cond_split (by rw [eval_fr]; exact hc) ht hf
theorem C.ifd {p : Prop} [Decidable p] (hc : ev l c = .bool (decide p)) (ht : p → x.wp P Q (fr l) w) (hf : ¬ p → y.wp P Q (fr l) w) : (Code.cond c x y).wp P Q (fr l) w :=
  C.ifb hc (fun h => ht (of_decide_eq_true h)) (fun h => hf (of_decide_eq_false h))
theorem C.ife {a b : Int} (hc : ev l c = .bool (a == b)) (ht : a = b → x.wp P Q (fr l) w) (hf : a ≠ b → y.wp P Q (fr l) w) : (Code.cond c x y).wp P Q (fr l) w :=
  C.ifb hc (fun h => ht (by simpa using h)) (fun h => hf (by simpa using h))
theorem C.ifn {a b : Int} (hc : ev l c = .bool (a != b)) (ht : a ≠ b → x.wp P Q (fr l) w) (hf : a = b → y.wp P Q (fr l) w) : (Code.cond c x y).wp P Q (fr l) w :=
  C.ifb hc (fun h => ht (by simpa using h)) (fun h => hf (by simpa using h))
theorem C.ifnot {b : Bool} (hc : ev l c = .bool (!b)) (ht : b = false → x.wp P Q (fr l) w) (hf : b = true → y.wp P Q (fr l) w) : (Code.cond c x y).wp P Q (fr l) w :=
  C.ifb hc (fun h => ht (by simpa using h)) (fun h => hf (by simpa using h))

variable {ops : Array Oper} {K : List Value → World → Prop} {r : List Oper}
theorem RS.splitd (s : Nat) {p : Prop} [Decidable p] (hs : Nat.ble (s + 1) l.length = true) (h : l.getD s undef = .bool (decide p)) (ht : p → RS P ops K r (l.set s (.bool true)) w) (hf : ¬ p → RS P ops K r (l.set s (.bool false)) w) : RS P ops K r l w :=
  RS.split s (Nat.le_of_ble_eq_true hs) h (fun h => ht (of_decide_eq_true h)) (fun h => hf (of_decide_eq_false h))
theorem RS.splite (s : Nat) {a b : Int} (hs : Nat.ble (s + 1) l.length = true) (h : l.getD s undef = .bool (a == b)) (ht : a = b → RS P ops K r (l.set s (.bool true)) w) (hf : a ≠ b → RS P ops K r (l.set s (.bool false)) w) : RS P ops K r l w :=
  RS.split s (Nat.le_of_ble_eq_true hs) h (fun h => ht (by simpa using h)) (fun h => hf (by simpa using h))
theorem RS.splitn (s : Nat) {a b : Int} (hs : Nat.ble (s + 1) l.length = true) (h : l.getD s undef = .bool (a != b)) (ht : a ≠ b → RS P ops K r (l.set s (.bool true)) w) (hf : a = b → RS P ops K r (l.set s (.bool false)) w) : RS P ops K r l w :=
  RS.split s (Nat.le_of_ble_eq_true hs) h (fun h => ht (by simpa using h)) (fun h => hf (by simpa using h))
theorem RS.splitnot (s : Nat) {b : Bool} (hs : Nat.ble (s + 1) l.length = true) (h : l.getD s undef = .bool (!b)) (ht : b = false → RS P ops K r (l.set s (.bool true)) w) (hf : b = true → RS P ops K r (l.set s (.bool false)) w) : RS P ops K r l w :=
  RS.split s (Nat.le_of_ble_eq_true hs) h (fun h => ht (by simpa using h)) (fun h => hf (by simpa using h))
theorem RS.splitb (s : Nat) {b : Bool} (hs : Nat.ble (s + 1) l.length = true) (h : l.getD s undef = .bool b) (ht : b = true → RS P ops K r (l.set s (.bool true)) w) (hf : b = false → RS P ops K r (l.set s (.bool false)) w) : RS P ops K r l w :=
  RS.split s (Nat.le_of_ble_eq_true hs) h ht hf

/-- A frame with some slots set anew. -/
def upd (l : List Value) : List (Nat × Value) → List Value
  | [] => l
  | (i, v) :: r => upd (l.set i v) r

/-- The slots of a list, set anew by 'j'. -/
def junk (J : List Nat) (j : Nat → Value) : List (Nat × Value) := J.map fun s => (s, j s)
def slotsOk (l : List Value) : List (Nat × Value) → Prop
  | [] => True
  | (i, v) :: r => l.getD i undef = v ∧ slotsOk l r

/-- What a round leaves. -/
@[irreducible] def Nx {A : Type} (l : List Value) (M : A → List (Nat × Value)) (J : List Nat) (I : A → World → Prop) (μ : A → Nat) (p : A) (a' : Act) (w' : World) : Prop :=
  ∃ p' j', a' = fr (upd (upd l (M p')) (junk J j')) ∧ I p' w' ∧ μ p' < μ p

/-- A LOOP: 'M p' are the slots that the body writes and that matter, 'J' the other ones that it writes. -/
theorem C.loop {A : Type} {c : Code} (M : A → List (Nat × Value)) (J : List Nat) (I : A → World → Prop) (μ : A → Nat) (p0 : A)
    (h0 : upd (upd l (M p0)) (junk J (fun s => l.getD s undef)) = l) (i0 : I p0 w)
    (round : ∀ p j w, I p w → c.wp P (Exit.then (Nx l M J I μ p) Q) (fr (upd (upd l (M p)) (junk J j))) w) :
    (Code.loop c).wp P Q (fr l) w := by
  refine wp_loop_ghost (fun n a w => ∃ p j, μ p = n ∧ a = fr (upd (upd l (M p)) (junk J j)) ∧ I p w) (μ p0) ⟨p0, _, rfl, by rw [h0], i0⟩ ?_
  rintro n a w ⟨p, j, rfl, rfl, hi⟩
  refine wp_mono (round p j w hi) ?_
  intro e a' w' hq
  cases e with
  | normal =>
    have hq : Nx l M J I μ p a' w' := hq
    unfold Nx at hq
    obtain ⟨p', j', rfl, h1, h2⟩ := hq; exact ⟨μ p', h2, p', j', rfl, rfl, h1⟩
  | _ => exact hq

theorem C.norm {c : Code} {l' : List Value} (h : l = l') (k : c.wp P Q (fr l') w) : c.wp P Q (fr l) w := h ▸ k
theorem RS.norm {l' : List Value} (h : l = l') (k : RS P ops K r l' w) : RS P ops K r l w := h ▸ k

theorem C.next {A : Type} {M : A → List (Nat × Value)} {J : List Nat} {I : A → World → Prop} {μ : A → Nat} {p : A} {le : List Value} (p' : A)
    (_hs : slotsOk le (M p')) (h : upd (upd l (M p')) (junk J (fun s => le.getD s undef)) = le) (hi : I p' w) (hm : μ p' < μ p) : Nx l M J I μ p (fr le) w := by
  unfold Nx
  exact ⟨p', _, by rw [h], hi, hm⟩

/-! ### the end -/
def resOk (P : Program) (l : List Value) (w : World) : List ResultVar → List Value → Prop
  | [], [] => True
  | .tmp t :: rs, v :: vs => l.getD t undef = v ∧ resOk P l w rs vs
  | .cell s t :: rs, v :: vs => (∃ p, l.getD s undef = .pointer (some p) ∧ (loadVar t p).run P w = .ok v w) ∧ resOk P l w rs vs
  | _, _ => False

def tup : List Value → Value
  | [v] => v
  | vs => .tuple vs.toArray

theorem loadVar_agg {t : TypeId} {b o sz : Nat} {cs : List Value} {ed : TypeDesc} (he : P.underlying t = some ed) (hd : isAggD ed = true) (hs : P.cellsOf t = sz) (hz : sz ≠ 0) (hn : cs.length = sz) (hc : Cells w b o cs) :
    (loadVar t ⟨b, o, none⟩).run P w = .ok (.agg cs.toArray) w := by
  have h1 : (loadCells ⟨b, o, none⟩ sz).run P w = .ok cs.toArray w := by
    have := loadFrom_run (P := P) cs hc sz 0 #[] (by omega)
    simpa [loadCells] using this
  simp [loadVar, agg_run he, hd, size_run hs hz, h1]
theorem loadVar_one {t : TypeId} {p : Addr} {v : Value} {ed : TypeDesc} (he : P.underlying t = some ed) (hd : isAggD ed = false) (hc : w.cell? p = some v) : (loadVar t p).run P w = .ok v w := by
  simp [loadVar, agg_run he, hd, hc]

def resOne (l : List Value) : ResultVar → Sem Value
  | .tmp t => pure (l.toArray.getD t undef)
  | .cell a t => do loadVar t (← asAddr (l.toArray.getD a undef))

theorem resOne_tmp {t : Tmp} {v : Value} (h : l.getD t undef = v) : (resOne l (.tmp t)).run P w = .ok v w := by
  rw [← h]; simp [resOne]
theorem resOne_cell {s : Tmp} {t : TypeId} {v : Value} {p : Addr} (h1 : l.getD s undef = .pointer (some p)) (h2 : (loadVar t p).run P w = .ok v w) : (resOne l (.cell s t)).run P w = .ok v w := by
  have h1' : l.toArray.getD s undef = .pointer (some p) := by rw [← h1]; simp
  show ((asAddr (l.toArray.getD s undef)) >>= fun a => loadVar t a).run P w = _
  rw [h1', Sem.run_bind]
  simp only [asAddr, Sem.run_pure, Result.andThen]
  exact h2

theorem results_run : ∀ (rs : List ResultVar) (vs : List Value), resOk P l w rs vs → (rs.mapM (resOne l)).run P w = .ok vs w
  | [], [], _ => by simp
  | .tmp t :: rs, v :: vs, h => by
    have ih := results_run rs vs h.2
    rw [List.mapM_cons, Sem.run_bind, resOne_tmp h.1]
    simp only [Result.andThen]
    rw [Sem.run_bind, ih]
    rfl
  | .cell a t :: rs, v :: vs, h => by
    obtain ⟨⟨p, h1, h2⟩, h3⟩ := h
    have ih := results_run rs vs h3
    rw [List.mapM_cons, Sem.run_bind, resOne_cell h1 h2]
    simp only [Result.andThen]
    rw [Sem.run_bind, ih]
    rfl

theorem ret {fn : Func} {R : Ending → World → Prop} {rs : List ResultVar} {vs : List Value} {v : Value} (hr : fn.results = rs.toArray) (h : resOk P l w rs vs) (hv : tup vs = v) (hR : R (.returned v) w) : bodyPost P fn R .ret (fr l) w := by
  refine ⟨rfl, v, ?_, hR⟩
  have h1 := results_run (P := P) rs vs h
  have e : results fn l.toArray = (do let vs ← fn.results.mapM (resOne l); pure (if h : vs.size = 1 then vs[0] else .tuple vs)) := by
    unfold results
    congr 1
  show (results fn l.toArray).run P w = _
  rw [e, hr, List.mapM_toArray, Sem.run_bind]
  rw [Sem.run_map, h1]
  simp only [Result.andThen, Sem.run_pure]
  rw [← hv]
  match vs with
  | [] => rfl
  | [_] => rfl
  | _ :: _ :: vs => simp [tup]
theorem retN {fn : Func} {R : Ending → World → Prop} {rs : List ResultVar} {vs : List Value} {v : Value} (hr : fn.results = rs.toArray) (h : resOk P l w rs vs) (hv : tup vs = v) (hR : R (.returned v) w) : bodyPost P fn R .normal (fr l) w := by
  refine ⟨rfl, v, ?_, hR⟩
  have h1 := results_run (P := P) rs vs h
  have e : results fn l.toArray = (do let vs ← fn.results.mapM (resOne l); pure (if h : vs.size = 1 then vs[0] else .tuple vs)) := by
    unfold results
    congr 1
  show (results fn l.toArray).run P w = _
  rw [e, hr, List.mapM_toArray, Sem.run_bind]
  rw [Sem.run_map, h1]
  simp only [Result.andThen, Sem.run_pure]
  rw [← hv]
  match vs with
  | [] => rfl
  | [_] => rfl
  | _ :: _ :: vs => simp [tup]
end
end Go.Proofs.YtiohpiiiapjblaaDoor.G
