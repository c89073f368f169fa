/-
  G19: a table of integers that is only read.
-/
import Derived.Test.YtiohpiiiapjblaaDoorG18
namespace Go.Proofs.YtiohpiiiapjblaaDoor.G
open Go.RowKit
structure KArr (k : IntKind) (w : World) (b n : Nat) (xs : List Int) (T : TypeId) : Prop where
  cells : Cells w b 0 (ints k xs)
  len : xs.length = n
  bd : Bd k xs
  lt : b < w.heap.size
section
variable {k : IntKind} {w w' : World} {b n m : Nat} {xs : List Int} {T : TypeId} {S : Nat → Prop}
theorem KArr.ext (h : KArr k w b n xs T) (x : Ext w w') : KArr k w' b n xs T := ⟨h.cells.of_block (x.block b h.lt), h.len, h.bd, Nat.lt_of_lt_of_le h.lt x.size⟩
theorem KArr.st (h : KArr k w b n xs T) (x : St m w w') (hn : b ≠ m) : KArr k w' b n xs T := ⟨h.cells.of_block (x.block b hn), h.len, h.bd, by rw [x.size]; exact h.lt⟩
theorem KArr.pr (h : KArr k w b n xs T) (x : Pr S w w') (hn : ¬ S b) : KArr k w' b n xs T := ⟨h.cells.of_block (x.block b h.lt hn), h.len, h.bd, Nat.lt_of_lt_of_le h.lt x.size⟩
theorem KArr.at_ (h : KArr k w b n xs T) {i : Nat} (hi : i < n) : w.cell? ⟨b, i, none⟩ = some (.int k (xs.getD i 0)) := by
  have hl := h.len
  have := h.cells i (by rw [ints_length]; omega)
  rw [Nat.zero_add] at this
  rw [this, ints_getD _ _ _ (by omega)]
end
section
variable {P : Program} {ops : Array Oper} {R : World → World → Prop} {K : List Value → World → Prop} {rest : List Oper} {restX : List (Oper × Kd)} {l : List Value} {w : World} {d : Tmp} {ty : TypeId} {pos : String} {af : Array Edge}
theorem RS.idxK {x y : Operand} {xt e b n : Nat} {k ki : IntKind} {xs : List Int} {T : TypeId} {i : Int} (hA : KArr k w b n xs T) (hx : ev l x = .pointer (some ⟨b, 0, none⟩)) (hy : ev l y = .int ki i) (hu : P.underlying xt = some (.array n e)) (hs : P.cellsOf e = 1)
    (hi : 0 ≤ i ∧ i < n) (h : ∀ v, w.cell? ⟨b, i.toNat, none⟩ = some (.int k v) → v = xs.getD i.toNat 0 → 0 ≤ v ∧ v < lim k → RS P ops K rest (l.set d (.pointer (some ⟨b, i.toNat, none⟩))) w) :
    RS P ops K (⟨some d, .indexAddr xt x y, ty, pos, af, none⟩ :: rest) l w := by
  have e1 : (⟨b, 0 + i.toNat * 1, none⟩ : Addr) = ⟨b, i.toNat, none⟩ := by simp
  have := D.indexArr (d := some d) (ty := ty) (pos := pos) (af := af) (g := none) (w := w) hx hy hu hs (by decide) hi
  rw [e1] at this
  exact RS.o this (h _ (hA.at_ (by omega)) rfl (hA.bd.get _)) rfl
theorem RX.idxK {x y : Operand} {xt e b n : Nat} {k ki : IntKind} {xs : List Int} {T : TypeId} {i : Int} (hRE : ∀ w', R w w' → Ext w w') (hA : KArr k w b n xs T) (hx : ev l x = .pointer (some ⟨b, 0, none⟩)) (hy : ev l y = .int ki i) (hu : P.underlying xt = some (.array n e)) (hs : P.cellsOf e = 1)
    (hi : 0 ≤ i ∧ i < n) (h : ∀ v, (∀ w', R w w' → w'.cell? ⟨b, i.toNat, none⟩ = some (.int k v)) → v = xs.getD i.toNat 0 → 0 ≤ v ∧ v < lim k → RX P ops R K restX (l.set d (.pointer (some ⟨b, i.toNat, none⟩))) w) :
    RX P ops R K ((⟨some d, .indexAddr xt x y, ty, pos, af, none⟩, .q) :: restX) l w := by
  have e1 : (⟨b, 0 + i.toNat * 1, none⟩ : Addr) = ⟨b, i.toNat, none⟩ := by simp
  refine RX.o (fun w' _ => ?_) (h _ (fun w' hw => (hA.ext (hRE _ hw)).at_ (by omega)) rfl (hA.bd.get _)) rfl
  rw [← e1]
  exact D.indexArr hx hy hu hs (by decide) hi
end
end Go.Proofs.YtiohpiiiapjblaaDoor.G
