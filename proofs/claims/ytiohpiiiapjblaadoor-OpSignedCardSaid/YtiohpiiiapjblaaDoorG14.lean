/-
  G14: slices of integers that are built, whole.
-/
import Derived.Test.YtiohpiiiapjblaaDoorG13
namespace Go.Proofs.YtiohpiiiapjblaaDoor.G
open Go.RowKit
theorem ints_cells {k : IntKind} : ∀ (xs : List Int), (ints k xs).flatMap (·.cells.toList) = ints k xs
  | [] => rfl
  | x :: xs => by
    have ih := ints_cells (k := k) xs
    show (Value.int k x).cells.toList ++ (ints k xs).flatMap (·.cells.toList) = _
    rw [ih]
    rfl
section
variable {P : Program} {ops : Array Oper} {K : List Value → World → Prop} {rest : List Oper} {l : List Value} {w : World} {d : Tmp} {dd : Option Tmp} {ty xt yt : TypeId} {pos : String} {af : Array Edge} {g : Option (Nat × Bool)} {x y : Operand}
theorem RS.buildI {e n by_ : Nat} {parts : Array (Nat × Operand)} {xs : List Operand} {t : TypeId} {z : List Value} {k : IntKind} {ys : List Int} (hu : P.underlying t = some (.slice e)) (ht : TI P e 1 by_ z) (hn : Nat.ble n 1000 = true)
    (hp : parts.toList = enumV 0 xs) (hv : xs.map (ev l) = ints k ys) (hl : ys.length = n) (h0 : Nat.ble 1 n = true)
    (h : ∀ b w', w.heap.size = b → w'.heap.size = b + 1 → Ext w w' → Blk w' b (ints k ys) e → RS P ops K rest (l.set d (.slice (some ⟨b, 0, none⟩) n n)) w') :
    RS P ops K (⟨some d, .buildSlice t n parts, ty, pos, af, none⟩ :: rest) l w :=
  RS.buildSlice hu ht (by decide) hn rfl hp hv (by rw [ints_length]; exact hl) (ints_cells ys) (fun v hv => by obtain ⟨x, _, rfl⟩ := List.mem_map.1 hv; rfl) h0 h
end
end Go.Proofs.YtiohpiiiapjblaaDoor.G
