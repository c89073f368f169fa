/-
  G16: equal Booleans; records that are stored whole.
-/
import Derived.Test.YtiohpiiiapjblaaDoorG15
namespace Go.Proofs.YtiohpiiiapjblaaDoor.G
open Go.RowKit
theorem Blk.bel {w w' : World} {b N : Nat} {cs : List Value} {T : TypeId} (h : Blk w b cs T) (k : Below N w w') (hb : b < N) : Blk w' b cs T := by
  unfold Blk; rw [k.block b hb]; exact h
section
variable {P : Program} {ops : Array Oper} {K : List Value → World → Prop} {rest : List Oper} {l : List Value} {w : World} {d : Tmp} {dd : Option Tmp} {ty xt yt : TypeId} {pos : String} {af : Array Edge} {g : Option (Nat × Bool)} {x y : Operand}
theorem D.eqB {a b : Bool} (hx : ev l x = .bool a) (hy : ev l y = .bool b) (hu : P.underlying xt = some .bool) : (execOp (ev l) ⟨dd, .binOp .eql xt x y yt, ty, pos, af, g⟩).run P w = .ok (.value (.bool (a == b))) w := by
  have h1 := run_equal_bool (P := P) w xt a b hu
  simp only [execOp, eqGuard]
  rw [hx, hy]
  simp [binOp, h1]
theorem D.neB {a b : Bool} (hx : ev l x = .bool a) (hy : ev l y = .bool b) (hu : P.underlying xt = some .bool) : (execOp (ev l) ⟨dd, .binOp .neq xt x y yt, ty, pos, af, g⟩).run P w = .ok (.value (.bool (!(a == b)))) w := by
  have h1 := run_equal_bool (P := P) w xt a b hu
  simp only [execOp, eqGuard]
  rw [hx, hy]
  simp [binOp, h1]
theorem RS.storeAggB {b o sz : Nat} {cs vs : List Value} {T : TypeId} (hx : ev l x = .pointer (some ⟨b, o, none⟩)) (hy : ev l y = .agg vs.toArray) (hs : P.cellsOf xt = sz) (hz : sz ≠ 0) (hn : vs.length = sz)
    (hv : vs.all cellB = true) (hB : Blk w b cs T) (ho : Nat.ble (o + sz) cs.length = true) (k : ∀ w', St b w w' → Blk w' b (splice cs o vs) T → RS P ops K rest l w') :
    RS P ops K (⟨none, .store xt x y, ty, pos, af, none⟩ :: rest) l w :=
  RS.storeAgg hx hy hs hz hn (List.all_eq_true.1 hv) hB (by rw [hn]; exact Nat.le_of_ble_eq_true ho) k
end
end Go.Proofs.YtiohpiiiapjblaaDoor.G
