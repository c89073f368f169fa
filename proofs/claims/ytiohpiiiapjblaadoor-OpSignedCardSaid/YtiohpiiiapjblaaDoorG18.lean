/-
  G18: guards, by the slot that decides them.
-/
import Derived.Test.YtiohpiiiapjblaaDoorG17
namespace Go.Proofs.YtiohpiiiapjblaaDoor.G
open Go.RowKit
theorem yielded_fr {l0 : List Oper} {l : List Value} {j : Nat} {s : Nat} {b : Bool} (hj : (l0[j]?).bind (·.dst) = some s) (hl : l.getD s undef = .bool b) (hs : Nat.ble (s + 1) l.length = true) : yielded l0.toArray l.toArray j = some b := by
  have hs' := Nat.le_of_ble_eq_true hs
  have e1 : (l0.toArray[j]?).bind (·.dst) = some s := by simpa using hj
  have e2 : l.toArray[s]? = some (.bool b) := by
    rw [List.getD_eq_getElem?_getD, List.getElem?_eq_getElem (by omega)] at hl
    rw [List.getElem?_toArray, List.getElem?_eq_getElem (by omega)]
    simpa using hl
  unfold yielded
  rw [e1, Option.bind_some, e2]
theorem exM {l'' L : List Value} {d : Nat} {w' w'' : World} {Φ : Value → World → Prop} (h : l'' = L.set d (l''.getD d undef)) (hx : Ext w' w'') (hp : Φ (l''.getD d undef) w'') : ∃ v, l'' = L.set d v ∧ Ext w' w'' ∧ Φ v w'' := ⟨_, h, hx, hp⟩
theorem D.fieldL {P : Program} {l : List Value} {w : World} {dd : Option Tmp} {ty xt : TypeId} {pos : String} {af : Array Edge} {g : Option (Nat × Bool)} {x : Operand} {b o i sz : Nat} {fs : Array Field} {f : Field} (off : Nat) (hx : ev l x = .pointer (some ⟨b, o, none⟩)) (hu : P.underlying xt = some (.struct fs)) (hf : fs[i]? = some f) (hs : P.cellsOf f.type = sz) (hz : sz ≠ 0) (ho : o + f.offset = off) :
    (execOp (ev l) ⟨dd, .fieldAddr xt x i, ty, pos, af, g⟩).run P w = .ok (.value (.pointer (some ⟨b, off, none⟩))) w := by
  subst ho; exact D.fieldAddr hx hu hf hs hz
section
variable {P : Program} {l0 : List Oper} {R : World → World → Prop} {K : List Value → World → Prop} {rest : List Oper} {restX : List (Oper × Kd)} {l : List Value} {w : World} {d : Option Tmp} {op : Op} {ty : TypeId} {pos : String} {af : Array Edge} {j : Nat} {t b : Bool} {kd : Kd}
theorem RS.wantB (s : Nat) (hj : (l0[j]?).bind (·.dst) = some s) (hl : l.getD s undef = .bool t) (hs : Nat.ble (s + 1) l.length = true)
    (k : RS P l0.toArray K (⟨d, op, ty, pos, af, none⟩ :: rest) l w) : RS P l0.toArray K (⟨d, op, ty, pos, af, some (j, t)⟩ :: rest) l w := RS.want (yielded_fr hj hl hs) k
theorem RS.skipB (s : Nat) (hj : (l0[j]?).bind (·.dst) = some s) (hl : l.getD s undef = .bool b) (hs : Nat.ble (s + 1) l.length = true) (hb : (b == t) = false)
    (k : RS P l0.toArray K rest (putL d undef l) w) : RS P l0.toArray K (⟨d, op, ty, pos, af, some (j, t)⟩ :: rest) l w := RS.skip (by rw [yielded_fr hj hl hs]; simpa using hb) k
theorem RX.wantB (s : Nat) (hj : (l0[j]?).bind (·.dst) = some s) (hl : l.getD s undef = .bool t) (hs : Nat.ble (s + 1) l.length = true)
    (k : RX P l0.toArray R K ((⟨d, op, ty, pos, af, none⟩, kd) :: restX) l w) : RX P l0.toArray R K ((⟨d, op, ty, pos, af, some (j, t)⟩, kd) :: restX) l w := RX.want (yielded_fr hj hl hs) k
theorem RX.skipB (s : Nat) (hj : (l0[j]?).bind (·.dst) = some s) (hl : l.getD s undef = .bool b) (hs : Nat.ble (s + 1) l.length = true) (hb : (b == t) = false)
    (k : RX P l0.toArray R K restX (putL d undef l) w) : RX P l0.toArray R K ((⟨d, op, ty, pos, af, some (j, t)⟩, kd) :: restX) l w := RX.skip (by rw [yielded_fr hj hl hs]; simpa using hb) k
end

end Go.Proofs.YtiohpiiiapjblaaDoor.G
