/-
  G1: rules that step through one region's operations in the order of the text, over any program: the frame is a list of values.
-/
import Derived.WalkKit
namespace Go.Proofs.YtiohpiiiapjblaaDoor.G
open Go.RowKit

/-- A frame without deferred calls, its slots a list. -/
abbrev fr (l : List Value) : Act := ⟨l.toArray, []⟩

def putL (d : Option Tmp) (v : Value) (l : List Value) : List Value :=
  match d with
  | some d => l.set d v
  | none => l

theorem put_fr (l : List Value) (d : Option Tmp) (v : Value) : (fr l).put d v = fr (putL d v l) := by
  cases d <;> simp [Act.put, putL, fr]

/-- What an operand is. -/
def ev (l : List Value) : Operand → Value
  | .tmp t => l.getD t undef
  | .const v => v
  | .global g => .pointer (some ⟨g, 0, none⟩)
  | .func f => .func (.func f) #[] #[]

theorem eval_fr (l : List Value) : (fr l).eval = ev l := by
  funext x
  cases x <;> simp [Act.eval, ev]

section
variable {P : Program} {ops : Array Oper} {K : List Value → World → Prop}

/-- THE WALK OF A REGION, in the order of the text. -/
def RS (P : Program) (ops : Array Oper) (K : List Value → World → Prop) : List Oper → List Value → World → Prop
  | [], l, w => K l w
  | o :: rest, l, w =>
    if Region.wanted o (yielded ops l.toArray) then
      o.wp P (fr l) w (fun a' w' => ∃ l', a' = fr l' ∧ RS P ops K rest l' w') (fun _ _ _ => False)
    else RS P ops K rest (putL o.dst undef l) w

theorem upon_mono {o : Oper} {a : Act} {n n' : Act → World → Prop} {Q Q' : Exit → Act → World → Prop} (hn : ∀ a w, n a w → n' a w) (hq : ∀ e a w, Q e a w → Q' e a w)
    {r : Result Next} (h : o.upon P a n Q r) : o.upon P a n' Q' r := by
  cases r with
  | ok x w =>
    cases x <;> simp only [Oper.upon] at h ⊢
    case enter f args =>
      refine h.mono fun e w' he => ?_
      cases e
      · exact hn _ _ he
      · exact hq _ _ _ he
      · obtain ⟨a, w, h⟩ := he; exact ⟨a, w, hq _ _ _ h⟩
    case row r args => exact h.mono fun v w' he => hn _ _ he
    all_goals first | exact hn _ _ h | exact h
  | halt x w => cases x <;> simp only [Oper.upon] at h ⊢ <;> first | exact hq _ _ _ h | exact h

theorem rs_list {Q : Exit → Act → World → Prop} : ∀ (rest : List Oper) (l : List Value) (w : World),
    RS P ops (fun l w => Q .normal (fr l) w) rest l w → wpList P ops Q rest (fr l) w
  | [], _, _, h => h
  | o :: rest, l, w, h => by
    unfold RS at h
    unfold wpList
    split
    · rename_i hw
      rw [if_pos hw] at h
      refine .inl ?_
      unfold Oper.wp at *
      refine upon_mono ?_ (fun _ _ _ h => h.elim) h
      rintro a w ⟨l', rfl, h⟩
      exact rs_list rest l' w h
    · rename_i hw
      rw [if_neg hw] at h
      rw [put_fr]
      exact rs_list rest _ w h

theorem region {id : Nat} {l0 : List Oper} {Q : Exit → Act → World → Prop} {l : List Value} {w : World}
    (h : RS P l0.toArray (fun l w => Q .normal (fr l) w) l0 l w) : (Code.region id l0.toArray false).wp P Q (fr l) w :=
  wp_region_lit (rs_list _ _ _ h)

variable {rest : List Oper} {l : List Value} {w w' : World}

theorem RS.nil (h : K l w) : RS P ops K [] l w := h

theorem RS.v {o : Oper} {v : Value} (hg : o.guard = none) (hr : (execOp (ev l) o).run P w = .ok (.value v) w') (k : RS P ops K rest (putL o.dst v l) w') : RS P ops K (o :: rest) l w := by
  unfold RS
  rw [if_pos (by simp [Region.wanted, hg])]
  unfold Oper.wp
  rw [eval_fr, hr]
  exact ⟨_, put_fr _ _ _, k⟩

theorem RS.u {o : Oper} (hg : o.guard = none) (hd : o.dst = none) (hr : (execOp (ev l) o).run P w = .ok .skip w') (k : RS P ops K rest l w') : RS P ops K (o :: rest) l w := by
  unfold RS
  rw [if_pos (by simp [Region.wanted, hg])]
  unfold Oper.wp
  rw [eval_fr, hr]
  refine ⟨l, ?_, k⟩
  rw [put_fr, hd]
  rfl

/-- An operation whose guard says yes. -/
theorem RS.want {d : Option Tmp} {op : Op} {ty : TypeId} {pos : String} {af : Array Edge} {j : Nat} {t : Bool} (hv : yielded ops l.toArray j = some t)
    (k : RS P ops K (⟨d, op, ty, pos, af, none⟩ :: rest) l w) : RS P ops K (⟨d, op, ty, pos, af, some (j, t)⟩ :: rest) l w := by
  unfold RS at k ⊢
  rw [if_pos (by simp [Region.wanted, hv])]
  rw [if_pos (by simp [Region.wanted])] at k
  exact k

/-- An operation whose guard says no. -/
theorem RS.skip {d : Option Tmp} {op : Op} {ty : TypeId} {pos : String} {af : Array Edge} {j : Nat} {t : Bool} (hv : (yielded ops l.toArray j == some t) = false)
    (k : RS P ops K rest (putL d undef l) w) : RS P ops K (⟨d, op, ty, pos, af, some (j, t)⟩ :: rest) l w := by
  unfold RS
  rw [if_neg (by simp only [Region.wanted, hv]; exact Bool.false_ne_true)]
  exact k

theorem set_self {l : List Value} {s : Nat} {v : Value} (h : l.getD s undef = v) (hs : s < l.length) : l.set s v = l := by
  apply List.ext_getElem
  · simp
  intro i h1 h2
  rw [List.getElem_set]
  split
  · subst s
    rw [← h]
    simp [List.getD, List.getElem?_eq_getElem hs]
  · rfl

/-- A slot that holds a Bool: two ways, the Bool written out in each. -/
theorem RS.split {r : List Oper} (s : Nat) {b : Bool} (hs : s < l.length) (h : l.getD s undef = .bool b) (ht : b = true → RS P ops K r (l.set s (.bool true)) w) (hf : b = false → RS P ops K r (l.set s (.bool false)) w) :
    RS P ops K r l w := by
  cases hb : b
  · have := hf hb; rwa [set_self (by rw [h, hb]) hs] at this
  · have := ht hb; rwa [set_self (by rw [h, hb]) hs] at this

variable {d : Tmp} {ty : TypeId} {pos : String} {af : Array Edge}

theorem RS.move {x : Operand} {v : Value} (hv : ev l x = v) {l' : List Value} (k : RS P ops K rest l' w) (hl : l.set d v = l' := by dsimp only [List.set]) : RS P ops K (⟨some d, .move x, ty, pos, af, none⟩ :: rest) l w :=
  RS.v rfl (by simp only [execOp]; rw [hv]; rfl) (by subst hl; exact k)

theorem RS.assign {x : Operand} {v : Value} (hv : ev l x = v) {l' : List Value} (k : RS P ops K rest l' w) (hl : l.set d v = l' := by dsimp only [List.set]) : RS P ops K (⟨some d, .assign x, ty, pos, af, none⟩ :: rest) l w :=
  RS.v rfl (by simp only [execOp]; rw [hv]; rfl) (by subst hl; exact k)

theorem RS.pick {c x y : Operand} {b : Bool} {v : Value} (hc : ev l c = .bool b) (hv : (if b then ev l x else ev l y) = v) {l' : List Value} (k : RS P ops K rest l' w) (hl : l.set d v = l' := by dsimp only [List.set]) :
    RS P ops K (⟨some d, .pick c x y, ty, pos, af, none⟩ :: rest) l w :=
  RS.v rfl (v := if b then ev l x else ev l y) (by simp only [execOp]; rw [hc]; cases b <;> rfl) (by subst hl; rw [hv]; exact k)

/-- Any operation with a destination that yields a value. -/
theorem RS.o {op : Op} {v : Value} (hr : (execOp (ev l) ⟨some d, op, ty, pos, af, none⟩).run P w = .ok (.value v) w') {l' : List Value} (k : RS P ops K rest l' w') (hl : l.set d v = l' := by dsimp only [List.set]) :
    RS P ops K (⟨some d, op, ty, pos, af, none⟩ :: rest) l w := RS.v rfl hr (by subst hl; exact k)

theorem RS.extract {x : Operand} {i : Nat} {vs : Array Value} {v : Value} (hx : ev l x = .tuple vs) (hv : vs[i]? = some v) {l' : List Value} (k : RS P ops K rest l' w) (hl : l.set d v = l' := by dsimp only [List.set]) :
    RS P ops K (⟨some d, .extract x i, ty, pos, af, none⟩ :: rest) l w :=
  RS.v rfl (by simp only [execOp]; rw [hx]; simp only [Instr.extract, hv]; rfl) (by subst hl; exact k)

theorem RS.nilCheck {x : Operand} {a : Addr} (hx : ev l x = .pointer (some a)) {l' : List Value} (k : RS P ops K rest l' w) (hl : l.set d (.pointer (some a)) = l' := by dsimp only [List.set]) :
    RS P ops K (⟨some d, .nilCheck x, ty, pos, af, none⟩ :: rest) l w :=
  RS.v rfl (by simp only [execOp]; rw [hx]; rfl) (by subst hl; exact k)

end
end Go.Proofs.YtiohpiiiapjblaaDoor.G
