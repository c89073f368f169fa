/-
  G4: regions that draw their order and whose operations each yield one value in whatever world the region may have come to: one walk in the order of the text serves every order (the kit's theorem, Derived/Deep/Quiet.lean, at the class 'what was there is as it was').
-/
import Derived.Test.YtiohpiiiapjblaaDoorG3
import Derived.Deep.Quiet
namespace Go.Proofs.YtiohpiiiapjblaaDoor.G
open Go.RowKit

section
variable {P : Program} {ops : Array Oper} {w0 : World} {K : List Value → World → Prop}

def RQ (P : Program) (ops : Array Oper) (w0 : World) (K : List Value → World → Prop) : List Oper → List Value → Prop
  | [], l => ∀ w', Ext w0 w' → K l w'
  | o :: rest, l =>
    if Region.wanted o (yielded ops l.toArray) then ∃ v, (∀ w', Ext w0 w' → o.quietAt P (fr l) (Ext w0) w' v) ∧ RQ P ops w0 K rest (putL o.dst v l)
    else RQ P ops w0 K rest (putL o.dst undef l)

theorem rq_list : ∀ (rest : List Oper) (l : List Value), RQ P ops w0 K rest l → wpQuiet P ops (Ext w0) (fun a => ∃ l, a = fr l ∧ ∀ w', Ext w0 w' → K l w') rest (fr l)
  | [], l, h => ⟨l, rfl, h⟩
  | o :: rest, l, h => by
    unfold RQ at h
    unfold wpQuiet
    split
    · rename_i hw
      rw [if_pos hw] at h
      obtain ⟨v, h1, h2⟩ := h
      refine ⟨v, h1, ?_⟩
      rw [put_fr]
      exact rq_list rest _ h2
    · rename_i hw
      rw [if_neg hw] at h
      rw [put_fr]
      exact rq_list rest _ h

theorem regionQ {id : Nat} {l0 : List Oper} {Q : Exit → Act → World → Prop} {l : List Value} (hm : P.follows .mixedOrders = true) (hB : Region.lexB .any l0.toArray = true)
    (h : RQ P l0.toArray w0 (fun l w => Q .normal (fr l) w) l0 l) : (Code.region id l0.toArray true).wp P Q (fr l) w0 := by
  refine wp_region_quiet (C := Ext w0) hm hB ((Below.refl _ _).drew) ?_
  have h1 := rq_list _ _ h
  have mono : ∀ (rest : List Oper) (a : Act), wpQuiet P l0.toArray (Ext w0) (fun a => ∃ l, a = fr l ∧ ∀ w', Ext w0 w' → Q .normal (fr l) w') rest a → wpQuiet P l0.toArray (Ext w0) (fun a' => ∀ w', Ext w0 w' → Q .normal a' w') rest a := by
    intro rest
    induction rest with
    | nil => rintro a ⟨l, rfl, h⟩; exact h
    | cons o rest ih =>
      intro a h
      unfold wpQuiet at h ⊢
      split
      · rename_i hw; rw [if_pos hw] at h; exact Oper.quiet_mono ih h
      · rename_i hw; rw [if_neg hw] at h; exact ih _ h
  simpa using mono _ _ h1

variable {rest : List Oper} {l : List Value}

theorem RQ.nil (h : ∀ w', Ext w0 w' → K l w') : RQ P ops w0 K [] l := h

theorem RQ.v {o : Oper} {v : Value} (hg : o.guard = none) (hr : ∀ w', Ext w0 w' → (execOp (ev l) o).run P w' = .ok (.value v) w') (k : RQ P ops w0 K rest (putL o.dst v l)) : RQ P ops w0 K (o :: rest) l := by
  unfold RQ
  rw [if_pos (by simp [Region.wanted, hg])]
  refine ⟨v, fun w' hw => ?_, k⟩
  unfold Oper.quietAt
  rw [eval_fr, hr w' hw]
  exact ⟨rfl, rfl⟩

theorem RQ.want {d : Option Tmp} {op : Op} {ty : TypeId} {pos : String} {af : Array Edge} {j : Nat} {t : Bool} (hv : yielded ops l.toArray j = some t)
    (k : RQ P ops w0 K (⟨d, op, ty, pos, af, none⟩ :: rest) l) : RQ P ops w0 K (⟨d, op, ty, pos, af, some (j, t)⟩ :: rest) l := by
  unfold RQ at k ⊢
  rw [if_pos (by simp [Region.wanted, hv])]
  rw [if_pos (by simp [Region.wanted])] at k
  exact k
theorem RQ.skip {d : Option Tmp} {op : Op} {ty : TypeId} {pos : String} {af : Array Edge} {j : Nat} {t : Bool} (hv : (yielded ops l.toArray j == some t) = false)
    (k : RQ P ops w0 K rest (putL d undef l)) : RQ P ops w0 K (⟨d, op, ty, pos, af, some (j, t)⟩ :: rest) l := by
  unfold RQ
  rw [if_neg (by simp only [Region.wanted, hv]; exact Bool.false_ne_true)]
  exact k

variable {r : List Oper}
theorem RQ.splitb (s : Nat) {b : Bool} (hs : Nat.ble (s + 1) l.length = true) (h : l.getD s undef = .bool b) (ht : b = true → RQ P ops w0 K r (l.set s (.bool true))) (hf : b = false → RQ P ops w0 K r (l.set s (.bool false))) : RQ P ops w0 K r l := by
  have hs := Nat.le_of_ble_eq_true hs
  cases hb : b
  · have := hf hb; rwa [set_self (by rw [h, hb]) hs] at this
  · have := ht hb; rwa [set_self (by rw [h, hb]) hs] at this
theorem RQ.splitd (s : Nat) {p : Prop} [Decidable p] (hs : Nat.ble (s + 1) l.length = true) (h : l.getD s undef = .bool (decide p)) (ht : p → RQ P ops w0 K r (l.set s (.bool true))) (hf : ¬ p → RQ P ops w0 K r (l.set s (.bool false))) : RQ P ops w0 K r l :=
  RQ.splitb s hs h (fun h => ht (of_decide_eq_true h)) (fun h => hf (of_decide_eq_false h))
theorem RQ.splite (s : Nat) {a b : Int} (hs : Nat.ble (s + 1) l.length = true) (h : l.getD s undef = .bool (a == b)) (ht : a = b → RQ P ops w0 K r (l.set s (.bool true))) (hf : a ≠ b → RQ P ops w0 K r (l.set s (.bool false))) : RQ P ops w0 K r l :=
  RQ.splitb s hs h (fun h => ht (by simpa using h)) (fun h => hf (by simpa using h))
theorem RQ.splitn (s : Nat) {a b : Int} (hs : Nat.ble (s + 1) l.length = true) (h : l.getD s undef = .bool (a != b)) (ht : a ≠ b → RQ P ops w0 K r (l.set s (.bool true))) (hf : a = b → RQ P ops w0 K r (l.set s (.bool false))) : RQ P ops w0 K r l :=
  RQ.splitb s hs h (fun h => ht (by simpa using h)) (fun h => hf (by simpa using h))
theorem RQ.splitnot (s : Nat) {b : Bool} (hs : Nat.ble (s + 1) l.length = true) (h : l.getD s undef = .bool (!b)) (ht : b = false → RQ P ops w0 K r (l.set s (.bool true))) (hf : b = true → RQ P ops w0 K r (l.set s (.bool false))) : RQ P ops w0 K r l :=
  RQ.splitb s hs h (fun h => ht (by simpa using h)) (fun h => hf (by simpa using h))

theorem RQ.norm {l' : List Value} (h : l = l') (k : RQ P ops w0 K r l') : RQ P ops w0 K r l := h ▸ k
variable {d : Tmp} {ty : TypeId} {pos : String} {af : Array Edge}

theorem RQ.o {op : Op} {v : Value} (hr : ∀ w', Ext w0 w' → (execOp (ev l) ⟨some d, op, ty, pos, af, none⟩).run P w' = .ok (.value v) w') {l' : List Value} (k : RQ P ops w0 K rest l') (hl : l.set d v = l' := by dsimp only [List.set]) :
    RQ P ops w0 K (⟨some d, op, ty, pos, af, none⟩ :: rest) l := RQ.v rfl hr (by subst hl; exact k)
theorem RQ.move {x : Operand} {v : Value} (hv : ev l x = v) {l' : List Value} (k : RQ P ops w0 K rest l') (hl : l.set d v = l' := by dsimp only [List.set]) : RQ P ops w0 K (⟨some d, .move x, ty, pos, af, none⟩ :: rest) l :=
  RQ.o (fun _ _ => by simp only [execOp]; rw [hv]; rfl) k hl
theorem RQ.assign {x : Operand} {v : Value} (hv : ev l x = v) {l' : List Value} (k : RQ P ops w0 K rest l') (hl : l.set d v = l' := by dsimp only [List.set]) : RQ P ops w0 K (⟨some d, .assign x, ty, pos, af, none⟩ :: rest) l :=
  RQ.o (fun _ _ => by simp only [execOp]; rw [hv]; rfl) k hl
theorem RQ.pick {c x y : Operand} {b : Bool} {v : Value} (hc : ev l c = .bool b) (hv : (if b then ev l x else ev l y) = v) {l' : List Value} (k : RQ P ops w0 K rest l') (hl : l.set d v = l' := by dsimp only [List.set]) :
    RQ P ops w0 K (⟨some d, .pick c x y, ty, pos, af, none⟩ :: rest) l :=
  RQ.o (v := if b then ev l x else ev l y) (fun _ _ => by simp only [execOp]; rw [hc]; cases b <;> rfl) (l' := l') k (by rw [hv]; exact hl)
theorem RQ.extract {x : Operand} {i : Nat} {vs : Array Value} {v : Value} (hx : ev l x = .tuple vs) (hv : vs[i]? = some v) {l' : List Value} (k : RQ P ops w0 K rest l') (hl : l.set d v = l' := by dsimp only [List.set]) :
    RQ P ops w0 K (⟨some d, .extract x i, ty, pos, af, none⟩ :: rest) l :=
  RQ.o (fun _ _ => by simp only [execOp]; rw [hx]; simp only [Instr.extract, hv]; rfl) k hl
theorem RQ.nilCheck {x : Operand} {a : Addr} (hx : ev l x = .pointer (some a)) {l' : List Value} (k : RQ P ops w0 K rest l') (hl : l.set d (.pointer (some a)) = l' := by dsimp only [List.set]) :
    RQ P ops w0 K (⟨some d, .nilCheck x, ty, pos, af, none⟩ :: rest) l :=
  RQ.o (fun _ _ => by simp only [execOp]; rw [hx]; rfl) k hl

/-- A call whose one value is known in whatever world. -/
theorem RQ.call {f : FuncId} {args : Array Operand} {av : List Value} {ts : Array TypeId} {v : Value} (he : Enters P f) (h : ∀ w', Ext w0 w' → Calls P f av.toArray w' (Ret w' fun u _ => u = v)) (ha : args.toList.map (ev l) = av)
    (k : RQ P ops w0 K rest (l.set d v)) : RQ P ops w0 K (⟨some d, .call { callee := .value (.func f), args := args, argTypes := ts }, ty, pos, af, none⟩ :: rest) l := by
  unfold RQ
  rw [if_pos (by simp [Region.wanted])]
  refine ⟨v, fun w' hw => ?_, k⟩
  unfold Oper.quietAt
  rw [eval_fr, call_run he (args_map ha)]
  refine ⟨rfl, (h w' hw).mono ?_⟩
  rintro e w'' ⟨u, rfl, hx, rfl⟩
  exact ⟨rfl, hw.tr hx⟩
end

/-- To begin: the frame of a call, a list. -/
theorem enter {P : Program} {f : FuncId} {fn : Func} {c : Code} {args l : List Value} {w : World} {R : Ending → World → Prop} (hf : P.funcs[f]? = some fn) (hb : fn.body = some c)
    (hl : args ++ List.replicate (fn.ntmps - args.length) undef = l) (h : c.wp P (bodyPost P fn R) (fr l) w) : Calls P f args.toArray w R := by
  refine calls_of_wp hf hb ?_
  subst hl
  have e : args.toArray ++ Array.replicate (fn.ntmps - args.toArray.size) undef = (args ++ List.replicate (fn.ntmps - args.length) undef).toArray := by simp
  rw [e]
  exact h
end Go.Proofs.YtiohpiiiapjblaaDoor.G
