/-
  G7: regions that draw their order and of whose operations that act (calls, new memory, stores) only one at a time may come up: one walk along a plan serves every order. An operation that only yields a value is taken as soon as it may come up.
-/
import Derived.Test.YtiohpiiiapjblaaDoorG6
namespace Go.Proofs.YtiohpiiiapjblaaDoor.G
open Go.RowKit

section
variable {P : Program} {ops : Array Oper} {R : World → World → Prop} {bg : List Nat} {Q : Act → World → Prop}

def NoQ : Exit → Act → World → Prop := fun _ _ _ => False

def xOp (P : Program) (ops : Array Oper) (i : Nat) (K : Act → World → Prop) (a : Act) (w : World) : Prop :=
  match ops[i]? with
  | none => K a w
  | some o => if Region.wanted o (yielded ops a.tmps) then o.wp P a w K NoQ else K (a.put o.dst undef) w

def wpX (P : Program) (ops : Array Oper) (R : World → World → Prop) (bg : List Nat) (Q : Act → World → Prop) : Nat → Array Bool → Act → World → Prop
  | 0, listed, a, w => Region.ready .any ops listed = [] ∧ Q a w
  | fuel + 1, listed, a, w =>
    (Region.ready .any ops listed = [] → Q a w) ∧
    ∀ i ∈ Region.ready .any ops listed, xOp P ops i (fun a' w' => (i ∉ bg → R w w') ∧ wpX P ops R bg Q fuel (listed.setIfInBounds i true) a' w') a w

theorem wpOp_of_xOp {i : Nat} {K K' : Act → World → Prop} {Q' : Exit → Act → World → Prop} {a : Act} {w : World} (h : ∀ a w, K a w → K' a w) (hh : xOp P ops i K a w) : wpOp P ops Q' i K' a w := by
  unfold xOp at hh
  unfold wpOp
  split
  · rename_i ho; simp only [ho] at hh; exact h _ _ hh
  · rename_i o ho
    simp only [ho] at hh
    split
    · rename_i hw; simp only [hw, if_true] at hh
      refine .inl ?_
      unfold Oper.wp at *
      exact upon_mono h (fun _ _ _ h => h.elim) hh
    · rename_i hw; simp only [hw] at hh; exact h _ _ hh

theorem wpAny_of_X {Q' : Exit → Act → World → Prop} (hQ : ∀ a w, Q a w → Q' .normal a w) : ∀ (fuel : Nat) (listed : Array Bool) (a : Act) (w : World), wpX P ops R bg Q fuel listed a w → wpAny P .any ops Q' fuel listed a w
  | 0, _, _, _, h => ⟨h.1, hQ _ _ h.2⟩
  | fuel + 1, _, _, _, h => ⟨fun h0 => hQ _ _ (h.1 h0), fun i hi => wpOp_of_xOp (fun a w h => wpAny_of_X hQ fuel _ a w h.2) (h.2 i hi)⟩

/-- In the worlds to come, the operation yields this. -/
def YieldsR (P : Program) (ops : Array Oper) (R : World → World → Prop) (o : Oper) (v : Value) (a : Act) (w : World) : Prop :=
  (Region.wanted o (yielded ops a.tmps) = true ∧ ∀ w', R w w' → (execOp a.eval o).run P w' = .ok (.value v) w') ∨
  (Region.wanted o (yielded ops a.tmps) = false ∧ v = undef)

theorem YieldsR.of_same {o : Oper} {v : Value} {a a' : Act} {w : World} (hy : YieldsR P ops R o v a w) (he : execOp a'.eval o = execOp a.eval o)
    (hw : Region.wanted o (yielded ops a'.tmps) = Region.wanted o (yielded ops a.tmps)) : YieldsR P ops R o v a' w := by
  unfold YieldsR at *
  rw [he, hw]
  exact hy
theorem YieldsR.later {o : Oper} {v : Value} {a : Act} {w w' : World} (ht : ∀ {a b c}, R a b → R b c → R a c) (hy : YieldsR P ops R o v a w) (h : R w w') : YieldsR P ops R o v a w' := by
  rcases hy with ⟨h1, h2⟩ | h
  · exact .inl ⟨h1, fun w'' h3 => h2 w'' (ht h h3)⟩
  · exact .inr h

theorem YieldsR.xOp {i : Nat} {o : Oper} {v : Value} {a : Act} {w : World} (hr : ∀ w, R w w) (hi : ops[i]? = some o) (hy : YieldsR P ops R o v a w) {K : Act → World → Prop} (h : K (a.put o.dst v) w) : xOp P ops i K a w := by
  unfold G.xOp
  simp only [hi]
  rcases hy with ⟨hw, hv⟩ | ⟨hw, rfl⟩
  · simp only [hw, if_true, Oper.wp, hv w (hr w), Oper.upon]; exact h
  · simp only [hw, Bool.false_eq_true, if_false]; exact h

theorem xOp_put {j : Nat} {oi oj : Oper} {v : Value} (ht : ∀ {a b c}, R a b → R b c → R a c) (hj : ops[j]? = some oj) (hap : oi.apart ops oj = true)
    (hsi : ∀ cs b, oi.op ≠ .select cs b) (hsj : ∀ cs b, oj.op ≠ .select cs b) {K : Act → World → Prop} {a : Act} {w : World} (hK : ∀ a w', K a w' → R w w')
    (hy : YieldsR P ops R oi v a w) (h : xOp P ops j K (a.put oi.dst v) w) :
    xOp P ops j (fun a' w' => YieldsR P ops R oi v a' w' ∧ K (a'.put oi.dst v) w') a w := by
  obtain ⟨h1, h2, h3⟩ := Oper.apart_spec hap
  have keep : ∀ (a : Act) (w : World), YieldsR P ops R oi v a w → ∀ u, YieldsR P ops R oi v (a.put oj.dst u) w := fun a w hy u =>
    hy.of_same (execOp_put oi hsi a oj.dst u h3) (wanted_put oi a oj.dst u h3)
  have keepD : ∀ d, YieldsR P ops R oi v { a with defers := d :: a.defers } w := fun d => hy.of_same rfl rfl
  unfold xOp at *
  simp only [hj] at *
  rw [wanted_put oj a oi.dst v h1] at h
  split
  · rename_i hw
    simp only [hw, if_true] at h
    unfold Oper.wp at *
    rw [execOp_put oj hsj a oi.dst v h1] at h
    generalize (execOp a.eval oj).run P w = r at *
    cases r with
    | ok n w' =>
      cases n <;> simp only [Oper.upon] at h ⊢
      case value u =>
        rw [Act.put_comm a v u h2] at h
        exact ⟨keep a _ (hy.later ht (hK _ _ h)) u, h⟩
      case skip =>
        rw [Act.put_comm a v undef h2] at h
        exact ⟨keep a _ (hy.later ht (hK _ _ h)) _, h⟩
      case defer d =>
        have h' := h
        rw [Act.put_defers, Act.put_comm _ v undef h2] at h'
        exact ⟨keep _ _ ((keepD d).later ht (hK _ _ h')) _, h'⟩
      case enter f args =>
        refine Calls.mono h fun e w'' he => ?_
        cases e with
        | returned u =>
          have he : K _ _ := he
          rw [Act.put_comm a v u h2] at he
          exact ⟨keep a _ (hy.later ht (hK _ _ he)) u, he⟩
        | panicked c => exact he
        | outgrown => exact he
      case row row args =>
        refine Rows.mono h fun u w'' he => ?_
        rw [Act.put_comm a v u h2] at he
        exact ⟨keep a _ (hy.later ht (hK _ _ he)) u, he⟩
    | halt x w' => cases x <;> simp only [Oper.upon] at h ⊢ <;> exact h
  · rename_i hw
    simp only [hw] at h
    simp only [Bool.false_eq_true, if_false] at h
    rw [Act.put_comm a v undef h2] at h
    exact ⟨keep a _ (hy.later ht (hK _ _ h)) _, h⟩

theorem xOp_mono {i : Nat} {K K' : Act → World → Prop} {a : Act} {w : World} (h : ∀ a w, K a w → K' a w) (hh : xOp P ops i K a w) : xOp P ops i K' a w := by
  unfold xOp at *
  split
  · rename_i ho; simp only [ho] at hh; exact h _ _ hh
  · rename_i o ho
    simp only [ho] at hh
    split
    · rename_i hw; simp only [hw, if_true] at hh; unfold Oper.wp at *; exact upon_mono h (fun _ _ _ h => h) hh
    · rename_i hw; simp only [hw] at hh; exact h _ _ hh

/-- What a listed operation waits for is listed. -/
def Closed (ops : Array Oper) (listed : Array Bool) : Prop := ∀ k ok, ops[k]? = some ok → listed.getD k false = true → ∀ e ∈ ok.after, Region.binds .any e = true → listed.getD e.on false = true
theorem Closed.set {listed : Array Bool} {i : Nat} (h : Closed ops listed) (hr : i ∈ Region.ready .any ops listed) : Closed ops (listed.setIfInBounds i true) := by
  intro k ok hk hl e he hb
  obtain ⟨_, oi, hoi, hall⟩ := mem_ready.1 hr
  by_cases hki : i = k
  · subst hki
    rw [hk] at hoi
    obtain rfl := Option.some.inj hoi
    exact getD_set_true (hall e he hb)
  · rw [getD_set_ne false hki] at hl
    exact getD_set_true (h k ok hk hl e he hb)

theorem wpX_first (hbg : ∀ j ∈ bg, ∀ listed, Closed ops listed → j ∈ Region.ready .any ops listed → Region.ready .any ops listed = [j]) {i : Nat} {oi : Oper} {v : Value} (hrr : ∀ w, R w w) (ht : ∀ {a b c}, R a b → R b c → R a c) (hi : ops[i]? = some oi) (hsel : ∀ (j : Nat) (o : Oper) cs b, ops[j]? = some o → o.op ≠ .select cs b) :
    ∀ (fuel : Nat) (listed : Array Bool) (a : Act) (w : World), Closed ops listed →
      (∀ j oj, ops[j]? = some oj → j ≠ i → listed.getD j true = false → (∀ e ∈ oj.after, Region.binds .any e = true → e.on ≠ i) → oi.apart ops oj = true) →
      i ∈ Region.ready .any ops listed → YieldsR P ops R oi v a w →
      wpX P ops R bg Q fuel (listed.setIfInBounds i true) (a.put oi.dst v) w → wpX P ops R bg Q (fuel + 1) listed a w := by
  intro fuel
  induction fuel with
  | zero =>
    intro listed a w _ _ hr hy H
    refine ⟨fun h => (by rw [h] at hr; cases hr), fun j hj => ?_⟩
    by_cases hji : j = i
    · subst hji; exact hy.xOp hrr hi ⟨fun _ => hrr w, H⟩
    · have := ready_mono hj hji
      rw [H.1] at this
      cases this
  | succ fuel ih =>
    intro listed a w hcl hfree hr hy H
    refine ⟨fun h => (by rw [h] at hr; cases hr), fun j hj => ?_⟩
    by_cases hji : j = i
    · subst hji; exact hy.xOp hrr hi ⟨fun _ => hrr w, H⟩
    · have h1 := H.2 j (ready_mono hj hji)
      obtain ⟨hjun, oj, hoj, hall⟩ := mem_ready.1 hj
      have hnot : ∀ e ∈ oj.after, Region.binds .any e = true → e.on ≠ i := fun e he hb heq => by
        have h1 := hall e he hb
        have h0 := (mem_ready.1 hr).1
        rw [heq] at h1
        rcases Nat.lt_or_ge i listed.size with h' | h'
        · simp [h'] at h0 h1; rw [h0] at h1; cases h1
        · simp [Array.getElem?_eq_none h'] at h1
      have h2 := xOp_put ht hoj (hfree j oj hoj hji hjun hnot) (fun cs b => hsel i oi cs b hi) (fun cs b => hsel j oj cs b hoj) (R := R) (fun _ _ (h : (j ∉ bg → R w _) ∧ _) => h.1 (fun hb => hji (by have := hbg j hb _ hcl hj; rw [this] at hr; exact (List.mem_singleton.1 hr).symm))) hy h1
      have hfree' : ∀ k ok, ops[k]? = some ok → k ≠ i → (listed.setIfInBounds j true).getD k true = false →
          (∀ e ∈ ok.after, Region.binds .any e = true → e.on ≠ i) → oi.apart ops ok = true := fun k ok hk hki hun hno => by
        refine hfree k ok hk hki ?_ hno
        by_cases hjk : j = k
        · subst hjk; exact hjun
        · rw [getD_set_ne true hjk] at hun; exact hun
      refine xOp_mono (fun a' w' h3 => ⟨h3.2.1, ih (listed.setIfInBounds j true) a' w' (hcl.set hj) hfree' (ready_mono hr (Ne.symm hji)) h3.1 ?_⟩) h2
      rw [Array.setIfInBounds_comm _ _ hji]
      exact h3.2.2

/-- Kinds of steps: an operation that only yields a value; one that acts; one that acts when all that does not wait for it is done. -/
inductive Kd where
  | q | e | g
  deriving DecidableEq

/-- An operation waits for another one, at once or through a third one. -/
def twoB (ops : Array Oper) (o : Oper) (k : Nat) : Bool :=
  o.after.any fun e => Region.binds .any e && (Nat.beq e.on k || match ops[e.on]? with
    | some o2 => o2.after.any fun e2 => Region.binds .any e2 && Nat.beq e2.on k
    | none => false)
theorem twoB_spec {o : Oper} {k : Nat} {listed : Array Bool} (h : twoB ops o k = true) (hc : Closed ops listed) (ha : ∀ e ∈ o.after, Region.binds .any e = true → listed.getD e.on false = true) : listed.getD k false = true := by
  obtain ⟨e, he, hb⟩ := Array.any_eq_true'.1 h
  rw [Bool.and_eq_true, Bool.or_eq_true] at hb
  have h1 := ha e he hb.1
  rcases hb.2 with h2 | h2
  · rw [Nat.eq_of_beq_eq_true h2] at h1; exact h1
  · split at h2
    · rename_i o2 ho2
      obtain ⟨e2, he2, hb2⟩ := Array.any_eq_true'.1 h2
      rw [Bool.and_eq_true] at hb2
      have := hc _ _ ho2 h1 e2 he2 hb2.1
      rwa [Nat.eq_of_beq_eq_true hb2.2] at this
    · cases h2
/-- What an operation waits for at once. -/
def depsL (ops : Array Oper) (i : Nat) : List Nat :=
  match ops[i]? with
  | some o => (o.after.toList.filter (Region.binds .any)).map (·.on)
  | none => []
/-- All that lies before some operations. -/
def ancL (ops : Array Oper) : Nat → List Nat → List Nat → List Nat
  | 0, _, acc => acc
  | _ + 1, [], acc => acc
  | f + 1, k :: fr, acc => if acc.any (Nat.beq k) then ancL ops f fr acc else ancL ops f (depsL ops k ++ fr) (k :: acc)
theorem ancL_spec {listed : Array Bool} (hc : Closed ops listed) : ∀ (f : Nat) (fr acc : List Nat), (∀ k ∈ fr, listed.getD k false = true) → (∀ k ∈ acc, listed.getD k false = true) → ∀ k ∈ ancL ops f fr acc, listed.getD k false = true
  | 0, _, _, _, h2, k, hk => h2 k hk
  | _ + 1, [], _, _, h2, k, hk => h2 k hk
  | f + 1, q :: fr, acc, h1, h2, k, hk => by
    unfold ancL at hk
    split at hk
    · exact ancL_spec hc f fr acc (fun k hk => h1 k (by simp [hk])) h2 k hk
    · refine ancL_spec hc f _ _ (fun i hi => ?_) (fun i hi => ?_) k hk
      · rcases List.mem_append.1 hi with hi | hi
        · unfold depsL at hi
          split at hi
          · rename_i o ho
            obtain ⟨e, he, rfl⟩ := List.mem_map.1 hi
            rw [List.mem_filter] at he
            exact hc q o ho (h1 q (by simp)) e (by simpa using he.1) he.2
          · cases hi
        · exact h1 i (by simp [hi])
      · rcases List.mem_cons.1 hi with rfl | hi
        · exact h1 _ (by simp)
        · exact h2 i hi
def bigB (ops : Array Oper) (j : Nat) : Bool :=
  match ancL ops 5000 (depsL ops j) [] with
  | anc => (List.range ops.size).all fun k => Nat.beq k j || (anc.any (Nat.beq k) || match ops[k]? with
      | some ok => twoB ops ok j
      | none => true)
theorem bigB_spec {j : Nat} (h : bigB ops j = true) (listed : Array Bool) (hcl : Closed ops listed) (hj : j ∈ Region.ready .any ops listed) : Region.ready .any ops listed = [j] := by
  have h1 : ∀ k ∈ Region.ready .any ops listed, k = j := by
    intro k hk
    obtain ⟨j0, oj, hoj, hja⟩ := mem_ready.1 hj
    obtain ⟨k0, ok, hok, hka⟩ := mem_ready.1 hk
    simp only [bigB, List.all_eq_true, List.mem_range] at h
    have h2 := h k (Array.getElem?_eq_some_iff.1 hok).1
    simp only [hok, Bool.or_eq_true] at h2
    have no : ∀ i, listed.getD i true = false → listed.getD i false = true → False := by
      intro i h0 h1
      rcases Nat.lt_or_ge i listed.size with h' | h'
      · simp [h'] at h0 h1; rw [h0] at h1; cases h1
      · simp [Array.getElem?_eq_none h'] at h1
    rcases h2 with h2 | h2 | h2
    · exact Nat.eq_of_beq_eq_true h2
    · obtain ⟨q, hq, hqk⟩ := List.any_eq_true.1 h2
      obtain rfl := Nat.eq_of_beq_eq_true hqk
      refine (no _ k0 (ancL_spec hcl 5000 _ [] (fun i hi => ?_) (fun i hi => by cases hi) _ hq)).elim
      unfold depsL at hi
      rw [hoj] at hi
      obtain ⟨e, he, rfl⟩ := List.mem_map.1 hi
      rw [List.mem_filter] at he
      exact hja e (by simpa using he.1) he.2
    · exact (no _ j0 (twoB_spec h2 hcl hka)).elim
  have hnd : (Region.ready .any ops listed).Nodup := List.nodup_range.sublist (List.filter_sublist)
  generalize Region.ready .any ops listed = r at *
  match r, hj, h1, hnd with
  | [a], _, h1, _ => rw [h1 a (by simp)]
  | a :: b :: r, _, h1, hnd =>
    have e1 := h1 a (by simp)
    have e2 := h1 b (by simp)
    rw [e1, e2] at hnd
    simp at hnd

/-- The plan: which operation comes next, and of which kind it is. -/
def planB (ops : Array Oper) : List (Nat × Kd) → Array Bool → Bool
  | [], listed => (Region.ready .any ops listed).isEmpty
  | (i, .q) :: r, listed => (Region.ready .any ops listed).contains i && (Region.free .any ops listed i && planB ops r (listed.setIfInBounds i true))
  | (i, .e) :: r, listed => Region.ready .any ops listed == [i] && planB ops r (listed.setIfInBounds i true)
  | (i, .g) :: r, listed => Region.ready .any ops listed == [i] && (bigB ops i && planB ops r (listed.setIfInBounds i true))

def bigs : List (Nat × Kd) → List Nat
  | [] => []
  | (i, .g) :: r => i :: bigs r
  | _ :: r => bigs r

def RX (P : Program) (ops : Array Oper) (R : World → World → Prop) (K : List Value → World → Prop) : List (Oper × Kd) → List Value → World → Prop
  | [], l, w => K l w
  | (o, .q) :: rest, l, w =>
    if Region.wanted o (yielded ops l.toArray) then ∃ v, (∀ w', R w w' → (execOp (ev l) o).run P w' = .ok (.value v) w') ∧ RX P ops R K rest (putL o.dst v l) w
    else RX P ops R K rest (putL o.dst undef l) w
  | (o, .e) :: rest, l, w =>
    if Region.wanted o (yielded ops l.toArray) then o.wp P (fr l) w (fun a' w' => ∃ l', a' = fr l' ∧ R w w' ∧ RX P ops R K rest l' w') NoQ
    else RX P ops R K rest (putL o.dst undef l) w
  | (o, .g) :: rest, l, w =>
    if Region.wanted o (yielded ops l.toArray) then o.wp P (fr l) w (fun a' w' => ∃ l', a' = fr l' ∧ RX P ops R K rest l' w') NoQ
    else RX P ops R K rest (putL o.dst undef l) w

def nth : List Oper → Nat → Oper
  | [], _ => default
  | o :: _, 0 => o
  | _ :: r, n + 1 => nth r n
theorem nth_get : ∀ (l : List Oper) (i : Nat), i < l.length → l[i]? = some (nth l i)
  | [], _, h => by simp at h
  | o :: _, 0, _ => rfl
  | _ :: r, n + 1, h => by simpa [nth] using nth_get r n (by simpa using h)
def pick (l : List Oper) : List (Nat × Kd) → List (Oper × Kd)
  | [] => []
  | (i, b) :: r => (nth l i, b) :: pick l r

theorem rx_list {l0 : List Oper} {K : List Value → World → Prop} (hrr : ∀ w, R w w) (ht : ∀ {a b c}, R a b → R b c → R a c) (hs : Region.noSelect l0.toArray = true)
    (hbg : ∀ j ∈ bg, ∀ listed, Closed l0.toArray listed → j ∈ Region.ready .any l0.toArray listed → Region.ready .any l0.toArray listed = [j]) :
    ∀ (pl : List (Nat × Kd)) (listed : Array Bool) (l : List Value) (w : World), Closed l0.toArray listed → (∀ i, (i, .g) ∈ pl → i ∈ bg) → planB l0.toArray pl listed = true → RX P l0.toArray R K (pick l0 pl) l w →
      wpX P l0.toArray R bg (fun a w => ∃ l, a = fr l ∧ K l w) pl.length listed (fr l) w
  | [], listed, l, w, _, _, hB, h => ⟨by simpa [planB] using hB, l, rfl, h⟩
  | (i, .q) :: r, listed, l, w, hcl, hg, hB, h => by
    simp only [planB, Bool.and_eq_true] at hB
    obtain ⟨hc, hf, hB⟩ := hB
    have hr : i ∈ Region.ready .any l0.toArray listed := by simpa using hc
    have hlt : i < l0.length := by
      obtain ⟨_, o, ho, _⟩ := mem_ready.1 hr
      simpa using (Array.getElem?_eq_some_iff.1 ho).1
    have hi : l0.toArray[i]? = some (nth l0 i) := by simpa using nth_get l0 i hlt
    simp only [pick, RX] at h
    by_cases hw : Region.wanted (nth l0 i) (yielded l0.toArray l.toArray) = true
    · rw [if_pos hw] at h
      obtain ⟨v, h1, h2⟩ := h
      refine wpX_first hbg hrr ht hi (Region.noSelect_spec hs) r.length listed (fr l) w hcl (Region.free_spec hi hf) hr (.inl ⟨hw, fun w' hw' => by rw [eval_fr]; exact h1 w' hw'⟩) ?_
      rw [put_fr]
      exact rx_list hrr ht hs hbg r _ _ _ (hcl.set (by assumption)) (fun i hi => hg i (by simp [hi])) hB h2
    · rw [if_neg hw] at h
      refine wpX_first hbg hrr ht hi (Region.noSelect_spec hs) r.length listed (fr l) w hcl (Region.free_spec hi hf) hr (.inr ⟨by simpa using hw, rfl⟩) ?_
      rw [put_fr]
      exact rx_list hrr ht hs hbg r _ _ _ (hcl.set (by assumption)) (fun i hi => hg i (by simp [hi])) hB h
  | (i, .e) :: r, listed, l, w, hcl, hg, hB, h => by
    simp only [planB, Bool.and_eq_true, beq_iff_eq] at hB
    obtain ⟨hr, hB⟩ := hB
    have hmem : i ∈ Region.ready .any l0.toArray listed := by rw [hr]; simp
    have hlt : i < l0.length := by
      obtain ⟨_, o, ho, _⟩ := mem_ready.1 hmem
      simpa using (Array.getElem?_eq_some_iff.1 ho).1
    have hi : l0.toArray[i]? = some (nth l0 i) := by simpa using nth_get l0 i hlt
    simp only [pick, RX] at h
    refine ⟨fun h0 => by rw [h0] at hr; simp at hr, fun j hj => ?_⟩
    rw [hr] at hj
    obtain rfl : j = i := by simpa using hj
    unfold xOp
    simp only [hi]
    split
    · rename_i hw
      rw [if_pos (by exact hw)] at h
      unfold Oper.wp at *
      refine upon_mono ?_ (fun _ _ _ h => h) h
      rintro a w' ⟨l', rfl, hR, h⟩
      exact ⟨fun _ => hR, rx_list hrr ht hs hbg r _ _ _ (hcl.set (by assumption)) (fun i hi => hg i (by simp [hi])) hB h⟩
    · rename_i hw
      rw [if_neg (by exact hw)] at h
      rw [put_fr]
      exact ⟨fun _ => hrr w, rx_list hrr ht hs hbg r _ _ _ (hcl.set (by assumption)) (fun i hi => hg i (by simp [hi])) hB h⟩
  | (i, .g) :: r, listed, l, w, hcl, hg, hB, h => by
    simp only [planB, Bool.and_eq_true, beq_iff_eq] at hB
    obtain ⟨hr, _, hB⟩ := hB
    have hmem : i ∈ Region.ready .any l0.toArray listed := by rw [hr]; simp
    have hlt : i < l0.length := by
      obtain ⟨_, o, ho, _⟩ := mem_ready.1 hmem
      simpa using (Array.getElem?_eq_some_iff.1 ho).1
    have hi : l0.toArray[i]? = some (nth l0 i) := by simpa using nth_get l0 i hlt
    simp only [pick, RX] at h
    refine ⟨fun h0 => by rw [h0] at hr; simp at hr, fun j hj => ?_⟩
    rw [hr] at hj
    obtain rfl : j = i := by simpa using hj
    unfold xOp
    simp only [hi]
    split
    · rename_i hw
      rw [if_pos (by exact hw)] at h
      unfold Oper.wp at *
      refine upon_mono ?_ (fun _ _ _ h => h) h
      rintro a w' ⟨l', rfl, h⟩
      exact ⟨fun hn => absurd (hg j (by simp)) hn, rx_list hrr ht hs hbg r _ _ _ (hcl.set (by assumption)) (fun i hi => hg i (by simp [hi])) hB h⟩
    · rename_i hw
      rw [if_neg (by exact hw)] at h
      rw [put_fr]
      exact ⟨fun _ => hrr w, rx_list hrr ht hs hbg r _ _ _ (hcl.set (by assumption)) (fun i hi => hg i (by simp [hi])) hB h⟩

theorem mem_bigs : ∀ (pl : List (Nat × Kd)) (i : Nat), (i, .g) ∈ pl ↔ i ∈ bigs pl
  | [], _ => by simp [bigs]
  | (j, .q) :: r, i => by simp [bigs, mem_bigs r i]
  | (j, .e) :: r, i => by simp [bigs, mem_bigs r i]
  | (j, .g) :: r, i => by simp [bigs, mem_bigs r i]

theorem planB_big : ∀ (pl : List (Nat × Kd)) (listed : Array Bool), planB ops pl listed = true → ∀ j ∈ bigs pl, bigB ops j = true
  | [], _, _, j, hj => by simp [bigs] at hj
  | (i, .q) :: r, _, h, j, hj => by
    simp only [planB, Bool.and_eq_true] at h
    exact planB_big r _ h.2.2 j (by simpa [bigs] using hj)
  | (i, .e) :: r, _, h, j, hj => by
    simp only [planB, Bool.and_eq_true] at h
    exact planB_big r _ h.2 j (by simpa [bigs] using hj)
  | (i, .g) :: r, _, h, j, hj => by
    simp only [planB, Bool.and_eq_true] at h
    simp only [bigs, List.mem_cons] at hj
    rcases hj with rfl | hj
    · exact h.2.1
    · exact planB_big r _ h.2.2 j hj

theorem regionX {id : Nat} {l0 : List Oper} {Q : Exit → Act → World → Prop} {l : List Value} {w : World} (R : World → World → Prop) (plan : List (Nat × Kd)) {pl : List (Oper × Kd)} (hm : P.follows .mixedOrders = true)
    (hrr : ∀ w, R w w) (ht : ∀ {a b c}, R a b → R b c → R a c) (hB : (Region.noSelect l0.toArray && (Nat.beq plan.length l0.length && planB l0.toArray plan (Array.replicate l0.length false))) = true)
    (h : ∀ w', Ext w w' → RX P l0.toArray R (fun l w => Q .normal (fr l) w) pl l w') (hp : pick l0 plan = pl := by dsimp only [pick, nth]) : (Code.region id l0.toArray true).wp P Q (fr l) w := by
  subst hp
  simp only [Bool.and_eq_true] at hB
  obtain ⟨hs, hl, hB⟩ := hB
  have hl := Nat.eq_of_beq_eq_true hl
  refine wp_region_any hm ?_
  have := rx_list (R := R) (bg := bigs plan) (P := P) (K := fun l w => Q .normal (fr l) w) hrr ht hs (fun j hj => bigB_spec (planB_big plan _ hB j hj)) plan (Array.replicate l0.length false) l { w with drawn := w.drawn + 1 } (by intro k ok _ h; exfalso; simp [Array.getElem?_replicate] at h; split at h <;> simp at h) (fun i hi => (mem_bigs plan i).1 hi) hB (h _ ((Below.refl _ _).drew))
  rw [hl] at this
  have h2 := wpAny_of_X (Q' := Q) (R := R) (fun a w h => by obtain ⟨l, rfl, h⟩ := h; exact h) l0.length (Array.replicate l0.length false) (fr l) _ this
  simpa using h2

theorem Pr.stn {S : Nat → Prop} {a b c : World} {n : Nat} (h : Pr S a b) (k : St n b c) (hn : S n ∨ a.heap.size ≤ n) : Pr S a c := hn.elim (fun hs => h.st k hs) (fun hn => h.new k hn)

variable {K : List Value → World → Prop} {rest r : List (Oper × Kd)} {l : List Value} {w : World}

theorem RX.nil (h : K l w) : RX P ops R K [] l w := h
theorem RX.norm {l' : List Value} (h : l = l') (k : RX P ops R K r l' w) : RX P ops R K r l w := h ▸ k

theorem RX.want {d : Option Tmp} {op : Op} {ty : TypeId} {pos : String} {af : Array Edge} {j : Nat} {t : Bool} {kd : Kd} (hv : yielded ops l.toArray j = some t)
    (k : RX P ops R K ((⟨d, op, ty, pos, af, none⟩, kd) :: rest) l w) : RX P ops R K ((⟨d, op, ty, pos, af, some (j, t)⟩, kd) :: rest) l w := by
  cases kd <;> (unfold RX at k ⊢; rw [if_pos (by simp [Region.wanted, hv])]; rw [if_pos (by simp [Region.wanted])] at k; exact k)
theorem RX.skip {d : Option Tmp} {op : Op} {ty : TypeId} {pos : String} {af : Array Edge} {j : Nat} {t : Bool} {kd : Kd} (hv : (yielded ops l.toArray j == some t) = false)
    (k : RX P ops R K rest (putL d undef l) w) : RX P ops R K ((⟨d, op, ty, pos, af, some (j, t)⟩, kd) :: rest) l w := by
  cases kd <;> (unfold RX; rw [if_neg (by simp only [Region.wanted, hv]; exact Bool.false_ne_true)]; exact k)

/-- An operation that acts. -/
theorem RX.eff {d : Option Tmp} {op : Op} {ty : TypeId} {pos : String} {af : Array Edge} (h : RS P ops (fun l' w' => R w w' ∧ RX P ops R K rest l' w') [⟨d, op, ty, pos, af, none⟩] l w) :
    RX P ops R K ((⟨d, op, ty, pos, af, none⟩, .e) :: rest) l w := by
  unfold RS at h; unfold RX
  have hw : Region.wanted (⟨d, op, ty, pos, af, none⟩ : Oper) (yielded ops l.toArray) = true := by simp [Region.wanted]
  rw [if_pos hw] at h ⊢
  exact h
theorem RX.big {d : Option Tmp} {op : Op} {ty : TypeId} {pos : String} {af : Array Edge} (h : RS P ops (fun l' w' => RX P ops R K rest l' w') [⟨d, op, ty, pos, af, none⟩] l w) :
    RX P ops R K ((⟨d, op, ty, pos, af, none⟩, .g) :: rest) l w := by
  unfold RS at h; unfold RX
  have hw : Region.wanted (⟨d, op, ty, pos, af, none⟩ : Oper) (yielded ops l.toArray) = true := by simp [Region.wanted]
  rw [if_pos hw] at h ⊢
  exact h

theorem RX.splitb (s : Nat) {b : Bool} (hs : Nat.ble (s + 1) l.length = true) (h : l.getD s undef = .bool b) (ht : b = true → RX P ops R K r (l.set s (.bool true)) w) (hf : b = false → RX P ops R K r (l.set s (.bool false)) w) : RX P ops R K r l w := by
  have hs := Nat.le_of_ble_eq_true hs
  cases hb : b
  · have := hf hb; rwa [set_self (by rw [h, hb]) hs] at this
  · have := ht hb; rwa [set_self (by rw [h, hb]) hs] at this
theorem RX.splitd (s : Nat) {p : Prop} [Decidable p] (hs : Nat.ble (s + 1) l.length = true) (h : l.getD s undef = .bool (decide p)) (ht : p → RX P ops R K r (l.set s (.bool true)) w) (hf : ¬ p → RX P ops R K r (l.set s (.bool false)) w) : RX P ops R K r l w :=
  RX.splitb s hs h (fun h => ht (of_decide_eq_true h)) (fun h => hf (of_decide_eq_false h))
theorem RX.splite (s : Nat) {a b : Int} (hs : Nat.ble (s + 1) l.length = true) (h : l.getD s undef = .bool (a == b)) (ht : a = b → RX P ops R K r (l.set s (.bool true)) w) (hf : a ≠ b → RX P ops R K r (l.set s (.bool false)) w) : RX P ops R K r l w :=
  RX.splitb s hs h (fun h => ht (by simpa using h)) (fun h => hf (by simpa using h))
theorem RX.splitn (s : Nat) {a b : Int} (hs : Nat.ble (s + 1) l.length = true) (h : l.getD s undef = .bool (a != b)) (ht : a ≠ b → RX P ops R K r (l.set s (.bool true)) w) (hf : a = b → RX P ops R K r (l.set s (.bool false)) w) : RX P ops R K r l w :=
  RX.splitb s hs h (fun h => ht (by simpa using h)) (fun h => hf (by simpa using h))
theorem RX.splitnot (s : Nat) {b : Bool} (hs : Nat.ble (s + 1) l.length = true) (h : l.getD s undef = .bool (!b)) (ht : b = false → RX P ops R K r (l.set s (.bool true)) w) (hf : b = true → RX P ops R K r (l.set s (.bool false)) w) : RX P ops R K r l w :=
  RX.splitb s hs h (fun h => ht (by simpa using h)) (fun h => hf (by simpa using h))

variable {d : Tmp} {ty : TypeId} {pos : String} {af : Array Edge}
theorem RX.o {op : Op} {v : Value} (hr : ∀ w', R w w' → (execOp (ev l) ⟨some d, op, ty, pos, af, none⟩).run P w' = .ok (.value v) w') {l' : List Value} (k : RX P ops R K rest l' w) (hl : l.set d v = l' := by dsimp only [List.set]) :
    RX P ops R K ((⟨some d, op, ty, pos, af, none⟩, .q) :: rest) l w := by
  subst hl
  unfold RX
  rw [if_pos (by simp [Region.wanted])]
  exact ⟨v, hr, k⟩
theorem RX.move {x : Operand} {v : Value} (hv : ev l x = v) {l' : List Value} (k : RX P ops R K rest l' w) (hl : l.set d v = l' := by dsimp only [List.set]) : RX P ops R K ((⟨some d, .move x, ty, pos, af, none⟩, .q) :: rest) l w :=
  RX.o (fun _ _ => by simp only [execOp]; rw [hv]; rfl) k hl
theorem RX.assign {x : Operand} {v : Value} (hv : ev l x = v) {l' : List Value} (k : RX P ops R K rest l' w) (hl : l.set d v = l' := by dsimp only [List.set]) : RX P ops R K ((⟨some d, .assign x, ty, pos, af, none⟩, .q) :: rest) l w :=
  RX.o (fun _ _ => by simp only [execOp]; rw [hv]; rfl) k hl
theorem RX.pick {c x y : Operand} {b : Bool} {v : Value} (hc : ev l c = .bool b) (hv : (if b then ev l x else ev l y) = v) {l' : List Value} (k : RX P ops R K rest l' w) (hl : l.set d v = l' := by dsimp only [List.set]) :
    RX P ops R K ((⟨some d, .pick c x y, ty, pos, af, none⟩, .q) :: rest) l w :=
  RX.o (v := if b then ev l x else ev l y) (fun _ _ => by simp only [execOp]; rw [hc]; cases b <;> rfl) (l' := l') k (by rw [hv]; exact hl)
theorem RX.extract {x : Operand} {i : Nat} {vs : Array Value} {v : Value} (hx : ev l x = .tuple vs) (hv : vs[i]? = some v) {l' : List Value} (k : RX P ops R K rest l' w) (hl : l.set d v = l' := by dsimp only [List.set]) :
    RX P ops R K ((⟨some d, .extract x i, ty, pos, af, none⟩, .q) :: rest) l w :=
  RX.o (fun _ _ => by simp only [execOp]; rw [hx]; simp only [Instr.extract, hv]; rfl) k hl
theorem RX.nilCheck {x : Operand} {a : Addr} (hx : ev l x = .pointer (some a)) {l' : List Value} (k : RX P ops R K rest l' w) (hl : l.set d (.pointer (some a)) = l' := by dsimp only [List.set]) :
    RX P ops R K ((⟨some d, .nilCheck x, ty, pos, af, none⟩, .q) :: rest) l w :=
  RX.o (fun _ _ => by simp only [execOp]; rw [hx]; rfl) k hl
theorem RX.idx {x y : Operand} {xt e : TypeId} {k ki : IntKind} {S : Nat → Prop} {a : Option Addr} {n c : Nat} {xs : List Int} {i : Int} (hRE : ∀ w', R w w' → Ext w w') (hR : IRow k S w a n xs) (hx : ev l x = .slice a n c) (hy : ev l y = .int ki i) (hu : P.underlying xt = some (.slice e)) (hs : P.cellsOf e = 1)
    (hi : 0 ≤ i ∧ i < n) (h : ∀ b o v, (∀ w', R w w' → w'.cell? ⟨b, o, none⟩ = some (.int k v)) → v = xs.getD i.toNat 0 → 0 ≤ v ∧ v < lim k → RX P ops R K rest (l.set d (.pointer (some ⟨b, o, none⟩))) w) :
    RX P ops R K ((⟨some d, .indexAddr xt x y, ty, pos, af, none⟩, .q) :: rest) l w := by
  obtain ⟨b, o, ha, _, hc⟩ := hR.at_ hi
  refine RX.o (fun _ _ => D.indexAddr hx hy hu hs (by decide) ha hi) (h _ _ _ (fun w' hw => ?_) rfl (hR.bd.get _)) rfl
  rw [(hRE _ hw).cell (p := ⟨b, _, none⟩) (World.block_lt_of_cell? w _ hc)]
  exact hc
end
end Go.Proofs.YtiohpiiiapjblaaDoor.G
