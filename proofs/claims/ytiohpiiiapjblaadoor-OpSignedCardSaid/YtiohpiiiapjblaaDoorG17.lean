/-
  G17: a region that draws its order, whose first operations may come in many orders: each of them is shown by itself, with a property of what it yields that lasts; the rest comes behind them all.
-/
import Derived.Test.YtiohpiiiapjblaaDoorG16
namespace Go.Proofs.YtiohpiiiapjblaaDoor.G
open Go.RowKit

/-- A frame with some slots filled. -/
def FF (l : List Value) (ds : List Nat) (f : Nat → Value) : List Value := upd l (ds.map fun d => (d, f d))
theorem FF_get (f : Nat → Value) (s : Nat) : ∀ (ds : List Nat) (l : List Value), (FF l ds f)[s]? = if s ∈ ds ∧ s < l.length then some (f s) else l[s]?
  | [], l => by simp [FF, upd]
  | d :: ds, l => by
    have ih := FF_get f s ds (l.set d (f d))
    unfold FF at ih ⊢
    simp only [List.map_cons, upd]
    rw [ih, List.length_set]
    by_cases h : s ∈ ds ∧ s < l.length
    · rw [if_pos h, if_pos ⟨by simp [h.1], h.2⟩]
    · rw [if_neg h, List.getElem?_set]
      by_cases hd : d = s
      · subst hd
        by_cases hl : d < l.length
        · simp [hl]
        · simp [hl]
      · have hd' : ¬ s = d := fun e => hd e.symm
        have hns : ¬ ((s = d ∨ s ∈ ds) ∧ s < l.length) := fun e => h ⟨e.1.resolve_left hd', e.2⟩
        simp only [hd, if_false, List.mem_cons]
        rw [if_neg hns]
theorem FF_len (f : Nat → Value) : ∀ (ds : List Nat) (l : List Value), (FF l ds f).length = l.length
  | [], l => rfl
  | d :: ds, l => by
    have ih := FF_len f ds (l.set d (f d))
    unfold FF at ih ⊢
    simp only [List.map_cons, upd]
    rw [ih, List.length_set]
theorem FF_set (l : List Value) (ds : List Nat) (f : Nat → Value) (d : Nat) (v : Value) (hd : d ∈ ds) : (FF l ds f).set d v = FF l ds (fun s => if s = d then v else f s) := by
  apply List.ext_getElem?
  intro s
  rw [List.getElem?_set, FF_get, FF_get, FF_len]
  by_cases h : d = s
  · subst h
    by_cases hl : d < l.length <;> simp [hl, hd]
  · have h' : ¬ s = d := fun e => h e.symm
    simp [h, h']
theorem FF_id (l : List Value) (ds : List Nat) : FF l ds (fun s => l.getD s undef) = l := by
  apply List.ext_getElem?
  intro s
  rw [FF_get]
  split
  · rename_i h
    simp [List.getD_eq_getElem?_getD, List.getElem?_eq_getElem h.2]
  · rfl

def LS (m n : Nat) : Array Bool := (List.replicate m true ++ List.replicate (n - m) false).toArray
def cntU (m : Nat) (listed : Array Bool) : Nat := (List.range m).countP fun i => !listed.getD i false

def phaseB (l0 : List Oper) (m : Nat) (ds : List Nat) : Bool :=
  Nat.ble m l0.length && (List.range m).all (fun i => (nth l0 i).dst == some (ds.getD i 0) && (nth l0 i).guard.isNone && (nth l0 i).after.all fun e => !Region.binds .any e || Nat.blt e.on i) &&
  ds.length == m &&
  (List.range l0.length).all fun i => Nat.blt i m || (match ancL l0.toArray 5000 (depsL l0.toArray i) [] with | anc => (List.range m).all fun s => anc.any (Nat.beq s))

theorem nth_mem_range {l0 : List Oper} {i : Nat} (h : i < l0.length) : l0.toArray[i]? = some (nth l0 i) := by simpa using nth_get l0 i h

theorem countP_set (m : Nat) (listed : Array Bool) (i : Nat) (him : i < m) (hin : i < listed.size) (hf : listed.getD i false = false) : cntU m listed = cntU m (listed.setIfInBounds i true) + 1 := by
  have e : ∀ j, (!(listed.setIfInBounds i true).getD j false) = if j = i then false else !listed.getD j false := by
    intro j
    split
    · rename_i h; subst h; simp [hin]
    · rename_i h; rw [getD_set_ne false (Ne.symm h)]
  unfold cntU
  have hsum : ∀ (xs : List Nat), xs.Nodup → i ∈ xs → xs.countP (fun j => !listed.getD j false) = xs.countP (fun j => if j = i then false else !listed.getD j false) + 1 := by
    intro xs
    induction xs with
    | nil => intro _ h; cases h
    | cons x xs ih =>
      intro hn hi
      rw [List.nodup_cons] at hn
      by_cases hx : x = i
      · subst hx
        have : xs.countP (fun j => !listed.getD j false) = xs.countP (fun j => if j = x then false else !listed.getD j false) := by
          apply List.countP_congr
          intro j hj
          have : j ≠ x := fun e => hn.1 (e ▸ hj)
          simp [this]
        rw [List.countP_cons, List.countP_cons, this]
        simp [hf]
      · have := ih hn.2 (by rcases List.mem_cons.1 hi with h | h; exact absurd h.symm hx; exact h)
        rw [List.countP_cons, List.countP_cons, this]
        simp only [hx, if_false]
        omega
  rw [hsum _ List.nodup_range (by simpa using him)]
  congr 2
  funext j
  rw [e j]

section
variable {P : Program} {bg : List Nat} {Q : Act → World → Prop}
theorem phase {l0 : List Oper} {m k : Nat} {ds : List Nat} {l : List Value} {w0 : World} {Φ : Nat → Value → World → Prop} (hB : phaseB l0 m ds = true)
    (hΦ : ∀ i v w w', Φ i v w → Ext w w' → Φ i v w')
    (hstep : ∀ i, i < m → ∀ (f : Nat → Value) w', Ext w0 w' → (∀ j ∈ depsL l0.toArray i, Φ j (f (ds.getD j 0)) w') → RS P l0.toArray (fun l'' w'' => ∃ v, l'' = (FF l ds f).set (ds.getD i 0) v ∧ Ext w' w'' ∧ Φ i v w'') [nth l0 i] (FF l ds f) w')
    (hnd : ds.Nodup)
    (hend : ∀ (f : Nat → Value) w', Ext w0 w' → (∀ i, i < m → Φ i (f (ds.getD i 0)) w') → wpX P l0.toArray Ext bg Q k (LS m l0.length) (fr (FF l ds f)) w') :
    ∀ (c : Nat) (listed : Array Bool) (f : Nat → Value) (w' : World), cntU m listed = c → listed.size = l0.length → (∀ i, m ≤ i → listed.getD i false = false) → Closed l0.toArray listed → Ext w0 w' →
      (∀ i, i < m → listed.getD i false = true → Φ i (f (ds.getD i 0)) w') → wpX P l0.toArray Ext bg Q (c + k) listed (fr (FF l ds f)) w' := by
  simp only [phaseB, Bool.and_eq_true] at hB
  obtain ⟨⟨⟨hmn, hB1⟩, hdl⟩, hB2⟩ := hB
  have hmn := Nat.le_of_ble_eq_true hmn
  have hdl : ds.length = m := by simpa using hdl
  have dmem : ∀ i, i < m → ds.getD i 0 ∈ ds := by
    intro i hi
    rw [List.getD_eq_getElem?_getD, List.getElem?_eq_getElem (by omega)]
    exact List.getElem_mem _
  have dinj : ∀ i j, i < m → j < m → ds.getD i 0 = ds.getD j 0 → i = j := by
    intro i j hi hj h
    rw [List.getD_eq_getElem?_getD, List.getD_eq_getElem?_getD, List.getElem?_eq_getElem (by omega), List.getElem?_eq_getElem (by omega)] at h
    exact (List.getElem_inj hnd).1 (by simpa using h)
  have one : ∀ i, i < m → (nth l0 i).dst = some (ds.getD i 0) ∧ (nth l0 i).guard = none ∧ ∀ e ∈ (nth l0 i).after, Region.binds .any e = true → e.on < i := by
    intro i hi
    have := List.all_eq_true.1 hB1 i (by simpa using hi)
    simp only [Bool.and_eq_true, beq_iff_eq, Array.all_eq_true_iff_forall_mem, Bool.or_eq_true, Bool.not_eq_true', Option.isNone_iff_eq_none] at this
    refine ⟨this.1.1, this.1.2, fun e he hb => ?_⟩
    rcases this.2 e he with h | h
    · rw [hb] at h; cases h
    · simpa [Nat.blt_eq] using h
  intro c
  induction c with
  | zero =>
    intro listed f w' hc hsz hhi hcl hx hF
    have hall : ∀ i, i < m → listed.getD i false = true := by
      intro i hi
      have := List.countP_eq_zero.1 hc i (by simpa using hi)
      simpa using this
    have hL : listed = LS m l0.length := by
      apply Array.ext
      · simp [LS, hsz]; omega
      intro i h1 h2
      by_cases him : i < m
      · have := hall i him
        simp [h1] at this
        rw [this]
        simp [LS, List.getElem_append, him]
      · have := hhi i (by omega)
        simp [h1] at this
        rw [this]
        simp [LS, List.getElem_append, him]
    rw [hL, Nat.zero_add]
    exact hend f w' hx (fun i hi => hF i hi (hall i hi))
  | succ c ih =>
    intro listed f w' hc hsz hhi hcl hx hF
    -- what comes up is among the first
    have hrd : ∀ j, j ∈ Region.ready .any l0.toArray listed → j < m := by
      intro j hj
      obtain ⟨hj0, oj, hoj, hja⟩ := mem_ready.1 hj
      have hjn : j < l0.length := by simpa using (Array.getElem?_eq_some_iff.1 hoj).1
      rcases Nat.lt_or_ge j m with h | h
      · exact h
      · exfalso
        have h2 := List.all_eq_true.1 hB2 j (by simpa using hjn)
        have h3 : Nat.blt j m = false := by
          rw [Bool.eq_false_iff]; intro e; rw [Nat.blt_eq] at e; omega
        rw [h3, Bool.false_or] at h2
        have hz : cntU m listed = 0 := by
          unfold cntU
          rw [List.countP_eq_zero]
          intro s hs
          have h4 := List.all_eq_true.1 h2 s hs
          obtain ⟨q, hq, hqs⟩ := List.any_eq_true.1 h4
          obtain rfl := Nat.eq_of_beq_eq_true hqs
          have := ancL_spec hcl 5000 (depsL l0.toArray j) [] (fun i hi => by
            unfold depsL at hi
            rw [hoj] at hi
            obtain ⟨e, he, rfl⟩ := List.mem_map.1 hi
            rw [List.mem_filter] at he
            exact hja e (by simpa using he.1) he.2) (fun i hi => by cases hi) _ hq
          simp [this]
        omega
    rw [show c + 1 + k = (c + k) + 1 by omega]
    refine ⟨fun h0 => ?_, fun i hi => ?_⟩
    · -- something comes up
      exfalso
      have hex : ∃ s, s < m ∧ listed.getD s false = false := by
        have hp : 0 < (List.range m).countP fun i => !listed.getD i false := by unfold cntU at hc; omega
        obtain ⟨s, hs, h⟩ := List.countP_pos_iff.1 hp
        exact ⟨s, by simpa using hs, by simpa using h⟩
      obtain ⟨s, hs, hmin⟩ : ∃ s, (s < m ∧ listed.getD s false = false) ∧ ∀ t, t < s → listed.getD t false = true := by
        obtain ⟨s, hs⟩ := hex
        induction s using Nat.strongRecOn with
        | _ s ihs =>
          by_cases h : ∃ t, t < s ∧ listed.getD t false = false
          · obtain ⟨t, ht, hf⟩ := h
            exact ihs t ht ⟨by omega, hf⟩
          · refine ⟨s, hs, fun t ht => ?_⟩
            cases hb : listed.getD t false
            · exact absurd ⟨t, ht, hb⟩ h
            · rfl
      have : s ∈ Region.ready .any l0.toArray listed := by
        refine mem_ready.2 ⟨?_, nth l0 s, nth_mem_range (by omega), fun e he hb => hmin _ ((one s hs.1).2.2 e he hb)⟩
        have := hs.2
        have hlt : s < listed.size := by omega
        simp [hlt] at this ⊢
        exact this
      rw [h0] at this
      cases this
    · have him := hrd i hi
      obtain ⟨h1, h2, h3⟩ := one i him
      obtain ⟨hi0, oi, hoi, hia⟩ := mem_ready.1 hi
      rw [nth_mem_range (by omega)] at hoi
      obtain rfl := Option.some.inj hoi
      have hif : listed.getD i false = false := by
        have hlt : i < listed.size := by omega
        simp [hlt] at hi0 ⊢
        exact hi0
      have hst := hstep i him f w' hx (fun j hj => by
        unfold depsL at hj
        rw [nth_mem_range (by omega)] at hj
        obtain ⟨e, he, rfl⟩ := List.mem_map.1 hj
        rw [List.mem_filter] at he
        have he1 : e ∈ (nth l0 i).after := by simpa using he.1
        have hlt := h3 e he1 he.2
        exact hF _ (by omega) (hia e he1 he.2))
      unfold RS at hst
      unfold xOp
      rw [nth_mem_range (by omega)]
      have hwn : Region.wanted (nth l0 i) (yielded l0.toArray (fr (FF l ds f)).tmps) = true := by simp [Region.wanted, h2]
      simp only [hwn, if_true]
      rw [if_pos (by simp [Region.wanted, h2])] at hst
      unfold Oper.wp at hst ⊢
      refine upon_mono ?_ (fun _ _ _ h => h) hst
      rintro a' w'' ⟨l'', rfl, v, rfl, hx2, hv⟩
      refine ⟨fun _ => hx2, ?_⟩
      rw [FF_set _ _ _ _ _ (dmem i him)]
      refine ih _ _ w'' ?_ (by simp [hsz]) ?_ (hcl.set hi) (hx.tr hx2) ?_
      · have := countP_set m listed i him (by omega) hif
        omega
      · intro j hj
        rw [getD_set_ne false (by omega)]
        exact hhi j hj
      · intro j hj hl
        by_cases hji : j = i
        · subst hji; simpa using hv
        · have hne : ¬ ds.getD j 0 = ds.getD i 0 := fun e => hji (dinj j i hj him e)
          rw [if_neg hne]
          rw [getD_set_ne false (Ne.symm hji)] at hl
          exact hΦ _ _ _ _ (hF j hj hl) hx2

/-- What each of the first operations is to show. -/
def stepsM (P : Program) (l0 : List Oper) (ds : List Nat) (l : List Value) (w0 : World) (Φ : Nat → Value → World → Prop) : List Nat → Prop
  | [] => True
  | i :: r => (∀ (f : Nat → Value) w', Ext w0 w' → (∀ j ∈ depsL l0.toArray i, Φ j (f (ds.getD j 0)) w') → RS P l0.toArray (fun l'' w'' => ∃ v, l'' = (FF l ds f).set (ds.getD i 0) v ∧ Ext w' w'' ∧ Φ i v w'') [nth l0 i] (FF l ds f) w') ∧ stepsM P l0 ds l w0 Φ r
theorem stepsM_mem {l0 : List Oper} {ds : List Nat} {l : List Value} {w0 : World} {Φ : Nat → Value → World → Prop} : ∀ {is : List Nat}, stepsM P l0 ds l w0 Φ is → ∀ i ∈ is, (∀ (f : Nat → Value) w', Ext w0 w' → (∀ j ∈ depsL l0.toArray i, Φ j (f (ds.getD j 0)) w') → RS P l0.toArray (fun l'' w'' => ∃ v, l'' = (FF l ds f).set (ds.getD i 0) v ∧ Ext w' w'' ∧ Φ i v w'') [nth l0 i] (FF l ds f) w')
  | [], _, i, hi => by cases hi
  | j :: r, h, i, hi => by
    rcases List.mem_cons.1 hi with rfl | hi
    · exact h.1
    · exact stepsM_mem h.2 i hi
def allM (Φ : Nat → Value → World → Prop) (ds : List Nat) (f : Nat → Value) (w : World) : List Nat → Prop
  | [] => True
  | i :: r => Φ i (f (ds.getD i 0)) w ∧ allM Φ ds f w r
theorem allM_of {Φ : Nat → Value → World → Prop} {ds : List Nat} {f : Nat → Value} {w : World} : ∀ {is : List Nat}, (∀ i ∈ is, Φ i (f (ds.getD i 0)) w) → allM Φ ds f w is
  | [], _ => trivial
  | i :: r, h => ⟨h i (by simp), allM_of fun j hj => h j (by simp [hj])⟩

theorem regionM {id : Nat} {l0 : List Oper} {Q : Exit → Act → World → Prop} {l : List Value} {w : World} (m : Nat) (ds : List Nat) (Φ : Nat → Value → World → Prop) (plan : List (Nat × Kd)) {pl : List (Oper × Kd)} (hm : P.follows .mixedOrders = true)
    (hB : (Region.noSelect l0.toArray && phaseB l0 m ds && (decide ds.Nodup && Nat.beq (m + plan.length) l0.length && planB l0.toArray plan (LS m l0.length))) = true)
    (hΦ : ∀ i v w w', Φ i v w → Ext w w' → Φ i v w')
    (hs : ∀ w', Ext w w' → stepsM P l0 ds l w' Φ (List.range m))
    (h : ∀ f w', Ext w w' → allM Φ ds f w' (List.range m) → RX P l0.toArray Ext (fun l w => Q .normal (fr l) w) pl (FF l ds f) w') (hp : pick l0 plan = pl := by dsimp only [pick, nth]) : (Code.region id l0.toArray true).wp P Q (fr l) w := by
  subst hp
  simp only [Bool.and_eq_true, decide_eq_true_eq] at hB
  obtain ⟨⟨hsel, hph⟩, ⟨hnd, hl⟩, hpl⟩ := hB
  have hl := Nat.eq_of_beq_eq_true hl
  refine wp_region_any hm ?_
  have hx0 : Ext w { w with drawn := w.drawn + 1 } := (Below.refl _ _).drew
  have key := phase (P := P) (bg := bigs plan) (Q := fun a w => ∃ l, a = fr l ∧ Q .normal (fr l) w) (k := plan.length) (w0 := { w with drawn := w.drawn + 1 }) hph hΦ
    (fun i hi => stepsM_mem (hs _ hx0) i (by simpa using hi)) hnd
    (fun f w' hx hF => rx_list (R := Ext) (K := fun l w => Q .normal (fr l) w) Ext.refl (fun h k => h.tr k) hsel (fun j hj => bigB_spec (planB_big plan _ hpl j hj)) plan (LS m l0.length) _ w' (by
      -- the first ones are closed
      have hph2 := hph
      simp only [phaseB, Bool.and_eq_true] at hph2
      obtain ⟨⟨⟨hmn, hB1⟩, _⟩, _⟩ := hph2
      have hmn := Nat.le_of_ble_eq_true hmn
      have hg : ∀ i, (LS m l0.length).getD i false = decide (i < m) := by
        intro i
        by_cases him : i < m
        · have : i < l0.length := by omega
          simp [LS, him]
          rw [List.getElem?_append_left (by simpa using him)]
          simp [him]
        · simp only [him, decide_false]
          simp only [LS, Array.getD_eq_getD_getElem?]
          simp [List.getElem?_append, him, List.getElem?_replicate]
          split <;> simp
      intro q oq hq hlq e he hb
      rw [hg] at hlq ⊢
      have hqm : q < m := by simpa using hlq
      rw [nth_mem_range (by omega)] at hq
      obtain rfl := Option.some.inj hq
      have := List.all_eq_true.1 hB1 q (by simpa using hqm)
      simp only [Bool.and_eq_true, Array.all_eq_true_iff_forall_mem, Bool.or_eq_true, Bool.not_eq_true'] at this
      rcases this.2 e he with h5 | h5
      · rw [hb] at h5; cases h5
      · rw [Nat.blt_eq] at h5
        simp; omega) (fun i hi => (mem_bigs plan i).1 hi) hpl (h f w' (hx0.tr hx) (allM_of fun i hi => hF i (by simpa using hi))))
    (cntU m (Array.replicate l0.length false)) (Array.replicate l0.length false) (fun s => l.getD s undef) { w with drawn := w.drawn + 1 } rfl (by simp)
    (by intro i _; simp [Array.getElem?_replicate]; split <;> simp) (by intro k ok _ h; exfalso; simp [Array.getElem?_replicate] at h; split at h <;> simp at h) (Ext.refl _) (by intro i _ h; exfalso; simp [Array.getElem?_replicate] at h; split at h <;> simp at h)
  rw [FF_id] at key
  have hcnt : cntU m (Array.replicate l0.length false) = m := by
    unfold cntU
    rw [List.countP_eq_length.2 (fun i _ => by simp [Array.getElem?_replicate]; split <;> simp), List.length_range]
  rw [hcnt, hl] at key
  have h2 := wpAny_of_X (Q' := Q) (R := Ext) (fun a w h => by obtain ⟨l, rfl, h⟩ := h; exact h) l0.length (Array.replicate l0.length false) (fr l) _ key
  simpa using h2
end
end Go.Proofs.YtiohpiiiapjblaaDoor.G
