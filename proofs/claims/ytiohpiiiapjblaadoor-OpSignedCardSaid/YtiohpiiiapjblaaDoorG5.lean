/-
  G5: rows of cells that are read ('Row'), rows that the call owns ('Own'); append, make, stores into them, slices of them.
-/
import Derived.Test.YtiohpiiiapjblaaDoorG4
import Derived.Laws.OwnMore
import Derived.Laws.MakeOwn
namespace Go.Proofs.YtiohpiiiapjblaaDoor.G
open Go.RowKit

/-- Cells that lie behind an address, in a block of a set. -/
def Row (S : Nat → Prop) (w : World) (a : Option Addr) (cs : List Value) : Prop := cs = [] ∨ ∃ b o, a = some ⟨b, o, none⟩ ∧ S b ∧ Cells w b o cs

theorem Cells.lt {w : World} {b o : Nat} {cs : List Value} (h : Cells w b o cs) (hn : 0 < cs.length) : b < w.heap.size :=
  World.block_lt_of_cell? w _ (h 0 hn)
theorem Cells.of_block {w w' : World} {b o : Nat} {cs : List Value} (h : Cells w b o cs) (k : w'.heap[b]? = w.heap[b]?) : Cells w' b o cs := by
  intro j hj
  rw [← h j hj]
  exact World.cell?_of_block (w := w) (a := ⟨b, o + j, none⟩) k

theorem Row.nil {S : Nat → Prop} {w : World} {a : Option Addr} : Row S w a [] := .inl rfl
theorem Row.step {S : Nat → Prop} {w w' : World} {a : Option Addr} {cs : List Value} (h : Row S w a cs) (k : ∀ b, S b → b < w.heap.size → w'.heap[b]? = w.heap[b]?) : Row S w' a cs := by
  rcases h with h | ⟨b, o, ha, hs, hc⟩
  · exact .inl h
  · by_cases hn : cs.length = 0
    · exact .inl (List.length_eq_zero_iff.1 hn)
    · exact .inr ⟨b, o, ha, hs, hc.of_block (k b hs (hc.lt (by omega)))⟩
theorem Row.ext {S : Nat → Prop} {w w' : World} {a : Option Addr} {cs : List Value} (h : Row S w a cs) (k : Ext w w') : Row S w' a cs := h.step fun b _ hb => k.block b hb
theorem Row.st {S : Nat → Prop} {w w' : World} {n : Nat} {a : Option Addr} {cs : List Value} (h : Row S w a cs) (k : St n w w') (hn : S n → False) : Row S w' a cs :=
  h.step fun b hs _ => k.block b (fun e => hn (e ▸ hs))
theorem Row.pr {S T : Nat → Prop} {w w' : World} {a : Option Addr} {cs : List Value} (h : Row S w a cs) (k : Pr T w w') (hn : ∀ b, S b → T b → False) : Row S w' a cs :=
  h.step fun b hs hb => k.block b hb (hn b hs)
theorem Row.bel {S : Nat → Prop} {N : Nat} {w w' : World} {a : Option Addr} {cs : List Value} (h : Row S w a cs) (k : Below N w w') (hn : ∀ b, S b → b < N) : Row S w' a cs :=
  h.step fun b hs _ => k.block b (hn b hs)
theorem Row.weaken {S T : Nat → Prop} {w : World} {a : Option Addr} {cs : List Value} (h : Row S w a cs) (k : ∀ b, b < w.heap.size → S b → T b) : Row T w a cs := by
  rcases h with h | ⟨b, o, ha, hs, hc⟩
  · exact .inl h
  · by_cases hn : cs.length = 0
    · exact .inl (List.length_eq_zero_iff.1 hn)
    · exact .inr ⟨b, o, ha, k b (hc.lt (by omega)) hs, hc⟩
theorem Row.at_ {S : Nat → Prop} {w : World} {a : Option Addr} {cs : List Value} (h : Row S w a cs) (i : Nat) (hi : i < cs.length) : ∃ b o, a = some ⟨b, o, none⟩ ∧ S b ∧ w.cell? ⟨b, o + i, none⟩ = some (cs.getD i undef) := by
  rcases h with h | ⟨b, o, ha, hs, hc⟩
  · subst h; simp at hi
  · exact ⟨b, o, ha, hs, hc i hi⟩
/-- Some cells in a row. -/
theorem Row.part {S : Nat → Prop} {w : World} {a : Option Addr} {cs : List Value} (h : Row S w a cs) (i n : Nat) (hi : i + n ≤ cs.length) (hn : 0 < n) : ∃ b o, a = some ⟨b, o, none⟩ ∧ S b ∧ Cells w b (o + i) ((cs.drop i).take n) := by
  rcases h with h | ⟨b, o, ha, hs, hc⟩
  · subst h; simp at hi; omega
  · refine ⟨b, o, ha, hs, fun j hj => ?_⟩
    have hj' : j < n := by simp at hj; omega
    rw [Nat.add_assoc, hc (i + j) (by omega)]
    rw [List.getD_eq_getElem?_getD, List.getD_eq_getElem?_getD, List.getElem?_take, if_pos hj', List.getElem?_drop]
theorem Row.of_blk {S : Nat → Prop} {w : World} {b n : Nat} {cs vs : List Value} {T : TypeId} (h : Blk w b cs T) (hs : S b) (hv : cs.take n = vs) : Row S w (some ⟨b, 0, none⟩) vs :=
  .inr ⟨b, 0, rfl, hs, h.cellsN n (by simpa using hv)⟩

/-- The address of a slice's slice. -/
def subA (a : Option Addr) (lo sz m : Nat) : Option Addr := if m = lo then a else a.map (·.add (lo * sz))
theorem Row.sub {S : Nat → Prop} {w : World} {a : Option Addr} {cs : List Value} (h : Row S w a cs) (lo hi sz m : Nat) (hh : hi * sz ≤ cs.length) (_hl : lo ≤ hi) (hm : hi ≤ m) :
    Row S w (subA a lo sz m) ((cs.drop (lo * sz)).take ((hi - lo) * sz)) := by
  by_cases he : (hi - lo) * sz = 0
  · rw [he, List.take_zero]; exact .inl rfl
  · have hne : lo < hi := by
      rcases Nat.lt_or_ge lo hi with h | h
      · exact h
      · rw [Nat.sub_eq_zero_of_le h, Nat.zero_mul] at he; exact absurd rfl he
    have h2 : lo * sz + (hi - lo) * sz = hi * sz := by rw [← Nat.add_mul]; congr 1; omega
    obtain ⟨b, o, ha, hs, hc⟩ := h.part (lo * sz) ((hi - lo) * sz) (by omega) (by omega)
    refine .inr ⟨b, o + lo * sz, ?_, hs, hc⟩
    unfold subA
    rw [if_neg (by omega), ha]
    simp [add_mk]

/-! ### owned rows -/
abbrev Own (lo : Nat) (w : World) (e : TypeId) (sz : Nat) (a : Option Addr) (n c : Nat) (cs : List Value) : Prop := w.ownsRow lo e sz (.slice a n c) n cs
def obk (a : Option Addr) : Option Nat := a.map (·.block)
theorem ownBlock_slice (a : Option Addr) (n c : Nat) : (Value.slice a n c).ownBlock = obk a := by cases a <;> rfl

theorem Own.form {lo : Nat} {w : World} {e : TypeId} {sz : Nat} {v : Value} {n : Nat} {cs : List Value} (h : w.ownsRow lo e sz v n cs) : ∃ a c, v = .slice a n c := by
  rcases h.2 with ⟨rfl, rfl⟩ | ⟨g, cap, cur, rfl, _⟩
  · exact ⟨none, 0, rfl⟩
  · exact ⟨_, _, rfl⟩
theorem Own.len {lo : Nat} {w : World} {e : TypeId} {sz : Nat} {a : Option Addr} {n c : Nat} {cs : List Value} (h : Own lo w e sz a n c cs) : cs.length = n * sz := h.1
theorem Own.lo {lo : Nat} {w : World} {e : TypeId} {sz : Nat} {a : Option Addr} {n c : Nat} {cs : List Value} (h : Own lo w e sz a n c cs) : ∀ k, obk a = some k → lo ≤ k ∧ k < w.heap.size := by
  intro k hk
  exact World.ownsRow.lt h k (by rw [ownBlock_slice]; exact hk)
theorem Own.base {lo lo' : Nat} {w : World} {e : TypeId} {sz : Nat} {a : Option Addr} {n c : Nat} {cs : List Value} (h : Own lo w e sz a n c cs) (hl : ∀ k, obk a = some k → lo' ≤ k) : Own lo' w e sz a n c cs := by
  refine ⟨h.1, ?_⟩
  rcases h.2 with hn | ⟨g, cap, cur, hv, _, r⟩
  · exact .inl hn
  · refine .inr ⟨g, cap, cur, hv, ?_, r⟩
    have : a = some ⟨g, 0, none⟩ := by simp at hv; exact hv.1
    exact hl g (by rw [this]; rfl)
theorem Own.cap {lo : Nat} {w : World} {e : TypeId} {sz : Nat} {a : Option Addr} {n c : Nat} {cs : List Value} (h : Own lo w e sz a n c cs) : n ≤ c ∧ c ≤ maxLen := by
  rcases h.2 with ⟨hv, hn⟩ | ⟨g, cap, cur, hv, _, _, h1, h2, _⟩
  · simp at hv; omega
  · simp at hv; omega
theorem Own.row {lo : Nat} {w : World} {e : TypeId} {sz : Nat} {a : Option Addr} {n c : Nat} {cs : List Value} (h : Own lo w e sz a n c cs) : Row (fun k => obk a = some k) w a cs := by
  rcases h.2 with ⟨hv, hn⟩ | ⟨g, cap, cur, hv, _, hg, h1, h2, hcs, ht⟩
  · left
    have := h.1
    rw [hn] at this
    simpa using this
  · have ha : a = some ⟨g, 0, none⟩ := by simp at hv; exact hv.1
    refine .inr ⟨g, 0, ha, by rw [ha]; rfl, ?_⟩
    intro j hj
    have hl := h.1
    simp only [World.cell?, Nat.zero_add]
    rw [hg]
    rw [← ht, List.getD_eq_getElem?_getD, List.getElem?_take, if_pos (by omega)]
    have : j < cur.size := by rw [hcs]; exact Nat.lt_of_lt_of_le (by omega) (Nat.mul_le_mul_right sz h1)
    simp [this]
theorem Own.rowS {lo : Nat} {w : World} {e : TypeId} {sz : Nat} {a : Option Addr} {n c : Nat} {cs : List Value} (h : Own lo w e sz a n c cs) : Row (fun k => lo ≤ k) w a cs :=
  h.row.weaken fun b _ hb => (h.lo b hb).1
theorem Own.step {lo : Nat} {w w' : World} {e : TypeId} {sz : Nat} {a : Option Addr} {n c : Nat} {cs : List Value} (h : Own lo w e sz a n c cs) (k : ∀ b, obk a = some b → b < w.heap.size → w'.heap[b]? = w.heap[b]?) : Own lo w' e sz a n c cs := by
  refine ⟨h.1, ?_⟩
  rcases h.2 with hn | ⟨g, cap, cur, hv, hb, hg, r⟩
  · exact .inl hn
  · have ha : a = some ⟨g, 0, none⟩ := by simp at hv; exact hv.1
    refine .inr ⟨g, cap, cur, hv, hb, ?_, r⟩
    rw [k g (by rw [ha]; rfl) (Array.getElem?_eq_some_iff.1 hg).1]
    exact hg
theorem Own.ext {lo : Nat} {w w' : World} {e : TypeId} {sz : Nat} {a : Option Addr} {n c : Nat} {cs : List Value} (h : Own lo w e sz a n c cs) (k : Ext w w') : Own lo w' e sz a n c cs := h.step fun b _ hb => k.block b hb
theorem Own.st {lo : Nat} {w w' : World} {m : Nat} {e : TypeId} {sz : Nat} {a : Option Addr} {n c : Nat} {cs : List Value} (h : Own lo w e sz a n c cs) (k : St m w w') (hn : obk a = some m → False) : Own lo w' e sz a n c cs :=
  h.step fun b hs _ => k.block b (fun e => hn (e ▸ hs))
theorem Own.pr {lo : Nat} {T : Nat → Prop} {w w' : World} {e : TypeId} {sz : Nat} {a : Option Addr} {n c : Nat} {cs : List Value} (h : Own lo w e sz a n c cs) (k : Pr T w w') (hn : ∀ b, obk a = some b → T b → False) : Own lo w' e sz a n c cs :=
  h.step fun b hs hb => k.block b hb (hn b hs)
theorem Own.nil (lo : Nat) (w : World) (e : TypeId) (sz : Nat) : Own lo w e sz none 0 0 [] := World.ownsRow_nil w lo e sz
theorem Own.of_blk {lo : Nat} {w : World} {e : TypeId} {sz b n : Nat} {cs : List Value} (h : Blk w b cs e) (hl : cs.length = n * sz) (hb : lo ≤ b) (hn : n ≤ maxLen) : Own lo w e sz (some ⟨b, 0, none⟩) n n cs := by
  refine ⟨hl, .inr ⟨b, n, cs.toArray, rfl, hb, h, Nat.le_refl _, hn, by simpa using hl, ?_⟩⟩
  rw [List.take_of_length_le (by simp; omega)]

theorem grown_pr {w w' : World} {r : Option Nat} (h : w.grownBy w' r) : Pr (fun k => r = some k) w w' :=
  ⟨h.os, h.tape, h.output, h.size, fun k hk hn => h.block k hk (fun e => hn e.symm)⟩

/-- What is new, or is owned: a slice that was returned. -/
def FreshV (lo : Nat) (w : World) (e : TypeId) (sz : Nat) (v : Value) (cs : List Value) : Prop := ∃ a n c, v = .slice a n c ∧ Own lo w e sz a n c cs
theorem FreshV.mk {lo : Nat} {w : World} {e : TypeId} {sz : Nat} {a : Option Addr} {n c : Nat} {cs : List Value} (h : Own lo w e sz a n c cs) : FreshV lo w e sz (.slice a n c) cs := ⟨a, n, c, rfl, h⟩

section
variable {P : Program} {ops : Array Oper} {K : List Value → World → Prop} {rest : List Oper} {l : List Value} {w : World} {d : Tmp} {ty : TypeId} {pos : String} {af : Array Edge}

theorem Row.news {S : Nat → Prop} {a : Option Addr} {cs : List Value} {ad : Addr} (h : Row S w a cs) (ha : a = some ad) : ∀ j u, cs[j]? = some u → w.cell? (ad.add j) = some u := by
  intro j u hu
  have hj : j < cs.length := (List.getElem?_eq_some_iff.1 hu).1
  obtain ⟨b, o, h1, _, h2⟩ := h.at_ j hj
  rw [ha] at h1
  obtain rfl := Option.some.inj h1
  rw [add_mk, h2, List.getD_eq_getElem?_getD, hu]
  rfl

theorem append_zero_run {t e : TypeId} {a a2 : Option Addr} {n c c2 : Nat} {sz : Nat} (hu : P.underlying t = some (.slice e)) (hs : P.cellsOf e = sz) (hz : sz ≠ 0) (hnc : n ≤ c) :
    (Builtin.append_ #[t, t] ty #[.slice a n c, .slice a2 0 c2]).run P w = .ok (.slice a n c) w := by
  have h1 := size_run (w := w) hs hz
  cases a2 <;> cases a <;> simp [Builtin.append_, run_underlying hu, h1, Builtin.lenOf, hnc, Builtin.firstCells, loadCells, loadCellsFrom, storeCells]

/-- append(s, xs...): s is owned. -/
theorem RS.append {x y : Operand} {t e : TypeId} {lo sz by_ : Nat} {z : List Value} {a a2 : Option Addr} {n c m c2 : Nat} {cs ds : List Value} {S : Nat → Prop}
    (hx : ev l x = .slice a n c) (hy : ev l y = .slice a2 m c2) (hu : P.underlying t = some (.slice e)) (ht : TI P e sz by_ z) (hz : z.length = sz) (hsz : 0 < sz)
    (hO : Own lo w e sz a n c cs) (hR : Row S w a2 ds) (hd : ds.length = m * sz) (h1 : ∀ u ∈ ds, u.oneCell' = true) (hlo : lo ≤ w.heap.size) (hb : (n + m) * by_ ≤ 140737488355328) (hb' : n + m ≤ 140737488355328)
    (k : ∀ a' c' w', Own lo w' e sz a' (n + m) c' (cs ++ ds) → Pr (fun k => obk a = some k) w w' → RS P ops K rest (l.set d (.slice a' (n + m) c')) w') :
    RS P ops K (⟨some d, .call { callee := .builtin .append, args := #[x, y], argTypes := #[t, t] }, ty, pos, af, none⟩ :: rest) l w := by
  have hrun : ∀ v w', (Builtin.append_ #[t, t] ty #[.slice a n c, .slice a2 m c2]).run P w = .ok v w' →
      (execOp (ev l) ⟨some d, .call { callee := .builtin .append, args := #[x, y], argTypes := #[t, t] }, ty, pos, af, none⟩).run P w = .ok (.value v) w' := by
    intro v w' h
    simp [execOp, resolve, hx, hy, invoke, builtin, h]
  obtain ⟨i, zv, i1, i2, i3, i4, i5⟩ := ht
  have hcs : P.cellsOf e = sz := by simp [Program.cellsOf, i1, i2]
  have hzs : zv.cells.size = sz := by rw [i5]; simpa using hz
  by_cases hm : m = 0
  · subst hm
    have hd0 : ds = [] := List.length_eq_zero_iff.1 (by omega)
    subst hd0
    have := append_zero_run (P := P) (w := w) (ty := ty) (a := a) (a2 := a2) (c2 := c2) hu hcs (by omega) hO.cap.1
    refine RS.o (hrun _ _ this) (k a c w ?_ (Pr.refl _ _)) rfl
    simpa using hO
  · have hlen : 0 < ds.length := by rw [hd]; exact Nat.mul_pos (by omega) hsz
    obtain ⟨b, o, ha, _, _⟩ := hR.at_ 0 hlen
    subst ha
    obtain ⟨v', w', hr, ho, hg, _⟩ := run_append_own (P := P) w lo t ty e i zv sz by_ hu i1 i4 i2 i3 hzs hsz (.slice a n c) n cs hO ⟨b, o, none⟩ m c2 ds hd (hR.news rfl) h1 (by simp only [maxLen]; omega) hb hlo
    obtain ⟨a', c', rfl⟩ := Own.form ho
    refine RS.o (hrun _ _ hr) (k a' c' w' ho ?_) rfl
    have := grown_pr hg
    rwa [ownBlock_slice] at this

/-- make([]T, n). -/
theorem RS.make {x y : Operand} {t e : TypeId} {sz by_ : Nat} {z : List Value} {kx ky : IntKind} {n : Int} (hx : ev l x = .int kx n) (hy : ev l y = .int ky n) (hu : P.underlying t = some (.slice e)) (ht : TI P e sz by_ z)
    (h0 : 0 ≤ n) (hb : (by_ : Int) * n ≤ 281474976710656) (h63 : n ≤ 9223372036854775807)
    (k : ∀ b w', w.heap.size = b → w'.heap.size = b + 1 → Ext w w' → Blk w' b (madeCells z.toArray (n.toNat * sz)).toList e → RS P ops K rest (l.set d (.slice (some ⟨b, 0, none⟩) n.toNat n.toNat)) w') :
    RS P ops K (⟨some d, .makeSlice t x y, ty, pos, af, none⟩ :: rest) l w := by
  obtain ⟨i, zv, i1, i2, i3, i4, i5⟩ := ht
  refine RS.new (f := fun b => .slice (some ⟨b, 0, none⟩) n.toNat n.toNat) ?_ k
  have := run_make (P := P) w t e i zv hu i1 i4 kx ky n n h0 (Int.le_refl _) (by rw [i3]; exact hb) h63
  simp only [execOp]; rw [hx, hy]
  simp [this, i2, i5]

theorem RS.storeOwn {x y : Operand} {xt : TypeId} {lo b o n c : Nat} {e : TypeId} {sz : Nat} {cs : List Value} {v : Value} (hx : ev l x = .pointer (some ⟨b, o, none⟩)) (hy : ev l y = v) (hs : P.cellsOf xt = 1) (hv : cellB v = true)
    (hO : Own lo w e sz (some ⟨b, 0, none⟩) n c cs) (ho : o < cs.length) (k : ∀ w', St b w w' → Own lo w' e sz (some ⟨b, 0, none⟩) n c (cs.set o v) → RS P ops K rest l w') :
    RS P ops K (⟨none, .store xt x y, ty, pos, af, none⟩ :: rest) l w := by
  obtain ⟨b', o', hb, _, hc⟩ := hO.row.at_ o ho
  obtain ⟨rfl, rfl⟩ : b = b' ∧ 0 = o' := by simpa using hb
  have hf := World.ownsRow.frozenAt hO o
  have hst := World.ownsRow.stored hO o v
  have hvc : v.cells = #[v] := by cases v <;> simp [cellB] at hv <;> rfl
  have h1 : (Go.store ⟨b, o, none⟩ v).run P w = .ok () (w.setCell ⟨b, o, none⟩ v) := by
    simp only [Nat.zero_add] at hc
    cases v <;> simp [cellB] at hv <;> simp only [Go.store, Sem.run, hc, hf] <;> rfl
  refine RS.u rfl rfl ?_ (k (w.setCell ⟨b, o, none⟩ v) ⟨rfl, rfl, rfl, by simp [World.setCell], fun i hi => ?_⟩ hst.1)
  · simp only [execOp]; rw [hx, hy]
    simp [Instr.storeAt, Instr.sureAddr, storeVar, size_run hs (by decide), hvc, storeCells, h1, Addr.add]
  · simp only [World.setCell, Array.getElem?_modify]
    rw [if_neg (by omega)]

variable {g : Option (Nat × Bool)} {dd : Option Tmp}
/-- xs[lo:hi] -/
theorem D.slice {x : Operand} {t e : TypeId} {sz : Nat} {a : Option Addr} {n c : Nat} {lo hi : Option Operand} {li hi' : Int} {kl kh : IntKind} (hx : ev l x = .slice a n c) (hu : P.underlying t = some (.slice e)) (hs : P.cellsOf e = sz) (hz : sz ≠ 0)
    (hl : (lo.map (ev l)).getD (.int kl 0) = .int kl li) (hh : (hi.map (ev l)).getD (.int kh n) = .int kh hi') (hb : 0 ≤ li ∧ li ≤ hi' ∧ hi' ≤ c) (_hn : n ≤ c) :
    (execOp (ev l) ⟨dd, .slice t x lo hi none, ty, pos, af, g⟩).run P w = .ok (.value (.slice (subA a li.toNat sz c) (hi'.toNat - li.toNat) (c - li.toNat))) w := by
  have h0 : 0 ≤ hi' := by omega
  have hsz := size_run (P := P) (w := w) hs hz
  simp only [execOp]; rw [hx]
  cases lo with
  | none =>
    simp at hl; subst hl
    cases hi with
    | none =>
      simp at hh; subst hh
      simp [Instr.sliceAt, Instr.slice, run_underlying hu, Instr.sliceBounds, hsz, subA]
    | some y =>
      simp at hh
      have hy : ev l y = .int kh hi' := hh
      simp [Instr.sliceAt, Instr.slice, run_underlying hu, Instr.sliceBounds, Instr.sliceBound, asIntOf, hy, h0, hb.2.2, hsz, subA]
  | some x' =>
    have hx' : ev l x' = .int kl li := by simpa using hl
    cases hi with
    | none =>
      have hh' : (n : Int) = hi' := by simpa using hh
      subst hh'
      have : li ≤ (n : Int) := hb.2.1
      simp [Instr.sliceAt, Instr.slice, run_underlying hu, Instr.sliceBounds, Instr.sliceBound, asIntOf, hx', hb.1, this, hsz, subA]
    | some y =>
      have hy : ev l y = .int kh hi' := by simpa using hh
      simp [Instr.sliceAt, Instr.slice, run_underlying hu, Instr.sliceBounds, Instr.sliceBound, asIntOf, hx', hy, h0, hb.1, hb.2.2, hsz, subA]
      intro hlt
      omega

end
end Go.Proofs.YtiohpiiiapjblaaDoor.G
