/-
  G6: rows of integers, each within its kind; an element's place, read.
-/
import Derived.Test.YtiohpiiiapjblaaDoorG5
namespace Go.Proofs.YtiohpiiiapjblaaDoor.G
open Go.RowKit

def ints (k : IntKind) (xs : List Int) : List Value := xs.map (.int k)
theorem ints_length (k : IntKind) (xs : List Int) : (ints k xs).length = xs.length := by simp [ints]
theorem ints_getD (k : IntKind) (xs : List Int) (i : Nat) (h : i < xs.length) : (ints k xs).getD i undef = .int k (xs.getD i 0) := by
  simp [ints, List.getD_eq_getElem?_getD, List.getElem?_eq_getElem h]
theorem ints_one (k : IntKind) (xs : List Int) : ∀ u ∈ ints k xs, u.oneCell' = true := by
  intro u hu
  obtain ⟨x, _, rfl⟩ := List.mem_map.1 hu
  rfl
theorem ints_append (k : IntKind) (xs ys : List Int) : ints k (xs ++ ys) = ints k xs ++ ints k ys := by simp [ints]
theorem ints_drop (k : IntKind) (xs : List Int) (n : Nat) : (ints k xs).drop n = ints k (xs.drop n) := by simp [ints, List.map_drop]
theorem ints_take (k : IntKind) (xs : List Int) (n : Nat) : (ints k xs).take n = ints k (xs.take n) := by simp [ints, List.map_take]
theorem ints_set (k : IntKind) (xs : List Int) (n : Nat) (v : Int) : (ints k xs).set n (.int k v) = ints k (xs.set n v) := by simp [ints, List.map_set]

/-- The bound of an unsigned kind. -/
def lim : IntKind → Int
  | .u8 => 256 | .u16 => 65536 | .u32 => 4294967296 | .u64 => 18446744073709551616 | .i64 => 9223372036854775808 | _ => 128
def Bd (k : IntKind) (xs : List Int) : Prop := ∀ x ∈ xs, 0 ≤ x ∧ x < lim k
theorem Bd.get {k : IntKind} {xs : List Int} (h : Bd k xs) (i : Nat) : 0 ≤ xs.getD i 0 ∧ xs.getD i 0 < lim k := by
  by_cases hi : i < xs.length
  · rw [List.getD_eq_getElem?_getD, List.getElem?_eq_getElem hi]
    exact h _ (List.getElem_mem hi)
  · rw [List.getD_eq_getElem?_getD, List.getElem?_eq_none (by omega)]
    refine ⟨Int.le_refl _, ?_⟩
    cases k <;> decide
theorem Bd.nil (k : IntKind) : Bd k [] := by intro x hx; cases hx
theorem Bd.append {k : IntKind} {xs ys : List Int} (h : Bd k xs) (h' : Bd k ys) : Bd k (xs ++ ys) := by
  intro x hx
  rcases List.mem_append.1 hx with hx | hx
  · exact h x hx
  · exact h' x hx
theorem Bd.cons {k : IntKind} {x : Int} {xs : List Int} (h : 0 ≤ x ∧ x < lim k) (h' : Bd k xs) : Bd k (x :: xs) := by
  intro y hy
  rcases List.mem_cons.1 hy with rfl | hy
  · exact h
  · exact h' y hy
theorem Bd.drop {k : IntKind} {xs : List Int} (h : Bd k xs) (n : Nat) : Bd k (xs.drop n) := fun x hx => h x (List.mem_of_mem_drop hx)
theorem Bd.take {k : IntKind} {xs : List Int} (h : Bd k xs) (n : Nat) : Bd k (xs.take n) := fun x hx => h x (List.mem_of_mem_take hx)
theorem Bd.set {k : IntKind} {xs : List Int} (h : Bd k xs) (n : Nat) {v : Int} (hv : 0 ≤ v ∧ v < lim k) : Bd k (xs.set n v) := by
  intro x hx
  rcases List.mem_or_eq_of_mem_set hx with hx | rfl
  · exact h x hx
  · exact hv

/-- A slice of integers that is read. -/
structure IRow (k : IntKind) (S : Nat → Prop) (w : World) (a : Option Addr) (n : Nat) (xs : List Int) : Prop where
  row : Row S w a (ints k xs)
  len : xs.length = n
  bd : Bd k xs
theorem IRow.ext {k : IntKind} {S : Nat → Prop} {w w' : World} {a : Option Addr} {n : Nat} {xs : List Int} (h : IRow k S w a n xs) (x : Ext w w') : IRow k S w' a n xs := ⟨h.row.ext x, h.len, h.bd⟩
theorem IRow.st {k : IntKind} {S : Nat → Prop} {w w' : World} {m : Nat} {a : Option Addr} {n : Nat} {xs : List Int} (h : IRow k S w a n xs) (x : St m w w') (hn : S m → False) : IRow k S w' a n xs := ⟨h.row.st x hn, h.len, h.bd⟩
theorem IRow.pr {k : IntKind} {S T : Nat → Prop} {w w' : World} {a : Option Addr} {n : Nat} {xs : List Int} (h : IRow k S w a n xs) (x : Pr T w w') (hn : ∀ b, S b → T b → False) : IRow k S w' a n xs := ⟨h.row.pr x hn, h.len, h.bd⟩
theorem IRow.bel {k : IntKind} {S : Nat → Prop} {w w' : World} {N : Nat} {a : Option Addr} {n : Nat} {xs : List Int} (h : IRow k S w a n xs) (x : Below N w w') (hn : ∀ b, S b → b < N) : IRow k S w' a n xs := ⟨h.row.bel x hn, h.len, h.bd⟩
theorem IRow.weaken {k : IntKind} {S T : Nat → Prop} {w : World} {a : Option Addr} {n : Nat} {xs : List Int} (h : IRow k S w a n xs) (x : ∀ b, b < w.heap.size → S b → T b) : IRow k T w a n xs := ⟨h.row.weaken x, h.len, h.bd⟩
theorem IRow.of_blk {k : IntKind} {S : Nat → Prop} {w : World} {b n : Nat} {cs : List Value} {T : TypeId} {xs : List Int} (h : Blk w b cs T) (hs : S b) (hc : cs = ints k xs) (hn : xs.length = n) (hb : Bd k xs) : IRow k S w (some ⟨b, 0, none⟩) n xs := by
  subst hc
  exact ⟨Row.of_blk (n := (ints k xs).length) h hs (by simp), hn, hb⟩
theorem IRow.nil {k : IntKind} {S : Nat → Prop} {w : World} {a : Option Addr} : IRow k S w a 0 [] := ⟨Row.nil, rfl, Bd.nil k⟩
theorem IRow.sub {k : IntKind} {S : Nat → Prop} {w : World} {a : Option Addr} {n : Nat} {xs : List Int} (h : IRow k S w a n xs) (lo hi m : Nat) (hh : hi ≤ n) (hl : lo ≤ hi) (hm : hi ≤ m) :
    IRow k S w (subA a lo 1 m) (hi - lo) ((xs.drop lo).take (hi - lo)) := by
  refine ⟨?_, by simp [h.len]; omega, (h.bd.drop _).take _⟩
  have := h.row.sub lo hi 1 m (by simp [ints_length, h.len]; omega) hl hm
  simpa [ints_drop, ints_take] using this
theorem IRow.at_ {k : IntKind} {S : Nat → Prop} {w : World} {a : Option Addr} {n : Nat} {xs : List Int} (h : IRow k S w a n xs) {i : Int} (hi : 0 ≤ i ∧ i < n) :
    ∃ b o, a = some ⟨b, o, none⟩ ∧ S b ∧ w.cell? ⟨b, o + i.toNat * 1, none⟩ = some (.int k (xs.getD i.toNat 0)) := by
  obtain ⟨b, o, ha, hs, hc⟩ := h.row.at_ i.toNat (by rw [ints_length, h.len]; omega)
  refine ⟨b, o, ha, hs, ?_⟩
  rw [Nat.mul_one, hc, ints_getD _ _ _ (by rw [h.len]; omega)]

/-- A slice of integers that is owned. -/
structure IOwn (lo : Nat) (w : World) (e : TypeId) (k : IntKind) (a : Option Addr) (n c : Nat) (xs : List Int) : Prop where
  own : Own lo w e 1 a n c (ints k xs)
  bd : Bd k xs
theorem IOwn.len {lo : Nat} {w : World} {e : TypeId} {k : IntKind} {a : Option Addr} {n c : Nat} {xs : List Int} (h : IOwn lo w e k a n c xs) : xs.length = n := by
  have := h.own.len
  simpa [ints_length] using this
theorem IOwn.ext {lo : Nat} {w w' : World} {e : TypeId} {k : IntKind} {a : Option Addr} {n c : Nat} {xs : List Int} (h : IOwn lo w e k a n c xs) (x : Ext w w') : IOwn lo w' e k a n c xs := ⟨h.own.ext x, h.bd⟩
theorem IOwn.st {lo m : Nat} {w w' : World} {e : TypeId} {k : IntKind} {a : Option Addr} {n c : Nat} {xs : List Int} (h : IOwn lo w e k a n c xs) (x : St m w w') (hn : obk a = some m → False) : IOwn lo w' e k a n c xs := ⟨h.own.st x hn, h.bd⟩
theorem IOwn.pr {lo : Nat} {T : Nat → Prop} {w w' : World} {e : TypeId} {k : IntKind} {a : Option Addr} {n c : Nat} {xs : List Int} (h : IOwn lo w e k a n c xs) (x : Pr T w w') (hn : ∀ b, obk a = some b → T b → False) : IOwn lo w' e k a n c xs := ⟨h.own.pr x hn, h.bd⟩
theorem IOwn.base {lo lo' : Nat} {w : World} {e : TypeId} {k : IntKind} {a : Option Addr} {n c : Nat} {xs : List Int} (h : IOwn lo w e k a n c xs) (hl : ∀ b, obk a = some b → lo' ≤ b) : IOwn lo' w e k a n c xs := ⟨h.own.base hl, h.bd⟩
theorem IOwn.row {lo : Nat} {w : World} {e : TypeId} {k : IntKind} {a : Option Addr} {n c : Nat} {xs : List Int} (h : IOwn lo w e k a n c xs) : IRow k (fun b => lo ≤ b) w a n xs := ⟨h.own.rowS, h.len, h.bd⟩
theorem IOwn.rowO {lo : Nat} {w : World} {e : TypeId} {k : IntKind} {a : Option Addr} {n c : Nat} {xs : List Int} (h : IOwn lo w e k a n c xs) : IRow k (fun b => obk a = some b) w a n xs := ⟨h.own.row, h.len, h.bd⟩
theorem IOwn.nil (lo : Nat) (w : World) (e : TypeId) (k : IntKind) : IOwn lo w e k none 0 0 [] := ⟨Own.nil lo w e 1, Bd.nil k⟩
theorem IOwn.lo {lo : Nat} {w : World} {e : TypeId} {k : IntKind} {a : Option Addr} {n c : Nat} {xs : List Int} (h : IOwn lo w e k a n c xs) : ∀ b, obk a = some b → lo ≤ b ∧ b < w.heap.size := h.own.lo
theorem IOwn.of_blk {lo : Nat} {w : World} {e : TypeId} {k : IntKind} {b n : Nat} {cs : List Value} {xs : List Int} (h : Blk w b cs e) (hc : cs = ints k xs) (hn : xs.length = n) (hb : lo ≤ b) (hd : Bd k xs) (hm : n ≤ 9223372036854775807) : IOwn lo w e k (some ⟨b, 0, none⟩) n n xs := by
  subst hc
  exact ⟨Own.of_blk h (by rw [ints_length, hn, Nat.mul_one]) hb (by simp only [maxLen]; omega), hd⟩

/-- A slice of integers that was returned: it is new. -/
def IFresh (lo : Nat) (w : World) (e : TypeId) (k : IntKind) (v : Value) (xs : List Int) : Prop := ∃ a n c, v = .slice a n c ∧ IOwn lo w e k a n c xs

section
variable {P : Program} {ops : Array Oper} {K : List Value → World → Prop} {rest : List Oper} {l : List Value} {w w0 : World} {d : Tmp} {ty : TypeId} {pos : String} {af : Array Edge}

/-- The place of an element of a slice of integers, and what lies there. -/
theorem RS.idx {x y : Operand} {xt e : TypeId} {k ki : IntKind} {S : Nat → Prop} {a : Option Addr} {n c : Nat} {xs : List Int} {i : Int} (hR : IRow k S w a n xs) (hx : ev l x = .slice a n c) (hy : ev l y = .int ki i) (hu : P.underlying xt = some (.slice e)) (hs : P.cellsOf e = 1)
    (hi : 0 ≤ i ∧ i < n) (h : ∀ b o v, w.cell? ⟨b, o, none⟩ = some (.int k v) → v = xs.getD i.toNat 0 → 0 ≤ v ∧ v < lim k → RS P ops K rest (l.set d (.pointer (some ⟨b, o, none⟩))) w) :
    RS P ops K (⟨some d, .indexAddr xt x y, ty, pos, af, none⟩ :: rest) l w := by
  obtain ⟨b, o, ha, _, hc⟩ := hR.at_ hi
  exact RS.o (D.indexAddr hx hy hu hs (by decide) ha hi) (h _ _ _ hc rfl (hR.bd.get _)) rfl
theorem RQ.idx {x y : Operand} {xt e : TypeId} {k ki : IntKind} {S : Nat → Prop} {a : Option Addr} {n c : Nat} {xs : List Int} {i : Int} (hR : IRow k S w0 a n xs) (hx : ev l x = .slice a n c) (hy : ev l y = .int ki i) (hu : P.underlying xt = some (.slice e)) (hs : P.cellsOf e = 1)
    (hi : 0 ≤ i ∧ i < n) (h : ∀ b o v, (∀ w', Ext w0 w' → w'.cell? ⟨b, o, none⟩ = some (.int k v)) → v = xs.getD i.toNat 0 → 0 ≤ v ∧ v < lim k → RQ P ops w0 K rest (l.set d (.pointer (some ⟨b, o, none⟩)))) :
    RQ P ops w0 K (⟨some d, .indexAddr xt x y, ty, pos, af, none⟩ :: rest) l := by
  obtain ⟨b, o, ha, _, hc⟩ := hR.at_ hi
  refine RQ.o (fun _ _ => D.indexAddr hx hy hu hs (by decide) ha hi) (h _ _ _ (fun w' hw => ?_) rfl (hR.bd.get _)) rfl
  rw [hw.cell (p := ⟨b, _, none⟩) (World.block_lt_of_cell? w0 _ hc)]
  exact hc

/-- append(s, xs...) of integers. -/
theorem RS.appendI {x y : Operand} {t e : TypeId} {k : IntKind} {lo by_ : Nat} {z : List Value} {a a2 : Option Addr} {n c m c2 : Nat} {xs ys : List Int} {S : Nat → Prop}
    (hO : IOwn lo w e k a n c xs) (hR : IRow k S w a2 m ys) (hx : ev l x = .slice a n c) (hy : ev l y = .slice a2 m c2) (hu : P.underlying t = some (.slice e)) (ht : TI P e 1 by_ z) (hz : z.length = 1)
    (hlo : lo ≤ w.heap.size) (hby : by_ ≤ 8) (hb : n + m ≤ 17592186044416)
    (h : ∀ a' c' w', IOwn lo w' e k a' (n + m) c' (xs ++ ys) → Pr (fun b => obk a = some b) w w' → RS P ops K rest (l.set d (.slice a' (n + m) c')) w') :
    RS P ops K (⟨some d, .call { callee := .builtin .append, args := #[x, y], argTypes := #[t, t] }, ty, pos, af, none⟩ :: rest) l w := by
  have h8 : (n + m) * by_ ≤ (n + m) * 8 := Nat.mul_le_mul_left _ hby
  refine RS.append hx hy hu ht hz (by decide) hO.own hR.row (by rw [ints_length, hR.len, Nat.mul_one]) (ints_one _ _) hlo (by omega) (by omega) ?_
  intro a' c' w' ho hp
  exact h a' c' w' ⟨by rw [ints_append]; exact ho, hO.bd.append hR.bd⟩ hp
end
end Go.Proofs.YtiohpiiiapjblaaDoor.G
