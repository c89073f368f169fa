/-
  G15: slices of elements that lie inside a row; bytes whose values do not matter; clear.
-/
import Derived.Test.YtiohpiiiapjblaaDoorG14
namespace Go.Proofs.YtiohpiiiapjblaaDoor.G
open Go.RowKit

theorem IRow.of_cells {k : IntKind} {S : Nat → Prop} {w : World} {b o n : Nat} {xs : List Int} (h : Cells w b o (ints k xs)) (hs : S b) (hA : Arr k n xs) : IRow k S w (some ⟨b, o, Option.none⟩) n xs :=
  ⟨.inr ⟨b, o, rfl, hs, h⟩, hA.1, hA.2⟩
theorem elt_cat (sz : Nat) (xs : List Int) (i : Nat) : xs.take (sz * (i + 1)) = xs.take (sz * i) ++ elt sz xs i := by
  unfold elt
  rw [Nat.mul_add, Nat.mul_one, List.take_add]
theorem WRow.rest {k : IntKind} {sz : Nat} {S : Nat → Prop} {w : World} {a : Option Addr} {n : Nat} {xs : List Int} (h : WRow k sz S w a n xs) (lo m : Nat) (hl : lo ≤ n) (hm : n ≤ m) : WRow k sz S w (subA a lo sz m) (n - lo) (xs.drop (sz * lo)) := by
  have hlen := h.len
  have := h.row.sub lo n sz m (by rw [ints_length, hlen, Nat.mul_comm]; exact Nat.le_refl _) hl hm
  refine ⟨?_, by rw [List.length_drop, hlen, Nat.mul_sub], h.bd.drop _⟩
  rw [ints_drop, ints_take, List.take_of_length_le (by rw [List.length_drop, hlen, Nat.sub_mul, Nat.mul_comm n, Nat.mul_comm lo]; exact Nat.le_refl _), Nat.mul_comm lo] at this
  exact this

/-- Bytes at the start of a block, whatever they are. -/
def UB (w : World) (b N : Nat) (T : TypeId) : Prop := ∃ (xs : List Int) (rest : List Value), Blk w b (ints .u8 xs ++ rest) T ∧ xs.length = N ∧ Bd .u8 xs
theorem UB.ext {w w' : World} {b N : Nat} {T : TypeId} (h : UB w b N T) (x : Ext w w') : UB w' b N T := by
  obtain ⟨xs, r, h1, h2, h3⟩ := h; exact ⟨xs, r, h1.ext x, h2, h3⟩
theorem UB.st {w w' : World} {b N m : Nat} {T : TypeId} (h : UB w b N T) (x : St m w w') (hn : b ≠ m) : UB w' b N T := by
  obtain ⟨xs, r, h1, h2, h3⟩ := h; exact ⟨xs, r, h1.st x hn, h2, h3⟩
theorem UB.pr {S : Nat → Prop} {w w' : World} {b N : Nat} {T : TypeId} (h : UB w b N T) (x : Pr S w w') (hn : ¬ S b) : UB w' b N T := by
  obtain ⟨xs, r, h1, h2, h3⟩ := h; exact ⟨xs, r, h1.pr x hn, h2, h3⟩
theorem UB.lt {w : World} {b N : Nat} {T : TypeId} (h : UB w b N T) : b < w.heap.size := by
  obtain ⟨xs, r, h1, h2, h3⟩ := h; exact h1.lt
theorem UB.cells {w : World} {b N : Nat} {T : TypeId} (h : UB w b N T) (o sz : Nat) (ho : o + sz ≤ N) : ∃ ys, Cells w b o (ints .u8 ys) ∧ Arr .u8 sz ys := by
  obtain ⟨xs, r, h1, h2, h3⟩ := h
  refine ⟨(xs.drop o).take sz, h1.cells ?_, by rw [List.length_take, List.length_drop]; omega, (h3.drop o).take sz⟩
  rw [List.drop_append_of_le_length (by rw [ints_length]; omega), List.take_append_of_le_length (by rw [ints_length, List.length_drop, ints_length, List.length_take, List.length_drop]; omega), ints_drop, ints_take, ints_length, List.length_take, List.length_drop]
  congr 2
  omega
theorem WOwn.ub {lo : Nat} {w : World} {e : TypeId} {sz n c g0 : Nat} {xs : List Int} (h : WOwn lo w e .u8 sz (some ⟨g0, 0, Option.none⟩) n c xs) : UB w g0 (sz * n) e := by
  obtain ⟨rs, hB, _, _⟩ := h.own.blk
  exact ⟨xs, rs, hB, h.len, h.bd⟩
theorem WOwn.some {lo : Nat} {w : World} {e : TypeId} {k : IntKind} {sz n c : Nat} {a : Option Addr} {xs : List Int} (h : WOwn lo w e k sz a n c xs) (hn : 0 < n) : ∃ g0, a = Option.some ⟨g0, 0, Option.none⟩ := by
  rcases h.own.2 with ⟨hv, h0⟩ | ⟨g, cap, cur, hv, _⟩
  · omega
  · simp at hv; exact ⟨g, hv.1⟩
theorem Own.pre {lo : Nat} {w : World} {e : TypeId} {sz n c : Nat} {a : Option Addr} {cs : List Value} (h : Own lo w e sz a n c cs) : n ≤ c := h.cap.1

section
variable {P : Program} {ops : Array Oper} {R : World → World → Prop} {K : List Value → World → Prop} {rest : List Oper} {restX : List (Oper × Kd)} {l : List Value} {w : World} {d : Tmp} {dd : Option Tmp} {ty xt yt : TypeId} {pos : String} {af : Array Edge} {g : Option (Nat × Bool)} {x y : Operand} {k ki : IntKind} {S : Nat → Prop} {a : Option Addr} {n c sz : Nat} {xs : List Int} {i : Int} {e : TypeId}

/-- A slice of a whole array, wherever it lies. -/
theorem D.sliceAt {t b o : Nat} (hx : ev l x = .pointer (some ⟨b, o, none⟩)) (hu : P.underlying t = some (.array n e)) (hs : P.cellsOf e = 1) (hn : 0 < n) :
    (execOp (ev l) ⟨dd, .slice t x none none none, ty, pos, af, g⟩).run P w = .ok (.value (.slice (some ⟨b, o, none⟩) n n)) w := by
  have hsz := size_run (P := P) (w := w) hs (by decide)
  have hn' : ¬ n = 0 := by omega
  simp only [execOp]; rw [hx]
  simp [Instr.sliceAt, Instr.sureAddr, run_underlying hu, Instr.sliceBounds, hsz, add_mk, hn']

theorem RS.idxU {b o N m cp : Nat} {A : Option Addr} {T : TypeId} (hU : UB w b N T) (hA : A = some ⟨b, o, none⟩) (hx : ev l x = .slice A m cp) (hy : ev l y = .int ki i) (hu : P.underlying xt = some (.slice e)) (hs : P.cellsOf e = sz) (hz : 0 < sz) (hi : 0 ≤ i ∧ i < m) (hb : o + sz * (i.toNat + 1) ≤ N)
    (h : ∀ ys o', o' = o + i.toNat * sz → Cells w b o' (ints .u8 ys) → Arr .u8 sz ys → RS P ops K rest (l.set d (.pointer (some ⟨b, o', none⟩))) w) :
    RS P ops K (⟨some d, .indexAddr xt x y, ty, pos, af, none⟩ :: rest) l w := by
  rw [Nat.mul_add, Nat.mul_one, Nat.mul_comm] at hb
  obtain ⟨ys, h1, h2⟩ := hU.cells (o + i.toNat * sz) sz (by omega)
  exact RS.o (D.indexAddr hx hy hu hs (by omega) hA hi) (h ys _ rfl h1 h2) rfl
theorem RX.idxU (hRE : ∀ w', R w w' → Ext w w') {b o N m cp : Nat} {A : Option Addr} {T : TypeId} (hU : UB w b N T) (hA : A = some ⟨b, o, none⟩) (hx : ev l x = .slice A m cp) (hy : ev l y = .int ki i) (hu : P.underlying xt = some (.slice e)) (hs : P.cellsOf e = sz) (hz : 0 < sz) (hi : 0 ≤ i ∧ i < m) (hb : o + sz * (i.toNat + 1) ≤ N)
    (h : ∀ ys o', o' = o + i.toNat * sz → (∀ w', R w w' → Cells w' b o' (ints .u8 ys)) → Arr .u8 sz ys → RX P ops R K restX (l.set d (.pointer (some ⟨b, o', none⟩))) w) :
    RX P ops R K ((⟨some d, .indexAddr xt x y, ty, pos, af, none⟩, .q) :: restX) l w := by
  rw [Nat.mul_add, Nat.mul_one, Nat.mul_comm] at hb
  obtain ⟨ys, h1, h2⟩ := hU.cells (o + i.toNat * sz) sz (by omega)
  exact RX.o (fun w' _ => D.indexAddr hx hy hu hs (by omega) hA hi) (h ys _ rfl (fun w' hw => h1.ext (hRE _ hw) (by rw [ints_length, h2.1]; exact hz)) h2) rfl

theorem UB.splice {b N o : Nat} {T : TypeId} {vs ys : List Int} {rs : List Value} (hB : Blk w b (splice (ints .u8 vs ++ rs) o (ints .u8 ys)) T) (hl : vs.length = N) (hb : Bd .u8 vs) (hy : Bd .u8 ys) (ho : o + ys.length ≤ N) : UB w b N T := by
  rw [splice_eq _ _ _ (by simp [ints_length]; omega)] at hB
  refine ⟨vs.take o ++ ys ++ vs.drop (o + ys.length), rs, ?_, by simp; omega, ((hb.take o).append hy).append (hb.drop _)⟩
  rw [List.take_append_of_le_length (by rw [ints_length]; omega), ints_length, List.drop_append_of_le_length (by rw [ints_length]; omega), ints_take, ints_drop] at hB
  rw [ints_append, ints_append]
  simpa [List.append_assoc] using hB

theorem RS.storeU {b o N : Nat} {T : TypeId} {ys : List Int} (hU : UB w b N T) (hx : ev l x = .pointer (some ⟨b, o, none⟩)) (hy : ev l y = .agg (ints .u8 ys).toArray) (hs : P.cellsOf xt = sz) (hz : sz ≠ 0) (hA : Arr .u8 sz ys) (ho : o + sz ≤ N)
    (h : ∀ w', St b w w' → UB w' b N T → RS P ops K rest l w') : RS P ops K (⟨none, .store xt x y, ty, pos, af, none⟩ :: rest) l w := by
  obtain ⟨vs, rs, hB, hl, hb⟩ := hU
  have hlen := hA.1
  exact RS.storeAgg hx hy hs hz (by rw [ints_length, hlen]) cellB_ints hB (by simp [ints_length]; omega) (fun w' y' N' => h w' y' (UB.splice N' hl hb hA.2 (by omega)))

theorem zeros_cells {zc : List Value} (n : Nat) (hz : ∀ v ∈ zc, v = .int .u8 0) (hl : 0 < zc.length) : (Builtin.zeroCells zc.toArray n).toList = ints .u8 (List.replicate (n * zc.length) 0) := by
  have hs : (Builtin.zeroCells zc.toArray n).size = n * zc.length := by simp [Builtin.zeroCells, Nat.mul_comm]
  apply List.ext_getElem
  · simp [ints_length, hs]
  intro j h1 h2
  have hj : j < n * zc.length := by simpa [hs] using h1
  have hm : j % zc.length < zc.length := Nat.mod_lt _ hl
  have : zc[j % zc.length] = .int .u8 0 := hz _ (List.getElem_mem hm)
  simp [Builtin.zeroCells, ints, hm, this]

theorem RS.clearU {b o N m cp by_ : Nat} {A : Option Addr} {T t : TypeId} {zc : List Value} (hU : UB w b N T) (hA : A = some ⟨b, o, none⟩) (hx : ev l x = .slice A m cp) (hu : P.underlying t = some (.slice e)) (ht : TI P e sz by_ zc) (hz : ∀ v ∈ zc, v = .int .u8 0) (hl : zc.length = sz) (hz0 : 0 < sz) (ho : o + m * sz ≤ N)
    (h : ∀ w', St b w w' → UB w' b N T → RS P ops K rest l w') : RS P ops K (⟨none, .call { callee := .builtin .clear, args := #[x], argTypes := #[t] }, ty, pos, af, none⟩ :: rest) l w := by
  subst hA
  obtain ⟨i, v, i1, i2, i3, i4, i5⟩ := ht
  have hz1 : (zeroValue e).run P w = .ok v w := by simp [zeroValue, typeInfo, i1, i4]
  have hrun : ∀ w', (Builtin.clear_ #[t] ty #[.slice (some ⟨b, o, none⟩) m cp]).run P w = .ok (.tuple #[]) w' → (RS P ops K rest l w' → RS P ops K (⟨none, .call { callee := .builtin .clear, args := #[x], argTypes := #[t] }, ty, pos, af, none⟩ :: rest) l w) := by
    intro w' hr hk
    refine RS.v (v := .tuple #[]) (w' := w') rfl ?_ hk
    simp [execOp, resolve, hx, invoke, builtin, hr]
  by_cases hm : m = 0
  · subst hm
    exact hrun w (by simp [Builtin.clear_, run_underlying hu]) (h w (St.refl b w) hU)
  · obtain ⟨vs, rs, hB, hlv, hb⟩ := hU
    have hzl : (Builtin.zeroCells v.cells m).toList = ints .u8 (List.replicate (m * sz) 0) := by rw [i5, zeros_cells m hz (by omega), hl]
    obtain ⟨w1, h1, h2, h3⟩ := storeCells_blk (P := P) (o := o) (ints .u8 (List.replicate (m * sz) 0)) 0 _ w hB (by simp [ints_length]; omega) cellB_ints
    refine hrun w1 ?_ (h w1 h2 (UB.splice (o := o) (by simpa using h3) hlv hb (Bd.zeros _ _) (by simp; omega)))
    have hm' : ∃ m', m = m' + 1 := ⟨m - 1, by omega⟩
    obtain ⟨m', rfl⟩ := hm'
    simp [Builtin.clear_, run_underlying hu, hz1, hzl, h1]
end
end Go.Proofs.YtiohpiiiapjblaaDoor.G
