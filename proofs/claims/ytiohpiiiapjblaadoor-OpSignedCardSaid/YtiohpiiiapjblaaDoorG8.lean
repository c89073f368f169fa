/-
  G8: arrays of integers, records that are built, slices of arrays.
-/
import Derived.Test.YtiohpiiiapjblaaDoorG7
namespace Go.Proofs.YtiohpiiiapjblaaDoor.G
open Go.RowKit

/-- An array of integers that lies at the start of a block, other cells behind it. -/
structure IArr (k : IntKind) (w : World) (b n : Nat) (xs : List Int) (tl : List Value) (T : TypeId) : Prop where
  blk : Blk w b (ints k xs ++ tl) T
  len : xs.length = n
  bd : Bd k xs
theorem IArr.lt {k : IntKind} {w : World} {b n : Nat} {xs : List Int} {tl : List Value} {T : TypeId} (h : IArr k w b n xs tl T) : b < w.heap.size := h.blk.lt
theorem IArr.ext {k : IntKind} {w w' : World} {b n : Nat} {xs : List Int} {tl : List Value} {T : TypeId} (h : IArr k w b n xs tl T) (x : Ext w w') : IArr k w' b n xs tl T := ⟨h.blk.ext x, h.len, h.bd⟩
theorem IArr.st {k : IntKind} {w w' : World} {b n m : Nat} {xs : List Int} {tl : List Value} {T : TypeId} (h : IArr k w b n xs tl T) (x : St m w w') (hn : b ≠ m) : IArr k w' b n xs tl T := ⟨h.blk.st x hn, h.len, h.bd⟩
theorem IArr.pr {k : IntKind} {S : Nat → Prop} {w w' : World} {b n : Nat} {xs : List Int} {tl : List Value} {T : TypeId} (h : IArr k w b n xs tl T) (x : Pr S w w') (hn : ¬ S b) : IArr k w' b n xs tl T := ⟨h.blk.pr x hn, h.len, h.bd⟩
theorem IArr.of {k : IntKind} {w : World} {b n : Nat} {xs : List Int} {T : TypeId} (h : Blk w b (ints k xs) T) (hl : xs.length = n) (hb : Bd k xs) : IArr k w b n xs [] T := ⟨by simpa using h, hl, hb⟩
theorem lim_pos (k : IntKind) : 0 < lim k := by cases k <;> simp [lim]
theorem Bd.zeros (k : IntKind) (n : Nat) : Bd k (List.replicate n 0) := by
  intro x hx
  obtain rfl := (List.mem_replicate.1 hx).2
  exact ⟨Int.le_refl _, lim_pos k⟩
theorem IArr.zero {k : IntKind} {w : World} {b n : Nat} {T : TypeId} (h : Blk w b (ints k (List.replicate n 0)) T) : IArr k w b n (List.replicate n 0) [] T := .of h (by simp) (Bd.zeros k n)
theorem IArr.at_ {k : IntKind} {w : World} {b n : Nat} {xs : List Int} {tl : List Value} {T : TypeId} (h : IArr k w b n xs tl T) {i : Nat} (hi : i < n) : w.cell? ⟨b, i, none⟩ = some (.int k (xs.getD i 0)) := by
  have hl := h.len
  refine h.blk.cell ?_
  rw [List.getElem?_append_left (by rw [ints_length]; omega)]
  simp [ints, List.getD_eq_getElem?_getD, List.getElem?_eq_getElem (show i < xs.length by omega)]
theorem IArr.cells {k : IntKind} {w : World} {b n : Nat} {xs : List Int} {tl : List Value} {T : TypeId} (h : IArr k w b n xs tl T) : Cells w b 0 (ints k xs) :=
  h.blk.cells (by simp)
/-- The array as a row that is read. -/
theorem IArr.row {k : IntKind} {S : Nat → Prop} {w : World} {b n : Nat} {xs : List Int} {tl : List Value} {T : TypeId} (h : IArr k w b n xs tl T) (hs : S b) : IRow k S w (some ⟨b, 0, none⟩) n xs :=
  ⟨.inr ⟨b, 0, rfl, hs, h.cells⟩, h.len, h.bd⟩

theorem splice_eq : ∀ (vs cs : List Value) (o : Nat), o + vs.length ≤ cs.length → splice cs o vs = cs.take o ++ vs ++ cs.drop (o + vs.length)
  | [], cs, o, _ => by simp [splice]
  | v :: vs, cs, o, h => by
    simp only [List.length_cons] at h
    unfold splice
    rw [splice_eq vs _ (o + 1) (by simp; omega)]
    have hi : o < cs.length := by omega
    rw [List.take_succ_eq_append_getElem (by simpa using hi), List.getElem_set_self, List.take_set_of_le (Nat.le_refl _), List.drop_set_of_lt (by omega)]
    simp only [List.append_assoc, List.cons_append, List.nil_append, List.length_cons]
    rw [show o + 1 + vs.length = o + (vs.length + 1) by omega]

def fillL (pl : List (Nat × Nat)) (cells : List Value) : List (Nat × Value) → Option (List Value)
  | [] => some cells
  | (i, v) :: r =>
    match pl[i]? with
    | none => none
    | some (off, size) => if Nat.beq v.cells.size size && Nat.ble (off + v.cells.size) cells.length then fillL pl (splice cells off v.cells.toList) r else none

theorem fill_fillL (pl : List (Nat × Nat)) (place : Nat → Option (Nat × Nat)) (hp : ∀ i, place i = pl[i]?) : ∀ (ps : List (Nat × Value)) (cells cs : List Value), fillL pl cells ps = some cs → Instr.fill place cells.toArray ps = some cs.toArray
  | [], cells, cs, h => by simp [fillL] at h; simp [Instr.fill, h]
  | (i, v) :: r, cells, cs, h => by
    unfold fillL at h
    unfold Instr.fill
    rw [hp i]
    split at h
    · cases h
    · rename_i off size hpl
      rw [hpl]
      split at h
      · rename_i hc
        rw [Bool.and_eq_true] at hc
        have h1 := Nat.eq_of_beq_eq_true hc.1
        have h2 := Nat.le_of_ble_eq_true hc.2
        have e : (v.cells.zipIdx.foldl (fun (cs : Array Value) (x : Value × Nat) => cs.setIfInBounds (off + x.2) x.1) cells.toArray) = (splice cells off v.cells.toList).toArray := by
          apply Array.ext'
          rw [← Array.foldl_toList, Array.toList_zipIdx, foldl_set v.cells.toList cells.toArray off 0 (by simp; omega), splice_eq _ _ _ (by simp; omega)]
          simp
        have h3 : (v.cells.size ≠ size || off + v.cells.size > cells.toArray.size) = false := by simp [h1]; omega
        simp only [h3, Bool.false_eq_true, if_false]
        show Instr.fill place (v.cells.zipIdx.foldl (fun (cs : Array Value) (x : Value × Nat) => cs.setIfInBounds (off + x.2) x.1) cells.toArray) r = _
        rw [e]
        exact fill_fillL pl place hp r _ cs h
      · cases h

/-- The fields of a record: where they lie, how many cells they have. -/
def SI (P : Program) (t : TypeId) (pl : List (Nat × Nat)) : Prop :=
  ∃ fields : Array Field, P.underlying t = some (.struct fields) ∧ fields.toList.map (fun f => (f.offset, P.cellsOf f.type)) = pl ∧ pl.all (fun x => Nat.blt 0 x.2) = true

theorem places_run {P : Program} {w : World} : ∀ (fs : List Field) (pl : List (Nat × Nat)), fs.map (fun f => (f.offset, P.cellsOf f.type)) = pl → pl.all (fun x => Nat.blt 0 x.2) = true →
    ((fs.mapM (m := Sem) fun (f : Field) => do pure (f.offset, ← sizeOf f.type)) : Sem (List (Nat × Nat))).run P w = .ok pl w
  | [], pl, h, _ => by subst h; simp
  | f :: fs, pl, h, hz => by
    subst h
    simp only [List.map_cons, List.all_cons, Bool.and_eq_true] at hz
    have h0 : P.cellsOf f.type ≠ 0 := by
      have := hz.1
      simp [Nat.blt_eq] at this
      omega
    have ih := places_run (w := w) fs _ rfl hz.2
    rw [List.mapM_cons, Sem.run_bind, Sem.run_bind, size_run rfl h0]
    simp only [Result.andThen, Sem.run_pure]
    rw [Sem.run_bind, ih]
    rfl

section
variable {P : Program} {ops : Array Oper} {R : World → World → Prop} {K : List Value → World → Prop} {rest : List Oper} {restX : List (Oper × Kd)} {l : List Value} {w : World} {d : Tmp} {dd : Option Tmp} {ty : TypeId} {pos : String} {af : Array Edge} {g : Option (Nat × Bool)}

theorem D.buildS {t : TypeId} {parts : Array (Nat × Operand)} {pl : List (Nat × Nat)} {sz by_ : Nat} {z cs : List Value} {ps : List (Nat × Value)} (ht : TI P t sz by_ z) (hs : SI P t pl) (hv : parts.toList.map (fun p => (p.1, ev l p.2)) = ps) (hf : fillL pl z ps = some cs) :
    (execOp (ev l) ⟨dd, .build t parts, ty, pos, af, g⟩).run P w = .ok (.value (.agg cs.toArray)) w := by
  obtain ⟨i, v, h1, h2, h3, h4, h5⟩ := ht
  obtain ⟨fields, u1, u2, u3⟩ := hs
  have hz1 : (zeroValue t).run P w = .ok v w := by simp [zeroValue, typeInfo, h1, h4]
  have hpl : ((fields.mapM (m := Sem) fun (f : Field) => do pure (f.offset, ← sizeOf f.type)) : Sem (Array (Nat × Nat))).run P w = .ok pl.toArray w := by
    have e : fields = fields.toList.toArray := by simp
    rw [e, List.mapM_toArray, Sem.run_map, places_run (w := w) fields.toList pl u2 u3]
    rfl
  have hfill := fill_fillL pl (fun i => pl.toArray[i]?) (fun i => by simp) ps z cs hf
  simp only [execOp, Instr.build, Sem.run_bind, hz1, Result.andThen, run_underlying u1]
  rw [hpl]
  dsimp only
  have e2 : (Array.map (fun x => (x.fst, ev l x.snd)) parts).toList = ps := by rw [← hv]; simp
  rw [h5]
  simp only [e2]
  rw [hfill]
  simp

theorem D.buildArr {t e n by_ : Nat} {parts : Array (Nat × Operand)} {xs : List Operand} {z vs : List Value} (hu : P.underlying t = some (.array n e)) (ht : TI P t n by_ z) (hz : z.length = n) (hs : P.cellsOf e = 1) (hp : parts.toList = enumV 0 xs) (hv : xs.map (ev l) = vs) (hl : vs.length = n) (h1 : ∀ v ∈ vs, v.cells = #[v]) :
    (execOp (ev l) ⟨dd, .build t parts, ty, pos, af, g⟩).run P w = .ok (.value (.agg vs.toArray)) w := by
  obtain ⟨i, v, i1, i2, i3, i4, i5⟩ := ht
  have hz1 : (zeroValue t).run P w = .ok v w := by simp [zeroValue, typeInfo, i1, i4]
  have hfl := fill_enum (sz := 1) vs 0 z.toArray (fun v hv => by rw [h1 v hv]; rfl) (by simp [hz, hl])
  have hcs : vs.flatMap (·.cells.toList) = vs := by
    clear hfl hl hv
    induction vs with
    | nil => rfl
    | cons a r ih => rw [List.flatMap_cons, h1 a (by simp), ih (fun v hv => h1 v (by simp [hv]))]; rfl
  have e2 : (Array.map (fun x => (x.fst, ev l x.snd)) parts).toList = enumV 0 vs := by
    rw [Array.toList_map, hp]
    have := enumV_map (ev l) xs 0
    rw [hv] at this
    exact this
  simp only [execOp, Instr.build, Sem.run_bind, hz1, Result.andThen, run_underlying hu, size_run hs (by decide)]
  rw [i5]
  simp only [e2]
  rw [hfl, hcs]
  simp

theorem RS.idxA {x y : Operand} {xt e b n : Nat} {k ki : IntKind} {xs : List Int} {tl : List Value} {T : TypeId} {i : Int} (hA : IArr k w b n xs tl T) (hx : ev l x = .pointer (some ⟨b, 0, none⟩)) (hy : ev l y = .int ki i) (hu : P.underlying xt = some (.array n e)) (hs : P.cellsOf e = 1)
    (hi : 0 ≤ i ∧ i < n) (h : ∀ v, w.cell? ⟨b, i.toNat, none⟩ = some (.int k v) → v = xs.getD i.toNat 0 → 0 ≤ v ∧ v < lim k → RS P ops K rest (l.set d (.pointer (some ⟨b, i.toNat, none⟩))) w) :
    RS P ops K (⟨some d, .indexAddr xt x y, ty, pos, af, none⟩ :: rest) l w := by
  have e1 : (⟨b, 0 + i.toNat * 1, none⟩ : Addr) = ⟨b, i.toNat, none⟩ := by simp
  have := D.indexArr (d := some d) (ty := ty) (pos := pos) (af := af) (g := none) (w := w) hx hy hu hs (by decide) hi
  rw [e1] at this
  exact RS.o this (h _ (hA.at_ (by omega)) rfl (hA.bd.get _)) rfl
theorem RX.idxA {x y : Operand} {xt e b n : Nat} {k ki : IntKind} {xs : List Int} {tl : List Value} {T : TypeId} {i : Int} (hRE : ∀ w', R w w' → Ext w w') (hA : IArr k w b n xs tl T) (hx : ev l x = .pointer (some ⟨b, 0, none⟩)) (hy : ev l y = .int ki i) (hu : P.underlying xt = some (.array n e)) (hs : P.cellsOf e = 1)
    (hi : 0 ≤ i ∧ i < n) (h : ∀ v, (∀ w', R w w' → w'.cell? ⟨b, i.toNat, none⟩ = some (.int k v)) → v = xs.getD i.toNat 0 → 0 ≤ v ∧ v < lim k → RX P ops R K restX (l.set d (.pointer (some ⟨b, i.toNat, none⟩))) w) :
    RX P ops R K ((⟨some d, .indexAddr xt x y, ty, pos, af, none⟩, .q) :: restX) l w := by
  have e1 : (⟨b, 0 + i.toNat * 1, none⟩ : Addr) = ⟨b, i.toNat, none⟩ := by simp
  refine RX.o (fun w' _ => ?_) (h _ (fun w' hw => (hA.ext (hRE _ hw)).at_ (by omega)) rfl (hA.bd.get _)) rfl
  rw [← e1]
  exact D.indexArr hx hy hu hs (by decide) hi

theorem RS.storeA {x y : Operand} {xt b o n : Nat} {k : IntKind} {xs : List Int} {tl : List Value} {T : TypeId} {v : Int} (hA : IArr k w b n xs tl T) (hx : ev l x = .pointer (some ⟨b, o, none⟩)) (hy : ev l y = .int k v) (hs : P.cellsOf xt = 1) (ho : o < n) (hv : 0 ≤ v ∧ v < lim k)
    (h : ∀ w', St b w w' → IArr k w' b n (xs.set o v) tl T → RS P ops K rest l w') : RS P ops K (⟨none, .store xt x y, ty, pos, af, none⟩ :: rest) l w := by
  have hl := hA.len
  refine RS.store hx hy hs rfl hA.blk (Nat.ble_eq_true_of_le (by simp [ints_length]; omega)) (fun w' y' N => h w' y' ⟨?_, by simp [hl], hA.bd.set _ hv⟩)
  rwa [List.set_append_left _ _ (by rw [ints_length]; omega), ints_set] at N

theorem D.loadA {x : Operand} {xt e b n : Nat} {k : IntKind} {xs : List Int} {tl : List Value} {T : TypeId} (hx : ev l x = .pointer (some ⟨b, 0, none⟩)) (hu : P.underlying xt = some (.array n e)) (hs : P.cellsOf xt = n) (hn : n ≠ 0) (hA : IArr k w b n xs tl T) :
    (execOp (ev l) ⟨dd, .load xt x, ty, pos, af, g⟩).run P w = .ok (.value (.agg (ints k xs).toArray)) w :=
  D.loadAgg hx hu rfl hs hn (by rw [ints_length, hA.len]) hA.cells

theorem cellB_ints {k : IntKind} {xs : List Int} : ∀ v ∈ ints k xs, cellB v = true := by
  intro v hv
  obtain ⟨x, _, rfl⟩ := List.mem_map.1 hv
  rfl

theorem RS.storeWhole {x y : Operand} {xt b sz : Nat} {cs vs : List Value} {T : TypeId} (hx : ev l x = .pointer (some ⟨b, 0, none⟩)) (hy : ev l y = .agg vs.toArray) (hs : P.cellsOf xt = sz) (hz : sz ≠ 0) (hn : vs.length = sz) (hv : ∀ v ∈ vs, cellB v = true) (hB : Blk w b cs T) (hc : cs.length = sz)
    (h : ∀ w', St b w w' → Blk w' b vs T → RS P ops K rest l w') : RS P ops K (⟨none, .store xt x y, ty, pos, af, none⟩ :: rest) l w := by
  refine RS.storeAgg hx hy hs hz hn hv hB (by omega) (fun w' y' N => h w' y' ?_)
  rw [splice_eq _ _ _ (by omega)] at N
  simpa [List.drop_eq_nil_of_le (show cs.length ≤ vs.length by omega)] using N

/-- A whole array is stored. -/
theorem RS.storeArr {x y : Operand} {xt b n : Nat} {k : IntKind} {xs ys : List Int} {tl : List Value} {T : TypeId} (hA : IArr k w b n xs tl T) (hx : ev l x = .pointer (some ⟨b, 0, none⟩)) (hy : ev l y = .agg (ints k ys).toArray) (hs : P.cellsOf xt = n) (hn : n ≠ 0) (hl : ys.length = n) (hb : Bd k ys)
    (h : ∀ w', St b w w' → IArr k w' b n ys tl T → RS P ops K rest l w') : RS P ops K (⟨none, .store xt x y, ty, pos, af, none⟩ :: rest) l w := by
  have hl' := hA.len
  refine RS.storeAgg hx hy hs hn (by rw [ints_length, hl]) cellB_ints hA.blk (by simp [ints_length]; omega) (fun w' y' N => h w' y' ⟨?_, hl, hb⟩)
  rw [splice_eq _ _ _ (by simp [ints_length]; omega)] at N
  simp only [List.take_zero, List.nil_append, Nat.zero_add] at N
  rwa [List.drop_append_of_le_length (by simp [ints_length]; omega), List.drop_eq_nil_of_le (by simp [ints_length]; omega), List.nil_append] at N

/-- A slice of a whole array. -/
theorem D.sliceArr {x : Operand} {t e b n : Nat} {lo hi : Option Operand} {li hi' : Int} {kl kh : IntKind} (hx : ev l x = .pointer (some ⟨b, 0, none⟩)) (hu : P.underlying t = some (.array n e)) (hs : P.cellsOf e = 1)
    (hl : (lo.map (ev l)).getD (.int kl 0) = .int kl li) (hh : (hi.map (ev l)).getD (.int kh n) = .int kh hi') (hb : 0 ≤ li ∧ li ≤ hi' ∧ hi' ≤ n) :
    (execOp (ev l) ⟨dd, .slice t x lo hi none, ty, pos, af, g⟩).run P w = .ok (.value (.slice (subA (some ⟨b, 0, none⟩) li.toNat 1 n) (hi'.toNat - li.toNat) (n - li.toNat))) w := by
  have h0 : 0 ≤ hi' := by omega
  have hsz := size_run (P := P) (w := w) hs (by decide)
  have key : ∀ m : Nat, (if n = m then (⟨b, 0, none⟩ : Addr) else (⟨b, 0, none⟩ : Addr).add m) = (⟨b, if n = m then 0 else m, none⟩ : Addr) := by
    intro m; split <;> simp [add_mk]
  simp only [execOp]; rw [hx]
  cases lo with
  | none =>
    simp at hl; subst hl
    cases hi with
    | none =>
      simp at hh; subst hh
      by_cases hn : n = 0 <;> simp [Instr.sliceAt, Instr.sureAddr, run_underlying hu, Instr.sliceBounds, hsz, subA, add_mk, hn]
    | some y =>
      simp at hh
      have hy : ev l y = .int kh hi' := hh
      by_cases hn : n = 0 <;> simp [Instr.sliceAt, Instr.sureAddr, run_underlying hu, Instr.sliceBounds, Instr.sliceBound, asIntOf, hy, h0, hb.2.2, hsz, subA, add_mk, hn] <;> omega
  | some x' =>
    have hx' : ev l x' = .int kl li := by simpa using hl
    cases hi with
    | none =>
      have hh' : (n : Int) = hi' := by simpa using hh
      subst hh'
      have : li ≤ (n : Int) := hb.2.1
      simp [Instr.sliceAt, Instr.sureAddr, run_underlying hu, Instr.sliceBounds, Instr.sliceBound, asIntOf, hx', hb.1, this, hsz, subA, add_mk]
      split <;> simp
    | some y =>
      have hy : ev l y = .int kh hi' := by simpa using hh
      simp [Instr.sliceAt, Instr.sureAddr, run_underlying hu, Instr.sliceBounds, Instr.sliceBound, asIntOf, hx', hy, h0, hb.1, hb.2.1, hb.2.2, hsz, subA, add_mk]
      rw [if_pos (by omega)]
      congr 4
      split <;> rfl
end
end Go.Proofs.YtiohpiiiapjblaaDoor.G
