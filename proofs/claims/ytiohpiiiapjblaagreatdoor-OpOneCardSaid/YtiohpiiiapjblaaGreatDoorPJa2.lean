/-
  Part 2 of the lemmas of these laws: OpOne, JudgeSigned.
-/
import Derived.Test.YtiohpiiiapjblaaGreatDoorPJa1
namespace Go.Proofs.YtiohpiiiapjblaaGreatDoor.G
open Go.RowKit
/-- An array of integers that lies at the start of a block, other cells behind it. -/
structure IArr (k : IntKind) (w : World) (b n : Nat) (xs : List Int) (tl : List Value) (T : TypeId) : Prop where
  blk : Blk w b (ints k xs ++ tl) T
  len : xs.length = n
  bd : Bd k xs
theorem IArr.lt {k : IntKind} {w : World} {b n : Nat} {xs : List Int} {tl : List Value} {T : TypeId} (h : IArr k w b n xs tl T) : b < w.heap.size := h.blk.lt
theorem IArr.ext {k : IntKind} {w w' : World} {b n : Nat} {xs : List Int} {tl : List Value} {T : TypeId} (h : IArr k w b n xs tl T) (x : Ext w w') : IArr k w' b n xs tl T := ⟨h.blk.ext x, h.len, h.bd⟩
theorem IArr.st {k : IntKind} {w w' : World} {b n m : Nat} {xs : List Int} {tl : List Value} {T : TypeId} (h : IArr k w b n xs tl T) (x : St m w w') (hn : b ≠ m) : IArr k w' b n xs tl T := ⟨h.blk.st x hn, h.len, h.bd⟩
theorem IArr.pr {k : IntKind} {S : Nat → Prop} {w w' : World} {b n : Nat} {xs : List Int} {tl : List Value} {T : TypeId} (h : IArr k w b n xs tl T) (x : Pr S w w') (hn : ¬ S b) : IArr k w' b n xs tl T := ⟨h.blk.pr x hn, h.len, h.bd⟩
theorem IArr.of {k : IntKind} {w : World} {b n : Nat} {xs : List Int} {T : TypeId} (h : Blk w b (ints k xs) T) (hl : xs.length = n) (hb : Bd k xs) : IArr k w b n xs [] T := ⟨by simpa using h, hl, hb⟩
theorem lim_pos (k : IntKind) : 0 < lim k := by cases k <;> simp [lim]
theorem Bd.zeros (k : IntKind) (n : Nat) : Bd k (List.replicate n 0) := by
  intro x hx
  obtain rfl := (List.mem_replicate.1 hx).2
  exact ⟨Int.le_refl _, lim_pos k⟩
theorem IArr.zero {k : IntKind} {w : World} {b n : Nat} {T : TypeId} (h : Blk w b (ints k (List.replicate n 0)) T) : IArr k w b n (List.replicate n 0) [] T := .of h (by simp) (Bd.zeros k n)
theorem IArr.at_ {k : IntKind} {w : World} {b n : Nat} {xs : List Int} {tl : List Value} {T : TypeId} (h : IArr k w b n xs tl T) {i : Nat} (hi : i < n) : w.cell? ⟨b, i, none⟩ = some (.int k (xs.getD i 0)) := by
  have hl := h.len
  refine h.blk.cell ?_
  rw [List.getElem?_append_left (by rw [ints_length]; omega)]
  simp [ints, List.getD_eq_getElem?_getD, List.getElem?_eq_getElem (show i < xs.length by omega)]
theorem IArr.cells {k : IntKind} {w : World} {b n : Nat} {xs : List Int} {tl : List Value} {T : TypeId} (h : IArr k w b n xs tl T) : Cells w b 0 (ints k xs) :=
  h.blk.cells (by simp)
/-- The array as a row that is read. -/
theorem IArr.row {k : IntKind} {S : Nat → Prop} {w : World} {b n : Nat} {xs : List Int} {tl : List Value} {T : TypeId} (h : IArr k w b n xs tl T) (hs : S b) : IRow k S w (some ⟨b, 0, none⟩) n xs :=
  ⟨.inr ⟨b, 0, rfl, hs, h.cells⟩, h.len, h.bd⟩
theorem splice_eq : ∀ (vs cs : List Value) (o : Nat), o + vs.length ≤ cs.length → splice cs o vs = cs.take o ++ vs ++ cs.drop (o + vs.length)
  | [], cs, o, _ => by simp [splice]
  | v :: vs, cs, o, h => by
    simp only [List.length_cons] at h
    unfold splice
    rw [splice_eq vs _ (o + 1) (by simp; omega)]
    have hi : o < cs.length := by omega
    rw [List.take_succ_eq_append_getElem (by simpa using hi), List.getElem_set_self, List.take_set_of_le (Nat.le_refl _), List.drop_set_of_lt (by omega)]
    simp only [List.append_assoc, List.cons_append, List.nil_append, List.length_cons]
    rw [show o + 1 + vs.length = o + (vs.length + 1) by omega]
def fillL (pl : List (Nat × Nat)) (cells : List Value) : List (Nat × Value) → Option (List Value)
  | [] => some cells
  | (i, v) :: r =>
    match pl[i]? with
    | none => none
    | some (off, size) => if Nat.beq v.cells.size size && Nat.ble (off + v.cells.size) cells.length then fillL pl (splice cells off v.cells.toList) r else none
theorem fill_fillL (pl : List (Nat × Nat)) (place : Nat → Option (Nat × Nat)) (hp : ∀ i, place i = pl[i]?) : ∀ (ps : List (Nat × Value)) (cells cs : List Value), fillL pl cells ps = some cs → Instr.fill place cells.toArray ps = some cs.toArray
  | [], cells, cs, h => by simp [fillL] at h; simp [Instr.fill, h]
  | (i, v) :: r, cells, cs, h => by
    unfold fillL at h
    unfold Instr.fill
    rw [hp i]
    split at h
    · cases h
    · rename_i off size hpl
      rw [hpl]
      split at h
      · rename_i hc
        rw [Bool.and_eq_true] at hc
        have h1 := Nat.eq_of_beq_eq_true hc.1
        have h2 := Nat.le_of_ble_eq_true hc.2
        have e : (v.cells.zipIdx.foldl (fun (cs : Array Value) (x : Value × Nat) => cs.setIfInBounds (off + x.2) x.1) cells.toArray) = (splice cells off v.cells.toList).toArray := by
          apply Array.ext'
          rw [← Array.foldl_toList, Array.toList_zipIdx, foldl_set v.cells.toList cells.toArray off 0 (by simp; omega), splice_eq _ _ _ (by simp; omega)]
          simp
        have h3 : (v.cells.size ≠ size || off + v.cells.size > cells.toArray.size) = false := by simp [h1]; omega
        simp only [h3, Bool.false_eq_true, if_false]
        show Instr.fill place (v.cells.zipIdx.foldl (fun (cs : Array Value) (x : Value × Nat) => cs.setIfInBounds (off + x.2) x.1) cells.toArray) r = _
        rw [e]
        exact fill_fillL pl place hp r _ cs h
      · cases h
/-- The fields of a record: where they lie, how many cells they have. -/
def SI (P : Program) (t : TypeId) (pl : List (Nat × Nat)) : Prop :=
  ∃ fields : Array Field, P.underlying t = some (.struct fields) ∧ fields.toList.map (fun f => (f.offset, P.cellsOf f.type)) = pl ∧ pl.all (fun x => Nat.blt 0 x.2) = true
theorem places_run {P : Program} {w : World} : ∀ (fs : List Field) (pl : List (Nat × Nat)), fs.map (fun f => (f.offset, P.cellsOf f.type)) = pl → pl.all (fun x => Nat.blt 0 x.2) = true →
    ((fs.mapM (m := Sem) fun (f : Field) => do pure (f.offset, ← sizeOf f.type)) : Sem (List (Nat × Nat))).run P w = .ok pl w
  | [], pl, h, _ => by subst h; simp
  | f :: fs, pl, h, hz => by
    subst h
    simp only [List.map_cons, List.all_cons, Bool.and_eq_true] at hz
    have h0 : P.cellsOf f.type ≠ 0 := by
      have := hz.1
      simp [Nat.blt_eq] at this
      omega
    have ih := places_run (w := w) fs _ rfl hz.2
    rw [List.mapM_cons, Sem.run_bind, Sem.run_bind, size_run rfl h0]
    simp only [Result.andThen, Sem.run_pure]
    rw [Sem.run_bind, ih]
    rfl
section
variable {P : Program} {ops : Array Oper} {R : World → World → Prop} {K : List Value → World → Prop} {rest : List Oper} {restX : List (Oper × Kd)} {l : List Value} {w : World} {d : Tmp} {dd : Option Tmp} {ty : TypeId} {pos : String} {af : Array Edge} {g : Option (Nat × Bool)}
theorem D.buildS {t : TypeId} {parts : Array (Nat × Operand)} {pl : List (Nat × Nat)} {sz by_ : Nat} {z cs : List Value} {ps : List (Nat × Value)} (ht : TI P t sz by_ z) (hs : SI P t pl) (hv : parts.toList.map (fun p => (p.1, ev l p.2)) = ps) (hf : fillL pl z ps = some cs) :
    (execOp (ev l) ⟨dd, .build t parts, ty, pos, af, g⟩).run P w = .ok (.value (.agg cs.toArray)) w := by
  obtain ⟨i, v, h1, h2, h3, h4, h5⟩ := ht
  obtain ⟨fields, u1, u2, u3⟩ := hs
  have hz1 : (zeroValue t).run P w = .ok v w := by simp [zeroValue, typeInfo, h1, h4]
  have hpl : ((fields.mapM (m := Sem) fun (f : Field) => do pure (f.offset, ← sizeOf f.type)) : Sem (Array (Nat × Nat))).run P w = .ok pl.toArray w := by
    have e : fields = fields.toList.toArray := by simp
    rw [e, List.mapM_toArray, Sem.run_map, places_run (w := w) fields.toList pl u2 u3]
    rfl
  have hfill := fill_fillL pl (fun i => pl.toArray[i]?) (fun i => by simp) ps z cs hf
  simp only [execOp, Instr.build, Sem.run_bind, hz1, Result.andThen, run_underlying u1]
  rw [hpl]
  dsimp only
  have e2 : (Array.map (fun x => (x.fst, ev l x.snd)) parts).toList = ps := by rw [← hv]; simp
  rw [h5]
  simp only [e2]
  rw [hfill]
  simp
theorem D.buildArr {t e n by_ : Nat} {parts : Array (Nat × Operand)} {xs : List Operand} {z vs : List Value} (hu : P.underlying t = some (.array n e)) (ht : TI P t n by_ z) (hz : z.length = n) (hs : P.cellsOf e = 1) (hp : parts.toList = enumV 0 xs) (hv : xs.map (ev l) = vs) (hl : vs.length = n) (h1 : ∀ v ∈ vs, v.cells = #[v]) :
    (execOp (ev l) ⟨dd, .build t parts, ty, pos, af, g⟩).run P w = .ok (.value (.agg vs.toArray)) w := by
  obtain ⟨i, v, i1, i2, i3, i4, i5⟩ := ht
  have hz1 : (zeroValue t).run P w = .ok v w := by simp [zeroValue, typeInfo, i1, i4]
  have hfl := fill_enum (sz := 1) vs 0 z.toArray (fun v hv => by rw [h1 v hv]; rfl) (by simp [hz, hl])
  have hcs : vs.flatMap (·.cells.toList) = vs := by
    clear hfl hl hv
    induction vs with
    | nil => rfl
    | cons a r ih => rw [List.flatMap_cons, h1 a (by simp), ih (fun v hv => h1 v (by simp [hv]))]; rfl
  have e2 : (Array.map (fun x => (x.fst, ev l x.snd)) parts).toList = enumV 0 vs := by
    rw [Array.toList_map, hp]
    have := enumV_map (ev l) xs 0
    rw [hv] at this
    exact this
  simp only [execOp, Instr.build, Sem.run_bind, hz1, Result.andThen, run_underlying hu, size_run hs (by decide)]
  rw [i5]
  simp only [e2]
  rw [hfl, hcs]
  simp
theorem RS.idxA {x y : Operand} {xt e b n : Nat} {k ki : IntKind} {xs : List Int} {tl : List Value} {T : TypeId} {i : Int} (hA : IArr k w b n xs tl T) (hx : ev l x = .pointer (some ⟨b, 0, none⟩)) (hy : ev l y = .int ki i) (hu : P.underlying xt = some (.array n e)) (hs : P.cellsOf e = 1)
    (hi : 0 ≤ i ∧ i < n) (h : ∀ v, w.cell? ⟨b, i.toNat, none⟩ = some (.int k v) → v = xs.getD i.toNat 0 → 0 ≤ v ∧ v < lim k → RS P ops K rest (l.set d (.pointer (some ⟨b, i.toNat, none⟩))) w) :
    RS P ops K (⟨some d, .indexAddr xt x y, ty, pos, af, none⟩ :: rest) l w := by
  have e1 : (⟨b, 0 + i.toNat * 1, none⟩ : Addr) = ⟨b, i.toNat, none⟩ := by simp
  have := D.indexArr (d := some d) (ty := ty) (pos := pos) (af := af) (g := none) (w := w) hx hy hu hs (by decide) hi
  rw [e1] at this
  exact RS.o this (h _ (hA.at_ (by omega)) rfl (hA.bd.get _)) rfl
theorem RX.idxA {x y : Operand} {xt e b n : Nat} {k ki : IntKind} {xs : List Int} {tl : List Value} {T : TypeId} {i : Int} (hRE : ∀ w', R w w' → Ext w w') (hA : IArr k w b n xs tl T) (hx : ev l x = .pointer (some ⟨b, 0, none⟩)) (hy : ev l y = .int ki i) (hu : P.underlying xt = some (.array n e)) (hs : P.cellsOf e = 1)
    (hi : 0 ≤ i ∧ i < n) (h : ∀ v, (∀ w', R w w' → w'.cell? ⟨b, i.toNat, none⟩ = some (.int k v)) → v = xs.getD i.toNat 0 → 0 ≤ v ∧ v < lim k → RX P ops R K restX (l.set d (.pointer (some ⟨b, i.toNat, none⟩))) w) :
    RX P ops R K ((⟨some d, .indexAddr xt x y, ty, pos, af, none⟩, .q) :: restX) l w := by
  have e1 : (⟨b, 0 + i.toNat * 1, none⟩ : Addr) = ⟨b, i.toNat, none⟩ := by simp
  refine RX.o (fun w' _ => ?_) (h _ (fun w' hw => (hA.ext (hRE _ hw)).at_ (by omega)) rfl (hA.bd.get _)) rfl
  rw [← e1]
  exact D.indexArr hx hy hu hs (by decide) hi
theorem RS.storeA {x y : Operand} {xt b o n : Nat} {k : IntKind} {xs : List Int} {tl : List Value} {T : TypeId} {v : Int} (hA : IArr k w b n xs tl T) (hx : ev l x = .pointer (some ⟨b, o, none⟩)) (hy : ev l y = .int k v) (hs : P.cellsOf xt = 1) (ho : o < n) (hv : 0 ≤ v ∧ v < lim k)
    (h : ∀ w', St b w w' → IArr k w' b n (xs.set o v) tl T → RS P ops K rest l w') : RS P ops K (⟨none, .store xt x y, ty, pos, af, none⟩ :: rest) l w := by
  have hl := hA.len
  refine RS.store hx hy hs rfl hA.blk (Nat.ble_eq_true_of_le (by simp [ints_length]; omega)) (fun w' y' N => h w' y' ⟨?_, by simp [hl], hA.bd.set _ hv⟩)
  rwa [List.set_append_left _ _ (by rw [ints_length]; omega), ints_set] at N
theorem cellB_ints {k : IntKind} {xs : List Int} : ∀ v ∈ ints k xs, cellB v = true := by
  intro v hv
  obtain ⟨x, _, rfl⟩ := List.mem_map.1 hv
  rfl
theorem RS.storeWhole {x y : Operand} {xt b sz : Nat} {cs vs : List Value} {T : TypeId} (hx : ev l x = .pointer (some ⟨b, 0, none⟩)) (hy : ev l y = .agg vs.toArray) (hs : P.cellsOf xt = sz) (hz : sz ≠ 0) (hn : vs.length = sz) (hv : ∀ v ∈ vs, cellB v = true) (hB : Blk w b cs T) (hc : cs.length = sz)
    (h : ∀ w', St b w w' → Blk w' b vs T → RS P ops K rest l w') : RS P ops K (⟨none, .store xt x y, ty, pos, af, none⟩ :: rest) l w := by
  refine RS.storeAgg hx hy hs hz hn hv hB (by omega) (fun w' y' N => h w' y' ?_)
  rw [splice_eq _ _ _ (by omega)] at N
  simpa [List.drop_eq_nil_of_le (show cs.length ≤ vs.length by omega)] using N
/-- A whole array is stored. -/
theorem RS.storeArr {x y : Operand} {xt b n : Nat} {k : IntKind} {xs ys : List Int} {tl : List Value} {T : TypeId} (hA : IArr k w b n xs tl T) (hx : ev l x = .pointer (some ⟨b, 0, none⟩)) (hy : ev l y = .agg (ints k ys).toArray) (hs : P.cellsOf xt = n) (hn : n ≠ 0) (hl : ys.length = n) (hb : Bd k ys)
    (h : ∀ w', St b w w' → IArr k w' b n ys tl T → RS P ops K rest l w') : RS P ops K (⟨none, .store xt x y, ty, pos, af, none⟩ :: rest) l w := by
  have hl' := hA.len
  refine RS.storeAgg hx hy hs hn (by rw [ints_length, hl]) cellB_ints hA.blk (by simp [ints_length]; omega) (fun w' y' N => h w' y' ⟨?_, hl, hb⟩)
  rw [splice_eq _ _ _ (by simp [ints_length]; omega)] at N
  simp only [List.take_zero, List.nil_append, Nat.zero_add] at N
  rwa [List.drop_append_of_le_length (by simp [ints_length]; omega), List.drop_eq_nil_of_le (by simp [ints_length]; omega), List.nil_append] at N
/-- A slice of a whole array. -/
theorem D.sliceArr {x : Operand} {t e b n : Nat} {lo hi : Option Operand} {li hi' : Int} {kl kh : IntKind} (hx : ev l x = .pointer (some ⟨b, 0, none⟩)) (hu : P.underlying t = some (.array n e)) (hs : P.cellsOf e = 1)
    (hl : (lo.map (ev l)).getD (.int kl 0) = .int kl li) (hh : (hi.map (ev l)).getD (.int kh n) = .int kh hi') (hb : 0 ≤ li ∧ li ≤ hi' ∧ hi' ≤ n) :
    (execOp (ev l) ⟨dd, .slice t x lo hi none, ty, pos, af, g⟩).run P w = .ok (.value (.slice (subA (some ⟨b, 0, none⟩) li.toNat 1 n) (hi'.toNat - li.toNat) (n - li.toNat))) w := by
  have h0 : 0 ≤ hi' := by omega
  have hsz := size_run (P := P) (w := w) hs (by decide)
  have key : ∀ m : Nat, (if n = m then (⟨b, 0, none⟩ : Addr) else (⟨b, 0, none⟩ : Addr).add m) = (⟨b, if n = m then 0 else m, none⟩ : Addr) := by
    intro m; split <;> simp [add_mk]
  simp only [execOp]; rw [hx]
  cases lo with
  | none =>
    simp at hl; subst hl
    cases hi with
    | none =>
      simp at hh; subst hh
      by_cases hn : n = 0 <;> simp [Instr.sliceAt, Instr.sureAddr, run_underlying hu, Instr.sliceBounds, hsz, subA, add_mk, hn]
    | some y =>
      simp at hh
      have hy : ev l y = .int kh hi' := hh
      by_cases hn : n = 0 <;> simp [Instr.sliceAt, Instr.sureAddr, run_underlying hu, Instr.sliceBounds, Instr.sliceBound, asIntOf, hy, h0, hb.2.2, hsz, subA, add_mk, hn] <;> omega
  | some x' =>
    have hx' : ev l x' = .int kl li := by simpa using hl
    cases hi with
    | none =>
      have hh' : (n : Int) = hi' := by simpa using hh
      subst hh'
      have : li ≤ (n : Int) := hb.2.1
      simp [Instr.sliceAt, Instr.sureAddr, run_underlying hu, Instr.sliceBounds, Instr.sliceBound, asIntOf, hx', hb.1, this, hsz, subA, add_mk]
      split <;> simp
    | some y =>
      have hy : ev l y = .int kh hi' := by simpa using hh
      simp [Instr.sliceAt, Instr.sureAddr, run_underlying hu, Instr.sliceBounds, Instr.sliceBound, asIntOf, hx', hy, h0, hb.1, hb.2.2, hsz, subA, add_mk]
      rw [if_pos (by omega)]
      congr 4
      split <;> rfl
end
end Go.Proofs.YtiohpiiiapjblaaGreatDoor.G
namespace Go.Proofs.YtiohpiiiapjblaaGreatDoor.G
open Go.RowKit
theorem and_nat (a b : Int) (n : Nat) (ha : 0 ≤ a ∧ a < (2 ^ n : Nat)) (hb : 0 ≤ b ∧ b < (2 ^ n : Nat)) : 0 ≤ iand a b ∧ iand a b < (2 ^ n : Nat) := by
  unfold iand
  refine ⟨by omega, ?_⟩
  have := Nat.and_lt_two_pow (x := a.toNat) (y := b.toNat) (n := n) (by omega)
  omega
theorem or_nat (a b : Int) (n : Nat) (ha : 0 ≤ a ∧ a < (2 ^ n : Nat)) (hb : 0 ≤ b ∧ b < (2 ^ n : Nat)) : 0 ≤ ior a b ∧ ior a b < (2 ^ n : Nat) := by
  unfold ior
  refine ⟨by omega, ?_⟩
  have := Nat.or_lt_two_pow (x := a.toNat) (y := b.toNat) (n := n) (by omega) (by omega)
  omega
theorem xor_nat (a b : Int) (n : Nat) (ha : 0 ≤ a ∧ a < (2 ^ n : Nat)) (hb : 0 ≤ b ∧ b < (2 ^ n : Nat)) : 0 ≤ ixor a b ∧ ixor a b < (2 ^ n : Nat) := by
  unfold ixor
  refine ⟨by omega, ?_⟩
  have := Nat.xor_lt_two_pow (x := a.toNat) (y := b.toNat) (n := n) (by omega) (by omega)
  omega
theorem shr_nat (a M : Int) (n : Nat) (ha : 0 ≤ a ∧ a < M) : 0 ≤ a / 2 ^ n ∧ a / 2 ^ n < M := by
  have hp : (0 : Int) ≤ 2 ^ n := Int.pow_nonneg (by decide)
  have h1 := Int.ediv_nonneg ha.1 hp
  have h2 := Int.ediv_le_self (2 ^ n) ha.1
  omega
abbrev Arr (k : IntKind) (n : Nat) (xs : List Int) : Prop := xs.length = n ∧ Bd k xs
theorem IArr.ofA {k : IntKind} {w : World} {b n : Nat} {xs : List Int} {T : TypeId} (h : Blk w b (ints k xs) T) (hl : Arr k n xs) : IArr k w b n xs [] T := .of h hl.1 hl.2
theorem IArr.ofT {k : IntKind} {w : World} {b n : Nat} {xs : List Int} {tl : List Value} {T : TypeId} (h : Blk w b (ints k xs ++ tl) T) (hl : Arr k n xs) : IArr k w b n xs tl T := ⟨h, hl.1, hl.2⟩
theorem IArr.arr {k : IntKind} {w : World} {b n : Nat} {xs : List Int} {tl : List Value} {T : TypeId} (h : IArr k w b n xs tl T) : Arr k n xs := ⟨h.len, h.bd⟩
theorem Arr.zeros (k : IntKind) (n : Nat) : Arr k n (List.replicate n 0) := ⟨by simp, Bd.zeros k n⟩
theorem IArr.all {k : IntKind} {w : World} {b n : Nat} {xs : List Int} {tl : List Value} {T : TypeId} (h : IArr k w b n xs tl T) : Cells w b 0 (ints k xs ++ tl) := h.blk.cells (by rw [List.drop_zero, List.take_length])
theorem IArr.allLen {k : IntKind} {w : World} {b n : Nat} {xs : List Int} {tl : List Value} {T : TypeId} (h : IArr k w b n xs tl T) {sz : Nat} (hs : n + tl.length = sz) : (ints k xs ++ tl).length = sz := by
  rw [List.length_append, ints_length, h.len]; exact hs
theorem IArr.tail {k : IntKind} {w : World} {b n : Nat} {xs : List Int} {tl : List Value} {T : TypeId} (h : IArr k w b n xs tl T) (j : Nat) {v : Value} (hv : tl[j]? = some v) : w.cell? ⟨b, n + j, none⟩ = some v := by
  refine h.blk.cell ?_
  rw [List.getElem?_append_right (by rw [ints_length, h.len]; omega), ints_length, h.len, show n + j - n = j by omega]
  exact hv
section
variable {P : Program} {ops : Array Oper} {R : World → World → Prop} {K : List Value → World → Prop} {rest : List Oper} {restX : List (Oper × Kd)} {l : List Value} {w : World} {d : Tmp} {dd : Option Tmp} {ty xt yt : TypeId} {pos : String} {af : Array Edge} {g : Option (Nat × Bool)} {x y : Operand} {a b : Int}
theorem D.band_u32 (hx : ev l x = .int .u32 a) (hy : ev l y = .int .u32 b) (ha : 0 ≤ a ∧ a < 4294967296) (hb : 0 ≤ b ∧ b < 4294967296) :
    ((execOp (ev l) ⟨dd, .binOp .and xt x y yt, ty, pos, af, g⟩).run P w = .ok (.value (.int .u32 (iand a b))) w) ∧ (0 ≤ iand a b ∧ iand a b < 4294967296) :=
  ⟨D.band hx hy rfl (by simp only [IntKind.bits]; omega) (by simp only [IntKind.bits]; omega), and_nat a b 32 ha hb⟩
theorem D.bor_u32 (hx : ev l x = .int .u32 a) (hy : ev l y = .int .u32 b) (ha : 0 ≤ a ∧ a < 4294967296) (hb : 0 ≤ b ∧ b < 4294967296) :
    ((execOp (ev l) ⟨dd, .binOp .or xt x y yt, ty, pos, af, g⟩).run P w = .ok (.value (.int .u32 (ior a b))) w) ∧ (0 ≤ ior a b ∧ ior a b < 4294967296) :=
  ⟨D.bor hx hy rfl (by simp only [IntKind.bits]; omega) (by simp only [IntKind.bits]; omega), or_nat a b 32 ha hb⟩
theorem D.bxor_u32 (hx : ev l x = .int .u32 a) (hy : ev l y = .int .u32 b) (ha : 0 ≤ a ∧ a < 4294967296) (hb : 0 ≤ b ∧ b < 4294967296) :
    ((execOp (ev l) ⟨dd, .binOp .xor xt x y yt, ty, pos, af, g⟩).run P w = .ok (.value (.int .u32 (ixor a b))) w) ∧ (0 ≤ ixor a b ∧ ixor a b < 4294967296) :=
  ⟨D.bxor hx hy rfl (by simp only [IntKind.bits]; omega) (by simp only [IntKind.bits]; omega), xor_nat a b 32 ha hb⟩
theorem D.shr_u32 {yk : IntKind} (hx : ev l x = .int .u32 a) (hy : ev l y = .int yk b) (ha : 0 ≤ a ∧ a < 4294967296) (hb : 0 ≤ b ∧ b ≤ 32) :
    ((execOp (ev l) ⟨dd, .binOp .shr xt x y yt, ty, pos, af, g⟩).run P w = .ok (.value (.int .u32 (a / 2 ^ b.toNat))) w) ∧ (0 ≤ a / 2 ^ b.toNat ∧ a / 2 ^ b.toNat < 4294967296) :=
  ⟨D.shr hx hy hb, shr_nat a 4294967296 b.toNat ha⟩
theorem D.band_u64 (hx : ev l x = .int .u64 a) (hy : ev l y = .int .u64 b) (ha : 0 ≤ a ∧ a < 18446744073709551616) (hb : 0 ≤ b ∧ b < 18446744073709551616) :
    ((execOp (ev l) ⟨dd, .binOp .and xt x y yt, ty, pos, af, g⟩).run P w = .ok (.value (.int .u64 (iand a b))) w) ∧ (0 ≤ iand a b ∧ iand a b < 18446744073709551616) :=
  ⟨D.band hx hy rfl (by simp only [IntKind.bits]; omega) (by simp only [IntKind.bits]; omega), and_nat a b 64 ha hb⟩
theorem D.bor_u64 (hx : ev l x = .int .u64 a) (hy : ev l y = .int .u64 b) (ha : 0 ≤ a ∧ a < 18446744073709551616) (hb : 0 ≤ b ∧ b < 18446744073709551616) :
    ((execOp (ev l) ⟨dd, .binOp .or xt x y yt, ty, pos, af, g⟩).run P w = .ok (.value (.int .u64 (ior a b))) w) ∧ (0 ≤ ior a b ∧ ior a b < 18446744073709551616) :=
  ⟨D.bor hx hy rfl (by simp only [IntKind.bits]; omega) (by simp only [IntKind.bits]; omega), or_nat a b 64 ha hb⟩
theorem D.bxor_u64 (hx : ev l x = .int .u64 a) (hy : ev l y = .int .u64 b) (ha : 0 ≤ a ∧ a < 18446744073709551616) (hb : 0 ≤ b ∧ b < 18446744073709551616) :
    ((execOp (ev l) ⟨dd, .binOp .xor xt x y yt, ty, pos, af, g⟩).run P w = .ok (.value (.int .u64 (ixor a b))) w) ∧ (0 ≤ ixor a b ∧ ixor a b < 18446744073709551616) :=
  ⟨D.bxor hx hy rfl (by simp only [IntKind.bits]; omega) (by simp only [IntKind.bits]; omega), xor_nat a b 64 ha hb⟩
theorem D.shr_u64 {yk : IntKind} (hx : ev l x = .int .u64 a) (hy : ev l y = .int yk b) (ha : 0 ≤ a ∧ a < 18446744073709551616) (hb : 0 ≤ b ∧ b ≤ 64) :
    ((execOp (ev l) ⟨dd, .binOp .shr xt x y yt, ty, pos, af, g⟩).run P w = .ok (.value (.int .u64 (a / 2 ^ b.toNat))) w) ∧ (0 ≤ a / 2 ^ b.toNat ∧ a / 2 ^ b.toNat < 18446744073709551616) :=
  ⟨D.shr hx hy hb, shr_nat a 18446744073709551616 b.toNat ha⟩
/-- A value, and what is known of it. -/
theorem RS.ob {op : Op} {v : Value} {φ : Prop} (hr : (execOp (ev l) ⟨some d, op, ty, pos, af, none⟩).run P w = .ok (.value v) w ∧ φ) {l' : List Value} (k : φ → RS P ops K rest l' w) (hl : l.set d v = l' := by dsimp only [List.set]) :
    RS P ops K (⟨some d, op, ty, pos, af, none⟩ :: rest) l w := RS.o hr.1 (k hr.2) hl
theorem RX.ob {op : Op} {v : Value} {φ : Prop} (hw0 : R w w) (hr : ∀ w', R w w' → (execOp (ev l) ⟨some d, op, ty, pos, af, none⟩).run P w' = .ok (.value v) w' ∧ φ) {l' : List Value} (k : φ → RX P ops R K restX l' w) (hl : l.set d v = l' := by dsimp only [List.set]) :
    RX P ops R K ((⟨some d, op, ty, pos, af, none⟩, .q) :: restX) l w := RX.o (fun w' hw => (hr w' hw).1) (k (hr w hw0).2) hl
theorem RS.storeT {b n : Nat} {k : IntKind} {xs : List Int} {tl : List Value} {T : TypeId} {v : Value} (hA : IArr k w b n xs tl T) (j : Nat) (hx : ev l x = .pointer (some ⟨b, n + j, none⟩)) (hy : ev l y = v) (hs : P.cellsOf xt = 1) (hv : cellB v = true) (hj : Nat.ble (j + 1) tl.length = true)
    (h : ∀ w', St b w w' → IArr k w' b n xs (tl.set j v) T → RS P ops K rest l w') : RS P ops K (⟨none, .store xt x y, ty, pos, af, none⟩ :: rest) l w := by
  have hl := hA.len
  have hj := Nat.le_of_ble_eq_true hj
  refine RS.store hx hy hs hv hA.blk (Nat.ble_eq_true_of_le (by simp [ints_length]; omega)) (fun w' y' N => h w' y' ⟨?_, hl, hA.bd⟩)
  rwa [List.set_append_right _ _ (by rw [ints_length]; omega), ints_length, hl, show n + j - n = j by omega] at N
theorem RS.storeRec {b n sz : Nat} {k : IntKind} {xs ys : List Int} {tl tl' : List Value} {T : TypeId} (hA : IArr k w b n xs tl T) (hx : ev l x = .pointer (some ⟨b, 0, none⟩)) (hy : ev l y = .agg (ints k ys ++ tl').toArray) (hs : P.cellsOf xt = sz) (hz : sz ≠ 0) (hl : Arr k n ys) (ht : tl'.length = tl.length) (hn : n + tl.length = sz)
    (hc : ∀ v ∈ tl', cellB v = true) (h : ∀ w', St b w w' → IArr k w' b n ys tl' T → RS P ops K rest l w') : RS P ops K (⟨none, .store xt x y, ty, pos, af, none⟩ :: rest) l w := by
  refine RS.storeWhole hx hy hs hz (by rw [List.length_append, ints_length, hl.1, ht]; exact hn) ?_ hA.blk (hA.allLen hn) (fun w' y' N => h w' y' ⟨N, hl.1, hl.2⟩)
  intro v hv
  rcases List.mem_append.1 hv with hv | hv
  · exact cellB_ints v hv
  · exact hc v hv
/-- An element of an array that is a value. -/
theorem RS.idxV {e n : Nat} {k ki : IntKind} {xs : List Int} {i : Int} {ed : TypeDesc} (hx : ev l x = .agg (ints k xs).toArray) (hy : ev l y = .int ki i) (hu : P.underlying xt = some (.array n e)) (he : P.underlying e = some ed)
    (hd : (match ed with | .struct _ | .array _ _ => true | _ => false) = false) (hs : P.cellsOf e = 1) (hi : 0 ≤ i ∧ i < n) (hn : xs.length = n) (hb : Bd k xs)
    (h : ∀ v, v = xs.getD i.toNat 0 → 0 ≤ v ∧ v < lim k → RS P ops K rest (l.set d (.int k v)) w) : RS P ops K (⟨some d, .index xt x y, ty, pos, af, none⟩ :: rest) l w := by
  refine RS.o (D.indexVal hx hy hu he hd hs hi ?_) (h _ rfl (hb.get _)) rfl
  simp [ints, List.getD_eq_getElem?_getD, List.getElem?_eq_getElem (show i.toNat < xs.length by omega)]
end
end Go.Proofs.YtiohpiiiapjblaaGreatDoor.G
namespace Go.Proofs.YtiohpiiiapjblaaGreatDoor.S
/-- A power modulo m. -/
def pw (a n m : Int) : Int := a ^ n.toNat % m
theorem pw_nonneg (a n m : Int) (hm : 0 < m) : 0 ≤ pw a n m := Int.emod_nonneg _ (by omega)
theorem pw_lt (a n m : Int) (hm : 0 < m) : pw a n m < m := Int.emod_lt_of_pos _ hm
theorem mul32 {a b : Int} (ha : 0 ≤ a ∧ a < 4294967296) (hb : 0 ≤ b ∧ b < 4294967296) : 0 ≤ a * b ∧ a * b < 18446744073709551616 := by
  refine ⟨Int.mul_nonneg ha.1 hb.1, ?_⟩
  have h1 : a * b ≤ 4294967295 * b := Int.mul_le_mul_of_nonneg_right (by omega) hb.1
  omega
/-- Is a number in the group? -/
def isG (a : Int) : Bool := decide (0 < a) && (decide (a < 1000000007) && (pw a 500000003 1000000007 == 1))
theorem pow_half (a : Int) (n : Nat) : a ^ n = (a * a) ^ (n / 2) * a ^ (n % 2) := by
  have h : n = 2 * (n / 2) + n % 2 := by omega
  have e : (a * a) = a ^ 2 := by rw [Int.pow_succ, Int.pow_succ, Int.pow_zero, Int.one_mul]
  conv => lhs; rw [h]
  rw [Int.pow_add, Int.pow_mul, e]
theorem mod_pow (a m : Int) (n : Nat) : (a % m) ^ n % m = a ^ n % m := by
  induction n with
  | zero => rw [Int.pow_zero, Int.pow_zero]
  | succ n ih => rw [Int.pow_succ, Int.pow_succ, Int.mul_emod, ih, Int.emod_emod_of_dvd _ (Int.dvd_refl m), ← Int.mul_emod]
theorem power_odd (a r m : Int) (n : Int) (hn : 0 ≤ n) (ho : n % 2 = 1) : (r * a % m) * (a * a % m) ^ (n / 2).toNat % m = r * a ^ n.toNat % m := by
  have h2 : n.toNat % 2 = 1 := by omega
  have h3 : (n / 2).toNat = n.toNat / 2 := by omega
  rw [Int.mul_emod, mod_pow, Int.emod_emod_of_dvd _ (Int.dvd_refl m), ← Int.mul_emod, pow_half a n.toNat, h2, h3]
  congr 1
  rw [Int.pow_succ, Int.pow_zero, Int.one_mul, Int.mul_assoc, Int.mul_comm a]
theorem power_even (a r m : Int) (n : Int) (hn : 0 ≤ n) (ho : ¬ n % 2 = 1) : r * (a * a % m) ^ (n / 2).toNat % m = r * a ^ n.toNat % m := by
  have h2 : n.toNat % 2 = 0 := by omega
  have h3 : (n / 2).toNat = n.toNat / 2 := by omega
  rw [Int.mul_emod, mod_pow, ← Int.mul_emod, pow_half a n.toNat, h2, h3, Int.pow_zero, Int.mul_one]
/-- The first k digits of n, from the highest one of 64. -/
def hi64 (n : Int) (k : Nat) : Int := n / 2 ^ (64 - k)
theorem hi64_zero (n : Int) (h : 0 ≤ n ∧ n < 18446744073709551616) : hi64 n 0 = 0 := by
  unfold hi64
  exact Int.ediv_eq_zero_of_lt h.1 (by have : (2 : Int) ^ (64 - 0) = 18446744073709551616 := by decide
                                       rw [this]; exact h.2)
theorem hi64_all (n : Int) : hi64 n 64 = n := by unfold hi64; simp
theorem hi64_succ (n : Int) (k : Nat) (_h0 : 0 ≤ n) (hk : k < 64) : hi64 n (k + 1) = 2 * hi64 n k + n / 2 ^ (63 - k) % 2 := by
  unfold hi64
  have e : 64 - k = (63 - k) + 1 := by omega
  rw [show 64 - (k + 1) = 63 - k by omega, e, Int.pow_succ, ← Int.ediv_ediv_of_nonneg (Int.pow_nonneg (by decide))]
  omega
theorem hi64_nonneg (n : Int) (k : Nat) (h0 : 0 ≤ n) : 0 ≤ hi64 n k := Int.ediv_nonneg h0 (Int.pow_nonneg (by decide))
theorem pw_step_one (a n m : Int) (k : Nat) (h0 : 0 ≤ n) (hk : k < 64) (hb : n / 2 ^ (63 - k) % 2 = 1) : pw a (hi64 n k) m * pw a (hi64 n k) m % m * a % m = pw a (hi64 n (k + 1)) m := by
  have h := hi64_nonneg n k h0
  unfold pw
  rw [hi64_succ n k h0 hk, hb, show (2 * hi64 n k + 1).toNat = (hi64 n k).toNat + (hi64 n k).toNat + 1 by omega, Int.pow_succ, Int.pow_add, ← Int.mul_emod, Int.mul_emod, Int.emod_emod_of_dvd _ (Int.dvd_refl m), ← Int.mul_emod]
theorem pw_step_zero (a n m : Int) (k : Nat) (h0 : 0 ≤ n) (hk : k < 64) (hb : n / 2 ^ (63 - k) % 2 = 0) : pw a (hi64 n k) m * pw a (hi64 n k) m % m = pw a (hi64 n (k + 1)) m := by
  have h := hi64_nonneg n k h0
  unfold pw
  rw [hi64_succ n k h0 hk, hb, show (2 * hi64 n k + 0).toNat = (hi64 n k).toNat + (hi64 n k).toNat by omega, Int.pow_add, ← Int.mul_emod]
theorem iand_one (a : Int) (h : 0 ≤ a) : G.iand a 1 = a % 2 := by
  unfold G.iand
  rw [show (1 : Int).toNat = 1 from rfl, Nat.and_one_is_mod]
  omega
theorem shr_bd {a M : Int} (k : Nat) (h : 0 ≤ a ∧ a < M) : 0 ≤ a / 2 ^ k ∧ a / 2 ^ k < M := by
  have hp : (0 : Int) ≤ 2 ^ k := Int.pow_nonneg (by decide)
  have h1 := Int.ediv_nonneg h.1 hp
  have h2 := Int.ediv_le_self (2 ^ k) h.1
  omega
theorem bit_one (n i : Int) (hn : 0 ≤ n) (hi : 0 ≤ i ∧ i < 64) (h : G.iand (n / 2 ^ (63 - i).toNat) 1 = 1) : n / 2 ^ (63 - i.toNat) % 2 = 1 := by
  rw [iand_one _ (Int.ediv_nonneg hn (Int.pow_nonneg (by decide))), show (63 - i).toNat = 63 - i.toNat by omega] at h
  exact h
theorem bit_zero (n i : Int) (hn : 0 ≤ n) (hi : 0 ≤ i ∧ i < 64) (h : ¬ G.iand (n / 2 ^ (63 - i).toNat) 1 = 1) : n / 2 ^ (63 - i.toNat) % 2 = 0 := by
  rw [iand_one _ (Int.ediv_nonneg hn (Int.pow_nonneg (by decide))), show (63 - i).toNat = 63 - i.toNat by omega] at h
  omega
/-- A product of numbers modulo m, one after the other. -/
def mulf (m : Int) (xs : List Int) : Int := xs.foldl (fun o x => o * x % m) 1
theorem mulf_succ (m : Int) (xs : List Int) (k : Nat) (h : k < xs.length) : mulf m (xs.take (k + 1)) = mulf m (xs.take k) * xs.getD k 0 % m := by
  rw [List.take_succ_eq_append_getElem h, mulf, List.foldl_append]
  simp [mulf, List.getD_eq_getElem?_getD, List.getElem?_eq_getElem h]
theorem mulf_two (m x y : Int) : mulf m [x, y] = x * y % m := by
  simp only [mulf, List.foldl, Int.one_mul]
  rw [Int.mul_emod, Int.emod_emod_of_dvd _ (Int.dvd_refl m), ← Int.mul_emod]
def allG (xs : List Int) : Bool := xs.all isG
theorem allG_take (xs : List Int) (k : Nat) (h : k < xs.length) (ht : allG (xs.take k) = true) : allG (xs.take (k + 1)) = isG (xs.getD k 0) := by
  unfold allG at *
  rw [List.take_succ_eq_append_getElem h, List.all_append, ht]
  simp [List.getD_eq_getElem?_getD, List.getElem?_eq_getElem h]
theorem allG_false (xs : List Int) (k : Nat) (h : k < xs.length) (hf : isG (xs.getD k 0) = false) : allG xs = false := by
  unfold allG
  rw [List.all_eq_false]
  refine ⟨xs[k], List.getElem_mem h, ?_⟩
  rw [List.getD_eq_getElem?_getD, List.getElem?_eq_getElem h] at hf
  simpa using hf
theorem isG_true {a : Int} (h1 : 0 < a) (h2 : a < 1000000007) : isG a = (pw a 500000003 1000000007 == 1) := by simp [isG, h1, h2]
theorem isG_lo {a : Int} (h1 : ¬ 0 < a) : isG a = false := by simp [isG, h1]
theorem isG_hi {a : Int} (h1 : ¬ a < 1000000007) : isG a = false := by simp [isG, h1]
theorem allG_one (a : Int) : allG [a] = isG a := by simp [allG]
theorem allG_two (a b : Int) : allG [a, b] = (isG a && isG b) := by simp [allG]
theorem isG_bd {a : Int} (h : isG a = true) : 0 < a ∧ a < 1000000007 := by
  simp [isG] at h
  exact ⟨h.1, h.2.1⟩
end Go.Proofs.YtiohpiiiapjblaaGreatDoor.S
namespace Go.Proofs.YtiohpiiiapjblaaGreatDoor.S
open G
/-- A word turned right. -/
def rotr (x n : Int) : Int := ior (x / 2 ^ n.toNat) (x * 2 ^ (32 - n).toNat % 4294967296)
theorem ior_comm (a b : Int) : ior a b = ior b a := by unfold ior; rw [Nat.or_comm]
theorem rotr_bd (x n : Int) (hx : 0 ≤ x ∧ x < 4294967296) : 0 ≤ rotr x n ∧ rotr x n < 4294967296 :=
  or_nat _ _ 32 (shr_nat x _ n.toNat hx) ⟨Int.emod_nonneg _ (by decide), Int.emod_lt_of_pos _ (by decide)⟩
theorem rot_amt (n : Int) (h : 0 < n ∧ n < 32) : iand (-n % 18446744073709551616) 31 = 32 - n := by
  have e : -n % 18446744073709551616 = 18446744073709551616 - n := by omega
  have h31 : (31 : Int).toNat = 2 ^ 5 - 1 := rfl
  unfold iand
  rw [e, h31, Nat.and_two_pow_sub_one_eq_mod]
  omega
theorem rotr_eq (x n : Int) (_h : 0 < n ∧ n < 32) : ior (x * 2 ^ (32 - n).toNat % 4294967296) (x / 2 ^ (32 - (32 - n)).toNat) = rotr x n := by
  rw [ior_comm, show 32 - (32 - n) = n by omega]
  rfl
def mix (x i j k : Int) : Int := ixor (ixor (rotr x i) (rotr x j)) (rotr x k)
theorem mix_bd (x i j k : Int) (hx : 0 ≤ x ∧ x < 4294967296) : 0 ≤ mix x i j k ∧ mix x i j k < 4294967296 :=
  xor_nat _ _ 32 (xor_nat _ _ 32 (rotr_bd x i hx) (rotr_bd x j hx)) (rotr_bd x k hx)
/-- The first words of a digest. -/
def IV : List Int := [1779033703, 3144134277, 1013904242, 2773480762, 1359893119, 2600822924, 528734635, 1541459225]
/-- The constants. -/
def KK : List Int := [
  0x428a2f98, 0x71374491, 0xb5c0fbcf, 0xe9b5dba5, 0x3956c25b, 0x59f111f1, 0x923f82a4, 0xab1c5ed5,
  0xd807aa98, 0x12835b01, 0x243185be, 0x550c7dc3, 0x72be5d74, 0x80deb1fe, 0x9bdc06a7, 0xc19bf174,
  0xe49b69c1, 0xefbe4786, 0x0fc19dc6, 0x240ca1cc, 0x2de92c6f, 0x4a7484aa, 0x5cb0a9dc, 0x76f988da,
  0x983e5152, 0xa831c66d, 0xb00327c8, 0xbf597fc7, 0xc6e00bf3, 0xd5a79147, 0x06ca6351, 0x14292967,
  0x27b70a85, 0x2e1b2138, 0x4d2c6dfc, 0x53380d13, 0x650a7354, 0x766a0abb, 0x81c2c92e, 0x92722c85,
  0xa2bfe8a1, 0xa81a664b, 0xc24b8b70, 0xc76c51a3, 0xd192e819, 0xd6990624, 0xf40e3585, 0x106aa070,
  0x19a4c116, 0x1e376c08, 0x2748774c, 0x34b0bcb5, 0x391c0cb3, 0x4ed8aa4a, 0x5b9cca4f, 0x682e6ff3,
  0x748f82ee, 0x78a5636f, 0x84c87814, 0x8cc70208, 0x90befffa, 0xa4506ceb, 0xbef9a3f7, 0xc67178f2]
/-- Bytes, read as one number. -/
def be (xs : List Int) : Int := xs.foldl (fun a x => a * 256 + x) 0
theorem be_snoc (xs : List Int) (x : Int) : be (xs ++ [x]) = be xs * 256 + x := by simp [be, List.foldl_append]
theorem be_go : ∀ (xs : List Int) (a : Int), 0 ≤ a → Bd .u8 xs → 0 ≤ xs.foldl (fun a x => a * 256 + x) a ∧ xs.foldl (fun a x => a * 256 + x) a < (a + 1) * 256 ^ xs.length
  | [], a, ha, _ => by simp; omega
  | x :: xs, a, ha, h => by
    have h2 := h x (by simp)
    simp only [lim] at h2
    have ih := be_go xs (a * 256 + x) (by omega) (fun y hy => h y (by simp [hy]))
    refine ⟨ih.1, Int.lt_of_lt_of_le ih.2 ?_⟩
    rw [List.length_cons, Int.pow_succ, Int.mul_comm (256 ^ xs.length), ← Int.mul_assoc]
    exact Int.mul_le_mul_of_nonneg_right (by omega) (Int.pow_nonneg (by decide))
theorem be_bd (xs : List Int) (h : Bd .u8 xs) : 0 ≤ be xs ∧ be xs < 256 ^ xs.length := by
  have := be_go xs 0 (Int.le_refl _) h
  simpa [be] using this
theorem ior_add (a x : Int) (ha : 0 ≤ a) (hx : 0 ≤ x ∧ x < 256) : ior (a * 256) x = a * 256 + x := by
  unfold ior
  have h := Nat.shiftLeft_add_eq_or_of_lt (i := 8) (b := x.toNat) (by omega) a.toNat
  rw [show (a * 256).toNat = a.toNat <<< 8 by rw [Nat.shiftLeft_eq]; omega, ← h, Nat.shiftLeft_eq]
  omega
end Go.Proofs.YtiohpiiiapjblaaGreatDoor.S
namespace Go.Proofs.YtiohpiiiapjblaaGreatDoor.S
open G
def s0 (x : Int) : Int := ixor (ixor (rotr x 7) (rotr x 18)) (x / 2 ^ (3 : Int).toNat)
def s1 (x : Int) : Int := ixor (ixor (rotr x 17) (rotr x 19)) (x / 2 ^ (10 : Int).toNat)
def words (b : List Int) : List Int := (List.range 16).map fun t => be ((b.drop (4 * t)).take 4)
def nextW (ws : List Int) (t : Int) : Int :=
  (((ws.getD (t - 16).toNat 0 + ws.getD (t - 7).toNat 0) % 4294967296 + s0 (ws.getD (t - 15).toNat 0)) % 4294967296 + s1 (ws.getD (t - 2).toNat 0)) % 4294967296
def sch (b : List Int) : Nat → List Int
  | 0 => words b
  | n + 1 => sch b n ++ [nextW (sch b n) (n + 16 : Nat)]
theorem sch_len (b : List Int) : ∀ n, (sch b n).length = n + 16
  | 0 => by simp [sch, words]
  | n + 1 => by rw [sch, List.length_append, sch_len b n, List.length_singleton]
/-- The words while the bytes come. -/
def PW (b : List Int) (i : Nat) (W : List Int) : Prop := ∀ t, t < 64 → W.getD t 0 = be (((b.take i).drop (4 * t)).take 4)
theorem PW_zero (b : List Int) : PW b 0 (List.replicate 64 0) := by
  intro t ht
  rw [List.getD_eq_getElem?_getD, List.getElem?_replicate, if_pos ht, List.take_zero, List.drop_nil, List.take_nil]
  rfl
theorem pow256 {m n : Nat} (h : m ≤ n) : (256 : Int) ^ m ≤ 256 ^ n := by
  have := Nat.pow_le_pow_right (show 0 < 256 by decide) h
  have e : ∀ k : Nat, (256 : Int) ^ k = ((256 ^ k : Nat) : Int) := fun k => (Int.natCast_pow 256 k).symm
  rw [e, e]
  omega
theorem getD_set (W : List Int) (i j : Nat) (v : Int) (hi : i < W.length) : (W.set i v).getD j 0 = if i = j then v else W.getD j 0 := by
  simp only [List.getD_eq_getElem?_getD, List.getElem?_set]
  split
  · rename_i h; subst h; simp
  · rfl
theorem PW_step (b W : List Int) (i x : Int) (hi : 0 ≤ i ∧ i < 64) (hW : W.length = 64) (hb : 64 ≤ b.length) (hB : Bd .u8 b) (hx : x = b.getD i.toNat 0) (h : PW b i.toNat W) :
    PW b (i + 1).toNat (W.set (i / 4).toNat (ior (W.getD (i / 4).toNat 0 * 2 ^ (8 : Int).toNat % 4294967296) x)) := by
  intro t ht
  have hx2 := hB.get i.toNat
  rw [← hx] at hx2
  simp only [lim] at hx2
  rw [getD_set _ _ _ _ (by omega)]
  have e1 : b.take (i + 1).toNat = b.take i.toNat ++ [x] := by
    rw [show (i + 1).toNat = i.toNat + 1 by omega, List.take_succ_eq_append_getElem (by omega), hx]
    simp [List.getD_eq_getElem?_getD, List.getElem?_eq_getElem (show i.toNat < b.length by omega)]
  have hl : (b.take i.toNat).length = i.toNat := by simp; omega
  have key : ((b.take i.toNat ++ [x]).drop (4 * t)) = if 4 * t ≤ i.toNat then (b.take i.toNat).drop (4 * t) ++ [x] else [] := by
    split
    · rw [List.drop_append_of_le_length (by omega)]
    · exact List.drop_eq_nil_of_le (by rw [List.length_append, hl, List.length_singleton]; omega)
  have hd : ((b.take i.toNat).drop (4 * t)).length = i.toNat - 4 * t := by rw [List.length_drop, hl]
  have hbd := be_bd _ ((hB.take i.toNat).drop (4 * t))
  have hWt := h t ht
  rw [e1, key]
  generalize (b.take i.toNat).drop (4 * t) = D at *
  split
  · rename_i he
    rw [he, hWt]
    rw [if_pos (by omega), List.take_of_length_le (by omega), List.take_of_length_le (by rw [List.length_append, List.length_singleton]; omega), be_snoc]
    rw [hd] at hbd
    have hp : (256 : Int) ^ (i.toNat - 4 * t) ≤ 256 ^ 3 := pow256 (by omega)
    have h256 : (256 : Int) ^ 3 = 16777216 := by decide
    have h8 : (2 : Int) ^ (8 : Int).toNat = 256 := by decide
    rw [h8, Int.emod_eq_of_lt (by omega) (by omega)]
    exact ior_add _ _ hbd.1 hx2
  · rename_i he
    rw [hWt]
    split
    · rw [List.take_append_of_le_length (by omega)]
    · obtain rfl : D = [] := List.length_eq_zero_iff.1 (by omega)
      rfl
theorem take_words (b W : List Int) (_hb : 64 ≤ b.length) (hW : W.length = 64) (h : PW b 64 W) : W.take 16 = sch b 0 := by
  rw [sch]
  apply List.ext_getElem
  · simp [words, hW]
  intro t h1 h2
  have ht : t < 16 := by simp at h1; omega
  have := h t (by omega)
  rw [List.getD_eq_getElem?_getD, List.getElem?_eq_getElem (by omega)] at this
  simp only [List.getElem_take, words, List.getElem_map, List.getElem_range]
  rw [show W[t] = _ from this, List.drop_take, List.take_take, show min 4 (64 - 4 * t) = 4 by omega]
theorem nextW_bd (ws : List Int) (t : Int) : 0 ≤ nextW ws t ∧ nextW ws t < 4294967296 := ⟨Int.emod_nonneg _ (by decide), Int.emod_lt_of_pos _ (by decide)⟩
theorem words_bd (b : List Int) (hB : Bd .u8 b) : Bd .u32 (words b) := by
  intro x hx
  obtain ⟨t, _, rfl⟩ := List.mem_map.1 hx
  have h := be_bd _ ((hB.drop (4 * t)).take 4)
  have hp : (256 : Int) ^ ((b.drop (4 * t)).take 4).length ≤ 256 ^ 4 := pow256 (by simp; omega)
  have h256 : (256 : Int) ^ 4 = 4294967296 := by decide
  simp only [lim]
  omega
theorem sch_bd (b : List Int) (hB : Bd .u8 b) : ∀ n, Bd .u32 (sch b n)
  | 0 => words_bd b hB
  | n + 1 => (sch_bd b hB n).append (by intro x hx; obtain rfl := List.mem_singleton.1 hx; exact nextW_bd _ _)
theorem sch_arr (b : List Int) (hB : Bd .u8 b) : Arr .u32 64 (sch b 48) := ⟨sch_len b 48, sch_bd b hB 48⟩
theorem take_getD (W : List Int) (n j : Nat) (h : j < n) : (W.take n).getD j 0 = W.getD j 0 := by
  simp [List.getD_eq_getElem?_getD, h]
theorem take64 (b : List Int) (i : Int) (h : 0 ≤ i ∧ i < 64) : ((b.drop 0).take (64 - 0)).getD i.toNat 0 = b.getD i.toNat 0 := by
  rw [List.drop_zero, take_getD _ _ _ (by omega)]
theorem sch_step (b W : List Int) (t : Int) (ht : 16 ≤ t ∧ t < 64) (hW : W.length = 64) (h : W.take t.toNat = sch b (t.toNat - 16)) :
    (W.set t.toNat (nextW W t)).take (t + 1).toNat = sch b ((t + 1).toNat - 16) := by
  rw [show (t + 1).toNat = t.toNat + 1 by omega, List.take_succ_eq_append_getElem (by rw [List.length_set]; omega), List.getElem_set_self, List.take_set_of_le (Nat.le_refl _), h,
    show t.toNat + 1 - 16 = (t.toNat - 16) + 1 by omega, sch]
  congr 2
  have e : ((t.toNat - 16 + 16 : Nat) : Int) = t := by omega
  rw [e, ← h]
  unfold nextW
  rw [take_getD _ _ _ (by omega), take_getD _ _ _ (by omega), take_getD _ _ _ (by omega), take_getD _ _ _ (by omega)]
/-- The eight words that the rounds turn over. -/
structure H8 where
  (a b c d e f g h : Int)
def H8.toL (s : H8) : List Int := [s.a, s.b, s.c, s.d, s.e, s.f, s.g, s.h]
def W32 (x : Int) : Prop := 0 ≤ x ∧ x < 4294967296
def H8.ok (s : H8) : Prop := W32 s.a ∧ W32 s.b ∧ W32 s.c ∧ W32 s.d ∧ W32 s.e ∧ W32 s.f ∧ W32 s.g ∧ W32 s.h
def H8.of (h : List Int) : H8 := ⟨h.getD 0 0, h.getD 1 0, h.getD 2 0, h.getD 3 0, h.getD 4 0, h.getD 5 0, h.getD 6 0, h.getD 7 0⟩
theorem H8.of_ok (h : List Int) (hb : Bd .u32 h) : (H8.of h).ok := ⟨hb.get 0, hb.get 1, hb.get 2, hb.get 3, hb.get 4, hb.get 5, hb.get 6, hb.get 7⟩
def pp (k w : Int) (s : H8) : Int := ((((s.h + mix s.e 6 11 25) % 4294967296 + ixor (iand s.e s.f) (iand (4294967295 - s.e) s.g)) % 4294967296 + k) % 4294967296 + w) % 4294967296
def qq (s : H8) : Int := (mix s.a 2 13 22 + ixor (ixor (iand s.a s.b) (iand s.a s.c)) (iand s.b s.c)) % 4294967296
def rnd (k w : Int) (s : H8) : H8 := ⟨(pp k w s + qq s) % 4294967296, s.a, s.b, s.c, (s.d + pp k w s) % 4294967296, s.e, s.f, s.g⟩
theorem mod_bd (x : Int) : W32 (x % 4294967296) := ⟨Int.emod_nonneg _ (by decide), Int.emod_lt_of_pos _ (by decide)⟩
theorem rnd_ok (k w : Int) (s : H8) (h : s.ok) : (rnd k w s).ok := ⟨mod_bd _, h.1, h.2.1, h.2.2.1, mod_bd _, h.2.2.2.2.1, h.2.2.2.2.2.1, h.2.2.2.2.2.2.1⟩
def rounds (ws : List Int) (s : H8) : Nat → H8
  | 0 => s
  | n + 1 => rnd (KK.getD n 0) (ws.getD n 0) (rounds ws s n)
theorem rounds_ok (ws : List Int) (s : H8) (h : s.ok) : ∀ n, (rounds ws s n).ok
  | 0 => h
  | n + 1 => rnd_ok _ _ _ (rounds_ok ws s h n)
theorem ok_arr (s : H8) (h : s.ok) : Arr .u32 8 s.toL := by
  refine ⟨rfl, ?_⟩
  obtain ⟨o1, o2, o3, o4, o5, o6, o7, o8⟩ := h
  intro x hx
  simp only [H8.toL, List.mem_cons, List.not_mem_nil, or_false] at hx
  rcases hx with rfl | rfl | rfl | rfl | rfl | rfl | rfl | rfl <;> assumption
/-- The words behind those of a block. -/
def addW (h v : List Int) : List Int := (List.range 8).map fun i => (h.getD i 0 + v.getD i 0) % 4294967296
def grind (h b : List Int) : List Int := addW h (rounds (sch b 48) (H8.of h) 64).toL
theorem grind_arr (h b : List Int) : Arr .u32 8 (grind h b) := by
  refine ⟨by simp [grind, addW], ?_⟩
  intro x hx
  obtain ⟨i, _, rfl⟩ := List.mem_map.1 hx
  exact mod_bd _
theorem add_step (h v xs : List Int) (i : Int) (hi : 0 ≤ i ∧ i < 8) (_hl : xs.length = 8) (h1 : xs = (addW h v).take i.toNat ++ h.drop i.toNat) (hh : h.length = 8) :
    xs.set i.toNat ((xs.getD i.toNat 0 + v.getD i.toNat 0) % 4294967296) = (addW h v).take (i + 1).toNat ++ h.drop (i + 1).toNat := by
  have ha : (addW h v).length = 8 := by simp [addW]
  have ht : ((addW h v).take i.toNat).length = i.toNat := by simp [ha]; omega
  have e1 : xs.getD i.toNat 0 = h.getD i.toNat 0 := by
    rw [h1, List.getD_eq_getElem?_getD, List.getElem?_append_right (by omega), ht, List.getElem?_drop, ← List.getD_eq_getElem?_getD]
    congr 1; omega
  rw [e1, h1, List.set_append_right _ _ (by omega), ht, Nat.sub_self, show (i + 1).toNat = i.toNat + 1 by omega, List.take_succ_eq_append_getElem (by omega), List.append_assoc]
  congr 1
  rw [List.drop_eq_getElem_cons (show i.toNat < h.length by omega), List.set_cons_zero]
  simp [addW]
theorem rounds_zero (ws : List Int) (s : H8) : rounds ws s 0 = s := rfl
theorem rounds_succ (ws : List Int) (s : H8) (n : Nat) : rounds ws s (n + 1) = rnd (KK.getD n 0) (ws.getD n 0) (rounds ws s n) := rfl
theorem grind_eq (h b : List Int) : grind h b = addW h (rounds (sch b 48) (H8.of h) 64).toL := rfl
theorem addW_len (h v : List Int) : (addW h v).length = 8 := by simp [addW]
attribute [irreducible] sch rounds words addW grind
end Go.Proofs.YtiohpiiiapjblaaGreatDoor.S
namespace Go.Proofs.YtiohpiiiapjblaaGreatDoor.S
open G
theorem words_append (a b : List Int) (h : 64 ≤ a.length) : words (a ++ b) = words a := by
  unfold words
  apply List.map_congr_left
  intro t ht
  have ht := List.mem_range.1 ht
  rw [List.drop_append_of_le_length (by omega), List.take_append_of_le_length (by rw [List.length_drop]; omega)]
theorem sch_congr {a b : List Int} (h : words a = words b) : ∀ n, sch a n = sch b n
  | 0 => by rw [sch, sch, h]
  | n + 1 => by rw [sch, sch, sch_congr h n]
theorem grind_append (h a b : List Int) (hl : 64 ≤ a.length) : grind h (a ++ b) = grind h a := by
  rw [grind_eq, grind_eq, sch_congr (words_append a b hl)]
def blocksN : Nat → List Int → List Int → List Int
  | 0, h, _ => h
  | n + 1, h, bs => blocksN n (grind h bs) (bs.drop 64)
/-- The words after all whole blocks. -/
def blocksS (h bs : List Int) : List Int := blocksN (bs.length / 64) h bs
/-- What lies behind the whole blocks. -/
def restS (bs : List Int) : List Int := bs.drop (bs.length / 64 * 64)
theorem blocks_lt (h bs : List Int) (hl : bs.length < 64) : blocksS h bs = h := by
  unfold blocksS; rw [Nat.div_eq_of_lt hl]; rfl
theorem rest_lt (bs : List Int) (hl : bs.length < 64) : restS bs = bs := by
  unfold restS; rw [Nat.div_eq_of_lt hl, Nat.zero_mul]; rfl
theorem blocks_ge (h bs : List Int) (hl : 64 ≤ bs.length) : blocksS (grind h bs) (bs.drop 64) = blocksS h bs := by
  unfold blocksS
  obtain ⟨k, hk⟩ : ∃ k, bs.length / 64 = k + 1 := ⟨bs.length / 64 - 1, by omega⟩
  rw [hk, List.length_drop, show (bs.length - 64) / 64 = k by omega]
  rfl
theorem rest_ge (bs : List Int) (hl : 64 ≤ bs.length) : restS (bs.drop 64) = restS bs := by
  unfold restS
  rw [List.drop_drop, List.length_drop]
  congr 1
  omega
theorem blocks_arr (h bs : List Int) (ha : Arr .u32 8 h) : Arr .u32 8 (blocksS h bs) := by
  unfold blocksS
  generalize bs.length / 64 = n
  induction n generalizing h bs with
  | zero => exact ha
  | succ n ih => exact ih _ _ (grind_arr _ _)
theorem blocks_append : ∀ (n : Nat) (h a b : List Int), a.length / 64 = n → blocksS h (a ++ b) = blocksS (blocksS h a) (restS a ++ b)
  | 0, h, a, b, hn => by rw [blocks_lt h a (by omega), rest_lt a (by omega)]
  | n + 1, h, a, b, hn => by
    rw [← blocks_ge h a (by omega), ← rest_ge a (by omega), ← blocks_ge h (a ++ b) (by rw [List.length_append]; omega), List.drop_append_of_le_length (by omega), grind_append _ _ _ (by omega)]
    exact blocks_append n _ _ b (by rw [List.length_drop]; omega)
theorem rest_append : ∀ (n : Nat) (a b : List Int), a.length / 64 = n → restS (a ++ b) = restS (restS a ++ b)
  | 0, a, b, hn => by rw [rest_lt a (by omega)]
  | n + 1, a, b, hn => by
    rw [← rest_ge a (by omega), ← rest_ge (a ++ b) (by rw [List.length_append]; omega), List.drop_append_of_le_length (by omega)]
    exact rest_append n _ b (by rw [List.length_drop]; omega)
theorem rest_le (bs : List Int) : (restS bs).length ≤ bs.length := by
  unfold restS; rw [List.length_drop]; omega
/-- A number in eight bytes. -/
def be8 (n : Int) : List Int := (List.range 8).map fun i => n / 2 ^ (56 - 8 * i) % 256
/-- What comes behind n bytes. -/
def padS (n : Int) : List Int := (128 :: List.replicate ((119 - n % 64) % 64).toNat 0) ++ be8 (8 * n)
/-- The bytes of eight words. -/
def outS (h : List Int) : List Int := (List.range 32).map fun i => h.getD (i / 4) 0 / 2 ^ (24 - 8 * (i % 4)) % 256
/-- THE DIGEST. -/
def sha (bs : List Int) : List Int := outS (blocksS IV (bs ++ padS bs.length))
theorem byte_bd (x : Int) : 0 ≤ x % 256 ∧ x % 256 < 256 := ⟨Int.emod_nonneg _ (by decide), Int.emod_lt_of_pos _ (by decide)⟩
theorem be8_len (n : Int) : (be8 n).length = 8 := by simp [be8]
theorem out_arr (h : List Int) : Arr .u8 32 (outS h) := by
  refine ⟨by simp [outS], ?_⟩
  intro x hx
  obtain ⟨i, _, rfl⟩ := List.mem_map.1 hx
  exact byte_bd _
theorem sha_arr (bs : List Int) : Arr .u8 32 (sha bs) := out_arr _
theorem sha_eq (bs : List Int) (n : Int) (hn : n = bs.length) : outS (blocksS (blocksS IV bs) (restS bs ++ padS n)) = sha bs := by
  subst hn
  rw [← blocks_append _ _ _ _ rfl]
  rfl
theorem IV_arr : Arr .u32 8 IV := by
  refine ⟨rfl, ?_⟩
  intro x hx
  simp only [IV, List.mem_cons, List.not_mem_nil, or_false] at hx
  rcases hx with rfl | rfl | rfl | rfl | rfl | rfl | rfl | rfl <;> exact ⟨by decide, by decide⟩
/-- A list that is filled place by place. -/
theorem set_step {ys xs : List Int} (z : List Int) (i : Nat) (hx : xs = ys.take i ++ z.drop i) (hi : i < ys.length) (hz : z.length = ys.length) :
    xs.set i (ys.getD i 0) = ys.take (i + 1) ++ z.drop (i + 1) := by
  have ht : (ys.take i).length = i := by rw [List.length_take]; omega
  rw [hx, List.set_append_right _ _ (by omega), ht, Nat.sub_self, List.take_succ_eq_append_getElem hi, List.append_assoc, List.drop_eq_getElem_cons (show i < z.length by omega), List.set_cons_zero]
  congr 1
  simp [List.getD_eq_getElem?_getD, List.getElem?_eq_getElem hi]
theorem out_get (h : List Int) (i : Nat) (hi : i < 32) : (outS h).getD i 0 = h.getD (i / 4) 0 / 2 ^ (24 - 8 * (i % 4)) % 256 := by
  simp only [outS, List.getD_eq_getElem?_getD, List.getElem?_map, List.getElem?_range hi, Option.map_some, Option.getD_some]
theorem be8_get (n : Int) (i : Nat) (hi : i < 8) : (be8 n).getD i 0 = n / 2 ^ (56 - 8 * i) % 256 := by
  simp only [be8, List.getD_eq_getElem?_getD, List.getElem?_map, List.getElem?_range hi, Option.map_some, Option.getD_some]
theorem take_snoc (ys : List Int) (i : Nat) (hi : i < ys.length) : ys.take (i + 1) = ys.take i ++ [ys.getD i 0] := by
  rw [List.take_succ_eq_append_getElem hi]
  simp [List.getD_eq_getElem?_getD, List.getElem?_eq_getElem hi]
theorem be8_snoc (n i : Int) (hi : 0 ≤ i ∧ i ≤ 56) (h8 : i % 8 = 0) : (be8 n).take ((56 - (i - 8)) / 8).toNat = (be8 n).take ((56 - i) / 8).toNat ++ [n / 2 ^ i.toNat % 256] := by
  rw [show ((56 - (i - 8)) / 8).toNat = ((56 - i) / 8).toNat + 1 by omega, take_snoc _ _ (by rw [be8_len]; omega), be8_get _ _ (by omega), show 56 - 8 * ((56 - i) / 8).toNat = i.toNat by omega]
theorem out_step (h ids : List Int) (i w : Int) (hi : 0 ≤ i ∧ i < 8) (hw : w = h.getD i.toNat 0) (he : ids = (outS h).take (4 * i).toNat ++ (List.replicate 32 0).drop (4 * i).toNat) :
    (((ids.set (4 * i).toNat (w / 2 ^ (24 : Int).toNat % 256)).set (4 * i + 1).toNat (w / 2 ^ (16 : Int).toNat % 256)).set (4 * i + 2).toNat (w / 2 ^ (8 : Int).toNat % 256)).set (4 * i + 3).toNat (w % 256) = (outS h).take (4 * (i + 1)).toNat ++ (List.replicate 32 0).drop (4 * (i + 1)).toNat := by
  have hl : (outS h).length = 32 := (out_arr h).1
  have g : ∀ j : Nat, j < 4 → (outS h).getD ((4 * i).toNat + j) 0 = w / 2 ^ (24 - 8 * j) % 256 := by
    intro j hj
    rw [out_get _ _ (by omega), show ((4 * i).toNat + j) / 4 = i.toNat by omega, show ((4 * i).toNat + j) % 4 = j by omega, hw]
  have s0 := set_step (List.replicate 32 0) (4 * i).toNat he (by omega) (by simp [hl])
  rw [show (4 * i).toNat = (4 * i).toNat + 0 by omega, g 0 (by omega)] at s0
  have s1 := set_step (List.replicate 32 0) _ s0 (by omega) (by simp [hl])
  rw [show (4 * i).toNat + 0 + 1 = (4 * i).toNat + 1 by omega, g 1 (by omega)] at s1
  have s2 := set_step (List.replicate 32 0) _ s1 (by omega) (by simp [hl])
  rw [show (4 * i).toNat + 1 + 1 = (4 * i).toNat + 2 by omega, g 2 (by omega)] at s2
  have s3 := set_step (List.replicate 32 0) _ s2 (by omega) (by simp [hl])
  rw [show (4 * i).toNat + 2 + 1 = (4 * i).toNat + 3 by omega, g 3 (by omega)] at s3
  rw [show (4 * (i + 1)).toNat = (4 * i).toNat + 3 + 1 by omega, show (4 * i + 1).toNat = (4 * i).toNat + 1 by omega, show (4 * i + 2).toNat = (4 * i).toNat + 2 by omega, show (4 * i + 3).toNat = (4 * i).toNat + 3 by omega, ← s3]
  simp
theorem pad_eq (n : Int) (j : Nat) (hj : j = ((119 - n % 64) % 64).toNat) : ([128] ++ List.replicate j 0) ++ be8 (8 * n) = padS n := by
  subst hj; rfl
attribute [irreducible] blocksS restS padS outS sha be8
end Go.Proofs.YtiohpiiiapjblaaGreatDoor.S
namespace Go.Proofs.YtiohpiiiapjblaaGreatDoor.G
open Go.RowKit
section
variable {P : Program} {ops : Array Oper} {K : List Value → World → Prop} {rest : List Oper} {l : List Value} {w : World} {d : Tmp} {dd : Option Tmp} {ty : TypeId} {pos : String} {af : Array Edge} {g : Option (Nat × Bool)}
theorem zeroCells_one (v0 : Value) (m : Nat) : (Builtin.zeroCells #[v0] m) = (List.replicate m v0).toArray := by
  unfold Builtin.zeroCells
  apply Array.ext
  · simp
  intro i h1 h2
  simp at h1 h2
  simp [Nat.mod_one]
theorem Own.blk {lo : Nat} {e : TypeId} {sz n c g0 : Nat} {cs : List Value} (h : Own lo w e sz (some ⟨g0, 0, none⟩) n c cs) : ∃ rest : List Value, Blk w g0 (cs ++ rest) e ∧ (cs ++ rest).length = c * sz ∧ lo ≤ g0 := by
  rcases h.2 with ⟨hv, hn⟩ | ⟨g, cap, cur, hv, hb, hg, h1, h2, hcs, ht⟩
  · simp at hv
  · simp at hv
    obtain ⟨rfl, rfl⟩ := hv
    refine ⟨cur.toList.drop (n * sz), ?_, ?_, hb⟩
    · unfold Blk
      rw [← ht, List.take_append_drop]
      simpa using hg
    · rw [← ht, List.take_append_drop]
      simpa using hcs
theorem Own.of_part {lo : Nat} {e : TypeId} {sz n c g0 : Nat} {cs rest : List Value} (h : Blk w g0 (cs ++ rest) e) (hl : (cs ++ rest).length = c * sz) (hn : cs.length = n * sz) (hnc : n ≤ c) (hc : c ≤ maxLen) (hb : lo ≤ g0) : Own lo w e sz (some ⟨g0, 0, none⟩) n c cs := by
  refine ⟨hn, .inr ⟨g0, c, (cs ++ rest).toArray, rfl, hb, h, hnc, hc, by simpa using hl, ?_⟩⟩
  simp [← hn]
theorem appendZ {t ti e : TypeId} {ki : IntKind} {lo by_ n c : Nat} {v0 : Value} {a : Option Addr} {cs : List Value} (m : Nat) (ht : P.underlying t = some (.slice e)) (hti : P.underlying ti = some (.int ki)) (hT : TI P e 1 by_ [v0]) (hv : cellB v0 = true)
    (hO : Own lo w e 1 a n c cs) (hlo : lo ≤ w.heap.size) (hb : (n + m) * by_ ≤ 140737488355328) (h63 : n + m ≤ 140737488355328) :
    ∃ a' c' w', (Builtin.append_ #[t, ti] ty #[.slice a n c, .int .i64 m]).run P w = .ok (.slice a' (n + m) c') w' ∧ Own lo w' e 1 a' (n + m) c' (cs ++ List.replicate m v0) ∧ Pr (fun k => obk a = some k) w w' := by
  obtain ⟨i, z, i1, i2, i3, i4, i5⟩ := hT
  have hw : IntKind.i64.wrap (m : Int) = m := W.i64 (by omega)
  have hbz : m * by_ ≤ (n + m) * by_ := Nat.mul_le_mul_right _ (by omega)
  have h48 : ¬ (281474976710656 < (m : Int) * (i.bytes : Int)) := by rw [i3, ← Int.natCast_mul]; omega
  have hl0 : ¬ ((m : Int) < 0) := by omega
  have hcl := hO.len
  have hcap := hO.cap
  have hz : z.cells = #[v0] := i5
  by_cases hm : m = 0
  · subst hm
    refine ⟨a, c, w, ?_, by simpa using hO, Pr.refl _ _⟩
    have hw0 : IntKind.i64.wrap 0 = 0 := W.i64 (by omega)
    cases a <;> simp [Builtin.append_, hw0, run_underlying ht, run_underlying hti, sizeOf, typeInfo, i1, asInt, asIntOf, hcap.1, storeCells]
  · by_cases hroom : n + m ≤ c
    · cases a with
      | none =>
        rcases hO.2 with ⟨hv', hn⟩ | ⟨g, cap, cur, hv', _⟩
        · simp at hv'; omega
        · simp at hv'
      | some ad =>
        obtain ⟨g0, rfl⟩ : ∃ g0, ad = ⟨g0, 0, none⟩ := by
          rcases hO.2 with ⟨hv', _⟩ | ⟨g, cap, cur, hv', _⟩
          · simp at hv'
          · simp at hv'; exact ⟨g, hv'.1⟩
        obtain ⟨rs, hB, hlen, hge⟩ := hO.blk
        rw [List.length_append] at hlen
        obtain ⟨w', h1, h2, h3⟩ := storeCells_blk (P := P) (o := n) (List.replicate m v0) 0 _ w hB (by rw [List.length_append, List.length_replicate]; omega) (by intro v hv'; rw [(List.mem_replicate.1 hv').2]; exact hv)
        refine ⟨some ⟨g0, 0, none⟩, c, w', ?_, ?_, (Pr.refl _ _).st h2 rfl⟩
        · simp [Builtin.append_, run_underlying ht, run_underlying hti, sizeOf, typeInfo, zeroValue, i1, i2, i4, asInt, asIntOf, hw, hl0, h48, hroom, hm, hz, zeroCells_one, add_mk, h1]
        · rw [splice_eq _ _ _ (by simp; omega)] at h3
          have e1 : (cs ++ rs).take (n + 0) = cs := by rw [Nat.add_zero, List.take_left' (by omega)]
          rw [e1] at h3
          refine Own.of_part h3 ?_ (by simp; omega) hroom hcap.2 hge
          simp
          omega
    · have h63' : ¬ (9223372036854775807 < ((n : Int) + (m : Int))) := by omega
      have h48' : ¬ (281474976710656 < Builtin.nextslicecap (n + m) c * i.bytes) := by
        have := growslice_fits (need := n + m) (old := c) (bytes := i.bytes) (by omega) (by rw [i3]; exact hb)
        omega
      have hge := grownCap_ge w (n + m) c e
      have hcm := grownCap_le_maxLen w (n + m) c e (by simp only [maxLen]; omega)
      refine ⟨some ⟨w.heap.size, 0, none⟩, grownCap w (n + m) c e, w.drew.alloc (.cells (cs ++ List.replicate m v0 ++ List.replicate (grownCap w (n + m) c e - (n + m)) v0).toArray e), ?_, ?_, ?_⟩
      · have hold : ∀ sp, (Builtin.firstCells 1 n (.slice a n sp)).run P w.drew = .ok cs.toArray w.drew := by
          intro sp
          cases a with
          | none =>
            have : cs = [] := by
              rcases hO.2 with ⟨hv', hn⟩ | ⟨g, cap, cur, hv', _⟩
              · exact List.eq_nil_of_length_eq_zero (by omega)
              · simp at hv'
            simp [this, run_firstCells_none]
          | some ad =>
            obtain ⟨b, o, ha, _, hcells⟩ | hnil := (show (∃ b o, some ad = some ⟨b, o, none⟩ ∧ obk (some ad) = some b ∧ Cells w b o cs) ∨ cs = [] from by
              rcases hO.row with h | h
              · exact .inr h
              · exact .inl h)
            · obtain rfl := Option.some.inj ha
              refine run_firstCells_some (P := P) w.drew 1 n ⟨b, o, none⟩ n sp cs (by omega) ?_
              intro j u hu
              have hj : j < cs.length := (List.getElem?_eq_some_iff.1 hu).1
              have := hcells j hj
              rw [List.getD_eq_getElem?_getD, hu] at this
              simpa [add_mk] using this
            · subst hnil
              refine run_firstCells_some (P := P) w.drew 1 n ad n sp [] (by simpa using hcl) ?_
              intro j u hu
              simp at hu
        simp [Builtin.append_, run_underlying ht, run_underlying hti, sizeOf, typeInfo, zeroValue, i1, i2, i4, asInt, asIntOf, hw, hl0, h48, hroom, hm, hz, zeroCells_one, h63', h48', Question.forced, hold, newRow]
        simp [grownCap]
        congr 2
        apply Array.ext'
        simp
      · have := new_facts w.drew (cs ++ List.replicate m v0 ++ List.replicate (grownCap w (n + m) c e - (n + m)) v0) e
        refine Own.of_part this.2.1 ?_ (by simp; omega) hge hcm hlo
        simp
        omega
      · refine Pr.ext (Pr.refl _ _) ?_
        exact ((Below.refl _ _).drew).alloc (Nat.le_refl _) _
/-- append(s, make([]T, m)...) of integers. -/
theorem RS.appendZ {x y : Operand} {t ti e : TypeId} {k ki : IntKind} {lo by_ : Nat} {a : Option Addr} {n c : Nat} {xs : List Int} {m : Int}
    (hO : IOwn lo w e k a n c xs) (hx : ev l x = .slice a n c) (hy : ev l y = .int .i64 m) (hm : 0 ≤ m) (hu : P.underlying t = some (.slice e)) (hti : P.underlying ti = some (.int ki)) (ht : TI P e 1 by_ [.int k 0])
    (hlo : lo ≤ w.heap.size) (hby : by_ ≤ 8) (hb : n + m.toNat ≤ 17592186044416)
    (h : ∀ a' c' w', IOwn lo w' e k a' (n + m.toNat) c' (xs ++ List.replicate m.toNat 0) → Pr (fun b => obk a = some b) w w' → RS P ops K rest (l.set d (.slice a' (n + m.toNat) c')) w') :
    RS P ops K (⟨some d, .call { callee := .builtin .append, args := #[x, y], argTypes := #[t, ti] }, ty, pos, af, none⟩ :: rest) l w := by
  have h8 : (n + m.toNat) * by_ ≤ (n + m.toNat) * 8 := Nat.mul_le_mul_left _ hby
  obtain ⟨a', c', w', h1, h2, h3⟩ := G.appendZ (P := P) (w := w) (ty := ty) m.toNat hu hti ht rfl hO.own hlo (by omega) (by omega)
  have e1 : ((m.toNat : Nat) : Int) = m := by omega
  rw [e1] at h1
  refine RS.o (w' := w') (v := .slice a' (n + m.toNat) c') ?_ (h a' c' w' ⟨?_, hO.bd.append (Bd.zeros k _)⟩ h3) rfl
  · simp [execOp, resolve, hx, hy, invoke, builtin, h1]
  · rw [ints_append]
    have : ints k (List.replicate m.toNat 0) = List.replicate m.toNat (.int k 0) := by simp [ints]
    rw [this]; exact h2
/-- A slice literal of nothing. -/
theorem RS.buildNone {t e : TypeId} {sz by_ : Nat} {z : List Value} (hu : P.underlying t = some (.slice e)) (ht : TI P e sz by_ z)
    (h : ∀ b w', w.heap.size = b → w'.heap.size = b + 1 → Ext w w' → Blk w' b [] e → RS P ops K rest (l.set d (.slice (some ⟨b, 0, none⟩) 0 0)) w') :
    RS P ops K (⟨some d, .buildSlice t 0 #[], ty, pos, af, none⟩ :: rest) l w := by
  obtain ⟨i, v, h1, h2, h3, h4, h5⟩ := ht
  refine RS.new (f := fun b => .slice (some ⟨b, 0, none⟩) 0 0) ?_ h
  have hs : (sizeOf e).run P w = .ok sz w := by simp [sizeOf, typeInfo, h1, h2]
  simp only [execOp, Instr.buildSlice, Sem.run_bind, run_underlying hu, Result.andThen, hs]
  simp [Instr.fill, newRow]
  rw [show Array.range 0 = #[] from rfl]
  simp
/-- A slice against nil. -/
theorem D.nilS {x y : Operand} {t e yt : TypeId} {a : Option Addr} {n c : Nat} (hx : ev l x = .slice a n c) (hy : ev l y = .slice none 0 0) (hu : P.underlying t = some (.slice e)) :
    (execOp (ev l) ⟨dd, .binOp .eql t x y yt, ty, pos, af, g⟩).run P w = .ok (.value (.bool a.isNone)) w := by
  have h1 := run_equal_slice_nil (P := P) w t e a n c hu
  simp only [execOp, eqGuard]
  rw [hx, hy]
  simp [binOp, h1]
end
end Go.Proofs.YtiohpiiiapjblaaGreatDoor.G
namespace Go.Proofs.YtiohpiiiapjblaaGreatDoor.G
open Go.RowKit
/-- Cells that are equal one by one. -/
def eqC : List Value → List Value → Bool
  | [], [] => true
  | .int _ a :: xs, .int _ b :: ys => (a == b) && eqC xs ys
  | .bool a :: xs, .bool b :: ys => (a == b) && eqC xs ys
  | .string a :: xs, .string b :: ys => (a.toList == b.toList) && eqC xs ys
  | _, _ => false
theorem eqC_append : ∀ (a b c d : List Value), a.length = b.length → eqC (a ++ c) (b ++ d) = (eqC a b && eqC c d)
  | [], [], c, d, _ => by simp [eqC]
  | [], _ :: _, _, _, h => by simp at h
  | _ :: _, [], _, _, h => by simp at h
  | x :: a, y :: b, c, d, h => by
    have ih := eqC_append a b c d (by simpa using h)
    cases x <;> cases y <;> simp [eqC, ih, Bool.and_assoc]
theorem eqC_ints {k : IntKind} : ∀ (xs ys : List Int), eqC (ints k xs) (ints k ys) = decide (xs = ys)
  | [], [] => by simp [ints, eqC]
  | [], _ :: _ => by simp [ints, eqC]
  | _ :: _, [] => by simp [ints, eqC]
  | x :: xs, y :: ys => by
    have ih := eqC_ints (k := k) xs ys
    simp only [ints] at ih
    simp [ints, eqC, ih]
    rfl
def partsOk : Nat → List (Nat × Nat) → Option Nat
  | o, [] => some o
  | o, (a, sz) :: r => if Nat.beq a o then partsOk (o + sz) r else none
/-- Cells that are those of a type of integers, bools and strings, to some depth. -/
def FitsT (P : Program) : Nat → TypeId → List Value → Bool
  | 0, _, _ => false
  | d + 1, t, cs =>
    match P.underlying t with
    | some .bool => match cs with | [.bool _] => true | _ => false
    | some (.int q) => match cs with | [.int q' _] => q' == q | _ => false
    | some .string => match cs with | [.string _] => true | _ => false
    | some (.array n e) => (Nat.blt 0 n && Nat.beq cs.length (n * P.cellsOf e)) && (List.range n).all fun i => FitsT P d e ((cs.drop (i * P.cellsOf e)).take (P.cellsOf e))
    | some (.struct fs) => !P.stoodInHeld t && (partsOk 0 (fs.toList.map fun f => (f.offset, P.cellsOf f.type)) == some cs.length) && fs.toList.all fun f => f.name != "_" && FitsT P d f.type ((cs.drop f.offset).take (P.cellsOf f.type))
    | _ => false
/-- A value of cells. -/
def valC (ed : TypeDesc) (cs : List Value) : Value := if isAggD ed then .agg cs.toArray else cs.headD undef
section
variable {P : Program} {w : World}
theorem fits_len : ∀ {d : Nat} {t : TypeId} {cs : List Value}, FitsT P d t cs = true → ∃ ed, P.underlying t = some ed ∧ (isAggD ed = false → cs.length = 1)
  | 0, _, _, h => by simp [FitsT] at h
  | d + 1, t, cs, h => by
    unfold FitsT at h
    split at h
    · rename_i hu; refine ⟨_, hu, fun _ => ?_⟩; split at h <;> simp_all
    · rename_i hu; refine ⟨_, hu, fun _ => ?_⟩; split at h <;> simp_all
    · rename_i hu; refine ⟨_, hu, fun _ => ?_⟩; split at h <;> simp_all
    · rename_i hu; exact ⟨_, hu, fun h => by simp [isAggD] at h⟩
    · rename_i hu; exact ⟨_, hu, fun h => by simp [isAggD] at h⟩
    · cases h
theorem info_cells {t : TypeId} {ed : TypeDesc} (h : P.underlying t = some ed) : ∃ i, P.info? t = some i ∧ i.size = P.cellsOf t := by
  obtain ⟨i, hi⟩ := info_of_underlying h
  exact ⟨i, hi, by simp [Program.cellsOf, hi]⟩
theorem part_run {e : TypeId} {ed : TypeDesc} {off : Nat} {xs : Array Value} (hu : P.underlying e = some ed) (h1 : isAggD ed = false → ((xs.toList.drop off).take (P.cellsOf e)).length = 1) :
    (part e xs off).run P w = .ok (valC ed ((xs.toList.drop off).take (P.cellsOf e))) w := by
  obtain ⟨i, hi, hs⟩ := info_cells hu
  cases hd : isAggD ed
  · have h1 := h1 hd
    have hoff : off < xs.size := by
      rw [List.length_take, List.length_drop, Array.length_toList] at h1; omega
    have hpos : 0 < P.cellsOf e := by
      rw [List.length_take] at h1; omega
    have h2 : xs[off]? = some xs[off] := by simp [hoff]
    simp [part, agg_run hu, hd, h2, valC]
    obtain ⟨m, hm⟩ : ∃ m, P.cellsOf e = m + 1 := ⟨P.cellsOf e - 1, by omega⟩
    rw [hm, List.drop_eq_getElem_cons (show off < xs.toList.length by simpa using hoff)]
    simp
  · have hl : (xs.extract off (off + P.cellsOf e)).toList = (xs.toList.drop off).take (P.cellsOf e) := by
      rw [Array.toList_extract]
      simp [List.extract]
    simp [part, agg_run hu, hd, run_sizeOf w hi, valC]
    apply Array.ext'
    simp
theorem eq_run (d : Nat) : ∀ (m : Nat) (t : TypeId) (xs ys : List Value) (ed : TypeDesc) (w : World), FitsT P m t xs = true → FitsT P m t ys = true → P.underlying t = some ed → xs.length = ys.length ∧ (Op.equalIn (d + m) t (valC ed xs) (valC ed ys)).run P w = .ok (eqC xs ys) w
  | 0, _, _, _, _, _, h, _, _ => by simp [FitsT] at h
  | m + 1, t, xs, ys, ed, w, hx, hy, hu => by
    unfold FitsT at hx hy
    rw [hu] at hx hy
    rw [show d + (m + 1) = (d + m) + 1 from rfl]
    cases ed
    case bool =>
      dsimp only at hx hy
      split at hx <;> split at hy <;> simp at hx hy
      exact ⟨rfl, by simp [valC, isAggD, run_equalIn_bool w _ _ _ _ hu, eqC]⟩
    case int q =>
      dsimp only at hx hy
      split at hx <;> split at hy <;> simp at hx hy
      subst hx; subst hy
      exact ⟨rfl, by simp [valC, isAggD, run_equalIn_int w _ _ _ _ _ _ hu, eqC]⟩
    case string =>
      dsimp only at hx hy
      split at hx <;> split at hy <;> simp at hx hy
      exact ⟨rfl, by simp [valC, isAggD, run_equalIn_string w _ _ _ _ hu, eqC]⟩
    case array n e =>
      dsimp only at hx hy
      rw [Bool.and_eq_true] at hx hy
      have lx := Nat.eq_of_beq_eq_true (Bool.and_eq_true_iff.1 hx.1).2
      have ly := Nat.eq_of_beq_eq_true (Bool.and_eq_true_iff.1 hy.1).2
      rw [Bool.and_eq_true] at hx
      refine ⟨by rw [lx, ly], ?_⟩
      simp only [valC, isAggD, if_true]
      have key : ∀ (k j : Nat), j + k = n → (Op.eqItems (d + m) e (P.cellsOf e) xs.toArray ys.toArray (List.range' j k)).run P w = .ok (eqC (xs.drop (j * P.cellsOf e)) (ys.drop (j * P.cellsOf e))) w := by
        intro k
        induction k with
        | zero =>
          intro j hj
          have e1 : xs.drop (j * P.cellsOf e) = [] := List.drop_eq_nil_of_le (by rw [lx]; simp at hj; subst hj; exact Nat.le_refl _)
          have e2 : ys.drop (j * P.cellsOf e) = [] := List.drop_eq_nil_of_le (by rw [ly]; simp at hj; subst hj; exact Nat.le_refl _)
          simp [Op.eqItems, e1, e2, eqC]
        | succ k ih =>
          intro j hj
          have fx := List.all_eq_true.1 hx.2 j (by simp; omega)
          have fy := List.all_eq_true.1 hy.2 j (by simp; omega)
          obtain ⟨ed, hue, h1⟩ := fits_len fx
          obtain ⟨ed', hue', h1'⟩ := fits_len fy
          obtain rfl : ed = ed' := by rw [hue] at hue'; exact Option.some.inj hue'
          obtain ⟨hl, hr⟩ := eq_run d m e _ _ ed w fx fy hue
          have ih := ih (j + 1) (by omega)
          have sp : ∀ zs : List Value, zs.drop (j * P.cellsOf e) = (zs.drop (j * P.cellsOf e)).take (P.cellsOf e) ++ zs.drop ((j + 1) * P.cellsOf e) := by
            intro zs
            rw [Nat.add_mul, Nat.one_mul, ← List.drop_drop, List.take_append_drop]
          rw [List.range'_succ, sp xs, sp ys, eqC_append _ _ _ _ hl]
          simp only [Op.eqItems, Sem.run_bind, part_run (xs := xs.toArray) hue (by simpa using h1), part_run (xs := ys.toArray) hue (by simpa using h1'), Result.andThen_ok, hr]
          cases eqC ((xs.drop (j * P.cellsOf e)).take (P.cellsOf e)) ((ys.drop (j * P.cellsOf e)).take (P.cellsOf e))
          · simp
          · simpa using ih
      have hn : 0 < n := by have := hx.1.1; simpa [Nat.blt_eq] using this
      obtain ⟨ed, hue, _⟩ := fits_len (List.all_eq_true.1 hx.2 0 (by simp; omega))
      obtain ⟨i, hi, _⟩ := info_cells hue
      rw [run_equalIn_array w (d + m) _ _ hu hi, List.range_eq_range', key n 0 (by omega)]
      simp
    case struct fs =>
      dsimp only at hx hy
      simp only [Bool.and_eq_true, Bool.not_eq_true'] at hx hy
      have lx : partsOk 0 (fs.toList.map fun f => (f.offset, P.cellsOf f.type)) = some xs.length := by simpa using hx.1.2
      have ly : partsOk 0 (fs.toList.map fun f => (f.offset, P.cellsOf f.type)) = some ys.length := by simpa using hy.1.2
      refine ⟨by rw [lx] at ly; exact Option.some.inj ly, ?_⟩
      simp only [valC, isAggD, if_true]
      have hfs : P.fieldsOf t = fs := by simp [Program.fieldsOf, hu]
      rw [run_equalIn_struct w (d + m) t _ _ (by rw [hfs]; exact hu) hx.1.1, hfs]
      have key : ∀ (l : List Field) (o : Nat), partsOk o (l.map fun f => (f.offset, P.cellsOf f.type)) = some xs.length → partsOk o (l.map fun f => (f.offset, P.cellsOf f.type)) = some ys.length →
          (∀ f ∈ l, (f.name != "_" && FitsT P m f.type ((xs.drop f.offset).take (P.cellsOf f.type))) = true) → (∀ f ∈ l, (f.name != "_" && FitsT P m f.type ((ys.drop f.offset).take (P.cellsOf f.type))) = true) →
          (Op.eqFields (d + m) xs.toArray ys.toArray l).run P w = .ok (eqC (xs.drop o) (ys.drop o)) w := by
        intro l
        induction l with
        | nil =>
          intro o h1 h2 _ _
          simp only [List.map_nil, partsOk, Option.some.injEq] at h1 h2
          rw [List.drop_eq_nil_of_le (by omega), List.drop_eq_nil_of_le (by omega)]
          simp [Op.eqFields, eqC]
        | cons f l ih =>
          intro o h1 h2 h3 h4
          simp only [List.map_cons, partsOk] at h1 h2
          split at h1
          · rename_i ho
            rw [if_pos ho] at h2
            have ho := Nat.eq_of_beq_eq_true ho
            have g3 := h3 f (by simp)
            have g4 := h4 f (by simp)
            rw [Bool.and_eq_true] at g3 g4
            rw [ho] at g3 g4
            have hn : f.name ≠ "_" := by simpa using g3.1
            obtain ⟨ed, hue, e1⟩ := fits_len g3.2
            obtain ⟨ed', hue', e1'⟩ := fits_len g4.2
            obtain rfl : ed = ed' := by rw [hue] at hue'; exact Option.some.inj hue'
            obtain ⟨hl, hr⟩ := eq_run d m f.type _ _ ed w g3.2 g4.2 hue
            have ih := ih (o + P.cellsOf f.type) h1 h2 (fun g hg => h3 g (by simp [hg])) (fun g hg => h4 g (by simp [hg]))
            have sp : ∀ zs : List Value, zs.drop o = (zs.drop o).take (P.cellsOf f.type) ++ zs.drop (o + P.cellsOf f.type) := by
              intro zs
              rw [← List.drop_drop, List.take_append_drop]
            rw [sp xs, sp ys, eqC_append _ _ _ _ hl]
            simp only [Op.eqFields, hn, ne_eq, not_false_eq_true, if_true, ho, Sem.run_bind, part_run (xs := xs.toArray) hue (by simpa using e1), part_run (xs := ys.toArray) hue (by simpa using e1'), Result.andThen_ok, hr]
            cases eqC ((xs.drop o).take (P.cellsOf f.type)) ((ys.drop o).take (P.cellsOf f.type))
            · simp
            · simpa using ih
          · cases h1
      have := key fs.toList 0 lx ly (List.all_eq_true.1 hx.2) (List.all_eq_true.1 hy.2)
      simpa using this
    all_goals simp at hx
theorem fits_arr {t e : TypeId} {n : Nat} {k : IntKind} {xs : List Int} (d : Nat) (hu : P.underlying t = some (.array n e)) (he : P.underlying e = some (.int k)) (hs : P.cellsOf e = 1) (hl : xs.length = n) (hn : 0 < n) : FitsT P (d + 2) t (ints k xs) = true := by
  unfold FitsT
  rw [hu]
  simp only [hs, Nat.mul_one, ints_length, hl, Bool.and_eq_true, Nat.beq_refl, Nat.blt_eq, hn, true_and]
  refine List.all_eq_true.2 fun i hi => ?_
  have hi := List.mem_range.1 hi
  have e1 : ((ints k xs).drop i).take 1 = [.int k (xs.getD i 0)] := by
    rw [List.drop_eq_getElem_cons (show i < (ints k xs).length by rw [ints_length]; omega)]
    simp [ints, List.getD_eq_getElem?_getD, List.getElem?_eq_getElem (show i < xs.length by omega)]
  rw [e1]
  unfold FitsT
  rw [he]
  simp
end
section
variable {P : Program} {ops : Array Oper} {R : World → World → Prop} {K : List Value → World → Prop} {rest : List Oper} {l : List Value} {w : World} {d : Tmp} {dd : Option Tmp} {ty xt yt : TypeId} {pos : String} {af : Array Edge} {g : Option (Nat × Bool)} {x y : Operand}
theorem eqC_bin (op : BinOp) (ho : op = .eql ∨ op = .neq) {xs ys : List Value} {ed : TypeDesc} (hx : ev l x = .agg xs.toArray) (hy : ev l y = .agg ys.toArray) (hu : P.underlying xt = some ed) (ha : isAggD ed = true) (hg : P.eqGuardType P.depth xt = false) (fx : FitsT P 9 xt xs = true) (fy : FitsT P 9 xt ys = true) :
    (execOp (ev l) ⟨dd, .binOp op xt x y yt, ty, pos, af, g⟩).run P w = .ok (.value (.bool (if op = .eql then eqC xs ys else !(eqC xs ys)))) w := by
  have h1 := (eq_run (P := P) 9991 9 xt xs ys ed w fx fy hu).2
  simp only [valC, ha, if_true] at h1
  simp only [execOp]
  rw [hx, hy]
  rcases ho with rfl | rfl
  · simp only [Sem.run_bind, run_eqGuard_agg w .eql xt x y _ _ hg, Result.andThen_ok, run_eql_struct, h1]
    rfl
  · simp only [Sem.run_bind, run_eqGuard_agg w .neq xt x y _ _ hg, Result.andThen_ok, run_neq_struct, h1]
    rfl
theorem D.eqA {xs ys : List Value} {ed : TypeDesc} (hx : ev l x = .agg xs.toArray) (hy : ev l y = .agg ys.toArray) (hu : P.underlying xt = some ed) (ha : isAggD ed = true) (hg : P.eqGuardType P.depth xt = false) (fx : FitsT P 9 xt xs = true) (fy : FitsT P 9 xt ys = true) :
    (execOp (ev l) ⟨dd, .binOp .eql xt x y yt, ty, pos, af, g⟩).run P w = .ok (.value (.bool (eqC xs ys))) w := eqC_bin .eql (.inl rfl) hx hy hu ha hg fx fy
theorem D.neA {xs ys : List Value} {ed : TypeDesc} (hx : ev l x = .agg xs.toArray) (hy : ev l y = .agg ys.toArray) (hu : P.underlying xt = some ed) (ha : isAggD ed = true) (hg : P.eqGuardType P.depth xt = false) (fx : FitsT P 9 xt xs = true) (fy : FitsT P 9 xt ys = true) :
    (execOp (ev l) ⟨dd, .binOp .neq xt x y yt, ty, pos, af, g⟩).run P w = .ok (.value (.bool (!(eqC xs ys)))) w := eqC_bin .neq (.inr rfl) hx hy hu ha hg fx fy
/-- Arrays of integers that are equal. -/
theorem D.eqI {e : TypeId} {n : Nat} {k : IntKind} {xs ys : List Int} (hx : ev l x = .agg (ints k xs).toArray) (hy : ev l y = .agg (ints k ys).toArray) (hu : P.underlying xt = some (.array n e)) (he : P.underlying e = some (.int k)) (hs : P.cellsOf e = 1) (hg : P.eqGuardType P.depth xt = false) (lx : xs.length = n) (ly : ys.length = n) (hn : 0 < n) :
    (execOp (ev l) ⟨dd, .binOp .eql xt x y yt, ty, pos, af, g⟩).run P w = .ok (.value (.bool (decide (xs = ys)))) w := by
  have := D.eqA (dd := dd) (yt := yt) (ty := ty) (pos := pos) (af := af) (g := g) (w := w) hx hy hu rfl hg (fits_arr 7 hu he hs lx hn) (fits_arr 7 hu he hs ly hn)
  rwa [eqC_ints] at this
theorem D.neI {e : TypeId} {n : Nat} {k : IntKind} {xs ys : List Int} (hx : ev l x = .agg (ints k xs).toArray) (hy : ev l y = .agg (ints k ys).toArray) (hu : P.underlying xt = some (.array n e)) (he : P.underlying e = some (.int k)) (hs : P.cellsOf e = 1) (hg : P.eqGuardType P.depth xt = false) (lx : xs.length = n) (ly : ys.length = n) (hn : 0 < n) :
    (execOp (ev l) ⟨dd, .binOp .neq xt x y yt, ty, pos, af, g⟩).run P w = .ok (.value (.bool (decide (xs ≠ ys)))) w := by
  have := D.neA (dd := dd) (yt := yt) (ty := ty) (pos := pos) (af := af) (g := g) (w := w) hx hy hu rfl hg (fits_arr 7 hu he hs lx hn) (fits_arr 7 hu he hs ly hn)
  rw [eqC_ints] at this
  rw [this]
  simp
end
end Go.Proofs.YtiohpiiiapjblaaGreatDoor.G
namespace Go.Proofs.YtiohpiiiapjblaaGreatDoor.G
open Go.RowKit
/-- The bytes of a string, as numbers. -/
def bys (s : ByteArray) : List Int := s.data.toList.map fun b => (b.toNat : Int)
theorem bys_len (s : ByteArray) : (bys s).length = s.size := by simp [bys]
theorem bys_bd (s : ByteArray) : Bd .u8 (bys s) := by
  intro x hx
  obtain ⟨b, _, rfl⟩ := List.mem_map.1 hx
  have := b.toNat_lt
  simp only [lim]
  omega
theorem bys_get (s : ByteArray) (i : Nat) (h : i < s.size) : (bys s).getD i 0 = (s[i].toNat : Int) := by
  have h2 : i < s.data.toList.length := by simpa using h
  simp only [bys, List.getD_eq_getElem?_getD, List.getElem?_map, List.getElem?_eq_getElem h2, Option.map_some, Option.getD_some]
  rfl
theorem bys_inj {s t : ByteArray} (h : bys s = bys t) : s = t := by
  have h1 : s.data.toList = t.data.toList := by
    have := congrArg (List.map fun x : Int => UInt8.ofNat x.toNat) h
    simpa [bys, Function.comp_def] using this
  exact ByteArray.ext (Array.ext' h1)
theorem bys_strOf (xs : List Int) (h : Bd .u8 xs) : bys (strOfNums xs) = xs := by
  simp only [bys, strOfNums, List.map_map]
  have : ∀ x ∈ xs, ((fun b : UInt8 => (b.toNat : Int)) ∘ fun n : Int => UInt8.ofNat n.toNat) x = x := by
    intro x hx
    have := h x hx
    simp only [lim] at this
    simp only [Function.comp_def, UInt8.toNat_ofNat']
    omega
  rw [List.map_congr_left this]
  simp
theorem strOf_bys (s : ByteArray) : strOfNums (bys s) = s := bys_inj (bys_strOf _ (bys_bd s))
theorem strEq (s t : ByteArray) : (s.toList == t.toList) = decide (s = t) := by
  rw [ByteArray.toList_eq, ByteArray.toList_eq]
  by_cases h : s = t
  · simp [h]
  · have : s.data.toList ≠ t.data.toList := fun e => h (ByteArray.ext (Array.ext' e))
    rw [decide_eq_false h]
    exact beq_eq_false_iff_ne.2 this
/-- A place in a string. -/
def It (w : World) (b : Nat) (s : ByteArray) (p : Nat) : Prop := w.heap[b]? = some (.stringIter s p)
theorem It.lt {w : World} {b : Nat} {s : ByteArray} {p : Nat} (h : It w b s p) : b < w.heap.size := (Array.getElem?_eq_some_iff.1 h).1
theorem It.ext {w w' : World} {b : Nat} {s : ByteArray} {p : Nat} (h : It w b s p) (k : Ext w w') : It w' b s p := by unfold It; rw [k.block b h.lt]; exact h
theorem It.st {w w' : World} {b c : Nat} {s : ByteArray} {p : Nat} (h : It w b s p) (k : St c w w') (hn : b ≠ c) : It w' b s p := by unfold It; rw [k.block b hn]; exact h
theorem It.pr {S : Nat → Prop} {w w' : World} {b : Nat} {s : ByteArray} {p : Nat} (h : It w b s p) (k : Pr S w w') (hn : ¬ S b) : It w' b s p := by unfold It; rw [k.block b h.lt hn]; exact h
section
variable {P : Program} {ops : Array Oper} {R : World → World → Prop} {K : List Value → World → Prop} {rest : List Oper} {l : List Value} {w : World} {d : Tmp} {dd : Option Tmp} {ty xt yt : TypeId} {pos : String} {af : Array Edge} {g : Option (Nat × Bool)} {x y : Operand}
theorem D.indexStr {s : ByteArray} {k : IntKind} {i : Int} (hx : ev l x = .string s) (hy : ev l y = .int k i) (hu : P.underlying xt = some .string) (hi : 0 ≤ i ∧ i < s.size) :
    (execOp (ev l) ⟨dd, .index xt x y, ty, pos, af, g⟩).run P w = .ok (.value (.int .u8 ((bys s).getD i.toNat 0))) w := by
  have h1 : i.toNat < s.size := by omega
  rw [bys_get s _ h1]
  simp only [execOp]; rw [hx, hy]
  simp [Instr.index, asIntOf, run_underlying hu, hi.1, h1]
/-- A byte of a string. -/
theorem RS.indexStr {s : ByteArray} {k : IntKind} {i : Int} (hx : ev l x = .string s) (hy : ev l y = .int k i) (hu : P.underlying xt = some .string) (hi : 0 ≤ i ∧ i < s.size)
    (h : ∀ v, v = (bys s).getD i.toNat 0 → 0 ≤ v ∧ v < lim .u8 → RS P ops K rest (l.set d (.int .u8 v)) w) : RS P ops K (⟨some d, .index xt x y, ty, pos, af, none⟩ :: rest) l w :=
  RS.o (D.indexStr hx hy hu hi) (h _ rfl ((bys_bd s).get _)) rfl
/-- '[]byte(s)'. -/
theorem RS.convSB {s : ByteArray} {src dst e : TypeId} (hx : ev l x = .string s) (hs : P.underlying src = some .string) (hd : P.underlying dst = some (.slice e)) (he : P.underlying e = some (.int .u8))
    (h : ∀ a c w', Ext w w' → s.size ≤ c → w'.heap.size = w.heap.size + 1 → IRow .u8 (fun k => w.heap.size ≤ k) w' a s.size (bys s) → RS P ops K rest (l.set d (.slice a s.size c)) w') :
    RS P ops K (⟨some d, .convert src dst x, ty, pos, af, none⟩ :: rest) l w := by
  have hr := run_bytes_of_string (P := P) w src dst e s hs hd he
  have hx2 : Ext w (w.drew.alloc (.cells (bytesRow s (grownCap w s.size 0 e)) e ((bytesRow s (grownCap w s.size 0 e)).size, (bytesRow s (grownCap w s.size 0 e)).size + 1))) :=
    ((Below.refl _ _).drew).alloc (Nat.le_refl _) _
  refine RS.o (v := .slice (some ⟨w.heap.size, 0, none⟩) s.size (grownCap w s.size 0 e)) (w' := _) ?_ (h _ _ _ hx2 (grownCap_ge w s.size 0 e) (World.size_alloc _ _) ⟨.inr ⟨w.heap.size, 0, rfl, Nat.le_refl _, ?_⟩, bys_len s, bys_bd s⟩) rfl
  · simp only [execOp]; rw [hx]
    simp [hr]
  · intro j hj
    have hj' : j < s.data.size := by rw [ints_length, bys_len] at hj; exact hj
    have h1 := World.cell?_alloc_mark w.drew (bytesRow s (grownCap w s.size 0 e)) e ((bytesRow s (grownCap w s.size 0 e)).size, (bytesRow s (grownCap w s.size 0 e)).size + 1) j
    have hsz : w.drew.heap.size = w.heap.size := rfl
    rw [hsz] at h1
    rw [Nat.zero_add, h1, bytesRow_at s _ j hj']
    congr 1
    simp only [ints, bys, List.getD_eq_getElem?_getD, List.getElem?_map, Array.getElem?_toList]
    rw [Array.getElem?_eq_getElem hj']
    rfl
theorem Row.load {S : Nat → Prop} {a : Addr} {xs : List Int} {k : IntKind} (h : Row S w (some a) (ints k xs)) : ∀ (j : Nat) (v : Value), (ints k xs)[j]? = some v → w.cell? (a.add j) = some v := h.news rfl
/-- 'string(b)'. -/
theorem D.convBS {S : Nat → Prop} {a : Option Addr} {n c : Nat} {xs : List Int} {src dst e : TypeId} (hR : IRow .u8 S w a n xs) (hx : ev l x = .slice a n c) (hs : P.underlying src = some (.slice e)) (he : P.underlying e = some (.int .u8)) (hd : P.underlying dst = some .string) :
    (execOp (ev l) ⟨dd, .convert src dst x, ty, pos, af, g⟩).run P w = .ok (.value (.string (strOfNums xs))) w := by
  have hl := hR.len
  have key : (convert src dst (.slice a n c)).run P w = .ok (.string (strOfNums xs)) w := by
    cases a with
    | none =>
      have : xs = [] := by
        rcases hR.row with h | ⟨b, o, h, _⟩
        · exact List.eq_nil_of_length_eq_zero (by rw [← ints_length (k := .u8), h]; rfl)
        · cases h
      subst this
      rw [run_convert_bytes_nil w src e hs he n c dst hd]
      rfl
    | some ad =>
      rcases hR.row with h | ⟨b, o, h, _, hc⟩
      · have : xs = [] := List.eq_nil_of_length_eq_zero (by rw [← ints_length (k := .u8), h]; rfl)
        subst this
        simp at hl
        subst hl
        rw [run_convert_bytes_string w src dst e _ 0 c hs he hd, run_bytesToString w ad 0 c [] (by simp [loadCells, loadCellsFrom])]
        rfl
      · obtain rfl := Option.some.inj h
        exact run_convert_bytes_arg w src e hs he b o n c xs hl (fun i hi => by rw [hc i (by rw [ints_length]; omega), ints_getD _ _ _ (by omega)]) dst hd
  simp only [execOp]; rw [hx]
  simp [key]
theorem RS.range {s : ByteArray} (hx : ev l x = .string s) (hu : P.underlying xt = some .string)
    (h : ∀ b w', w.heap.size = b → w'.heap.size = b + 1 → Ext w w' → It w' b s 0 → RS P ops K rest (l.set d (.pointer (some ⟨b, 0, none⟩))) w') : RS P ops K (⟨some d, .range xt x, ty, pos, af, none⟩ :: rest) l w := by
  refine RS.o (v := .pointer (some ⟨w.heap.size, 0, none⟩)) (w' := w.iter s 0) ?_ (h w.heap.size _ rfl (by simp [World.iter]) ((Below.refl _ _).alloc (Nat.le_refl _) _) (World.iter_heap w s 0)) rfl
  simp only [execOp]; rw [hx]
  simp [run_range_string w xt s hu]
theorem RS.next {s : ByteArray} {b p : Nat} (hI : It w b s p) (hx : ev l x = .pointer (some ⟨b, 0, none⟩))
    (h1 : p < s.size → ∀ w', St b w w' → It w' b s (p + (Utf8.decode s p).2) → RS P ops K rest (l.set d (.tuple #[.bool true, .int .i64 p, .int .i32 (Utf8.decode s p).1])) w')
    (h2 : ¬ p < s.size → RS P ops K rest (l.set d (.tuple #[.bool false])) w) : RS P ops K (⟨some d, .next x true, ty, pos, af, none⟩ :: rest) l w := by
  by_cases hp : p < s.size
  · refine RS.o (v := .tuple #[.bool true, .int .i64 p, .int .i32 (Utf8.decode s p).1]) (w' := { w with heap := w.heap.setIfInBounds b (.stringIter s (p + (Utf8.decode s p).2)) }) ?_
      (h1 hp _ ⟨rfl, rfl, rfl, by simp, fun k hk => by simp [Ne.symm hk]⟩ (by unfold It; simp [hI.lt])) rfl
    simp only [execOp]; rw [hx]
    have := hI
    unfold It at this
    simp [Instr.next, getObj, setObj, Sem.run, this, Result.andThen, hp, goInt]
  · refine RS.o (v := .tuple #[.bool false]) (w' := w) ?_ (h2 hp) rfl
    simp only [execOp]; rw [hx]
    have := hI
    unfold It at this
    simp [Instr.next, getObj, Sem.run, this, Result.andThen, hp]
/-- A field of a value. -/
theorem D.field {cs vs : List Value} {fs : Array Field} {f : Field} {i : Nat} {ed : TypeDesc} {v : Value} (hx : ev l x = .agg cs.toArray) (hu : P.underlying xt = some (.struct fs)) (hf : fs[i]? = some f) (he : P.underlying f.type = some ed) (hv : (cs.drop f.offset).take (P.cellsOf f.type) = vs)
    (h1 : isAggD ed = false → vs.length = 1) (hv2 : valC ed vs = v) : (execOp (ev l) ⟨dd, .field xt x i, ty, pos, af, g⟩).run P w = .ok (.value v) w := by
  subst hv hv2
  have := part_run (P := P) (w := w) (off := f.offset) (xs := cs.toArray) he (by simpa using h1)
  simp only [execOp]; rw [hx]
  have h2 : (asAgg (.agg cs.toArray)).run P w = .ok cs.toArray w := by simp [asAgg]
  simp [Instr.field, run_underlying hu, hf, h2, Result.andThen, this]
end
end Go.Proofs.YtiohpiiiapjblaaGreatDoor.G
namespace Go.Proofs.YtiohpiiiapjblaaGreatDoor.G
open Go.RowKit
/-- A slice that is an element of a slice. -/
structure Pc where
  (a : Option Addr) (n c : Nat) (xs : List Int)
instance : Inhabited Pc := ⟨⟨none, 0, 0, []⟩⟩
def Pc.val (p : Pc) : Value := .slice p.a p.n p.c
/-- Slices of integers that lie in a slice. -/
structure PRow (k : IntKind) (S : Nat → Prop) (w : World) (a : Option Addr) (n : Nat) (ps : List Pc) : Prop where
  row : Row S w a (ps.map Pc.val)
  len : ps.length = n
  each : ∀ p ∈ ps, IRow k S w p.a p.n p.xs ∧ p.n ≤ p.c
section
variable {k : IntKind} {S T : Nat → Prop} {w w' : World} {a : Option Addr} {n m : Nat} {ps : List Pc}
theorem PRow.ext (h : PRow k S w a n ps) (x : Ext w w') : PRow k S w' a n ps := ⟨h.row.ext x, h.len, fun p hp => ⟨(h.each p hp).1.ext x, (h.each p hp).2⟩⟩
theorem PRow.st (h : PRow k S w a n ps) (x : St m w w') (hn : S m → False) : PRow k S w' a n ps := ⟨h.row.st x hn, h.len, fun p hp => ⟨(h.each p hp).1.st x hn, (h.each p hp).2⟩⟩
theorem PRow.pr (h : PRow k S w a n ps) (x : Pr T w w') (hn : ∀ b, S b → T b → False) : PRow k S w' a n ps := ⟨h.row.pr x hn, h.len, fun p hp => ⟨(h.each p hp).1.pr x hn, (h.each p hp).2⟩⟩
theorem PRow.weaken (h : PRow k S w a n ps) (x : ∀ b, b < w.heap.size → S b → T b) : PRow k T w a n ps := ⟨h.row.weaken x, h.len, fun p hp => ⟨(h.each p hp).1.weaken x, (h.each p hp).2⟩⟩
theorem PRow.of_blk {b : Nat} {cs : List Value} {e : TypeId} (B : Blk w b cs e) (hs : S b) (hc : cs = ps.map Pc.val) (hn : ps.length = n) (he : ∀ p ∈ ps, IRow k S w p.a p.n p.xs ∧ p.n ≤ p.c) : PRow k S w (some ⟨b, 0, none⟩) n ps := by
  subst hc
  exact ⟨Row.of_blk (n := (ps.map Pc.val).length) B hs List.take_length, hn, he⟩
theorem PRow.at_ (h : PRow k S w a n ps) {i : Int} (hi : 0 ≤ i ∧ i < n) : ∃ b o, a = some ⟨b, o, none⟩ ∧ w.cell? ⟨b, o + i.toNat * 1, none⟩ = some (ps.getD i.toNat default).val ∧ IRow k S w (ps.getD i.toNat default).a (ps.getD i.toNat default).n (ps.getD i.toNat default).xs ∧ (ps.getD i.toNat default).n ≤ (ps.getD i.toNat default).c := by
  have hl := h.len
  have hlt : i.toNat < ps.length := by omega
  obtain ⟨b, o, ha, _, hc⟩ := h.row.at_ i.toNat (by rw [List.length_map]; exact hlt)
  have e1 : ps.getD i.toNat default = ps[i.toNat] := by simp [List.getD_eq_getElem?_getD, List.getElem?_eq_getElem hlt]
  refine ⟨b, o, ha, ?_, ?_⟩
  · rw [Nat.mul_one, hc, e1]
    simp [List.getD_eq_getElem?_getD, List.getElem?_eq_getElem hlt]
  · rw [e1]; exact h.each _ (List.getElem_mem hlt)
/-- All that lies in slices, one behind the other. -/
def cat (ps : List Pc) : List Int := ps.flatMap (·.xs)
theorem cat_snoc (ps : List Pc) (i : Nat) (hi : i < ps.length) : cat (ps.take (i + 1)) = cat (ps.take i) ++ (ps.getD i default).xs := by
  have e1 : ps.getD i default = ps[i] := by simp [List.getD_eq_getElem?_getD, List.getElem?_eq_getElem hi]
  unfold cat
  rw [e1, List.take_succ_eq_append_getElem hi, List.flatMap_append]
  simp
theorem cat_le (ps : List Pc) (i : Nat) : (cat (ps.take i)).length ≤ (cat ps).length := by
  have : cat ps = cat (ps.take i) ++ cat (ps.drop i) := by
    unfold cat
    rw [← List.flatMap_append, List.take_append_drop]
  rw [this, List.length_append]
  omega
/-- A row of elements of several cells. -/
structure WRow (k : IntKind) (sz : Nat) (S : Nat → Prop) (w : World) (a : Option Addr) (n : Nat) (xs : List Int) : Prop where
  row : Row S w a (ints k xs)
  len : xs.length = sz * n
  bd : Bd k xs
variable {sz : Nat} {xs : List Int}
theorem WRow.ext (h : WRow k sz S w a n xs) (x : Ext w w') : WRow k sz S w' a n xs := ⟨h.row.ext x, h.len, h.bd⟩
theorem WRow.st (h : WRow k sz S w a n xs) (x : St m w w') (hn : S m → False) : WRow k sz S w' a n xs := ⟨h.row.st x hn, h.len, h.bd⟩
theorem WRow.pr (h : WRow k sz S w a n xs) (x : Pr T w w') (hn : ∀ b, S b → T b → False) : WRow k sz S w' a n xs := ⟨h.row.pr x hn, h.len, h.bd⟩
theorem WRow.weaken (h : WRow k sz S w a n xs) (x : ∀ b, b < w.heap.size → S b → T b) : WRow k sz T w a n xs := ⟨h.row.weaken x, h.len, h.bd⟩
theorem WRow.nil : WRow k sz S w a 0 [] := ⟨Row.nil, by simp, Bd.nil k⟩
/-- An element. -/
def elt (sz : Nat) (xs : List Int) (i : Nat) : List Int := (xs.drop (sz * i)).take sz
theorem WRow.elt_len (h : WRow k sz S w a n xs) {i : Nat} (hi : i < n) : (elt sz xs i).length = sz := by
  have hl := h.len
  have h2 : sz * (i + 1) ≤ sz * n := Nat.mul_le_mul_left _ hi
  rw [Nat.mul_add] at h2
  unfold elt; rw [List.length_take, List.length_drop]; omega
theorem WRow.elt_bd (h : WRow k sz S w a n xs) (i : Nat) : Bd k (elt sz xs i) := (h.bd.drop _).take _
theorem WRow.elt_arr (h : WRow k sz S w a n xs) {i : Nat} (hi : i < n) : Arr k sz (elt sz xs i) := ⟨h.elt_len hi, h.elt_bd i⟩
theorem WRow.at_ (h : WRow k sz S w a n xs) (hz : 0 < sz) {i : Int} (hi : 0 ≤ i ∧ i < n) : ∃ b o, a = some ⟨b, o, none⟩ ∧ S b ∧ Cells w b (o + i.toNat * sz) (ints k (elt sz xs i.toNat)) := by
  have hl := h.len
  have hlt : i.toNat < n := by omega
  have h2 : sz * (i.toNat + 1) ≤ sz * n := Nat.mul_le_mul_left _ hlt
  rw [Nat.mul_add] at h2
  obtain ⟨b, o, ha, hs, hc⟩ := h.row.part (sz * i.toNat) sz (by rw [ints_length]; omega) hz
  refine ⟨b, o, ha, hs, ?_⟩
  rw [ints_drop, ints_take] at hc
  rwa [Nat.mul_comm i.toNat sz]
/-- A row of wide elements that is owned. -/
structure WOwn (lo : Nat) (w : World) (e : TypeId) (k : IntKind) (sz : Nat) (a : Option Addr) (n c : Nat) (xs : List Int) : Prop where
  own : Own lo w e sz a n c (ints k xs)
  bd : Bd k xs
variable {lo c : Nat} {e : TypeId}
theorem WOwn.len (h : WOwn lo w e k sz a n c xs) : xs.length = sz * n := by
  have := h.own.len
  rw [ints_length] at this
  rw [this, Nat.mul_comm]
theorem WOwn.ext (h : WOwn lo w e k sz a n c xs) (x : Ext w w') : WOwn lo w' e k sz a n c xs := ⟨h.own.ext x, h.bd⟩
theorem WOwn.st (h : WOwn lo w e k sz a n c xs) (x : St m w w') (hn : obk a = some m → False) : WOwn lo w' e k sz a n c xs := ⟨h.own.st x hn, h.bd⟩
theorem WOwn.pr (h : WOwn lo w e k sz a n c xs) (x : Pr T w w') (hn : ∀ b, obk a = some b → T b → False) : WOwn lo w' e k sz a n c xs := ⟨h.own.pr x hn, h.bd⟩
theorem WOwn.row (h : WOwn lo w e k sz a n c xs) : WRow k sz (fun b => lo ≤ b) w a n xs := ⟨h.own.rowS, h.len, h.bd⟩
theorem WOwn.nil (lo : Nat) (w : World) (e : TypeId) (k : IntKind) (sz : Nat) : WOwn lo w e k sz none 0 0 [] := ⟨Own.nil lo w e sz, Bd.nil k⟩
theorem WOwn.los (h : WOwn lo w e k sz a n c xs) : ∀ b, obk a = some b → lo ≤ b ∧ b < w.heap.size := h.own.lo
theorem WOwn.base {lo' : Nat} (h : WOwn lo w e k sz a n c xs) (hl : ∀ b, obk a = some b → lo' ≤ b) : WOwn lo' w e k sz a n c xs := ⟨h.own.base hl, h.bd⟩
theorem WOwn.of_blk {b : Nat} {cs : List Value} (h : Blk w b cs e) (hc : cs = ints k xs) (hn : xs.length = sz * n) (hb : lo ≤ b) (hd : Bd k xs) (hm : n ≤ 9223372036854775807) : WOwn lo w e k sz (some ⟨b, 0, none⟩) n n xs := by
  subst hc
  exact ⟨Own.of_blk h (by rw [ints_length, hn, Nat.mul_comm]) hb (by simp only [maxLen]; omega), hd⟩
theorem take_pre (xs : List Int) (m : Nat) : ints k (xs.take m) = (ints k xs).take m := (ints_take k xs m).symm
theorem IOwn.pre (h : IOwn lo w e k a n c xs) {m : Nat} (hm : m ≤ n) : IOwn lo w e k a m c (xs.take m) := by
  have hl := h.len
  refine ⟨?_, h.bd.take m⟩
  have hc := h.own.cap
  cases a with
  | none =>
    rcases h.own.2 with ⟨hv, hn⟩ | ⟨g, cap, cur, hv, _⟩
    · simp at hv
      obtain rfl : m = 0 := by omega
      obtain ⟨hn0, rfl⟩ := hv
      rw [List.take_zero]
      exact Own.nil lo w e 1
    · simp at hv
  | some ad =>
    obtain ⟨g0, rfl⟩ : ∃ g0, ad = ⟨g0, 0, none⟩ := by
      rcases h.own.2 with ⟨hv, _⟩ | ⟨g, cap, cur, hv, _⟩
      · simp at hv
      · simp at hv; exact ⟨g, hv.1⟩
    obtain ⟨rs, hB, hlen, hge⟩ := h.own.blk
    refine Own.of_part (rest := (ints k xs).drop m ++ rs) ?_ ?_ (by rw [ints_length, List.length_take]; omega) (by omega) hc.2 hge
    · rw [take_pre, ← List.append_assoc, List.take_append_drop]; exact hB
    · rw [take_pre, ← List.append_assoc, List.take_append_drop]; exact hlen
end
theorem subA_zero (a : Option Addr) (sz m : Nat) : subA a 0 sz m = a := by
  unfold subA
  split
  · rfl
  · cases a <;> simp [Addr.add]
theorem IRow.rest {k : IntKind} {S : Nat → Prop} {w : World} {a : Option Addr} {n : Nat} {xs : List Int} (h : IRow k S w a n xs) (lo m : Nat) (hl : lo ≤ n) (hm : n ≤ m) : IRow k S w (subA a lo 1 m) (n - lo) (xs.drop lo) := by
  have := h.sub lo n m (Nat.le_refl _) hl hm
  rwa [List.take_of_length_le (by rw [List.length_drop, h.len]; exact Nat.le_refl _)] at this
theorem IRow.none {k : IntKind} {S : Nat → Prop} {w : World} {a : Option Addr} {n : Nat} {xs : List Int} (h : IRow k S w a n xs) (ha : a.isNone = true) : xs = [] ∧ n = 0 := by
  have hl := h.len
  rcases h.row with h | ⟨b, o, h, _⟩
  · have : xs = [] := List.eq_nil_of_length_eq_zero (by rw [← ints_length (k := k), h]; rfl)
    subst this
    exact ⟨rfl, by simpa using hl.symm⟩
  · subst h; cases ha
theorem WRow.none {k : IntKind} {sz : Nat} {S : Nat → Prop} {w : World} {a : Option Addr} {n : Nat} {xs : List Int} (h : WRow k sz S w a n xs) (hz : 0 < sz) (ha : a.isNone = true) : xs = [] ∧ n = 0 := by
  have hl := h.len
  rcases h.row with h | ⟨b, o, h, _⟩
  · have : xs = [] := List.eq_nil_of_length_eq_zero (by rw [← ints_length (k := k), h]; rfl)
    subst this
    refine ⟨rfl, ?_⟩
    rcases Nat.eq_zero_or_pos n with h | h
    · exact h
    · have := Nat.mul_pos hz h
      simp at hl
      omega
  · subst h; cases ha
def Each (k : IntKind) (w : World) : List Pc → Prop
  | [] => True
  | p :: ps => (∃ S, IRow k S w p.a p.n p.xs ∧ p.n ≤ p.c) ∧ Each k w ps
theorem PRow.of_blkE {k : IntKind} {w : World} {b n : Nat} {cs : List Value} {e : TypeId} {ps : List Pc} (B : Blk w b cs e) (hc : cs = ps.map Pc.val) (hn : ps.length = n) (he : Each k w ps) : PRow k (fun _ => True) w (some ⟨b, 0, Option.none⟩) n ps := by
  refine PRow.of_blk B trivial hc hn ?_
  clear B hc hn
  induction ps with
  | nil => intro p hp; cases hp
  | cons q ps ih =>
    intro p hp
    rcases List.mem_cons.1 hp with rfl | hp
    · obtain ⟨⟨S, h1, h2⟩, _⟩ := he
      exact ⟨h1.weaken fun _ _ _ => trivial, h2⟩
    · exact ih he.2 p hp
section
variable {P : Program} {ops : Array Oper} {R : World → World → Prop} {K : List Value → World → Prop} {rest : List Oper} {restX : List (Oper × Kd)} {l : List Value} {w : World} {d : Tmp} {dd : Option Tmp} {ty xt yt : TypeId} {pos : String} {af : Array Edge} {g : Option (Nat × Bool)} {x y : Operand} {k ki : IntKind} {S : Nat → Prop} {a : Option Addr} {n c sz : Nat} {xs : List Int} {i : Int} {e : TypeId}
theorem RS.idxP {ps : List Pc} (hR : PRow k S w a n ps) (hx : ev l x = .slice a n c) (hy : ev l y = .int ki i) (hu : P.underlying xt = some (.slice e)) (hs : P.cellsOf e = 1) (hi : 0 ≤ i ∧ i < n)
    (h : ∀ b o p, w.cell? ⟨b, o, none⟩ = some (.slice p.a p.n p.c) → p = ps.getD i.toNat default → IRow k S w p.a p.n p.xs → p.n ≤ p.c → RS P ops K rest (l.set d (.pointer (some ⟨b, o, none⟩))) w) :
    RS P ops K (⟨some d, .indexAddr xt x y, ty, pos, af, none⟩ :: rest) l w := by
  obtain ⟨b, o, ha, hc, hr, hn⟩ := hR.at_ hi
  exact RS.o (D.indexAddr hx hy hu hs (by decide) ha hi) (h _ _ _ hc rfl hr hn) rfl
theorem RS.idxW (hR : WRow k sz S w a n xs) (hx : ev l x = .slice a n c) (hy : ev l y = .int ki i) (hu : P.underlying xt = some (.slice e)) (hs : P.cellsOf e = sz) (hz : 0 < sz) (hi : 0 ≤ i ∧ i < n)
    (h : ∀ b o, Cells w b o (ints k (elt sz xs i.toNat)) → S b → Arr k sz (elt sz xs i.toNat) → RS P ops K rest (l.set d (.pointer (some ⟨b, o, none⟩))) w) :
    RS P ops K (⟨some d, .indexAddr xt x y, ty, pos, af, none⟩ :: rest) l w := by
  obtain ⟨b, o, ha, hs', hc⟩ := hR.at_ hz hi
  exact RS.o (D.indexAddr hx hy hu hs (by omega) ha hi) (h _ _ hc hs' (hR.elt_arr (by omega))) rfl
theorem Cells.ext {w w' : World} {b o : Nat} {cs : List Value} (h : Cells w b o cs) (k : Ext w w') (hn : 0 < cs.length) : Cells w' b o cs := h.of_block (k.block b (h.lt hn))
theorem RX.idxW (hRE : ∀ w', R w w' → Ext w w') (hR : WRow k sz S w a n xs) (hx : ev l x = .slice a n c) (hy : ev l y = .int ki i) (hu : P.underlying xt = some (.slice e)) (hs : P.cellsOf e = sz) (hz : 0 < sz) (hi : 0 ≤ i ∧ i < n)
    (h : ∀ b o, (∀ w', R w w' → Cells w' b o (ints k (elt sz xs i.toNat))) → S b → Arr k sz (elt sz xs i.toNat) → RX P ops R K restX (l.set d (.pointer (some ⟨b, o, none⟩))) w) :
    RX P ops R K ((⟨some d, .indexAddr xt x y, ty, pos, af, none⟩, .q) :: restX) l w := by
  obtain ⟨b, o, ha, hs', hc⟩ := hR.at_ hz hi
  have hl := hR.elt_len (i := i.toNat) (by omega)
  exact RX.o (fun w' _ => D.indexAddr hx hy hu hs (by omega) ha hi) (h _ _ (fun w' hw => hc.ext (hRE _ hw) (by rw [ints_length]; omega)) hs' (hR.elt_arr (by omega))) rfl
/-- An element of several cells, loaded. -/
theorem D.loadW {b o : Nat} {ed : TypeDesc} (hx : ev l x = .pointer (some ⟨b, o, none⟩)) (he : P.underlying xt = some ed) (hd : isAggD ed = true) (hs : P.cellsOf xt = sz) (hz : sz ≠ 0) (hA : Arr k sz xs) (hc : Cells w b o (ints k xs)) :
    (execOp (ev l) ⟨dd, .load xt x, ty, pos, af, g⟩).run P w = .ok (.value (.agg (ints k xs).toArray)) w :=
  D.loadAgg hx he hd hs hz (by rw [ints_length, hA.1]) hc
theorem D.cap (hx : ev l x = .slice a n c) (hu : P.underlying xt = some (.slice e)) :
    (execOp (ev l) ⟨dd, .call { callee := .builtin .cap, args := #[x], argTypes := #[xt] }, ty, pos, af, g⟩).run P w = .ok (.value (.int .i64 c)) w := by
  simp [execOp, resolve, hx, invoke, builtin, Builtin.cap_, run_underlying hu, goInt]
/-- A store into a row of integers that is owned. -/
theorem RS.storeI {lo b : Nat} {e' : TypeId} {j : Int} {v : Int} (hO : IOwn lo w e' k (some ⟨b, 0, none⟩) n c xs) (hx : ev l x = .pointer (some ⟨b, 0 + j.toNat * 1, none⟩)) (hy : ev l y = .int k v) (hs : P.cellsOf xt = 1) (hj : 0 ≤ j ∧ j < n) (hv : 0 ≤ v ∧ v < lim k)
    (h : ∀ w', St b w w' → IOwn lo w' e' k (some ⟨b, 0, none⟩) n c (xs.set j.toNat v) → RS P ops K rest l w') : RS P ops K (⟨none, .store xt x y, ty, pos, af, none⟩ :: rest) l w := by
  have hl := hO.len
  refine RS.storeOwn hx hy hs rfl hO.own (by rw [ints_length]; omega) (fun w' y' N => h w' y' ⟨?_, hO.bd.set _ hv⟩)
  rwa [ints_set, show 0 + j.toNat * 1 = j.toNat by omega] at N
/-- An array that is built of nothing. -/
theorem D.build0 {t e' n' sz' by_ : Nat} {z : List Value} (hu : P.underlying t = some (.array n' e')) (ht : TI P t sz' by_ z) (hs : P.cellsOf e' = 1) :
    (execOp (ev l) ⟨dd, .build t #[], ty, pos, af, g⟩).run P w = .ok (.value (.agg z.toArray)) w := by
  obtain ⟨i, v, i1, i2, i3, i4, i5⟩ := ht
  have hz1 : (zeroValue t).run P w = .ok v w := by simp [zeroValue, typeInfo, i1, i4]
  simp only [execOp, Instr.build, Sem.run_bind, hz1, Result.andThen, run_underlying hu, size_run hs (by decide)]
  rw [i5]
  simp [Instr.fill]
theorem fieldI {t : TypeId} {m : Nat} {tl : List Value} (hc : P.cellsOf t = m) (hl : xs.length = m) : ((ints k xs ++ tl).drop 0).take (P.cellsOf t) = ints k xs := by
  rw [hc, List.drop_zero, List.take_left' (by rw [ints_length]; exact hl)]
/-- append(s, xs...) of wide elements. -/
theorem RS.appendW {lo by_ : Nat} {z : List Value} {a2 : Option Addr} {m c2 : Nat} {ys : List Int} {t : TypeId}
    (hO : WOwn lo w e k sz a n c xs) (hR : WRow k sz S w a2 m ys) (hx : ev l x = .slice a n c) (hy : ev l y = .slice a2 m c2) (hu : P.underlying t = some (.slice e)) (ht : TI P e sz by_ z) (hz : z.length = sz) (hsz : 0 < sz)
    (hlo : lo ≤ w.heap.size) (hby : by_ ≤ 1000) (hb : n + m ≤ 100000000)
    (h : ∀ a' c' w', WOwn lo w' e k sz a' (n + m) c' (xs ++ ys) → Pr (fun b => obk a = some b) w w' → RS P ops K rest (l.set d (.slice a' (n + m) c')) w') :
    RS P ops K (⟨some d, .call { callee := .builtin .append, args := #[x, y], argTypes := #[t, t] }, ty, pos, af, none⟩ :: rest) l w := by
  have h8 : (n + m) * by_ ≤ (n + m) * 1000 := Nat.mul_le_mul_left _ hby
  refine RS.append hx hy hu ht hz hsz hO.own hR.row (by rw [ints_length, hR.len, Nat.mul_comm]) (ints_one _ _) hlo (by omega) (by omega) ?_
  intro a' c' w' ho hp
  exact h a' c' w' ⟨by rw [ints_append]; exact ho, hO.bd.append hR.bd⟩ hp
theorem loadBytes_run {b : Nat} : ∀ (xs : List Int) (o : Nat) (acc : ByteArray), Cells w b o (ints .u8 xs) → (Extern.Bytes.loadBytes ⟨b, o, none⟩ xs.length acc).run P w = .ok ⟨acc.data ++ (xs.map fun n => UInt8.ofNat n.toNat).toArray⟩ w
  | [], o, acc, _ => by simp [Extern.Bytes.loadBytes]
  | x :: xs, o, acc, h => by
    have h0 := h 0 (by simp [ints])
    have h1 : Cells w b (o + 1) (ints .u8 xs) := by
      intro j hj
      have := h (j + 1) (by simp [ints] at hj ⊢; omega)
      rw [show o + (j + 1) = o + 1 + j by omega] at this
      rw [this]
      simp [ints]
    have h2 : (Go.load ⟨b, o, none⟩).run P w = .ok (.int .u8 x) w := by
      simp only [Go.load, Sem.run]
      rw [show w.cell? ⟨b, o, none⟩ = some (.int .u8 x) by simpa [ints] using h0]
    simp only [List.length_cons, Extern.Bytes.loadBytes, Sem.run_bind, h2, Result.andThen, add_mk]
    rw [loadBytes_run xs (o + 1) _ h1]
    simp [ByteArray.push, Nat.toUInt8]
theorem bytesOf_run (hR : IRow .u8 S w a n xs) : (Extern.Bytes.bytesOf (.slice a n c)).run P w = .ok (strOfNums xs) w := by
  have hl := hR.len
  cases a with
  | none =>
    have : xs = [] := by
      rcases hR.row with h | ⟨b, o, h, _⟩
      · exact List.eq_nil_of_length_eq_zero (by rw [← ints_length (k := .u8), h]; rfl)
      · cases h
    subst this
    simp [Extern.Bytes.bytesOf]
    rfl
  | some ad =>
    rcases hR.row with h | ⟨b, o, h, _, hc⟩
    · have : xs = [] := List.eq_nil_of_length_eq_zero (by rw [← ints_length (k := .u8), h]; rfl)
      subst this
      simp at hl
      subst hl
      simp [Extern.Bytes.bytesOf, Extern.Bytes.loadBytes]
      rfl
    · obtain rfl := Option.some.inj h
      simp only [Extern.Bytes.bytesOf]
      rw [← hl, loadBytes_run xs o _ hc]
      simp [strOfNums, ByteArray.empty, ByteArray.emptyWithCapacity]
      rfl
/-- A function that a row of the model answers. -/
theorem D.ext {f : FuncId} {fn : Func} {args : Array Operand} {av : List Value} {ts : Array TypeId} {E : Array Value → Sem Value} {v : Value} {w' : World} (hf : P.funcs[f]? = some fn) (hn : (fn.name == "runtime.NumGoroutine") = false) (hb : fn.body.isNone = true) (hnx : Extern.findNext fn = none) (he : Extern.find fn = some E)
    (ha : args.toList.map (ev l) = av) (hr : (E av.toArray).run P w = .ok v w') :
    (execOp (ev l) ⟨dd, .call { callee := .value (.func f), args := args, argTypes := ts }, ty, pos, af, g⟩).run P w = .ok (.value v) w' := by
  have hfun : ev l (.func f) = .func (.func f) #[] #[] := rfl
  simp only [execOp, resolve, args_map ha, hfun]
  have hn' : ¬ fn.name = "runtime.NumGoroutine" := by simpa using hn
  simp only [Deferred.ofValue, invoke, callFunc, Sem.run_bind, Result.andThen]
  have hb' : fn.body = none := by simpa using hb
  simp [mark, Sem.run, hn', hf]
  rw [if_pos hb', hnx, he]
  simp [hr]
end
end Go.Proofs.YtiohpiiiapjblaaGreatDoor.G
namespace Go.Proofs.YtiohpiiiapjblaaGreatDoor.S
open G
/-- How many bytes a number has. -/
def blen (n : Int) : Nat :=
  if n ≤ 0 then 0 else if n < 256 then 1 else if n < 65536 then 2 else if n < 16777216 then 3 else if n < 4294967296 then 4 else if n < 1099511627776 then 5 else if n < 281474976710656 then 6 else if n < 72057594037927936 then 7 else 8
theorem blen_zero : blen 0 = 0 := rfl
theorem blen_step (n : Int) (h : 0 < n) (h2 : n < 18446744073709551616) : blen n = blen (n / 256) + 1 := by
  have e0 : n / 256 ≤ 0 ↔ n < 256 := by omega
  have e1 : n / 256 < 256 ↔ n < 65536 := by omega
  have e2 : n / 256 < 65536 ↔ n < 16777216 := by omega
  have e3 : n / 256 < 16777216 ↔ n < 4294967296 := by omega
  have e4 : n / 256 < 4294967296 ↔ n < 1099511627776 := by omega
  have e5 : n / 256 < 1099511627776 ↔ n < 281474976710656 := by omega
  have e6 : n / 256 < 281474976710656 ↔ n < 72057594037927936 := by omega
  have e7 : n / 256 < 72057594037927936 := by omega
  have e8 : ¬ n ≤ 0 := by omega
  simp only [blen, e0, e1, e2, e3, e4, e5, e6, e7, e8, if_true, if_false]
  repeat' split
  all_goals rfl
theorem blen_le (n : Int) : blen n ≤ 8 := by
  simp only [blen]
  repeat' split
  all_goals omega
theorem blen_pos (n : Int) (h : 0 < n) : 0 < blen n := by
  simp only [blen]
  repeat' split
  all_goals omega
/-- The digits, the lowest one first. -/
def leK : Nat → Int → List Int
  | 0, _ => []
  | k + 1, n => n % 256 :: leK k (n / 256)
theorem leK_len : ∀ (k : Nat) (n : Int), (leK k n).length = k
  | 0, _ => rfl
  | k + 1, n => by rw [leK, List.length_cons, leK_len k]
theorem leK_bd : ∀ (k : Nat) (n : Int), Bd .u8 (leK k n)
  | 0, _ => Bd.nil _
  | k + 1, n => by
    intro x hx
    rcases List.mem_cons.1 hx with rfl | hx
    · exact byte_bd _
    · exact leK_bd k _ x hx
theorem leK_get : ∀ (k : Nat) (n : Int) (i : Nat), i < k → (leK k n).getD i 0 = n / 2 ^ (8 * i) % 256
  | 0, _, _, h => by omega
  | k + 1, n, 0, _ => by simp [leK]
  | k + 1, n, i + 1, h => by
    rw [leK, List.getD_cons_succ, leK_get k _ i (by omega), Int.ediv_ediv_of_nonneg (by decide)]
    congr 2
    rw [show 8 * (i + 1) = 8 + 8 * i by omega, Int.pow_add]
    rfl
/-- THE BYTES OF A NUMBER. -/
def numS (n : Int) : List Int := if n ≤ 247 then [n] else (247 + (blen n : Int)) :: (leK (blen n) n).reverse
theorem numS_small (n : Int) (h : n ≤ 247) : numS n = [n] := by unfold numS; rw [if_pos h]
theorem numS_large (n : Int) (h : ¬ n ≤ 247) : numS n = (247 + (blen n : Int)) :: (leK (blen n) n).reverse := by unfold numS; rw [if_neg h]
theorem numS_len (n : Int) : 1 ≤ (numS n).length ∧ (numS n).length ≤ 9 := by
  have := blen_le n
  unfold numS
  split
  · simp
  · simp [leK_len]; omega
/-- The bytes of a number while they are written. -/
def numP (n : Int) (i : Nat) : List Int := (247 + (blen n : Int)) :: (List.replicate (blen n - i) 0 ++ ((leK (blen n) n).take i).reverse)
theorem numP_zero (n : Int) : numP n 0 = (247 + (blen n : Int)) :: List.replicate (blen n) 0 := by simp [numP]
theorem numP_step (n : Int) (i : Nat) (h : i < blen n) : (numP n i).set (blen n - i) (n / 2 ^ (8 * i) % 256) = numP n (i + 1) := by
  rw [← leK_get (blen n) n i h]
  unfold numP
  obtain ⟨m, hm⟩ : ∃ m, blen n - i = m + 1 := ⟨blen n - i - 1, by omega⟩
  rw [hm, show blen n - (i + 1) = m by omega, List.set_cons_succ, take_snoc _ _ (by rw [leK_len]; exact h), List.reverse_append]
  congr 1
  rw [List.replicate_succ', List.append_assoc, List.set_append_right _ _ (by simp), List.length_replicate, Nat.sub_self]
  rfl
theorem numP_all (n : Int) (h : ¬ n ≤ 247) : numP n (blen n) = numS n := by
  rw [numS_large n h, numP, Nat.sub_self, List.take_of_length_le (by rw [leK_len]; exact Nat.le_refl _)]
  rfl
/-- A table of the lengths of bytes. -/
def tabOk (xs : List Int) : Bool := Nat.beq xs.length 256 && xs.head? == some 0 && xs.tail.all fun x => decide (1 ≤ x) && decide (x ≤ 8)
theorem tab_get (xs : List Int) (h : tabOk xs = true) (i : Int) (hi : 0 ≤ i ∧ i < 256) : (i = 0 → xs.getD i.toNat 0 = 0) ∧ (0 < i → 1 ≤ xs.getD i.toNat 0) ∧ 0 ≤ xs.getD i.toNat 0 ∧ xs.getD i.toNat 0 ≤ 8 := by
  simp only [tabOk, Bool.and_eq_true] at h
  obtain ⟨⟨h1, h2⟩, h3⟩ := h
  have h1 := Nat.eq_of_beq_eq_true h1
  cases xs with
  | nil => simp at h1
  | cons a r =>
    simp only [List.head?_cons, beq_iff_eq, Option.some.injEq] at h2
    subst h2
    by_cases h0 : i = 0
    · subst h0; simp
    · obtain ⟨m, hm⟩ : ∃ m, i.toNat = m + 1 := ⟨i.toNat - 1, by omega⟩
      rw [hm, List.getD_cons_succ]
      have hr : m < r.length := by simp at h1; omega
      have := List.all_eq_true.1 h3 (r.getD m 0) (by simp only [List.tail_cons, List.getD_eq_getElem?_getD, List.getElem?_eq_getElem hr, Option.getD_some]; exact List.getElem_mem hr)
      simp only [Bool.and_eq_true, decide_eq_true_eq] at this
      omega
/-- Bytes compared, the first ones first. -/
def cmpS : List Int → List Int → Int
  | [], [] => 0
  | [], _ :: _ => -1
  | _ :: _, [] => 1
  | x :: xs, y :: ys => if x < y then -1 else if y < x then 1 else cmpS xs ys
theorem cmpS_rng : ∀ (a b : List Int), cmpS a b = -1 ∨ cmpS a b = 0 ∨ cmpS a b = 1
  | [], [] => by simp [cmpS]
  | [], _ :: _ => by simp [cmpS]
  | _ :: _, [] => by simp [cmpS]
  | x :: xs, y :: ys => by
    unfold cmpS
    split
    · simp
    · split
      · simp
      · exact cmpS_rng xs ys
theorem cmpS_swap : ∀ (a b : List Int), cmpS b a = - cmpS a b
  | [], [] => by simp [cmpS]
  | [], _ :: _ => by simp [cmpS]
  | _ :: _, [] => by simp [cmpS]
  | x :: xs, y :: ys => by
    have ih := cmpS_swap xs ys
    simp only [cmpS]
    repeat' split
    all_goals omega
theorem cmpS_eq : ∀ (a b : List Int), cmpS a b = 0 ↔ a = b
  | [], [] => by simp [cmpS]
  | [], _ :: _ => by simp [cmpS]
  | _ :: _, [] => by simp [cmpS]
  | x :: xs, y :: ys => by
    have ih := cmpS_eq xs ys
    unfold cmpS
    split
    · simp; omega
    · split
      · simp; omega
      · have : x = y := by omega
        simp [ih, this]
theorem cmpS_step (a b : List Int) (i : Nat) (ha : i < a.length) (hb : i < b.length) :
    cmpS (a.drop i) (b.drop i) = if a.getD i 0 < b.getD i 0 then -1 else if b.getD i 0 < a.getD i 0 then 1 else cmpS (a.drop (i + 1)) (b.drop (i + 1)) := by
  rw [List.drop_eq_getElem_cons ha, List.drop_eq_getElem_cons hb]
  simp [cmpS, List.getD_eq_getElem?_getD, List.getElem?_eq_getElem ha, List.getElem?_eq_getElem hb]
/-- An id in a row of ids. -/
def idAt (ids : List Int) (i : Nat) : List Int := (ids.drop (32 * i)).take 32
def Rising (n : Nat) (ids : List Int) : Prop := ∀ i, i < n - 1 → cmpS (idAt ids i) (idAt ids (i + 1)) < 0
instance (n : Nat) (ids : List Int) : Decidable (Rising n ids) := by unfold Rising; infer_instance
def Sorted (n : Nat) (ids : List Int) : Prop := ∀ i, i < n - 1 → ¬ cmpS (idAt ids (i + 1)) (idAt ids i) < 0
def Apart (n : Nat) (ids : List Int) : Prop := ∀ i, i < n - 1 → idAt ids (i + 1) ≠ idAt ids i
theorem rising_iff (n : Nat) (ids : List Int) : Rising n ids ↔ Sorted n ids ∧ Apart n ids := by
  have key : ∀ a b : List Int, cmpS a b < 0 ↔ ¬ cmpS b a < 0 ∧ b ≠ a := by
    intro a b
    have h1 := cmpS_swap a b
    have h2 := cmpS_rng a b
    have h3 := cmpS_eq a b
    constructor
    · intro h
      exact ⟨by omega, fun e => by have := h3.2 e.symm; omega⟩
    · rintro ⟨h, hn⟩
      have : cmpS a b ≠ 0 := fun e => hn (h3.1 e).symm
      omega
  unfold Rising Sorted Apart
  constructor
  · intro h
    exact ⟨fun i hi => ((key _ _).1 (h i hi)).1, fun i hi => ((key _ _).1 (h i hi)).2⟩
  · rintro ⟨h1, h2⟩ i hi
    exact (key _ _).2 ⟨h1 i hi, h2 i hi⟩
/-- The kit's compare of bytes. -/
theorem cmp_go (p q : Int) : ∀ (xs ys : List UInt8), (match (List.range (min xs.length ys.length)).find? fun i => xs.getD i 0 != ys.getD i 0 with
    | some i => if xs.getD i 0 < ys.getD i 0 then (-1 : Int) else 1
    | none => if xs.length < ys.length then -1 else if xs.length > ys.length then 1 else 0) = cmpS (xs.map fun b => (b.toNat : Int)) (ys.map fun b => (b.toNat : Int))
  | [], [] => by simp [cmpS]
  | [], _ :: _ => by simp [cmpS]
  | _ :: _, [] => by simp [cmpS]
  | x :: xs, y :: ys => by
    have ih := cmp_go p q xs ys
    simp only [List.length_cons, List.map_cons, cmpS]
    rw [show min (xs.length + 1) (ys.length + 1) = min xs.length ys.length + 1 by omega, List.range_succ_eq_map, List.find?_cons]
    simp only [List.getD_cons_zero]
    by_cases h : x = y
    · subst h
      simp only [bne_self_eq_false, List.find?_map, Int.lt_irrefl, if_false]
      rw [← ih]
      simp only [Function.comp_def, Nat.succ_eq_add_one, List.getD_cons_succ]
      cases (List.range (min xs.length ys.length)).find? fun i => xs.getD i 0 != ys.getD i 0 with
      | none => simp
      | some i => simp
    · have h1 : (x != y) = true := by simpa using h
      simp only [h1, List.getD_cons_zero]
      have h2 : x.toNat ≠ y.toNat := fun e => h (UInt8.toNat_inj.1 e)
      by_cases hlt : x < y
      · have := UInt8.lt_iff_toNat_lt.1 hlt
        rw [if_pos hlt, if_pos (by omega)]
      · have : ¬ x.toNat < y.toNat := fun e => hlt (UInt8.lt_iff_toNat_lt.2 e)
        rw [if_neg hlt, if_neg (by omega), if_pos (by omega)]
theorem cmp_eq (A B : ByteArray) : Go.Extern.BytealgCompare.cmp A B = cmpS (bys A) (bys B) := by
  rw [bys, bys, ← cmp_go 0 0]
  have hA : A.size = A.data.toList.length := by rw [Array.length_toList]; rfl
  have hB : B.size = B.data.toList.length := by rw [Array.length_toList]; rfl
  have ga : ∀ (C : ByteArray) (i : Nat), C[i]! = C.data.toList.getD i 0 := by
    intro C i
    by_cases h : i < C.size
    · rw [getElem!_pos C i h]
      simp only [List.getD_eq_getElem?_getD]
      rw [List.getElem?_eq_getElem (by simpa using h)]
      rfl
    · rw [getElem!_neg C i h]
      simp only [List.getD_eq_getElem?_getD]
      rw [List.getElem?_eq_none (by simpa using h)]
      rfl
  simp only [Go.Extern.BytealgCompare.cmp, hA, hB, ga]
  generalize List.find? _ _ = o
  cases o <;> rfl
theorem cmp_run {P : Program} {w : World} {S T : Nat → Prop} {a a2 : Option Addr} {n n2 c c2 : Nat} {xs ys : List Int} (h : IRow .u8 S w a n xs) (h2 : IRow .u8 T w a2 n2 ys) :
    (Go.Extern.BytealgCompare.compare [.slice a n c, .slice a2 n2 c2].toArray).run P w = .ok (.int .i64 (cmpS xs ys)) w := by
  show ((do pure (goInt (Go.Extern.BytealgCompare.cmp (← Go.Extern.Bytes.bytesOf (.slice a n c)) (← Go.Extern.Bytes.bytesOf (.slice a2 n2 c2)))) : Sem Value)).run P w = _
  simp only [Sem.run_bind, bytesOf_run h, bytesOf_run h2, Result.andThen, Sem.run_pure]
  rw [cmp_eq, bys_strOf _ h.bd, bys_strOf _ h2.bd]
  rfl
end Go.Proofs.YtiohpiiiapjblaaGreatDoor.S
namespace Go.Proofs.YtiohpiiiapjblaaGreatDoor.G
open Go.RowKit
theorem elt_cat (sz : Nat) (xs : List Int) (i : Nat) : xs.take (sz * (i + 1)) = xs.take (sz * i) ++ elt sz xs i := by
  unfold elt
  rw [Nat.mul_add, Nat.mul_one, List.take_add]
theorem WRow.rest {k : IntKind} {sz : Nat} {S : Nat → Prop} {w : World} {a : Option Addr} {n : Nat} {xs : List Int} (h : WRow k sz S w a n xs) (lo m : Nat) (hl : lo ≤ n) (hm : n ≤ m) : WRow k sz S w (subA a lo sz m) (n - lo) (xs.drop (sz * lo)) := by
  have hlen := h.len
  have := h.row.sub lo n sz m (by rw [ints_length, hlen, Nat.mul_comm]; exact Nat.le_refl _) hl hm
  refine ⟨?_, by rw [List.length_drop, hlen, Nat.mul_sub], h.bd.drop _⟩
  rw [ints_drop, ints_take, List.take_of_length_le (by rw [List.length_drop, hlen, Nat.sub_mul, Nat.mul_comm n, Nat.mul_comm lo]; exact Nat.le_refl _), Nat.mul_comm lo] at this
  exact this
/-- Bytes at the start of a block, whatever they are. -/
def UB (w : World) (b N : Nat) (T : TypeId) : Prop := ∃ (xs : List Int) (rest : List Value), Blk w b (ints .u8 xs ++ rest) T ∧ xs.length = N ∧ Bd .u8 xs
theorem UB.ext {w w' : World} {b N : Nat} {T : TypeId} (h : UB w b N T) (x : Ext w w') : UB w' b N T := by
  obtain ⟨xs, r, h1, h2, h3⟩ := h; exact ⟨xs, r, h1.ext x, h2, h3⟩
theorem UB.st {w w' : World} {b N m : Nat} {T : TypeId} (h : UB w b N T) (x : St m w w') (hn : b ≠ m) : UB w' b N T := by
  obtain ⟨xs, r, h1, h2, h3⟩ := h; exact ⟨xs, r, h1.st x hn, h2, h3⟩
theorem UB.pr {S : Nat → Prop} {w w' : World} {b N : Nat} {T : TypeId} (h : UB w b N T) (x : Pr S w w') (hn : ¬ S b) : UB w' b N T := by
  obtain ⟨xs, r, h1, h2, h3⟩ := h; exact ⟨xs, r, h1.pr x hn, h2, h3⟩
theorem UB.lt {w : World} {b N : Nat} {T : TypeId} (h : UB w b N T) : b < w.heap.size := by
  obtain ⟨xs, r, h1, h2, h3⟩ := h; exact h1.lt
theorem UB.cells {w : World} {b N : Nat} {T : TypeId} (h : UB w b N T) (o sz : Nat) (ho : o + sz ≤ N) : ∃ ys, Cells w b o (ints .u8 ys) ∧ Arr .u8 sz ys := by
  obtain ⟨xs, r, h1, h2, h3⟩ := h
  refine ⟨(xs.drop o).take sz, h1.cells ?_, by rw [List.length_take, List.length_drop]; omega, (h3.drop o).take sz⟩
  rw [List.drop_append_of_le_length (by rw [ints_length]; omega), List.take_append_of_le_length (by rw [ints_length, List.length_drop, ints_length, List.length_take, List.length_drop]; omega), ints_drop, ints_take, ints_length, List.length_take, List.length_drop]
  congr 2
  omega
theorem WOwn.ub {lo : Nat} {w : World} {e : TypeId} {sz n c g0 : Nat} {xs : List Int} (h : WOwn lo w e .u8 sz (some ⟨g0, 0, Option.none⟩) n c xs) : UB w g0 (sz * n) e := by
  obtain ⟨rs, hB, _, _⟩ := h.own.blk
  exact ⟨xs, rs, hB, h.len, h.bd⟩
theorem WOwn.some {lo : Nat} {w : World} {e : TypeId} {k : IntKind} {sz n c : Nat} {a : Option Addr} {xs : List Int} (h : WOwn lo w e k sz a n c xs) (hn : 0 < n) : ∃ g0, a = Option.some ⟨g0, 0, Option.none⟩ := by
  rcases h.own.2 with ⟨hv, h0⟩ | ⟨g, cap, cur, hv, _⟩
  · omega
  · simp at hv; exact ⟨g, hv.1⟩
theorem Own.pre {lo : Nat} {w : World} {e : TypeId} {sz n c : Nat} {a : Option Addr} {cs : List Value} (h : Own lo w e sz a n c cs) : n ≤ c := h.cap.1
section
variable {P : Program} {ops : Array Oper} {R : World → World → Prop} {K : List Value → World → Prop} {rest : List Oper} {restX : List (Oper × Kd)} {l : List Value} {w : World} {d : Tmp} {dd : Option Tmp} {ty xt yt : TypeId} {pos : String} {af : Array Edge} {g : Option (Nat × Bool)} {x y : Operand} {k ki : IntKind} {S : Nat → Prop} {a : Option Addr} {n c sz : Nat} {xs : List Int} {i : Int} {e : TypeId}
/-- A slice of a whole array, wherever it lies. -/
theorem D.sliceAt {t b o : Nat} (hx : ev l x = .pointer (some ⟨b, o, none⟩)) (hu : P.underlying t = some (.array n e)) (hs : P.cellsOf e = 1) (hn : 0 < n) :
    (execOp (ev l) ⟨dd, .slice t x none none none, ty, pos, af, g⟩).run P w = .ok (.value (.slice (some ⟨b, o, none⟩) n n)) w := by
  have hsz := size_run (P := P) (w := w) hs (by decide)
  have hn' : ¬ n = 0 := by omega
  simp only [execOp]; rw [hx]
  simp [Instr.sliceAt, Instr.sureAddr, run_underlying hu, Instr.sliceBounds, hsz, add_mk]
theorem RS.idxU {b o N m cp : Nat} {A : Option Addr} {T : TypeId} (hU : UB w b N T) (hA : A = some ⟨b, o, none⟩) (hx : ev l x = .slice A m cp) (hy : ev l y = .int ki i) (hu : P.underlying xt = some (.slice e)) (hs : P.cellsOf e = sz) (hz : 0 < sz) (hi : 0 ≤ i ∧ i < m) (hb : o + sz * (i.toNat + 1) ≤ N)
    (h : ∀ ys o', o' = o + i.toNat * sz → Cells w b o' (ints .u8 ys) → Arr .u8 sz ys → RS P ops K rest (l.set d (.pointer (some ⟨b, o', none⟩))) w) :
    RS P ops K (⟨some d, .indexAddr xt x y, ty, pos, af, none⟩ :: rest) l w := by
  rw [Nat.mul_add, Nat.mul_one, Nat.mul_comm] at hb
  obtain ⟨ys, h1, h2⟩ := hU.cells (o + i.toNat * sz) sz (by omega)
  exact RS.o (D.indexAddr hx hy hu hs (by omega) hA hi) (h ys _ rfl h1 h2) rfl
theorem RX.idxU (hRE : ∀ w', R w w' → Ext w w') {b o N m cp : Nat} {A : Option Addr} {T : TypeId} (hU : UB w b N T) (hA : A = some ⟨b, o, none⟩) (hx : ev l x = .slice A m cp) (hy : ev l y = .int ki i) (hu : P.underlying xt = some (.slice e)) (hs : P.cellsOf e = sz) (hz : 0 < sz) (hi : 0 ≤ i ∧ i < m) (hb : o + sz * (i.toNat + 1) ≤ N)
    (h : ∀ ys o', o' = o + i.toNat * sz → (∀ w', R w w' → Cells w' b o' (ints .u8 ys)) → Arr .u8 sz ys → RX P ops R K restX (l.set d (.pointer (some ⟨b, o', none⟩))) w) :
    RX P ops R K ((⟨some d, .indexAddr xt x y, ty, pos, af, none⟩, .q) :: restX) l w := by
  rw [Nat.mul_add, Nat.mul_one, Nat.mul_comm] at hb
  obtain ⟨ys, h1, h2⟩ := hU.cells (o + i.toNat * sz) sz (by omega)
  exact RX.o (fun w' _ => D.indexAddr hx hy hu hs (by omega) hA hi) (h ys _ rfl (fun w' hw => h1.ext (hRE _ hw) (by rw [ints_length, h2.1]; exact hz)) h2) rfl
theorem UB.splice {b N o : Nat} {T : TypeId} {vs ys : List Int} {rs : List Value} (hB : Blk w b (splice (ints .u8 vs ++ rs) o (ints .u8 ys)) T) (hl : vs.length = N) (hb : Bd .u8 vs) (hy : Bd .u8 ys) (ho : o + ys.length ≤ N) : UB w b N T := by
  rw [splice_eq _ _ _ (by simp [ints_length]; omega)] at hB
  refine ⟨vs.take o ++ ys ++ vs.drop (o + ys.length), rs, ?_, by simp; omega, ((hb.take o).append hy).append (hb.drop _)⟩
  rw [List.take_append_of_le_length (by rw [ints_length]; omega), ints_length, List.drop_append_of_le_length (by rw [ints_length]; omega), ints_take, ints_drop] at hB
  rw [ints_append, ints_append]
  simpa [List.append_assoc] using hB
theorem RS.storeU {b o N : Nat} {T : TypeId} {ys : List Int} (hU : UB w b N T) (hx : ev l x = .pointer (some ⟨b, o, none⟩)) (hy : ev l y = .agg (ints .u8 ys).toArray) (hs : P.cellsOf xt = sz) (hz : sz ≠ 0) (hA : Arr .u8 sz ys) (ho : o + sz ≤ N)
    (h : ∀ w', St b w w' → UB w' b N T → RS P ops K rest l w') : RS P ops K (⟨none, .store xt x y, ty, pos, af, none⟩ :: rest) l w := by
  obtain ⟨vs, rs, hB, hl, hb⟩ := hU
  have hlen := hA.1
  exact RS.storeAgg hx hy hs hz (by rw [ints_length, hlen]) cellB_ints hB (by simp [ints_length]; omega) (fun w' y' N' => h w' y' (UB.splice N' hl hb hA.2 (by omega)))
theorem zeros_cells {zc : List Value} (n : Nat) (hz : ∀ v ∈ zc, v = .int .u8 0) (hl : 0 < zc.length) : (Builtin.zeroCells zc.toArray n).toList = ints .u8 (List.replicate (n * zc.length) 0) := by
  have hs : (Builtin.zeroCells zc.toArray n).size = n * zc.length := by simp [Builtin.zeroCells]
  apply List.ext_getElem
  · simp [ints_length, hs]
  intro j h1 h2
  have hj : j < n * zc.length := by simpa [hs] using h1
  have hm : j % zc.length < zc.length := Nat.mod_lt _ hl
  have : zc[j % zc.length] = .int .u8 0 := hz _ (List.getElem_mem hm)
  simp [Builtin.zeroCells, ints, hm, this]
theorem RS.clearU {b o N m cp by_ : Nat} {A : Option Addr} {T t : TypeId} {zc : List Value} (hU : UB w b N T) (hA : A = some ⟨b, o, none⟩) (hx : ev l x = .slice A m cp) (hu : P.underlying t = some (.slice e)) (ht : TI P e sz by_ zc) (hz : ∀ v ∈ zc, v = .int .u8 0) (hl : zc.length = sz) (hz0 : 0 < sz) (ho : o + m * sz ≤ N)
    (h : ∀ w', St b w w' → UB w' b N T → RS P ops K rest l w') : RS P ops K (⟨none, .call { callee := .builtin .clear, args := #[x], argTypes := #[t] }, ty, pos, af, none⟩ :: rest) l w := by
  subst hA
  obtain ⟨i, v, i1, i2, i3, i4, i5⟩ := ht
  have hz1 : (zeroValue e).run P w = .ok v w := by simp [zeroValue, typeInfo, i1, i4]
  have hrun : ∀ w', (Builtin.clear_ #[t] ty #[.slice (some ⟨b, o, none⟩) m cp]).run P w = .ok (.tuple #[]) w' → (RS P ops K rest l w' → RS P ops K (⟨none, .call { callee := .builtin .clear, args := #[x], argTypes := #[t] }, ty, pos, af, none⟩ :: rest) l w) := by
    intro w' hr hk
    refine RS.v (v := .tuple #[]) (w' := w') rfl ?_ hk
    simp [execOp, resolve, hx, invoke, builtin, hr]
  by_cases hm : m = 0
  · subst hm
    exact hrun w (by simp [Builtin.clear_, run_underlying hu]) (h w (St.refl b w) hU)
  · obtain ⟨vs, rs, hB, hlv, hb⟩ := hU
    have hzl : (Builtin.zeroCells v.cells m).toList = ints .u8 (List.replicate (m * sz) 0) := by rw [i5, zeros_cells m hz (by omega), hl]
    obtain ⟨w1, h1, h2, h3⟩ := storeCells_blk (P := P) (o := o) (ints .u8 (List.replicate (m * sz) 0)) 0 _ w hB (by simp [ints_length]; omega) cellB_ints
    refine hrun w1 ?_ (h w1 h2 (UB.splice (o := o) (by simpa using h3) hlv hb (Bd.zeros _ _) (by simp; omega)))
    have hm' : ∃ m', m = m' + 1 := ⟨m - 1, by omega⟩
    obtain ⟨m', rfl⟩ := hm'
    simp [Builtin.clear_, run_underlying hu, hz1, hzl, h1]
end
end Go.Proofs.YtiohpiiiapjblaaGreatDoor.G
