/-
  G9: operations on bits, with the bounds of what they yield; elements of arrays that are values.
-/
import Derived.Test.YtiohpiiiapjblaaDoorG8
namespace Go.Proofs.YtiohpiiiapjblaaDoor.G
open Go.RowKit

theorem and_nat (a b : Int) (n : Nat) (ha : 0 ≤ a ∧ a < (2 ^ n : Nat)) (hb : 0 ≤ b ∧ b < (2 ^ n : Nat)) : 0 ≤ iand a b ∧ iand a b < (2 ^ n : Nat) := by
  unfold iand
  refine ⟨by omega, ?_⟩
  have := Nat.and_lt_two_pow (x := a.toNat) (y := b.toNat) (n := n) (by omega)
  omega
theorem or_nat (a b : Int) (n : Nat) (ha : 0 ≤ a ∧ a < (2 ^ n : Nat)) (hb : 0 ≤ b ∧ b < (2 ^ n : Nat)) : 0 ≤ ior a b ∧ ior a b < (2 ^ n : Nat) := by
  unfold ior
  refine ⟨by omega, ?_⟩
  have := Nat.or_lt_two_pow (x := a.toNat) (y := b.toNat) (n := n) (by omega) (by omega)
  omega
theorem xor_nat (a b : Int) (n : Nat) (ha : 0 ≤ a ∧ a < (2 ^ n : Nat)) (hb : 0 ≤ b ∧ b < (2 ^ n : Nat)) : 0 ≤ ixor a b ∧ ixor a b < (2 ^ n : Nat) := by
  unfold ixor
  refine ⟨by omega, ?_⟩
  have := Nat.xor_lt_two_pow (x := a.toNat) (y := b.toNat) (n := n) (by omega) (by omega)
  omega
theorem shr_nat (a M : Int) (n : Nat) (ha : 0 ≤ a ∧ a < M) : 0 ≤ a / 2 ^ n ∧ a / 2 ^ n < M := by
  have hp : (0 : Int) ≤ 2 ^ n := Int.pow_nonneg (by decide)
  have h1 := Int.ediv_nonneg ha.1 hp
  have h2 := Int.ediv_le_self (2 ^ n) ha.1
  omega

abbrev Arr (k : IntKind) (n : Nat) (xs : List Int) : Prop := xs.length = n ∧ Bd k xs
theorem IArr.ofA {k : IntKind} {w : World} {b n : Nat} {xs : List Int} {T : TypeId} (h : Blk w b (ints k xs) T) (hl : Arr k n xs) : IArr k w b n xs [] T := .of h hl.1 hl.2
theorem IArr.ofT {k : IntKind} {w : World} {b n : Nat} {xs : List Int} {tl : List Value} {T : TypeId} (h : Blk w b (ints k xs ++ tl) T) (hl : Arr k n xs) : IArr k w b n xs tl T := ⟨h, hl.1, hl.2⟩
theorem IArr.arr {k : IntKind} {w : World} {b n : Nat} {xs : List Int} {tl : List Value} {T : TypeId} (h : IArr k w b n xs tl T) : Arr k n xs := ⟨h.len, h.bd⟩
theorem Arr.zeros (k : IntKind) (n : Nat) : Arr k n (List.replicate n 0) := ⟨by simp, Bd.zeros k n⟩
theorem IArr.all {k : IntKind} {w : World} {b n : Nat} {xs : List Int} {tl : List Value} {T : TypeId} (h : IArr k w b n xs tl T) : Cells w b 0 (ints k xs ++ tl) := h.blk.cells (by rw [List.drop_zero, List.take_length])
theorem IArr.allLen {k : IntKind} {w : World} {b n : Nat} {xs : List Int} {tl : List Value} {T : TypeId} (h : IArr k w b n xs tl T) {sz : Nat} (hs : n + tl.length = sz) : (ints k xs ++ tl).length = sz := by
  rw [List.length_append, ints_length, h.len]; exact hs
theorem IArr.tail {k : IntKind} {w : World} {b n : Nat} {xs : List Int} {tl : List Value} {T : TypeId} (h : IArr k w b n xs tl T) (j : Nat) {v : Value} (hv : tl[j]? = some v) : w.cell? ⟨b, n + j, none⟩ = some v := by
  refine h.blk.cell ?_
  rw [List.getElem?_append_right (by rw [ints_length, h.len]; omega), ints_length, h.len, show n + j - n = j by omega]
  exact hv

section
variable {P : Program} {ops : Array Oper} {R : World → World → Prop} {K : List Value → World → Prop} {rest : List Oper} {restX : List (Oper × Kd)} {l : List Value} {w : World} {d : Tmp} {dd : Option Tmp} {ty xt yt : TypeId} {pos : String} {af : Array Edge} {g : Option (Nat × Bool)} {x y : Operand} {a b : Int}
theorem D.band_u8 (hx : ev l x = .int .u8 a) (hy : ev l y = .int .u8 b) (ha : 0 ≤ a ∧ a < 256) (hb : 0 ≤ b ∧ b < 256) :
    ((execOp (ev l) ⟨dd, .binOp .and xt x y yt, ty, pos, af, g⟩).run P w = .ok (.value (.int .u8 (iand a b))) w) ∧ (0 ≤ iand a b ∧ iand a b < 256) :=
  ⟨D.band hx hy rfl (by simp only [IntKind.bits]; omega) (by simp only [IntKind.bits]; omega), and_nat a b 8 ha hb⟩
theorem D.bor_u8 (hx : ev l x = .int .u8 a) (hy : ev l y = .int .u8 b) (ha : 0 ≤ a ∧ a < 256) (hb : 0 ≤ b ∧ b < 256) :
    ((execOp (ev l) ⟨dd, .binOp .or xt x y yt, ty, pos, af, g⟩).run P w = .ok (.value (.int .u8 (ior a b))) w) ∧ (0 ≤ ior a b ∧ ior a b < 256) :=
  ⟨D.bor hx hy rfl (by simp only [IntKind.bits]; omega) (by simp only [IntKind.bits]; omega), or_nat a b 8 ha hb⟩
theorem D.bxor_u8 (hx : ev l x = .int .u8 a) (hy : ev l y = .int .u8 b) (ha : 0 ≤ a ∧ a < 256) (hb : 0 ≤ b ∧ b < 256) :
    ((execOp (ev l) ⟨dd, .binOp .xor xt x y yt, ty, pos, af, g⟩).run P w = .ok (.value (.int .u8 (ixor a b))) w) ∧ (0 ≤ ixor a b ∧ ixor a b < 256) :=
  ⟨D.bxor hx hy rfl (by simp only [IntKind.bits]; omega) (by simp only [IntKind.bits]; omega), xor_nat a b 8 ha hb⟩
theorem D.shr_u8 {yk : IntKind} (hx : ev l x = .int .u8 a) (hy : ev l y = .int yk b) (ha : 0 ≤ a ∧ a < 256) (hb : 0 ≤ b ∧ b ≤ 8) :
    ((execOp (ev l) ⟨dd, .binOp .shr xt x y yt, ty, pos, af, g⟩).run P w = .ok (.value (.int .u8 (a / 2 ^ b.toNat))) w) ∧ (0 ≤ a / 2 ^ b.toNat ∧ a / 2 ^ b.toNat < 256) :=
  ⟨D.shr hx hy hb, shr_nat a 256 b.toNat ha⟩
theorem D.band_u32 (hx : ev l x = .int .u32 a) (hy : ev l y = .int .u32 b) (ha : 0 ≤ a ∧ a < 4294967296) (hb : 0 ≤ b ∧ b < 4294967296) :
    ((execOp (ev l) ⟨dd, .binOp .and xt x y yt, ty, pos, af, g⟩).run P w = .ok (.value (.int .u32 (iand a b))) w) ∧ (0 ≤ iand a b ∧ iand a b < 4294967296) :=
  ⟨D.band hx hy rfl (by simp only [IntKind.bits]; omega) (by simp only [IntKind.bits]; omega), and_nat a b 32 ha hb⟩
theorem D.bor_u32 (hx : ev l x = .int .u32 a) (hy : ev l y = .int .u32 b) (ha : 0 ≤ a ∧ a < 4294967296) (hb : 0 ≤ b ∧ b < 4294967296) :
    ((execOp (ev l) ⟨dd, .binOp .or xt x y yt, ty, pos, af, g⟩).run P w = .ok (.value (.int .u32 (ior a b))) w) ∧ (0 ≤ ior a b ∧ ior a b < 4294967296) :=
  ⟨D.bor hx hy rfl (by simp only [IntKind.bits]; omega) (by simp only [IntKind.bits]; omega), or_nat a b 32 ha hb⟩
theorem D.bxor_u32 (hx : ev l x = .int .u32 a) (hy : ev l y = .int .u32 b) (ha : 0 ≤ a ∧ a < 4294967296) (hb : 0 ≤ b ∧ b < 4294967296) :
    ((execOp (ev l) ⟨dd, .binOp .xor xt x y yt, ty, pos, af, g⟩).run P w = .ok (.value (.int .u32 (ixor a b))) w) ∧ (0 ≤ ixor a b ∧ ixor a b < 4294967296) :=
  ⟨D.bxor hx hy rfl (by simp only [IntKind.bits]; omega) (by simp only [IntKind.bits]; omega), xor_nat a b 32 ha hb⟩
theorem D.shr_u32 {yk : IntKind} (hx : ev l x = .int .u32 a) (hy : ev l y = .int yk b) (ha : 0 ≤ a ∧ a < 4294967296) (hb : 0 ≤ b ∧ b ≤ 32) :
    ((execOp (ev l) ⟨dd, .binOp .shr xt x y yt, ty, pos, af, g⟩).run P w = .ok (.value (.int .u32 (a / 2 ^ b.toNat))) w) ∧ (0 ≤ a / 2 ^ b.toNat ∧ a / 2 ^ b.toNat < 4294967296) :=
  ⟨D.shr hx hy hb, shr_nat a 4294967296 b.toNat ha⟩
theorem D.band_u64 (hx : ev l x = .int .u64 a) (hy : ev l y = .int .u64 b) (ha : 0 ≤ a ∧ a < 18446744073709551616) (hb : 0 ≤ b ∧ b < 18446744073709551616) :
    ((execOp (ev l) ⟨dd, .binOp .and xt x y yt, ty, pos, af, g⟩).run P w = .ok (.value (.int .u64 (iand a b))) w) ∧ (0 ≤ iand a b ∧ iand a b < 18446744073709551616) :=
  ⟨D.band hx hy rfl (by simp only [IntKind.bits]; omega) (by simp only [IntKind.bits]; omega), and_nat a b 64 ha hb⟩
theorem D.bor_u64 (hx : ev l x = .int .u64 a) (hy : ev l y = .int .u64 b) (ha : 0 ≤ a ∧ a < 18446744073709551616) (hb : 0 ≤ b ∧ b < 18446744073709551616) :
    ((execOp (ev l) ⟨dd, .binOp .or xt x y yt, ty, pos, af, g⟩).run P w = .ok (.value (.int .u64 (ior a b))) w) ∧ (0 ≤ ior a b ∧ ior a b < 18446744073709551616) :=
  ⟨D.bor hx hy rfl (by simp only [IntKind.bits]; omega) (by simp only [IntKind.bits]; omega), or_nat a b 64 ha hb⟩
theorem D.bxor_u64 (hx : ev l x = .int .u64 a) (hy : ev l y = .int .u64 b) (ha : 0 ≤ a ∧ a < 18446744073709551616) (hb : 0 ≤ b ∧ b < 18446744073709551616) :
    ((execOp (ev l) ⟨dd, .binOp .xor xt x y yt, ty, pos, af, g⟩).run P w = .ok (.value (.int .u64 (ixor a b))) w) ∧ (0 ≤ ixor a b ∧ ixor a b < 18446744073709551616) :=
  ⟨D.bxor hx hy rfl (by simp only [IntKind.bits]; omega) (by simp only [IntKind.bits]; omega), xor_nat a b 64 ha hb⟩
theorem D.shr_u64 {yk : IntKind} (hx : ev l x = .int .u64 a) (hy : ev l y = .int yk b) (ha : 0 ≤ a ∧ a < 18446744073709551616) (hb : 0 ≤ b ∧ b ≤ 64) :
    ((execOp (ev l) ⟨dd, .binOp .shr xt x y yt, ty, pos, af, g⟩).run P w = .ok (.value (.int .u64 (a / 2 ^ b.toNat))) w) ∧ (0 ≤ a / 2 ^ b.toNat ∧ a / 2 ^ b.toNat < 18446744073709551616) :=
  ⟨D.shr hx hy hb, shr_nat a 18446744073709551616 b.toNat ha⟩

/-- A value, and what is known of it. -/
theorem RS.ob {op : Op} {v : Value} {φ : Prop} (hr : (execOp (ev l) ⟨some d, op, ty, pos, af, none⟩).run P w = .ok (.value v) w ∧ φ) {l' : List Value} (k : φ → RS P ops K rest l' w) (hl : l.set d v = l' := by dsimp only [List.set]) :
    RS P ops K (⟨some d, op, ty, pos, af, none⟩ :: rest) l w := RS.o hr.1 (k hr.2) hl
theorem RX.ob {op : Op} {v : Value} {φ : Prop} (hw0 : R w w) (hr : ∀ w', R w w' → (execOp (ev l) ⟨some d, op, ty, pos, af, none⟩).run P w' = .ok (.value v) w' ∧ φ) {l' : List Value} (k : φ → RX P ops R K restX l' w) (hl : l.set d v = l' := by dsimp only [List.set]) :
    RX P ops R K ((⟨some d, op, ty, pos, af, none⟩, .q) :: restX) l w := RX.o (fun w' hw => (hr w' hw).1) (k (hr w hw0).2) hl

theorem RS.storeT {b n : Nat} {k : IntKind} {xs : List Int} {tl : List Value} {T : TypeId} {v : Value} (hA : IArr k w b n xs tl T) (j : Nat) (hx : ev l x = .pointer (some ⟨b, n + j, none⟩)) (hy : ev l y = v) (hs : P.cellsOf xt = 1) (hv : cellB v = true) (hj : Nat.ble (j + 1) tl.length = true)
    (h : ∀ w', St b w w' → IArr k w' b n xs (tl.set j v) T → RS P ops K rest l w') : RS P ops K (⟨none, .store xt x y, ty, pos, af, none⟩ :: rest) l w := by
  have hl := hA.len
  have hj := Nat.le_of_ble_eq_true hj
  refine RS.store hx hy hs hv hA.blk (Nat.ble_eq_true_of_le (by simp [ints_length]; omega)) (fun w' y' N => h w' y' ⟨?_, hl, hA.bd⟩)
  rwa [List.set_append_right _ _ (by rw [ints_length]; omega), ints_length, hl, show n + j - n = j by omega] at N

theorem RS.storeRec {b n sz : Nat} {k : IntKind} {xs ys : List Int} {tl tl' : List Value} {T : TypeId} (hA : IArr k w b n xs tl T) (hx : ev l x = .pointer (some ⟨b, 0, none⟩)) (hy : ev l y = .agg (ints k ys ++ tl').toArray) (hs : P.cellsOf xt = sz) (hz : sz ≠ 0) (hl : Arr k n ys) (ht : tl'.length = tl.length) (hn : n + tl.length = sz)
    (hc : ∀ v ∈ tl', cellB v = true) (h : ∀ w', St b w w' → IArr k w' b n ys tl' T → RS P ops K rest l w') : RS P ops K (⟨none, .store xt x y, ty, pos, af, none⟩ :: rest) l w := by
  refine RS.storeWhole hx hy hs hz (by rw [List.length_append, ints_length, hl.1, ht]; exact hn) ?_ hA.blk (hA.allLen hn) (fun w' y' N => h w' y' ⟨N, hl.1, hl.2⟩)
  intro v hv
  rcases List.mem_append.1 hv with hv | hv
  · exact cellB_ints v hv
  · exact hc v hv

/-- An element of an array that is a value. -/
theorem RS.idxV {e n : Nat} {k ki : IntKind} {xs : List Int} {i : Int} {ed : TypeDesc} (hx : ev l x = .agg (ints k xs).toArray) (hy : ev l y = .int ki i) (hu : P.underlying xt = some (.array n e)) (he : P.underlying e = some ed)
    (hd : (match ed with | .struct _ | .array _ _ => true | _ => false) = false) (hs : P.cellsOf e = 1) (hi : 0 ≤ i ∧ i < n) (hn : xs.length = n) (hb : Bd k xs)
    (h : ∀ v, v = xs.getD i.toNat 0 → 0 ≤ v ∧ v < lim k → RS P ops K rest (l.set d (.int k v)) w) : RS P ops K (⟨some d, .index xt x y, ty, pos, af, none⟩ :: rest) l w := by
  refine RS.o (D.indexVal hx hy hu he hd hs hi ?_) (h _ rfl (hb.get _)) rfl
  simp [ints, List.getD_eq_getElem?_getD, List.getElem?_eq_getElem (show i.toNat < xs.length by omega)]
end
end Go.Proofs.YtiohpiiiapjblaaDoor.G
