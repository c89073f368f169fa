/-
  G2: what each operation yields, over any program: numbers, comparisons, addresses, loads.
-/
import Derived.Test.YtiohpiiiapjblaaDoorG1
namespace Go.Proofs.YtiohpiiiapjblaaDoor.G
open Go.RowKit

/-! ### wraps -/
theorem W.i64 {n : Int} (h : -9223372036854775808 ≤ n ∧ n ≤ 9223372036854775807) : IntKind.i64.wrap n = n := IntWalk.i64_in n h
theorem W.u8 {n : Int} (h : 0 ≤ n ∧ n ≤ 255) : IntKind.u8.wrap n = n := IntWalk.u8_in n h
theorem W.u32 {n : Int} (h : 0 ≤ n ∧ n ≤ 4294967295) : IntKind.u32.wrap n = n := IntWalk.u32_in n h
theorem W.u64 {n : Int} (h : 0 ≤ n ∧ n ≤ 18446744073709551615) : IntKind.u64.wrap n = n := IntWalk.u64_in n h
theorem W.i32 {n : Int} (h : -2147483648 ≤ n ∧ n ≤ 2147483647) : IntKind.i32.wrap n = n := IntWalk.i32_in n h
theorem W.u8m (n : Int) : IntKind.u8.wrap n = n % 256 := by simp [IntKind.wrap, IntKind.bits, IntKind.signed]
theorem W.u32m (n : Int) : IntKind.u32.wrap n = n % 4294967296 := by simp [IntKind.wrap, IntKind.bits, IntKind.signed]
theorem W.u64m (n : Int) : IntKind.u64.wrap n = n % 18446744073709551616 := by simp [IntKind.wrap, IntKind.bits, IntKind.signed]

/-! ### bits of numbers that are not negative -/
def iand (a b : Int) : Int := ((a.toNat &&& b.toNat : Nat) : Int)
def ior (a b : Int) : Int := ((a.toNat ||| b.toNat : Nat) : Int)
def ixor (a b : Int) : Int := ((a.toNat ^^^ b.toNat : Nat) : Int)

theorem ofInt_toNat (n : Nat) (a : Int) (h0 : 0 ≤ a) (h : a < 2 ^ n) : (BitVec.ofInt n a).toNat = a.toNat := by
  rw [BitVec.toNat_ofInt]
  have e : ((2 ^ n : Nat) : Int) = (2 : Int) ^ n := by norm_cast
  rw [e, Int.emod_eq_of_lt h0 h]

theorem wrap_nat {k : IntKind} (hk : k.signed = false) {n : Nat} (h : n < 2 ^ k.bits) : k.wrap (n : Int) = n := by
  have e : ((2 ^ k.bits : Nat) : Int) = (2 : Int) ^ k.bits := by norm_cast
  simp only [IntKind.wrap, hk, Bool.false_and, Bool.false_eq_true, if_false]
  rw [← e]
  exact Int.emod_eq_of_lt (by omega) (by omega)

section
variable {P : Program} {l : List Value} {w : World} {d : Option Tmp} {ty xt yt : TypeId} {pos : String} {af : Array Edge} {g : Option (Nat × Bool)} {x y : Operand} {k : IntKind} {a b c : Int}

theorem bin_run (op : BinOp) (hg : (match op with | .eql | .neq => false | _ => true) = true ∨ ∃ k a k' b, ev l x = .int k a ∧ ev l y = .int k' b) :
    (execOp (ev l) ⟨d, .binOp op xt x y yt, ty, pos, af, g⟩).run P w = ((binOp op xt (ev l x) (ev l y)).run P w).andThen fun v w' => .ok (.value v) w' := by
  simp only [execOp, eqGuard]
  rcases hg with hg | ⟨k, a, k', b, hx, hy⟩
  · cases op <;> simp at hg <;> simp
  · rw [hx, hy]
    cases op <;> simp

theorem D.add (hx : ev l x = .int k a) (hy : ev l y = .int k b) (hw : k.wrap (a + b) = c) : (execOp (ev l) ⟨d, .binOp .add xt x y yt, ty, pos, af, g⟩).run P w = .ok (.value (.int k c)) w := by
  rw [bin_run _ (.inl rfl), hx, hy]; simp [binOp, Op.intArith, hw]
theorem D.sub (hx : ev l x = .int k a) (hy : ev l y = .int k b) (hw : k.wrap (a - b) = c) : (execOp (ev l) ⟨d, .binOp .sub xt x y yt, ty, pos, af, g⟩).run P w = .ok (.value (.int k c)) w := by
  rw [bin_run _ (.inl rfl), hx, hy]; simp [binOp, Op.intArith, hw]
theorem D.mul (hx : ev l x = .int k a) (hy : ev l y = .int k b) (hw : k.wrap (a * b) = c) : (execOp (ev l) ⟨d, .binOp .mul xt x y yt, ty, pos, af, g⟩).run P w = .ok (.value (.int k c)) w := by
  rw [bin_run _ (.inl rfl), hx, hy]; simp [binOp, Op.intArith, hw]
theorem D.quo (hx : ev l x = .int k a) (hy : ev l y = .int k b) (ha : 0 ≤ a) (hb : 0 < b) (hw : k.wrap (a / b) = c) : (execOp (ev l) ⟨d, .binOp .quo xt x y yt, ty, pos, af, g⟩).run P w = .ok (.value (.int k c)) w := by
  have hb' : b ≠ 0 := by omega
  have e : a.tdiv b = a / b := Int.tdiv_eq_ediv_of_nonneg ha
  rw [bin_run _ (.inl rfl), hx, hy]; simp [binOp, Op.intDiv, hb', e, hw]
theorem D.rem (hx : ev l x = .int k a) (hy : ev l y = .int k b) (ha : 0 ≤ a) (hb : 0 < b) : (execOp (ev l) ⟨d, .binOp .rem xt x y yt, ty, pos, af, g⟩).run P w = .ok (.value (.int k (a % b))) w := by
  have hb' : b ≠ 0 := by omega
  have e : a.tmod b = a % b := Int.tmod_eq_emod_of_nonneg ha
  rw [bin_run _ (.inl rfl), hx, hy]; simp [binOp, Op.intDiv, hb', e]
theorem D.eq (hx : ev l x = .int k a) (hy : ev l y = .int k b) : (execOp (ev l) ⟨d, .binOp .eql xt x y yt, ty, pos, af, g⟩).run P w = .ok (.value (.bool (a == b))) w := by
  rw [bin_run _ (.inr ⟨_, _, _, _, hx, hy⟩), hx, hy]; simp [binOp, Op.intCmp]
theorem D.ne (hx : ev l x = .int k a) (hy : ev l y = .int k b) : (execOp (ev l) ⟨d, .binOp .neq xt x y yt, ty, pos, af, g⟩).run P w = .ok (.value (.bool (a != b))) w := by
  rw [bin_run _ (.inr ⟨_, _, _, _, hx, hy⟩), hx, hy]; simp [binOp, Op.intCmp]
theorem D.lt (hx : ev l x = .int k a) (hy : ev l y = .int k b) : (execOp (ev l) ⟨d, .binOp .lss xt x y yt, ty, pos, af, g⟩).run P w = .ok (.value (.bool (decide (a < b)))) w := by
  rw [bin_run _ (.inl rfl), hx, hy]; simp [binOp, Op.intCmp]
theorem D.le (hx : ev l x = .int k a) (hy : ev l y = .int k b) : (execOp (ev l) ⟨d, .binOp .leq xt x y yt, ty, pos, af, g⟩).run P w = .ok (.value (.bool (decide (a ≤ b)))) w := by
  rw [bin_run _ (.inl rfl), hx, hy]; simp [binOp, Op.intCmp]
theorem D.gt (hx : ev l x = .int k a) (hy : ev l y = .int k b) : (execOp (ev l) ⟨d, .binOp .gtr xt x y yt, ty, pos, af, g⟩).run P w = .ok (.value (.bool (decide (b < a)))) w := by
  rw [bin_run _ (.inl rfl), hx, hy]; simp [binOp, Op.intCmp]
theorem D.ge (hx : ev l x = .int k a) (hy : ev l y = .int k b) : (execOp (ev l) ⟨d, .binOp .geq xt x y yt, ty, pos, af, g⟩).run P w = .ok (.value (.bool (decide (b ≤ a)))) w := by
  rw [bin_run _ (.inl rfl), hx, hy]; simp [binOp, Op.intCmp]

theorem D.shr {yk : IntKind} (hx : ev l x = .int k a) (hy : ev l y = .int yk b) (hb : 0 ≤ b ∧ b ≤ k.bits) : (execOp (ev l) ⟨d, .binOp .shr xt x y yt, ty, pos, af, g⟩).run P w = .ok (.value (.int k (a / 2 ^ b.toNat))) w := by
  have h1 : ¬ b < 0 := by omega
  have h2 : min b.toNat k.bits = b.toNat := by omega
  have e : a.fdiv (2 ^ b.toNat) = a / 2 ^ b.toNat := Int.fdiv_eq_ediv_of_nonneg _ (Int.pow_nonneg (by decide))
  rw [bin_run _ (.inl rfl), hx, hy]; simp [binOp, Op.shift, h1, h2, e]
theorem D.shl {yk : IntKind} (hx : ev l x = .int k a) (hy : ev l y = .int yk b) (hb : 0 ≤ b ∧ b ≤ k.bits) (hw : k.wrap (a * 2 ^ b.toNat) = c) : (execOp (ev l) ⟨d, .binOp .shl xt x y yt, ty, pos, af, g⟩).run P w = .ok (.value (.int k c)) w := by
  have h1 : ¬ b < 0 := by omega
  have h2 : min b.toNat k.bits = b.toNat := by omega
  rw [bin_run _ (.inl rfl), hx, hy]; simp [binOp, Op.shift, h1, h2, hw]

theorem D.band (hx : ev l x = .int k a) (hy : ev l y = .int k b) (hk : k.signed = false) (ha : 0 ≤ a ∧ a < 2 ^ k.bits) (hb : 0 ≤ b ∧ b < 2 ^ k.bits) :
    (execOp (ev l) ⟨d, .binOp .and xt x y yt, ty, pos, af, g⟩).run P w = .ok (.value (.int k (iand a b))) w := by
  have e := wrap_nat hk (n := a.toNat &&& b.toNat) (Nat.lt_of_le_of_lt Nat.and_le_left ((Int.toNat_lt ha.1).2 (by push_cast; exact ha.2)))
  rw [bin_run _ (.inl rfl), hx, hy]
  simp only [binOp, Op.intBits, ne_eq, not_true_eq_false, if_false, BitVec.toNat_and, ofInt_toNat _ _ ha.1 ha.2, ofInt_toNat _ _ hb.1 hb.2, e]
  rfl
theorem D.bor (hx : ev l x = .int k a) (hy : ev l y = .int k b) (hk : k.signed = false) (ha : 0 ≤ a ∧ a < 2 ^ k.bits) (hb : 0 ≤ b ∧ b < 2 ^ k.bits) :
    (execOp (ev l) ⟨d, .binOp .or xt x y yt, ty, pos, af, g⟩).run P w = .ok (.value (.int k (ior a b))) w := by
  have e := wrap_nat hk (n := a.toNat ||| b.toNat) (Nat.or_lt_two_pow ((Int.toNat_lt ha.1).2 (by push_cast; exact ha.2)) ((Int.toNat_lt hb.1).2 (by push_cast; exact hb.2)))
  rw [bin_run _ (.inl rfl), hx, hy]
  simp only [binOp, Op.intBits, ne_eq, not_true_eq_false, if_false, BitVec.toNat_or, ofInt_toNat _ _ ha.1 ha.2, ofInt_toNat _ _ hb.1 hb.2, e]
  rfl
theorem D.bxor (hx : ev l x = .int k a) (hy : ev l y = .int k b) (hk : k.signed = false) (ha : 0 ≤ a ∧ a < 2 ^ k.bits) (hb : 0 ≤ b ∧ b < 2 ^ k.bits) :
    (execOp (ev l) ⟨d, .binOp .xor xt x y yt, ty, pos, af, g⟩).run P w = .ok (.value (.int k (ixor a b))) w := by
  have e := wrap_nat hk (n := a.toNat ^^^ b.toNat) (Nat.xor_lt_two_pow ((Int.toNat_lt ha.1).2 (by push_cast; exact ha.2)) ((Int.toNat_lt hb.1).2 (by push_cast; exact hb.2)))
  rw [bin_run _ (.inl rfl), hx, hy]
  simp only [binOp, Op.intBits, ne_eq, not_true_eq_false, if_false, BitVec.toNat_xor, ofInt_toNat _ _ ha.1 ha.2, ofInt_toNat _ _ hb.1 hb.2, e]
  rfl
/-- A signed exclusive or, as the model has it. -/
def sxor (k : IntKind) (a b : Int) : Int := k.wrap ((BitVec.ofInt k.bits a ^^^ BitVec.ofInt k.bits b).toNat : Nat)
theorem D.sxor (hx : ev l x = .int k a) (hy : ev l y = .int k b) : (execOp (ev l) ⟨d, .binOp .xor xt x y yt, ty, pos, af, g⟩).run P w = .ok (.value (.int k (sxor k a b))) w := by
  rw [bin_run _ (.inl rfl), hx, hy]; simp [binOp, Op.intBits, G.sxor]
/-- A signed and. -/
def sand (k : IntKind) (a b : Int) : Int := k.wrap ((BitVec.ofInt k.bits a &&& BitVec.ofInt k.bits b).toNat : Nat)
theorem D.sand (hx : ev l x = .int k a) (hy : ev l y = .int k b) : (execOp (ev l) ⟨d, .binOp .and xt x y yt, ty, pos, af, g⟩).run P w = .ok (.value (.int k (sand k a b))) w := by
  rw [bin_run _ (.inl rfl), hx, hy]; simp [binOp, Op.intBits, G.sand]

theorem D.not {b : Bool} (hx : ev l x = .bool b) : (execOp (ev l) ⟨d, .unOp .not xt x, ty, pos, af, g⟩).run P w = .ok (.value (.bool (!b))) w := by
  simp only [execOp]; rw [hx]; simp [Op.unary]
theorem D.neg (hx : ev l x = .int k a) (hw : k.wrap (0 - a) = c) : (execOp (ev l) ⟨d, .unOp .neg xt x, ty, pos, af, g⟩).run P w = .ok (.value (.int k c)) w := by
  simp only [execOp]; rw [hx]; simp [Op.unary, Op.intArith] at hw ⊢; exact hw
theorem D.inv (hx : ev l x = .int .u32 a) (ha : 0 ≤ a ∧ a < 4294967296) : (execOp (ev l) ⟨d, .unOp .xor xt x, ty, pos, af, g⟩).run P w = .ok (.value (.int .u32 (4294967295 - a))) w := by
  obtain ⟨n, rfl⟩ := Int.eq_ofNat_of_zero_le ha.1
  have hn : n < 2 ^ 32 := by omega
  have e : (BitVec.ofInt IntKind.u32.bits 4294967295 ^^^ BitVec.ofInt IntKind.u32.bits (n : Int)).toNat = 4294967295 - n := by
    show (BitVec.ofInt 32 4294967295 ^^^ BitVec.ofInt 32 (n : Int)).toNat = 4294967295 - n
    have e1 : BitVec.ofInt 32 4294967295 = BitVec.allOnes 32 := by decide
    rw [e1, BitVec.allOnes_xor, BitVec.toNat_not, ofInt_toNat 32 n (by omega) (by omega)]
    simp
  have e2 := W.u32 (n := 4294967295 - (n : Int)) (by omega)
  have e3 : ((4294967295 - n : Nat) : Int) = 4294967295 - (n : Int) := by omega
  have e4 : IntKind.max .u32 = 4294967295 := by decide
  simp only [execOp]; rw [hx]
  simp only [Op.unary, Op.intBits, show IntKind.u32.signed = false from rfl, Bool.false_eq_true, if_false, e4, e, e3, e2]
  rfl

theorem D.conv {s : TypeId} {k' : IntKind} {sd : TypeDesc} (hx : ev l x = .int k a) (hs : P.underlying s = some sd) (hu : P.underlying xt = some (.int k')) (hw : k'.wrap a = c) :
    (execOp (ev l) ⟨d, .convert s xt x, ty, pos, af, g⟩).run P w = .ok (.value (.int k' c)) w := by
  simp only [execOp]; rw [hx]; simp [convert, run_underlying hs, run_underlying hu, Conv.intToInt, hw]

/-! ### strings -/
theorem bin_run_str (op : BinOp) {s t : ByteArray} (hx : ev l x = .string s) (hy : ev l y = .string t) :
    (execOp (ev l) ⟨d, .binOp op xt x y yt, ty, pos, af, g⟩).run P w = ((binOp op xt (.string s) (.string t)).run P w).andThen fun v w' => .ok (.value v) w' := by
  simp only [execOp, eqGuard]
  rw [hx, hy]
  cases op <;> simp
theorem D.seq {s t : ByteArray} (hx : ev l x = .string s) (hy : ev l y = .string t) : (execOp (ev l) ⟨d, .binOp .eql xt x y yt, ty, pos, af, g⟩).run P w = .ok (.value (.bool (s.toList == t.toList))) w := by
  rw [bin_run_str _ hx hy]; simp [binOp, Op.stringOp]
theorem D.sne {s t : ByteArray} (hx : ev l x = .string s) (hy : ev l y = .string t) : (execOp (ev l) ⟨d, .binOp .neq xt x y yt, ty, pos, af, g⟩).run P w = .ok (.value (.bool (!(s.toList == t.toList)))) w := by
  rw [bin_run_str _ hx hy]; simp [binOp, Op.stringOp]

/-! ### places -/
theorem add_mk (b o n : Nat) : (⟨b, o, none⟩ : Addr).add n = ⟨b, o + n, none⟩ := by
  unfold Addr.add; split
  · subst n; rfl
  · rfl

theorem D.fieldAddr {b o i sz : Nat} {fs : Array Field} {f : Field} (hx : ev l x = .pointer (some ⟨b, o, none⟩)) (hu : P.underlying xt = some (.struct fs)) (hf : fs[i]? = some f) (hs : P.cellsOf f.type = sz) (hz : sz ≠ 0) :
    (execOp (ev l) ⟨d, .fieldAddr xt x i, ty, pos, af, g⟩).run P w = .ok (.value (.pointer (some ⟨b, o + f.offset, none⟩))) w := by
  obtain ⟨ti, h1, h2⟩ : ∃ ti, P.info? f.type = some ti ∧ ti.size = sz := by
    cases h : P.info? f.type with
    | none => simp [Program.cellsOf, h] at hs; omega
    | some ti => exact ⟨ti, rfl, by simpa [Program.cellsOf, h] using hs⟩
  simp only [execOp]; rw [hx]
  simp [Instr.fieldAt, run_underlying hu, hf, Instr.sureAddr, fieldPlace, sizeOf, typeInfo, h1, h2, hz, add_mk]

theorem size_run {t : TypeId} {sz : Nat} (hs : P.cellsOf t = sz) (hz : sz ≠ 0) : (sizeOf t).run P w = .ok sz w := by
  cases h : P.info? t with
  | none => simp [Program.cellsOf, h] at hs; omega
  | some ti => simp [sizeOf, typeInfo, h]; simpa [Program.cellsOf, h] using hs

theorem D.indexAddr {A : Option Addr} {b o n cp sz e : Nat} {i : Int} (hx : ev l x = .slice A n cp) (hy : ev l y = .int k i) (hu : P.underlying xt = some (.slice e)) (hs : P.cellsOf e = sz) (hz : sz ≠ 0)
    (hA : A = some ⟨b, o, none⟩) (hi : 0 ≤ i ∧ i < n) : (execOp (ev l) ⟨d, .indexAddr xt x y, ty, pos, af, g⟩).run P w = .ok (.value (.pointer (some ⟨b, o + i.toNat * sz, none⟩))) w := by
  subst hA
  simp only [execOp]; rw [hx, hy]
  simp [Instr.indexAt, asIntOf, run_underlying hu, size_run hs hz, hi, add_mk]
theorem D.indexArr {b o n sz e : Nat} {i : Int} (hx : ev l x = .pointer (some ⟨b, o, none⟩)) (hy : ev l y = .int k i) (hu : P.underlying xt = some (.array n e)) (hs : P.cellsOf e = sz) (hz : sz ≠ 0)
    (hi : 0 ≤ i ∧ i < n) : (execOp (ev l) ⟨d, .indexAddr xt x y, ty, pos, af, g⟩).run P w = .ok (.value (.pointer (some ⟨b, o + i.toNat * sz, none⟩))) w := by
  simp only [execOp]; rw [hx, hy]
  simp [Instr.indexAt, asIntOf, run_underlying hu, size_run hs hz, hi, add_mk, Instr.sureAddr]
theorem D.indexVal {cs : Array Value} {n e : Nat} {i : Int} {v : Value} {ed : TypeDesc} (hx : ev l x = .agg cs) (hy : ev l y = .int k i) (hu : P.underlying xt = some (.array n e)) (he : P.underlying e = some ed)
    (hd : (match ed with | .struct _ | .array _ _ => true | _ => false) = false) (hs : P.cellsOf e = 1) (hi : 0 ≤ i ∧ i < n) (hv : cs[i.toNat]? = some v) :
    (execOp (ev l) ⟨d, .index xt x y, ty, pos, af, g⟩).run P w = .ok (.value v) w := by
  simp only [execOp]; rw [hx, hy]
  have h1 : (isAgg e).run P w = .ok false w := by
    cases ed <;> simp at hd <;> simp [isAgg, run_underlying he]
  simp [Instr.index, asIntOf, run_underlying hu, size_run hs (by decide), hi, part, h1, hv]

def isAggD : TypeDesc → Bool
  | .struct _ | .array _ _ => true
  | _ => false

theorem agg_run {t : TypeId} {ed : TypeDesc} (he : P.underlying t = some ed) : (isAgg t).run P w = .ok (isAggD ed) w := by
  cases ed <;> simp [isAgg, run_underlying he, isAggD]

theorem D.load {p : Addr} {v : Value} {ed : TypeDesc} (hx : ev l x = .pointer (some p)) (he : P.underlying xt = some ed) (hd : isAggD ed = false) (hc : w.cell? p = some v) :
    (execOp (ev l) ⟨d, .load xt x, ty, pos, af, g⟩).run P w = .ok (.value v) w := by
  simp only [execOp]; rw [hx]
  simp [Instr.loadAt, Instr.sureAddr, loadVar, agg_run he, hd, hc]

/-- Cells in a row. -/
def Cells (w : World) (b o : Nat) (cs : List Value) : Prop := ∀ j, j < cs.length → w.cell? ⟨b, o + j, none⟩ = some (cs.getD j undef)

theorem loadFrom_run {b o : Nat} (cs : List Value) (hc : Cells w b o cs) : ∀ (n i : Nat) (acc : Array Value), i + n = cs.length →
    (loadCellsFrom ⟨b, o, none⟩ i n acc).run P w = .ok (acc ++ (cs.drop i).toArray) w
  | 0, i, acc, h => by
    have : cs.drop i = [] := List.drop_eq_nil_of_le (by omega)
    simp [loadCellsFrom, this]
  | n + 1, i, acc, h => by
    have h1 := hc i (by omega)
    have hi : i < cs.length := by omega
    have h2 : cs.getD i undef = cs[i] := by simp [List.getD, List.getElem?_eq_getElem hi]
    rw [h2] at h1
    simp only [loadCellsFrom, add_mk]
    rw [Sem.run_bind]
    have h3 : (Go.load ⟨b, o + i, none⟩).run P w = .ok cs[i] w := by simp only [Go.load, Sem.run, h1]
    rw [h3]
    simp only [Result.andThen]
    rw [loadFrom_run cs hc n (i + 1) _ (by omega), List.drop_eq_getElem_cons hi]
    simp

theorem D.loadAgg {b o sz : Nat} {cs : List Value} {ed : TypeDesc} (hx : ev l x = .pointer (some ⟨b, o, none⟩)) (he : P.underlying xt = some ed) (hd : isAggD ed = true) (hs : P.cellsOf xt = sz) (hz : sz ≠ 0)
    (hn : cs.length = sz) (hc : Cells w b o cs) : (execOp (ev l) ⟨d, .load xt x, ty, pos, af, g⟩).run P w = .ok (.value (.agg cs.toArray)) w := by
  have h1 : (loadCells ⟨b, o, none⟩ sz).run P w = .ok cs.toArray w := by
    have := loadFrom_run (P := P) cs hc sz 0 #[] (by omega)
    simpa [loadCells] using this
  simp only [execOp]; rw [hx]
  simp [Instr.loadAt, Instr.sureAddr, loadVar, agg_run he, hd, size_run hs hz, h1]

/-! ### len -/
theorem D.len {A : Option Addr} {n cp : Nat} {e : TypeId} (hx : ev l x = .slice A n cp) (hu : P.underlying xt = some (.slice e)) :
    (execOp (ev l) ⟨d, .call { callee := .builtin .len, args := #[x], argTypes := #[xt] }, ty, pos, af, g⟩).run P w = .ok (.value (.int .i64 n)) w := by
  simp [execOp, resolve, hx, invoke, builtin, Builtin.len_, run_underlying hu, goInt]
theorem D.lenStr {s : ByteArray} (hx : ev l x = .string s) (hu : P.underlying xt = some .string) :
    (execOp (ev l) ⟨d, .call { callee := .builtin .len, args := #[x], argTypes := #[xt] }, ty, pos, af, g⟩).run P w = .ok (.value (.int .i64 s.size)) w := by
  simp [execOp, resolve, hx, invoke, builtin, Builtin.len_, run_underlying hu, goInt]
theorem D.max2 (hx : ev l x = .int k a) (hy : ev l y = .int k b) {ts : Array TypeId} :
    (execOp (ev l) ⟨d, .call { callee := .builtin .max, args := #[x, y], argTypes := ts }, ty, pos, af, g⟩).run P w = .ok (.value (.int k (if b > a then b else a))) w := by
  simp [execOp, resolve, hx, hy, invoke, builtin, Builtin.max_, Builtin.max2]
end
end Go.Proofs.YtiohpiiiapjblaaDoor.G
