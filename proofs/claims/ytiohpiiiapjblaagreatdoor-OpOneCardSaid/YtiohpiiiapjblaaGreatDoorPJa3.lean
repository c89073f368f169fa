/-
  Part 3 of the lemmas of these laws: OpOne, JudgeSigned.
-/
import Derived.Test.YtiohpiiiapjblaaGreatDoorPJa2
namespace Go.Proofs.YtiohpiiiapjblaaGreatDoor.S
open G
instance (n : Nat) (ids : List Int) : Decidable (Sorted n ids) := by unfold Sorted; infer_instance
instance (n : Nat) (ids : List Int) : Decidable (Apart n ids) := by unfold Apart; infer_instance
theorem idAt_elt (ids : List Int) (i : Nat) : idAt ids i = elt 32 ids i := rfl
theorem leK_step (n : Int) (h : 0 < n) (h2 : n < 18446744073709551616) : leK (blen n) n = n % 256 :: leK (blen (n / 256)) (n / 256) := by
  rw [blen_step n h h2]; rfl
theorem made_ints (k : IntKind) (m : Nat) : (madeCells [Value.int k 0].toArray m).toList = ints k (List.replicate m 0) := by
  apply List.ext_getElem
  · simp [madeCells, ints_length]
  intro i h1 h2
  simp [madeCells, ints, Nat.mod_one]
theorem numP_first (n : Int) : (List.replicate (blen n + 1) (0 : Int)).set 0 (247 + (blen n : Int)) = numP n 0 := by
  rw [numP_zero, List.replicate_succ]; rfl
theorem len_big (n L : Int) (j : Int) (x : Int) (t : Int) (hx : x = n / 2 ^ (8 * j).toNat) (hj : 0 ≤ j ∧ j ≤ 7) (h256 : 0 ≤ x ∧ x < 256) (hx0 : 0 < x) (ht : 1 ≤ t ∧ t ≤ 8) (hL : L = 8 * j + t) : (L + 7) / 8 = (blen n : Int) := by
  have key : (L + 7) / 8 = j + 1 := by omega
  rw [key]
  have hj' : j = 0 ∨ j = 1 ∨ j = 2 ∨ j = 3 ∨ j = 4 ∨ j = 5 ∨ j = 6 ∨ j = 7 := by omega
  unfold blen
  rcases hj' with rfl | rfl | rfl | rfl | rfl | rfl | rfl | rfl
  · have : x = n := by rw [hx]; simp
    rw [if_neg (by omega), if_pos (by omega)]; rfl
  · have : x = n / 256 := hx
    rw [if_neg (by omega), if_neg (by omega), if_pos (by omega)]; rfl
  · have : x = n / 65536 := hx
    rw [if_neg (by omega), if_neg (by omega), if_neg (by omega), if_pos (by omega)]; rfl
  · have : x = n / 16777216 := hx
    rw [if_neg (by omega), if_neg (by omega), if_neg (by omega), if_neg (by omega), if_pos (by omega)]; rfl
  · have : x = n / 4294967296 := hx
    rw [if_neg (by omega), if_neg (by omega), if_neg (by omega), if_neg (by omega), if_neg (by omega), if_pos (by omega)]; rfl
  · have : x = n / 1099511627776 := hx
    rw [if_neg (by omega), if_neg (by omega), if_neg (by omega), if_neg (by omega), if_neg (by omega), if_neg (by omega), if_pos (by omega)]; rfl
  · have : x = n / 281474976710656 := hx
    rw [if_neg (by omega), if_neg (by omega), if_neg (by omega), if_neg (by omega), if_neg (by omega), if_neg (by omega), if_neg (by omega), if_pos (by omega)]; rfl
  · have : x = n / 72057594037927936 := hx
    rw [if_neg (by omega), if_neg (by omega), if_neg (by omega), if_neg (by omega), if_neg (by omega), if_neg (by omega), if_neg (by omega), if_neg (by omega)]; rfl
theorem tab_of {xs : List Int} {i v : Int} (hq : v = xs.getD i.toNat 0) (h : tabOk xs = true) (hi : 0 ≤ i ∧ i < 256) : (i = 0 → v = 0) ∧ (0 < i → 1 ≤ v) ∧ 0 ≤ v ∧ v ≤ 8 := by
  rw [hq]; exact tab_get xs h i hi
/-- A number with a sign. -/
def zig (n : Int) : Int := if 0 ≤ n then 2 * n else -2 * n - 1
theorem zig_bd (n : Int) (h : -9223372036854775808 ≤ n ∧ n ≤ 9223372036854775807) : 0 ≤ zig n ∧ zig n < 18446744073709551616 := by
  unfold zig; split <;> omega
theorem ixor_ones (x : Int) (h : 0 ≤ x ∧ x < 18446744073709551616) : ixor x 18446744073709551615 = 18446744073709551615 - x := by
  obtain ⟨n, rfl⟩ := Int.eq_ofNat_of_zero_le h.1
  have hn : n < 2 ^ 64 := by omega
  unfold ixor
  have e : n ^^^ (2 ^ 64 - 1) = 2 ^ 64 - 1 - n := by
    have h1 : (BitVec.ofNat 64 n ^^^ BitVec.allOnes 64).toNat = (~~~ BitVec.ofNat 64 n).toNat := by rw [BitVec.xor_allOnes]
    rw [BitVec.toNat_xor, BitVec.toNat_not, BitVec.toNat_ofNat, BitVec.toNat_allOnes, Nat.mod_eq_of_lt hn] at h1
    exact h1
  rw [show ((n : Int)).toNat = n from rfl, show (18446744073709551615 : Int).toNat = 2 ^ 64 - 1 from rfl, e]
  omega
theorem ixor_zero (x : Int) (h : 0 ≤ x) : ixor x 0 = x := by
  unfold ixor
  rw [show (0 : Int).toNat = 0 from rfl, Nat.xor_zero]
  omega
theorem zig_eq (n : Int) (h : -9223372036854775808 ≤ n ∧ n ≤ 9223372036854775807) : ixor (n % 18446744073709551616 * 2 ^ (1 : Int).toNat % 18446744073709551616) (n / 2 ^ (63 : Int).toNat % 18446744073709551616) = zig n := by
  have h63 : (2 : Int) ^ (63 : Int).toNat = 9223372036854775808 := by decide
  have h1 : (2 : Int) ^ (1 : Int).toNat = 2 := by decide
  rw [h63, h1]
  unfold zig
  split
  · rw [show n / 9223372036854775808 % 18446744073709551616 = 0 by omega, ixor_zero _ (by omega)]; omega
  · rw [show n / 9223372036854775808 % 18446744073709551616 = 18446744073709551615 by omega, ixor_ones _ (by omega)]; omega
/-- The bytes of a list of ids. -/
def listS (n : Nat) (ids : List Int) : List Int := numS n ++ ids
theorem rising_step (_n : Nat) (ids : List Int) (p : Int) (h0 : 1 ≤ p) (h : ∀ j, j < p.toNat - 1 → cmpS (idAt ids j) (idAt ids (j + 1)) < 0) (h2 : cmpS (idAt ids (p - 1).toNat) (idAt ids p.toNat) < 0) : ∀ j, j < (p + 1).toNat - 1 → cmpS (idAt ids j) (idAt ids (j + 1)) < 0 := by
  intro j hj
  by_cases hj' : j < p.toNat - 1
  · exact h j hj'
  · rw [show (p - 1).toNat = j by omega, show p.toNat = j + 1 by omega] at h2
    exact h2
end Go.Proofs.YtiohpiiiapjblaaGreatDoor.S
namespace Go.Proofs.YtiohpiiiapjblaaGreatDoor.S
open G
/-- All bytes lie between a lowest one and '~'. -/
def Asc (lo : Int) (s : ByteArray) : Prop := ∀ j, j < s.size → lo ≤ (bys s).getD j 0 ∧ (bys s).getD j 0 ≤ 126
instance (lo : Int) (s : ByteArray) : Decidable (Asc lo s) := by unfold Asc; infer_instance
theorem dec_case (s : ByteArray) (p : Nat) (hp : p < s.size) : ((bys s).getD p 0 < 128 ∧ ((Utf8.decode s p).1 : Int) = (bys s).getD p 0 ∧ (Utf8.decode s p).2 = 1) ∨ (128 ≤ (bys s).getD p 0 ∧ (128 : Int) ≤ (Utf8.decode s p).1) := by
  rw [bys_get s p hp]
  by_cases h : (s[p]'hp).toNat < 128
  · left
    rw [decode_ascii s p hp h]
    exact ⟨by omega, rfl, rfl⟩
  · right
    have := decode_high s p hp (by omega)
    omega
/-- A key. -/
def KeyOk (s : ByteArray) : Prop := 1 ≤ s.size ∧ s.size ≤ 20 ∧ Asc 33 s
instance (s : ByteArray) : Decidable (KeyOk s) := by unfold KeyOk; infer_instance
def clsS (b : Int) : Int :=
  if b / 4503599627370496 % 2048 = 2047 then (if b % 4503599627370496 = 0 then 4 else 5)
  else if b / 4503599627370496 % 2048 = 0 then (if b % 4503599627370496 = 0 then 1 else 2) else 3
def canS (b : Int) : Int := if clsS b = 5 then 9221120237041090560 else b
theorem sand_2047 (a : Int) (h : 0 ≤ a ∧ a < 9223372036854775808) : sand .i64 a 2047 = a % 2048 := by
  unfold sand
  have e1 : (BitVec.ofInt IntKind.i64.bits a &&& BitVec.ofInt IntKind.i64.bits 2047).toNat = a.toNat % 2048 := by
    rw [BitVec.toNat_and]
    have h1 : (BitVec.ofInt IntKind.i64.bits a).toNat = a.toNat := ofInt_toNat 64 a h.1 (by omega)
    have h2 : (BitVec.ofInt IntKind.i64.bits 2047).toNat = 2 ^ 11 - 1 := ofInt_toNat 64 2047 (by decide) (by decide)
    rw [h1, h2, Nat.and_two_pow_sub_one_eq_mod]
  rw [e1, W.i64 (by omega)]
  omega
theorem iand_full (b : Int) (h : 0 ≤ b) : iand b 4503599627370495 = b % 4503599627370496 := by
  unfold iand
  rw [show (4503599627370495 : Int).toNat = 2 ^ 52 - 1 from rfl, Nat.and_two_pow_sub_one_eq_mod]
  omega
theorem exp_eq (b : Int) (_h : 0 ≤ b) : b % 9223372036854775808 / 4503599627370496 = b / 4503599627370496 % 2048 := by omega
/-- A value that is valid. -/
def FineV (k num bits : Int) (t : ByteArray) : Prop :=
  (k = 1 ∧ bits = 0 ∧ t = ByteArray.empty) ∨ (k = 2 ∧ num = 0 ∧ t = ByteArray.empty ∧ canS bits = bits) ∨ (k = 3 ∧ num = 0 ∧ bits = 0 ∧ t.size ≤ 30 ∧ Asc 32 t)
instance (k num bits : Int) (t : ByteArray) : Decidable (FineV k num bits t) := by unfold FineV; infer_instance
def valE (k num bits : Int) (t : ByteArray) : Int := if FineV k num bits t then 0 else 8
def TextOk (t : ByteArray) : Prop := t.size ≤ 30 ∧ Asc 32 t
instance (t : ByteArray) : Decidable (TextOk t) := by unfold TextOk; infer_instance
theorem eqV (a b c a' b' c' : Int) (d d' : ByteArray) : eqC [.int .u8 a, .int .i64 b, .int .u64 c, .string d] [.int .u8 a', .int .i64 b', .int .u64 c', .string d'] = decide (a = a' ∧ b = b' ∧ c = c' ∧ d = d') := by
  simp only [eqC, strEq, Bool.and_true]
  by_cases h1 : a = a' <;> by_cases h2 : b = b' <;> by_cases h3 : c = c' <;> by_cases h4 : d = d' <;> simp [h1, h2, h3, h4]
theorem valE_pos {k num bits : Int} {t : ByteArray} (h : FineV k num bits t) : (0 : Int) = valE k num bits t := by unfold valE; rw [if_pos h]
theorem valE_neg {k num bits : Int} {t : ByteArray} (h : ¬ FineV k num bits t) : (8 : Int) = valE k num bits t := by unfold valE; rw [if_neg h]
/-- The bytes of a value. -/
def valS (k num bits : Int) (t : ByteArray) : List Int :=
  [k] ++ (if k = 1 then numS (zig num) else if k = 2 then be8 bits else if k = 3 then numS t.size ++ bys t else [])
end Go.Proofs.YtiohpiiiapjblaaGreatDoor.S
namespace Go.Proofs.YtiohpiiiapjblaaGreatDoor.S
open G
/-- An operation, without the place of its predecessors. -/
structure OpV where
  (au st k vk num bits e s : Int) (n : Nat) (ids : List Int) (key t : ByteArray)
structure OpV.ok (o : OpV) : Prop where
  au : 0 ≤ o.au ∧ o.au < 4294967296
  st : 0 ≤ o.st ∧ o.st < 18446744073709551616
  k : 0 ≤ o.k ∧ o.k < 256
  vk : 0 ≤ o.vk ∧ o.vk < 256
  num : -9223372036854775808 ≤ o.num ∧ o.num ≤ 9223372036854775807
  bits : 0 ≤ o.bits ∧ o.bits < 18446744073709551616
  e : 0 ≤ o.e ∧ o.e < 4294967296
  s : 0 ≤ o.s ∧ o.s < 4294967296
  n : o.n ≤ 20
  key : o.key.size ≤ 100
  t : o.t.size ≤ 100
def FineAct (k : Int) (key : ByteArray) (vk num bits : Int) (t : ByteArray) : Prop :=
  (k = 1 ∧ key = ByteArray.empty ∧ vk = 0 ∧ num = 0 ∧ bits = 0 ∧ t = ByteArray.empty) ∨ ((k = 2 ∨ k = 3) ∧ KeyOk key ∧ vk = 0 ∧ num = 0 ∧ bits = 0 ∧ t = ByteArray.empty) ∨ (k = 4 ∧ KeyOk key ∧ FineV vk num bits t)
instance (k : Int) (key : ByteArray) (vk num bits : Int) (t : ByteArray) : Decidable (FineAct k key vk num bits t) := by unfold FineAct; infer_instance
def actE (k : Int) (key : ByteArray) (vk num bits : Int) (t : ByteArray) : Int := if FineAct k key vk num bits t then 0 else 8
theorem actE_pos {k : Int} {key : ByteArray} {vk num bits : Int} {t : ByteArray} (h : FineAct k key vk num bits t) : (0 : Int) = actE k key vk num bits t := by unfold actE; rw [if_pos h]
theorem actE_neg {k : Int} {key : ByteArray} {vk num bits : Int} {t : ByteArray} (h : ¬ FineAct k key vk num bits t) : (8 : Int) = actE k key vk num bits t := by unfold actE; rw [if_neg h]
theorem valE_zero {k num bits : Int} {t : ByteArray} : valE k num bits t = 0 ↔ FineV k num bits t := by unfold valE; split <;> simp_all
theorem actE_zero {k : Int} {key : ByteArray} {vk num bits : Int} {t : ByteArray} : actE k key vk num bits t = 0 ↔ FineAct k key vk num bits t := by unfold actE; split <;> simp_all
theorem eqA6 (a b c d a' b' c' d' : Int) (x y x' y' : ByteArray) : eqC [.int .u8 a, .string x, .int .u8 b, .int .i64 c, .int .u64 d, .string y] [.int .u8 a', .string x', .int .u8 b', .int .i64 c', .int .u64 d', .string y'] = decide (a = a' ∧ x = x' ∧ b = b' ∧ c = c' ∧ d = d' ∧ y = y') := by
  simp only [eqC, strEq, Bool.and_true]
  by_cases h1 : a = a' <;> by_cases h2 : b = b' <;> by_cases h3 : c = c' <;> by_cases h4 : d = d' <;> by_cases h5 : x = x' <;> by_cases h6 : y = y' <;> simp [h1, h2, h3, h4, h5, h6]
theorem eqS2 (a b a' b' : Int) : eqC [.int .u32 a, .int .u32 b] [.int .u32 a', .int .u32 b'] = decide (a = a' ∧ b = b') := by
  simp only [eqC, Bool.and_true]
  by_cases h1 : a = a' <;> by_cases h2 : b = b' <;> simp [h1, h2]
def OpV.Fine (o : OpV) : Prop := isG o.au = true ∧ o.st ≤ 1000000000000 ∧ o.e < 500000003 ∧ o.s < 500000003 ∧ FineAct o.k o.key o.vk o.num o.bits o.t
instance (o : OpV) : Decidable o.Fine := by unfold OpV.Fine; infer_instance
def checkE (o : OpV) : Int := if 4 < o.n then 4 else if Rising o.n o.ids then (if o.Fine then 0 else 8) else 32
theorem check4 {o : OpV} (h : 4 < o.n) : (4 : Int) = checkE o := by unfold checkE; rw [if_pos h]
theorem check32 {o : OpV} (h : ¬ 4 < o.n) (hr : ¬ Rising o.n o.ids) : (32 : Int) = checkE o := by unfold checkE; rw [if_neg h, if_neg hr]
theorem check8 {o : OpV} (h : ¬ 4 < o.n) (hr : Rising o.n o.ids) (hf : ¬ o.Fine) : (8 : Int) = checkE o := by unfold checkE; rw [if_neg h, if_pos hr, if_neg hf]
theorem check0 {o : OpV} (h : ¬ 4 < o.n) (hr : Rising o.n o.ids) (hf : o.Fine) : (0 : Int) = checkE o := by unfold checkE; rw [if_neg h, if_pos hr, if_pos hf]
theorem checkA {o : OpV} (h : ¬ 4 < o.n) (hr : Rising o.n o.ids) (h1 : isG o.au = true) (h2 : o.st ≤ 1000000000000) (h3 : o.e < 500000003) (h4 : o.s < 500000003) : actE o.k o.key o.vk o.num o.bits o.t = checkE o := by
  by_cases hf : FineAct o.k o.key o.vk o.num o.bits o.t
  · rw [← check0 h hr ⟨h1, h2, h3, h4, hf⟩, ← actE_pos hf]
  · rw [← check8 h hr (fun h => hf h.2.2.2.2), ← actE_neg hf]
theorem check_zero {o : OpV} : checkE o = 0 ↔ o.n ≤ 4 ∧ Rising o.n o.ids ∧ o.Fine := by
  unfold checkE
  by_cases h : 4 < o.n <;> by_cases hr : Rising o.n o.ids <;> by_cases hf : o.Fine <;> simp [h, hr, hf] <;> omega
/-- The message of an operation. -/
def msgS (o : OpV) : List Int := [111] ++ numS o.au ++ listS o.n o.ids ++ numS o.st ++ [o.k] ++ (if o.k = 1 then [] else (numS o.key.size ++ bys o.key) ++ (if o.k = 4 then valS o.vk o.num o.bits o.t else []))
def encS (o : OpV) : List Int := msgS o ++ numS o.e ++ numS o.s
def OpV.bare (o : OpV) : OpV := { o with e := 0, s := 0 }
theorem OpV.bare_ok {o : OpV} (h : o.ok) : o.bare.ok := ⟨h.au, h.st, h.k, h.vk, h.num, h.bits, ⟨(by decide : (0 : Int) ≤ 0), (by decide : (0 : Int) < 4294967296)⟩, ⟨(by decide : (0 : Int) ≤ 0), (by decide : (0 : Int) < 4294967296)⟩, h.n, h.key, h.t⟩
theorem valS_len (k num bits : Int) (t : ByteArray) (h : t.size ≤ 100) : (valS k num bits t).length ≤ 110 := by
  have h1 := numS_len (zig num)
  have h2 := numS_len (t.size : Int)
  unfold valS
  repeat' split
  all_goals simp [be8_len, bys_len]
  all_goals omega
theorem msg_len (o : OpV) (h : o.ok) (h4 : o.n ≤ 4) (hl : o.ids.length = 32 * o.n) : (msgS o).length ≤ 400 := by
  have h1 := numS_len o.au
  have h2 := numS_len (o.n : Int)
  have h3 := numS_len o.st
  have h5 := numS_len (o.key.size : Int)
  have h6 := valS_len o.vk o.num o.bits o.t h.t
  have h7 := h.key
  unfold msgS listS
  repeat' split
  all_goals simp [bys_len]
  all_goals omega
def SameO (a b : OpV) : Prop := a.au = b.au ∧ a.ids = b.ids ∧ a.st = b.st ∧ (a.k = b.k ∧ a.key = b.key ∧ a.vk = b.vk ∧ a.num = b.num ∧ a.bits = b.bits ∧ a.t = b.t) ∧ (a.e = b.e ∧ a.s = b.s)
instance (a b : OpV) : Decidable (SameO a b) := by unfold SameO; infer_instance
end Go.Proofs.YtiohpiiiapjblaaGreatDoor.S
namespace Go.Proofs.YtiohpiiiapjblaaGreatDoor.G
open Go.RowKit
theorem Blk.bel {w w' : World} {b N : Nat} {cs : List Value} {T : TypeId} (h : Blk w b cs T) (k : Below N w w') (hb : b < N) : Blk w' b cs T := by
  unfold Blk; rw [k.block b hb]; exact h
section
variable {P : Program} {ops : Array Oper} {K : List Value → World → Prop} {rest : List Oper} {l : List Value} {w : World} {d : Tmp} {dd : Option Tmp} {ty xt yt : TypeId} {pos : String} {af : Array Edge} {g : Option (Nat × Bool)} {x y : Operand}
theorem D.eqB {a b : Bool} (hx : ev l x = .bool a) (hy : ev l y = .bool b) (hu : P.underlying xt = some .bool) : (execOp (ev l) ⟨dd, .binOp .eql xt x y yt, ty, pos, af, g⟩).run P w = .ok (.value (.bool (a == b))) w := by
  have h1 := run_equal_bool (P := P) w xt a b hu
  simp only [execOp, eqGuard]
  rw [hx, hy]
  simp [binOp, h1]
theorem RS.storeAggB {b o sz : Nat} {cs vs : List Value} {T : TypeId} (hx : ev l x = .pointer (some ⟨b, o, none⟩)) (hy : ev l y = .agg vs.toArray) (hs : P.cellsOf xt = sz) (hz : sz ≠ 0) (hn : vs.length = sz)
    (hv : vs.all cellB = true) (hB : Blk w b cs T) (ho : Nat.ble (o + sz) cs.length = true) (k : ∀ w', St b w w' → Blk w' b (splice cs o vs) T → RS P ops K rest l w') :
    RS P ops K (⟨none, .store xt x y, ty, pos, af, none⟩ :: rest) l w :=
  RS.storeAgg hx hy hs hz hn (List.all_eq_true.1 hv) hB (by rw [hn]; exact Nat.le_of_ble_eq_true ho) k
end
end Go.Proofs.YtiohpiiiapjblaaGreatDoor.G
namespace Go.Proofs.YtiohpiiiapjblaaGreatDoor.G
open Go.RowKit
/-- A frame with some slots filled. -/
def FF (l : List Value) (ds : List Nat) (f : Nat → Value) : List Value := upd l (ds.map fun d => (d, f d))
theorem FF_get (f : Nat → Value) (s : Nat) : ∀ (ds : List Nat) (l : List Value), (FF l ds f)[s]? = if s ∈ ds ∧ s < l.length then some (f s) else l[s]?
  | [], l => by simp [FF, upd]
  | d :: ds, l => by
    have ih := FF_get f s ds (l.set d (f d))
    unfold FF at ih ⊢
    simp only [List.map_cons, upd]
    rw [ih, List.length_set]
    by_cases h : s ∈ ds ∧ s < l.length
    · rw [if_pos h, if_pos ⟨by simp [h.1], h.2⟩]
    · rw [if_neg h, List.getElem?_set]
      by_cases hd : d = s
      · subst hd
        by_cases hl : d < l.length
        · simp [hl]
        · simp [hl]
      · have hd' : ¬ s = d := fun e => hd e.symm
        have hns : ¬ ((s = d ∨ s ∈ ds) ∧ s < l.length) := fun e => h ⟨e.1.resolve_left hd', e.2⟩
        simp only [hd, if_false, List.mem_cons]
        rw [if_neg hns]
theorem FF_len (f : Nat → Value) : ∀ (ds : List Nat) (l : List Value), (FF l ds f).length = l.length
  | [], l => rfl
  | d :: ds, l => by
    have ih := FF_len f ds (l.set d (f d))
    unfold FF at ih ⊢
    simp only [List.map_cons, upd]
    rw [ih, List.length_set]
theorem FF_set (l : List Value) (ds : List Nat) (f : Nat → Value) (d : Nat) (v : Value) (hd : d ∈ ds) : (FF l ds f).set d v = FF l ds (fun s => if s = d then v else f s) := by
  apply List.ext_getElem?
  intro s
  rw [List.getElem?_set, FF_get, FF_get, FF_len]
  by_cases h : d = s
  · subst h
    by_cases hl : d < l.length <;> simp [hl, hd]
  · have h' : ¬ s = d := fun e => h e.symm
    simp [h, h']
theorem FF_id (l : List Value) (ds : List Nat) : FF l ds (fun s => l.getD s undef) = l := by
  apply List.ext_getElem?
  intro s
  rw [FF_get]
  split
  · rename_i h
    simp [List.getD_eq_getElem?_getD, List.getElem?_eq_getElem h.2]
  · rfl
def LS (m n : Nat) : Array Bool := (List.replicate m true ++ List.replicate (n - m) false).toArray
def cntU (m : Nat) (listed : Array Bool) : Nat := (List.range m).countP fun i => !listed.getD i false
def phaseB (l0 : List Oper) (m : Nat) (ds : List Nat) : Bool :=
  Nat.ble m l0.length && (List.range m).all (fun i => (nth l0 i).dst == some (ds.getD i 0) && (nth l0 i).guard.isNone && (nth l0 i).after.all fun e => !Region.binds .any e || Nat.blt e.on i) &&
  ds.length == m &&
  (List.range l0.length).all fun i => Nat.blt i m || (match ancL l0.toArray 5000 (depsL l0.toArray i) [] with | anc => (List.range m).all fun s => anc.any (Nat.beq s))
theorem nth_mem_range {l0 : List Oper} {i : Nat} (h : i < l0.length) : l0.toArray[i]? = some (nth l0 i) := by simpa using nth_get l0 i h
theorem countP_set (m : Nat) (listed : Array Bool) (i : Nat) (him : i < m) (hin : i < listed.size) (hf : listed.getD i false = false) : cntU m listed = cntU m (listed.setIfInBounds i true) + 1 := by
  have e : ∀ j, (!(listed.setIfInBounds i true).getD j false) = if j = i then false else !listed.getD j false := by
    intro j
    split
    · rename_i h; subst h; simp [hin]
    · rename_i h; rw [getD_set_ne false (Ne.symm h)]
  unfold cntU
  have hsum : ∀ (xs : List Nat), xs.Nodup → i ∈ xs → xs.countP (fun j => !listed.getD j false) = xs.countP (fun j => if j = i then false else !listed.getD j false) + 1 := by
    intro xs
    induction xs with
    | nil => intro _ h; cases h
    | cons x xs ih =>
      intro hn hi
      rw [List.nodup_cons] at hn
      by_cases hx : x = i
      · subst hx
        have : xs.countP (fun j => !listed.getD j false) = xs.countP (fun j => if j = x then false else !listed.getD j false) := by
          apply List.countP_congr
          intro j hj
          have : j ≠ x := fun e => hn.1 (e ▸ hj)
          simp [this]
        rw [List.countP_cons, List.countP_cons, this]
        simp [hf]
      · have := ih hn.2 (by rcases List.mem_cons.1 hi with h | h; exact absurd h.symm hx; exact h)
        rw [List.countP_cons, List.countP_cons, this]
        simp only [hx, if_false]
        omega
  rw [hsum _ List.nodup_range (by simpa using him)]
  congr 2
  funext j
  rw [e j]
section
variable {P : Program} {bg : List Nat} {Q : Act → World → Prop}
theorem phase {l0 : List Oper} {m k : Nat} {ds : List Nat} {l : List Value} {w0 : World} {Φ : Nat → Value → World → Prop} (hB : phaseB l0 m ds = true)
    (hΦ : ∀ i v w w', Φ i v w → Ext w w' → Φ i v w')
    (hstep : ∀ i, i < m → ∀ (f : Nat → Value) w', Ext w0 w' → (∀ j ∈ depsL l0.toArray i, Φ j (f (ds.getD j 0)) w') → RS P l0.toArray (fun l'' w'' => ∃ v, l'' = (FF l ds f).set (ds.getD i 0) v ∧ Ext w' w'' ∧ Φ i v w'') [nth l0 i] (FF l ds f) w')
    (hnd : ds.Nodup)
    (hend : ∀ (f : Nat → Value) w', Ext w0 w' → (∀ i, i < m → Φ i (f (ds.getD i 0)) w') → wpX P l0.toArray Ext bg Q k (LS m l0.length) (fr (FF l ds f)) w') :
    ∀ (c : Nat) (listed : Array Bool) (f : Nat → Value) (w' : World), cntU m listed = c → listed.size = l0.length → (∀ i, m ≤ i → listed.getD i false = false) → Closed l0.toArray listed → Ext w0 w' →
      (∀ i, i < m → listed.getD i false = true → Φ i (f (ds.getD i 0)) w') → wpX P l0.toArray Ext bg Q (c + k) listed (fr (FF l ds f)) w' := by
  simp only [phaseB, Bool.and_eq_true] at hB
  obtain ⟨⟨⟨hmn, hB1⟩, hdl⟩, hB2⟩ := hB
  have hmn := Nat.le_of_ble_eq_true hmn
  have hdl : ds.length = m := by simpa using hdl
  have dmem : ∀ i, i < m → ds.getD i 0 ∈ ds := by
    intro i hi
    rw [List.getD_eq_getElem?_getD, List.getElem?_eq_getElem (by omega)]
    exact List.getElem_mem _
  have dinj : ∀ i j, i < m → j < m → ds.getD i 0 = ds.getD j 0 → i = j := by
    intro i j hi hj h
    rw [List.getD_eq_getElem?_getD, List.getD_eq_getElem?_getD, List.getElem?_eq_getElem (by omega), List.getElem?_eq_getElem (by omega)] at h
    exact (List.getElem_inj hnd).1 (by simpa using h)
  have one : ∀ i, i < m → (nth l0 i).dst = some (ds.getD i 0) ∧ (nth l0 i).guard = none ∧ ∀ e ∈ (nth l0 i).after, Region.binds .any e = true → e.on < i := by
    intro i hi
    have := List.all_eq_true.1 hB1 i (by simpa using hi)
    simp only [Bool.and_eq_true, beq_iff_eq, Array.all_eq_true_iff_forall_mem, Bool.or_eq_true, Bool.not_eq_true', Option.isNone_iff_eq_none] at this
    refine ⟨this.1.1, this.1.2, fun e he hb => ?_⟩
    rcases this.2 e he with h | h
    · rw [hb] at h; cases h
    · simpa [Nat.blt_eq] using h
  intro c
  induction c with
  | zero =>
    intro listed f w' hc hsz hhi hcl hx hF
    have hall : ∀ i, i < m → listed.getD i false = true := by
      intro i hi
      have := List.countP_eq_zero.1 hc i (by simpa using hi)
      simpa using this
    have hL : listed = LS m l0.length := by
      apply Array.ext
      · simp [LS, hsz]; omega
      intro i h1 h2
      by_cases him : i < m
      · have := hall i him
        simp [h1] at this
        rw [this]
        simp [LS, him]
      · have := hhi i (by omega)
        simp [h1] at this
        rw [this]
        simp [LS, List.getElem_append, him]
    rw [hL, Nat.zero_add]
    exact hend f w' hx (fun i hi => hF i hi (hall i hi))
  | succ c ih =>
    intro listed f w' hc hsz hhi hcl hx hF
    -- what comes up is among the first
    have hrd : ∀ j, j ∈ Region.ready .any l0.toArray listed → j < m := by
      intro j hj
      obtain ⟨hj0, oj, hoj, hja⟩ := mem_ready.1 hj
      have hjn : j < l0.length := by simpa using (Array.getElem?_eq_some_iff.1 hoj).1
      rcases Nat.lt_or_ge j m with h | h
      · exact h
      · exfalso
        have h2 := List.all_eq_true.1 hB2 j (by simpa using hjn)
        have h3 : Nat.blt j m = false := by
          rw [Bool.eq_false_iff]; intro e; rw [Nat.blt_eq] at e; omega
        rw [h3, Bool.false_or] at h2
        have hz : cntU m listed = 0 := by
          unfold cntU
          rw [List.countP_eq_zero]
          intro s hs
          have h4 := List.all_eq_true.1 h2 s hs
          obtain ⟨q, hq, hqs⟩ := List.any_eq_true.1 h4
          obtain rfl := Nat.eq_of_beq_eq_true hqs
          have := ancL_spec hcl 5000 (depsL l0.toArray j) [] (fun i hi => by
            unfold depsL at hi
            rw [hoj] at hi
            obtain ⟨e, he, rfl⟩ := List.mem_map.1 hi
            rw [List.mem_filter] at he
            exact hja e (by simpa using he.1) he.2) (fun i hi => by cases hi) _ hq
          simp [this]
        omega
    rw [show c + 1 + k = (c + k) + 1 by omega]
    refine ⟨fun h0 => ?_, fun i hi => ?_⟩
    · -- something comes up
      exfalso
      have hex : ∃ s, s < m ∧ listed.getD s false = false := by
        have hp : 0 < (List.range m).countP fun i => !listed.getD i false := by unfold cntU at hc; omega
        obtain ⟨s, hs, h⟩ := List.countP_pos_iff.1 hp
        exact ⟨s, by simpa using hs, by simpa using h⟩
      obtain ⟨s, hs, hmin⟩ : ∃ s, (s < m ∧ listed.getD s false = false) ∧ ∀ t, t < s → listed.getD t false = true := by
        obtain ⟨s, hs⟩ := hex
        induction s using Nat.strongRecOn with
        | _ s ihs =>
          by_cases h : ∃ t, t < s ∧ listed.getD t false = false
          · obtain ⟨t, ht, hf⟩ := h
            exact ihs t ht ⟨by omega, hf⟩
          · refine ⟨s, hs, fun t ht => ?_⟩
            cases hb : listed.getD t false
            · exact absurd ⟨t, ht, hb⟩ h
            · rfl
      have : s ∈ Region.ready .any l0.toArray listed := by
        refine mem_ready.2 ⟨?_, nth l0 s, nth_mem_range (by omega), fun e he hb => hmin _ ((one s hs.1).2.2 e he hb)⟩
        have := hs.2
        have hlt : s < listed.size := by omega
        simp [hlt] at this ⊢
        exact this
      rw [h0] at this
      cases this
    · have him := hrd i hi
      obtain ⟨h1, h2, h3⟩ := one i him
      obtain ⟨hi0, oi, hoi, hia⟩ := mem_ready.1 hi
      rw [nth_mem_range (by omega)] at hoi
      obtain rfl := Option.some.inj hoi
      have hif : listed.getD i false = false := by
        have hlt : i < listed.size := by omega
        simp [hlt] at hi0 ⊢
        exact hi0
      have hst := hstep i him f w' hx (fun j hj => by
        unfold depsL at hj
        rw [nth_mem_range (by omega)] at hj
        obtain ⟨e, he, rfl⟩ := List.mem_map.1 hj
        rw [List.mem_filter] at he
        have he1 : e ∈ (nth l0 i).after := by simpa using he.1
        have hlt := h3 e he1 he.2
        exact hF _ (by omega) (hia e he1 he.2))
      unfold RS at hst
      unfold xOp
      rw [nth_mem_range (by omega)]
      have hwn : Region.wanted (nth l0 i) (yielded l0.toArray (fr (FF l ds f)).tmps) = true := by simp [Region.wanted, h2]
      simp only [hwn, if_true]
      rw [if_pos (by simp [Region.wanted, h2])] at hst
      unfold Oper.wp at hst ⊢
      refine upon_mono ?_ (fun _ _ _ h => h) hst
      rintro a' w'' ⟨l'', rfl, v, rfl, hx2, hv⟩
      refine ⟨fun _ => hx2, ?_⟩
      rw [FF_set _ _ _ _ _ (dmem i him)]
      refine ih _ _ w'' ?_ (by simp [hsz]) ?_ (hcl.set hi) (hx.tr hx2) ?_
      · have := countP_set m listed i him (by omega) hif
        omega
      · intro j hj
        rw [getD_set_ne false (by omega)]
        exact hhi j hj
      · intro j hj hl
        by_cases hji : j = i
        · subst hji; simpa using hv
        · have hne : ¬ ds.getD j 0 = ds.getD i 0 := fun e => hji (dinj j i hj him e)
          rw [if_neg hne]
          rw [getD_set_ne false (Ne.symm hji)] at hl
          exact hΦ _ _ _ _ (hF j hj hl) hx2
/-- What each of the first operations is to show. -/
def stepsM (P : Program) (l0 : List Oper) (ds : List Nat) (l : List Value) (w0 : World) (Φ : Nat → Value → World → Prop) : List Nat → Prop
  | [] => True
  | i :: r => (∀ (f : Nat → Value) w', Ext w0 w' → (∀ j ∈ depsL l0.toArray i, Φ j (f (ds.getD j 0)) w') → RS P l0.toArray (fun l'' w'' => ∃ v, l'' = (FF l ds f).set (ds.getD i 0) v ∧ Ext w' w'' ∧ Φ i v w'') [nth l0 i] (FF l ds f) w') ∧ stepsM P l0 ds l w0 Φ r
theorem stepsM_mem {l0 : List Oper} {ds : List Nat} {l : List Value} {w0 : World} {Φ : Nat → Value → World → Prop} : ∀ {is : List Nat}, stepsM P l0 ds l w0 Φ is → ∀ i ∈ is, (∀ (f : Nat → Value) w', Ext w0 w' → (∀ j ∈ depsL l0.toArray i, Φ j (f (ds.getD j 0)) w') → RS P l0.toArray (fun l'' w'' => ∃ v, l'' = (FF l ds f).set (ds.getD i 0) v ∧ Ext w' w'' ∧ Φ i v w'') [nth l0 i] (FF l ds f) w')
  | [], _, i, hi => by cases hi
  | j :: r, h, i, hi => by
    rcases List.mem_cons.1 hi with rfl | hi
    · exact h.1
    · exact stepsM_mem h.2 i hi
def allM (Φ : Nat → Value → World → Prop) (ds : List Nat) (f : Nat → Value) (w : World) : List Nat → Prop
  | [] => True
  | i :: r => Φ i (f (ds.getD i 0)) w ∧ allM Φ ds f w r
theorem allM_of {Φ : Nat → Value → World → Prop} {ds : List Nat} {f : Nat → Value} {w : World} : ∀ {is : List Nat}, (∀ i ∈ is, Φ i (f (ds.getD i 0)) w) → allM Φ ds f w is
  | [], _ => trivial
  | i :: r, h => ⟨h i (by simp), allM_of fun j hj => h j (by simp [hj])⟩
theorem regionM {id : Nat} {l0 : List Oper} {Q : Exit → Act → World → Prop} {l : List Value} {w : World} (m : Nat) (ds : List Nat) (Φ : Nat → Value → World → Prop) (plan : List (Nat × Kd)) {pl : List (Oper × Kd)} (hm : P.follows .mixedOrders = true)
    (hB : (Region.noSelect l0.toArray && phaseB l0 m ds && (decide ds.Nodup && Nat.beq (m + plan.length) l0.length && planB l0.toArray plan (LS m l0.length))) = true)
    (hΦ : ∀ i v w w', Φ i v w → Ext w w' → Φ i v w')
    (hs : ∀ w', Ext w w' → stepsM P l0 ds l w' Φ (List.range m))
    (h : ∀ f w', Ext w w' → allM Φ ds f w' (List.range m) → RX P l0.toArray Ext (fun l w => Q .normal (fr l) w) pl (FF l ds f) w') (hp : pick l0 plan = pl := by dsimp only [pick, nth]) : (Code.region id l0.toArray true).wp P Q (fr l) w := by
  subst hp
  simp only [Bool.and_eq_true, decide_eq_true_eq] at hB
  obtain ⟨⟨hsel, hph⟩, ⟨hnd, hl⟩, hpl⟩ := hB
  have hl := Nat.eq_of_beq_eq_true hl
  refine wp_region_any hm ?_
  have hx0 : Ext w { w with drawn := w.drawn + 1 } := (Below.refl _ _).drew
  have key := phase (P := P) (bg := bigs plan) (Q := fun a w => ∃ l, a = fr l ∧ Q .normal (fr l) w) (k := plan.length) (w0 := { w with drawn := w.drawn + 1 }) hph hΦ
    (fun i hi => stepsM_mem (hs _ hx0) i (by simpa using hi)) hnd
    (fun f w' hx hF => rx_list (R := Ext) (K := fun l w => Q .normal (fr l) w) Ext.refl (fun h k => h.tr k) hsel (fun j hj => bigB_spec (planB_big plan _ hpl j hj)) plan (LS m l0.length) _ w' (by
      -- the first ones are closed
      have hph2 := hph
      simp only [phaseB, Bool.and_eq_true] at hph2
      obtain ⟨⟨⟨hmn, hB1⟩, _⟩, _⟩ := hph2
      have hmn := Nat.le_of_ble_eq_true hmn
      have hg : ∀ i, (LS m l0.length).getD i false = decide (i < m) := by
        intro i
        by_cases him : i < m
        · have : i < l0.length := by omega
          simp [LS, him]
          rw [List.getElem?_append_left (by simpa using him)]
          simp [him]
        · simp only [him, decide_false]
          simp only [LS, Array.getD_eq_getD_getElem?]
          simp [List.getElem?_append, him, List.getElem?_replicate]
          split <;> simp
      intro q oq hq hlq e he hb
      rw [hg] at hlq ⊢
      have hqm : q < m := by simpa using hlq
      rw [nth_mem_range (by omega)] at hq
      obtain rfl := Option.some.inj hq
      have := List.all_eq_true.1 hB1 q (by simpa using hqm)
      simp only [Bool.and_eq_true, Array.all_eq_true_iff_forall_mem, Bool.or_eq_true, Bool.not_eq_true'] at this
      rcases this.2 e he with h5 | h5
      · rw [hb] at h5; cases h5
      · rw [Nat.blt_eq] at h5
        simp; omega) (fun i hi => (mem_bigs plan i).1 hi) hpl (h f w' (hx0.tr hx) (allM_of fun i hi => hF i (by simpa using hi))))
    (cntU m (Array.replicate l0.length false)) (Array.replicate l0.length false) (fun s => l.getD s undef) { w with drawn := w.drawn + 1 } rfl (by simp)
    (by intro i _; simp [Array.getElem?_replicate]; split <;> simp) (by intro k ok _ h; exfalso; simp [Array.getElem?_replicate] at h; split at h <;> simp at h) (Ext.refl _) (by intro i _ h; exfalso; simp [Array.getElem?_replicate] at h; split at h <;> simp at h)
  rw [FF_id] at key
  have hcnt : cntU m (Array.replicate l0.length false) = m := by
    unfold cntU
    rw [List.countP_eq_length.2 (fun i _ => by simp [Array.getElem?_replicate]; split <;> simp), List.length_range]
  rw [hcnt, hl] at key
  have h2 := wpAny_of_X (Q' := Q) (R := Ext) (fun a w h => by obtain ⟨l, rfl, h⟩ := h; exact h) l0.length (Array.replicate l0.length false) (fr l) _ key
  simpa using h2
end
end Go.Proofs.YtiohpiiiapjblaaGreatDoor.G
namespace Go.Proofs.YtiohpiiiapjblaaGreatDoor.G
open Go.RowKit
theorem yielded_fr {l0 : List Oper} {l : List Value} {j : Nat} {s : Nat} {b : Bool} (hj : (l0[j]?).bind (·.dst) = some s) (hl : l.getD s undef = .bool b) (hs : Nat.ble (s + 1) l.length = true) : yielded l0.toArray l.toArray j = some b := by
  have hs' := Nat.le_of_ble_eq_true hs
  have e1 : (l0.toArray[j]?).bind (·.dst) = some s := by simpa using hj
  have e2 : l.toArray[s]? = some (.bool b) := by
    rw [List.getD_eq_getElem?_getD, List.getElem?_eq_getElem (by omega)] at hl
    rw [List.getElem?_toArray, List.getElem?_eq_getElem (by omega)]
    simpa using hl
  unfold yielded
  rw [e1, Option.bind_some, e2]
theorem D.fieldL {P : Program} {l : List Value} {w : World} {dd : Option Tmp} {ty xt : TypeId} {pos : String} {af : Array Edge} {g : Option (Nat × Bool)} {x : Operand} {b o i sz : Nat} {fs : Array Field} {f : Field} (off : Nat) (hx : ev l x = .pointer (some ⟨b, o, none⟩)) (hu : P.underlying xt = some (.struct fs)) (hf : fs[i]? = some f) (hs : P.cellsOf f.type = sz) (hz : sz ≠ 0) (ho : o + f.offset = off) :
    (execOp (ev l) ⟨dd, .fieldAddr xt x i, ty, pos, af, g⟩).run P w = .ok (.value (.pointer (some ⟨b, off, none⟩))) w := by
  subst ho; exact D.fieldAddr hx hu hf hs hz
section
variable {P : Program} {l0 : List Oper} {R : World → World → Prop} {K : List Value → World → Prop} {rest : List Oper} {restX : List (Oper × Kd)} {l : List Value} {w : World} {d : Option Tmp} {op : Op} {ty : TypeId} {pos : String} {af : Array Edge} {j : Nat} {t b : Bool} {kd : Kd}
theorem RS.wantB (s : Nat) (hj : (l0[j]?).bind (·.dst) = some s) (hl : l.getD s undef = .bool t) (hs : Nat.ble (s + 1) l.length = true)
    (k : RS P l0.toArray K (⟨d, op, ty, pos, af, none⟩ :: rest) l w) : RS P l0.toArray K (⟨d, op, ty, pos, af, some (j, t)⟩ :: rest) l w := RS.want (yielded_fr hj hl hs) k
theorem RS.skipB (s : Nat) (hj : (l0[j]?).bind (·.dst) = some s) (hl : l.getD s undef = .bool b) (hs : Nat.ble (s + 1) l.length = true) (hb : (b == t) = false)
    (k : RS P l0.toArray K rest (putL d undef l) w) : RS P l0.toArray K (⟨d, op, ty, pos, af, some (j, t)⟩ :: rest) l w := RS.skip (by rw [yielded_fr hj hl hs]; simpa using hb) k
theorem RX.wantB (s : Nat) (hj : (l0[j]?).bind (·.dst) = some s) (hl : l.getD s undef = .bool t) (hs : Nat.ble (s + 1) l.length = true)
    (k : RX P l0.toArray R K ((⟨d, op, ty, pos, af, none⟩, kd) :: restX) l w) : RX P l0.toArray R K ((⟨d, op, ty, pos, af, some (j, t)⟩, kd) :: restX) l w := RX.want (yielded_fr hj hl hs) k
theorem RX.skipB (s : Nat) (hj : (l0[j]?).bind (·.dst) = some s) (hl : l.getD s undef = .bool b) (hs : Nat.ble (s + 1) l.length = true) (hb : (b == t) = false)
    (k : RX P l0.toArray R K restX (putL d undef l) w) : RX P l0.toArray R K ((⟨d, op, ty, pos, af, some (j, t)⟩, kd) :: restX) l w := RX.skip (by rw [yielded_fr hj hl hs]; simpa using hb) k
end
end Go.Proofs.YtiohpiiiapjblaaGreatDoor.G
namespace Go.Proofs.YtiohpiiiapjblaaGreatDoor.G
open Go.RowKit
structure KArr (k : IntKind) (w : World) (b n : Nat) (xs : List Int) (T : TypeId) : Prop where
  cells : Cells w b 0 (ints k xs)
  len : xs.length = n
  bd : Bd k xs
  lt : b < w.heap.size
section
variable {k : IntKind} {w w' : World} {b n m : Nat} {xs : List Int} {T : TypeId} {S : Nat → Prop}
theorem KArr.ext (h : KArr k w b n xs T) (x : Ext w w') : KArr k w' b n xs T := ⟨h.cells.of_block (x.block b h.lt), h.len, h.bd, Nat.lt_of_lt_of_le h.lt x.size⟩
theorem KArr.st (h : KArr k w b n xs T) (x : St m w w') (hn : b ≠ m) : KArr k w' b n xs T := ⟨h.cells.of_block (x.block b hn), h.len, h.bd, by rw [x.size]; exact h.lt⟩
theorem KArr.pr (h : KArr k w b n xs T) (x : Pr S w w') (hn : ¬ S b) : KArr k w' b n xs T := ⟨h.cells.of_block (x.block b h.lt hn), h.len, h.bd, Nat.lt_of_lt_of_le h.lt x.size⟩
theorem KArr.at_ (h : KArr k w b n xs T) {i : Nat} (hi : i < n) : w.cell? ⟨b, i, none⟩ = some (.int k (xs.getD i 0)) := by
  have hl := h.len
  have := h.cells i (by rw [ints_length]; omega)
  rw [Nat.zero_add] at this
  rw [this, ints_getD _ _ _ (by omega)]
end
section
variable {P : Program} {ops : Array Oper} {R : World → World → Prop} {K : List Value → World → Prop} {rest : List Oper} {restX : List (Oper × Kd)} {l : List Value} {w : World} {d : Tmp} {ty : TypeId} {pos : String} {af : Array Edge}
theorem RS.idxK {x y : Operand} {xt e b n : Nat} {k ki : IntKind} {xs : List Int} {T : TypeId} {i : Int} (hA : KArr k w b n xs T) (hx : ev l x = .pointer (some ⟨b, 0, none⟩)) (hy : ev l y = .int ki i) (hu : P.underlying xt = some (.array n e)) (hs : P.cellsOf e = 1)
    (hi : 0 ≤ i ∧ i < n) (h : ∀ v, w.cell? ⟨b, i.toNat, none⟩ = some (.int k v) → v = xs.getD i.toNat 0 → 0 ≤ v ∧ v < lim k → RS P ops K rest (l.set d (.pointer (some ⟨b, i.toNat, none⟩))) w) :
    RS P ops K (⟨some d, .indexAddr xt x y, ty, pos, af, none⟩ :: rest) l w := by
  have e1 : (⟨b, 0 + i.toNat * 1, none⟩ : Addr) = ⟨b, i.toNat, none⟩ := by simp
  have := D.indexArr (d := some d) (ty := ty) (pos := pos) (af := af) (g := none) (w := w) hx hy hu hs (by decide) hi
  rw [e1] at this
  exact RS.o this (h _ (hA.at_ (by omega)) rfl (hA.bd.get _)) rfl
theorem RX.idxK {x y : Operand} {xt e b n : Nat} {k ki : IntKind} {xs : List Int} {T : TypeId} {i : Int} (hRE : ∀ w', R w w' → Ext w w') (hA : KArr k w b n xs T) (hx : ev l x = .pointer (some ⟨b, 0, none⟩)) (hy : ev l y = .int ki i) (hu : P.underlying xt = some (.array n e)) (hs : P.cellsOf e = 1)
    (hi : 0 ≤ i ∧ i < n) (h : ∀ v, (∀ w', R w w' → w'.cell? ⟨b, i.toNat, none⟩ = some (.int k v)) → v = xs.getD i.toNat 0 → 0 ≤ v ∧ v < lim k → RX P ops R K restX (l.set d (.pointer (some ⟨b, i.toNat, none⟩))) w) :
    RX P ops R K ((⟨some d, .indexAddr xt x y, ty, pos, af, none⟩, .q) :: restX) l w := by
  have e1 : (⟨b, 0 + i.toNat * 1, none⟩ : Addr) = ⟨b, i.toNat, none⟩ := by simp
  refine RX.o (fun w' _ => ?_) (h _ (fun w' hw => (hA.ext (hRE _ hw)).at_ (by omega)) rfl (hA.bd.get _)) rfl
  rw [← e1]
  exact D.indexArr hx hy hu hs (by decide) hi
end
end Go.Proofs.YtiohpiiiapjblaaGreatDoor.G
namespace Go.Proofs.YtiohpiiiapjblaaGreatDoor.W
open Go.Proofs.YtiohpiiiapjblaaGreatDoor.G
abbrev gK : Nat := 0
abbrev Kst (w : World) (T : TypeId) : Prop := KArr .u32 w gK 64 S.KK T
theorem mixed : Tryz.prog.follows .mixedOrders = true := by kernel_rfl
end Go.Proofs.YtiohpiiiapjblaaGreatDoor.W
namespace Go.Proofs.YtiohpiiiapjblaaGreatDoor.S
open G
/-- What every operation that comes in meets. -/
structure OpV.rng (o : OpV) : Prop where
  au : 0 ≤ o.au ∧ o.au < 4294967296
  st : 0 ≤ o.st ∧ o.st < 18446744073709551616
  k : 0 ≤ o.k ∧ o.k < 256
  vk : 0 ≤ o.vk ∧ o.vk < 256
  num : -9223372036854775808 ≤ o.num ∧ o.num ≤ 9223372036854775807
  bits : 0 ≤ o.bits ∧ o.bits < 18446744073709551616
  e : 0 ≤ o.e ∧ o.e < 4294967296
  s : 0 ≤ o.s ∧ o.s < 4294967296
theorem OpV.rng.ok {o : OpV} (h : o.rng) (hG : ¬ (20 < o.n ∨ 100 < o.key.size ∨ 100 < o.t.size)) : o.ok :=
  ⟨h.au, h.st, h.k, h.vk, h.num, h.bits, h.e, h.s, by omega, by omega, by omega⟩
theorem sameO_refl (o : OpV) : SameO o o := ⟨rfl, rfl, rfl, ⟨rfl, rfl, rfl, rfl, rfl, rfl⟩, rfl, rfl⟩
end Go.Proofs.YtiohpiiiapjblaaGreatDoor.S
namespace Go.Proofs.YtiohpiiiapjblaaGreatDoor.L
open Go Go.Proofs.YtiohpiiiapjblaaGreatDoor Go.Proofs.YtiohpiiiapjblaaGreatDoor.G Go.Proofs.YtiohpiiiapjblaaGreatDoor.W
open Go.ChangeShapes Go.WideShapes Go.ChangeAt Go.RowKit
set_option linter.unusedVariables false
section
variable {H : Type} {enc : TypeId × Value → H} {P : Program} {w : World} {base : Nat} {sp : Nat → Bool} {held : Bool} {fuel : Nat} {cs : List Value} {x : DataW H × List MemPlace} {t : TypeId}
theorem int_in {k : IntKind} (ht : P.underlying t = some (.int k)) (h : DataW.trod enc P w base sp held fuel t cs = some x) : ∃ n, cs = [.int k n] ∧ k.min ≤ n ∧ n ≤ k.max := by
  obtain ⟨n, h1, _, h2⟩ := DataW.trod_int ht h
  simp only [Lit.wf, Bool.and_eq_true, decide_eq_true_eq] at h2
  exact ⟨n, h1, h2.1, h2.2⟩
/-- The fields of a record, each read off its part of the cells. -/
theorem fields_in {fs : Array Field} (ht : P.underlying t = some (.struct fs)) (h : DataW.trod enc P w base sp held fuel t cs = some x) :
    cs.length = P.cellsOf t ∧ ∀ (i : Nat) (f : Field), fs[i]? = some f → ∃ n y, DataW.trod enc P w base sp held n f.type ((cs.drop f.offset).take (P.cellsOf f.type)) = some y := by
  obtain ⟨xs, n, _, _, hl, hlen, hf⟩ := DataW.trod_struct ht h
  refine ⟨hl, fun i f hi => ?_⟩
  have hlt : i < xs.length := by rw [hlen]; exact (Array.getElem?_eq_some_iff.1 hi).1
  have := hf i f hi
  rw [List.getElem?_eq_getElem hlt] at this
  exact ⟨n, _, this⟩
theorem cells_in {a : Addr} {n : Nat} (h : w.cells? base a n = some cs) : cs.length = n ∧ ∀ j, j < n → w.cell? (a.add j) = cs[j]? := by
  unfold World.cells? at h
  split at h
  · have h1 := mapM_some_length h
    refine ⟨by simpa using h1, fun j hj => ?_⟩
    exact mapM_some_get h j j (by simp [hj])
  · cases h
/-- An array of bytes. -/
theorem bytes_in {e n : Nat} (ht : P.underlying t = some (.array n e)) (he : P.underlying e = some (.int .u8)) (hs : P.cellsOf e = 1) (hts : P.cellsOf t = n) (h : DataW.trod enc P w base sp held fuel t cs = some x) : ∃ xs, cs = ints .u8 xs ∧ Arr .u8 n xs := by
  obtain ⟨ys, m, _, _, hl, hlen, hf⟩ := DataW.trod_array ht h
  rw [hts] at hl
  have key : ∀ i, i < n → ∃ z, cs[i]? = some (.int .u8 z) ∧ 0 ≤ z ∧ z < 256 := by
    intro i hi
    have h1 := hf i hi
    rw [List.getElem?_eq_getElem (by omega), hs, Nat.mul_one] at h1
    obtain ⟨z, h2, h3, h4⟩ := int_in he h1
    refine ⟨z, ?_, h3, by have : z ≤ 255 := h4; omega⟩
    have := congrArg (fun l => l[0]?) h2
    simpa [List.getElem?_take, List.getElem?_drop] using this
  clear hf hlen h
  have gen : ∀ k, k ≤ n → ∃ xs : List Int, cs.take k = ints .u8 xs ∧ Arr .u8 k xs := by
    intro k
    induction k with
    | zero => intro _; exact ⟨[], rfl, rfl, Bd.nil _⟩
    | succ k ih =>
      intro hk
      obtain ⟨xs, h1, h2, h3⟩ := ih (by omega)
      obtain ⟨z, h4, h5⟩ := key k (by omega)
      refine ⟨xs ++ [z], ?_, by simp [h2], h3.append (.cons (by simp only [lim]; omega) (.nil _))⟩
      rw [List.take_add_one, h1, h4, ints_append]
      rfl
  obtain ⟨xs, h1, h2⟩ := gen n (Nat.le_refl _)
  rw [List.take_of_length_le (by omega)] at h1
  exact ⟨xs, h1, h2⟩
/-- A slice of arrays of bytes. -/
theorem ids_in {e b sz : Nat} (ht : P.underlying t = some (.slice e)) (he : P.underlying e = some (.array sz b)) (hb : P.underlying b = some (.int .u8)) (hs : P.cellsOf b = 1) (hes : P.cellsOf e = sz) (hz : 0 < sz) (h : DataW.trod enc P w base sp held fuel t cs = some x) :
    ∃ a n c ids, cs = [.slice a n c] ∧ n ≤ c ∧ WRow .u8 sz (fun _ => True) w a n ids := by
  rcases DataW.trod_slice ht h with ⟨h1, _⟩ | ⟨a, len, cap, elems, rest, m, _, h1, _, _, hlc, _, hel, hf, _⟩
  · exact ⟨none, 0, 0, [], h1, Nat.le_refl _, WRow.nil⟩
  · refine ⟨some a, len, cap, ?_⟩
    by_cases h0 : len = 0
    · subst h0
      exact ⟨[], h1, hlc, WRow.nil⟩
    · have one : ∀ i, i < len → ∃ xs, Arr .u8 sz xs ∧ ∀ j, j < sz → w.cell? ((a.add (i * sz)).add j) = some (.int .u8 (xs.getD j 0)) := by
        intro i hi
        have h2 := hf i hi
        rw [List.getElem?_eq_getElem (by omega), hes] at h2
        cases hc : w.cells? base (a.add (i * sz)) sz with
        | none => rw [hc] at h2; cases h2
        | some ds =>
          rw [hc, Option.bind_some] at h2
          obtain ⟨xs, h3, h4⟩ := bytes_in he hb hs hes h2
          obtain ⟨h5, h6⟩ := cells_in hc
          refine ⟨xs, h4, fun j hj => ?_⟩
          rw [h6 j hj, h3]
          have : j < xs.length := by rw [h4.1]; exact hj
          simp [ints, List.getD_eq_getElem?_getD, List.getElem?_eq_getElem this]
      obtain ⟨b0, o, spot⟩ := a
      obtain rfl : spot = none := by
        obtain ⟨xs, _, h3⟩ := one 0 (by omega)
        have := World.cell?_spot (h3 0 hz)
        simpa [Addr.add] using this
      have gen : ∀ k, k ≤ len → ∃ ids : List Int, ids.length = sz * k ∧ Bd .u8 ids ∧ ∀ j, j < sz * k → w.cell? ⟨b0, o + j, none⟩ = some (.int .u8 (ids.getD j 0)) := by
        intro k
        induction k with
        | zero => intro _; exact ⟨[], by simp, Bd.nil _, fun j hj => by simp at hj⟩
        | succ k ih =>
          intro hk
          obtain ⟨ids, h2, h3, h4⟩ := ih (by omega)
          obtain ⟨xs, h5, h6⟩ := one k (by omega)
          refine ⟨ids ++ xs, by rw [List.length_append, h2, h5.1, Nat.mul_add, Nat.mul_one], h3.append h5.2, fun j hj => ?_⟩
          rw [Nat.mul_add, Nat.mul_one] at hj
          by_cases hj2 : j < sz * k
          · rw [h4 j hj2, List.getD_eq_getElem?_getD, List.getD_eq_getElem?_getD, List.getElem?_append_left (by omega)]
          · have := h6 (j - sz * k) (by omega)
            rw [add_mk, add_mk, Nat.mul_comm k, show o + sz * k + (j - sz * k) = o + j by omega] at this
            rw [this, List.getD_eq_getElem?_getD, List.getD_eq_getElem?_getD, List.getElem?_append_right (by omega), h2]
      obtain ⟨ids, h2, h3, h4⟩ := gen len (Nat.le_refl _)
      refine ⟨ids, h1, hlc, ⟨.inr ⟨b0, o, rfl, trivial, fun j hj => ?_⟩, h2, h3⟩⟩
      rw [ints_length] at hj
      rw [h4 j (by omega), ints_getD _ _ _ hj]
end
theorem cC : Tryz.prog.cellsOf 5 = 1 := by kernel_rfl
/-- The constants, laid in the heap at the start. -/
theorem own : ownKnob Tryz.prog.godebug = none := by kernel_rfl
theorem laidOut : laidOutB Tryz.prog = true := by kernel_rfl
section
variable {H : Type} {enc : TypeId × Value → H} {w : World} {base : Nat} {sp : Nat → Bool} {held : Bool} {fuel : Nat} {cs : List Value} {x : DataW H × List MemPlace}
end
end Go.Proofs.YtiohpiiiapjblaaGreatDoor.L
namespace Go.Proofs.YtiohpiiiapjblaaGreatDoor.L
open Go Go.Proofs.YtiohpiiiapjblaaGreatDoor Go.Proofs.YtiohpiiiapjblaaGreatDoor.G Go.Proofs.YtiohpiiiapjblaaGreatDoor.W
open Go.ChangeShapes Go.WideShapes Go.ChangeAt Go.RowKit
set_option linter.unusedVariables false
set_option maxRecDepth 100000
section
variable {H : Type} {enc : TypeId × Value → H} {P : Program} {w : World} {base : Nat} {sp : Nat → Bool} {held : Bool} {fuel : Nat} {cs : List Value} {x : DataW H × List MemPlace} {t : TypeId}
theorem field_in {fs : Array Field} {f : Field} {sz : Nat} (i : Nat) (ht : P.underlying t = some (.struct fs)) (hi : fs[i]? = some f) (hs : P.cellsOf f.type = sz) (h : DataW.trod enc P w base sp held fuel t cs = some x) :
    ∃ n y, DataW.trod enc P w base sp held n f.type ((cs.drop f.offset).take sz) = some y := by
  subst hs
  exact (fields_in ht h).2 i f hi
end
theorem z_u8 : Tryz.prog.cellsOf 5 = 1 := by kernel_rfl
theorem z_u32 : Tryz.prog.cellsOf 23 = 1 := by kernel_rfl
theorem z_u64 : Tryz.prog.cellsOf 25 = 1 := by kernel_rfl
theorem z_i64 : Tryz.prog.cellsOf 2 = 1 := by kernel_rfl
theorem z_str : Tryz.prog.cellsOf 9 = 1 := by kernel_rfl
theorem z_ids : Tryz.prog.cellsOf 24 = 1 := by kernel_rfl
theorem z_id : Tryz.prog.cellsOf 35 = 32 := by kernel_rfl
theorem z_val : Tryz.prog.cellsOf 27 = 4 := by kernel_rfl
theorem z_act : Tryz.prog.cellsOf 29 = 6 := by kernel_rfl
theorem z_sig : Tryz.prog.cellsOf 31 = 2 := by kernel_rfl
theorem z_op : Tryz.prog.cellsOf 33 = 11 := by kernel_rfl
section
variable {H : Type} {enc : TypeId × Value → H} {w : World} {base : Nat} {sp : Nat → Bool} {held : Bool} {fuel : Nat} {cs : List Value} {x : DataW H × List MemPlace}
theorem op_in (h : DataW.trod enc Tryz.prog w base sp held fuel 33 cs = some x) :
    ∃ (o : S.OpV) (pa : Option Addr) (pc : Nat), cs = [.int .u32 o.au, .slice pa o.n pc, .int .u64 o.st, .int .u8 o.k, .string o.key, .int .u8 o.vk, .int .i64 o.num, .int .u64 o.bits, .string o.t, .int .u32 o.e, .int .u32 o.s] ∧ o.rng ∧ o.n ≤ pc ∧ WRow .u8 32 (fun _ => True) w pa o.n o.ids := by
  have hl := (fields_in Tryz.underlying33 h).1
  rw [z_op] at hl
  match cs, hl, h with
  | [c0, c1, c2, c3, c4, c5, c6, c7, c8, c9, c10], _, h =>
    obtain ⟨_, _, f0⟩ := field_in 0 Tryz.underlying33 rfl z_u32 h
    obtain ⟨_, _, f1⟩ := field_in 1 Tryz.underlying33 rfl z_ids h
    obtain ⟨_, _, f2⟩ := field_in 2 Tryz.underlying33 rfl z_u64 h
    obtain ⟨_, _, f3⟩ := field_in 3 Tryz.underlying33 rfl z_act h
    obtain ⟨_, _, f4⟩ := field_in 4 Tryz.underlying33 rfl z_sig h
    obtain ⟨au, e0, r0⟩ := int_in Tryz.underlying23 f0
    obtain ⟨pa, n, pc, ids, e1, hc, hR⟩ := ids_in Tryz.underlying24 Tryz.underlying35 Tryz.underlying5 z_u8 z_id (by decide) f1
    obtain ⟨st, e2, r2⟩ := int_in Tryz.underlying25 f2
    obtain ⟨_, _, g0⟩ := field_in 0 Tryz.underlying29 rfl z_u8 f3
    obtain ⟨_, _, g1⟩ := field_in 1 Tryz.underlying29 rfl z_str f3
    obtain ⟨_, _, g2⟩ := field_in 2 Tryz.underlying29 rfl z_val f3
    obtain ⟨k, e3, r3⟩ := int_in Tryz.underlying5 g0
    obtain ⟨key, e4, _, _⟩ := DataW.trod_string Tryz.underlying9 g1
    obtain ⟨_, _, v0⟩ := field_in 0 Tryz.underlying27 rfl z_u8 g2
    obtain ⟨_, _, v1⟩ := field_in 1 Tryz.underlying27 rfl z_i64 g2
    obtain ⟨_, _, v2⟩ := field_in 2 Tryz.underlying27 rfl z_u64 g2
    obtain ⟨_, _, v3⟩ := field_in 3 Tryz.underlying27 rfl z_str g2
    obtain ⟨vk, e5, r5⟩ := int_in Tryz.underlying5 v0
    obtain ⟨num, e6, r6⟩ := int_in Tryz.underlying2 v1
    obtain ⟨bits, e7, r7⟩ := int_in Tryz.underlying25 v2
    obtain ⟨tx, e8, _, _⟩ := DataW.trod_string Tryz.underlying9 v3
    obtain ⟨_, _, s0⟩ := field_in 0 Tryz.underlying31 rfl z_u32 f4
    obtain ⟨_, _, s1⟩ := field_in 1 Tryz.underlying31 rfl z_u32 f4
    obtain ⟨se, e9, r9⟩ := int_in Tryz.underlying23 s0
    obtain ⟨ss, e10, r10⟩ := int_in Tryz.underlying23 s1
    have q0 : [c0] = [Value.int .u32 au] := e0
    have q1 : [c1] = [Value.slice pa n pc] := e1
    have q2 : [c2] = [Value.int .u64 st] := e2
    have q3 : [c3] = [Value.int .u8 k] := e3
    have q4 : [c4] = [Value.string key] := e4
    have q5 : [c5] = [Value.int .u8 vk] := e5
    have q6 : [c6] = [Value.int .i64 num] := e6
    have q7 : [c7] = [Value.int .u64 bits] := e7
    have q8 : [c8] = [Value.string tx] := e8
    have q9 : [c9] = [Value.int .u32 se] := e9
    have q10 : [c10] = [Value.int .u32 ss] := e10
    simp only [List.cons.injEq, and_true] at q0 q1 q2 q3 q4 q5 q6 q7 q8 q9 q10
    subst q0 q1 q2 q3 q4 q5 q6 q7 q8 q9 q10
    have u8 : IntKind.min .u8 = 0 ∧ IntKind.max .u8 = 255 := by decide
    have u32 : IntKind.min .u32 = 0 ∧ IntKind.max .u32 = 4294967295 := by decide
    have u64 : IntKind.min .u64 = 0 ∧ IntKind.max .u64 = 18446744073709551615 := by decide
    have i64 : IntKind.min .i64 = -9223372036854775808 ∧ IntKind.max .i64 = 9223372036854775807 := by decide
    refine ⟨⟨au, st, k, vk, num, bits, se, ss, n, ids, key, tx⟩, pa, pc, rfl, ⟨?_, ?_, ?_, ?_, ?_, ?_, ?_, ?_⟩, hc, hR⟩ <;> dsimp only <;> omega
theorem sig_in (h : DataW.trod enc Tryz.prog w base sp held fuel 31 cs = some x) : ∃ (e s : Int), cs = [.int .u32 e, .int .u32 s] ∧ (0 ≤ e ∧ e < 4294967296) ∧ 0 ≤ s ∧ s < 4294967296 := by
  have hl := (fields_in Tryz.underlying31 h).1
  rw [z_sig] at hl
  match cs, hl, h with
  | [c0, c1], _, h =>
    obtain ⟨_, _, s0⟩ := field_in 0 Tryz.underlying31 rfl z_u32 h
    obtain ⟨_, _, s1⟩ := field_in 1 Tryz.underlying31 rfl z_u32 h
    obtain ⟨se, e9, r9⟩ := int_in Tryz.underlying23 s0
    obtain ⟨ss, e10, r10⟩ := int_in Tryz.underlying23 s1
    have q9 : [c0] = [Value.int .u32 se] := e9
    have q10 : [c1] = [Value.int .u32 ss] := e10
    simp only [List.cons.injEq, and_true] at q9 q10
    subst q9 q10
    have u32 : IntKind.min .u32 = 0 ∧ IntKind.max .u32 = 4294967295 := by decide
    exact ⟨se, ss, rfl, by omega, by omega⟩
end
theorem gKnown : Tryz.prog.globalNamed "braid/digest.constants" = some gK := by kernel_rfl
theorem tKnown : (Tryz.prog.globals[gK]?).map (·.type) = some 186 := by kernel_rfl
theorem laid_KK : (Rows.laid_braid_digest_constants : DataW Unit) = .agg (S.KK.map fun n => .lit (.int .u32 n)) := rfl
/-- The table, laid. -/
theorem of_laid {W : World} (h : laidMetH Tryz.prog [("braid/digest.constants", Rows.laid_braid_digest_constants)] W) : Kst W 0 := by
  rw [MakeChecks.laidMetH_plain _ _ _ (by kernel_rfl)] at h
  obtain ⟨ps, ⟨g0, t0, cs0, f0, p0, q0, hg0, ht0, hv0, hd0, _⟩, _⟩ := h
  obtain rfl := Option.some.inj (gKnown.symm.trans hg0)
  obtain rfl := Option.some.inj (tKnown.symm.trans ht0)
  obtain ⟨xs, m1, _, hx1, hlen, hn, hel⟩ := DataW.trod_array Tryz.underlying186 hd0
  rw [laid_KK] at hx1
  simp only [Prod.mk.injEq, DataW.agg.injEq] at hx1
  have hK : ∀ i, i < 64 → cs0[i]? = some (.int .u32 (S.KK.getD i 0)) := by
    intro i hi
    have h1 := hel i hi
    rw [z_u32, Nat.mul_one, List.getElem?_eq_getElem (by omega)] at h1
    obtain ⟨n, h2, h3, _⟩ := DataW.trod_int Tryz.underlying23 h1
    have h4 := congrArg (fun l => l[i]?) hx1.1
    simp only [List.getElem?_map] at h4
    rw [List.getElem?_eq_getElem (show i < xs.length by omega), Option.map_some, h3] at h4
    have h6 := congrArg (fun l => l[0]?) h2
    cases hq : S.KK[i]? with
    | none => rw [hq] at h4; simp at h4
    | some z =>
      rw [hq] at h4
      have hz : z = n := by simpa using h4
      subst hz
      rw [List.getD_eq_getElem?_getD, hq, Option.getD_some]
      simpa [List.getElem?_take, List.getElem?_drop] using h6
  have hcell : ∀ i, i < 64 → W.cell? ⟨gK, i, none⟩ = some (.int .u32 (S.KK.getD i 0)) := fun i hi => by
    rw [World.var?_cell gKnown hv0 i]; exact hK i hi
  refine ⟨fun j hj => ?_, rfl, show ∀ x ∈ S.KK, 0 ≤ x ∧ x < 4294967296 by decide, World.block_lt_of_cell? W _ (hcell 0 (by decide))⟩
  have hkl : S.KK.length = 64 := rfl
  rw [ints_length] at hj
  have hj' : j < 64 := by omega
  rw [Nat.zero_add, hcell j hj', ints_getD _ _ _ hj]
end Go.Proofs.YtiohpiiiapjblaaGreatDoor.L
namespace Go.Proofs.YtiohpiiiapjblaaGreatDoor.L
open Go Go.Proofs.YtiohpiiiapjblaaGreatDoor Go.Proofs.YtiohpiiiapjblaaGreatDoor.G Go.Proofs.YtiohpiiiapjblaaGreatDoor.W
open Go.ChangeShapes Go.WideShapes Go.ChangeAt Go.RowKit
set_option linter.unusedVariables false
theorem list_of {α : Type} (d : α) (Φ : Nat → α → Prop) : ∀ n : Nat, (∀ i, i < n → ∃ p, Φ i p) → ∃ ps : List α, ps.length = n ∧ ∀ i, i < n → Φ i (ps.getD i d)
  | 0, _ => ⟨[], rfl, fun i hi => by omega⟩
  | n + 1, h => by
    obtain ⟨ps, h1, h2⟩ := list_of d Φ n (fun i hi => h i (by omega))
    obtain ⟨p, hp⟩ := h n (by omega)
    refine ⟨ps ++ [p], by simp [h1], fun i hi => ?_⟩
    by_cases hin : i < n
    · have := h2 i hin
      rw [List.getD_eq_getElem?_getD, List.getElem?_append_left (by omega), ← List.getD_eq_getElem?_getD]
      exact this
    · obtain rfl : i = n := by omega
      rw [List.getD_eq_getElem?_getD, List.getElem?_append_right (by omega), h1]
      simpa using hp
section
variable {H : Type} {enc : TypeId × Value → H} {P : Program} {w : World} {base : Nat} {sp : Nat → Bool} {held : Bool} {fuel : Nat} {cs : List Value} {x : DataW H × List MemPlace} {t : TypeId}
/-- A slice of elements of one cell. -/
theorem slice_in {e : TypeId} (ht : P.underlying t = some (.slice e)) (hes : P.cellsOf e = 1) (h : DataW.trod enc P w base sp held fuel t cs = some x) :
    ∃ a n c, cs = [.slice a n c] ∧ n ≤ c ∧ (n = 0 ∨ ∃ b o, a = some ⟨b, o, none⟩ ∧ ∀ i, i < n → ∃ v m y, w.cell? ⟨b, o + i, none⟩ = some v ∧ DataW.trod enc P w base sp held m e [v] = some y) := by
  rcases DataW.trod_slice ht h with ⟨h1, _⟩ | ⟨a, len, cap, elems, rest, m, _, h1, _, _, hlc, _, hel, hf, _⟩
  · exact ⟨none, 0, 0, h1, Nat.le_refl _, .inl rfl⟩
  · refine ⟨some a, len, cap, h1, hlc, ?_⟩
    by_cases h0 : len = 0
    · exact .inl h0
    · have one : ∀ i, i < len → ∃ v m y, w.cell? (a.add i) = some v ∧ DataW.trod enc P w base sp held m e [v] = some y := by
        intro i hi
        have h2 := hf i hi
        rw [List.getElem?_eq_getElem (by omega), hes, Nat.mul_one] at h2
        cases hc : w.cells? base (a.add i) 1 with
        | none => rw [hc] at h2; cases h2
        | some ds =>
          rw [hc, Option.bind_some] at h2
          obtain ⟨h5, h6⟩ := cells_in hc
          match ds, h5 with
          | [v], _ =>
            have := h6 0 (by omega)
            refine ⟨v, _, _, ?_, h2⟩
            simpa [Addr.add] using this
      obtain ⟨b0, o, spot⟩ := a
      obtain rfl : spot = none := by
        obtain ⟨v, _, _, h3, _⟩ := one 0 (by omega)
        have := World.cell?_spot h3
        simpa [Addr.add] using this
      exact .inr ⟨b0, o, rfl, fun i hi => by
        obtain ⟨v, m, y, h3, h4⟩ := one i hi
        exact ⟨v, m, y, by rw [add_mk] at h3; exact h3, h4⟩⟩
theorem row_in {e : TypeId} (ht : P.underlying t = some (.slice e)) (he : P.underlying e = some (.int .u8)) (hes : P.cellsOf e = 1) (h : DataW.trod enc P w base sp held fuel t cs = some x) :
    ∃ a n c xs, cs = [.slice a n c] ∧ n ≤ c ∧ IRow .u8 (fun _ => True) w a n xs := by
  obtain ⟨a, n, c, h1, h2, h3⟩ := slice_in ht hes h
  rcases h3 with rfl | ⟨b, o, rfl, h3⟩
  · exact ⟨a, 0, c, [], h1, h2, IRow.nil⟩
  · obtain ⟨xs, h4, h5⟩ := list_of (0 : Int) (fun i z => w.cell? ⟨b, o + i, none⟩ = some (.int .u8 z) ∧ 0 ≤ z ∧ z < 256) n (fun i hi => by
      obtain ⟨v, m, y, h5, h6⟩ := h3 i hi
      obtain ⟨z, h7, h8, h9⟩ := int_in he h6
      simp only [List.cons.injEq, and_true] at h7
      subst h7
      exact ⟨z, h5, h8, by have : z ≤ 255 := h9; omega⟩)
    refine ⟨_, n, c, xs, h1, h2, .inr ⟨b, o, rfl, trivial, fun j hj => ?_⟩, h4, fun z hz => ?_⟩
    · rw [ints_length] at hj
      rw [(h5 j (by omega)).1, ints_getD _ _ _ hj]
    · obtain ⟨j, hj, rfl⟩ := List.getElem_of_mem hz
      have := (h5 j (by omega)).2
      rw [List.getD_eq_getElem?_getD, List.getElem?_eq_getElem hj] at this
      simp only [lim]
      exact this
end
section
variable {H : Type} {enc : TypeId × Value → H} {w : World} {base : Nat} {sp : Nat → Bool} {held : Bool} {fuel : Nat} {cs : List Value} {x : DataW H × List MemPlace}
theorem bytesS_in (h : DataW.trod enc Tryz.prog w base sp held fuel 22 cs = some x) : ∃ a n c xs, cs = [.slice a n c] ∧ n ≤ c ∧ IRow .u8 (fun _ => True) w a n xs :=
  row_in Tryz.underlying22 Tryz.underlying5 z_u8 h
end
end Go.Proofs.YtiohpiiiapjblaaGreatDoor.L
namespace Go.Proofs.YtiohpiiiapjblaaGreatDoor.W
open Go.RowKit Go.Proofs.YtiohpiiiapjblaaGreatDoor.G
set_option linter.unusedVariables false
set_option maxRecDepth 20000
set_option maxHeartbeats 8000000
attribute [local irreducible] RS RX
theorem C23 : Tryz.prog.cellsOf 23 = 1 := by kernel_rfl
theorem T23 : TI Tryz.prog 23 1 4 [.int .u32 0] := by
 have h : (Tryz.prog.info? 23).map (fun i => (i.size, i.bytes, i.zero)) = some (1, 4, some (.int .u32 0)) := by kernel_rfl
 exact TI.of h rfl
theorem E82 : Enters Tryz.prog 82 := .mk Tryz.func82 (by kernel_rfl) rfl
theorem E115 : Enters Tryz.prog 115 := .mk Tryz.func115 (by kernel_rfl) rfl
theorem E131 : Enters Tryz.prog 131 := .mk Tryz.func131 (by kernel_rfl) rfl
theorem E136 : Enters Tryz.prog 136 := .mk Tryz.func136 (by kernel_rfl) rfl
theorem E140 : Enters Tryz.prog 140 := .mk Tryz.func140 (by kernel_rfl) rfl
theorem E152 : Enters Tryz.prog 152 := .mk Tryz.func152 (by kernel_rfl) rfl
theorem ref_power (a n m : Int) (ha : 0 ≤ a ∧ a < 4294967296) (hn : 0 ≤ n ∧ n < 18446744073709551616) (hm : 1 < m ∧ m < 4294967296) (w : World) :
  Calls Tryz.prog 115 #[.int .u64 a, .int .u64 n, .int .u64 m] w (Ret w fun v _ => v = .int .u64 (S.pw a n m)) := by
 have hE := Ext.refl w
 refine enter (args := [.int .u64 a, .int .u64 n, .int .u64 m]) (l := [.int .u64 a, .int .u64 n, .int .u64 m, undef, undef, undef, undef, undef, undef, undef, undef, undef, undef, undef, undef, undef, undef, undef, undef, undef, undef, undef, undef, undef, undef, undef]) Tryz.func115 rfl rfl ?_
 refine wp_seq_k (fun K1 hK1 => ?_)
 refine region ?_
 refine RS.assign (v := .int .u64 0) rfl ?_
 refine RS.nil ?_
 refine hK1 _ _ ?_
 try clear hK1
 refine wp_seq_k (fun K2 hK2 => ?_)
 refine region ?_
 refine RS.assign (v := .int .u64 1) rfl ?_
 refine RS.nil ?_
 refine hK2 _ _ ?_
 try clear hK2
 refine wp_seq_k (fun K3 hK3 => ?_)
 refine wp_block ?_
 refine C.loop (A := Int × Int × Int) (fun p => [(0, .int .u64 p.1), (1, .int .u64 p.2.1), (7, .int .u64 p.2.2)]) [8, 9, 10, 11, 12, 13, 14, 15, 16, 17, 18, 19, 20, 21, 22, 23, 24] (fun p w' => Ext w w' ∧ ((0 ≤ p.1 ∧ p.1 < 4294967296) ∧ (0 ≤ p.2.1 ∧ p.2.1 < 18446744073709551616) ∧ (0 ≤ p.2.2 ∧ p.2.2 < m) ∧ p.2.2 * p.1 ^ p.2.1.toNat % m = a ^ n.toNat % m)) (fun p => p.2.1.toNat) (a, n, 1) (by kernel_rfl) ?_ ?_
 ·exact ⟨Ext.refl _, ha, hn, ⟨by dsimp only; omega, hm.1⟩, by dsimp only; rw [Int.one_mul]⟩
 ·rintro p j w4 ⟨x4, hI⟩
  replace hE := Ext.tr hE x4
  have zw4 := x4.size
  obtain ⟨a1, n1, r1⟩ := p
  dsimp only at hI
  obtain ⟨h1, h2, h3, h4⟩ := hI
  have g1 := S.mul32 (show 0 ≤ r1 ∧ r1 < 4294967296 by omega) h1
  have g2 := S.mul32 h1 h1
  have g5 := Int.emod_nonneg (r1 * a1) (show m ≠ 0 by omega)
  have g6 := Int.emod_lt_of_pos (r1 * a1) (show 0 < m by omega)
  have g7 := Int.emod_nonneg (a1 * a1) (show m ≠ 0 by omega)
  have g8 := Int.emod_lt_of_pos (a1 * a1) (show 0 < m by omega)
  refine C.norm (by simp only [upd, junk, List.map_cons, List.map_nil, List.set_cons_succ, List.set_cons_zero]; exact rfl) ?_
  refine wp_seq_k (fun K5 hK5 => ?_)
  refine wp_seq_k (fun K6 hK6 => ?_)
  refine region ?_
  refine RS.move (v := .int _ _) rfl ?_
  refine RS.o (D.gt rfl rfl) ?_
  refine RS.nil ?_
  refine hK6 _ _ ?_
  try clear hK6
  refine C.ifd rfl (fun c7 => ?_) (fun c7 => ?_)
  ·refine wp_skip ?_
   refine hK5 _ _ ?_
   try clear hK5
   refine wp_block ?_
   refine wp_seq_k (fun K8 hK8 => ?_)
   refine wp_seq_k (fun K9 hK9 => ?_)
   refine region ?_
   refine RS.move (v := .int _ _) rfl ?_
   refine RS.o (D.rem rfl rfl (by omega) (by omega)) ?_
   refine RS.o (D.eq rfl rfl) ?_
   refine RS.nil ?_
   refine hK9 _ _ ?_
   try clear hK9
   refine C.ife rfl (fun c10 => ?_) (fun c10 => ?_)
   ·refine region ?_
    refine RS.move (v := .int _ _) rfl ?_
    refine RS.move (v := .int _ _) rfl ?_
    refine RS.o (D.mul rfl rfl (W.u64 (by omega))) ?_
    refine RS.move (v := .int _ _) rfl ?_
    refine RS.o (D.rem rfl rfl (by omega) (by omega)) ?_
    refine RS.assign (v := .int _ _) rfl ?_
    refine RS.nil ?_
    refine hK8 _ _ ?_
    try clear hK8
    refine wp_seq_k (fun K11 hK11 => ?_)
    refine region ?_
    refine RS.move (v := .int _ _) rfl ?_
    refine RS.move (v := .int _ _) rfl ?_
    refine RS.o (D.mul rfl rfl (W.u64 (by omega))) ?_
    refine RS.move (v := .int _ _) rfl ?_
    refine RS.o (D.rem rfl rfl (by omega) (by omega)) ?_
    refine RS.assign (v := .int _ _) rfl ?_
    refine RS.nil ?_
    refine hK11 _ _ ?_
    try clear hK11
    refine region ?_
    refine RS.move (v := .int _ _) rfl ?_
    refine RS.o (D.quo rfl rfl (by omega) (by omega) (W.u64 (by omega))) ?_
    refine RS.assign (v := .int _ _) rfl ?_
    refine RS.nil ?_
    change Nx _ _ _ _ _ _ _ _
    refine C.next (_, _, _) ⟨rfl, rfl, rfl, trivial⟩ (by kernel_rfl) ?_ ?_
    ·exact ⟨x4, ⟨g7, by dsimp only; omega⟩, ⟨by dsimp only; omega, by dsimp only; omega⟩, ⟨g5, g6⟩, by dsimp only; rw [← h4]; exact S.power_odd a1 r1 m n1 h2.1 ‹_›⟩
    ·dsimp only; omega
   ·refine wp_skip ?_
    refine hK8 _ _ ?_
    try clear hK8
    refine wp_seq_k (fun K12 hK12 => ?_)
    refine region ?_
    refine RS.move (v := .int _ _) rfl ?_
    refine RS.move (v := .int _ _) rfl ?_
    refine RS.o (D.mul rfl rfl (W.u64 (by omega))) ?_
    refine RS.move (v := .int _ _) rfl ?_
    refine RS.o (D.rem rfl rfl (by omega) (by omega)) ?_
    refine RS.assign (v := .int _ _) rfl ?_
    refine RS.nil ?_
    refine hK12 _ _ ?_
    try clear hK12
    refine region ?_
    refine RS.move (v := .int _ _) rfl ?_
    refine RS.o (D.quo rfl rfl (by omega) (by omega) (W.u64 (by omega))) ?_
    refine RS.assign (v := .int _ _) rfl ?_
    refine RS.nil ?_
    change Nx _ _ _ _ _ _ _ _
    refine C.next (_, _, _) ⟨rfl, rfl, rfl, trivial⟩ (by kernel_rfl) ?_ ?_
    ·exact ⟨x4, ⟨g7, by dsimp only; omega⟩, ⟨by dsimp only; omega, by dsimp only; omega⟩, h3, by dsimp only; rw [← h4]; exact S.power_even a1 r1 m n1 h2.1 ‹_›⟩
    ·dsimp only; omega
  ·refine wp_exit ?_
   refine hK3 _ _ ?_
   try clear hK3
   refine wp_seq_k (fun K13 hK13 => ?_)
   refine region ?_
   refine RS.move (v := .int _ _) rfl ?_
   refine RS.assign (v := .int _ _) rfl ?_
   refine RS.nil ?_
   refine hK13 _ _ ?_
   try clear hK13
   refine wp_ret ?_
   refine ret (rs := [.tmp 6]) (vs := [.int _ _]) (v := (.int _ _)) rfl ⟨rfl, trivial⟩ rfl ?_
   refine ⟨_, rfl, hE, ?_⟩
   have h0 : n1 = 0 := by omega
   rw [h0] at h4
   unfold S.pw
   rw [← h4]
   congr 1
   rw [show (0 : Int).toNat = 0 from rfl, Int.pow_zero, Int.mul_one, Int.emod_eq_of_lt h3.1 h3.2]
theorem group_mul {S0 : Nat → Prop} (m : Int) (a : Option Addr) (n c : Nat) (xs : List Int) (hm : 1 < m ∧ m < 4294967296) (w : World) (R0 : IRow .u32 S0 w a n xs) (hn : n ≤ 1000) :
  Calls Tryz.prog 136 #[.int .u64 m, .slice a n c] w (Ret w fun v _ => v = .int .u32 (S.mulf m xs)) := by
 have hE := Ext.refl w
 refine enter (args := [.int .u64 m, .slice a n c]) (l := [.int .u64 m, .slice a n c, undef, undef, undef, undef, undef, undef, undef, undef, undef, undef, undef, undef, undef, undef, undef, undef, undef, undef, undef, undef, undef]) Tryz.func136 rfl rfl ?_
 refine wp_seq_k (fun K1 hK1 => ?_)
 refine region ?_
 refine RS.assign (v := .int .u32 0) rfl ?_
 refine RS.nil ?_
 refine hK1 _ _ ?_
 try clear hK1
 refine wp_seq_k (fun K2 hK2 => ?_)
 refine region ?_
 refine RS.assign (v := .int .u64 1) rfl ?_
 refine RS.nil ?_
 refine hK2 _ _ ?_
 try clear hK2
 refine wp_seq_k (fun K3 hK3 => ?_)
 refine wp_seq_k (fun K4 hK4 => ?_)
 refine region ?_
 refine RS.move (v := .slice _ _ _) rfl ?_
 refine RS.o (D.len rfl Tryz.underlying185) ?_
 refine RS.move (v := .int .i64 0) rfl ?_
 refine RS.nil ?_
 refine hK4 _ _ ?_
 try clear hK4
 refine wp_block ?_
 refine C.loop (A := Int × Int) (fun p => [(5, .int .u64 p.2), (10, .int .i64 p.1)]) [7, 11, 12, 13, 14, 15, 16, 17, 18, 19, 20] (fun p w' => Ext w w' ∧ ((0 ≤ p.1 ∧ p.1 ≤ n) ∧ (0 ≤ p.2 ∧ p.2 < m) ∧ p.2 = S.mulf m (xs.take p.1.toNat))) (fun p => (n - p.1.toNat)) (0, 1) (by kernel_rfl) ?_ ?_
 ·exact ⟨Ext.refl _, ⟨by decide, by dsimp only; omega⟩, ⟨by decide, hm.1⟩, rfl⟩
 ·rintro p j w5 ⟨x5, hI⟩
  replace hE := Ext.tr hE x5
  replace R0 := R0.ext x5
  have zw5 := x5.size
  obtain ⟨i, r⟩ := p
  dsimp only at hI
  obtain ⟨h1, h2, h3⟩ := hI
  refine C.norm (by simp only [upd, junk, List.map_cons, List.map_nil, List.set_cons_succ, List.set_cons_zero]; exact rfl) ?_
  refine wp_seq_k (fun K6 hK6 => ?_)
  refine region ?_
  refine RS.o (D.lt rfl rfl) ?_
  refine RS.nil ?_
  refine hK6 _ _ ?_
  try clear hK6
  refine wp_seq_k (fun K7 hK7 => ?_)
  refine C.ifd rfl (fun c8 => ?_) (fun c8 => ?_)
  ·refine wp_skip ?_
   refine hK7 _ _ ?_
   try clear hK7
   refine wp_seq_k (fun K9 hK9 => ?_)
   refine wp_block ?_
   refine wp_seq_k (fun K10 hK10 => ?_)
   refine region ?_
   refine RS.idx R0 rfl rfl Tryz.underlying185 C23 (by omega) (fun b11 o11 v11 h11 q11 r11 => ?_)
   refine RS.norm (by dsimp only [List.set]) ?_
   simp only [lim] at r11
   refine RS.o (D.load rfl Tryz.underlying23 rfl (h11)) ?_
   refine RS.assign (v := .int _ _) rfl ?_
   refine RS.nil ?_
   refine hK10 _ _ ?_
   try clear hK10
   have g1 := S.mul32 (show 0 ≤ r ∧ r < 4294967296 by omega) r11
   refine region ?_
   refine RS.move (v := .int _ _) rfl ?_
   refine RS.move (v := .int _ _) rfl ?_
   refine RS.o (D.conv rfl Tryz.underlying23 Tryz.underlying25 (W.u64 (by omega))) ?_
   refine RS.o (D.mul rfl rfl (W.u64 (by omega))) ?_
   refine RS.move (v := .int _ _) rfl ?_
   refine RS.o (D.rem rfl rfl (by omega) (by omega)) ?_
   refine RS.assign (v := .int _ _) rfl ?_
   refine RS.nil ?_
   refine hK9 _ _ ?_
   try clear hK9
   refine region ?_
   refine RS.o (D.add rfl rfl (W.i64 (by omega))) ?_
   refine RS.move (v := .int _ _) rfl ?_
   refine RS.nil ?_
   change Nx _ _ _ _ _ _ _ _
   refine C.next (_, _) ⟨rfl, rfl, trivial⟩ (by kernel_rfl) ?_ ?_
   ·refine ⟨x5, ⟨by dsimp only; omega, by dsimp only; omega⟩, ⟨Int.emod_nonneg _ (by omega), Int.emod_lt_of_pos _ (by omega)⟩, ?_⟩
    dsimp only
    rw [show (i + 1).toNat = i.toNat + 1 by omega, S.mulf_succ m xs _ (by rw [R0.len]; omega), ← h3, ← q11]
   ·dsimp only; omega
  ·refine wp_exit ?_
   refine hK3 _ _ ?_
   try clear hK3
   refine wp_seq_k (fun K12 hK12 => ?_)
   refine region ?_
   refine RS.move (v := .int _ _) rfl ?_
   refine RS.o (D.conv rfl Tryz.underlying25 Tryz.underlying23 (W.u32 (by omega))) ?_
   refine RS.assign (v := .int _ _) rfl ?_
   refine RS.nil ?_
   refine hK12 _ _ ?_
   try clear hK12
   refine wp_ret ?_
   refine ret (rs := [.tmp 4]) (vs := [.int _ _]) (v := (.int _ _)) rfl ⟨rfl, trivial⟩ rfl ?_
   refine ⟨_, rfl, hE, ?_⟩
   have h0 : i.toNat = xs.length := by rw [R0.len]; omega
   rw [h3, h0, List.take_length]
theorem group_sq (b : Nat) (o : Int) (T : TypeId) (ho : 0 ≤ o ∧ o < 1000000007) (w : World) (B0 : Blk w b [.int .u32 o] T) :
  Calls Tryz.prog 152 #[.pointer (some ⟨b, 0, none⟩)] w (fun e w' => e = .returned (.tuple #[]) ∧ Pr (fun k => k = b) w w' ∧ Blk w' b [.int .u32 (o * o % 1000000007)] T) := by
 have hb := B0.lt
 have gg := Int.emod_nonneg (o * o) (show (1000000007 : Int) ≠ 0 by decide)
 have gl := Int.emod_lt_of_pos (o * o) (show (0 : Int) < 1000000007 by decide)
 have hE := Pr.refl (fun k => k = b) w
 refine enter (args := [.pointer (some ⟨b, 0, none⟩)]) (l := [.pointer (some ⟨b, 0, none⟩), undef, undef, undef, undef]) Tryz.func152 rfl rfl ?_
 refine region ?_
 refine RS.o (D.load rfl Tryz.underlying23 rfl (B0.cell rfl)) ?_
 refine RS.o (D.load rfl Tryz.underlying23 rfl (B0.cell rfl)) ?_
 refine RS.buildSlice (xs := [.tmp 1, .tmp 2]) (vs := [.int _ _, .int _ _]) (cs := [.int _ _, .int _ _]) Tryz.underlying185 T23 (by decide) rfl rfl rfl rfl rfl rfl (by intro v hv; simp only [List.mem_cons, List.not_mem_nil, or_false] at hv; rcases hv with rfl | rfl <;> rfl) rfl (fun b1 w1 e1 s1 x1 B1 => ?_)
 refine RS.norm (by dsimp only [List.set]) ?_
 replace hE := hE.ext x1
 replace B0 := B0.ext x1
 have zw1 := x1.size
 refine RS.call E136 (group_mul (S0 := fun b => b = b1) _ _ 2 _ [o, o] (by omega) _ (.of_blk B1 rfl rfl rfl (.cons (k := .u32) (by simp only [lim]; omega) (.cons (k := .u32) (by simp only [lim]; omega) (.nil _)))) (by omega)) rfl (fun v2 w2 x2 A2 => ?_)
 replace hE := hE.ext x2
 replace B0 := B0.ext x2
 replace B1 := B1.ext x2
 have zw2 := x2.size
 subst A2
 rw [S.mulf_two]
 refine RS.norm (by dsimp only [List.set]) ?_
 refine RS.store rfl (v := .int _ _) rfl C23 rfl B0 rfl (fun w3 y3 N3 => ?_)
 replace hE := hE.stn y3 (by intros; try (first | (intro _ _) | (intro _) | skip); first | omega | (dsimp only at *; omega) | (simp_all; done) | (simp at *; omega))
 replace B1 := B1.st y3 (by intros; try (first | (intro _ _) | (intro _) | skip); first | omega | (dsimp only at *; omega) | (simp_all; done) | (simp at *; omega))
 have zw3 := y3.size
 replace B0 := N3
 refine RS.nil ?_
 refine retN (rs := []) (vs := []) rfl trivial rfl ?_
 exact ⟨rfl, hE, B0⟩
theorem group_pow (a n : Int) (ha : 0 ≤ a ∧ a < 4294967296) (hn : 0 ≤ n ∧ n < 18446744073709551616) (w : World) :
  Calls Tryz.prog 131 #[.int .u32 a, .int .u64 n] w (Ret w fun v _ => v = .int .u32 (S.pw a n 1000000007)) := by
 have gl : ∀ x : Int, 0 ≤ x % 1000000007 ∧ x % 1000000007 < 1000000007 := fun x => ⟨Int.emod_nonneg _ (by decide), Int.emod_lt_of_pos _ (by decide)⟩
 have hE := Ext.refl w
 refine enter (args := [.int .u32 a, .int .u64 n]) (l := [.int .u32 a, .int .u64 n, undef, undef, undef, undef, undef, undef, undef, undef, undef, undef, undef, undef, undef, undef, undef, undef, undef, undef, undef, undef, undef, undef, undef, undef]) Tryz.func131 rfl rfl ?_
 refine wp_seq_k (fun K1 hK1 => ?_)
 refine region ?_
 refine RS.assign (v := .int .u32 0) rfl ?_
 refine RS.nil ?_
 refine hK1 _ _ ?_
 try clear hK1
 refine wp_seq_k (fun K2 hK2 => ?_)
 refine region ?_
 refine RS.alloc T23 (fun b3 w3 e3 s3 x3 B3 => ?_)
 refine RS.norm (by dsimp only [List.set]) ?_
 replace hE := Ext.tr hE x3
 have zw3 := x3.size
 refine RS.store rfl (v := .int _ _) rfl C23 rfl B3 rfl (fun w4 y4 N4 => ?_)
 replace hE := hE.trans (y4.below (by intros; try (first | (intro _ _) | (intro _) | skip); first | omega | (dsimp only at *; omega) | (simp_all; done) | (simp at *; omega)))
 have zw4 := y4.size
 replace B3 := N4
 refine RS.nil ?_
 refine hK2 _ _ ?_
 try clear hK2
 refine wp_seq_k (fun K5 hK5 => ?_)
 refine region ?_
 refine RS.o (D.func (fs := []) (cs := [.pointer _]) rfl rfl) ?_
 refine RS.assign (v := .func _ _ _) rfl ?_
 refine RS.nil ?_
 refine hK5 _ _ ?_
 try clear hK5
 refine wp_seq_k (fun K6 hK6 => ?_)
 refine wp_seq_k (fun K7 hK7 => ?_)
 refine region ?_
 refine RS.move (v := .int .i64 0) rfl ?_
 refine RS.nil ?_
 refine hK7 _ _ ?_
 try clear hK7
 refine wp_block ?_
 refine C.loop (A := Int × Int) (fun p => [(9, .int .i64 p.1)]) [7, 10, 11, 12, 13, 14, 15, 16, 17, 18, 19, 20, 21, 22, 23, 24] (fun p w' => Pr (fun b => b = b3) w4 w' ∧ (Blk w' b3 [.int .u32 p.2] 23 ∧ (0 ≤ p.1 ∧ p.1 ≤ 64) ∧ (0 ≤ p.2 ∧ p.2 < 1000000007) ∧ p.2 = S.pw a (S.hi64 n p.1.toNat) 1000000007)) (fun p => (64 - p.1.toNat)) (0, 1) (by kernel_rfl) ?_ ?_
 ·exact ⟨Pr.refl _ _, B3, by decide, by decide, by rw [show (0 : Int).toNat = 0 from rfl, S.hi64_zero n hn]; show (1 : Int) = a ^ (0 : Nat) % 1000000007; rw [Int.pow_zero]; rfl⟩
 ·rintro p j w8 ⟨x8, hI⟩
  replace hE := hE.trans (x8.below (by intros; try (first | (intro _ _) | (intro _) | skip); first | omega | (dsimp only at *; omega) | (simp_all; done) | (simp at *; omega)) (by intros; try (first | (intro _ _) | (intro _) | skip); first | omega | (dsimp only at *; omega) | (simp_all; done) | (simp at *; omega)))
  have zw8 := x8.size
  obtain ⟨i, r⟩ := p
  dsimp only at hI
  obtain ⟨B3, h1, h2, h3⟩ := hI
  have s3b := B3.lt
  refine C.norm (by simp only [upd, junk, List.map_cons, List.map_nil, List.set_cons_succ, List.set_cons_zero]; exact rfl) ?_
  refine wp_seq_k (fun K9 hK9 => ?_)
  refine region ?_
  refine RS.o (D.lt rfl rfl) ?_
  refine RS.nil ?_
  refine hK9 _ _ ?_
  try clear hK9
  refine wp_seq_k (fun K10 hK10 => ?_)
  refine C.ifd rfl (fun c11 => ?_) (fun c11 => ?_)
  ·refine wp_skip ?_
   refine hK10 _ _ ?_
   try clear hK10
   refine wp_seq_k (fun K12 hK12 => ?_)
   refine wp_block ?_
   refine wp_seq_k (fun K13 hK13 => ?_)
   have gs := S.shr_bd (63 - i).toNat hn
   refine region ?_
   refine RS.move (v := .int _ _) rfl ?_
   refine RS.assign (v := .int _ _) rfl ?_
   refine RS.nil ?_
   refine hK13 _ _ ?_
   try clear hK13
   refine wp_seq_k (fun K14 hK14 => ?_)
   refine region ?_
   refine RS.move (v := .func _ _ _) rfl ?_
   refine RS.callv E152 (group_sq _ r _ h2 _ B3) rfl rfl (fun e15 w15 A15 => ?_)
   obtain ⟨rfl, X15, N15⟩ := A15
   refine ⟨_, rfl, ?_⟩
   refine RS.norm (by dsimp only [List.set]) ?_
   replace hE := hE.trans (X15.below (by intros; try (first | (intro _ _) | (intro _) | skip); first | omega | (dsimp only at *; omega) | (simp_all; done) | (simp at *; omega)) (by intros; try (first | (intro _ _) | (intro _) | skip); first | omega | (dsimp only at *; omega) | (simp_all; done) | (simp at *; omega)))
   replace x8 := x8.prn X15 (by intros; try (first | (intro _ _) | (intro _) | skip); first | omega | (dsimp only at *; omega) | (simp_all; done) | (simp at *; omega))
   have zw15 := X15.size
   replace B3 := N15
   refine RS.nil ?_
   refine hK14 _ _ ?_
   try clear hK14
   refine wp_seq_k (fun K16 hK16 => ?_)
   refine region ?_
   refine RS.move (v := .int _ _) rfl ?_
   refine RS.move (v := .int _ _) rfl ?_
   refine RS.o (D.sub rfl rfl (W.i64 (by omega))) ?_
   refine RS.ob (D.shr_u64 rfl rfl (by omega) (by constructor <;> omega)) (fun z17 => ?_)
   refine RS.ob (D.band_u64 rfl rfl (by omega) (by omega)) (fun z18 => ?_)
   refine RS.o (D.eq rfl rfl) ?_
   refine RS.nil ?_
   refine hK16 _ _ ?_
   try clear hK16
   refine C.ife rfl (fun c19 => ?_) (fun c19 => ?_)
   ·refine region ?_
    refine RS.o (D.load rfl Tryz.underlying23 rfl (B3.cell rfl)) ?_
    refine RS.move (v := .int _ _) rfl ?_
    refine RS.buildSlice (xs := [.tmp 20, .tmp 21]) (vs := [.int _ _, .int _ _]) (cs := [.int _ _, .int _ _]) Tryz.underlying185 T23 (by decide) rfl rfl rfl rfl rfl rfl (by intro v hv; simp only [List.mem_cons, List.not_mem_nil, or_false] at hv; rcases hv with rfl | rfl <;> rfl) rfl (fun b20 w20 e20 s20 x20 B20 => ?_)
    refine RS.norm (by dsimp only [List.set]) ?_
    replace hE := Ext.tr hE x20
    replace x8 := x8.ext x20
    replace B3 := B3.ext x20
    have zw20 := x20.size
    refine RS.call E136 (group_mul (S0 := fun b => b = b20) _ _ 2 _ [r * r % 1000000007, a] (by omega) _ (.of_blk B20 rfl rfl rfl (.cons (k := .u32) (by simp only [lim]; omega) (.cons (k := .u32) (by simp only [lim]; omega) (.nil _)))) (by omega)) rfl (fun v21 w21 x21 A21 => ?_)
    replace hE := Ext.tr hE x21
    replace x8 := x8.ext x21
    replace B3 := B3.ext x21
    replace B20 := B20.ext x21
    have zw21 := x21.size
    subst A21
    rw [S.mulf_two]
    refine RS.norm (by dsimp only [List.set]) ?_
    refine RS.store rfl (v := .int _ _) rfl C23 rfl B3 rfl (fun w22 y22 N22 => ?_)
    replace hE := hE.trans (y22.below (by intros; try (first | (intro _ _) | (intro _) | skip); first | omega | (dsimp only at *; omega) | (simp_all; done) | (simp at *; omega)))
    replace x8 := x8.stn y22 (by intros; try (first | (intro _ _) | (intro _) | skip); first | omega | (dsimp only at *; omega) | (simp_all; done) | (simp at *; omega))
    replace B20 := B20.st y22 (by intros; try (first | (intro _ _) | (intro _) | skip); first | omega | (dsimp only at *; omega) | (simp_all; done) | (simp at *; omega))
    have zw22 := y22.size
    replace B3 := N22
    refine RS.nil ?_
    refine hK12 _ _ ?_
    try clear hK12
    refine region ?_
    refine RS.o (D.add rfl rfl (W.i64 (by omega))) ?_
    refine RS.move (v := .int _ _) rfl ?_
    refine RS.nil ?_
    change Nx _ _ _ _ _ _ _ _
    refine C.next (_, r * r % 1000000007 * a % 1000000007) ⟨rfl, trivial⟩ (by kernel_rfl) ?_ ?_
    ·refine ⟨x8, B3, ⟨by dsimp only; omega, by dsimp only; omega⟩, gl _, ?_⟩
     dsimp only
     rw [show (i + 1).toNat = i.toNat + 1 by omega, ← S.pw_step_one a n 1000000007 i.toNat hn.1 (by omega) (S.bit_one n i hn.1 (by omega) (by assumption)), ← h3]
    ·dsimp only; omega
   ·refine wp_skip ?_
    refine hK12 _ _ ?_
    try clear hK12
    refine region ?_
    refine RS.o (D.add rfl rfl (W.i64 (by omega))) ?_
    refine RS.move (v := .int _ _) rfl ?_
    refine RS.nil ?_
    change Nx _ _ _ _ _ _ _ _
    refine C.next (_, r * r % 1000000007) ⟨rfl, trivial⟩ (by kernel_rfl) ?_ ?_
    ·refine ⟨x8, B3, ⟨by dsimp only; omega, by dsimp only; omega⟩, gl _, ?_⟩
     dsimp only
     rw [show (i + 1).toNat = i.toNat + 1 by omega, ← S.pw_step_zero a n 1000000007 i.toNat hn.1 (by omega) (S.bit_zero n i hn.1 (by omega) (by assumption)), ← h3]
    ·dsimp only; omega
  ·refine wp_exit ?_
   refine hK6 _ _ ?_
   try clear hK6
   refine wp_seq_k (fun K23 hK23 => ?_)
   refine region ?_
   refine RS.o (D.load rfl Tryz.underlying23 rfl (B3.cell rfl)) ?_
   refine RS.assign (v := .int _ _) rfl ?_
   refine RS.nil ?_
   refine hK23 _ _ ?_
   try clear hK23
   refine wp_ret ?_
   refine ret (rs := [.tmp 4]) (vs := [.int _ _]) (v := (.int _ _)) rfl ⟨rfl, trivial⟩ rfl ?_
   refine ⟨_, rfl, hE, ?_⟩
   have h0 : i.toNat = 64 := by omega
   rw [h3, h0, S.hi64_all]
theorem group_Is (a : Int) (ha : 0 ≤ a ∧ a < 4294967296) (w : World) :
  Calls Tryz.prog 82 #[.int .u32 a] w (Ret w fun v _ => v = .bool (S.isG a)) := by
 have hE := Ext.refl w
 refine enter (args := [.int .u32 a]) (l := [.int .u32 a, undef, undef, undef, undef, undef, undef, undef, undef, undef, undef, undef, undef, undef]) Tryz.func82 rfl rfl ?_
 refine wp_seq_k (fun K1 hK1 => ?_)
 refine region ?_
 refine RS.assign (v := .bool false) rfl ?_
 refine RS.nil ?_
 refine hK1 _ _ ?_
 try clear hK1
 refine wp_seq_k (fun K2 hK2 => ?_)
 refine region ?_
 refine RS.move (v := .int _ _) rfl ?_
 refine RS.o (D.gt rfl rfl) ?_
 refine RS.move (v := .bool _) rfl ?_
 refine RS.splitd 5 rfl rfl (fun c3 => ?_) (fun c3 => ?_)
 ·refine RS.norm (by dsimp only [List.set]) ?_
  refine RS.wantB 5 rfl rfl rfl ?_
  refine RS.move (v := .int _ _) rfl ?_
  refine RS.wantB 5 rfl rfl rfl ?_
  refine RS.o (D.lt rfl rfl) ?_
  refine RS.pick (v := .bool _) rfl rfl ?_
  refine RS.move (v := .bool _) rfl ?_
  refine RS.splitd 9 rfl rfl (fun c4 => ?_) (fun c4 => ?_)
  ·refine RS.norm (by dsimp only [List.set]) ?_
   refine RS.wantB 9 rfl rfl rfl ?_
   refine RS.move (v := .int _ _) rfl ?_
   refine RS.wantB 9 rfl rfl rfl ?_
   refine RS.call E131 (group_pow _ _ (by omega) (by omega) _) rfl (fun v5 w5 x5 A5 => ?_)
   replace hE := Ext.tr hE x5
   have zw5 := x5.size
   subst A5
   refine RS.norm (by dsimp only [List.set]) ?_
   refine RS.wantB 9 rfl rfl rfl ?_
   refine RS.o (D.eq rfl rfl) ?_
   refine RS.pick (v := .bool _) rfl rfl ?_
   refine RS.assign (v := .bool _) rfl ?_
   refine RS.nil ?_
   refine hK2 _ _ ?_
   try clear hK2
   refine wp_ret ?_
   refine ret (rs := [.tmp 2]) (vs := [.bool _]) (v := (.bool _)) rfl ⟨rfl, trivial⟩ rfl ?_
   refine ⟨_, rfl, hE, congrArg Value.bool ?_⟩
   first | exact (S.isG_true (by omega) (by omega)).symm | exact (S.isG_lo (by omega)).symm | exact (S.isG_hi (by omega)).symm
  ·refine RS.norm (by dsimp only [List.set]) ?_
   refine RS.skipB (b := false) 9 rfl rfl rfl rfl ?_
   refine RS.norm (by dsimp only [putL, List.set]) ?_
   refine RS.skipB (b := false) 9 rfl rfl rfl rfl ?_
   refine RS.norm (by dsimp only [putL, List.set]) ?_
   refine RS.skipB (b := false) 9 rfl rfl rfl rfl ?_
   refine RS.norm (by dsimp only [putL, List.set]) ?_
   refine RS.pick (v := .bool false) rfl rfl ?_
   refine RS.assign (v := .bool _) rfl ?_
   refine RS.nil ?_
   refine hK2 _ _ ?_
   try clear hK2
   refine wp_ret ?_
   refine ret (rs := [.tmp 2]) (vs := [.bool _]) (v := (.bool _)) rfl ⟨rfl, trivial⟩ rfl ?_
   refine ⟨_, rfl, hE, congrArg Value.bool ?_⟩
   first | exact (S.isG_true (by omega) (by omega)).symm | exact (S.isG_lo (by omega)).symm | exact (S.isG_hi (by omega)).symm
 ·refine RS.norm (by dsimp only [List.set]) ?_
  refine RS.skipB (b := false) 5 rfl rfl rfl rfl ?_
  refine RS.norm (by dsimp only [putL, List.set]) ?_
  refine RS.skipB (b := false) 5 rfl rfl rfl rfl ?_
  refine RS.norm (by dsimp only [putL, List.set]) ?_
  refine RS.pick (v := .bool false) rfl rfl ?_
  refine RS.move (v := .bool _) rfl ?_
  refine RS.skipB (b := false) 9 rfl rfl rfl rfl ?_
  refine RS.norm (by dsimp only [putL, List.set]) ?_
  refine RS.skipB (b := false) 9 rfl rfl rfl rfl ?_
  refine RS.norm (by dsimp only [putL, List.set]) ?_
  refine RS.skipB (b := false) 9 rfl rfl rfl rfl ?_
  refine RS.norm (by dsimp only [putL, List.set]) ?_
  refine RS.pick (v := .bool false) rfl rfl ?_
  refine RS.assign (v := .bool _) rfl ?_
  refine RS.nil ?_
  refine hK2 _ _ ?_
  try clear hK2
  refine wp_ret ?_
  refine ret (rs := [.tmp 2]) (vs := [.bool _]) (v := (.bool _)) rfl ⟨rfl, trivial⟩ rfl ?_
  refine ⟨_, rfl, hE, congrArg Value.bool ?_⟩
  first | exact (S.isG_true (by omega) (by omega)).symm | exact (S.isG_lo (by omega)).symm | exact (S.isG_hi (by omega)).symm
theorem ref_Is (a : Int) (ha : 0 ≤ a ∧ a < 4294967296) (w : World) :
  Calls Tryz.prog 68 #[.int .u32 a] w (Ret w fun v _ => v = .bool (S.isG a)) := by
 have hE := Ext.refl w
 refine enter (args := [.int .u32 a]) (l := [.int .u32 a, undef, undef, undef, undef, undef, undef, undef, undef, undef, undef, undef, undef, undef, undef]) Tryz.func68 rfl rfl ?_
 refine wp_seq_k (fun K1 hK1 => ?_)
 refine region ?_
 refine RS.assign (v := .bool false) rfl ?_
 refine RS.nil ?_
 refine hK1 _ _ ?_
 try clear hK1
 refine wp_seq_k (fun K2 hK2 => ?_)
 refine region ?_
 refine RS.move (v := .int _ _) rfl ?_
 refine RS.o (D.ge rfl rfl) ?_
 refine RS.move (v := .bool _) rfl ?_
 refine RS.splitd 5 rfl rfl (fun c3 => ?_) (fun c3 => ?_)
 ·refine RS.norm (by dsimp only [List.set]) ?_
  refine RS.wantB 5 rfl rfl rfl ?_
  refine RS.move (v := .int _ _) rfl ?_
  refine RS.wantB 5 rfl rfl rfl ?_
  refine RS.o (D.lt rfl rfl) ?_
  refine RS.pick (v := .bool _) rfl rfl ?_
  refine RS.move (v := .bool _) rfl ?_
  refine RS.splitd 9 rfl rfl (fun c4 => ?_) (fun c4 => ?_)
  ·refine RS.norm (by dsimp only [List.set]) ?_
   refine RS.wantB 9 rfl rfl rfl ?_
   refine RS.move (v := .int _ _) rfl ?_
   refine RS.wantB 9 rfl rfl rfl ?_
   refine RS.o (D.conv rfl Tryz.underlying23 Tryz.underlying25 (by first | exact W.u64 (by omega) | exact W.u64m _)) ?_
   refine RS.wantB 9 rfl rfl rfl ?_
   refine RS.call E115 (ref_power _ _ _ (by omega) (by omega) (by omega) _) rfl (fun v5 w5 x5 A5 => ?_)
   replace hE := Ext.tr hE x5
   have zw5 := x5.size
   subst A5
   refine RS.norm (by dsimp only [List.set]) ?_
   refine RS.wantB 9 rfl rfl rfl ?_
   refine RS.o (D.eq rfl rfl) ?_
   refine RS.pick (v := .bool _) rfl rfl ?_
   refine RS.assign (v := .bool _) rfl ?_
   refine RS.nil ?_
   refine hK2 _ _ ?_
   try clear hK2
   refine wp_ret ?_
   refine ret (rs := [.tmp 2]) (vs := [.bool _]) (v := (.bool _)) rfl ⟨rfl, trivial⟩ rfl ?_
   refine ⟨_, rfl, hE, congrArg Value.bool ?_⟩
   first | exact (S.isG_true (by omega) (by omega)).symm | exact (S.isG_lo (by omega)).symm | exact (S.isG_hi (by omega)).symm
  ·refine RS.norm (by dsimp only [List.set]) ?_
   refine RS.skipB (b := false) 9 rfl rfl rfl rfl ?_
   refine RS.norm (by dsimp only [putL, List.set]) ?_
   refine RS.skipB (b := false) 9 rfl rfl rfl rfl ?_
   refine RS.norm (by dsimp only [putL, List.set]) ?_
   refine RS.skipB (b := false) 9 rfl rfl rfl rfl ?_
   refine RS.norm (by dsimp only [putL, List.set]) ?_
   refine RS.skipB (b := false) 9 rfl rfl rfl rfl ?_
   refine RS.norm (by dsimp only [putL, List.set]) ?_
   refine RS.pick (v := .bool false) rfl rfl ?_
   refine RS.assign (v := .bool _) rfl ?_
   refine RS.nil ?_
   refine hK2 _ _ ?_
   try clear hK2
   refine wp_ret ?_
   refine ret (rs := [.tmp 2]) (vs := [.bool _]) (v := (.bool _)) rfl ⟨rfl, trivial⟩ rfl ?_
   refine ⟨_, rfl, hE, congrArg Value.bool ?_⟩
   first | exact (S.isG_true (by omega) (by omega)).symm | exact (S.isG_lo (by omega)).symm | exact (S.isG_hi (by omega)).symm
 ·refine RS.norm (by dsimp only [List.set]) ?_
  refine RS.skipB (b := false) 5 rfl rfl rfl rfl ?_
  refine RS.norm (by dsimp only [putL, List.set]) ?_
  refine RS.skipB (b := false) 5 rfl rfl rfl rfl ?_
  refine RS.norm (by dsimp only [putL, List.set]) ?_
  refine RS.pick (v := .bool false) rfl rfl ?_
  refine RS.move (v := .bool _) rfl ?_
  refine RS.skipB (b := false) 9 rfl rfl rfl rfl ?_
  refine RS.norm (by dsimp only [putL, List.set]) ?_
  refine RS.skipB (b := false) 9 rfl rfl rfl rfl ?_
  refine RS.norm (by dsimp only [putL, List.set]) ?_
  refine RS.skipB (b := false) 9 rfl rfl rfl rfl ?_
  refine RS.norm (by dsimp only [putL, List.set]) ?_
  refine RS.skipB (b := false) 9 rfl rfl rfl rfl ?_
  refine RS.norm (by dsimp only [putL, List.set]) ?_
  refine RS.pick (v := .bool false) rfl rfl ?_
  refine RS.assign (v := .bool _) rfl ?_
  refine RS.nil ?_
  refine hK2 _ _ ?_
  try clear hK2
  refine wp_ret ?_
  refine ret (rs := [.tmp 2]) (vs := [.bool _]) (v := (.bool _)) rfl ⟨rfl, trivial⟩ rfl ?_
  refine ⟨_, rfl, hE, congrArg Value.bool ?_⟩
  first | exact (S.isG_true (by omega) (by omega)).symm | exact (S.isG_lo (by omega)).symm | exact (S.isG_hi (by omega)).symm
theorem ref_Exponent (a : Int) (ha : 0 ≤ a ∧ a < 4294967296) (w : World) :
  Calls Tryz.prog 70 #[.int .u32 a] w (Ret w fun v _ => v = .bool (decide (a < 500000003))) := by
 have hE := Ext.refl w
 refine enter (args := [.int .u32 a]) (l := [.int .u32 a, undef, undef, undef, undef, undef]) Tryz.func70 rfl rfl ?_
 refine wp_seq_k (fun K1 hK1 => ?_)
 refine region ?_
 refine RS.assign (v := .bool false) rfl ?_
 refine RS.nil ?_
 refine hK1 _ _ ?_
 try clear hK1
 refine wp_seq_k (fun K2 hK2 => ?_)
 refine region ?_
 refine RS.move (v := .int _ _) rfl ?_
 refine RS.o (D.conv rfl Tryz.underlying23 Tryz.underlying25 (W.u64 (by omega))) ?_
 refine RS.o (D.lt rfl rfl) ?_
 refine RS.assign (v := .bool _) rfl ?_
 refine RS.nil ?_
 refine hK2 _ _ ?_
 try clear hK2
 refine wp_ret ?_
 refine ret (rs := [.tmp 2]) (vs := [.bool _]) (v := (.bool _)) rfl ⟨rfl, trivial⟩ rfl ?_
 exact ⟨_, rfl, hE, rfl⟩
theorem group_all {S0 : Nat → Prop} (a : Option Addr) (n c : Nat) (xs : List Int) (w : World) (R0 : IRow .u32 S0 w a n xs) (hn : n ≤ 1000) :
  Calls Tryz.prog 140 #[.slice a n c] w (Ret w fun v _ => v = .bool (S.allG xs)) := by
 have hE := Ext.refl w
 refine enter (args := [.slice a n c]) (l := [.slice a n c, undef, undef, undef, undef, undef, undef, undef, undef, undef, undef, undef, undef, undef, undef]) Tryz.func140 rfl rfl ?_
 refine wp_seq_k (fun K1 hK1 => ?_)
 refine region ?_
 refine RS.assign (v := .bool false) rfl ?_
 refine RS.nil ?_
 refine hK1 _ _ ?_
 try clear hK1
 refine wp_seq_k (fun K2 hK2 => ?_)
 refine wp_seq_k (fun K3 hK3 => ?_)
 refine region ?_
 refine RS.move (v := .slice _ _ _) rfl ?_
 refine RS.o (D.len rfl Tryz.underlying185) ?_
 refine RS.move (v := .int .i64 0) rfl ?_
 refine RS.nil ?_
 refine hK3 _ _ ?_
 try clear hK3
 refine wp_block ?_
 refine C.loop (A := Int) (fun p => [(7, .int .i64 p)]) [2, 4, 8, 9, 10, 11, 12, 13, 14] (fun p w' => Ext w w' ∧ ((0 ≤ p ∧ p ≤ n) ∧ S.allG (xs.take p.toNat) = true)) (fun p => (n - p.toNat)) 0 (by kernel_rfl) ?_ ?_
 ·exact ⟨Ext.refl _, ⟨by decide, by omega⟩, rfl⟩
 ·rintro p j w4 ⟨x4, hI⟩
  replace hE := Ext.tr hE x4
  replace R0 := R0.ext x4
  have zw4 := x4.size
  obtain ⟨h1, h2⟩ := hI
  have hl := R0.len
  refine C.norm (by simp only [upd, junk, List.map_cons, List.map_nil, List.set_cons_succ, List.set_cons_zero]; exact rfl) ?_
  refine wp_seq_k (fun K5 hK5 => ?_)
  refine region ?_
  refine RS.o (D.lt rfl rfl) ?_
  refine RS.nil ?_
  refine hK5 _ _ ?_
  try clear hK5
  refine wp_seq_k (fun K6 hK6 => ?_)
  refine C.ifd rfl (fun c7 => ?_) (fun c7 => ?_)
  ·refine wp_skip ?_
   refine hK6 _ _ ?_
   try clear hK6
   refine wp_seq_k (fun K8 hK8 => ?_)
   refine wp_block ?_
   refine wp_seq_k (fun K9 hK9 => ?_)
   refine region ?_
   refine RS.idx R0 rfl rfl Tryz.underlying185 C23 (by omega) (fun b10 o10 v10 h10 q10 r10 => ?_)
   refine RS.norm (by dsimp only [List.set]) ?_
   simp only [lim] at r10
   refine RS.o (D.load rfl Tryz.underlying23 rfl (h10)) ?_
   refine RS.assign (v := .int _ _) rfl ?_
   refine RS.nil ?_
   refine hK9 _ _ ?_
   try clear hK9
   refine wp_seq_k (fun K11 hK11 => ?_)
   refine region ?_
   refine RS.move (v := .int _ _) rfl ?_
   refine RS.call E82 (group_Is _ (by omega) _) rfl (fun v12 w12 x12 A12 => ?_)
   replace hE := Ext.tr hE x12
   replace x4 := Ext.tr x4 x12
   replace R0 := R0.ext x12
   have zw12 := x12.size
   subst A12
   refine RS.norm (by dsimp only [List.set]) ?_
   refine RS.o (D.not rfl) ?_
   refine RS.nil ?_
   refine hK11 _ _ ?_
   try clear hK11
   refine C.ifnot rfl (fun c13 => ?_) (fun c13 => ?_)
   ·refine wp_seq_k (fun K14 hK14 => ?_)
    refine region ?_
    refine RS.assign (v := .bool false) rfl ?_
    refine RS.nil ?_
    refine hK14 _ _ ?_
    try clear hK14
    refine wp_ret ?_
    refine ret (rs := [.tmp 2]) (vs := [.bool _]) (v := (.bool _)) rfl ⟨rfl, trivial⟩ rfl ?_
    refine ⟨_, rfl, hE, congrArg Value.bool ?_⟩
    exact (S.allG_false xs p.toNat (by omega) (by rw [← q10]; assumption)).symm
   ·refine wp_skip ?_
    refine hK8 _ _ ?_
    try clear hK8
    refine region ?_
    refine RS.o (D.add rfl rfl (W.i64 (by omega))) ?_
    refine RS.move (v := .int _ _) rfl ?_
    refine RS.nil ?_
    change Nx _ _ _ _ _ _ _ _
    refine C.next _ ⟨rfl, trivial⟩ (by kernel_rfl) ?_ ?_
    ·refine ⟨x4, ⟨by omega, by omega⟩, ?_⟩
     rw [show (p + 1).toNat = p.toNat + 1 by omega, S.allG_take xs _ (by omega) h2, ← q10]
     assumption
    ·omega
  ·refine wp_exit ?_
   refine hK2 _ _ ?_
   try clear hK2
   refine wp_seq_k (fun K15 hK15 => ?_)
   refine region ?_
   refine RS.assign (v := .bool true) rfl ?_
   refine RS.nil ?_
   refine hK15 _ _ ?_
   try clear hK15
   refine wp_ret ?_
   refine ret (rs := [.tmp 2]) (vs := [.bool _]) (v := (.bool _)) rfl ⟨rfl, trivial⟩ rfl ?_
   refine ⟨_, rfl, hE, congrArg Value.bool ?_⟩
   rw [show p.toNat = xs.length by omega, List.take_length] at h2
   exact h2.symm
theorem group_Base (n : Int) (hn : 0 ≤ n ∧ n < 18446744073709551616) (w : World) :
  Calls Tryz.prog 89 #[.int .u64 n] w (Ret w fun v _ => v = .int .u32 (S.pw 4 n 1000000007)) := by
 have hE := Ext.refl w
 refine enter (args := [.int .u64 n]) (l := [.int .u64 n, undef, undef, undef, undef]) Tryz.func89 rfl rfl ?_
 refine wp_seq_k (fun K1 hK1 => ?_)
 refine region ?_
 refine RS.assign (v := .int .u32 0) rfl ?_
 refine RS.nil ?_
 refine hK1 _ _ ?_
 try clear hK1
 refine wp_seq_k (fun K2 hK2 => ?_)
 refine region ?_
 refine RS.move (v := .int _ _) rfl ?_
 refine RS.call E131 (group_pow _ _ (by omega) (by omega) _) rfl (fun v3 w3 x3 A3 => ?_)
 replace hE := Ext.tr hE x3
 have zw3 := x3.size
 subst A3
 refine RS.norm (by dsimp only [List.set]) ?_
 refine RS.assign (v := .int _ _) rfl ?_
 refine RS.nil ?_
 refine hK2 _ _ ?_
 try clear hK2
 refine wp_ret ?_
 refine ret (rs := [.tmp 2]) (vs := [.int _ _]) (v := (.int _ _)) rfl ⟨rfl, trivial⟩ rfl ?_
 exact ⟨_, rfl, hE, rfl⟩
theorem group_Pow (a : Int) (ha : 0 ≤ a ∧ a < 4294967296) (n : Int) (hn : 0 ≤ n ∧ n < 18446744073709551616) (w : World) :
  Calls Tryz.prog 105 #[.int .u32 a, .int .u64 n] w (Ret w fun v _ => v = .tuple #[.int .u32 (if S.isG a then S.pw a n 1000000007 else 0), .int .i64 (if S.isG a then 0 else 2)]) := by
 have hE := Ext.refl w
 refine enter (args := [.int .u32 a, .int .u64 n]) (l := [.int .u32 a, .int .u64 n, undef, undef, undef, undef, undef, undef, undef, undef, undef, undef, undef]) Tryz.func105 rfl rfl ?_
 refine wp_seq_k (fun K1 hK1 => ?_)
 refine region ?_
 refine RS.assign (v := .int .u32 0) rfl ?_
 refine RS.assign (v := .int .i64 0) rfl ?_
 refine RS.nil ?_
 refine hK1 _ _ ?_
 try clear hK1
 refine wp_seq_k (fun K2 hK2 => ?_)
 refine wp_seq_k (fun K3 hK3 => ?_)
 refine region ?_
 refine RS.move (v := .int _ _) rfl ?_
 refine RS.buildSlice (xs := [.tmp 6]) (vs := [.int _ _]) (cs := [.int _ _]) Tryz.underlying185 T23 (by decide) rfl rfl rfl rfl rfl rfl (by intro v hv; simp only [List.mem_cons, List.not_mem_nil, or_false] at hv; subst hv; rfl) rfl (fun b4 w4 e4 s4 x4 B4 => ?_)
 refine RS.norm (by dsimp only [List.set]) ?_
 replace hE := Ext.tr hE x4
 have zw4 := x4.size
 refine RS.call E140 (group_all (S0 := fun b => b = b4) _ 1 _ [a] _ (.of_blk B4 rfl rfl rfl (.cons (k := .u32) (by simp only [lim]; omega) (.nil _))) (by omega)) rfl (fun v5 w5 x5 A5 => ?_)
 replace hE := Ext.tr hE x5
 replace B4 := B4.ext x5
 have zw5 := x5.size
 subst A5
 rw [S.allG_one]
 refine RS.norm (by dsimp only [List.set]) ?_
 refine RS.o (D.not rfl) ?_
 refine RS.nil ?_
 refine hK3 _ _ ?_
 try clear hK3
 refine C.ifnot rfl (fun c6 => ?_) (fun c6 => ?_)
 ·refine wp_seq_k (fun K7 hK7 => ?_)
  refine region ?_
  refine RS.assign (v := .int .u32 0) rfl ?_
  refine RS.assign (v := .int .i64 2) rfl ?_
  refine RS.nil ?_
  refine hK7 _ _ ?_
  try clear hK7
  refine wp_ret ?_
  refine ret (rs := [.tmp 4, .tmp 5]) (vs := [.int _ _, .int _ _]) (v := (.tuple #[.int _ _, .int _ _])) rfl ⟨rfl, rfl, trivial⟩ rfl ?_
  refine ⟨_, rfl, hE, ?_⟩
  simp [*]
 ·refine wp_skip ?_
  refine hK2 _ _ ?_
  try clear hK2
  refine wp_seq_k (fun K8 hK8 => ?_)
  refine region ?_
  refine RS.move (v := .int _ _) rfl ?_
  refine RS.move (v := .int _ _) rfl ?_
  refine RS.call E131 (group_pow _ _ (by omega) (by omega) _) rfl (fun v9 w9 x9 A9 => ?_)
  replace hE := Ext.tr hE x9
  replace B4 := B4.ext x9
  have zw9 := x9.size
  subst A9
  refine RS.norm (by dsimp only [List.set]) ?_
  refine RS.assign (v := .int _ _) rfl ?_
  refine RS.assign (v := .int .i64 0) rfl ?_
  refine RS.nil ?_
  refine hK8 _ _ ?_
  try clear hK8
  refine wp_ret ?_
  refine ret (rs := [.tmp 4, .tmp 5]) (vs := [.int _ _, .int _ _]) (v := (.tuple #[.int _ _, .int _ _])) rfl ⟨rfl, rfl, trivial⟩ rfl ?_
  refine ⟨_, rfl, hE, ?_⟩
  simp [*]
theorem group_Mul (a : Int) (ha : 0 ≤ a ∧ a < 4294967296) (b : Int) (hb : 0 ≤ b ∧ b < 4294967296) (w : World) :
  Calls Tryz.prog 106 #[.int .u32 a, .int .u32 b] w (Ret w fun v _ => v = .tuple #[.int .u32 (if S.isG a && S.isG b then a * b % 1000000007 else 0), .int .i64 (if S.isG a && S.isG b then 0 else 2)]) := by
 have hE := Ext.refl w
 refine enter (args := [.int .u32 a, .int .u32 b]) (l := [.int .u32 a, .int .u32 b, undef, undef, undef, undef, undef, undef, undef, undef, undef, undef, undef, undef, undef]) Tryz.func106 rfl rfl ?_
 refine wp_seq_k (fun K1 hK1 => ?_)
 refine region ?_
 refine RS.assign (v := .int .u32 0) rfl ?_
 refine RS.assign (v := .int .i64 0) rfl ?_
 refine RS.nil ?_
 refine hK1 _ _ ?_
 try clear hK1
 refine wp_seq_k (fun K2 hK2 => ?_)
 refine wp_seq_k (fun K3 hK3 => ?_)
 refine region ?_
 refine RS.move (v := .int _ _) rfl ?_
 refine RS.move (v := .int _ _) rfl ?_
 refine RS.buildSlice (xs := [.tmp 6, .tmp 7]) (vs := [.int _ _, .int _ _]) (cs := [.int _ _, .int _ _]) Tryz.underlying185 T23 (by decide) rfl rfl rfl rfl rfl rfl (by intro v hv; simp only [List.mem_cons, List.not_mem_nil, or_false] at hv; rcases hv with rfl | rfl <;> rfl) rfl (fun b4 w4 e4 s4 x4 B4 => ?_)
 refine RS.norm (by dsimp only [List.set]) ?_
 replace hE := Ext.tr hE x4
 have zw4 := x4.size
 refine RS.call E140 (group_all (S0 := fun b => b = b4) _ 2 _ [a, b] _ (.of_blk B4 rfl rfl rfl (.cons (k := .u32) (by simp only [lim]; omega) (.cons (k := .u32) (by simp only [lim]; omega) (.nil _)))) (by omega)) rfl (fun v5 w5 x5 A5 => ?_)
 replace hE := Ext.tr hE x5
 replace B4 := B4.ext x5
 have zw5 := x5.size
 subst A5
 rw [S.allG_two]
 refine RS.norm (by dsimp only [List.set]) ?_
 refine RS.o (D.not rfl) ?_
 refine RS.nil ?_
 refine hK3 _ _ ?_
 try clear hK3
 refine C.ifnot rfl (fun c6 => ?_) (fun c6 => ?_)
 ·refine wp_seq_k (fun K7 hK7 => ?_)
  refine region ?_
  refine RS.assign (v := .int .u32 0) rfl ?_
  refine RS.assign (v := .int .i64 2) rfl ?_
  refine RS.nil ?_
  refine hK7 _ _ ?_
  try clear hK7
  refine wp_ret ?_
  refine ret (rs := [.tmp 4, .tmp 5]) (vs := [.int _ _, .int _ _]) (v := (.tuple #[.int _ _, .int _ _])) rfl ⟨rfl, rfl, trivial⟩ rfl ?_
  refine ⟨_, rfl, hE, ?_⟩
  simp [*]
 ·refine wp_skip ?_
  refine hK2 _ _ ?_
  try clear hK2
  refine wp_seq_k (fun K8 hK8 => ?_)
  refine region ?_
  refine RS.move (v := .int _ _) rfl ?_
  refine RS.move (v := .int _ _) rfl ?_
  refine RS.buildSlice (xs := [.tmp 11, .tmp 12]) (vs := [.int _ _, .int _ _]) (cs := [.int _ _, .int _ _]) Tryz.underlying185 T23 (by decide) rfl rfl rfl rfl rfl rfl (by intro v hv; simp only [List.mem_cons, List.not_mem_nil, or_false] at hv; rcases hv with rfl | rfl <;> rfl) rfl (fun b9 w9 e9 s9 x9 B9 => ?_)
  refine RS.norm (by dsimp only [List.set]) ?_
  replace hE := Ext.tr hE x9
  replace B4 := B4.ext x9
  have zw9 := x9.size
  refine RS.call E136 (group_mul (S0 := fun b => b = b9) _ _ 2 _ [a, b] (by omega) _ (.of_blk B9 rfl rfl rfl (.cons (k := .u32) (by simp only [lim]; omega) (.cons (k := .u32) (by simp only [lim]; omega) (.nil _)))) (by omega)) rfl (fun v10 w10 x10 A10 => ?_)
  replace hE := Ext.tr hE x10
  replace B4 := B4.ext x10
  replace B9 := B9.ext x10
  have zw10 := x10.size
  subst A10
  rw [S.mulf_two]
  refine RS.norm (by dsimp only [List.set]) ?_
  refine RS.assign (v := .int _ _) rfl ?_
  refine RS.assign (v := .int .i64 0) rfl ?_
  refine RS.nil ?_
  refine hK8 _ _ ?_
  try clear hK8
  refine wp_ret ?_
  refine ret (rs := [.tmp 4, .tmp 5]) (vs := [.int _ _, .int _ _]) (v := (.tuple #[.int _ _, .int _ _])) rfl ⟨rfl, rfl, trivial⟩ rfl ?_
  refine ⟨_, rfl, hE, ?_⟩
  simp [*]
theorem group_Plus (a : Int) (ha : 0 ≤ a ∧ a < 4294967296) (b : Int) (hb : 0 ≤ b ∧ b < 4294967296) (w : World) :
  Calls Tryz.prog 96 #[.int .u32 a, .int .u32 b] w (Ret w fun v _ => v = .tuple #[.int .u32 (if max a b < 500000003 then (a + b) % 500000003 else 0), .int .i64 (if max a b < 500000003 then 0 else 2)]) := by
 have hE := Ext.refl w
 refine enter (args := [.int .u32 a, .int .u32 b]) (l := [.int .u32 a, .int .u32 b, undef, undef, undef, undef, undef, undef, undef, undef, undef, undef, undef, undef]) Tryz.func96 rfl rfl ?_
 refine wp_seq_k (fun K1 hK1 => ?_)
 refine region ?_
 refine RS.assign (v := .int .u32 0) rfl ?_
 refine RS.assign (v := .int .i64 0) rfl ?_
 refine RS.nil ?_
 refine hK1 _ _ ?_
 try clear hK1
 refine wp_seq_k (fun K2 hK2 => ?_)
 refine wp_seq_k (fun K3 hK3 => ?_)
 refine region ?_
 refine RS.move (v := .int _ _) rfl ?_
 refine RS.move (v := .int _ _) rfl ?_
 refine RS.o (D.max2 rfl rfl) ?_
 refine RS.o (D.ge rfl rfl) ?_
 refine RS.nil ?_
 refine hK3 _ _ ?_
 try clear hK3
 refine C.ifd rfl (fun c4 => ?_) (fun c4 => ?_)
 ·refine wp_seq_k (fun K5 hK5 => ?_)
  refine region ?_
  refine RS.assign (v := .int .u32 0) rfl ?_
  refine RS.assign (v := .int .i64 2) rfl ?_
  refine RS.nil ?_
  refine hK5 _ _ ?_
  try clear hK5
  refine wp_ret ?_
  refine ret (rs := [.tmp 4, .tmp 5]) (vs := [.int _ _, .int _ _]) (v := (.tuple #[.int _ _, .int _ _])) rfl ⟨rfl, rfl, trivial⟩ rfl ?_
  refine ⟨_, rfl, hE, ?_⟩
  first | rw [if_pos (by omega), if_pos (by omega)] | rw [if_neg (by omega), if_neg (by omega)]
 ·refine wp_skip ?_
  refine hK2 _ _ ?_
  try clear hK2
  refine wp_seq_k (fun K6 hK6 => ?_)
  refine region ?_
  refine RS.move (v := .int _ _) rfl ?_
  refine RS.move (v := .int _ _) rfl ?_
  refine RS.o (D.add rfl rfl (W.u32 (by omega))) ?_
  refine RS.o (D.rem rfl rfl (by omega) (by omega)) ?_
  refine RS.assign (v := .int _ _) rfl ?_
  refine RS.assign (v := .int .i64 0) rfl ?_
  refine RS.nil ?_
  refine hK6 _ _ ?_
  try clear hK6
  refine wp_ret ?_
  refine ret (rs := [.tmp 4, .tmp 5]) (vs := [.int _ _, .int _ _]) (v := (.tuple #[.int _ _, .int _ _])) rfl ⟨rfl, rfl, trivial⟩ rfl ?_
  refine ⟨_, rfl, hE, ?_⟩
  first | rw [if_pos (by omega), if_pos (by omega)] | rw [if_neg (by omega), if_neg (by omega)]
theorem group_Times (a : Int) (ha : 0 ≤ a ∧ a < 4294967296) (b : Int) (hb : 0 ≤ b ∧ b < 4294967296) (w : World) :
  Calls Tryz.prog 95 #[.int .u32 a, .int .u32 b] w (Ret w fun v _ => v = .tuple #[.int .u32 (if max a b < 500000003 then a * b % 500000003 else 0), .int .i64 (if max a b < 500000003 then 0 else 2)]) := by
 have hE := Ext.refl w
 refine enter (args := [.int .u32 a, .int .u32 b]) (l := [.int .u32 a, .int .u32 b, undef, undef, undef, undef, undef, undef, undef, undef, undef, undef, undef, undef]) Tryz.func95 rfl rfl ?_
 refine wp_seq_k (fun K1 hK1 => ?_)
 refine region ?_
 refine RS.assign (v := .int .u32 0) rfl ?_
 refine RS.assign (v := .int .i64 0) rfl ?_
 refine RS.nil ?_
 refine hK1 _ _ ?_
 try clear hK1
 refine wp_seq_k (fun K2 hK2 => ?_)
 refine wp_seq_k (fun K3 hK3 => ?_)
 refine region ?_
 refine RS.move (v := .int _ _) rfl ?_
 refine RS.move (v := .int _ _) rfl ?_
 refine RS.o (D.max2 rfl rfl) ?_
 refine RS.o (D.ge rfl rfl) ?_
 refine RS.nil ?_
 refine hK3 _ _ ?_
 try clear hK3
 refine C.ifd rfl (fun c4 => ?_) (fun c4 => ?_)
 ·refine wp_seq_k (fun K5 hK5 => ?_)
  refine region ?_
  refine RS.assign (v := .int .u32 0) rfl ?_
  refine RS.assign (v := .int .i64 2) rfl ?_
  refine RS.nil ?_
  refine hK5 _ _ ?_
  try clear hK5
  refine wp_ret ?_
  refine ret (rs := [.tmp 4, .tmp 5]) (vs := [.int _ _, .int _ _]) (v := (.tuple #[.int _ _, .int _ _])) rfl ⟨rfl, rfl, trivial⟩ rfl ?_
  refine ⟨_, rfl, hE, ?_⟩
  first | rw [if_pos (by omega), if_pos (by omega)] | rw [if_neg (by omega), if_neg (by omega)]
 ·refine wp_skip ?_
  refine hK2 _ _ ?_
  try clear hK2
  refine wp_seq_k (fun K6 hK6 => ?_)
  refine region ?_
  refine RS.move (v := .int _ _) rfl ?_
  refine RS.move (v := .int _ _) rfl ?_
  refine RS.buildSlice (xs := [.tmp 10, .tmp 11]) (vs := [.int _ _, .int _ _]) (cs := [.int _ _, .int _ _]) Tryz.underlying185 T23 (by decide) rfl rfl rfl rfl rfl rfl (by intro v hv; simp only [List.mem_cons, List.not_mem_nil, or_false] at hv; rcases hv with rfl | rfl <;> rfl) rfl (fun b7 w7 e7 s7 x7 B7 => ?_)
  refine RS.norm (by dsimp only [List.set]) ?_
  replace hE := Ext.tr hE x7
  have zw7 := x7.size
  refine RS.call E136 (group_mul (S0 := fun b => b = b7) _ _ 2 _ [a, b] (by omega) _ (.of_blk B7 rfl rfl rfl (.cons (k := .u32) (by simp only [lim]; omega) (.cons (k := .u32) (by simp only [lim]; omega) (.nil _)))) (by omega)) rfl (fun v8 w8 x8 A8 => ?_)
  replace hE := Ext.tr hE x8
  replace B7 := B7.ext x8
  have zw8 := x8.size
  subst A8
  rw [S.mulf_two]
  refine RS.norm (by dsimp only [List.set]) ?_
  refine RS.assign (v := .int _ _) rfl ?_
  refine RS.assign (v := .int .i64 0) rfl ?_
  refine RS.nil ?_
  refine hK6 _ _ ?_
  try clear hK6
  refine wp_ret ?_
  refine ret (rs := [.tmp 4, .tmp 5]) (vs := [.int _ _, .int _ _]) (v := (.tuple #[.int _ _, .int _ _])) rfl ⟨rfl, rfl, trivial⟩ rfl ?_
  refine ⟨_, rfl, hE, ?_⟩
  first | rw [if_pos (by omega), if_pos (by omega)] | rw [if_neg (by omega), if_neg (by omega)]
end Go.Proofs.YtiohpiiiapjblaaGreatDoor.W
namespace Go.Proofs.YtiohpiiiapjblaaGreatDoor.W
open Go.RowKit Go.Proofs.YtiohpiiiapjblaaGreatDoor.G
set_option linter.unusedVariables false
set_option maxRecDepth 20000
set_option maxHeartbeats 8000000
attribute [local irreducible] RS RX
theorem C5 : Tryz.prog.cellsOf 5 = 1 := by kernel_rfl
theorem C186 : Tryz.prog.cellsOf 186 = 64 := by kernel_rfl
theorem T186 : TI Tryz.prog 186 64 256 (ints .u32 (List.replicate 64 0)) := by
 have h : (Tryz.prog.info? 186).map (fun i => (i.size, i.bytes, i.zero)) = some (64, 256, some (.agg #[.int .u32 0, .int .u32 0, .int .u32 0, .int .u32 0, .int .u32 0, .int .u32 0, .int .u32 0, .int .u32 0, .int .u32 0, .int .u32 0, .int .u32 0, .int .u32 0, .int .u32 0, .int .u32 0, .int .u32 0, .int .u32 0, .int .u32 0, .int .u32 0, .int .u32 0, .int .u32 0, .int .u32 0, .int .u32 0, .int .u32 0, .int .u32 0, .int .u32 0, .int .u32 0, .int .u32 0, .int .u32 0, .int .u32 0, .int .u32 0, .int .u32 0, .int .u32 0, .int .u32 0, .int .u32 0, .int .u32 0, .int .u32 0, .int .u32 0, .int .u32 0, .int .u32 0, .int .u32 0, .int .u32 0, .int .u32 0, .int .u32 0, .int .u32 0, .int .u32 0, .int .u32 0, .int .u32 0, .int .u32 0, .int .u32 0, .int .u32 0, .int .u32 0, .int .u32 0, .int .u32 0, .int .u32 0, .int .u32 0, .int .u32 0, .int .u32 0, .int .u32 0, .int .u32 0, .int .u32 0, .int .u32 0, .int .u32 0, .int .u32 0, .int .u32 0])) := by kernel_rfl
 exact TI.of h rfl
theorem E161 : Enters Tryz.prog 161 := .mk Tryz.func161 (by kernel_rfl) rfl
theorem rotl (x : Int) (hx : 0 ≤ x ∧ x < 4294967296) (n : Int) (hn : 0 < n ∧ n < 32) (m : Int) (hm : m = -n) (w : World) :
  Calls Tryz.prog 161 #[.int .u32 x, .int .i64 m] w (Ret w fun v _ => v = .int .u32 (S.rotr x n)) := by
 have hE := Ext.refl w
 refine enter (args := [.int .u32 x, .int .i64 m]) (l := [.int .u32 x, .int .i64 m, undef, undef, undef, undef, undef, undef, undef, undef, undef, undef, undef, undef, undef, undef, undef]) Tryz.func161 rfl rfl ?_
 refine wp_seq_k (fun K1 hK1 => ?_)
 refine region ?_
 refine RS.assign (v := .int .u32 0) rfl ?_
 refine RS.nil ?_
 refine hK1 _ _ ?_
 try clear hK1
 refine wp_seq_k (fun K2 hK2 => ?_)
 refine region ?_
 refine RS.move (v := .int _ _) rfl ?_
 refine RS.o (D.conv rfl Tryz.underlying3 Tryz.underlying122 (by first | exact W.u64 (by omega) | exact W.u64m _)) ?_
 refine RS.ob (D.band_u64 rfl rfl (by omega) (by omega)) (fun z3 => ?_)
 refine RS.assign (v := .int _ _) rfl ?_
 refine RS.nil ?_
 refine hK2 _ _ ?_
 try clear hK2
 refine wp_seq_k (fun K4 hK4 => ?_)
 rw [hm, S.rot_amt n hn]
 have g1 := S.rotr_bd x n hx
 refine region ?_
 refine RS.move (v := .int _ _) rfl ?_
 refine RS.move (v := .int _ _) rfl ?_
 refine RS.o (D.shl rfl rfl (by constructor <;> (try simp only [IntKind.bits]) <;> omega) (W.u32m _)) ?_
 refine RS.move (v := .int _ _) rfl ?_
 refine RS.move (v := .int _ _) rfl ?_
 refine RS.o (D.sub rfl rfl (by first | exact W.u64 (by omega) | exact W.u64m _)) ?_
 refine RS.ob (D.shr_u32 rfl rfl (by omega) (by constructor <;> omega)) (fun z5 => ?_)
 refine RS.ob (D.bor_u32 rfl rfl (by omega) (by omega)) (fun z6 => ?_)
 refine RS.assign (v := .int _ _) rfl ?_
 refine RS.nil ?_
 refine hK4 _ _ ?_
 try clear hK4
 refine wp_ret ?_
 refine ret (rs := [.tmp 4]) (vs := [.int _ _]) (v := (.int _ _)) rfl ⟨rfl, trivial⟩ rfl ?_
 refine ⟨_, rfl, hE, congrArg (Value.int .u32) (S.rotr_eq x n hn)⟩
theorem mix (x : Int) (hx : 0 ≤ x ∧ x < 4294967296) (i : Int) (hi : 0 < i ∧ i < 32) (j : Int) (hj : 0 < j ∧ j < 32) (k : Int) (hk : 0 < k ∧ k < 32) (w : World) :
  Calls Tryz.prog 155 #[.int .u32 x, .int .i64 i, .int .i64 j, .int .i64 k] w (Ret w fun v _ => v = .int .u32 (S.mix x i j k)) := by
 have g1 := S.rotr_bd x i hx
 have g2 := S.rotr_bd x j hx
 have g3 := S.rotr_bd x k hx
 have hE := Ext.refl w
 refine enter (args := [.int .u32 x, .int .i64 i, .int .i64 j, .int .i64 k]) (l := [.int .u32 x, .int .i64 i, .int .i64 j, .int .i64 k, undef, undef, undef, undef, undef, undef, undef, undef, undef, undef, undef, undef, undef, undef, undef, undef, undef, undef, undef]) Tryz.func155 rfl rfl ?_
 refine wp_seq_k (fun K1 hK1 => ?_)
 refine region ?_
 refine RS.assign (v := .int .u32 0) rfl ?_
 refine RS.nil ?_
 refine hK1 _ _ ?_
 try clear hK1
 refine wp_seq_k (fun K2 hK2 => ?_)
 refine region ?_
 refine RS.move (v := .int _ _) rfl ?_
 refine RS.move (v := .int _ _) rfl ?_
 refine RS.o (D.neg rfl (W.i64 (by omega))) ?_
 refine RS.call E161 (rotl _ (by omega) i (by omega) _ (by omega) _) rfl (fun v3 w3 x3 A3 => ?_)
 replace hE := Ext.tr hE x3
 have zw3 := x3.size
 subst A3
 refine RS.norm (by dsimp only [List.set]) ?_
 refine RS.move (v := .int _ _) rfl ?_
 refine RS.move (v := .int _ _) rfl ?_
 refine RS.o (D.neg rfl (W.i64 (by omega))) ?_
 refine RS.call E161 (rotl _ (by omega) j (by omega) _ (by omega) _) rfl (fun v4 w4 x4 A4 => ?_)
 replace hE := Ext.tr hE x4
 have zw4 := x4.size
 subst A4
 refine RS.norm (by dsimp only [List.set]) ?_
 refine RS.ob (D.bxor_u32 rfl rfl (by omega) (by omega)) (fun z5 => ?_)
 refine RS.move (v := .int _ _) rfl ?_
 refine RS.move (v := .int _ _) rfl ?_
 refine RS.o (D.neg rfl (W.i64 (by omega))) ?_
 refine RS.call E161 (rotl _ (by omega) k (by omega) _ (by omega) _) rfl (fun v6 w6 x6 A6 => ?_)
 replace hE := Ext.tr hE x6
 have zw6 := x6.size
 subst A6
 refine RS.norm (by dsimp only [List.set]) ?_
 refine RS.ob (D.bxor_u32 rfl rfl (by omega) (by omega)) (fun z7 => ?_)
 refine RS.assign (v := .int _ _) rfl ?_
 refine RS.nil ?_
 refine hK2 _ _ ?_
 try clear hK2
 refine wp_ret ?_
 refine ret (rs := [.tmp 8]) (vs := [.int _ _]) (v := (.int _ _)) rfl ⟨rfl, trivial⟩ rfl ?_
 exact ⟨_, rfl, hE, rfl⟩
theorem schedule {S0 : Nat → Prop} (a : Option Addr) (n c : Nat) (b : List Int) (w : World) (R0 : IRow .u8 S0 w a n b) (hn : 64 ≤ n) (hc : n ≤ c) :
  Calls Tryz.prog 154 #[.slice a n c] w (Ret w fun v _ => v = .agg (ints .u32 (S.sch b 48)).toArray) := by
 replace R0 := R0.weaken (T := fun k => k < w.heap.size) (fun k hk _ => hk)
 have hbl := R0.len
 have hbd := R0.bd
 have R1 := R0.sub 0 64 c (by omega) (by omega) (by omega)
 have hE := Ext.refl w
 refine enter (args := [.slice a n c]) (l := [.slice a n c, undef, undef, undef, undef, undef, undef, undef, undef, undef, undef, undef, undef, undef, undef, undef, undef, undef, undef, undef, undef, undef, undef, undef, undef, undef, undef, undef, undef, undef, undef, undef, undef, undef, undef, undef, undef, undef, undef, undef, undef, undef, undef, undef, undef, undef, undef, undef, undef, undef, undef, undef, undef, undef, undef, undef, undef, undef, undef, undef, undef, undef, undef, undef, undef, undef, undef, undef, undef, undef, undef, undef, undef, undef]) Tryz.func154 rfl rfl ?_
 refine wp_seq_k (fun K1 hK1 => ?_)
 refine region ?_
 refine RS.alloc T186 (fun b2 w2 e2 s2 x2 B2 => ?_)
 refine RS.norm (by dsimp only [List.set]) ?_
 replace hE := Ext.tr hE x2
 replace R1 := R1.ext x2
 have zw2 := x2.size
 have A2 : IArr .u32 w2 b2 64 (List.replicate 64 0) [] 186 := IArr.zero B2
 clear B2
 refine RS.nil ?_
 refine hK1 _ _ ?_
 try clear hK1
 refine wp_seq_k (fun K3 hK3 => ?_)
 refine wp_seq_k (fun K4 hK4 => ?_)
 refine region ?_
 refine RS.move (v := .slice _ _ _) rfl ?_
 refine RS.o (D.slice (kl := .i64) (kh := .i64) rfl Tryz.underlying22 C5 (by decide) rfl rfl (by omega) (by omega)) ?_
 refine RS.o (D.len rfl Tryz.underlying22) ?_
 refine RS.move (v := .int .i64 0) rfl ?_
 refine RS.nil ?_
 refine hK4 _ _ ?_
 try clear hK4
 refine wp_block ?_
 refine C.loop (A := Int × List Int) (fun p => [(13, .int .i64 p.1)]) [3, 4, 14, 15, 16, 17, 18, 19, 20, 21, 22, 23, 24, 25, 26, 27, 28, 29] (fun p w' => Pr (fun k => k = b2) w2 w' ∧ (IArr .u32 w' b2 64 p.2 [] 186 ∧ (0 ≤ p.1 ∧ p.1 ≤ 64) ∧ S.PW b p.1.toNat p.2)) (fun p => (64 - p.1.toNat)) (0, List.replicate 64 0) (by kernel_rfl) ?_ ?_
 ·exact ⟨Pr.refl _ _, A2, by decide, S.PW_zero b⟩
 ·rintro p j w5 ⟨x5, hI⟩
  replace hE := hE.trans (x5.below (by intros; try (first | (intro _ _) | (intro _) | skip); first | omega | (dsimp only at *; omega) | (simp_all; done) | (simp at *; omega)) (by intros; try (first | (intro _ _) | (intro _) | skip); first | omega | (dsimp only at *; omega) | (simp_all; done) | (simp at *; omega)))
  replace R1 := R1.pr x5 (by intros; try (first | (intro _ _) | (intro _) | skip); first | omega | (dsimp only at *; omega) | (simp_all; done) | (simp at *; omega))
  have zw5 := x5.size
  obtain ⟨i, U⟩ := p
  dsimp only at hI
  obtain ⟨A2, h1, h2⟩ := hI
  have hWl := A2.len
  have hlt := A2.lt
  refine C.norm (by simp only [upd, junk, List.map_cons, List.map_nil, List.set_cons_succ, List.set_cons_zero]; exact rfl) ?_
  refine wp_seq_k (fun K6 hK6 => ?_)
  refine region ?_
  refine RS.o (D.lt rfl rfl) ?_
  refine RS.nil ?_
  refine hK6 _ _ ?_
  try clear hK6
  refine wp_seq_k (fun K7 hK7 => ?_)
  refine C.ifd rfl (fun c8 => ?_) (fun c8 => ?_)
  ·refine wp_skip ?_
   refine hK7 _ _ ?_
   try clear hK7
   refine wp_seq_k (fun K9 hK9 => ?_)
   refine wp_block ?_
   refine wp_seq_k (fun K10 hK10 => ?_)
   refine region ?_
   refine RS.move (v := .int _ _) rfl ?_
   refine RS.idx R1 rfl rfl Tryz.underlying22 C5 (by omega) (fun b11 o11 v11 h11 q11 r11 => ?_)
   refine RS.norm (by dsimp only [List.set]) ?_
   simp only [lim] at r11
   have qa := q11
   refine RS.o (D.load rfl Tryz.underlying5 rfl (h11)) ?_
   refine RS.assign (v := .int _ _) rfl ?_
   refine RS.assign (v := .int _ _) rfl ?_
   refine RS.nil ?_
   refine hK10 _ _ ?_
   try clear hK10
   refine region ?_
   refine RS.move (v := .int _ _) rfl ?_
   refine RS.o (D.quo rfl rfl (by omega) (by omega) (W.i64 (by omega))) ?_
   refine RS.move (v := .int _ _) rfl ?_
   refine RS.o (D.quo rfl rfl (by omega) (by omega) (W.i64 (by omega))) ?_
   refine RS.idxA A2 rfl rfl Tryz.underlying186 C23 (by omega) (fun v12 h12 q12 r12 => ?_)
   refine RS.norm (by dsimp only [List.set]) ?_
   simp only [lim] at r12
   have qb := q12
   refine RS.o (D.load rfl Tryz.underlying23 rfl (h12)) ?_
   refine RS.o (D.shl rfl rfl (by constructor <;> (try simp only [IntKind.bits]) <;> omega) (W.u32m _)) ?_
   refine RS.move (v := .int _ _) rfl ?_
   refine RS.o (D.conv rfl Tryz.underlying5 Tryz.underlying23 (W.u32 (by omega))) ?_
   refine RS.ob (D.bor_u32 rfl rfl (by omega) (by omega)) (fun z13 => ?_)
   refine RS.idxA A2 rfl rfl Tryz.underlying186 C23 (by omega) (fun v14 h14 q14 r14 => ?_)
   refine RS.norm (by dsimp only [List.set]) ?_
   simp only [lim] at r14
   refine RS.storeA A2 rfl rfl C23 (by omega) (by simp only [lim]; omega) (fun w15 y15 N15 => ?_)
   replace hE := hE.trans (y15.below (by intros; try (first | (intro _ _) | (intro _) | skip); first | omega | (dsimp only at *; omega) | (simp_all; done) | (simp at *; omega)))
   replace x5 := x5.stn y15 (by intros; try (first | (intro _ _) | (intro _) | skip); first | omega | (dsimp only at *; omega) | (simp_all; done) | (simp at *; omega))
   replace R1 := R1.st y15 (by intros; try (first | (intro _ _) | (intro _) | skip); first | omega | (dsimp only at *; omega) | (simp_all; done) | (simp at *; omega))
   have zw15 := y15.size
   replace A2 := N15
   refine RS.nil ?_
   refine hK9 _ _ ?_
   try clear hK9
   refine region ?_
   refine RS.o (D.add rfl rfl (W.i64 (by omega))) ?_
   refine RS.move (v := .int _ _) rfl ?_
   refine RS.nil ?_
   change Nx _ _ _ _ _ _ _ _
   refine C.next (i + 1, U.set (i / 4).toNat (ior (v12 * 2 ^ (8 : Int).toNat % 4294967296) v11)) ⟨rfl, trivial⟩ (by kernel_rfl) ?_ ?_
   ·refine ⟨x5, A2, ⟨by dsimp only; omega, by dsimp only; omega⟩, ?_⟩
    dsimp only
    subst qb
    exact S.PW_step b U i _ ⟨h1.1, by omega⟩ hWl (by omega) hbd (qa.trans (S.take64 b i (by omega))) h2
   ·dsimp only; omega
  ·refine wp_exit ?_
   refine hK3 _ _ ?_
   try clear hK3
   refine wp_seq_k (fun K16 hK16 => ?_)
   refine wp_seq_k (fun K17 hK17 => ?_)
   refine region ?_
   refine RS.assign (v := .int .i64 16) rfl ?_
   refine RS.nil ?_
   refine hK17 _ _ ?_
   try clear hK17
   refine wp_block ?_
   refine C.loop (A := Int × List Int) (fun p => [(5, .int .i64 p.1)]) [6, 7, 8, 9, 30, 31, 32, 33, 34, 35, 36, 37, 38, 39, 40, 41, 42, 43, 44, 45, 46, 47, 48, 49, 50, 51, 52, 53, 54, 55, 56, 57, 58, 59, 60, 61, 62, 63, 64, 65, 66, 67, 68, 69, 70, 71, 72] (fun p w' => Pr (fun k => k = b2) w5 w' ∧ (IArr .u32 w' b2 64 p.2 [] 186 ∧ (16 ≤ p.1 ∧ p.1 ≤ 64) ∧ p.2.take p.1.toNat = S.sch b (p.1.toNat - 16))) (fun p => (64 - p.1.toNat)) (16, U) (by kernel_rfl) ?_ ?_
   ·exact ⟨Pr.refl _ _, A2, ⟨by dsimp only; omega, by dsimp only; omega⟩, S.take_words b U (by omega) hWl (by rw [show (64 : Nat) = i.toNat by omega]; exact h2)⟩
   ·rintro p j w18 ⟨x18, hI⟩
    replace hE := hE.trans (x18.below (by intros; try (first | (intro _ _) | (intro _) | skip); first | omega | (dsimp only at *; omega) | (simp_all; done) | (simp at *; omega)) (by intros; try (first | (intro _ _) | (intro _) | skip); first | omega | (dsimp only at *; omega) | (simp_all; done) | (simp at *; omega)))
    replace R1 := R1.pr x18 (by intros; try (first | (intro _ _) | (intro _) | skip); first | omega | (dsimp only at *; omega) | (simp_all; done) | (simp at *; omega))
    have zw18 := x18.size
    obtain ⟨t, V⟩ := p
    dsimp only at hI
    obtain ⟨A2, g1, g2⟩ := hI
    have hVl := A2.len
    have hlt2 := A2.lt
    refine C.norm (by simp only [upd, junk, List.map_cons, List.map_nil, List.set_cons_succ, List.set_cons_zero]; exact rfl) ?_
    refine wp_seq_k (fun K19 hK19 => ?_)
    refine wp_seq_k (fun K20 hK20 => ?_)
    refine region ?_
    refine RS.move (v := .int _ _) rfl ?_
    refine RS.o (D.lt rfl rfl) ?_
    refine RS.nil ?_
    refine hK20 _ _ ?_
    try clear hK20
    refine C.ifd rfl (fun c21 => ?_) (fun c21 => ?_)
    ·refine wp_skip ?_
     refine hK19 _ _ ?_
     try clear hK19
     refine wp_seq_k (fun K22 hK22 => ?_)
     refine wp_block ?_
     refine wp_seq_k (fun K23 hK23 => ?_)
     refine regionX Ext [(0, .q), (1, .q), (2, .q), (3, .q), (4, .q), (5, .q), (6, .q), (7, .q), (8, .q), (9, .q)] mixed Ext.refl (fun h k => h.tr k) (by kernel_rfl) (fun w24 x24 => ?_)
     replace hE := Ext.tr hE x24
     replace x18 := x18.ext x24
     replace R1 := R1.ext x24
     replace A2 := A2.ext x24
     have zw24 := x24.size
     refine RX.move (v := .int _ _) rfl ?_
     refine RX.o (fun w' hw => D.sub rfl rfl (W.i64 (by omega))) ?_
     refine RX.idxA (fun _ h => h) A2 rfl rfl Tryz.underlying186 C23 (by omega) (fun v25 h25 q25 r25 => ?_)
     refine RX.norm (by dsimp only [List.set]) ?_
     simp only [lim] at r25
     have q1 := q25
     refine RX.o (fun w' hw => D.load rfl Tryz.underlying23 rfl (h25 w' hw)) ?_
     refine RX.move (v := .int _ _) rfl ?_
     refine RX.o (fun w' hw => D.sub rfl rfl (W.i64 (by omega))) ?_
     refine RX.idxA (fun _ h => h) A2 rfl rfl Tryz.underlying186 C23 (by omega) (fun v26 h26 q26 r26 => ?_)
     refine RX.norm (by dsimp only [List.set]) ?_
     simp only [lim] at r26
     have q2 := q26
     refine RX.o (fun w' hw => D.load rfl Tryz.underlying23 rfl (h26 w' hw)) ?_
     refine RX.assign (v := .int _ _) rfl ?_
     refine RX.assign (v := .int _ _) rfl ?_
     refine RX.nil ?_
     refine hK23 _ _ ?_
     try clear hK23
     refine wp_seq_k (fun K27 hK27 => ?_)
     refine region ?_
     refine RS.move (v := .int _ _) rfl ?_
     refine RS.call E161 (rotl _ (by omega) 7 (by omega) _ (by omega) _) rfl (fun v28 w28 x28 A28 => ?_)
     replace hE := Ext.tr hE x28
     replace x18 := x18.ext x28
     replace R1 := R1.ext x28
     replace A2 := A2.ext x28
     have zw28 := x28.size
     subst A28
     have g28 := S.rotr_bd v25 7 (by omega)
     refine RS.norm (by dsimp only [List.set]) ?_
     refine RS.move (v := .int _ _) rfl ?_
     refine RS.call E161 (rotl _ (by omega) 18 (by omega) _ (by omega) _) rfl (fun v29 w29 x29 A29 => ?_)
     replace hE := Ext.tr hE x29
     replace x18 := x18.ext x29
     replace R1 := R1.ext x29
     replace A2 := A2.ext x29
     have zw29 := x29.size
     subst A29
     have g29 := S.rotr_bd v25 18 (by omega)
     refine RS.norm (by dsimp only [List.set]) ?_
     refine RS.ob (D.bxor_u32 rfl rfl (by omega) (by omega)) (fun z30 => ?_)
     refine RS.move (v := .int _ _) rfl ?_
     refine RS.ob (D.shr_u32 rfl rfl (by omega) (by constructor <;> omega)) (fun z31 => ?_)
     refine RS.ob (D.bxor_u32 rfl rfl (by omega) (by omega)) (fun z32 => ?_)
     refine RS.assign (v := .int _ _) rfl ?_
     refine RS.nil ?_
     refine hK27 _ _ ?_
     try clear hK27
     refine wp_seq_k (fun K33 hK33 => ?_)
     refine region ?_
     refine RS.move (v := .int _ _) rfl ?_
     refine RS.call E161 (rotl _ (by omega) 17 (by omega) _ (by omega) _) rfl (fun v34 w34 x34 A34 => ?_)
     replace hE := Ext.tr hE x34
     replace x18 := x18.ext x34
     replace R1 := R1.ext x34
     replace A2 := A2.ext x34
     have zw34 := x34.size
     subst A34
     have g34 := S.rotr_bd v26 17 (by omega)
     refine RS.norm (by dsimp only [List.set]) ?_
     refine RS.move (v := .int _ _) rfl ?_
     refine RS.call E161 (rotl _ (by omega) 19 (by omega) _ (by omega) _) rfl (fun v35 w35 x35 A35 => ?_)
     replace hE := Ext.tr hE x35
     replace x18 := x18.ext x35
     replace R1 := R1.ext x35
     replace A2 := A2.ext x35
     have zw35 := x35.size
     subst A35
     have g35 := S.rotr_bd v26 19 (by omega)
     refine RS.norm (by dsimp only [List.set]) ?_
     refine RS.ob (D.bxor_u32 rfl rfl (by omega) (by omega)) (fun z36 => ?_)
     refine RS.move (v := .int _ _) rfl ?_
     refine RS.ob (D.shr_u32 rfl rfl (by omega) (by constructor <;> omega)) (fun z37 => ?_)
     refine RS.ob (D.bxor_u32 rfl rfl (by omega) (by omega)) (fun z38 => ?_)
     refine RS.assign (v := .int _ _) rfl ?_
     refine RS.nil ?_
     refine hK33 _ _ ?_
     try clear hK33
     refine regionX Ext [(0, .q), (1, .q), (2, .q), (3, .q), (4, .q), (5, .q), (6, .q), (7, .q), (8, .q), (9, .q), (10, .q), (11, .q), (12, .q), (13, .q), (14, .q), (15, .g)] mixed Ext.refl (fun h k => h.tr k) (by kernel_rfl) (fun w39 x39 => ?_)
     replace hE := Ext.tr hE x39
     replace x18 := x18.ext x39
     replace R1 := R1.ext x39
     replace A2 := A2.ext x39
     have zw39 := x39.size
     refine RX.move (v := .int _ _) rfl ?_
     refine RX.move (v := .int _ _) rfl ?_
     refine RX.o (fun w' hw => D.sub rfl rfl (W.i64 (by omega))) ?_
     refine RX.idxA (fun _ h => h) A2 rfl rfl Tryz.underlying186 C23 (by omega) (fun v40 h40 q40 r40 => ?_)
     refine RX.norm (by dsimp only [List.set]) ?_
     simp only [lim] at r40
     have q3 := q40
     refine RX.o (fun w' hw => D.load rfl Tryz.underlying23 rfl (h40 w' hw)) ?_
     refine RX.move (v := .int _ _) rfl ?_
     refine RX.o (fun w' hw => D.sub rfl rfl (W.i64 (by omega))) ?_
     refine RX.idxA (fun _ h => h) A2 rfl rfl Tryz.underlying186 C23 (by omega) (fun v41 h41 q41 r41 => ?_)
     refine RX.norm (by dsimp only [List.set]) ?_
     simp only [lim] at r41
     have q4 := q41
     refine RX.o (fun w' hw => D.load rfl Tryz.underlying23 rfl (h41 w' hw)) ?_
     refine RX.o (fun w' hw => D.add rfl rfl (W.u32m _)) ?_
     refine RX.move (v := .int _ _) rfl ?_
     refine RX.o (fun w' hw => D.add rfl rfl (W.u32m _)) ?_
     refine RX.move (v := .int _ _) rfl ?_
     refine RX.o (fun w' hw => D.add rfl rfl (W.u32m _)) ?_
     refine RX.idxA (fun _ h => h) A2 rfl rfl Tryz.underlying186 C23 (by omega) (fun v42 h42 q42 r42 => ?_)
     refine RX.norm (by dsimp only [List.set]) ?_
     simp only [lim] at r42
     refine RX.big ?_
     refine RS.storeA A2 rfl rfl C23 (by omega) (by simp only [lim]; omega) (fun w43 y43 N43 => ?_)
     replace hE := hE.trans (y43.below (by intros; try (first | (intro _ _) | (intro _) | skip); first | omega | (dsimp only at *; omega) | (simp_all; done) | (simp at *; omega)))
     replace x18 := x18.stn y43 (by intros; try (first | (intro _ _) | (intro _) | skip); first | omega | (dsimp only at *; omega) | (simp_all; done) | (simp at *; omega))
     replace R1 := R1.st y43 (by intros; try (first | (intro _ _) | (intro _) | skip); first | omega | (dsimp only at *; omega) | (simp_all; done) | (simp at *; omega))
     have zw43 := y43.size
     replace A2 := N43
     refine RS.nil ?_
     refine RX.nil ?_
     refine hK22 _ _ ?_
     try clear hK22
     refine region ?_
     refine RS.move (v := .int _ _) rfl ?_
     refine RS.o (D.add rfl rfl (W.i64 (by omega))) ?_
     refine RS.assign (v := .int _ _) rfl ?_
     refine RS.nil ?_
     change Nx _ _ _ _ _ _ _ _
     refine C.next (t + 1, V.set t.toNat (S.nextW V t)) ⟨rfl, trivial⟩ (by kernel_rfl) ?_ ?_
     ·subst q1 q2 q3 q4
      refine ⟨x18, A2, ⟨by dsimp only; omega, by dsimp only; omega⟩, ?_⟩
      dsimp only
      exact S.sch_step b V t (by omega) hVl g2
     ·dsimp only; omega
    ·refine wp_exit ?_
     refine hK16 _ _ ?_
     try clear hK16
     refine wp_seq_k (fun K44 hK44 => ?_)
     refine region ?_
     refine RS.o (D.loadAgg rfl Tryz.underlying186 rfl C186 (by decide) (by rw [ints_length, A2.len]) A2.cells) ?_
     refine RS.storeArr A2 rfl rfl C186 (by decide) (by first | assumption | exact And.left (by assumption) | exact IArr.len (by assumption)) (by first | assumption | exact And.right (by assumption) | exact IArr.bd (by assumption)) (fun w45 y45 N45 => ?_)
     replace hE := hE.trans (y45.below (by intros; try (first | (intro _ _) | (intro _) | skip); first | omega | (dsimp only at *; omega) | (simp_all; done) | (simp at *; omega)))
     replace R1 := R1.st y45 (by intros; try (first | (intro _ _) | (intro _) | skip); first | omega | (dsimp only at *; omega) | (simp_all; done) | (simp at *; omega))
     have zw45 := y45.size
     replace A2 := N45
     refine RS.nil ?_
     refine hK44 _ _ ?_
     try clear hK44
     refine wp_ret ?_
     refine ret (rs := [.cell 2 186]) (vs := [.agg _]) (v := (.agg _)) rfl ⟨⟨_, rfl, loadVar_agg Tryz.underlying186 rfl C186 (by decide) (by rw [ints_length, A2.len]) A2.cells⟩, trivial⟩ rfl ?_
     refine ⟨_, rfl, hE, ?_⟩
     rw [show t.toNat = 64 by omega, List.take_of_length_le (by omega)] at g2
     rw [g2]
end Go.Proofs.YtiohpiiiapjblaaGreatDoor.W
