/-
  L1: operations that come in, and the laid table, as the walks want them.
-/
import Derived.Test.YtiohpiiiapjblaaDoorL0
namespace Go.Proofs.YtiohpiiiapjblaaDoor.L
open Go Go.Proofs.YtiohpiiiapjblaaDoor Go.Proofs.YtiohpiiiapjblaaDoor.G Go.Proofs.YtiohpiiiapjblaaDoor.W
open Go.ChangeShapes Go.WideShapes Go.ChangeAt Go.RowKit
set_option linter.unusedVariables false
set_option maxRecDepth 100000
section
variable {H : Type} {enc : TypeId × Value → H} {P : Program} {w : World} {base : Nat} {sp : Nat → Bool} {held : Bool} {fuel : Nat} {cs : List Value} {x : DataW H × List MemPlace} {t : TypeId}
theorem field_in {fs : Array Field} {f : Field} {sz : Nat} (i : Nat) (ht : P.underlying t = some (.struct fs)) (hi : fs[i]? = some f) (hs : P.cellsOf f.type = sz) (h : DataW.trod enc P w base sp held fuel t cs = some x) :
    ∃ n y, DataW.trod enc P w base sp held n f.type ((cs.drop f.offset).take sz) = some y := by
  subst hs
  exact (fields_in ht h).2 i f hi
end
theorem z_u8 : Tryd.prog.cellsOf 5 = 1 := by kernel_rfl
theorem z_u32 : Tryd.prog.cellsOf 22 = 1 := by kernel_rfl
theorem z_u64 : Tryd.prog.cellsOf 24 = 1 := by kernel_rfl
theorem z_i64 : Tryd.prog.cellsOf 2 = 1 := by kernel_rfl
theorem z_str : Tryd.prog.cellsOf 9 = 1 := by kernel_rfl
theorem z_ids : Tryd.prog.cellsOf 23 = 1 := by kernel_rfl
theorem z_id : Tryd.prog.cellsOf 42 = 32 := by kernel_rfl
theorem z_val : Tryd.prog.cellsOf 26 = 4 := by kernel_rfl
theorem z_act : Tryd.prog.cellsOf 28 = 6 := by kernel_rfl
theorem z_sig : Tryd.prog.cellsOf 30 = 2 := by kernel_rfl
theorem z_op : Tryd.prog.cellsOf 32 = 11 := by kernel_rfl
section
variable {H : Type} {enc : TypeId × Value → H} {w : World} {base : Nat} {sp : Nat → Bool} {held : Bool} {fuel : Nat} {cs : List Value} {x : DataW H × List MemPlace}
theorem op_in (h : DataW.trod enc Tryd.prog w base sp held fuel 32 cs = some x) :
    ∃ (o : S.OpV) (pa : Option Addr) (pc : Nat), cs = [.int .u32 o.au, .slice pa o.n pc, .int .u64 o.st, .int .u8 o.k, .string o.key, .int .u8 o.vk, .int .i64 o.num, .int .u64 o.bits, .string o.t, .int .u32 o.e, .int .u32 o.s] ∧ o.rng ∧ o.n ≤ pc ∧ WRow .u8 32 (fun _ => True) w pa o.n o.ids := by
  have hl := (fields_in Tryd.underlying32 h).1
  rw [z_op] at hl
  match cs, hl, h with
  | [c0, c1, c2, c3, c4, c5, c6, c7, c8, c9, c10], _, h =>
    obtain ⟨_, _, f0⟩ := field_in 0 Tryd.underlying32 rfl z_u32 h
    obtain ⟨_, _, f1⟩ := field_in 1 Tryd.underlying32 rfl z_ids h
    obtain ⟨_, _, f2⟩ := field_in 2 Tryd.underlying32 rfl z_u64 h
    obtain ⟨_, _, f3⟩ := field_in 3 Tryd.underlying32 rfl z_act h
    obtain ⟨_, _, f4⟩ := field_in 4 Tryd.underlying32 rfl z_sig h
    obtain ⟨au, e0, r0⟩ := int_in Tryd.underlying22 f0
    obtain ⟨pa, n, pc, ids, e1, hc, hR⟩ := ids_in Tryd.underlying23 Tryd.underlying42 Tryd.underlying5 z_u8 z_id (by decide) f1
    obtain ⟨st, e2, r2⟩ := int_in Tryd.underlying24 f2
    obtain ⟨_, _, g0⟩ := field_in 0 Tryd.underlying28 rfl z_u8 f3
    obtain ⟨_, _, g1⟩ := field_in 1 Tryd.underlying28 rfl z_str f3
    obtain ⟨_, _, g2⟩ := field_in 2 Tryd.underlying28 rfl z_val f3
    obtain ⟨k, e3, r3⟩ := int_in Tryd.underlying5 g0
    obtain ⟨key, e4, _, _⟩ := DataW.trod_string Tryd.underlying9 g1
    obtain ⟨_, _, v0⟩ := field_in 0 Tryd.underlying26 rfl z_u8 g2
    obtain ⟨_, _, v1⟩ := field_in 1 Tryd.underlying26 rfl z_i64 g2
    obtain ⟨_, _, v2⟩ := field_in 2 Tryd.underlying26 rfl z_u64 g2
    obtain ⟨_, _, v3⟩ := field_in 3 Tryd.underlying26 rfl z_str g2
    obtain ⟨vk, e5, r5⟩ := int_in Tryd.underlying5 v0
    obtain ⟨num, e6, r6⟩ := int_in Tryd.underlying2 v1
    obtain ⟨bits, e7, r7⟩ := int_in Tryd.underlying24 v2
    obtain ⟨tx, e8, _, _⟩ := DataW.trod_string Tryd.underlying9 v3
    obtain ⟨_, _, s0⟩ := field_in 0 Tryd.underlying30 rfl z_u32 f4
    obtain ⟨_, _, s1⟩ := field_in 1 Tryd.underlying30 rfl z_u32 f4
    obtain ⟨se, e9, r9⟩ := int_in Tryd.underlying22 s0
    obtain ⟨ss, e10, r10⟩ := int_in Tryd.underlying22 s1
    have q0 : [c0] = [Value.int .u32 au] := e0
    have q1 : [c1] = [Value.slice pa n pc] := e1
    have q2 : [c2] = [Value.int .u64 st] := e2
    have q3 : [c3] = [Value.int .u8 k] := e3
    have q4 : [c4] = [Value.string key] := e4
    have q5 : [c5] = [Value.int .u8 vk] := e5
    have q6 : [c6] = [Value.int .i64 num] := e6
    have q7 : [c7] = [Value.int .u64 bits] := e7
    have q8 : [c8] = [Value.string tx] := e8
    have q9 : [c9] = [Value.int .u32 se] := e9
    have q10 : [c10] = [Value.int .u32 ss] := e10
    simp only [List.cons.injEq, and_true] at q0 q1 q2 q3 q4 q5 q6 q7 q8 q9 q10
    subst q0 q1 q2 q3 q4 q5 q6 q7 q8 q9 q10
    have u8 : IntKind.min .u8 = 0 ∧ IntKind.max .u8 = 255 := by decide
    have u32 : IntKind.min .u32 = 0 ∧ IntKind.max .u32 = 4294967295 := by decide
    have u64 : IntKind.min .u64 = 0 ∧ IntKind.max .u64 = 18446744073709551615 := by decide
    have i64 : IntKind.min .i64 = -9223372036854775808 ∧ IntKind.max .i64 = 9223372036854775807 := by decide
    refine ⟨⟨au, st, k, vk, num, bits, se, ss, n, ids, key, tx⟩, pa, pc, rfl, ⟨?_, ?_, ?_, ?_, ?_, ?_, ?_, ?_⟩, hc, hR⟩ <;> dsimp only <;> omega
theorem sig_in (h : DataW.trod enc Tryd.prog w base sp held fuel 30 cs = some x) : ∃ (e s : Int), cs = [.int .u32 e, .int .u32 s] ∧ (0 ≤ e ∧ e < 4294967296) ∧ 0 ≤ s ∧ s < 4294967296 := by
  have hl := (fields_in Tryd.underlying30 h).1
  rw [z_sig] at hl
  match cs, hl, h with
  | [c0, c1], _, h =>
    obtain ⟨_, _, s0⟩ := field_in 0 Tryd.underlying30 rfl z_u32 h
    obtain ⟨_, _, s1⟩ := field_in 1 Tryd.underlying30 rfl z_u32 h
    obtain ⟨se, e9, r9⟩ := int_in Tryd.underlying22 s0
    obtain ⟨ss, e10, r10⟩ := int_in Tryd.underlying22 s1
    have q9 : [c0] = [Value.int .u32 se] := e9
    have q10 : [c1] = [Value.int .u32 ss] := e10
    simp only [List.cons.injEq, and_true] at q9 q10
    subst q9 q10
    have u32 : IntKind.min .u32 = 0 ∧ IntKind.max .u32 = 4294967295 := by decide
    exact ⟨se, ss, rfl, by omega, by omega⟩
end
theorem gKnown : Tryd.prog.globalNamed "braid/digest.constants" = some gK := by kernel_rfl
theorem tKnown : (Tryd.prog.globals[gK]?).map (·.type) = some 162 := by kernel_rfl
theorem laid_KK : (Rows.laid_braid_digest_constants : DataW Unit) = .agg (S.KK.map fun n => .lit (.int .u32 n)) := rfl
/-- The table, laid. -/
theorem of_laid {W : World} (h : laidMetH Tryd.prog [("braid/digest.constants", Rows.laid_braid_digest_constants)] W) : Kst W 0 := by
  rw [MakeChecks.laidMetH_plain _ _ _ (by kernel_rfl)] at h
  obtain ⟨ps, ⟨g0, t0, cs0, f0, p0, q0, hg0, ht0, hv0, hd0, _⟩, _⟩ := h
  obtain rfl := Option.some.inj (gKnown.symm.trans hg0)
  obtain rfl := Option.some.inj (tKnown.symm.trans ht0)
  obtain ⟨xs, m1, _, hx1, hlen, hn, hel⟩ := DataW.trod_array Tryd.underlying162 hd0
  rw [laid_KK] at hx1
  simp only [Prod.mk.injEq, DataW.agg.injEq] at hx1
  have hK : ∀ i, i < 64 → cs0[i]? = some (.int .u32 (S.KK.getD i 0)) := by
    intro i hi
    have h1 := hel i hi
    rw [z_u32, Nat.mul_one, List.getElem?_eq_getElem (by omega)] at h1
    obtain ⟨n, h2, h3, _⟩ := DataW.trod_int Tryd.underlying22 h1
    have h4 := congrArg (fun l => l[i]?) hx1.1
    simp only [List.getElem?_map] at h4
    rw [List.getElem?_eq_getElem (show i < xs.length by omega), Option.map_some, h3] at h4
    have h6 := congrArg (fun l => l[0]?) h2
    cases hq : S.KK[i]? with
    | none => rw [hq] at h4; simp at h4
    | some z =>
      rw [hq] at h4
      have hz : z = n := by simpa using h4
      subst hz
      rw [List.getD_eq_getElem?_getD, hq, Option.getD_some]
      simpa [List.getElem?_take, List.getElem?_drop] using h6
  have hcell : ∀ i, i < 64 → W.cell? ⟨gK, i, none⟩ = some (.int .u32 (S.KK.getD i 0)) := fun i hi => by
    rw [World.var?_cell gKnown hv0 i]; exact hK i hi
  refine ⟨fun j hj => ?_, rfl, show ∀ x ∈ S.KK, 0 ≤ x ∧ x < 4294967296 by decide, World.block_lt_of_cell? W _ (hcell 0 (by decide))⟩
  have hkl : S.KK.length = 64 := rfl
  rw [ints_length] at hj
  have hj' : j < 64 := by omega
  rw [Nat.zero_add, hcell j hj', ints_getD _ _ _ hj]
end Go.Proofs.YtiohpiiiapjblaaDoor.L
