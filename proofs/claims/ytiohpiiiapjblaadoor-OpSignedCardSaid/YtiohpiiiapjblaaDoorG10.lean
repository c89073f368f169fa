/-
  G10: append of zeros, empty slice literals, slices against nil.
-/
import Derived.Test.YtiohpiiiapjblaaDoorG9
import Derived.Laws.Cover3
namespace Go.Proofs.YtiohpiiiapjblaaDoor.G
open Go.RowKit

section
variable {P : Program} {ops : Array Oper} {K : List Value → World → Prop} {rest : List Oper} {l : List Value} {w : World} {d : Tmp} {dd : Option Tmp} {ty : TypeId} {pos : String} {af : Array Edge} {g : Option (Nat × Bool)}

theorem zeroCells_one (v0 : Value) (m : Nat) : (Builtin.zeroCells #[v0] m) = (List.replicate m v0).toArray := by
  unfold Builtin.zeroCells
  apply Array.ext
  · simp
  intro i h1 h2
  simp at h1 h2
  simp [Nat.mod_one]

theorem Own.blk {lo : Nat} {e : TypeId} {sz n c g0 : Nat} {cs : List Value} (h : Own lo w e sz (some ⟨g0, 0, none⟩) n c cs) : ∃ rest : List Value, Blk w g0 (cs ++ rest) e ∧ (cs ++ rest).length = c * sz ∧ lo ≤ g0 := by
  rcases h.2 with ⟨hv, hn⟩ | ⟨g, cap, cur, hv, hb, hg, h1, h2, hcs, ht⟩
  · simp at hv
  · simp at hv
    obtain ⟨rfl, rfl⟩ := hv
    refine ⟨cur.toList.drop (n * sz), ?_, ?_, hb⟩
    · unfold Blk
      rw [← ht, List.take_append_drop]
      simpa using hg
    · rw [← ht, List.take_append_drop]
      simpa using hcs
theorem Own.of_part {lo : Nat} {e : TypeId} {sz n c g0 : Nat} {cs rest : List Value} (h : Blk w g0 (cs ++ rest) e) (hl : (cs ++ rest).length = c * sz) (hn : cs.length = n * sz) (hnc : n ≤ c) (hc : c ≤ maxLen) (hb : lo ≤ g0) : Own lo w e sz (some ⟨g0, 0, none⟩) n c cs := by
  refine ⟨hn, .inr ⟨g0, c, (cs ++ rest).toArray, rfl, hb, h, hnc, hc, by simpa using hl, ?_⟩⟩
  simp [← hn]

theorem appendZ {t ti e : TypeId} {ki : IntKind} {lo by_ n c : Nat} {v0 : Value} {a : Option Addr} {cs : List Value} (m : Nat) (ht : P.underlying t = some (.slice e)) (hti : P.underlying ti = some (.int ki)) (hT : TI P e 1 by_ [v0]) (hv : cellB v0 = true)
    (hO : Own lo w e 1 a n c cs) (hlo : lo ≤ w.heap.size) (hb : (n + m) * by_ ≤ 140737488355328) (h63 : n + m ≤ 140737488355328) :
    ∃ a' c' w', (Builtin.append_ #[t, ti] ty #[.slice a n c, .int .i64 m]).run P w = .ok (.slice a' (n + m) c') w' ∧ Own lo w' e 1 a' (n + m) c' (cs ++ List.replicate m v0) ∧ Pr (fun k => obk a = some k) w w' := by
  obtain ⟨i, z, i1, i2, i3, i4, i5⟩ := hT
  have hw : IntKind.i64.wrap (m : Int) = m := W.i64 (by omega)
  have hbz : m * by_ ≤ (n + m) * by_ := Nat.mul_le_mul_right _ (by omega)
  have h48 : ¬ (281474976710656 < (m : Int) * (i.bytes : Int)) := by rw [i3, ← Int.natCast_mul]; omega
  have hl0 : ¬ ((m : Int) < 0) := by omega
  have hcl := hO.len
  have hcap := hO.cap
  have hz : z.cells = #[v0] := i5
  by_cases hm : m = 0
  · subst hm
    refine ⟨a, c, w, ?_, by simpa using hO, Pr.refl _ _⟩
    have hw0 : IntKind.i64.wrap 0 = 0 := W.i64 (by omega)
    cases a <;> simp [Builtin.append_, hw0, run_underlying ht, run_underlying hti, sizeOf, typeInfo, i1, i2, asInt, asIntOf, hw, hcap.1, storeCells]
  · by_cases hroom : n + m ≤ c
    · cases a with
      | none =>
        rcases hO.2 with ⟨hv', hn⟩ | ⟨g, cap, cur, hv', _⟩
        · simp at hv'; omega
        · simp at hv'
      | some ad =>
        obtain ⟨g0, rfl⟩ : ∃ g0, ad = ⟨g0, 0, none⟩ := by
          rcases hO.2 with ⟨hv', _⟩ | ⟨g, cap, cur, hv', _⟩
          · simp at hv'
          · simp at hv'; exact ⟨g, hv'.1⟩
        obtain ⟨rs, hB, hlen, hge⟩ := hO.blk
        rw [List.length_append] at hlen
        obtain ⟨w', h1, h2, h3⟩ := storeCells_blk (P := P) (o := n) (List.replicate m v0) 0 _ w hB (by rw [List.length_append, List.length_replicate]; omega) (by intro v hv'; rw [(List.mem_replicate.1 hv').2]; exact hv)
        refine ⟨some ⟨g0, 0, none⟩, c, w', ?_, ?_, (Pr.refl _ _).st h2 rfl⟩
        · simp [Builtin.append_, run_underlying ht, run_underlying hti, sizeOf, typeInfo, zeroValue, i1, i2, i4, asInt, asIntOf, hw, hl0, h48, hroom, hm, hz, zeroCells_one, add_mk, h1]
        · rw [splice_eq _ _ _ (by simp; omega)] at h3
          have e1 : (cs ++ rs).take (n + 0) = cs := by rw [Nat.add_zero, List.take_left' (by omega)]
          rw [e1] at h3
          refine Own.of_part h3 ?_ (by simp; omega) hroom hcap.2 hge
          simp
          omega
    · have h63' : ¬ (9223372036854775807 < ((n : Int) + (m : Int))) := by omega
      have h48' : ¬ (281474976710656 < Builtin.nextslicecap (n + m) c * i.bytes) := by
        have := growslice_fits (need := n + m) (old := c) (bytes := i.bytes) (by omega) (by rw [i3]; exact hb)
        omega
      have hge := grownCap_ge w (n + m) c e
      have hcm := grownCap_le_maxLen w (n + m) c e (by simp only [maxLen]; omega)
      refine ⟨some ⟨w.heap.size, 0, none⟩, grownCap w (n + m) c e, w.drew.alloc (.cells (cs ++ List.replicate m v0 ++ List.replicate (grownCap w (n + m) c e - (n + m)) v0).toArray e), ?_, ?_, ?_⟩
      · have hold : ∀ sp, (Builtin.firstCells 1 n (.slice a n sp)).run P w.drew = .ok cs.toArray w.drew := by
          intro sp
          cases a with
          | none =>
            have : cs = [] := by
              rcases hO.2 with ⟨hv', hn⟩ | ⟨g, cap, cur, hv', _⟩
              · exact List.eq_nil_of_length_eq_zero (by omega)
              · simp at hv'
            simp [this, run_firstCells_none]
          | some ad =>
            obtain ⟨b, o, ha, _, hcells⟩ | hnil := (show (∃ b o, some ad = some ⟨b, o, none⟩ ∧ obk (some ad) = some b ∧ Cells w b o cs) ∨ cs = [] from by
              rcases hO.row with h | h
              · exact .inr h
              · exact .inl h)
            · obtain rfl := Option.some.inj ha
              refine run_firstCells_some (P := P) w.drew 1 n ⟨b, o, none⟩ n sp cs (by omega) ?_
              intro j u hu
              have hj : j < cs.length := (List.getElem?_eq_some_iff.1 hu).1
              have := hcells j hj
              rw [List.getD_eq_getElem?_getD, hu] at this
              simpa [add_mk] using this
            · subst hnil
              refine run_firstCells_some (P := P) w.drew 1 n ad n sp [] (by simpa using hcl) ?_
              intro j u hu
              simp at hu
        simp [Builtin.append_, run_underlying ht, run_underlying hti, sizeOf, typeInfo, zeroValue, i1, i2, i4, asInt, asIntOf, hw, hl0, h48, hroom, hm, hz, zeroCells_one, h63', h48', Question.forced, hold, newRow]
        simp [grownCap]
        congr 2
        apply Array.ext'
        simp
      · have := new_facts w.drew (cs ++ List.replicate m v0 ++ List.replicate (grownCap w (n + m) c e - (n + m)) v0) e
        refine Own.of_part this.2.1 ?_ (by simp; omega) hge hcm hlo
        simp
        omega
      · refine Pr.ext (Pr.refl _ _) ?_
        exact ((Below.refl _ _).drew).alloc (Nat.le_refl _) _
/-- append(s, make([]T, m)...) of integers. -/
theorem RS.appendZ {x y : Operand} {t ti e : TypeId} {k ki : IntKind} {lo by_ : Nat} {a : Option Addr} {n c : Nat} {xs : List Int} {m : Int}
    (hO : IOwn lo w e k a n c xs) (hx : ev l x = .slice a n c) (hy : ev l y = .int .i64 m) (hm : 0 ≤ m) (hu : P.underlying t = some (.slice e)) (hti : P.underlying ti = some (.int ki)) (ht : TI P e 1 by_ [.int k 0])
    (hlo : lo ≤ w.heap.size) (hby : by_ ≤ 8) (hb : n + m.toNat ≤ 17592186044416)
    (h : ∀ a' c' w', IOwn lo w' e k a' (n + m.toNat) c' (xs ++ List.replicate m.toNat 0) → Pr (fun b => obk a = some b) w w' → RS P ops K rest (l.set d (.slice a' (n + m.toNat) c')) w') :
    RS P ops K (⟨some d, .call { callee := .builtin .append, args := #[x, y], argTypes := #[t, ti] }, ty, pos, af, none⟩ :: rest) l w := by
  have h8 : (n + m.toNat) * by_ ≤ (n + m.toNat) * 8 := Nat.mul_le_mul_left _ hby
  obtain ⟨a', c', w', h1, h2, h3⟩ := G.appendZ (P := P) (w := w) (ty := ty) m.toNat hu hti ht rfl hO.own hlo (by omega) (by omega)
  have e1 : ((m.toNat : Nat) : Int) = m := by omega
  rw [e1] at h1
  refine RS.o (w' := w') (v := .slice a' (n + m.toNat) c') ?_ (h a' c' w' ⟨?_, hO.bd.append (Bd.zeros k _)⟩ h3) rfl
  · simp [execOp, resolve, hx, hy, invoke, builtin, h1]
  · rw [ints_append]
    have : ints k (List.replicate m.toNat 0) = List.replicate m.toNat (.int k 0) := by simp [ints]
    rw [this]; exact h2
/-- A slice literal of nothing. -/
theorem RS.buildNone {t e : TypeId} {sz by_ : Nat} {z : List Value} (hu : P.underlying t = some (.slice e)) (ht : TI P e sz by_ z)
    (h : ∀ b w', w.heap.size = b → w'.heap.size = b + 1 → Ext w w' → Blk w' b [] e → RS P ops K rest (l.set d (.slice (some ⟨b, 0, none⟩) 0 0)) w') :
    RS P ops K (⟨some d, .buildSlice t 0 #[], ty, pos, af, none⟩ :: rest) l w := by
  obtain ⟨i, v, h1, h2, h3, h4, h5⟩ := ht
  refine RS.new (f := fun b => .slice (some ⟨b, 0, none⟩) 0 0) ?_ h
  have hs : (sizeOf e).run P w = .ok sz w := by simp [sizeOf, typeInfo, h1, h2]
  simp only [execOp, Instr.buildSlice, Sem.run_bind, run_underlying hu, Result.andThen, hs]
  simp [Instr.fill, newRow]
  rw [show Array.range 0 = #[] from rfl]
  simp
/-- A slice against nil. -/
theorem D.nilS {x y : Operand} {t e yt : TypeId} {a : Option Addr} {n c : Nat} (hx : ev l x = .slice a n c) (hy : ev l y = .slice none 0 0) (hu : P.underlying t = some (.slice e)) :
    (execOp (ev l) ⟨dd, .binOp .eql t x y yt, ty, pos, af, g⟩).run P w = .ok (.value (.bool a.isNone)) w := by
  have h1 := run_equal_slice_nil (P := P) w t e a n c hu
  simp only [execOp, eqGuard]
  rw [hx, hy]
  simp [binOp, h1]
theorem D.nnilS {x y : Operand} {t e yt : TypeId} {a : Option Addr} {n c : Nat} (hx : ev l x = .slice a n c) (hy : ev l y = .slice none 0 0) (hu : P.underlying t = some (.slice e)) :
    (execOp (ev l) ⟨dd, .binOp .neq t x y yt, ty, pos, af, g⟩).run P w = .ok (.value (.bool (!a.isNone))) w := by
  have h1 := run_equal_slice_nil (P := P) w t e a n c hu
  simp only [execOp, eqGuard]
  rw [hx, hy]
  simp [binOp, h1]
end
end Go.Proofs.YtiohpiiiapjblaaDoor.G
