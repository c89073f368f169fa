/-
  Part 10 of the lemmas of these laws: PoolDoes.
-/
import Derived.Test.YtkmaenmhcgohbaaGreatDoorPPd9
set_option linter.unusedSimpArgs false
namespace Go.Proofs.YtkmaenmhcgohbaaGreatDoor.S
open G
def castL (l : List Nat) : List Int := l.map fun n : Nat => (n : Int)
theorem castL_snoc (l : List Nat) (x : Nat) : castL (l ++ [x]) = castL l ++ [(x : Int)] := by simp [castL]
def behJ (P : Nat → List Nat) (i j a : Nat) : List Nat := behS P i a ++ List.replicate (((P i).take j).count a) i
theorem behJ_zero (P : Nat → List Nat) (i a : Nat) : behJ P i 0 a = behS P i a := by simp [behJ]
theorem behJ_full (P : Nat → List Nat) (i j a : Nat) (h : (P i).length ≤ j) : behJ P i j a = behS P (i + 1) a := by
  rw [behJ, behS_succ, List.take_of_length_le h]
theorem behJ_succ (P : Nat → List Nat) (i j a : Nat) (h : j < (P i).length) : behJ P i (j + 1) a = if a = (P i).getD j 0 then behJ P i j a ++ [i] else behJ P i j a := by
  unfold behJ
  rw [take_snoc_get _ _ h, List.count_append, List.count_singleton]
  by_cases e : a = (P i).getD j 0
  · rw [if_pos e, ← e]
    simp [List.replicate_succ']
  · rw [if_neg e, if_neg (by simpa using fun h => e h.symm), Nat.add_zero]
structure ShQ (P : Nat → List Nat) (N i j : Nat) (qs : List Pc) : Prop where
  len : qs.length = N
  xs : ∀ (a : Nat) (q : Pc), qs[a]? = some q → q.xs = castL (behJ P i j a) ∧ q.n = q.xs.length
theorem ShQ.first (P : Nat → List Nat) (N : Nat) : ShQ P N 0 0 (List.replicate N default) := ⟨by simp, fun a q h => by
  obtain rfl := (List.mem_replicate.1 (List.mem_of_getElem? h)).2
  exact ⟨by simp only [behJ, behS, castL, List.range_zero, List.flatMap_nil, List.take_zero, List.count_nil, List.replicate_zero, List.append_nil, List.map_nil]; rfl, rfl⟩⟩
theorem ShQ.step {P : Nat → List Nat} {N i j : Nat} {qs : List Pc} (h : ShQ P N i j qs) (hj : j < (P i).length) {at_ : Nat} {q : Pc} (hq : qs[at_]? = some q) (ha : at_ = (P i).getD j 0) (a' : Option Addr) (c' : Nat) : ShQ P N i (j + 1) (qs.set at_ ⟨a', q.n + 1, c', q.xs ++ [(i : Int)]⟩) := by
  have h0 := h.xs _ _ hq
  refine ⟨by rw [List.length_set]; exact h.len, fun a q' h' => ?_⟩
  rw [List.getElem?_set] at h'
  rw [behJ_succ P i j a hj, ← ha]
  split at h'
  · rename_i e
    subst e
    split at h'
    · obtain rfl := Option.some.inj h'
      rw [if_pos rfl, castL_snoc, ← h0.1]
      exact ⟨rfl, by simp [h0.2]⟩
    · cases h'
  · rename_i e
    rw [if_neg (fun e2 => e e2.symm)]
    exact h.xs a q' h'
theorem ShQ.next {P : Nat → List Nat} {N i j : Nat} {qs : List Pc} (h : ShQ P N i j qs) (hj : (P i).length ≤ j) : ShQ P N (i + 1) 0 qs := ⟨h.len, fun a q hq => by rw [behJ_zero, ← behJ_full P i j a hj]; exact h.xs a q hq⟩
theorem ShQ.get {P : Nat → List Nat} {N i j a : Nat} {qs : List Pc} (h : ShQ P N i j qs) (ha : a < N) : ∃ q, qs[a]? = some q := ⟨_, List.getElem?_eq_getElem (by rw [h.len]; exact ha)⟩
theorem set_get (ws : List Int) (i k : Nat) (v : Int) (h : i < ws.length) : (ws.set i v).getD k 0 = if k = i then v else ws.getD k 0 := by
  rw [List.getD_eq_getElem?_getD, List.getD_eq_getElem?_getD, List.getElem?_set]
  by_cases e : i = k
  · subst e; simp [h]
  · rw [if_neg e, if_neg (fun e2 => e e2.symm)]
structure ShW (P : Nat → List Nat) (N i : Nat) (ws : List Int) : Prop where
  len : ws.length = N
  w : ∀ k, k < N → ws.getD k 0 = if k < i then ((P k).length : Int) else 0
theorem ShW.first (P : Nat → List Nat) (N : Nat) : ShW P N 0 (List.replicate N 0) := ⟨by simp, fun k hk => by rw [List.getD_eq_getElem?_getD, List.getElem?_replicate, if_pos hk]; rfl⟩
theorem ShW.step {P : Nat → List Nat} {N i : Nat} {ws : List Int} (h : ShW P N i ws) (hi : i < N) : ShW P N (i + 1) (ws.set i ((P i).length : Int)) := ⟨by rw [List.length_set]; exact h.len, fun k hk => by
  rw [set_get _ _ _ _ (by rw [h.len]; exact hi), h.w k hk]
  by_cases e : k = i
  · subst e; simp
  · rw [if_neg e]
    by_cases h2 : k < i
    · rw [if_pos h2, if_pos (by omega)]
    · rw [if_neg h2, if_neg (by omega)]⟩
def wtS (ws : List Int) (k : Nat) : Nat := (ws.getD k 0).toNat
theorem Kahn.le {P : Nat → List Nat} {N d : Nat} {wt : Nat → Nat} {rd : List Nat} (h : Kahn P N wt rd d) : rd.length ≤ N := by
  have := nodup_len (l := rd) (m := List.range N) h.nd fun x hx => List.mem_range.2 (h.lt x hx)
  simpa using this
theorem KahnI.le {P : Nat → List Nat} {N d q : Nat} {wt : Nat → Nat} {rd : List Nat} (h : KahnI P N wt rd d q) : rd.length ≤ N := by
  have := nodup_len (l := rd) (m := List.range N) h.nd fun x hx => List.mem_range.2 (h.lt x hx)
  simpa using this
theorem KahnI.down {P : Nat → List Nat} {N d q : Nat} {ws : List Int} {rd : List Nat} (h : KahnI P N (wtS ws) rd d q) (hl : ws.length = N) (hq : q < (behS P N (rd.getD d 0)).length) {k : Nat} (hk : k = (behS P N (rd.getD d 0)).getD q 0) :
    KahnI P N (wtS (ws.set k (ws.getD k 0 - 1))) (if ws.getD k 0 - 1 = 0 then rd ++ [k] else rd) d (q + 1) := by
  obtain ⟨h1, h2⟩ := h.told hq hk
  have hw : wtS ws k = (ws.getD k 0).toNat := rfl
  have e1 : wtS (ws.set k (ws.getD k 0 - 1)) k = wtS ws k - 1 := by
    unfold wtS; rw [set_get _ _ _ _ (by rw [hl]; exact h1), if_pos rfl]; omega
  have := h.step hq hk (wt' := wtS (ws.set k (ws.getD k 0 - 1))) e1 fun i hi => by unfold wtS; rw [set_get _ _ _ _ (by rw [hl]; exact h1), if_neg hi]
  rw [e1] at this
  by_cases hz : ws.getD k 0 - 1 = 0
  · rw [if_pos hz]; rw [if_pos (by omega)] at this; exact this
  · rw [if_neg hz]; rw [if_neg (by omega)] at this; exact this
end Go.Proofs.YtkmaenmhcgohbaaGreatDoor.S
namespace Go.Proofs.YtkmaenmhcgohbaaGreatDoor.S
open G
set_option linter.unusedVariables false
def kc (a b : ByteArray) : Int := cmpS (bys a) (bys b)
theorem kc_self (a : ByteArray) : kc a a = 0 := cmpS_self _
theorem kc_eq {a b : ByteArray} : kc a b = 0 ↔ a = b := ⟨fun h => bys_inj ((cmpS_eq _ _).1 h), fun h => by subst h; exact kc_self a⟩
theorem less_go : ∀ x y : List UInt8, Op.bytesLess x y = decide (cmpS (x.map fun b => (b.toNat : Int)) (y.map fun b => (b.toNat : Int)) < 0)
  | [], [] => by simp [Op.bytesLess, cmpS]
  | _ :: _, [] => by simp [Op.bytesLess, cmpS]
  | [], _ :: _ => by simp [Op.bytesLess, cmpS]
  | a :: x, b :: y => by
    have ih := less_go x y
    simp only [Op.bytesLess, List.map_cons, cmpS, ih]
    by_cases h : a < b
    · have := UInt8.lt_iff_toNat_lt.1 h
      rw [if_pos (by omega)]; simp [h]
    · have h1 : ¬ a.toNat < b.toNat := fun e => h (UInt8.lt_iff_toNat_lt.2 e)
      rw [if_neg (by omega)]
      by_cases h2 : a = b
      · subst h2; rw [if_neg (by omega)]; simp [h]
      · have h3 : a.toNat ≠ b.toNat := fun e => h2 (UInt8.toNat_inj.1 e)
        rw [if_pos (by omega)]
        simp [h, h2]
theorem less_kc (a b : ByteArray) : Op.bytesLess a.toList b.toList = decide (kc a b < 0) := by
  rw [ByteArray.toList_eq, ByteArray.toList_eq]; exact less_go _ _
structure RgV where
  (key : ByteArray) (vk num bits : Int) (t : ByteArray) (st : Int) (id : List Int) (h32 : id.length = 32)
def RgV.zero : RgV := ⟨.empty, 0, 0, 0, .empty, 0, List.replicate 32 0, rfl⟩
structure RgV.rng (x : RgV) : Prop where
  vk : 0 ≤ x.vk ∧ x.vk < 256
  num : -9223372036854775808 ≤ x.num ∧ x.num ≤ 9223372036854775807
  bits : 0 ≤ x.bits ∧ x.bits < 18446744073709551616
  st : 0 ≤ x.st ∧ x.st < 18446744073709551616
  id : Bd .u8 x.id
structure RgV.ok (x : RgV) : Prop extends RgV.rng x where
  key : x.key.size ≤ 100
  t : x.t.size ≤ 100
theorem RgV.ok.arr {x : RgV} (h : x.ok) : Arr .u8 32 x.id := ⟨x.h32, h.id⟩
theorem RgV.ext {x y : RgV} (h1 : x.key = y.key) (h2 : x.vk = y.vk) (h3 : x.num = y.num) (h4 : x.bits = y.bits) (h5 : x.t = y.t) (h6 : x.st = y.st) (h7 : x.id = y.id) : x = y := by
  cases x; cases y; simp only at h1 h2 h3 h4 h5 h6 h7; subst h1 h2 h3 h4 h5 h6 h7; rfl
instance : DecidableEq RgV := fun x y => decidable_of_iff (x.key = y.key ∧ x.vk = y.vk ∧ x.num = y.num ∧ x.bits = y.bits ∧ x.t = y.t ∧ x.st = y.st ∧ x.id = y.id) ⟨fun ⟨h1, h2, h3, h4, h5, h6, h7⟩ => RgV.ext h1 h2 h3 h4 h5 h6 h7, fun h => by subst h; exact ⟨rfl, rfl, rfl, rfl, rfl, rfl, rfl⟩⟩
@[reducible] def rg (l : List RgV) (i : Nat) : RgV := l.getD i RgV.zero
theorem rg_some {l : List RgV} {i : Nat} {x : RgV} (h : l[i]? = some x) : rg l i = x := by unfold rg; rw [List.getD_eq_getElem?_getD, h]; rfl
def SortK (l : List RgV) : Prop := l.Pairwise fun a b => kc a.key b.key < 0
theorem SortK.lt {l : List RgV} (h : SortK l) {i j : Nat} (hij : i < j) (hj : j < l.length) : kc (rg l i).key (rg l j).key < 0 := by
  have := List.pairwise_iff_getElem.1 h i j (by omega) hj hij
  rw [rg_some (List.getElem?_eq_getElem (by omega : i < l.length)), rg_some (List.getElem?_eq_getElem hj)]
  exact this
open Classical in
/-! places -/
def hasK (l : List RgV) (k : ByteArray) : Prop := ∃ x ∈ l, x.key = k
instance (l : List RgV) (k : ByteArray) : Decidable (hasK l k) := by unfold hasK; infer_instance
def lateR (st : Int) (id : List Int) (y : RgV) : Prop := y.st < st ∨ (st = y.st ∧ 0 < cmpS id y.id)
instance (st : Int) (id : List Int) (y : RgV) : Decidable (lateR st id y) := by unfold lateR; infer_instance
end Go.Proofs.YtkmaenmhcgohbaaGreatDoor.S
namespace Go.Proofs.YtkmaenmhcgohbaaGreatDoor.G
open Go.RowKit
set_option linter.unusedVariables false
set_option linter.unusedSimpArgs false
section
variable {P : Program} {l : List Value} {w : World} {d : Option Tmp} {ty xt yt : TypeId} {pos : String} {af : Array Edge} {g : Option (Nat × Bool)} {x y : Operand} {s t : ByteArray}
theorem D.slt (hx : ev l x = .string s) (hy : ev l y = .string t) : (execOp (ev l) ⟨d, .binOp .lss xt x y yt, ty, pos, af, g⟩).run P w = .ok (.value (.bool (decide (S.kc s t < 0)))) w := by
  rw [bin_run_str _ hx hy]; simp [binOp, Op.stringOp, S.less_kc]
theorem D.sge (hx : ev l x = .string s) (hy : ev l y = .string t) : (execOp (ev l) ⟨d, .binOp .geq xt x y yt, ty, pos, af, g⟩).run P w = .ok (.value (.bool (decide (0 ≤ S.kc s t)))) w := by
  rw [bin_run_str _ hx hy]
  have : decide (0 ≤ S.kc s t) = !(decide (S.kc s t < 0)) := by by_cases h : S.kc s t < 0 <;> simp [h] <;> omega
  rw [this]; simp [binOp, Op.stringOp, S.less_kc]
theorem D.sgt (hx : ev l x = .string s) (hy : ev l y = .string t) : (execOp (ev l) ⟨d, .binOp .gtr xt x y yt, ty, pos, af, g⟩).run P w = .ok (.value (.bool (decide (0 < S.kc s t)))) w := by
  rw [bin_run_str _ hx hy]
  have : decide (0 < S.kc s t) = !(decide (S.kc s t < 0) || decide (s = t)) := by
    by_cases h : s = t
    · subst h; rw [S.kc_self]; simp
    · have h2 : S.kc s t ≠ 0 := fun e => h (S.kc_eq.1 e)
      by_cases h3 : S.kc s t < 0 <;> simp [h, h3] <;> omega
  rw [this]; simp [binOp, Op.stringOp, S.less_kc, strEq]
theorem D.sle (hx : ev l x = .string s) (hy : ev l y = .string t) : (execOp (ev l) ⟨d, .binOp .leq xt x y yt, ty, pos, af, g⟩).run P w = .ok (.value (.bool (decide (S.kc s t ≤ 0)))) w := by
  rw [bin_run_str _ hx hy]
  have : decide (S.kc s t ≤ 0) = (decide (S.kc s t < 0) || decide (s = t)) := by
    by_cases h : s = t
    · subst h; rw [S.kc_self]; simp
    · have h2 : S.kc s t ≠ 0 := fun e => h (S.kc_eq.1 e)
      by_cases h3 : S.kc s t < 0 <;> simp [h, h3] <;> omega
  rw [this]; simp [binOp, Op.stringOp, S.less_kc, strEq]
end
/-! parts of rows -/
theorem flat_take {α : Type} (f : α → List Value) (sz : Nat) (hf : ∀ x, (f x).length = sz) : ∀ (l : List α) (n : Nat), (l.flatMap f).take (n * sz) = (l.take n).flatMap f
  | [], n => by simp
  | x :: l, 0 => by simp
  | x :: l, n + 1 => by
    rw [List.flatMap_cons, List.take_succ_cons, List.flatMap_cons, List.take_append, hf, List.take_of_length_le (by rw [hf, Nat.add_mul]; omega), show (n + 1) * sz - sz = n * sz by rw [Nat.add_mul]; omega, flat_take f sz hf l n]
theorem flat_drop {α : Type} (f : α → List Value) (sz : Nat) (hf : ∀ x, (f x).length = sz) : ∀ (l : List α) (n : Nat), (l.flatMap f).drop (n * sz) = (l.drop n).flatMap f
  | [], n => by simp
  | x :: l, 0 => by simp
  | x :: l, n + 1 => by
    rw [List.flatMap_cons, List.drop_succ_cons, List.drop_append, hf, List.drop_of_length_le (by rw [hf, Nat.add_mul]; omega), List.nil_append, show (n + 1) * sz - sz = n * sz by rw [Nat.add_mul]; omega, flat_drop f sz hf l n]
theorem GRow.sub {α : Type} {f : α → List Value} {sz n : Nat} {S : Nat → Prop} {w : World} {a : Option Addr} {lst : List α} (h : GRow f sz S w a n lst) (lo hi m : Nat) (hh : hi ≤ n) (hl : lo ≤ hi) (hm : hi ≤ m) : GRow f sz S w (subA a lo sz m) (hi - lo) ((lst.drop lo).take (hi - lo)) := by
  have hln := h.len
  refine ⟨?_, by rw [List.length_take, List.length_drop]; omega, h.szf⟩
  have := h.row.sub lo hi sz m (by rw [flat_len f sz h.szf, hln, Nat.mul_comm]; exact Nat.mul_le_mul_left _ hh) hl hm
  rwa [flat_drop f sz h.szf, flat_take f sz h.szf] at this
section
variable {P : Program} {ops : Array Oper} {K : List Value → World → Prop} {rest : List Oper} {l : List Value} {w : World} {d : Tmp} {ty : TypeId} {pos : String} {af : Array Edge}
end
section
variable {S0 : Nat → Prop} {w0 w : World} {L L' E : List Ent} {P : Program} {l0 : List Oper} {ops : Array Oper} {K : List Value → World → Prop} {rest : List (Oper × Kd)} {l l' : List Value} {m : Md} {d : Tmp} {op : Op} {ty : TypeId} {pos : String} {af : Array Edge} {kd : Kd} {v : Value} {x y z : Operand} {t t2 ti xt yt e T T2 : TypeId} {b b2 o n c n2 c2 sz by_ : Nat} {cs cs' vs ws zs : List Value} {X : World → Prop}
  {k ki kn : IntKind} {a a2 : Option Addr} {xs ys : List Int} {i : Int} {α : Type} {f : α → List Value} {lst lst2 : List α} {q : α} {s u : ByteArray}
theorem J.slt (hk : pureK kd = true) (hx : ev l x = .string s) (hy : ev l y = .string u) (kk : J S0 w0 L (RY S0 w0 m P ops K rest l')) (hl : l.set d (.bool (decide (S.kc s u < 0))) = l' := by dsimp only [List.set]) : J S0 w0 L (RY S0 w0 m P ops K ((⟨some d, .binOp .lss xt x y yt, ty, pos, af, none⟩, kd) :: rest) l) := J.pur hk (fun _ => D.slt hx hy) kk hl
theorem J.sge (hk : pureK kd = true) (hx : ev l x = .string s) (hy : ev l y = .string u) (kk : J S0 w0 L (RY S0 w0 m P ops K rest l')) (hl : l.set d (.bool (decide (0 ≤ S.kc s u))) = l' := by dsimp only [List.set]) : J S0 w0 L (RY S0 w0 m P ops K ((⟨some d, .binOp .geq xt x y yt, ty, pos, af, none⟩, kd) :: rest) l) := J.pur hk (fun _ => D.sge hx hy) kk hl
theorem J.sgt (hk : pureK kd = true) (hx : ev l x = .string s) (hy : ev l y = .string u) (kk : J S0 w0 L (RY S0 w0 m P ops K rest l')) (hl : l.set d (.bool (decide (0 < S.kc s u))) = l' := by dsimp only [List.set]) : J S0 w0 L (RY S0 w0 m P ops K ((⟨some d, .binOp .gtr xt x y yt, ty, pos, af, none⟩, kd) :: rest) l) := J.pur hk (fun _ => D.sgt hx hy) kk hl
theorem J.sle (hk : pureK kd = true) (hx : ev l x = .string s) (hy : ev l y = .string u) (kk : J S0 w0 L (RY S0 w0 m P ops K rest l')) (hl : l.set d (.bool (decide (S.kc s u ≤ 0))) = l' := by dsimp only [List.set]) : J S0 w0 L (RY S0 w0 m P ops K ((⟨some d, .binOp .leq xt x y yt, ty, pos, af, none⟩, kd) :: rest) l) := J.pur hk (fun _ => D.sle hx hy) kk hl
theorem J.eqR {sz : Nat} {p : Prop} [Decidable p] [U : Agg P xt sz] (hk : pureK kd = true) (hx : ev l x = .agg vs.toArray) (hy : ev l y = .agg ws.toArray) (fx : FitsT P 9 xt vs = true) (fy : FitsT P 9 xt ws = true) (he : eqC vs ws = decide p) (kk : J S0 w0 L (RY S0 w0 m P ops K rest l')) (hg : P.eqGuardType P.depth xt = false := by kernel_rfl) (hl : l.set d (.bool (decide p)) = l' := by dsimp only [List.set]) : J S0 w0 L (RY S0 w0 m P ops K ((⟨some d, .binOp .eql xt x y yt, ty, pos, af, none⟩, kd) :: rest) l) :=
  let ⟨_, u1, u2, _⟩ := U.h
  J.pur hk (fun _ => by rw [← he]; exact D.eqA hx hy u1 u2 hg fx fy) kk hl
theorem J.rex {ι : Type} {p : ι → Prop} {F : Ent → List Ent} (e1 : Ent) (e2 : ι → Ent) [R : RE L e1 F] (h : ∀ S w, e1.ok S w → ∃ i, p i ∧ ∀ S', e1.ok S' w → (e2 i).ok S' w) (kk : ∀ i, p i → J S0 w0 (F (e2 i)) X) : J S0 w0 L X := fun w M => by
  obtain ⟨S, _, h2⟩ := M.get (R.h e1).same
  obtain ⟨i, hp, hi⟩ := h S w h2
  obtain ⟨S', h1, h2, h3⟩ := M.foc (R.h (e2 i))
  exact kk i hp w (h3 w S' (Pr.refl _ _) (hi S' h2) fun _ hb => .inl hb)
theorem J.cur {F : Ent → List Ent} (f : α → List Value) (sz : Nat) (e : TypeId) (b n c : Nat) (lst : List α) [R : RE L (.gown f sz e (some ⟨b, 0, none⟩) n c lst) F] (kk : ∀ cur : List Value, (cur.length = c * sz ∧ cur.take (n * sz) = lst.flatMap f ∧ n ≤ c ∧ c ≤ maxLen ∧ lst.length = n) → J S0 w0 (F (.blk b cur e)) X) : J S0 w0 L X :=
  J.rex (.gown f sz e (some ⟨b, 0, none⟩) n c lst) (fun cur => .blk b cur e) (fun S w h => by
    obtain ⟨cur, B, h1, h2, h3, h4, h5⟩ := h.1.blk
    exact ⟨cur, ⟨h3, h4, h1, h2, h.1.len⟩, fun S' h' => ⟨h'.2 b rfl, B⟩⟩) kk
class RBE (L : List Ent) (b : Nat) (cs : outParam (List Value)) (T : outParam TypeId) (F : outParam (Ent → List Ent)) : Prop where h : ∀ e', Rpl L (.blk b cs T) e' (F e')
instance RBE.here {b : Nat} {cs : List Value} {T : TypeId} {L : List Ent} : RBE (.blk b cs T :: L) b cs T (fun e' => e' :: L) := ⟨fun _ => .here⟩
instance (priority := low) RBE.there {b : Nat} {cs : List Value} {T : TypeId} {L : List Ent} {x : Ent} {F : Ent → List Ent} [R : RBE L b cs T F] : RBE (x :: L) b cs T (fun e' => x :: F e') := ⟨fun e' => .there (R.h e')⟩
theorem J.ruc {cur : List Value} {F : Ent → List Ent} (f : α → List Value) (sz : Nat) (e : TypeId) (b n c : Nat) (lst : List α) [R : RBE L b cur e F] (hf : ∀ x, (f x).length = sz) (h1 : cur.length = c * sz) (h2 : cur.take (n * sz) = lst.flatMap f) (h3 : n ≤ c) (h4 : c ≤ maxLen) (h5 : lst.length = n) (kk : J S0 w0 (F (.gown f sz e (some ⟨b, 0, none⟩) n c lst)) X) : J S0 w0 L X := fun w M => by
  obtain ⟨S, h1', h2', h3'⟩ := M.foc (R.h (.gown f sz e (some ⟨b, 0, none⟩) n c lst))
  exact kk w (h3' w S (Pr.refl _ _) ⟨GOwn.of_cur h2'.2 hf h3 h4 h1 h2 h5 (Nat.zero_le _), fun q hq => by simp [obk] at hq; subst hq; exact h2'.1⟩ fun _ hb => .inl hb)
theorem RG.part {F : List Value → List Ent} [R : RB L b cs T F] (hf : ∀ x, (f x).length = sz) (hl : lst.length = n) (h : (cs.drop o).take (n * sz) = lst.flatMap f) : RG S0 w0 L f sz (some ⟨b, o, none⟩) n lst := fun w M =>
  ⟨fun _ => True, .inr ⟨b, o, rfl, trivial, (M.blk (R.h cs).same).cellsN _ h⟩, hl, hf⟩
theorem RG.sub (h : RG S0 w0 L f sz a n lst) (lo hi m : Nat) (hh : hi ≤ n) (hl : lo ≤ hi) (hm : hi ≤ m) : RG S0 w0 L f sz (subA a lo sz m) (hi - lo) ((lst.drop lo).take (hi - lo)) := fun w M => let ⟨S, k⟩ := h w M; ⟨S, k.sub lo hi m hh hl hm⟩
theorem Mem.part {F : List Value → List Ent} [R : RB L b cs T F] {ds : List Value} (M : Mem S0 w0 L w) (h : (cs.drop o).take ds.length = ds) : Row (fun _ => True) w (some ⟨b, o, none⟩) ds :=
  .inr ⟨b, o, rfl, trivial, (M.blk (R.h cs).same).cells h⟩
theorem RG.cells (h : RG S0 w0 L f sz a n lst) (w : World) (M : Mem S0 w0 L w) : ∃ S, Row S w a (lst.flatMap f) := let ⟨S, k⟩ := h w M; ⟨S, k.row⟩
theorem RG.tail {p : Nat} (h : RG S0 w0 L f sz (some ⟨b, 0, none⟩) n lst) (hp : p < n) : RG S0 w0 L f sz (some ⟨b, p * sz, none⟩) (n - p) (lst.drop p) := fun w M => by
  obtain ⟨S, k⟩ := h w M
  have := k.sub p n n (Nat.le_refl _) (by omega) (Nat.le_refl _)
  rw [List.take_of_length_le (by rw [List.length_drop, k.len]; exact Nat.le_refl _)] at this
  unfold subA at this
  rw [if_neg (by omega)] at this
  simp only [Option.map_some, add_mk, Nat.zero_add] at this
  exact ⟨S, this⟩
/-! slices of slices that lie in a block -/
theorem J.slT {o' n' c' : Nat} {lo : Operand} [U : Und P xt (.slice e)] [Z : Siz P e sz] (hk : pureK kd = true) (hx : ev l x = .slice (some ⟨b, o, none⟩) n c) (h1 : ev l lo = .int .i64 i) (kk : J S0 w0 L (RY S0 w0 m P ops K rest l')) (hz : sz ≠ 0 := by decide) (hb : 0 ≤ i ∧ i ≤ n := by omega) (hn : n ≤ c := by omega) (hc : i < c := by omega)
    (ho : o + i.toNat * sz = o' := by rfl) (hn' : n - i.toNat = n' := by rfl) (hc' : c - i.toNat = c' := by rfl) (hl : l.set d (.slice (some ⟨b, o', none⟩) n' c') = l' := by dsimp only [List.set]) :
    J S0 w0 L (RY S0 w0 m P ops K ((⟨some d, .slice xt x (some lo) none none, ty, pos, af, none⟩, kd) :: rest) l) := J.sl hk hx h1 rfl kk hz (by omega) hn (by unfold subA; rw [if_neg (by omega)]; simp only [Option.map_some, add_mk]; rw [ho]) (by rw [← hn']; rfl) hc' hl
theorem J.slP {n' : Nat} {hi : Operand} [U : Und P xt (.slice e)] [Z : Siz P e sz] (hk : pureK kd = true) (hx : ev l x = .slice (some ⟨b, o, none⟩) n c) (h1 : ev l hi = .int .i64 i) (kk : J S0 w0 L (RY S0 w0 m P ops K rest l')) (hz : sz ≠ 0 := by decide) (hb : 0 ≤ i ∧ i ≤ c := by omega) (hn : n ≤ c := by omega)
    (hn' : i.toNat = n' := by rfl) (hl : l.set d (.slice (some ⟨b, o, none⟩) n' c) = l' := by dsimp only [List.set]) :
    J S0 w0 L (RY S0 w0 m P ops K ((⟨some d, .slice xt x none (some hi) none, ty, pos, af, none⟩, kd) :: rest) l) := J.sl hk hx rfl h1 kk hz (by omega) hn (by unfold subA; split <;> simp [add_mk]) (by rw [← hn']; rfl) rfl hl
theorem sl3 {o o' n n' c c' : Nat} (h1 : o = o') (h2 : n = n') (h3 : c = c') : Value.slice (some ⟨b, o, none⟩) n c = .slice (some ⟨b, o', none⟩) n' c' := by subst h1 h2 h3; rfl
theorem J.nilS [U : Und P xt (.slice e)] (hk : pureK kd = true) (hx : ev l x = .slice a n c) (hy : ev l y = .slice none 0 0) (kk : J S0 w0 L (RY S0 w0 m P ops K rest l')) (hl : l.set d (.bool a.isNone) = l' := by dsimp only [List.set]) : J S0 w0 L (RY S0 w0 m P ops K ((⟨some d, .binOp .eql xt x y yt, ty, pos, af, none⟩, kd) :: rest) l) := J.pur hk (fun _ => D.nilS hx hy U.h) kk hl
theorem J.slA [U : Und P xt (.array n e)] [Z : Siz P e 1] (hk : pureK kd = true) (hx : ev l x = .pointer (some ⟨b, o, none⟩)) (kk : J S0 w0 L (RY S0 w0 m P ops K rest l')) (hn : 0 < n := by decide) (hl : l.set d (.slice (some ⟨b, o, none⟩) n n) = l' := by dsimp only [List.set]) : J S0 w0 L (RY S0 w0 m P ops K ((⟨some d, .slice xt x none none none, ty, pos, af, none⟩, kd) :: rest) l) := J.pur hk (fun _ => D.sliceAt hx U.h Z.h hn) kk hl
theorem J.b0G (f : α → List Value) (hf : ∀ x, (f x).length = sz) [U : Und P t (.slice e)] [I : Inf P e sz by_ zs] {l' : Nat → List Value} (hk : okE m kd = true) (kk : ∀ b, J S0 w0 (.gown f sz e (some ⟨b, 0, none⟩) 0 0 [] :: L) (RY S0 w0 m P ops K rest (l' b))) (hl : ∀ b, l.set d (.slice (some ⟨b, 0, none⟩) 0 0) = l' b := by intro b; dsimp only [List.set]) :
    J S0 w0 L (RY S0 w0 m P ops K ((⟨some d, .buildSlice t 0 #[], ty, pos, af, none⟩, kd) :: rest) l) :=
  J.eff hk fun w M K' hK => RS.buildNone U.h I.h fun b w' e1 s1 x1 B => RS.nil (hK _ w' x1 (by
    rw [hl]
    exact kk b w' (M.new x1 (gown_blk (lst := []) ⟨by subst e1; exact Nat.le_refl _, B⟩ hf rfl rfl (by decide)))))
theorem J.b1V (f : α → List Value) (q : α) (hf : ∀ x, (f x).length = 1) [U : Und P t (.slice e)] [I : Inf P e 1 by_ zs] {l' : Nat → List Value} (hk : okE m kd = true) (hx : ev l x = v) (hq : f q = [v]) (hv : v.cells = #[v]) (kk : ∀ b, J S0 w0 (.gown f 1 e (some ⟨b, 0, none⟩) 1 1 [q] :: L) (RY S0 w0 m P ops K rest (l' b)))
    (hl : ∀ b, l.set d (.slice (some ⟨b, 0, none⟩) 1 1) = l' b := by intro b; dsimp only [List.set]) : J S0 w0 L (RY S0 w0 m P ops K ((⟨some d, .buildSlice t 1 #[(0, x)], ty, pos, af, none⟩, kd) :: rest) l) :=
  J.eff hk fun w M K' hK => RS.buildSlice (xs := [x]) (vs := [v]) (cs := [v]) U.h I.h (by decide) rfl rfl rfl (by simp [hx]) rfl (by simp [hv]) (by intro u hu; simp only [List.mem_cons, List.not_mem_nil, or_false] at hu; subst hu; simp [hv]) rfl fun b w' e1 s1 x1 B => RS.nil (hK _ w' x1 (by
    rw [hl]
    exact kk b w' (M.new x1 (gown_blk (lst := [q]) ⟨by subst e1; exact Nat.le_refl _, B⟩ hf (by simp [hq]) rfl (by decide)))))
theorem GRow.none {S : Nat → Prop} {w : World} (h : GRow f sz S w a n lst) (hz : 0 < sz) (ha : a.isNone = true) : n = 0 ∧ lst = [] := by
  have hn : n = 0 := by
    apply Classical.byContradiction
    intro hn
    obtain ⟨q, hq⟩ := h.ex (i := 0) (by omega)
    obtain ⟨b, o, h1, _⟩ := h.get (i := 0) hz hq (by omega)
    rw [h1] at ha
    cases ha
  exact ⟨hn, List.eq_nil_of_length_eq_zero (by rw [h.len, hn])⟩
theorem J.flGG {o1 o2 off : Nat} [F : Fld P xt o off] (hx : ev l x = pt a (i.toNat * sz + o1)) (hR : RG S0 w0 (Lv m L) f sz a n lst) (kk : J S0 w0 L (RY S0 w0 m P ops K rest l')) (ho : o1 + off = o2 := by rfl) (hz : 0 < sz := by decide) (hi : 0 ≤ i ∧ i < n := by omega) (hl : l.set d (pt a (i.toNat * sz + o2)) = l' := by dsimp only [List.set]) :
    J S0 w0 L (RY S0 w0 m P ops K ((⟨some d, .fieldAddr xt x o, ty, pos, af, none⟩, .q) :: rest) l) :=
  J.val (fun w M => by
    obtain ⟨S, h⟩ := hR w M
    obtain ⟨q, hq⟩ := h.ex hi
    obtain ⟨b, o', ha, _, hc⟩ := h.get hz hq hi
    obtain ⟨fs, f, sz', h1, h2, h3, h4, rfl⟩ := F.h
    subst ho
    rw [pt_some ha] at hx
    rw [pt_some ha, ← Nat.add_assoc, ← Nat.add_assoc]
    rw [← Nat.add_assoc] at hx
    exact D.fieldAddr hx h1 h2 h3 h4) kk hl
theorem J.ldGa {off s1 : Nat} [U : Agg P xt s1] (hx : ev l x = pt a (i.toNat * sz + off)) (hR : RG S0 w0 (Lv m L) f sz a n lst) (kk : J S0 w0 L (RY S0 w0 m P ops K rest l')) {q : α} (hq : lst[i.toNat]? = some q := by assumption) (hf : ((f q).drop off).take s1 = vs := by dsimp only [List.drop, List.take]) (hn : vs.length = s1 := by rfl) (ho : Nat.ble (off + s1) sz = true := by rfl) (hs1 : s1 ≠ 0 := by decide) (hi : 0 ≤ i ∧ i < n := by omega) (hl : l.set d (.agg vs.toArray) = l' := by dsimp only [List.set]) :
    J S0 w0 L (RY S0 w0 m P ops K ((⟨some d, .load xt x, ty, pos, af, none⟩, .q) :: rest) l) :=
  J.val (fun w M => by
    obtain ⟨S, h⟩ := hR w M
    have ho := Nat.le_of_ble_eq_true ho
    obtain ⟨b, o', ha, _, hc⟩ := h.get (by omega) hq hi
    obtain ⟨_, u1, u2, u3⟩ := U.h
    refine D.loadAgg (by rw [hx, pt_some ha]) u1 u2 u3 hs1 hn ?_
    intro j hj
    have h1 := hc (off + j) (by rw [h.szf]; omega)
    rw [show o' + i.toNat * sz + (off + j) = o' + (i.toNat * sz + off) + j by omega] at h1
    rw [h1, ← hf]
    simp only [List.getD_eq_getElem?_getD, List.getElem?_take, List.getElem?_drop]
    rw [if_pos (by omega)]) kk hl
theorem RI.part {F : List Value → List Ent} [R : RB L b cs T F] (h : (cs.drop o).take n = ints k xs) (hl : xs.length = n) (hb : Bd k xs) : RI S0 w0 L k (some ⟨b, o, none⟩) n xs := fun w M =>
  ⟨fun _ => True, .inr ⟨b, o, rfl, trivial, (M.blk (R.h cs).same).cellsN _ h⟩, hl, hb⟩
end
/-! records that are built, part by part -/
inductive EvP (l : List Value) : List (Nat × Operand) → List (Nat × Value) → List (Nat × List Value) → Prop
  | nil : EvP l [] [] []
  | cons {i : Nat} {x : Operand} {v : Value} {vs : List Value} {r : List (Nat × Operand)} {ps : List (Nat × Value)} {qs : List (Nat × List Value)} (h : ev l x = v) (hc : v.cells = vs.toArray) (t : EvP l r ps qs) : EvP l ((i, x) :: r) ((i, v) :: ps) ((i, vs) :: qs)
def ofS : List (Nat × Nat) → Nat → Nat
  | [], _ => 0
  | x :: _, 0 => x.1
  | _ :: r, n + 1 => ofS r n
theorem ofS_eq : ∀ (pl : List (Nat × Nat)) (i : Nat), ofS pl i = (pl.getD i (0, 0)).1
  | [], _ => by simp [ofS]
  | _ :: _, 0 => rfl
  | _ :: r, n + 1 => by rw [ofS, ofS_eq r n]; simp [List.getD_eq_getElem?_getD]
def fillS (pl : List (Nat × Nat)) (cs : List Value) : List (Nat × List Value) → List Value
  | [] => cs
  | (i, vs) :: r => fillS pl (splice cs (ofS pl i) vs) r
def fillO (pl : List (Nat × Nat)) (n : Nat) : List (Nat × List Value) → Bool
  | [] => true
  | (i, vs) :: r => (Nat.blt i pl.length && (Nat.beq vs.length (pl.getD i (0, 0)).2 && Nat.ble ((pl.getD i (0, 0)).1 + vs.length) n)) && fillO pl n r
theorem EvP.fill {l : List Value} {pl : List (Nat × Nat)} {r : List (Nat × Operand)} {ps : List (Nat × Value)} {qs : List (Nat × List Value)} (h : EvP l r ps qs) : r.map (fun p => (p.1, ev l p.2)) = ps ∧ ∀ cs : List Value, fillO pl cs.length qs = true → fillL pl cs ps = some (fillS pl cs qs) := by
  induction h with
  | nil => exact ⟨rfl, fun cs _ => rfl⟩
  | @cons i x v vs r ps qs h hc _ ih =>
    refine ⟨by rw [List.map_cons, ih.1, h], fun cs ho => ?_⟩
    unfold fillO at ho
    rw [Bool.and_eq_true, Bool.and_eq_true, Bool.and_eq_true] at ho
    obtain ⟨⟨h1, h2, h3⟩, h4⟩ := ho
    have hi : i < pl.length := by rw [Nat.blt_eq] at h1; exact h1
    have hg : pl[i]? = some (pl.getD i (0, 0)) := by rw [List.getD_eq_getElem?_getD, List.getElem?_eq_getElem hi]; rfl
    unfold fillL fillS
    rw [hg, ofS_eq]
    have hsz : v.cells.size = vs.length := by rw [hc]; simp
    simp only [hsz]
    rw [if_pos (by rw [h2, h3]; rfl), show v.cells.toList = vs by rw [hc]]
    exact ih.2 _ (by rw [splice_length]; exact h4)
theorem J.bd {S0 : Nat → Prop} {w0 : World} {L : List Ent} {P : Program} {ops : Array Oper} {K : List Value → World → Prop} {rest : List (Oper × Kd)} {l l' : List Value} {m : Md} {d : Tmp} {ty xt : TypeId} {pos : String} {af : Array Edge} {kd : Kd}
    {parts : Array (Nat × Operand)} {pl : List (Nat × Nat)} {sz by_ : Nat} {zs cs : List Value} {ps : List (Nat × Value)} {qs : List (Nat × List Value)} [I : Inf P xt sz by_ zs] [I2 : SInf P xt pl] (hk : pureK kd = true) (kk : J S0 w0 L (RY S0 w0 m P ops K rest l'))
    (hv : EvP l parts.toList ps qs := by repeat (first | exact EvP.nil | (apply EvP.cons; (· ((conv => lhs; whnf) <;> rfl)); (· rfl)))) (ho : fillO pl zs.length qs = true := by rfl) (hf : fillS pl zs qs = cs := by dsimp only [fillS, ofS, splice, List.set, Nat.reduceAdd]) (hl : l.set d (.agg cs.toArray) = l' := by dsimp only [List.set]) :
    J S0 w0 L (RY S0 w0 m P ops K ((⟨some d, .build xt parts, ty, pos, af, none⟩, kd) :: rest) l) :=
  J.bs hk (hv.fill (pl := pl)).1 kk (by rw [← hf]; exact (hv.fill (pl := pl)).2 zs ho) hl
def Gw {β : Type} (w : World) (f : β → List Value) (sz : Nat) (e : TypeId) (a : Option Addr) (lst : List β) (nd : Ending) (w' : World) : Prop :=
  ∃ a' c', nd = .returned (.slice a' lst.length c') ∧ Pr (fun b => obk a = some b) w w' ∧ GOwn f sz 0 w' e a' lst.length c' lst ∧ ∀ b, obk a' = some b → obk a = some b ∨ w.heap.size ≤ b
section
variable {S0 : Nat → Prop} {w0 w : World} {L : List Ent} {P : Program} {ops : Array Oper} {K : List Value → World → Prop} {rest : List (Oper × Kd)} {l : List Value} {m : Md} {d : Tmp} {ty : TypeId} {pos : String} {af : Array Edge} {kd : Kd} {β : Type} {f : β → List Value} {sz n c : Nat} {e : TypeId} {a : Option Addr} {lst lst' : List β} {F : Option Addr → Nat → Nat → List β → List Ent} {fi : FuncId} {args : Array Operand} {av : List Value} {ts : Array TypeId}
theorem J.callG {l' : Option Addr → Nat → List Value} [E : Ents P fi] (ha : args.toList.map (ev l) = av) [R : GO L a f sz e n c lst F] (h : ∀ w, Mem S0 w0 L w → GOwn f sz 0 w e a n c lst → Calls P fi av.toArray w (Gw w f sz e a lst'))
    (k : ∀ a' c', J S0 w0 (F a' lst'.length c' lst') (RY S0 w0 m P ops K rest (l' a' c'))) (hl : ∀ a' c', l.set d (.slice a' lst'.length c') = l' a' c' := by intro a' c'; dsimp only [List.set]) (hk : ∀ a' c', okG m kd (F a' lst'.length c' lst') := by first | exact fun _ _ => trivial | (intro _ _; repeat (first | exact List.Sublist.refl _ | refine List.Sublist.cons_cons _ ?_ | refine List.Sublist.cons _ ?_))) :
    J S0 w0 L (RY S0 w0 m P ops K ((⟨some d, .call { callee := .value (.func fi), args := args, argTypes := ts }, ty, pos, af, none⟩, kd) :: rest) l) :=
  J.bigs (ι := Option Addr × Nat) (Ls := fun i => F i.1 lst'.length i.2 lst') (none, 0) (fun i => hk i.1 i.2) fun w M K' hK => by
    obtain ⟨S, _, q1⟩ := M.get (R.h a n c lst).same
    refine RS.callx E.h (h w M q1.1) ha fun nd w' hR => ?_
    obtain ⟨a', c', h1, h2, h3, h4⟩ := hR
    refine ⟨_, h1, RS.nil ?_⟩
    obtain ⟨S2, g1, g2, g3⟩ := M.foc (R.h a' lst'.length c' lst')
    have M' := g3 w' (fun b => obk a' = some b) (h2.mono fun b hb => g2.2 b hb) ⟨h3, fun b hb => hb⟩ fun b hb => (h4 b hb).imp_left (g2.2 b)
    refine hK _ w' (a', c') M' ?_
    rw [hl]
    exact k a' c' w' M'
theorem J.enterG {fn : Func} {c0 : Code} {R : Ending → World → Prop} (u : Nat) (hO : GOwn f sz 0 w0 e a n c lst) (hf : P.funcs[fi]? = some fn) (hb : fn.body = some c0) (hu : fn.ntmps - av.length = u) (h : J (fun b => obk a = some b) w0 [.gown f sz e a n c lst] (c0.wp P (bodyPost P fn R) (fr l))) (hl : av ++ List.replicate u undef = l := by dsimp only [List.reduceReplicate, List.cons_append, List.nil_append]) : Calls P fi av.toArray w0 R :=
  enterU u hf hb hu (h w0 ⟨Pr.refl _ _, _, no, fun b hb => .inl hb, fun b hb => hb.elim, fun b _ hb => hb, ⟨hO, fun b hb => hb⟩, trivial⟩) hl
theorem J.finW {a' : Option Addr} {n' c' : Nat} {v : Value} [R : GO L a' f sz e n' c' lst' F] (hv : v = .slice a' n' c') : J (fun b => obk a = some b) w0 L (Gw w0 f sz e a lst' (.returned v)) := fun w M => by
  obtain ⟨S, h1, h2⟩ := M.get (R.h a' n' c' lst').same
  obtain rfl := h2.1.len
  exact ⟨a', c', by rw [hv], M.pr, h2.1, fun b hb => (h1 b (h2.2 b hb)).1⟩
end
end Go.Proofs.YtkmaenmhcgohbaaGreatDoor.G
namespace Go.Proofs.YtkmaenmhcgohbaaGreatDoor.G
open Go.RowKit
set_option linter.unusedVariables false
section
variable {S0 : Nat → Prop} {w0 : World} {L : List Ent} {X : World → Prop}
variable {m : Md} {P : Program} {ops : Array Oper} {K : List Value → World → Prop} {rest : List (Oper × Kd)} {l : List Value} {dd : Option Tmp} {ty : TypeId} {pos : String} {af : Array Edge} {kd : Kd} {g : Option (Nat × Bool)}
theorem J.tm {x : Operand} (h : J S0 w0 L (RY S0 w0 m P ops K ((⟨dd, .move x, ty, pos, af, none⟩, kd) :: rest) l)) : J S0 w0 L (RY S0 w0 m P ops K ((⟨dd, .move x, ty, pos, af, none⟩, kd) :: rest) l) := h
theorem J.ta {x : Operand} (h : J S0 w0 L (RY S0 w0 m P ops K ((⟨dd, .assign x, ty, pos, af, none⟩, kd) :: rest) l)) : J S0 w0 L (RY S0 w0 m P ops K ((⟨dd, .assign x, ty, pos, af, none⟩, kd) :: rest) l) := h
theorem J.tb (b : BinOp) {xt yt : TypeId} {x y : Operand} (h : J S0 w0 L (RY S0 w0 m P ops K ((⟨dd, .binOp b xt x y yt, ty, pos, af, none⟩, kd) :: rest) l)) : J S0 w0 L (RY S0 w0 m P ops K ((⟨dd, .binOp b xt x y yt, ty, pos, af, none⟩, kd) :: rest) l) := h
theorem J.tl {xt : TypeId} {x : Operand} (h : J S0 w0 L (RY S0 w0 m P ops K ((⟨dd, .load xt x, ty, pos, af, none⟩, kd) :: rest) l)) : J S0 w0 L (RY S0 w0 m P ops K ((⟨dd, .load xt x, ty, pos, af, none⟩, kd) :: rest) l) := h
theorem J.ts {xt : TypeId} {x y : Operand} (h : J S0 w0 L (RY S0 w0 m P ops K ((⟨dd, .store xt x y, ty, pos, af, none⟩, kd) :: rest) l)) : J S0 w0 L (RY S0 w0 m P ops K ((⟨dd, .store xt x y, ty, pos, af, none⟩, kd) :: rest) l) := h
theorem J.tf {xt : TypeId} {x : Operand} {i : Nat} (h : J S0 w0 L (RY S0 w0 m P ops K ((⟨dd, .fieldAddr xt x i, ty, pos, af, none⟩, kd) :: rest) l)) : J S0 w0 L (RY S0 w0 m P ops K ((⟨dd, .fieldAddr xt x i, ty, pos, af, none⟩, kd) :: rest) l) := h
theorem J.tx {x : Operand} {i : Nat} (h : J S0 w0 L (RY S0 w0 m P ops K ((⟨dd, .extract x i, ty, pos, af, none⟩, kd) :: rest) l)) : J S0 w0 L (RY S0 w0 m P ops K ((⟨dd, .extract x i, ty, pos, af, none⟩, kd) :: rest) l) := h
theorem J.tc (bi : Builtin) {args : Array Operand} {ts : Array TypeId} (h : J S0 w0 L (RY S0 w0 m P ops K ((⟨dd, .call { callee := .builtin bi, args := args, argTypes := ts }, ty, pos, af, none⟩, kd) :: rest) l)) : J S0 w0 L (RY S0 w0 m P ops K ((⟨dd, .call { callee := .builtin bi, args := args, argTypes := ts }, ty, pos, af, none⟩, kd) :: rest) l) := h
theorem J.ti {xt : TypeId} {x y : Operand} (h : J S0 w0 L (RY S0 w0 m P ops K ((⟨dd, .indexAddr xt x y, ty, pos, af, none⟩, kd) :: rest) l)) : J S0 w0 L (RY S0 w0 m P ops K ((⟨dd, .indexAddr xt x y, ty, pos, af, none⟩, kd) :: rest) l) := h
theorem J.tu {b : UnOp} {xt : TypeId} {x : Operand} (h : J S0 w0 L (RY S0 w0 m P ops K ((⟨dd, .unOp b xt x, ty, pos, af, none⟩, kd) :: rest) l)) : J S0 w0 L (RY S0 w0 m P ops K ((⟨dd, .unOp b xt x, ty, pos, af, none⟩, kd) :: rest) l) := h
theorem J.tp {x y z : Operand} (h : J S0 w0 L (RY S0 w0 m P ops K ((⟨dd, .pick x y z, ty, pos, af, none⟩, kd) :: rest) l)) : J S0 w0 L (RY S0 w0 m P ops K ((⟨dd, .pick x y z, ty, pos, af, none⟩, kd) :: rest) l) := h
theorem J.tv {xt yt : TypeId} {x : Operand} (h : J S0 w0 L (RY S0 w0 m P ops K ((⟨dd, .convert xt yt x, ty, pos, af, none⟩, kd) :: rest) l)) : J S0 w0 L (RY S0 w0 m P ops K ((⟨dd, .convert xt yt x, ty, pos, af, none⟩, kd) :: rest) l) := h
theorem J.tk {x : Operand} (h : J S0 w0 L (RY S0 w0 m P ops K ((⟨dd, .nilCheck x, ty, pos, af, none⟩, kd) :: rest) l)) : J S0 w0 L (RY S0 w0 m P ops K ((⟨dd, .nilCheck x, ty, pos, af, none⟩, kd) :: rest) l) := h
theorem J.tq {xt : TypeId} {x : Operand} {lo hi : Option Operand} (h : J S0 w0 L (RY S0 w0 m P ops K ((⟨dd, .slice xt x lo hi none, ty, pos, af, none⟩, kd) :: rest) l)) : J S0 w0 L (RY S0 w0 m P ops K ((⟨dd, .slice xt x lo hi none, ty, pos, af, none⟩, kd) :: rest) l) := h
theorem J.td {xt : TypeId} {ps : Array (Nat × Operand)} (h : J S0 w0 L (RY S0 w0 m P ops K ((⟨dd, .build xt ps, ty, pos, af, none⟩, kd) :: rest) l)) : J S0 w0 L (RY S0 w0 m P ops K ((⟨dd, .build xt ps, ty, pos, af, none⟩, kd) :: rest) l) := h
theorem J.tz {xt : TypeId} {x : Operand} {i : Nat} (h : J S0 w0 L (RY S0 w0 m P ops K ((⟨dd, .field xt x i, ty, pos, af, none⟩, kd) :: rest) l)) : J S0 w0 L (RY S0 w0 m P ops K ((⟨dd, .field xt x i, ty, pos, af, none⟩, kd) :: rest) l) := h
theorem J.tg {op : Op} {j : Nat} {t : Bool} (h : J S0 w0 L (RY S0 w0 m P ops K ((⟨dd, op, ty, pos, af, some (j, t)⟩, kd) :: rest) l)) : J S0 w0 L (RY S0 w0 m P ops K ((⟨dd, op, ty, pos, af, some (j, t)⟩, kd) :: rest) l) := h
theorem J.tr {op : Oper} (h : J S0 w0 L (RY S0 w0 m P ops K ((op, kd) :: rest) l)) : J S0 w0 L (RY S0 w0 m P ops K ((op, kd) :: rest) l) := h
theorem ex {α : Type} (a : α) : ∃ z, z = a := ⟨a, rfl⟩
structure Hold (q : Prop) : Prop where out : q
theorem run {q : Prop} (k : q) (h : Hold q → J S0 w0 L X := by
  intro k
  repeat (first
    | (refine J.tr ?_; first
      | (refine J.tm ?_; refine J.mv rfl ?_)
      | (refine J.ta ?_; refine J.as rfl ?_)
      | (refine J.tf ?_; first | refine J.fl rfl rfl ?_ | refine J.flG rfl (by first | exact RG.own' | exact RG.arg (by assumption) | exact RG.row') ?_ | refine J.flGG rfl (by first | exact RG.own' | exact RG.arg (by assumption) | exact RG.row') ?_)
      | (refine J.tl ?_; first | refine J.ld rfl ?_ | refine J.lda rfl ?_ | refine J.ldI rfl (by first | exact RI.own' | exact RI.arg (by assumption) | exact RI.row') ?_ | refine J.ldW rfl (by first | exact RW.own' | exact RW.arg (by assumption) | exact RW.row') ?_ | refine J.ldG rfl (by first | exact RG.own' | exact RG.arg (by assumption) | exact RG.row') ?_ | refine J.ldGf rfl (by first | exact RG.own' | exact RG.arg (by assumption) | exact RG.row') ?_ | refine J.ldG1 rfl (by first | exact RG.own' | exact RG.arg (by assumption) | exact RG.row') ?_ | refine J.ldGa rfl (by first | exact RG.own' | exact RG.arg (by assumption) | exact RG.row') ?_ | refine J.ldp rfl ?_)
      | (refine J.tb .lss ?_; first | refine J.lt rfl rfl rfl ?_ | refine J.slt rfl rfl rfl ?_)
      | (refine J.tb .eql ?_; first | refine J.eq rfl rfl rfl ?_ | refine J.seq rfl rfl rfl ?_ | refine J.eqb rfl rfl rfl ?_ | refine J.eqI rfl rfl rfl ?_ | refine J.nilS rfl rfl rfl ?_)
      | (refine J.tb .neq ?_; first | refine J.ne rfl rfl rfl ?_ | refine J.sne rfl rfl rfl ?_ | refine J.neb rfl rfl rfl ?_ | refine J.neI rfl rfl rfl ?_)
      | (refine J.tb .add ?_; refine J.add rfl rfl rfl ?_)
      | (refine J.tb .geq ?_; first | refine J.ge rfl rfl rfl ?_ | refine J.sge rfl rfl rfl ?_)
      | (refine J.tb .gtr ?_; first | refine J.gt rfl rfl rfl ?_ | refine J.sgt rfl rfl rfl ?_)
      | (refine J.tb .leq ?_; first | refine J.le rfl rfl rfl ?_ | refine J.sle rfl rfl rfl ?_)
      | (refine J.tb .sub ?_; refine J.sub rfl rfl rfl ?_)
      | (refine J.tx ?_; refine J.ex rfl rfl ?_)
      | (refine J.tc .len ?_; first | refine J.ln rfl rfl ?_ | refine J.lns rfl rfl ?_)
      | (refine J.ti ?_; first | refine J.idxI rfl rfl (by first | exact RI.own' | exact RI.arg (by assumption) | exact RI.row') ?_ | refine J.idxW rfl rfl (by first | exact RW.own' | exact RW.arg (by assumption) | exact RW.row') ?_ | refine J.idxG rfl rfl (by first | exact RG.own' | exact RG.arg (by assumption) | exact RG.row') ?_ | refine J.idxS rfl rfl rfl ?_)
      | (refine J.ts ?_; first | refine J.st rfl ?_ | refine J.staw rfl rfl ?_ | refine J.sta rfl rfl ?_ | refine J.stI rfl rfl ?_)
      | (refine J.tg ?_; first | refine J.want rfl rfl rfl ?_ | refine J.skipg rfl rfl rfl rfl ?_ | refine J.skipu rfl rfl rfl ?_)
      | (refine J.tk ?_; refine J.nc rfl rfl ?_)
      | (refine J.tu ?_; refine J.not rfl rfl ?_)
      | (refine J.tp ?_; refine J.pk rfl rfl ?_)
      | (refine J.tv ?_; refine J.cv rfl rfl ?_)
      | (refine J.td ?_; first | refine J.bd rfl ?_ | refine J.bs rfl rfl ?_)
      | (refine J.tq ?_; first | refine J.slT rfl rfl rfl ?_ | refine J.slP rfl rfl rfl ?_ | refine J.sl rfl rfl rfl rfl ?_ | refine J.slA rfl rfl ?_)
      | (refine J.tc .cap ?_; refine J.cp rfl rfl ?_)
      | (refine J.tz ?_; refine J.fz rfl rfl ?_)
      | (refine J.tc .max ?_; refine J.mx rfl rfl rfl ?_)
      | (refine J.tb .shr ?_; refine J.shr rfl rfl rfl ?_)
      | (refine J.tb .mul ?_; refine J.mul rfl rfl rfl ?_)
      | (refine J.tb .quo ?_; refine J.quo rfl rfl rfl ?_)
      | (refine J.tb .rem ?_; refine J.rem rfl rfl rfl ?_))
    | refine J.nilN ?_
    | refine J.thn ?_
    | refine J.sq ?_
    | refine J.region ?_
    | refine J.ift rfl ?_
    | refine J.iff rfl ?_
    | refine J.block ?_
    | refine J.skip ?_
    | refine J.exit ?_
    | refine J.the ?_
    | refine J.ibe ?_
    | refine J.ibn ?_
    | refine J.ibx rfl ?_
    | refine J.retc ?_
    | refine J.thr ?_
    | refine J.ibr ?_
    | refine J.retN ?_
    | (refine J.tret ?_; first | refine J.ret1 rfl ?_ | refine J.ret2 rfl ?_ | refine J.ret3 rfl ?_ | refine J.ret4 rfl ?_ | refine J.ret0 rfl ?_)
    | refine J.tfin ?_
    | refine J.tbr ?_
    | (refine J.nil ?_; refine J.kr ?_))
  exact k.out) : J S0 w0 L X := h ⟨k⟩
end
end Go.Proofs.YtkmaenmhcgohbaaGreatDoor.G
namespace Go.Proofs.YtkmaenmhcgohbaaGreatDoor.W
open Go.RowKit Go.Proofs.YtkmaenmhcgohbaaGreatDoor.G
theorem tup2 {a a' b b' : Value} (h : a = a') (k : b = b') : Value.tuple #[a, b] = .tuple #[a', b'] := by rw [h, k]
theorem beq_dec {a b : Int} {p : Prop} [Decidable p] (h : a = b ↔ p) : (a == b) = decide p := by rw [Bool.eq_iff_iff]; simpa using h
structure OpA where
  (o : S.OpV) (pa : Option Addr) (pc : Nat)
@[reducible] def opC (z : OpA) : List Value := [.int .u32 z.o.au, .slice z.pa z.o.n z.pc, .int .u64 z.o.st, .int .u8 z.o.k, .string z.o.key, .int .u8 z.o.vk, .int .i64 z.o.num, .int .u64 z.o.bits, .string z.o.t, .int .u32 z.o.e, .int .u32 z.o.s]
@[reducible] def opI (z : OpA) : List Inn := [⟨.u8, 32, z.pa, z.o.n, z.pc, z.o.ids⟩]
structure OpR (S0 : Nat → Prop) (w : World) (z : OpA) : Prop where
  ok : z.o.ok
  row : WRow .u8 32 S0 w z.pa z.o.n z.o.ids
  cap : z.o.n ≤ z.pc
structure GrA where
  (ia oa : Option Addr) (m n ic oc : Nat) (ids : List Int) (zs : List OpA)
@[reducible] def grC (g : GrA) : List Value := [.slice g.ia g.m g.ic, .slice g.oa g.n g.oc]
def GrA.ops (g : GrA) : List S.OpV := g.zs.map OpA.o
structure GrR (S0 : Nat → Prop) (w : World) (g : GrA) : Prop where
  ids : WRow .u8 32 S0 w g.ia g.m g.ids
  ops : GRow opC 11 S0 w g.oa g.n g.zs
  inn : Inns opI S0 w g.zs
  ok : ∀ z ∈ g.zs, z.o.ok
  cap : g.m ≤ g.ic ∧ g.n ≤ g.oc ∧ g.m ≤ 70 ∧ g.n ≤ 70
section
variable {S0 : Nat → Prop} {w w' : World} {z : OpA} {g : GrA}
theorem OpR.ext (h : OpR S0 w z) (x : Ext w w') : OpR S0 w' z := ⟨h.ok, h.row.ext x, h.cap⟩
theorem GrR.ext (h : GrR S0 w g) (x : Ext w w') : GrR S0 w' g := ⟨h.ids.ext x, h.ops.ext x, h.inn.ext x, h.ok, h.cap⟩
theorem GrR.op (h : GrR S0 w g) {i : Nat} (hz : g.zs[i]? = some z) : OpR S0 w z :=
  have hm := List.mem_of_getElem? hz
  have h1 := h.inn z hm ⟨.u8, 32, z.pa, z.o.n, z.pc, z.o.ids⟩ (List.mem_singleton.2 rfl)
  ⟨h.ok z hm, h1.1, h1.2⟩
theorem GrR.len (h : GrR S0 w g) : g.ops.length = g.n := (List.length_map _).trans h.ops.len
end
end Go.Proofs.YtkmaenmhcgohbaaGreatDoor.W
namespace Go.Proofs.YtkmaenmhcgohbaaGreatDoor.W
open Go.RowKit Go.Proofs.YtkmaenmhcgohbaaGreatDoor.G
set_option linter.unusedVariables false
set_option linter.unusedSimpArgs false
set_option maxRecDepth 20000
set_option maxHeartbeats 8000000
attribute [local irreducible] RS RX RY Code.wp bodyPost J Ent.blk Ent.irow Ent.iown Ent.wrow Ent.wown Ent.grow Ent.gown Ent.all Ent.emp
instance : Und Tryz.prog 38 (.slice 27) := ⟨Tryz.underlying38⟩
instance : Und Tryz.prog 3 (.int .i64) := ⟨Tryz.underlying3⟩
instance : Und Tryz.prog 275 (.int .u64) := ⟨Tryz.underlying275⟩
instance : Siz Tryz.prog 27 32 := ⟨by kernel_rfl⟩
instance : Agg Tryz.prog 27 32 := ⟨_, Tryz.underlying27, rfl, by kernel_rfl⟩
instance : Und Tryz.prog 27 (.array 32 5) := ⟨Tryz.underlying27⟩
instance : Ents Tryz.prog 126 := ⟨.mk Tryz.func126 (by kernel_rfl) rfl⟩
instance : Fld Tryz.prog 56 0 0 := ⟨_, _, 1, Tryz.underlying56, rfl, by kernel_rfl, by decide, rfl⟩
instance : Sca Tryz.prog 38 := ⟨_, Tryz.underlying38, rfl⟩
instance : Ents Tryz.prog 125 := ⟨.mk Tryz.func125 (by kernel_rfl) rfl⟩
instance : Fld Tryz.prog 56 1 1 := ⟨_, _, 1, Tryz.underlying56, rfl, by kernel_rfl, by decide, rfl⟩
instance : Sca Tryz.prog 54 := ⟨_, Tryz.underlying54, rfl⟩
instance : Und Tryz.prog 54 (.slice 44) := ⟨Tryz.underlying54⟩
instance : Und Tryz.prog 228 (.slice 3) := ⟨Tryz.underlying228⟩
instance : Inf Tryz.prog 3 1 8 [.int .i64 0] := ⟨TI.of (v := .int .i64 0) (by kernel_rfl) rfl⟩
instance : Siz Tryz.prog 3 1 := ⟨by kernel_rfl⟩
instance : Und Tryz.prog 301 (.slice 228) := ⟨Tryz.underlying301⟩
instance : Inf Tryz.prog 228 1 24 [.slice none 0 0] := ⟨TI.of (v := .slice none 0 0) (by kernel_rfl) rfl⟩
instance : Siz Tryz.prog 228 1 := ⟨by kernel_rfl⟩
instance : Siz Tryz.prog 44 11 := ⟨by kernel_rfl⟩
instance : Agg Tryz.prog 44 11 := ⟨_, Tryz.underlying44, rfl, by kernel_rfl⟩
instance : Inf Tryz.prog 44 11 112 [.int .u32 0, .slice none 0 0, .int .u64 0, .int .u8 0, .string .empty, .int .u8 0, .int .i64 0, .int .u64 0, .string .empty, .int .u32 0, .int .u32 0] := ⟨TI.of (v := .agg #[.int .u32 0, .slice none 0 0, .int .u64 0, .int .u8 0, .string .empty, .int .u8 0, .int .i64 0, .int .u64 0, .string .empty, .int .u32 0, .int .u32 0]) (by kernel_rfl) rfl⟩
instance : Fld Tryz.prog 44 1 1 := ⟨_, _, 1, Tryz.underlying44, rfl, by kernel_rfl, by decide, rfl⟩
instance : Inf Tryz.prog 27 32 32 (ints .u8 (List.replicate 32 0)) := ⟨TI.of (v := .agg ((ints .u8 (List.replicate 32 0))).toArray) (by kernel_rfl) rfl⟩
instance : Agg Tryz.prog 56 2 := ⟨_, Tryz.underlying56, rfl, by kernel_rfl⟩
instance : Ents Tryz.prog 230 := ⟨.mk Tryz.func230 (by kernel_rfl) rfl⟩
instance : Sca Tryz.prog 228 := ⟨_, Tryz.underlying228, rfl⟩
instance : Sca Tryz.prog 3 := ⟨_, Tryz.underlying3, rfl⟩
instance : Ents Tryz.prog 80 := ⟨.mk Tryz.func80 (by kernel_rfl) rfl⟩
instance : Und Tryz.prog 34 (.int .i64) := ⟨Tryz.underlying34⟩
instance : Und Tryz.prog 5 (.int .u8) := ⟨Tryz.underlying5⟩
instance : Siz Tryz.prog 5 1 := ⟨by kernel_rfl⟩
instance : Ents Tryz.prog 117 := ⟨.mk Tryz.func117 (by kernel_rfl) rfl⟩
instance : Ents Tryz.prog 168 := ⟨.mk Tryz.func168 (by kernel_rfl) rfl⟩
theorem cloneW {S0 : Nat → Prop} (a : Option Addr) (n c : Nat) (ids : List Int) (w : World) (D0 : WRow .u8 32 S0 w a n ids) (hc : n ≤ c) (hn : n ≤ 1000) :
  Calls Tryz.prog 101 #[.slice a n c] w (Gv w (fun q : Option Addr × Nat => .slice q.1 n q.2) (fun q => [.wown 27 .u8 32 q.1 n q.2 ids]) fun q => n ≤ q.2) :=
 Gv.of (cloneID a n c ids w D0 hc hn) fun v w' x ⟨a', n', c', hv, hn', O⟩ => ⟨(a', c'), by rw [hv, hn'], by subst hn'; exact O.own.cap.1, sep1 (by subst hn'; exact wown_ok O)⟩
end Go.Proofs.YtkmaenmhcgohbaaGreatDoor.W
namespace Go.Proofs.YtkmaenmhcgohbaaGreatDoor.S
open G
structure HvS (ids : List Int) (rd : List Nat) (hv : List Int) : Prop where
  len : hv.length = 32 * rd.length
  at_ : ∀ k, k < rd.length → idAt hv k = idAt ids (rd.getD k 0)
theorem HvS.first (ids : List Int) : HvS ids [] [] := ⟨rfl, fun k hk => by cases hk⟩
theorem HvS.snoc {ids hv : List Int} {rd : List Nat} {i m : Nat} (h : HvS ids rd hv) (hl : ids.length = 32 * m) (hi : i < m) : HvS ids (rd ++ [i]) (hv ++ idAt ids i) := by
  have h32 := idAt_len ids i m hl hi
  refine ⟨by rw [List.length_append, List.length_append, h.len, h32, List.length_singleton]; omega, fun k hk => ?_⟩
  rw [List.length_append, List.length_singleton] at hk
  rw [getD_snoc]
  by_cases e : k < rd.length
  · rw [if_pos e, ← h.at_ k e]
    unfold idAt
    rw [List.drop_append_of_le_length (by rw [h.len]; omega), List.take_append_of_le_length (by rw [List.length_drop, h.len]; omega)]
  · obtain rfl : k = rd.length := by omega
    rw [if_neg e, if_pos rfl]
    have : (hv ++ idAt ids i).drop (32 * rd.length) = idAt ids i := by rw [← h.len]; exact List.drop_left
    show ((hv ++ idAt ids i).drop (32 * rd.length)).take 32 = _
    rw [this, List.take_of_length_le (by omega)]
theorem HvS.all {m : Nat} {ids hv : List Int} {ops : List OpV} {rd : List Nat} (h : HvS ids rd hv) (hr : Rising m ids) (hb : ∀ x ∈ rd, x < m) {i : Nat} (ho : allI m ids (ops.getD i OpV.zero).n (ops.getD i OpV.zero).ids) :
    allI rd.length hv (ops.getD i OpV.zero).n (ops.getD i OpV.zero).ids ↔ ∀ p ∈ prS m ids ops i, p ∈ rd := by
  constructor
  · intro ha p hp
    unfold prS at hp
    obtain ⟨j, hj, rfl⟩ := List.mem_map.1 hp
    obtain ⟨k, hk, e⟩ := ha j (List.mem_range.1 hj)
    rw [h.at_ k hk] at e
    have hm := getD_mem hk
    rw [← e, ix_eq hr (hb _ hm)]
    exact hm
  · intro ha j hj
    have hp : ixS m ids (idAt (ops.getD i OpV.zero).ids j) ∈ rd := ha _ (by unfold prS; exact List.mem_map.2 ⟨j, List.mem_range.2 hj, rfl⟩)
    obtain ⟨k, hk, e⟩ := List.getElem_of_mem hp
    refine ⟨k, hk, ?_⟩
    rw [h.at_ k hk, List.getD_eq_getElem?_getD, List.getElem?_eq_getElem hk, Option.getD_some, e]
    exact (ix_in (ho j hj)).2
structure OrdS (P : Nat → List Nat) (n : Nat) (rd : List Nat) : Prop where
  nd : rd.Nodup
  lt : ∀ x ∈ rd, x < n
  sq : Seqd P rd
theorem OrdS.first (P : Nat → List Nat) (n : Nat) : OrdS P n [] := ⟨List.nodup_nil, fun x h => (by cases h), fun i h => (by cases h)⟩
theorem OrdS.le {P : Nat → List Nat} {n : Nat} {rd : List Nat} (h : OrdS P n rd) : rd.length ≤ n := by
  have := nodup_len (l := rd) (m := List.range n) h.nd fun x hx => List.mem_range.2 (h.lt x hx)
  simpa using this
theorem OrdS.snoc {P : Nat → List Nat} {n i : Nat} {rd : List Nat} (h : OrdS P n rd) (hi : i < n) (hn : i ∉ rd) (hp : ∀ p ∈ P i, p ∈ rd) : OrdS P n (rd ++ [i]) := by
  refine ⟨List.nodup_append.2 ⟨h.nd, by simp, fun a ha b hb => ?_⟩, fun x hx => ?_, h.sq.snoc (d := rd.length) fun p hp' => by rw [List.take_length]; exact hp p hp'⟩
  · rw [List.mem_singleton] at hb; subst hb; intro e; subst e; exact hn ha
  · rcases List.mem_append.1 hx with e | e
    · exact h.lt x e
    · rw [List.mem_singleton] at e; subst e; exact hi
end Go.Proofs.YtkmaenmhcgohbaaGreatDoor.S
namespace Go.Proofs.YtkmaenmhcgohbaaGreatDoor.W
open Go.RowKit Go.Proofs.YtkmaenmhcgohbaaGreatDoor.G
set_option linter.unusedVariables false
set_option linter.unusedSimpArgs false
set_option maxRecDepth 20000
set_option maxHeartbeats 8000000
attribute [local irreducible] RS RX RY Code.wp bodyPost J Ent.blk Ent.irow Ent.iown Ent.wrow Ent.wown Ent.grow Ent.gown Ent.all Ent.emp
instance : Ents Tryz.prog 97 := ⟨.mk Tryz.func97 (by kernel_rfl) rfl⟩
instance : Und Tryz.prog 305 (.slice 4) := ⟨Tryz.underlying305⟩
instance : Inf Tryz.prog 4 1 1 [.bool false] := ⟨TI.of (v := .bool false) (by kernel_rfl) rfl⟩
instance : Siz Tryz.prog 4 1 := ⟨by kernel_rfl⟩
instance : Sca Tryz.prog 4 := ⟨_, Tryz.underlying4, rfl⟩
instance : Und Tryz.prog 4 .bool := ⟨Tryz.underlying4⟩
instance : Ents Tryz.prog 109 := ⟨.mk Tryz.func109 (by kernel_rfl) rfl⟩
instance : Ents Tryz.prog 219 := ⟨.mk Tryz.func219 (by kernel_rfl) rfl⟩
instance : Ents Tryz.prog 234 := ⟨.mk Tryz.func234 (by kernel_rfl) rfl⟩
instance : Ents Tryz.prog 127 := ⟨.mk Tryz.func127 (by kernel_rfl) rfl⟩
instance : Ents Tryz.prog 17 := ⟨.mk Tryz.func17 (by kernel_rfl) rfl⟩
instance : Ents Tryz.prog 180 := ⟨.mk Tryz.func180 (by kernel_rfl) rfl⟩
instance : Ents Tryz.prog 41 := ⟨.mk Tryz.func41 (by kernel_rfl) rfl⟩
structure GrI (S0 : Nat → Prop) (w : World) (g : GrA) : Prop where
 ids : WRow .u8 32 S0 w g.ia g.m g.ids
 ops : GRow opC 11 S0 w g.oa g.n g.zs
 inn : Inns opI S0 w g.zs
 rng : ∀ z ∈ g.zs, z.o.rng
 cap : g.m ≤ g.ic ∧ g.n ≤ g.oc
theorem GrI.ext {S0 : Nat → Prop} {w w' : World} {g : GrA} (h : GrI S0 w g) (x : Ext w w') : GrI S0 w' g := ⟨h.ids.ext x, h.ops.ext x, h.inn.ext x, h.rng, h.cap⟩
end Go.Proofs.YtkmaenmhcgohbaaGreatDoor.W
namespace Go.Proofs.YtkmaenmhcgohbaaGreatDoor.L
open Go Go.Proofs.YtkmaenmhcgohbaaGreatDoor Go.Proofs.YtkmaenmhcgohbaaGreatDoor.G Go.Proofs.YtkmaenmhcgohbaaGreatDoor.W
open Go.ChangeShapes Go.WideShapes Go.ChangeAt Go.RowKit
set_option linter.unusedVariables false
set_option maxRecDepth 100000
section
variable {H : Type} {enc : TypeId × Value → H} {P : Program} {w : World} {base : Nat} {sp : Nat → Bool} {held : Bool} {fuel : Nat} {cs : List Value} {x : DataW H × List MemPlace} {t : TypeId}
theorem grow_in {α : Type} {e sz : Nat} (f : α → List Value) (Q : α → Prop) (d : α) (hf : ∀ x, (f x).length = sz) (ht : P.underlying t = some (.slice e)) (hes : P.cellsOf e = sz) (hz : 0 < sz)
    (h1 : ∀ m ds y, DataW.trod enc P w base sp held m e ds = some y → ∃ z, ds = f z ∧ Q z) (h : DataW.trod enc P w base sp held fuel t cs = some x) :
    ∃ a n c zs, cs = [.slice a n c] ∧ n ≤ c ∧ GRow f sz (fun _ => True) w a n zs ∧ ∀ z ∈ zs, Q z := by
  rcases DataW.trod_slice ht h with ⟨h2, _⟩ | ⟨a, len, cap, elems, rest, m, _, h2, _, _, hlc, _, hel, he, _⟩
  · exact ⟨none, 0, 0, [], h2, Nat.le_refl _, .nil hf, fun z hz => by cases hz⟩
  · refine ⟨some a, len, cap, ?_⟩
    by_cases h0 : len = 0
    · subst h0
      exact ⟨[], h2, hlc, .nil hf, fun z hz => by cases hz⟩
    · have one : ∀ i, i < len → ∃ z, Q z ∧ ∀ j, j < sz → w.cell? ((a.add (i * sz)).add j) = (f z)[j]? := by
        intro i hi
        have h3 := he i hi
        rw [List.getElem?_eq_getElem (by omega), hes] at h3
        cases hc : w.cells? base (a.add (i * sz)) sz with
        | none => rw [hc] at h3; cases h3
        | some ds =>
          rw [hc, Option.bind_some] at h3
          obtain ⟨z, h4, h5⟩ := h1 _ _ _ h3
          obtain ⟨h6, h7⟩ := cells_in hc
          exact ⟨z, h5, fun j hj => by rw [h7 j hj, h4]⟩
      obtain ⟨b0, o, spot⟩ := a
      obtain rfl : spot = none := by
        obtain ⟨z, _, h3⟩ := one 0 (by omega)
        have h4 := h3 0 hz
        rw [List.getElem?_eq_getElem (by rw [hf]; exact hz)] at h4
        have := World.cell?_spot h4
        simpa [Addr.add] using this
      obtain ⟨zs, h3, h4⟩ := list_of d (fun i z => Q z ∧ ∀ j, j < sz → w.cell? ⟨b0, o + (i * sz + j), none⟩ = (f z)[j]?) len (fun i hi => by
        obtain ⟨z, h5, h6⟩ := one i hi
        exact ⟨z, h5, fun j hj => by have := h6 j hj; rw [add_mk, add_mk, Nat.add_assoc] at this; exact this⟩)
      refine ⟨zs, h2, hlc, ⟨.inr ⟨b0, o, rfl, trivial, fun j hj => ?_⟩, h3, hf⟩, fun z hz => ?_⟩
      · rw [flat_len f sz hf, h3] at hj
        have hi : j / sz < len := Nat.div_lt_of_lt_mul hj
        have hm := Nat.mod_lt j hz
        have h5 := (h4 _ hi).2 _ hm
        rw [Nat.mul_comm (j / sz), Nat.div_add_mod] at h5
        have hg := flat_get f sz hf d zs (j / sz) (by omega)
        have e2 := congrArg (fun t => t[j % sz]?) hg
        simp only [List.getElem?_take, if_pos hm, List.getElem?_drop, Nat.div_add_mod] at e2
        rw [h5, ← e2, List.getD_eq_getElem?_getD, List.getElem?_eq_getElem (by rw [flat_len f sz hf, h3]; exact hj)]
        rfl
      · obtain ⟨j, hj, rfl⟩ := List.getElem_of_mem hz
        have := (h4 j (by omega)).1
        rw [List.getD_eq_getElem?_getD, List.getElem?_eq_getElem hj] at this
        exact this
end
section
variable {H : Type} {enc : TypeId × Value → H} {w : World} {base : Nat} {sp : Nat → Bool} {held : Bool} {fuel : Nat} {cs : List Value} {x : DataW H × List MemPlace}
theorem id_in (h : DataW.trod enc Tryz.prog w base sp held fuel 27 cs = some x) : ∃ xs, cs = ints .u8 xs ∧ Arr .u8 32 xs := bytes_in Tryz.underlying27 Tryz.underlying5 z_u8 z_id h
end
end Go.Proofs.YtkmaenmhcgohbaaGreatDoor.L
namespace Go.Proofs.YtkmaenmhcgohbaaGreatDoor.W
open Go.RowKit Go.Proofs.YtkmaenmhcgohbaaGreatDoor.G
@[reducible] def rgC (x : S.RgV) : List Value := .string x.key :: .int .u8 x.vk :: .int .i64 x.num :: .int .u64 x.bits :: .string x.t :: .int .u64 x.st :: ints .u8 x.id
theorem rgC_len (x : S.RgV) : (rgC x).length = 38 := by simp [rgC, ints_length, x.h32]
theorem rgC_cell (x : S.RgV) : ∀ u ∈ rgC x, cellB u = true := by
  intro u hu
  simp only [rgC, List.mem_cons] at hu
  rcases hu with rfl | rfl | rfl | rfl | rfl | rfl | hu <;> first | rfl | exact List.all_eq_true.1 (ints_cellB _ _) u hu
instance (x : S.RgV) : LenC (rgC x) 38 := ⟨rgC_len x, List.all_eq_true.2 (rgC_cell x)⟩
@[reducible] def stC (s : ByteArray) : List Value := [.string s]
@[reducible] def inC (q : Int) : List Value := [.int .i64 q]
theorem gown_e {α : Type} {f : α → List Value} {sz : Nat} {e : TypeId} {a : Option Addr} {n c : Nat} {lst : List α} {S : Nat → Prop} {w : World} (h : (Ent.gown f sz e a n c lst).ok S w) : GOwn f sz 0 w e a n c lst ∧ ∀ b, obk a = some b → S b := h
section
variable {S0 : Nat → Prop} {w0 : World} {L : List Ent} {P : Program} {Q : Exit → Act → World → Prop} {l : List Value} {x y : Code} {o : Operand} {s t : ByteArray}
end
structure RsR (S0 : Nat → Prop) (w : World) (a : Option Addr) (n c : Nat) (l : List S.RgV) : Prop where
  row : GRow rgC 38 S0 w a n l
  ok : ∀ x ∈ l, x.ok
  cap : n ≤ c
  n : n ≤ 100
section
variable {S0 : Nat → Prop} {w w' : World} {a : Option Addr} {n c : Nat} {l : List S.RgV}
theorem RsR.ext (h : RsR S0 w a n c l) (x : Ext w w') : RsR S0 w' a n c l := ⟨h.row.ext x, h.ok, h.cap, h.n⟩
theorem RsR.len (h : RsR S0 w a n c l) : l.length = n := h.row.len
end
end Go.Proofs.YtkmaenmhcgohbaaGreatDoor.W
namespace Go.Proofs.YtkmaenmhcgohbaaGreatDoor.S
open G
set_option linter.unusedVariables false
@[reducible] def idX (o : OpV) : List Int := if checkE o = 0 then sha (encS o) else List.replicate 32 0
/-! what is put -/
/-! operations of a graph -/
def setI (ops : List OpV) (i : Nat) : Prop := (ops.getD i OpV.zero).k = 4
instance (ops : List OpV) (i : Nat) : Decidable (setI ops i) := by unfold setI; infer_instance
/-! an operation that is applied -/
theorem OpV.ext' {a b : OpV} (h1 : a.au = b.au) (h2 : a.st = b.st) (h3 : a.k = b.k) (h4 : a.vk = b.vk) (h5 : a.num = b.num) (h6 : a.bits = b.bits) (h7 : a.e = b.e) (h8 : a.s = b.s) (h9 : a.n = b.n) (h10 : a.ids = b.ids) (h11 : a.key = b.key) (h12 : a.t = b.t) : a = b := by
  cases a; cases b; simp only at h1 h2 h3 h4 h5 h6 h7 h8 h9 h10 h11 h12; subst h1 h2 h3 h4 h5 h6 h7 h8 h9 h10 h11 h12; rfl
instance : DecidableEq OpV := fun a b => decidable_of_iff (a.au = b.au ∧ a.st = b.st ∧ a.k = b.k ∧ a.vk = b.vk ∧ a.num = b.num ∧ a.bits = b.bits ∧ a.e = b.e ∧ a.s = b.s ∧ a.n = b.n ∧ a.ids = b.ids ∧ a.key = b.key ∧ a.t = b.t)
  ⟨fun ⟨h1, h2, h3, h4, h5, h6, h7, h8, h9, h10, h11, h12⟩ => OpV.ext' h1 h2 h3 h4 h5 h6 h7 h8 h9 h10 h11 h12, fun h => by subst h; exact ⟨rfl, rfl, rfl, rfl, rfl, rfl, rfl, rfl, rfl, rfl, rfl, rfl⟩⟩
def OpV.wide (o : OpV) : Prop := o.ids.length = 32 * o.n
theorem sameO_eq {a b : OpV} (ha : a.wide) (hb : b.wide) : SameO a b ↔ a = b := by
  constructor
  · rintro ⟨h1, h2, h3, ⟨h4, h5, h6, h7, h8, h9⟩, h10, h11⟩
    unfold OpV.wide at ha hb
    have hn : a.n = b.n := by rw [h2] at ha; omega
    exact OpV.ext' h1 h3 h4 h6 h7 h8 h10 h11 hn h2 h5 h9
  · rintro rfl
    exact sameO_refl a
end Go.Proofs.YtkmaenmhcgohbaaGreatDoor.S
namespace Go.Proofs.YtkmaenmhcgohbaaGreatDoor.W
open Go.RowKit Go.Proofs.YtkmaenmhcgohbaaGreatDoor.G
set_option linter.unusedVariables false
def opE (T : TypeId) (z : OpA) : Ent := .wown T .u8 32 z.pa z.o.n z.pc z.o.ids
theorem opC_one (z : OpA) : ∀ u ∈ opC z, u.oneCell' = true := by
  intro u hu
  simp only [opC, List.mem_cons, List.not_mem_nil, or_false] at hu
  rcases hu with rfl | rfl | rfl | rfl | rfl | rfl | rfl | rfl | rfl | rfl | rfl <;> rfl
instance (z : OpA) : LenC (opC z) 11 := ⟨rfl, rfl⟩
theorem wown_e {e : TypeId} {k : IntKind} {sz : Nat} {a : Option Addr} {n c : Nat} {xs : List Int} {S : Nat → Prop} {w : World} (h : (Ent.wown e k sz a n c xs).ok S w) : WOwn 0 w e k sz a n c xs ∧ ∀ b, obk a = some b → S b := h
theorem wown_row {e : TypeId} {k : IntKind} {sz : Nat} {a : Option Addr} {n c : Nat} {xs : List Int} {S : Nat → Prop} {w : World} (h : (Ent.wown e k sz a n c xs).ok S w) : WRow k sz S w a n xs := wown_wrow h
theorem all_e {E : List Ent} {S : Nat → Prop} {w : World} (h : (Ent.all E).ok S w) : Sep E S w := h
theorem all_i {E : List Ent} {S : Nat → Prop} {w : World} (h : Sep E S w) : (Ent.all E).ok S w := h
theorem sep_mem : ∀ {E : List Ent} {S : Nat → Prop} {w : World} {e : Ent}, e ∈ E → Sep E S w → ∃ S', (∀ b, S' b → S b) ∧ e.ok S' w
  | _ :: _, _, _, _, .head _, ⟨A, _, h1, _, _, h4, _⟩ => ⟨A, h1, h4⟩
  | _ :: _, _, _, _, .tail _ h, ⟨_, B, _, h2, _, _, h5⟩ => let ⟨S', k1, k2⟩ := sep_mem h h5; ⟨S', fun b hb => h2 b (k1 b hb), k2⟩
theorem sep_inns {T : TypeId} {zs : List OpA} {S : Nat → Prop} {w : World} (h : Sep (zs.map (opE T)) S w) (hc : ∀ z ∈ zs, z.o.n ≤ z.pc) : Inns opI S w zs := by
  intro z hz i hi
  obtain rfl := List.mem_singleton.1 hi
  obtain ⟨S', k1, k2⟩ := sep_mem (List.mem_map.2 ⟨z, hz, rfl⟩) h
  exact ⟨(wown_row k2).weaken fun b _ hb => k1 b hb, hc z hz⟩
theorem Inns.weak {α : Type} {g : α → List Inn} {S T : Nat → Prop} {w : World} {l : List α} (h : Inns g S w l) (k : ∀ b, S b → T b) : Inns g T w l := fun x hx i hi => ⟨(h x hx i hi).1.weaken fun b _ hb => k b hb, (h x hx i hi).2⟩
section
variable {S0 : Nat → Prop} {w0 : World} {L : List Ent} {X : World → Prop} {e : Ent} {E : List Ent}
theorem J.snocA {F1 F2 : Ent → List Ent} (E : List Ent) (e : Ent) [R : RE L e F1] [R2 : RE (F1 .emp) (.all E) F2] (k : J S0 w0 (F2 (.all (E ++ [e]))) X) : J S0 w0 L X :=
  J.merge e (.all E) (.all (E ++ [e])) (fun S1 S2 w hd h1 h2 => all_i (Sep.app (all_e h2) (sep1 h1) (fun b hb => .inr hb) (fun b hb => .inl hb) fun b hb hc => hd b hc hb)) k
theorem J.noA (k : J S0 w0 (.all [] :: L) X) : J S0 w0 L X := J.newA [] k fun _ => trivial
end
section
variable {S0 : Nat → Prop} {w0 : World} {L : List Ent} {P : Program} {ops : Array Oper} {K : List Value → World → Prop} {rest : List (Oper × Kd)} {l : List Value} {m : Md} {d : Tmp} {ty : TypeId} {pos : String} {af : Array Edge} {kd : Kd} {t e : TypeId} {by_ sz : Nat} {k : IntKind} {zs : List Value}
theorem J.b0W [U : Und P t (.slice e)] [I : Inf P e sz by_ zs] (k : IntKind) {l' : Nat → List Value} (hk : okE m kd = true) (kk : ∀ b, J S0 w0 (.wown e k sz (some ⟨b, 0, none⟩) 0 0 [] :: L) (RY S0 w0 m P ops K rest (l' b)))
    (hl : ∀ b, l.set d (.slice (some ⟨b, 0, none⟩) 0 0) = l' b := by intro b; dsimp only [List.set]) : J S0 w0 L (RY S0 w0 m P ops K ((⟨some d, .buildSlice t 0 #[], ty, pos, af, none⟩, kd) :: rest) l) :=
  J.eff hk fun w M K' hK => RS.buildNone U.h I.h fun b w' e1 s1 x1 B => RS.nil (hK _ w' x1 (by
    rw [hl]
    exact kk b w' (M.new x1 ⟨WOwn.of_blk (xs := []) B rfl rfl (Nat.zero_le _) (Bd.nil _) (by decide), fun q hq => by simp [obk] at hq; subst hq; subst e1; exact Nat.le_refl _⟩)))
end
theorem GrR.own {S0 : Nat → Prop} {w0 : World} {L : List Ent} {g : GrA} {TI TO : TypeId} {F1 : Option Addr → Nat → Nat → List OpA → List Ent} {F2 : Option Addr → Nat → Nat → List Int → List Ent} {F3 : Ent → List Ent}
    [R1 : GO L g.oa opC 11 TO g.n g.oc g.zs F1] [R2 : RWO L g.ia TI .u8 32 g.m g.ic g.ids F2] [R3 : RE L (.all (g.zs.map (opE TI))) F3] (hok : ∀ z ∈ g.zs, z.o.ok) (hc : ∀ z ∈ g.zs, z.o.n ≤ z.pc) (hm : g.m ≤ 70 ∧ g.n ≤ 70) (w : World) (M : Mem S0 w0 L w) : GrR (fun _ => True) w g := by
  obtain ⟨A, _, a⟩ := M.get (R1.h g.oa g.n g.oc g.zs).same
  obtain ⟨B, _, b⟩ := M.get (R2.h g.ia g.m g.ic g.ids).same
  obtain ⟨C, _, c⟩ := M.get (R3.h (.all (g.zs.map (opE TI)))).same
  have a := (gown_e a).1
  have b' := wown_row b
  have b := (wown_e b).1
  exact ⟨b'.weaken fun _ _ _ => trivial, a.row.weaken fun _ _ _ => trivial, Inns.weak (sep_inns (all_e c) hc) fun _ _ => trivial, hok, (wown_len (S := fun _ => True) ⟨b, fun _ _ => trivial⟩).2, a.capn, hm⟩
structure GrP (m : Nat) (ids : List Int) (ops : List S.OpV) (g : GrA) : Prop where
  m : g.m = m
  ids : g.ids = ids
  n : g.n = ops.length
  ops : g.ops = ops
  cap : ∀ z ∈ g.zs, z.o.n ≤ z.pc
theorem GrP.ok {m : Nat} {ids : List Int} {ops : List S.OpV} {g : GrA} (h : GrP m ids ops g) (ho : ∀ o ∈ ops, o.ok) : ∀ z ∈ g.zs, z.o.ok := fun z hz => ho _ (by rw [← h.ops]; unfold GrA.ops; exact List.mem_map.2 ⟨z, hz, rfl⟩)
end Go.Proofs.YtkmaenmhcgohbaaGreatDoor.W
namespace Go.Proofs.YtkmaenmhcgohbaaGreatDoor.S
open G
set_option linter.unusedVariables false
structure PG where
  (m : Nat) (ids : List Int) (ops : List OpV)
def PG.good (g : PG) : Prop := g.ids.length = 32 * g.m ∧ g.ops.length = g.m
def insW (ids : List Int) (p : Nat) (x : List Int) : List Int := ids.take (32 * p) ++ (x ++ ids.drop (32 * p))
def insO (ops : List OpV) (p : Nat) (o : OpV) : List OpV := ops.take p ++ o :: ops.drop p
def putP (g : PG) (x : List Int) (o : OpV) : PG := ⟨g.m + 1, insW g.ids (spotS g.m g.ids x) x, insO g.ops (spotS g.m g.ids x) o⟩
section
variable {g h : PG} {x y : List Int} {o u : OpV}
/-! the same -/
end
/-! orders by ids -/
section
variable {g h : PG} {x y : List Int} {o u : OpV}
end
@[reducible] def idOf (o : OpV) : List Int := sha (encS o)
noncomputable def chkP (g : PG) : Int := chkG g.m g.ids g.ops
def PG.nil : PG := ⟨0, [], []⟩
noncomputable def addE (g : PG) (o : OpV) : Int := if chkP g ≠ 0 then chkP g else if verE o ≠ 0 then verE o else if inS g.m g.ids (idOf o) then 14 else if ¬ allI g.m g.ids o.n o.ids then 40 else if g.m = 60 then 18 else 0
noncomputable def addP (g : PG) (o : OpV) : PG := if addE g o = 0 then putP g (idOf o) o else .nil
/-! lists -/
/-! unions -/
open Classical in
/-! comparisons -/
end Go.Proofs.YtkmaenmhcgohbaaGreatDoor.S
namespace Go.Proofs.YtkmaenmhcgohbaaGreatDoor.W
open Go.RowKit Go.Proofs.YtkmaenmhcgohbaaGreatDoor.G
set_option linter.unusedVariables false
structure IdV where
  (xs : List Int) (h : xs.length = 32)
@[reducible] def idC (x : IdV) : List Value := ints .u8 x.xs
theorem idC_len (x : IdV) : (idC x).length = 32 := by rw [ints_length, x.h]
instance (x : IdV) : LenC (idC x) 32 := ⟨idC_len x, ints_cellB _ _⟩
section
variable {S : Nat → Prop} {w : World} {T : TypeId} {a : Option Addr} {n c : Nat} {l : List IdV} {xs : List Int}
end
section
variable {S0 : Nat → Prop} {w0 : World} {L : List Ent} {P : Program} {ops : Array Oper} {K : List Value → World → Prop} {rest : List (Oper × Kd)} {l : List Value} {m : Md} {d : Tmp} {ty t e : TypeId} {pos : String} {af : Array Edge} {kd : Kd} {by_ : Nat} {zs : List Value} {x y : Operand}
end
end Go.Proofs.YtkmaenmhcgohbaaGreatDoor.W
namespace Go.Proofs.YtkmaenmhcgohbaaGreatDoor.W
open Go.RowKit Go.Proofs.YtkmaenmhcgohbaaGreatDoor.G
set_option linter.unusedVariables false
set_option linter.unusedSimpArgs false
set_option maxRecDepth 20000
set_option maxHeartbeats 8000000
attribute [local irreducible] RS RX RY Code.wp bodyPost J Ent.blk Ent.irow Ent.iown Ent.wrow Ent.wown Ent.grow Ent.gown Ent.all Ent.emp
instance : Inf Tryz.prog 56 2 48 [.slice none 0 0, .slice none 0 0] := ⟨TI.of (v := .agg #[.slice none 0 0, .slice none 0 0]) (by kernel_rfl) rfl⟩
instance : SInf Tryz.prog 56 [(0, 1), (1, 1)] := ⟨_, Tryz.underlying56, by kernel_rfl, by kernel_rfl⟩
instance : Siz Tryz.prog 56 2 := ⟨by kernel_rfl⟩
instance : Ents Tryz.prog 162 := ⟨.mk Tryz.func162 (by kernel_rfl) rfl⟩
instance : Siz Tryz.prog 54 1 := ⟨by kernel_rfl⟩
instance : Ents Tryz.prog 39 := ⟨.mk Tryz.func39 (by kernel_rfl) rfl⟩
instance : Ents Tryz.prog 37 := ⟨.mk Tryz.func37 (by kernel_rfl) rfl⟩
end Go.Proofs.YtkmaenmhcgohbaaGreatDoor.W
namespace Go.Proofs.YtkmaenmhcgohbaaGreatDoor.G
open Go.RowKit
set_option linter.unusedVariables false
def WX (S0 : Nat → Prop) (w0 : World) (Lq : List Ent) (P : Program) (l0 : List Oper) (K : List Value → World → Prop) (n : Nat) (li : Array Bool) (l : List Value) (w : World) : Prop :=
  Closed l0.toArray li → wpX P l0.toArray (MR S0 w0 Lq) [] (fun a w => ∃ l, a = fr l ∧ K l w) n li (fr l) w
def BR (S0 : Nat → Prop) (w0 : World) (Lq : List Ent) (P : Program) (l0 : List Oper) (K : List Value → World → Prop) (n : Nat) (li : Array Bool) : List Nat → List Value → World → Prop
  | [], _, _ => True
  | i :: rd, l, w => RX P l0.toArray (MR S0 w0 Lq) (WX S0 w0 Lq P l0 K n (li.setIfInBounds i true)) [(nth l0 i, .e)] l w ∧ BR S0 w0 Lq P l0 K n li rd l w
section
variable {S0 : Nat → Prop} {w0 : World} {L Lq : List Ent} {P : Program} {Q : Exit → Act → World → Prop} {l : List Value} {id n n' : Nat} {l0 : List Oper} {K : List Value → World → Prop} {li : Array Bool} {rd : List Nat}
theorem BR.get {k : Nat} {w : World} : ∀ {rd : List Nat}, BR S0 w0 Lq P l0 K n li rd l w → k ∈ rd → RX P l0.toArray (MR S0 w0 Lq) (WX S0 w0 Lq P l0 K n (li.setIfInBounds k true)) [(nth l0 k, .e)] l w
  | _ :: _, h, .head _ => h.1
  | _ :: _, h, .tail _ hk => BR.get h.2 hk
theorem J.front {X : World → Prop} {F : Ent → List Ent} (e : Ent) [R : RE L e F] (k : J S0 w0 (e :: F .emp) X) : J S0 w0 L X := fun w M => by
  exact k w (M.split (R.h .emp) fun S h => ⟨no, S, fun _ h => h.elim, fun _ h => h, fun _ h => h.elim, trivial, h⟩)
theorem D.buildA0 {ev0 : Operand → Value} {w : World} {dd : Option Tmp} {ty t e n by_ : Nat} {pos : String} {af : Array Edge} {g : Option (Nat × Bool)} {z : List Value} (hu : P.underlying t = some (.array n e)) (ht : TI P t n by_ z) (hs : P.cellsOf e = 1) :
    (execOp ev0 ⟨dd, .build t #[], ty, pos, af, g⟩).run P w = .ok (.value (.agg z.toArray)) w := by
  obtain ⟨i, v, i1, i2, i3, i4, i5⟩ := ht
  have hz1 : (zeroValue t).run P w = .ok v w := by simp [zeroValue, typeInfo, i1, i4]
  have hsz : (sizeOf e).run P w = .ok 1 w := size_run hs (by decide)
  simp [execOp, Instr.build, Sem.run_bind, hz1, Result.andThen, run_underlying hu, hsz, i5, Instr.fill]
theorem J.bz {ops : Array Oper} {rest : List (Oper × Kd)} {l' : List Value} {m : Md} {kd : Kd} {d : Tmp} {ty xt e n by_ : Nat} {pos : String} {af : Array Edge} {zs : List Value} [U : Und P xt (.array n e)] [I : Inf P xt n by_ zs] [Z : Siz P e 1] (hk : pureK kd = true) (k : J S0 w0 L (RY S0 w0 m P ops K rest l')) (hl : l.set d (.agg zs.toArray) = l' := by dsimp only [List.set]) :
    J S0 w0 L (RY S0 w0 m P ops K ((⟨some d, .build xt #[], ty, pos, af, none⟩, kd) :: rest) l) := J.pur hk (fun _ => D.buildA0 U.h I.h Z.h) k hl
end
end Go.Proofs.YtkmaenmhcgohbaaGreatDoor.G
namespace Go.Proofs.YtkmaenmhcgohbaaGreatDoor.W
open Go.RowKit Go.Proofs.YtkmaenmhcgohbaaGreatDoor.G
set_option linter.unusedVariables false
set_option linter.unusedSimpArgs false
set_option maxRecDepth 20000
set_option maxHeartbeats 8000000
attribute [local irreducible] RS RX RY Code.wp bodyPost J Ent.blk Ent.irow Ent.iown Ent.wrow Ent.wown Ent.grow Ent.gown Ent.all Ent.emp
instance : Ents Tryz.prog 194 := ⟨.mk Tryz.func194 (by kernel_rfl) rfl⟩
@[reducible] def GrA.P (g : GrA) : S.PG := ⟨g.m, g.ids, g.ops⟩
def GrA.nil : GrA := ⟨none, none, 0, 0, 0, 0, [], []⟩
theorem GrP.nil : GrP S.PG.nil.m S.PG.nil.ids S.PG.nil.ops GrA.nil := ⟨rfl, rfl, rfl, rfl, fun z hz => by cases hz⟩
theorem blkC {S0 : Nat → Prop} {w0 w : World} {L : List Ent} (b : Nat) {cs : List Value} {T : TypeId} {F : List Value → List Ent} [R : RB L b cs T F] (M : Mem S0 w0 L w) : Blk w b cs T := M.blk (R.h cs).same
theorem fits_actD (a b c d : Int) (x y : ByteArray) : FitsT Tryz.prog 9 40 [.int .u8 a, .string x, .int .u8 b, .int .i64 c, .int .u64 d, .string y] = true := by kernel_rfl
theorem fits_sigD (a b : Int) : FitsT Tryz.prog 9 42 [.int .u32 a, .int .u32 b] = true := by kernel_rfl
end Go.Proofs.YtkmaenmhcgohbaaGreatDoor.W
namespace Go.Proofs.YtkmaenmhcgohbaaGreatDoor.S
open G
set_option linter.unusedVariables false
/-! lists -/
/-! one by one -/
/-! what is added -/
/-! unions -/
/-! comparisons -/
def eqP (a b : PG) : Prop := a.ids = b.ids ∧ a.ops = b.ops
instance (a b : PG) : Decidable (eqP a b) := by unfold eqP; infer_instance
end Go.Proofs.YtkmaenmhcgohbaaGreatDoor.S
namespace Go.Proofs.YtkmaenmhcgohbaaGreatDoor.W
open Go.RowKit Go.Proofs.YtkmaenmhcgohbaaGreatDoor.G
set_option linter.unusedVariables false
set_option linter.unusedSimpArgs false
set_option maxRecDepth 20000
set_option maxHeartbeats 8000000
attribute [local irreducible] RS RX RY Code.wp bodyPost J Ent.blk Ent.irow Ent.iown Ent.wrow Ent.wown Ent.grow Ent.gown Ent.all Ent.emp
instance : Ents Tryz.prog 91 := ⟨.mk Tryz.func91 (by kernel_rfl) rfl⟩
instance : Siz Tryz.prog 38 1 := ⟨by kernel_rfl⟩
instance : Ents Tryz.prog 116 := ⟨.mk Tryz.func116 (by kernel_rfl) rfl⟩
instance : Ents Tryz.prog 93 := ⟨.mk Tryz.func93 (by kernel_rfl) rfl⟩
theorem rgTake {α : Type} {S0 : Nat → Prop} {w0 : World} {L : List Ent} {f : α → List Value} {sz n : Nat} {a : Option Addr} {lst : List α} (h : RG S0 w0 L f sz a n lst) (p c : Nat) (hp : p ≤ n) (hc : p ≤ c) : RG S0 w0 L f sz (subA a 0 sz c) p (lst.take p) := by
 have := h.sub 0 p c hp (Nat.zero_le _) hc
 simpa using this
theorem rgDrop {α : Type} {S0 : Nat → Prop} {w0 : World} {L : List Ent} {f : α → List Value} {sz n : Nat} {a : Option Addr} {lst : List α} (h : RG S0 w0 L f sz a n lst) (p c : Nat) (hp : p ≤ n) (hc : n ≤ c) (hl : lst.length = n) : RG S0 w0 L f sz (subA a p sz c) (n - p) (lst.drop p) := by
 have := h.sub p n c (Nat.le_refl _) hp hc
 rwa [List.take_of_length_le (by rw [List.length_drop]; omega)] at this
theorem GrP.sz {P : S.PG} {q : GrA} (h : GrP P.m P.ids P.ops q) (hs : P.good ∧ P.m ≤ 60) : q.m ≤ 70 ∧ q.n ≤ 70 := by
 have := h.m
 have := h.n
 have := hs.1.2
 omega
theorem GrP.nm {P : S.PG} {q : GrA} (h : GrP P.m P.ids P.ops q) (hs : P.good) : q.n = q.m := by
 have := h.m
 have := h.n
 have := hs.2
 omega
theorem GrP.P {P : S.PG} {q : GrA} (h : GrP P.m P.ids P.ops q) : q.P = P := by
 unfold GrA.P
 rw [h.m, h.ids, h.ops]
end Go.Proofs.YtkmaenmhcgohbaaGreatDoor.W
namespace Go.Proofs.YtkmaenmhcgohbaaGreatDoor.S
open G
set_option linter.unusedVariables false
def TickP (t : Int) : Prop := 0 ≤ t ∧ t ≤ 1000000000
instance (t : Int) : Decidable (TickP t) := by unfold TickP; infer_instance
def NoO (o : OpV) (id : List Int) : Prop := SameO o OpV.zero ∧ id = List.replicate 32 0
instance (o : OpV) (id : List Int) : Decidable (NoO o id) := by unfold NoO; infer_instance
theorem noO_iff {o : OpV} {id : List Int} (hl : o.ids.length = 32 * o.n) : NoO o id ↔ o.au = 0 ∧ o.n = 0 ∧ o.st = 0 ∧ (o.k = 0 ∧ o.key = .empty ∧ o.vk = 0 ∧ o.num = 0 ∧ o.bits = 0 ∧ o.t = .empty) ∧ (o.e = 0 ∧ o.s = 0) ∧ id = List.replicate 32 0 := by
  unfold NoO SameO
  constructor
  · rintro ⟨⟨h1, h2, h3, h4, h5⟩, h6⟩
    refine ⟨h1, ?_, h3, h4, h5, h6⟩
    have := congrArg List.length h2
    rw [hl] at this
    have h0 : OpV.zero.ids.length = 0 := rfl
    omega
  · rintro ⟨h1, h2, h3, h4, h5, h6⟩
    exact ⟨⟨h1, List.eq_nil_of_length_eq_zero (by omega), h3, h4, h5⟩, h6⟩
structure JdV where
  (t v : Int) (o : OpV) (id : List Int)
def FindP (j : JdV) : Prop := TickP j.t ∧ ((j.v = 0 ∧ verE j.o = 0 ∧ idOf j.o = j.id) ∨ ((j.v = 2 ∨ j.v = 3 ∨ j.v = 4) ∧ NoO j.o j.id))
instance (j : JdV) : Decidable (FindP j) := by unfold FindP; infer_instance
def SameJ (a b : JdV) : Prop := a.t = b.t ∧ a.v = b.v ∧ a.id = b.id ∧ SameO a.o b.o
instance (a b : JdV) : Decidable (SameJ a b) := by unfold SameJ; infer_instance
theorem sameJ_none {j : JdV} : SameJ j ⟨j.t, j.v, OpV.zero, List.replicate 32 0⟩ ↔ NoO j.o j.id := ⟨fun h => ⟨h.2.2.2, h.2.2.1⟩, fun h => ⟨rfl, rfl, h.2, h.1⟩⟩
theorem find_0 {j : JdV} (h : TickP j.t) (hv : j.v = 0) : FindP j ↔ verE j.o = 0 ∧ idOf j.o = j.id := by
  unfold FindP
  rw [hv]
  constructor
  · rintro ⟨_, h | ⟨h, _⟩⟩
    · exact h.2
    · omega
  · exact fun k => ⟨h, .inl ⟨rfl, k⟩⟩
theorem find_n {j : JdV} (h : TickP j.t) (hv : j.v = 2 ∨ j.v = 3 ∨ j.v = 4) : FindP j ↔ NoO j.o j.id := by
  unfold FindP
  constructor
  · rintro ⟨_, h | h⟩
    · omega
    · exact h.2
  · exact fun k => ⟨h, .inr ⟨hv, k⟩⟩
theorem find_x {j : JdV} (hv : j.v ≠ 0) (hw : ¬ (j.v = 2 ∨ j.v = 3 ∨ j.v = 4)) : ¬ FindP j := fun ⟨_, h⟩ => h.elim (fun k => hv k.1) fun k => hw k.1
end Go.Proofs.YtkmaenmhcgohbaaGreatDoor.S
namespace Go.Proofs.YtkmaenmhcgohbaaGreatDoor.W
open Go.RowKit Go.Proofs.YtkmaenmhcgohbaaGreatDoor.G
set_option linter.unusedVariables false
set_option linter.unusedSimpArgs false
set_option maxRecDepth 20000
set_option maxHeartbeats 8000000
attribute [local irreducible] RS RX RY Code.wp bodyPost J Ent.blk Ent.irow Ent.iown Ent.wrow Ent.wown Ent.grow Ent.gown Ent.all Ent.emp
instance : Fld Tryz.prog 158 2 2 := ⟨_, _, 11, Tryz.underlying158, rfl, by kernel_rfl, by decide, rfl⟩
instance : Fld Tryz.prog 44 0 0 := ⟨_, _, 1, Tryz.underlying44, rfl, by kernel_rfl, by decide, rfl⟩
instance : Sca Tryz.prog 37 := ⟨_, Tryz.underlying37, rfl⟩
instance : Und Tryz.prog 37 (.int .u32) := ⟨Tryz.underlying37⟩
instance : Fld Tryz.prog 44 2 2 := ⟨_, _, 1, Tryz.underlying44, rfl, by kernel_rfl, by decide, rfl⟩
instance : Sca Tryz.prog 22 := ⟨_, Tryz.underlying22, rfl⟩
instance : Und Tryz.prog 22 (.int .u64) := ⟨Tryz.underlying22⟩
instance : Fld Tryz.prog 44 3 3 := ⟨_, _, 6, Tryz.underlying44, rfl, by kernel_rfl, by decide, rfl⟩
instance : Agg Tryz.prog 40 6 := ⟨_, Tryz.underlying40, rfl, by kernel_rfl⟩
instance : SInf Tryz.prog 40 [(0, 1), (1, 1), (2, 4)] := ⟨_, Tryz.underlying40, by kernel_rfl, by kernel_rfl⟩
instance : Inf Tryz.prog 40 6 64 [.int .u8 0, .string .empty, .int .u8 0, .int .i64 0, .int .u64 0, .string .empty] := ⟨TI.of (v := .agg #[.int .u8 0, .string .empty, .int .u8 0, .int .i64 0, .int .u64 0, .string .empty]) (by kernel_rfl) rfl⟩
instance : Fld Tryz.prog 44 4 9 := ⟨_, _, 2, Tryz.underlying44, rfl, by kernel_rfl, by decide, rfl⟩
instance : Agg Tryz.prog 42 2 := ⟨_, Tryz.underlying42, rfl, by kernel_rfl⟩
instance : SInf Tryz.prog 42 [(0, 1), (1, 1)] := ⟨_, Tryz.underlying42, by kernel_rfl, by kernel_rfl⟩
instance : Inf Tryz.prog 42 2 8 [.int .u32 0, .int .u32 0] := ⟨TI.of (v := .agg #[.int .u32 0, .int .u32 0]) (by kernel_rfl) rfl⟩
instance : Fld Tryz.prog 158 3 13 := ⟨_, _, 32, Tryz.underlying158, rfl, by kernel_rfl, by decide, rfl⟩
instance : Fld Tryz.prog 158 0 0 := ⟨_, _, 1, Tryz.underlying158, rfl, by kernel_rfl, by decide, rfl⟩
instance : Ents Tryz.prog 135 := ⟨.mk Tryz.func135 (by kernel_rfl) rfl⟩
instance : Fld Tryz.prog 158 1 1 := ⟨_, _, 1, Tryz.underlying158, rfl, by kernel_rfl, by decide, rfl⟩
instance : Sca Tryz.prog 5 := ⟨_, Tryz.underlying5, rfl⟩
instance : Agg Tryz.prog 158 45 := ⟨_, Tryz.underlying158, rfl, by kernel_rfl⟩
instance : Ents Tryz.prog 203 := ⟨.mk Tryz.func203 (by kernel_rfl) rfl⟩
structure JdA where
  (t v : Int) (o : OpA) (id : List Int) (h : id.length = 32)
@[reducible] def jdC (j : JdA) : List Value := .int .i64 j.t :: .int .u8 j.v :: (opC j.o ++ ints .u8 j.id)
@[reducible] def JdA.V (j : JdA) : S.JdV := ⟨j.t, j.v, j.o.o, j.id⟩
theorem jdC_len {j : JdA} (h : j.id.length = 32) : (jdC j).length = 45 := by
  show (ints .u8 j.id).length + 13 = 45
  rw [ints_length, h]
theorem jdC_id {j : JdA} (h : j.id.length = 32) : ((jdC j).drop 13).take 32 = ints .u8 j.id := by
  show (ints .u8 j.id).take 32 = _
  exact List.take_of_length_le (by rw [ints_length, h]; exact Nat.le_refl _)
theorem jdC_all {j : JdA} (h : j.id.length = 32) : ((jdC j).drop 0).take 45 = jdC j := List.take_of_length_le (by rw [List.drop_zero, jdC_len h]; exact Nat.le_refl _)
structure JdR (S0 : Nat → Prop) (w : World) (j : JdA) : Prop where
  o : OpR S0 w j.o
  id : Arr .u8 32 j.id
theorem JdR.ext {S0 : Nat → Prop} {w w' : World} {j : JdA} (h : JdR S0 w j) (x : Ext w w') : JdR S0 w' j := ⟨h.o.ext x, h.id⟩
theorem poolTicket (t : Int) (w : World) : Calls Tryz.prog 135 #[.int .i64 t] w (Ret w fun v _ => v = .bool (decide (S.TickP t))) := by
  refine J.enter 8 Tryz.func135 rfl rfl ?_
  refine run ?_
  refine J.spd rfl rfl rfl (fun c => ?_) (fun c => ?_)
  · refine run ?_
    exact J.fin (congrArg _ (decide_eq_decide.2 ⟨fun h => ⟨c, h⟩, fun h => h.2⟩))
  · refine run ?_
    exact J.fin (congrArg _ (decide_eq_false fun h => c h.1).symm)
theorem poolNone {S0 : Nat → Prop} (j : JdA) (w : World) (R : JdR S0 w j) :
    Calls Tryz.prog 203 #[.agg (jdC j).toArray] w (Ret w fun v _ => v = .bool (decide (S.NoO j.o.o j.id))) := by
  have hid := R.id
  have hi := S.noO_iff (o := j.o.o) (id := j.id) R.o.row.len
  have no : ¬ (j.o.o.au = 0 ∧ j.o.o.n = 0 ∧ j.o.o.st = 0 ∧ (j.o.o.k = 0 ∧ j.o.o.key = .empty ∧ j.o.o.vk = 0 ∧ j.o.o.num = 0 ∧ j.o.o.bits = 0 ∧ j.o.o.t = .empty) ∧ (j.o.o.e = 0 ∧ j.o.o.s = 0) ∧ j.id = List.replicate 32 0) → Value.bool false = .bool (decide (S.NoO j.o.o j.id)) := fun h => congrArg _ (decide_eq_false fun k => h (hi.1 k)).symm
  refine J.enter 37 Tryz.func203 rfl rfl ?_
  refine run ?_
  refine J.box rfl rfl rfl fun b1 => ?_
  refine run ?_
  refine J.alloc rfl fun b3 => ?_
  refine run ?_
  refine J.spe rfl rfl rfl (fun c1 => ?_) (fun c1 => ?_)
  rotate_left
  · refine run ?_
    exact J.fin (no fun h => c1 h.1)
  refine run ?_
  refine J.spe rfl rfl rfl (fun c2 => ?_) (fun c2 => ?_)
  rotate_left
  · refine run ?_
    exact J.fin (no fun h => c2 (by have := h.2.1; omega))
  refine run ?_
  refine J.spe rfl rfl rfl (fun c3 => ?_) (fun c3 => ?_)
  rotate_left
  · refine run ?_
    exact J.fin (no fun h => c3 h.2.2.1)
  refine run ?_
  refine J.eqR rfl rfl rfl (fits_actD _ _ _ _ _ _) (fits_actD _ _ _ _ _ _) (S.eqA6 _ _ _ _ _ _ _ _ _ _ _ _) ?_
  refine run ?_
  refine J.spd rfl rfl rfl (fun c4 => ?_) (fun c4 => ?_)
  rotate_left
  · refine run ?_
    exact J.fin (no fun h => c4 h.2.2.2.1)
  refine run ?_
  refine J.eqR rfl rfl rfl (fits_sigD _ _) (fits_sigD _ _) (S.eqS2 _ _ _ _) ?_
  refine run ?_
  refine J.spd rfl rfl rfl (fun c5 => ?_) (fun c5 => ?_)
  rotate_left
  · refine run ?_
    exact J.fin (no fun h => c5 h.2.2.2.2.1)
  refine run ?_
  refine J.ldp rfl ?_ (hv := jdC_id hid.1) (hn := by rw [ints_length, hid.1])
  refine run ?_
  refine J.bz rfl ?_
  refine run ?_
  exact J.fin (congrArg _ (decide_eq_decide.2 ⟨fun h => hi.2 ⟨c1, by omega, c3, c4, c5, h⟩, fun h => (hi.1 h).2.2.2.2.2⟩))
theorem poolFinding {S0 : Nat → Prop} (j : JdA) (TK : TypeId) (w : World) (K0 : Kst w TK) (R : JdR S0 w j) :
    Calls Tryz.prog 144 #[.agg (jdC j).toArray] w (Ret w fun v _ => v = .bool (decide (S.FindP j.V))) := by
  have hid := R.id
  have RO := R.o
  have no : ¬ S.FindP j.V → Value.bool false = .bool (decide (S.FindP j.V)) := fun h => congrArg _ (decide_eq_false h).symm
  refine J.enter 38 Tryz.func144 rfl rfl ?_
  refine run ?_
  refine J.box rfl rfl rfl fun b1 => ?_
  refine run ?_
  refine J.callp rfl rfl (fun w' M => poolTicket j.t w') ?_
  refine run ?_
  refine J.ifnot rfl (fun c1 => ?_) (fun c1 => ?_)
  · refine run ?_
    exact J.fin (no fun h => of_decide_eq_false c1 h.1)
  have ht : S.TickP j.V.t := of_decide_eq_true c1
  have en : (j.v = 2 ∨ j.v = 3 ∨ j.v = 4) → decide (S.NoO j.o.o j.id) = decide (S.FindP j.V) := fun h => decide_eq_decide.2 (S.find_n (j := j.V) ht h).symm
  refine run ?_
  refine J.ife rfl (fun c2 => ?_) (fun c2 => ?_)
  · have hf := S.find_0 (j := j.V) ht c2
    have hA : Arr .u8 32 (if S.checkE j.o.o = 0 then S.sha (S.encS j.o.o) else List.replicate 32 0) := by
      split
      · exact S.sha_arr _
      · exact ⟨by simp, fun x hx => by rw [List.mem_replicate] at hx; rw [hx.2]; simp only [lim]; omega⟩
    refine run ?_
    refine J.callp rfl rfl (fun w' M => idO j.o.o RO.ok _ _ _ w' (K0.ext M.ext) (RO.row.ext M.ext) RO.cap) ?_
    refine run ?_
    refine J.alloc rfl fun b3 => ?_
    refine run ?_
    refine J.spe rfl rfl rfl (fun c3 => ?_) (fun c3 => ?_)
    rotate_left
    · refine run ?_
      exact J.fin (no fun h => c3 (S.verE_check (hf.1 h).1))
    refine run ?_
    refine J.ldp rfl ?_ (hv := jdC_id hid.1) (hn := by rw [ints_length, hid.1])
    refine run ?_
    refine J.spd rfl rfl rfl (fun c4 => ?_) (fun c4 => ?_)
    rotate_left
    · refine run ?_
      exact J.fin (no fun h => c4 (by rw [if_pos c3]; exact (hf.1 h).2))
    rw [if_pos c3] at c4
    refine run ?_
    refine J.callp rfl rfl (fun w' M => verifyO j.o.o RO.ok _ _ _ w' (K0.ext M.ext) (RO.row.ext M.ext) RO.cap) ?_
    refine run ?_
    refine J.fin (congrArg _ ?_)
    by_cases h : S.verE j.o.o = 0
    · rw [decide_eq_true (hf.2 ⟨h, c4⟩), h]
      rfl
    · rw [decide_eq_false fun k => h (hf.1 k).1]
      simpa using h
  refine run ?_
  refine J.ife rfl (fun c3 => ?_) (fun c3 => ?_)
  · refine run ?_
    refine J.ife rfl (fun _ => ?_) (fun c => absurd c3 c)
    refine run ?_
    refine J.ldp rfl ?_ (hv := jdC_all hid.1) (hn := jdC_len hid.1)
    refine J.callp rfl rfl (fun w' M => poolNone j w' (R.ext M.ext)) ?_
    refine run ?_
    exact J.fin (congrArg Value.bool (en (.inl c3)))
  refine run ?_
  refine J.ife rfl (fun c4 => ?_) (fun c4 => ?_)
  · refine run ?_
    refine J.ife rfl (fun _ => ?_) (fun c => absurd c4 c)
    refine run ?_
    refine J.ldp rfl ?_ (hv := jdC_all hid.1) (hn := jdC_len hid.1)
    refine J.callp rfl rfl (fun w' M => poolNone j w' (R.ext M.ext)) ?_
    refine run ?_
    exact J.fin (congrArg Value.bool (en (.inr (.inl c4))))
  refine run ?_
  refine J.ife rfl (fun c5 => ?_) (fun c5 => ?_)
  · skip
    refine run ?_
    refine J.ldp rfl ?_ (hv := jdC_all hid.1) (hn := jdC_len hid.1)
    refine J.callp rfl rfl (fun w' M => poolNone j w' (R.ext M.ext)) ?_
    refine run ?_
    exact J.fin (congrArg Value.bool (en (.inr (.inr c5))))
  refine run ?_
  exact J.fin (no (S.find_x (j := j.V) c2 (by show ¬ (j.v = 2 ∨ j.v = 3 ∨ j.v = 4); omega)))
instance : Ents Tryz.prog 205 := ⟨.mk Tryz.func205 (by kernel_rfl) rfl⟩
instance : SInf Tryz.prog 158 [(0, 1), (1, 1), (2, 11), (13, 32)] := ⟨_, Tryz.underlying158, by kernel_rfl, by kernel_rfl⟩
instance : Inf Tryz.prog 158 45 160 [.int .i64 0, .int .u8 0, .int .u32 0, .slice none 0 0, .int .u64 0, .int .u8 0, .string .empty, .int .u8 0, .int .i64 0, .int .u64 0, .string .empty, .int .u32 0, .int .u32 0, .int .u8 0, .int .u8 0, .int .u8 0, .int .u8 0, .int .u8 0, .int .u8 0, .int .u8 0, .int .u8 0, .int .u8 0, .int .u8 0, .int .u8 0, .int .u8 0, .int .u8 0, .int .u8 0, .int .u8 0, .int .u8 0, .int .u8 0, .int .u8 0, .int .u8 0, .int .u8 0, .int .u8 0, .int .u8 0, .int .u8 0, .int .u8 0, .int .u8 0, .int .u8 0, .int .u8 0, .int .u8 0, .int .u8 0, .int .u8 0, .int .u8 0, .int .u8 0] := ⟨TI.of (v := .agg #[.int .i64 0, .int .u8 0, .int .u32 0, .slice none 0 0, .int .u64 0, .int .u8 0, .string .empty, .int .u8 0, .int .i64 0, .int .u64 0, .string .empty, .int .u32 0, .int .u32 0, .int .u8 0, .int .u8 0, .int .u8 0, .int .u8 0, .int .u8 0, .int .u8 0, .int .u8 0, .int .u8 0, .int .u8 0, .int .u8 0, .int .u8 0, .int .u8 0, .int .u8 0, .int .u8 0, .int .u8 0, .int .u8 0, .int .u8 0, .int .u8 0, .int .u8 0, .int .u8 0, .int .u8 0, .int .u8 0, .int .u8 0, .int .u8 0, .int .u8 0, .int .u8 0, .int .u8 0, .int .u8 0, .int .u8 0, .int .u8 0, .int .u8 0, .int .u8 0]) (by kernel_rfl) rfl⟩
instance : Ents Tryz.prog 79 := ⟨.mk Tryz.func79 (by kernel_rfl) rfl⟩
theorem refSameJd {S0 S1 : Nat → Prop} (j k : JdA) (w : World) (R : JdR S0 w j) (R2 : JdR S1 w k) :
    Calls Tryz.prog 79 #[.agg (jdC j).toArray, .agg (jdC k).toArray] w (Ret w fun v _ => v = .bool (decide (S.SameJ j.V k.V))) := by
  have hid := R.id
  have hid2 := R2.id
  have no : ¬ S.SameJ j.V k.V → Value.bool false = .bool (decide (S.SameJ j.V k.V)) := fun h => congrArg _ (decide_eq_false h).symm
  refine J.enter 29 Tryz.func79 rfl rfl ?_
  refine run ?_
  refine J.box rfl rfl rfl fun b1 => ?_
  refine J.box rfl rfl rfl fun b2 => ?_
  refine run ?_
  refine J.spe rfl rfl rfl (fun c1 => ?_) (fun c1 => ?_)
  rotate_left
  · refine run ?_
    exact J.fin (no fun h => c1 h.1)
  refine run ?_
  refine J.spe rfl rfl rfl (fun c2 => ?_) (fun c2 => ?_)
  rotate_left
  · refine run ?_
    exact J.fin (no fun h => c2 h.2.1)
  refine run ?_
  refine J.ldp rfl ?_ (hv := jdC_id hid.1) (hn := by rw [ints_length, hid.1])
  refine run ?_
  refine J.ldp rfl ?_ (hv := jdC_id hid2.1) (hn := by rw [ints_length, hid2.1])
  refine run ?_
  refine J.spd rfl rfl rfl (fun c3 => ?_) (fun c3 => ?_)
  rotate_left
  · refine run ?_
    exact J.fin (no fun h => c3 h.2.2.1)
  refine run ?_
  refine J.callp rfl rfl (fun w' M => sameO j.o.o k.o.o R.o.ok R2.o.ok _ _ _ _ w' (R.o.row.ext M.ext) (R2.o.row.ext M.ext)) ?_
  refine run ?_
  exact J.fin (congrArg Value.bool (decide_eq_decide.2 ⟨fun h => ⟨c1, c2, c3, h⟩, fun h => h.2.2.2⟩))
theorem jdZ {S0 : Nat → Prop} (t v : Int) (w : World) : JdR S0 w ⟨t, v, ⟨S.OpV.zero, none, 0⟩, List.replicate 32 0, rfl⟩ := ⟨⟨S.OpV.zero_ok, WRow.nil, Nat.le_refl _⟩, by simp, fun x hx => by rw [List.mem_replicate] at hx; rw [hx.2]; simp only [lim]; omega⟩
theorem refFinding {S0 : Nat → Prop} (j : JdA) (w : World) (R : JdR S0 w j) :
    Calls Tryz.prog 148 #[.agg (jdC j).toArray] w (Ret w fun v _ => v = .bool (decide (S.FindP j.V))) := by
  have hid := R.id
  have RO := R.o
  have gone : ¬ S.FindP j.V → Value.bool false = .bool (decide (S.FindP j.V)) := fun h => congrArg _ (decide_eq_false h).symm
  refine J.enter 57 Tryz.func148 rfl rfl ?_
  refine run ?_
  refine J.box rfl rfl rfl fun b1 => ?_
  refine run ?_
  refine J.spd rfl rfl rfl (fun c1 => ?_) (fun c1 => ?_)
  · refine run ?_
    exact J.fin (gone fun h => by have h1 : 0 ≤ j.t := h.1.1; omega)
  refine run ?_
  refine J.ifd rfl (fun c2 => ?_) (fun c2 => ?_)
  · refine run ?_
    exact J.fin (gone fun h => by have h1 : j.t ≤ 1000000000 := h.1.2; omega)
  have ht : S.TickP j.V.t := ⟨by show 0 ≤ j.t; omega, by show j.t ≤ 1000000000; omega⟩
  have en : (j.v = 2 ∨ j.v = 3 ∨ j.v = 4) → decide (S.SameJ j.V ⟨j.t, j.v, S.OpV.zero, List.replicate 32 0⟩) = decide (S.FindP j.V) := fun h => decide_eq_decide.2 ((S.sameJ_none (j := j.V)).trans (S.find_n (j := j.V) ht h).symm)
  refine run ?_
  refine J.ife rfl (fun c3 => ?_) (fun c3 => ?_)
  · have hf := S.find_0 (j := j.V) ht c3
    have hA : Arr .u8 32 (if S.checkE j.o.o = 0 then S.sha (S.encS j.o.o) else List.replicate 32 0) := by
      split
      · exact S.sha_arr _
      · exact ⟨by simp, fun x hx => by rw [List.mem_replicate] at hx; rw [hx.2]; simp only [lim]; omega⟩
    refine run ?_
    refine J.callp rfl rfl (fun w' M => idOR j.o.o RO.ok _ _ w' (RO.row.ext M.ext) RO.cap) ?_
    refine run ?_
    refine J.alloc rfl fun b3 => ?_
    refine run ?_
    refine J.spe rfl rfl rfl (fun c4 => ?_) (fun c4 => ?_)
    rotate_left
    · refine run ?_
      exact J.fin (gone fun h => c4 (S.verE_check (hf.1 h).1))
    refine run ?_
    refine J.ldp rfl ?_ (hv := jdC_id hid.1) (hn := by rw [ints_length, hid.1])
    refine run ?_
    refine J.spd rfl rfl rfl (fun c5 => ?_) (fun c5 => ?_)
    rotate_left
    · refine run ?_
      exact J.fin (gone fun h => c5 (by rw [if_pos c4]; exact (hf.1 h).2))
    rw [if_pos c4] at c5
    refine run ?_
    refine J.callp rfl rfl (fun w' M => verifyOR j.o.o RO.ok _ _ w' (RO.row.ext M.ext) RO.cap) ?_
    refine run ?_
    refine J.fin (congrArg Value.bool ?_)
    by_cases h : S.verE j.o.o = 0
    · rw [decide_eq_true (hf.2 ⟨h, c5⟩), h]
      rfl
    · rw [decide_eq_false fun k => h (hf.1 k).1]
      simpa using h
  refine run ?_
  refine J.spe rfl rfl rfl (fun c4 => ?_) (fun c4 => ?_)
  · skip
    refine run ?_
    refine J.ldp rfl ?_ (hv := jdC_all hid.1) (hn := jdC_len hid.1)
    refine run ?_
    refine J.callp rfl rfl (fun w' M => refSameJd (S1 := no) j ⟨j.t, j.v, ⟨S.OpV.zero, none, 0⟩, List.replicate 32 0, rfl⟩ w' (R.ext M.ext) (jdZ j.t j.v w')) ?_
    refine run ?_
    exact J.fin (congrArg Value.bool (en (.inl c4)))
  refine run ?_
  refine J.spe rfl rfl rfl (fun c5 => ?_) (fun c5 => ?_)
  · skip
    refine run ?_
    refine J.ldp rfl ?_ (hv := jdC_all hid.1) (hn := jdC_len hid.1)
    refine run ?_
    refine J.callp rfl rfl (fun w' M => refSameJd (S1 := no) j ⟨j.t, j.v, ⟨S.OpV.zero, none, 0⟩, List.replicate 32 0, rfl⟩ w' (R.ext M.ext) (jdZ j.t j.v w')) ?_
    refine run ?_
    exact J.fin (congrArg Value.bool (en (.inr (.inl c5))))
  refine run ?_
  refine J.spe rfl rfl rfl (fun c6 => ?_) (fun c6 => ?_)
  · skip
    refine run ?_
    refine J.ldp rfl ?_ (hv := jdC_all hid.1) (hn := jdC_len hid.1)
    refine run ?_
    refine J.callp rfl rfl (fun w' M => refSameJd (S1 := no) j ⟨j.t, j.v, ⟨S.OpV.zero, none, 0⟩, List.replicate 32 0, rfl⟩ w' (R.ext M.ext) (jdZ j.t j.v w')) ?_
    refine run ?_
    exact J.fin (congrArg Value.bool (en (.inr (.inr c6))))
  refine run ?_
  exact J.fin (gone (S.find_x (j := j.V) c3 (by show ¬ (j.v = 2 ∨ j.v = 3 ∨ j.v = 4); omega)))
instance : Fld Tryz.prog 223 1 1 := ⟨_, _, 2, Tryz.underlying223, rfl, by kernel_rfl, by decide, rfl⟩
instance : Fld Tryz.prog 155 0 0 := ⟨_, _, 1, Tryz.underlying155, rfl, by kernel_rfl, by decide, rfl⟩
instance : Fld Tryz.prog 155 1 1 := ⟨_, _, 1, Tryz.underlying155, rfl, by kernel_rfl, by decide, rfl⟩
instance : Sca Tryz.prog 51 := ⟨_, Tryz.underlying51, rfl⟩
instance : Und Tryz.prog 51 (.slice 5) := ⟨Tryz.underlying51⟩
instance : Fld Tryz.prog 223 2 3 := ⟨_, _, 45, Tryz.underlying223, rfl, by kernel_rfl, by decide, rfl⟩
instance : Fld Tryz.prog 223 0 0 := ⟨_, _, 1, Tryz.underlying223, rfl, by kernel_rfl, by decide, rfl⟩
instance : Ents Tryz.prog 144 := ⟨.mk Tryz.func144 (by kernel_rfl) rfl⟩
structure HdA where
  (s jt : Int) (ba : Option Addr) (bn bc : Nat) (bs : List Int) (j : JdA)
@[reducible] def hdC (h : HdA) : List Value := .int .u8 h.s :: .int .i64 h.jt :: .slice h.ba h.bn h.bc :: jdC h.j
theorem hdC_len {h : HdA} (k : h.j.id.length = 32) : (hdC h).length = 48 := by
  show (jdC h.j).length + 3 = 48
  rw [jdC_len k]
theorem hdC_jd {h : HdA} (k : h.j.id.length = 32) : ((hdC h).drop 3).take 45 = jdC h.j := by
  show (jdC h.j).take 45 = _
  exact List.take_of_length_le (by rw [jdC_len k]; exact Nat.le_refl _)
def JobZ (h : HdA) : Prop := h.jt = 0 ∧ h.bn = 0
def JudZ (h : HdA) : Prop := S.NoO h.j.o.o h.j.id ∧ h.j.t = 0 ∧ h.j.v = 0
instance (h : HdA) : Decidable (JobZ h) := by unfold JobZ; infer_instance
instance (h : HdA) : Decidable (JudZ h) := by unfold JudZ; infer_instance
def HandT (h : HdA) : Int := if h.s = 1 then h.jt else if h.s = 2 then h.j.t else -1
def HandP (h : HdA) : Prop := (h.s = 0 ∧ JobZ h ∧ JudZ h) ∨ (h.s = 1 ∧ JudZ h ∧ S.TickP h.jt) ∨ (h.s = 2 ∧ JobZ h ∧ S.FindP h.j.V)
instance (h : HdA) : Decidable (HandP h) := by unfold HandP; infer_instance
theorem hand_0 {h : HdA} (hs : h.s = 0) : HandT h = -1 ∧ (HandP h ↔ JobZ h ∧ JudZ h) := by
  unfold HandT HandP
  rw [hs]
  simp
theorem hand_1 {h : HdA} (hs : h.s = 1) : HandT h = h.jt ∧ (HandP h ↔ JudZ h ∧ S.TickP h.jt) := by
  unfold HandT HandP
  rw [hs]
  simp
theorem hand_2 {h : HdA} (hs : h.s = 2) : HandT h = h.j.t ∧ (HandP h ↔ JobZ h ∧ S.FindP h.j.V) := by
  unfold HandT HandP
  rw [hs]
  simp
theorem hand_x {h : HdA} (h0 : h.s ≠ 0) (h1 : h.s ≠ 1) (h2 : h.s ≠ 2) : HandT h = -1 ∧ ¬ HandP h := by
  unfold HandT HandP
  simp [h0, h1, h2]
theorem poolHand {S0 : Nat → Prop} (h : HdA) (TK : TypeId) (w : World) (K0 : Kst w TK) (R : JdR S0 w h.j) :
    Calls Tryz.prog 145 #[.agg (hdC h).toArray] w (Ret w fun v _ => v = .tuple #[.int .i64 (HandT h), .bool (decide (HandP h))]) := by
  have hid := R.id
  refine J.enter 62 Tryz.func145 rfl rfl ?_
  refine run ?_
  refine J.box rfl rfl rfl fun b1 => ?_
  refine run ?_
  refine J.spe rfl rfl rfl (fun c1 => ?_) (fun c1 => ?_)
  · skip
    refine run ?_
    refine J.ldp rfl ?_ (hv := hdC_jd hid.1) (hn := jdC_len hid.1)
    refine J.callp rfl rfl (fun w' M => poolNone h.j w' (R.ext M.ext)) ?_
    refine run ?_
    refine J.spd rfl rfl rfl (fun c2 => ?_) (fun c2 => ?_)
    · refine run ?_
      refine J.spe rfl rfl rfl (fun c3 => ?_) (fun c3 => ?_)
      · skip
        refine run ?_
        refine J.ife rfl (fun s0 => ?_) (fun s0 => ?_)
        · refine run ?_
          refine J.spe rfl rfl rfl (fun d1 => ?_) (fun d1 => ?_)
          · have e9 : h.bn = 0 := by omega
            refine run ?_
            refine J.fin (tup2 (congrArg _ (hand_0 s0).1.symm) (congrArg Value.bool ?_))
            rw [Bool.eq_iff_iff]
            simp [(hand_0 s0).2, JobZ, JudZ, *]
          · have e9 : h.bn ≠ 0 := by omega
            refine run ?_
            refine J.fin (tup2 (congrArg _ (hand_0 s0).1.symm) (congrArg Value.bool ?_))
            rw [Bool.eq_iff_iff]
            simp [(hand_0 s0).2, JobZ, JudZ, *]
        refine run ?_
        refine J.ife rfl (fun s1 => ?_) (fun s1 => ?_)
        · refine run ?_
          refine J.regionX [(0, .q), (1, .q), (2, .q), (3, .q), (4, .q), (5, .q), (6, .q), (7, .q), (8, .e), (9, .q), (10, .q), (11, .q)] mixed (by kernel_rfl) ?_
          refine run ?_
          refine J.spe rfl rfl rfl (fun d2 => ?_) (fun d2 => ?_)
          · refine run ?_
            refine J.callp rfl rfl (fun w' M => poolTicket h.jt w') ?_
            refine run ?_
            refine J.fin (tup2 (congrArg _ (hand_1 s1).1.symm) (congrArg Value.bool ?_))
            rw [Bool.eq_iff_iff]
            simp [(hand_1 s1).2, JobZ, JudZ, *]
          · refine run ?_
            refine J.fin (tup2 (congrArg _ (hand_1 s1).1.symm) (congrArg Value.bool ?_))
            rw [Bool.eq_iff_iff]
            simp [(hand_1 s1).2, JobZ, JudZ, *]
        refine run ?_
        refine J.ife rfl (fun s2 => ?_) (fun s2 => ?_)
        · refine run ?_
          refine J.regionX [(0, .q), (1, .q), (2, .q), (3, .q), (4, .q), (5, .q), (6, .q), (7, .e), (8, .q), (9, .q), (10, .q)] mixed (by kernel_rfl) ?_
          refine run ?_
          refine J.spe rfl rfl rfl (fun d3 => ?_) (fun d3 => ?_)
          · have e9 : h.bn = 0 := by omega
            refine run ?_
            refine J.ldp rfl ?_ (hv := hdC_jd hid.1) (hn := jdC_len hid.1)
            refine run ?_
            refine J.callp rfl rfl (fun w' M => poolFinding h.j TK w' (K0.ext M.ext) (R.ext M.ext)) ?_
            refine run ?_
            refine J.fin (tup2 (congrArg _ (hand_2 s2).1.symm) (congrArg Value.bool ?_))
            rw [Bool.eq_iff_iff]
            simp [(hand_2 s2).2, JobZ, JudZ, *]
          · have e9 : h.bn ≠ 0 := by omega
            refine run ?_
            refine J.fin (tup2 (congrArg _ (hand_2 s2).1.symm) (congrArg Value.bool ?_))
            rw [Bool.eq_iff_iff]
            simp [(hand_2 s2).2, JobZ, JudZ, *]
        refine run ?_
        refine J.fin (tup2 (congrArg _ (hand_x s0 s1 s2).1.symm) (congrArg Value.bool (decide_eq_false (hand_x s0 s1 s2).2).symm))
      · skip
        refine run ?_
        refine J.ife rfl (fun s0 => ?_) (fun s0 => ?_)
        · refine run ?_
          refine J.spe rfl rfl rfl (fun d1 => ?_) (fun d1 => ?_)
          · have e9 : h.bn = 0 := by omega
            refine run ?_
            refine J.fin (tup2 (congrArg _ (hand_0 s0).1.symm) (congrArg Value.bool ?_))
            rw [Bool.eq_iff_iff]
            simp [(hand_0 s0).2, JobZ, JudZ, *]
          · have e9 : h.bn ≠ 0 := by omega
            refine run ?_
            refine J.fin (tup2 (congrArg _ (hand_0 s0).1.symm) (congrArg Value.bool ?_))
            rw [Bool.eq_iff_iff]
            simp [(hand_0 s0).2, JobZ, JudZ, *]
        refine run ?_
        refine J.ife rfl (fun s1 => ?_) (fun s1 => ?_)
        · refine run ?_
          refine J.regionX [(0, .q), (1, .q), (2, .q), (3, .q), (4, .q), (5, .q), (6, .q), (7, .q), (8, .e), (9, .q), (10, .q), (11, .q)] mixed (by kernel_rfl) ?_
          refine run ?_
          refine J.fin (tup2 (congrArg _ (hand_1 s1).1.symm) (congrArg Value.bool ?_))
          rw [Bool.eq_iff_iff]
          simp [(hand_1 s1).2, JobZ, JudZ, *]
        refine run ?_
        refine J.ife rfl (fun s2 => ?_) (fun s2 => ?_)
        · refine run ?_
          refine J.regionX [(0, .q), (1, .q), (2, .q), (3, .q), (4, .q), (5, .q), (6, .q), (7, .e), (8, .q), (9, .q), (10, .q)] mixed (by kernel_rfl) ?_
          refine run ?_
          refine J.spe rfl rfl rfl (fun d3 => ?_) (fun d3 => ?_)
          · have e9 : h.bn = 0 := by omega
            refine run ?_
            refine J.ldp rfl ?_ (hv := hdC_jd hid.1) (hn := jdC_len hid.1)
            refine run ?_
            refine J.callp rfl rfl (fun w' M => poolFinding h.j TK w' (K0.ext M.ext) (R.ext M.ext)) ?_
            refine run ?_
            refine J.fin (tup2 (congrArg _ (hand_2 s2).1.symm) (congrArg Value.bool ?_))
            rw [Bool.eq_iff_iff]
            simp [(hand_2 s2).2, JobZ, JudZ, *]
          · have e9 : h.bn ≠ 0 := by omega
            refine run ?_
            refine J.fin (tup2 (congrArg _ (hand_2 s2).1.symm) (congrArg Value.bool ?_))
            rw [Bool.eq_iff_iff]
            simp [(hand_2 s2).2, JobZ, JudZ, *]
        refine run ?_
        refine J.fin (tup2 (congrArg _ (hand_x s0 s1 s2).1.symm) (congrArg Value.bool (decide_eq_false (hand_x s0 s1 s2).2).symm))
    · skip
      refine run ?_
      refine J.ife rfl (fun s0 => ?_) (fun s0 => ?_)
      · refine run ?_
        refine J.spe rfl rfl rfl (fun d1 => ?_) (fun d1 => ?_)
        · have e9 : h.bn = 0 := by omega
          refine run ?_
          refine J.fin (tup2 (congrArg _ (hand_0 s0).1.symm) (congrArg Value.bool ?_))
          rw [Bool.eq_iff_iff]
          simp [(hand_0 s0).2, JobZ, JudZ, *]
        · have e9 : h.bn ≠ 0 := by omega
          refine run ?_
          refine J.fin (tup2 (congrArg _ (hand_0 s0).1.symm) (congrArg Value.bool ?_))
          rw [Bool.eq_iff_iff]
          simp [(hand_0 s0).2, JobZ, JudZ, *]
      refine run ?_
      refine J.ife rfl (fun s1 => ?_) (fun s1 => ?_)
      · refine run ?_
        refine J.regionX [(0, .q), (1, .q), (2, .q), (3, .q), (4, .q), (5, .q), (6, .q), (7, .q), (8, .e), (9, .q), (10, .q), (11, .q)] mixed (by kernel_rfl) ?_
        refine run ?_
        refine J.fin (tup2 (congrArg _ (hand_1 s1).1.symm) (congrArg Value.bool ?_))
        rw [Bool.eq_iff_iff]
        simp [(hand_1 s1).2, JobZ, JudZ, *]
      refine run ?_
      refine J.ife rfl (fun s2 => ?_) (fun s2 => ?_)
      · refine run ?_
        refine J.regionX [(0, .q), (1, .q), (2, .q), (3, .q), (4, .q), (5, .q), (6, .q), (7, .e), (8, .q), (9, .q), (10, .q)] mixed (by kernel_rfl) ?_
        refine run ?_
        refine J.spe rfl rfl rfl (fun d3 => ?_) (fun d3 => ?_)
        · have e9 : h.bn = 0 := by omega
          refine run ?_
          refine J.ldp rfl ?_ (hv := hdC_jd hid.1) (hn := jdC_len hid.1)
          refine run ?_
          refine J.callp rfl rfl (fun w' M => poolFinding h.j TK w' (K0.ext M.ext) (R.ext M.ext)) ?_
          refine run ?_
          refine J.fin (tup2 (congrArg _ (hand_2 s2).1.symm) (congrArg Value.bool ?_))
          rw [Bool.eq_iff_iff]
          simp [(hand_2 s2).2, JobZ, JudZ, *]
        · have e9 : h.bn ≠ 0 := by omega
          refine run ?_
          refine J.fin (tup2 (congrArg _ (hand_2 s2).1.symm) (congrArg Value.bool ?_))
          rw [Bool.eq_iff_iff]
          simp [(hand_2 s2).2, JobZ, JudZ, *]
      refine run ?_
      refine J.fin (tup2 (congrArg _ (hand_x s0 s1 s2).1.symm) (congrArg Value.bool (decide_eq_false (hand_x s0 s1 s2).2).symm))
  · skip
    refine run ?_
    refine J.ldp rfl ?_ (hv := hdC_jd hid.1) (hn := jdC_len hid.1)
    refine J.callp rfl rfl (fun w' M => poolNone h.j w' (R.ext M.ext)) ?_
    refine run ?_
    refine J.spd rfl rfl rfl (fun c2 => ?_) (fun c2 => ?_)
    · refine run ?_
      refine J.spe rfl rfl rfl (fun c3 => ?_) (fun c3 => ?_)
      · skip
        refine run ?_
        refine J.ife rfl (fun s0 => ?_) (fun s0 => ?_)
        · refine run ?_
          refine J.fin (tup2 (congrArg _ (hand_0 s0).1.symm) (congrArg Value.bool ?_))
          rw [Bool.eq_iff_iff]
          simp [(hand_0 s0).2, JobZ, JudZ, *]
        refine run ?_
        refine J.ife rfl (fun s1 => ?_) (fun s1 => ?_)
        · refine run ?_
          refine J.regionX [(0, .q), (1, .q), (2, .q), (3, .q), (4, .q), (5, .q), (6, .q), (7, .q), (8, .e), (9, .q), (10, .q), (11, .q)] mixed (by kernel_rfl) ?_
          refine run ?_
          refine J.spe rfl rfl rfl (fun d2 => ?_) (fun d2 => ?_)
          · refine run ?_
            refine J.callp rfl rfl (fun w' M => poolTicket h.jt w') ?_
            refine run ?_
            refine J.fin (tup2 (congrArg _ (hand_1 s1).1.symm) (congrArg Value.bool ?_))
            rw [Bool.eq_iff_iff]
            simp [(hand_1 s1).2, JobZ, JudZ, *]
          · refine run ?_
            refine J.fin (tup2 (congrArg _ (hand_1 s1).1.symm) (congrArg Value.bool ?_))
            rw [Bool.eq_iff_iff]
            simp [(hand_1 s1).2, JobZ, JudZ, *]
        refine run ?_
        refine J.ife rfl (fun s2 => ?_) (fun s2 => ?_)
        · refine run ?_
          refine J.regionX [(0, .q), (1, .q), (2, .q), (3, .q), (4, .q), (5, .q), (6, .q), (7, .e), (8, .q), (9, .q), (10, .q)] mixed (by kernel_rfl) ?_
          refine run ?_
          refine J.fin (tup2 (congrArg _ (hand_2 s2).1.symm) (congrArg Value.bool ?_))
          rw [Bool.eq_iff_iff]
          simp [(hand_2 s2).2, JobZ, JudZ, *]
        refine run ?_
        refine J.fin (tup2 (congrArg _ (hand_x s0 s1 s2).1.symm) (congrArg Value.bool (decide_eq_false (hand_x s0 s1 s2).2).symm))
      · skip
        refine run ?_
        refine J.ife rfl (fun s0 => ?_) (fun s0 => ?_)
        · refine run ?_
          refine J.fin (tup2 (congrArg _ (hand_0 s0).1.symm) (congrArg Value.bool ?_))
          rw [Bool.eq_iff_iff]
          simp [(hand_0 s0).2, JobZ, JudZ, *]
        refine run ?_
        refine J.ife rfl (fun s1 => ?_) (fun s1 => ?_)
        · refine run ?_
          refine J.regionX [(0, .q), (1, .q), (2, .q), (3, .q), (4, .q), (5, .q), (6, .q), (7, .q), (8, .e), (9, .q), (10, .q), (11, .q)] mixed (by kernel_rfl) ?_
          refine run ?_
          refine J.fin (tup2 (congrArg _ (hand_1 s1).1.symm) (congrArg Value.bool ?_))
          rw [Bool.eq_iff_iff]
          simp [(hand_1 s1).2, JobZ, JudZ, *]
        refine run ?_
        refine J.ife rfl (fun s2 => ?_) (fun s2 => ?_)
        · refine run ?_
          refine J.regionX [(0, .q), (1, .q), (2, .q), (3, .q), (4, .q), (5, .q), (6, .q), (7, .e), (8, .q), (9, .q), (10, .q)] mixed (by kernel_rfl) ?_
          refine run ?_
          refine J.fin (tup2 (congrArg _ (hand_2 s2).1.symm) (congrArg Value.bool ?_))
          rw [Bool.eq_iff_iff]
          simp [(hand_2 s2).2, JobZ, JudZ, *]
        refine run ?_
        refine J.fin (tup2 (congrArg _ (hand_x s0 s1 s2).1.symm) (congrArg Value.bool (decide_eq_false (hand_x s0 s1 s2).2).symm))
    · skip
      refine run ?_
      refine J.ife rfl (fun s0 => ?_) (fun s0 => ?_)
      · refine run ?_
        refine J.fin (tup2 (congrArg _ (hand_0 s0).1.symm) (congrArg Value.bool ?_))
        rw [Bool.eq_iff_iff]
        simp [(hand_0 s0).2, JobZ, JudZ, *]
      refine run ?_
      refine J.ife rfl (fun s1 => ?_) (fun s1 => ?_)
      · refine run ?_
        refine J.regionX [(0, .q), (1, .q), (2, .q), (3, .q), (4, .q), (5, .q), (6, .q), (7, .q), (8, .e), (9, .q), (10, .q), (11, .q)] mixed (by kernel_rfl) ?_
        refine run ?_
        refine J.fin (tup2 (congrArg _ (hand_1 s1).1.symm) (congrArg Value.bool ?_))
        rw [Bool.eq_iff_iff]
        simp [(hand_1 s1).2, JobZ, JudZ, *]
      refine run ?_
      refine J.ife rfl (fun s2 => ?_) (fun s2 => ?_)
      · refine run ?_
        refine J.regionX [(0, .q), (1, .q), (2, .q), (3, .q), (4, .q), (5, .q), (6, .q), (7, .e), (8, .q), (9, .q), (10, .q)] mixed (by kernel_rfl) ?_
        refine run ?_
        refine J.fin (tup2 (congrArg _ (hand_2 s2).1.symm) (congrArg Value.bool ?_))
        rw [Bool.eq_iff_iff]
        simp [(hand_2 s2).2, JobZ, JudZ, *]
      refine run ?_
      refine J.fin (tup2 (congrArg _ (hand_x s0 s1 s2).1.symm) (congrArg Value.bool (decide_eq_false (hand_x s0 s1 s2).2).symm))
instance : Ents Tryz.prog 148 := ⟨.mk Tryz.func148 (by kernel_rfl) rfl⟩
theorem judZ_iff {h : HdA} : S.SameJ h.j.V ⟨0, 0, S.OpV.zero, List.replicate 32 0⟩ ↔ JudZ h := ⟨fun k => ⟨⟨k.2.2.2, k.2.2.1⟩, k.1, k.2.1⟩, fun k => ⟨k.2.1, k.2.2, k.1.2, k.1.1⟩⟩
theorem refHand {S0 : Nat → Prop} (h : HdA) (w : World) (R : JdR S0 w h.j) :
    Calls Tryz.prog 149 #[.agg (hdC h).toArray] w (Ret w fun v _ => v = .bool (decide (HandP h))) := by
  have hid := R.id
  refine J.enter 50 Tryz.func149 rfl rfl ?_
  refine run ?_
  refine J.box rfl rfl rfl fun b1 => ?_
  refine run ?_
  refine J.spe rfl rfl rfl (fun c1 => ?_) (fun c1 => ?_)
  · skip
    refine run ?_
    refine J.ldp rfl ?_ (hv := hdC_jd hid.1) (hn := jdC_len hid.1)
    refine run ?_
    refine J.callp rfl rfl (fun w' M => refSameJd (S1 := no) h.j ⟨0, 0, ⟨S.OpV.zero, none, 0⟩, List.replicate 32 0, rfl⟩ w' (R.ext M.ext) (jdZ 0 0 w')) ?_
    rw [show decide (S.SameJ h.j.V (JdA.V ⟨0, 0, ⟨S.OpV.zero, none, 0⟩, List.replicate 32 0, rfl⟩)) = decide (JudZ h) from decide_eq_decide.2 judZ_iff]
    refine run ?_
    refine J.ife rfl (fun s0 => ?_) (fun s0 => ?_)
    · refine run ?_
      refine J.spe rfl rfl rfl (fun d1 => ?_) (fun d1 => ?_)
      · refine run ?_
        exact J.fin (congrArg Value.bool (decide_eq_decide.2 ⟨fun k => (hand_0 s0).2.2 ⟨⟨c1, by omega⟩, k⟩, fun k => ((hand_0 s0).2.1 k).2⟩))
      · refine run ?_
        exact J.fin (congrArg Value.bool (decide_eq_false fun k => d1 (by have := ((hand_0 s0).2.1 k).1.2; omega)).symm)
    refine run ?_
    refine J.ife rfl (fun s1 => ?_) (fun s1 => ?_)
    · refine run ?_
      refine J.spd rfl rfl rfl (fun d2 => ?_) (fun d2 => ?_)
      · refine run ?_
        refine J.spd rfl rfl rfl (fun d3 => ?_) (fun d3 => ?_)
        · refine run ?_
          exact J.fin (congrArg Value.bool (decide_eq_decide.2 ⟨fun k => (hand_1 s1).2.2 ⟨d2, d3, k⟩, fun k => ((hand_1 s1).2.1 k).2.2⟩))
        · refine run ?_
          exact J.fin (congrArg Value.bool (decide_eq_false fun k => d3 ((hand_1 s1).2.1 k).2.1).symm)
      · refine run ?_
        exact J.fin (congrArg Value.bool (decide_eq_false fun k => d2 ((hand_1 s1).2.1 k).1).symm)
    refine run ?_
    refine J.ife rfl (fun s2 => ?_) (fun s2 => ?_)
    · refine run ?_
      refine J.spe rfl rfl rfl (fun d1 => ?_) (fun d1 => ?_)
      · refine run ?_
        refine J.ldp rfl ?_ (hv := hdC_jd hid.1) (hn := jdC_len hid.1)
        refine run ?_
        refine J.callp rfl rfl (fun w' M => refFinding h.j w' (R.ext M.ext)) ?_
        refine run ?_
        exact J.fin (congrArg Value.bool (decide_eq_decide.2 ⟨fun k => (hand_2 s2).2.2 ⟨⟨c1, by omega⟩, k⟩, fun k => ((hand_2 s2).2.1 k).2⟩))
      · refine run ?_
        exact J.fin (congrArg Value.bool (decide_eq_false fun k => d1 (by have := ((hand_2 s2).2.1 k).1.2; omega)).symm)
    refine run ?_
    exact J.fin (congrArg Value.bool (decide_eq_false (hand_x s0 s1 s2).2).symm)
  · skip
    refine run ?_
    refine J.ldp rfl ?_ (hv := hdC_jd hid.1) (hn := jdC_len hid.1)
    refine run ?_
    refine J.callp rfl rfl (fun w' M => refSameJd (S1 := no) h.j ⟨0, 0, ⟨S.OpV.zero, none, 0⟩, List.replicate 32 0, rfl⟩ w' (R.ext M.ext) (jdZ 0 0 w')) ?_
    rw [show decide (S.SameJ h.j.V (JdA.V ⟨0, 0, ⟨S.OpV.zero, none, 0⟩, List.replicate 32 0, rfl⟩)) = decide (JudZ h) from decide_eq_decide.2 judZ_iff]
    refine run ?_
    refine J.ife rfl (fun s0 => ?_) (fun s0 => ?_)
    · refine run ?_
      exact J.fin (congrArg Value.bool (decide_eq_false fun k => c1 ((hand_0 s0).2.1 k).1.1).symm)
    refine run ?_
    refine J.ife rfl (fun s1 => ?_) (fun s1 => ?_)
    · refine run ?_
      refine J.spd rfl rfl rfl (fun d2 => ?_) (fun d2 => ?_)
      · refine run ?_
        refine J.spd rfl rfl rfl (fun d3 => ?_) (fun d3 => ?_)
        · refine run ?_
          exact J.fin (congrArg Value.bool (decide_eq_decide.2 ⟨fun k => (hand_1 s1).2.2 ⟨d2, d3, k⟩, fun k => ((hand_1 s1).2.1 k).2.2⟩))
        · refine run ?_
          exact J.fin (congrArg Value.bool (decide_eq_false fun k => d3 ((hand_1 s1).2.1 k).2.1).symm)
      · refine run ?_
        exact J.fin (congrArg Value.bool (decide_eq_false fun k => d2 ((hand_1 s1).2.1 k).1).symm)
    refine run ?_
    refine J.ife rfl (fun s2 => ?_) (fun s2 => ?_)
    · refine run ?_
      exact J.fin (congrArg Value.bool (decide_eq_false fun k => c1 ((hand_2 s2).2.1 k).1.1).symm)
    refine run ?_
    exact J.fin (congrArg Value.bool (decide_eq_false (hand_x s0 s1 s2).2).symm)
end Go.Proofs.YtkmaenmhcgohbaaGreatDoor.W
namespace Go.Proofs.YtkmaenmhcgohbaaGreatDoor.W
open Go.RowKit Go.Proofs.YtkmaenmhcgohbaaGreatDoor.G
set_option linter.unusedVariables false
theorem irow_e {k : IntKind} {a : Option Addr} {n : Nat} {xs : List Int} {S : Nat → Prop} {w : World} (h : (Ent.irow k a n xs).ok S w) : IRow k S w a n xs := h
theorem irow_i {k : IntKind} {a : Option Addr} {n : Nat} {xs : List Int} {S : Nat → Prop} {w : World} (h : IRow k S w a n xs) : (Ent.irow k a n xs).ok S w := h
theorem wrow_e {k : IntKind} {sz : Nat} {a : Option Addr} {n : Nat} {xs : List Int} {S : Nat → Prop} {w : World} (h : (Ent.wrow k sz a n xs).ok S w) : WRow k sz S w a n xs := h
theorem wrow_i {k : IntKind} {sz : Nat} {a : Option Addr} {n : Nat} {xs : List Int} {S : Nat → Prop} {w : World} (h : WRow k sz S w a n xs) : (Ent.wrow k sz a n xs).ok S w := h
theorem sep2 {e1 e2 : Ent} {S1 S2 : Nat → Prop} {w : World} (hd : ∀ b, S1 b → S2 b → False) (h1 : e1.ok S1 w) (h2 : e2.ok S2 w) : Sep [e1, e2] (fun b => S1 b ∨ S2 b) w := Sep.app (sep1 h1) (sep1 h2) (fun _ h => .inl h) (fun _ h => .inr h) hd
section
variable {S0 : Nat → Prop} {w0 : World} {L : List Ent} {X : World → Prop}
theorem J.pair {F1 F2 : Ent → List Ent} (e1 e2 : Ent) [R : RE L e1 F1] [R2 : RE (F1 .emp) e2 F2] (k : J S0 w0 (F2 (.all [e1, e2])) X) : J S0 w0 L X :=
  J.merge e1 e2 (.all [e1, e2]) (fun _ _ _ hd h1 h2 => all_i (sep2 hd h1 h2)) k
end
section
variable {S0 : Nat → Prop} {w0 : World} {L : List Ent} {P : Program} {ops : Array Oper} {K : List Value → World → Prop} {rest : List (Oper × Kd)} {l : List Value} {m : Md} {d : Tmp} {ty : TypeId} {pos : String} {af : Array Edge} {kd : Kd} {t e : TypeId} {by_ : Nat} {zs : List Value}
theorem J.b0I [U : Und P t (.slice e)] [I : Inf P e 1 by_ zs] (k : IntKind) {l' : Nat → List Value} (hk : okE m kd = true) (kk : ∀ b, J S0 w0 (.iown e k (some ⟨b, 0, none⟩) 0 0 [] :: L) (RY S0 w0 m P ops K rest (l' b)))
    (hl : ∀ b, l.set d (.slice (some ⟨b, 0, none⟩) 0 0) = l' b := by intro b; dsimp only [List.set]) : J S0 w0 L (RY S0 w0 m P ops K ((⟨some d, .buildSlice t 0 #[], ty, pos, af, none⟩, kd) :: rest) l) :=
  J.eff hk fun w M K' hK => RS.buildNone U.h I.h fun b w' e1 s1 x1 B => RS.nil (hK _ w' x1 (by
    rw [hl]
    exact kk b w' (M.new x1 (own_blk (xs := []) ⟨by subst e1; exact Nat.le_refl _, B⟩ rfl (Bd.nil _) (by decide)))))
end
end Go.Proofs.YtkmaenmhcgohbaaGreatDoor.W
