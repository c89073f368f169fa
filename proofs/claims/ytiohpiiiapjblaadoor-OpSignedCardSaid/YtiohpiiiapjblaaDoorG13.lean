/-
  G13: slices of slices, rows of wide elements, cap, stores into owned rows of integers, the compare of bytes.
-/
import Derived.Test.YtiohpiiiapjblaaDoorG12
import GoSem.Extern.BytealgCompare
namespace Go.Proofs.YtiohpiiiapjblaaDoor.G
open Go.RowKit

/-- A slice that is an element of a slice. -/
structure Pc where
  (a : Option Addr) (n c : Nat) (xs : List Int)
instance : Inhabited Pc := ⟨⟨none, 0, 0, []⟩⟩
def Pc.val (p : Pc) : Value := .slice p.a p.n p.c
/-- Slices of integers that lie in a slice. -/
structure PRow (k : IntKind) (S : Nat → Prop) (w : World) (a : Option Addr) (n : Nat) (ps : List Pc) : Prop where
  row : Row S w a (ps.map Pc.val)
  len : ps.length = n
  each : ∀ p ∈ ps, IRow k S w p.a p.n p.xs ∧ p.n ≤ p.c
section
variable {k : IntKind} {S T : Nat → Prop} {w w' : World} {a : Option Addr} {n m : Nat} {ps : List Pc}
theorem PRow.ext (h : PRow k S w a n ps) (x : Ext w w') : PRow k S w' a n ps := ⟨h.row.ext x, h.len, fun p hp => ⟨(h.each p hp).1.ext x, (h.each p hp).2⟩⟩
theorem PRow.st (h : PRow k S w a n ps) (x : St m w w') (hn : S m → False) : PRow k S w' a n ps := ⟨h.row.st x hn, h.len, fun p hp => ⟨(h.each p hp).1.st x hn, (h.each p hp).2⟩⟩
theorem PRow.pr (h : PRow k S w a n ps) (x : Pr T w w') (hn : ∀ b, S b → T b → False) : PRow k S w' a n ps := ⟨h.row.pr x hn, h.len, fun p hp => ⟨(h.each p hp).1.pr x hn, (h.each p hp).2⟩⟩
theorem PRow.weaken (h : PRow k S w a n ps) (x : ∀ b, b < w.heap.size → S b → T b) : PRow k T w a n ps := ⟨h.row.weaken x, h.len, fun p hp => ⟨(h.each p hp).1.weaken x, (h.each p hp).2⟩⟩
theorem PRow.of_blk {b : Nat} {cs : List Value} {e : TypeId} (B : Blk w b cs e) (hs : S b) (hc : cs = ps.map Pc.val) (hn : ps.length = n) (he : ∀ p ∈ ps, IRow k S w p.a p.n p.xs ∧ p.n ≤ p.c) : PRow k S w (some ⟨b, 0, none⟩) n ps := by
  subst hc
  exact ⟨Row.of_blk (n := (ps.map Pc.val).length) B hs List.take_length, hn, he⟩
theorem PRow.at_ (h : PRow k S w a n ps) {i : Int} (hi : 0 ≤ i ∧ i < n) : ∃ b o, a = some ⟨b, o, none⟩ ∧ w.cell? ⟨b, o + i.toNat * 1, none⟩ = some (ps.getD i.toNat default).val ∧ IRow k S w (ps.getD i.toNat default).a (ps.getD i.toNat default).n (ps.getD i.toNat default).xs ∧ (ps.getD i.toNat default).n ≤ (ps.getD i.toNat default).c := by
  have hl := h.len
  have hlt : i.toNat < ps.length := by omega
  obtain ⟨b, o, ha, _, hc⟩ := h.row.at_ i.toNat (by rw [List.length_map]; exact hlt)
  have e1 : ps.getD i.toNat default = ps[i.toNat] := by simp [List.getD_eq_getElem?_getD, List.getElem?_eq_getElem hlt]
  refine ⟨b, o, ha, ?_, ?_⟩
  · rw [Nat.mul_one, hc, e1]
    simp [List.getD_eq_getElem?_getD, List.getElem?_eq_getElem hlt]
  · rw [e1]; exact h.each _ (List.getElem_mem hlt)
/-- All that lies in slices, one behind the other. -/
def cat (ps : List Pc) : List Int := ps.flatMap (·.xs)
theorem cat_snoc (ps : List Pc) (i : Nat) (hi : i < ps.length) : cat (ps.take (i + 1)) = cat (ps.take i) ++ (ps.getD i default).xs := by
  have e1 : ps.getD i default = ps[i] := by simp [List.getD_eq_getElem?_getD, List.getElem?_eq_getElem hi]
  unfold cat
  rw [e1, List.take_succ_eq_append_getElem hi, List.flatMap_append]
  simp
theorem cat_le (ps : List Pc) (i : Nat) : (cat (ps.take i)).length ≤ (cat ps).length := by
  have : cat ps = cat (ps.take i) ++ cat (ps.drop i) := by
    unfold cat
    rw [← List.flatMap_append, List.take_append_drop]
  rw [this, List.length_append]
  omega
theorem PRow.catBd (h : PRow k S w a n ps) : Bd k (cat ps) := by
  intro x hx
  obtain ⟨p, hp, hx⟩ := List.mem_flatMap.1 hx
  exact (h.each p hp).1.bd x hx

/-- A row of elements of several cells. -/
structure WRow (k : IntKind) (sz : Nat) (S : Nat → Prop) (w : World) (a : Option Addr) (n : Nat) (xs : List Int) : Prop where
  row : Row S w a (ints k xs)
  len : xs.length = sz * n
  bd : Bd k xs
variable {sz : Nat} {xs : List Int}
theorem WRow.ext (h : WRow k sz S w a n xs) (x : Ext w w') : WRow k sz S w' a n xs := ⟨h.row.ext x, h.len, h.bd⟩
theorem WRow.st (h : WRow k sz S w a n xs) (x : St m w w') (hn : S m → False) : WRow k sz S w' a n xs := ⟨h.row.st x hn, h.len, h.bd⟩
theorem WRow.pr (h : WRow k sz S w a n xs) (x : Pr T w w') (hn : ∀ b, S b → T b → False) : WRow k sz S w' a n xs := ⟨h.row.pr x hn, h.len, h.bd⟩
theorem WRow.weaken (h : WRow k sz S w a n xs) (x : ∀ b, b < w.heap.size → S b → T b) : WRow k sz T w a n xs := ⟨h.row.weaken x, h.len, h.bd⟩
theorem WRow.nil : WRow k sz S w a 0 [] := ⟨Row.nil, by simp, Bd.nil k⟩
/-- An element. -/
def elt (sz : Nat) (xs : List Int) (i : Nat) : List Int := (xs.drop (sz * i)).take sz
theorem WRow.elt_len (h : WRow k sz S w a n xs) {i : Nat} (hi : i < n) : (elt sz xs i).length = sz := by
  have hl := h.len
  have h2 : sz * (i + 1) ≤ sz * n := Nat.mul_le_mul_left _ hi
  rw [Nat.mul_add] at h2
  unfold elt; rw [List.length_take, List.length_drop]; omega
theorem WRow.elt_bd (h : WRow k sz S w a n xs) (i : Nat) : Bd k (elt sz xs i) := (h.bd.drop _).take _
theorem WRow.elt_arr (h : WRow k sz S w a n xs) {i : Nat} (hi : i < n) : Arr k sz (elt sz xs i) := ⟨h.elt_len hi, h.elt_bd i⟩
theorem WRow.at_ (h : WRow k sz S w a n xs) (hz : 0 < sz) {i : Int} (hi : 0 ≤ i ∧ i < n) : ∃ b o, a = some ⟨b, o, none⟩ ∧ S b ∧ Cells w b (o + i.toNat * sz) (ints k (elt sz xs i.toNat)) := by
  have hl := h.len
  have hlt : i.toNat < n := by omega
  have h2 : sz * (i.toNat + 1) ≤ sz * n := Nat.mul_le_mul_left _ hlt
  rw [Nat.mul_add] at h2
  obtain ⟨b, o, ha, hs, hc⟩ := h.row.part (sz * i.toNat) sz (by rw [ints_length]; omega) hz
  refine ⟨b, o, ha, hs, ?_⟩
  rw [ints_drop, ints_take] at hc
  rwa [Nat.mul_comm i.toNat sz]

/-- A row of wide elements that is owned. -/
structure WOwn (lo : Nat) (w : World) (e : TypeId) (k : IntKind) (sz : Nat) (a : Option Addr) (n c : Nat) (xs : List Int) : Prop where
  own : Own lo w e sz a n c (ints k xs)
  bd : Bd k xs
variable {lo c : Nat} {e : TypeId}
theorem WOwn.len (h : WOwn lo w e k sz a n c xs) : xs.length = sz * n := by
  have := h.own.len
  rw [ints_length] at this
  rw [this, Nat.mul_comm]
theorem WOwn.ext (h : WOwn lo w e k sz a n c xs) (x : Ext w w') : WOwn lo w' e k sz a n c xs := ⟨h.own.ext x, h.bd⟩
theorem WOwn.st (h : WOwn lo w e k sz a n c xs) (x : St m w w') (hn : obk a = some m → False) : WOwn lo w' e k sz a n c xs := ⟨h.own.st x hn, h.bd⟩
theorem WOwn.pr (h : WOwn lo w e k sz a n c xs) (x : Pr T w w') (hn : ∀ b, obk a = some b → T b → False) : WOwn lo w' e k sz a n c xs := ⟨h.own.pr x hn, h.bd⟩
theorem WOwn.row (h : WOwn lo w e k sz a n c xs) : WRow k sz (fun b => lo ≤ b) w a n xs := ⟨h.own.rowS, h.len, h.bd⟩
theorem WOwn.rowO (h : WOwn lo w e k sz a n c xs) : WRow k sz (fun b => obk a = some b) w a n xs := ⟨h.own.row, h.len, h.bd⟩
theorem WOwn.nil (lo : Nat) (w : World) (e : TypeId) (k : IntKind) (sz : Nat) : WOwn lo w e k sz none 0 0 [] := ⟨Own.nil lo w e sz, Bd.nil k⟩
theorem WOwn.los (h : WOwn lo w e k sz a n c xs) : ∀ b, obk a = some b → lo ≤ b ∧ b < w.heap.size := h.own.lo
theorem WOwn.base {lo' : Nat} (h : WOwn lo w e k sz a n c xs) (hl : ∀ b, obk a = some b → lo' ≤ b) : WOwn lo' w e k sz a n c xs := ⟨h.own.base hl, h.bd⟩
theorem WOwn.of_blk {b : Nat} {cs : List Value} (h : Blk w b cs e) (hc : cs = ints k xs) (hn : xs.length = sz * n) (hb : lo ≤ b) (hd : Bd k xs) (hm : n ≤ 9223372036854775807) : WOwn lo w e k sz (some ⟨b, 0, none⟩) n n xs := by
  subst hc
  exact ⟨Own.of_blk h (by rw [ints_length, hn, Nat.mul_comm]) hb (by simp only [maxLen]; omega), hd⟩

theorem take_pre (xs : List Int) (m : Nat) : ints k (xs.take m) = (ints k xs).take m := (ints_take k xs m).symm
theorem IOwn.pre (h : IOwn lo w e k a n c xs) {m : Nat} (hm : m ≤ n) : IOwn lo w e k a m c (xs.take m) := by
  have hl := h.len
  refine ⟨?_, h.bd.take m⟩
  have hc := h.own.cap
  cases a with
  | none =>
    rcases h.own.2 with ⟨hv, hn⟩ | ⟨g, cap, cur, hv, _⟩
    · simp at hv
      obtain rfl : m = 0 := by omega
      obtain ⟨hn0, rfl⟩ := hv
      rw [List.take_zero]
      exact Own.nil lo w e 1
    · simp at hv
  | some ad =>
    obtain ⟨g0, rfl⟩ : ∃ g0, ad = ⟨g0, 0, none⟩ := by
      rcases h.own.2 with ⟨hv, _⟩ | ⟨g, cap, cur, hv, _⟩
      · simp at hv
      · simp at hv; exact ⟨g, hv.1⟩
    obtain ⟨rs, hB, hlen, hge⟩ := h.own.blk
    refine Own.of_part (rest := (ints k xs).drop m ++ rs) ?_ ?_ (by rw [ints_length, List.length_take]; omega) (by omega) hc.2 hge
    · rw [take_pre, ← List.append_assoc, List.take_append_drop]; exact hB
    · rw [take_pre, ← List.append_assoc, List.take_append_drop]; exact hlen
end

theorem subA_zero (a : Option Addr) (sz m : Nat) : subA a 0 sz m = a := by
  unfold subA
  split
  · rfl
  · cases a <;> simp [Addr.add]
theorem IRow.rest {k : IntKind} {S : Nat → Prop} {w : World} {a : Option Addr} {n : Nat} {xs : List Int} (h : IRow k S w a n xs) (lo m : Nat) (hl : lo ≤ n) (hm : n ≤ m) : IRow k S w (subA a lo 1 m) (n - lo) (xs.drop lo) := by
  have := h.sub lo n m (Nat.le_refl _) hl hm
  rwa [List.take_of_length_le (by rw [List.length_drop, h.len]; exact Nat.le_refl _)] at this
theorem IRow.none {k : IntKind} {S : Nat → Prop} {w : World} {a : Option Addr} {n : Nat} {xs : List Int} (h : IRow k S w a n xs) (ha : a.isNone = true) : xs = [] ∧ n = 0 := by
  have hl := h.len
  rcases h.row with h | ⟨b, o, h, _⟩
  · have : xs = [] := List.eq_nil_of_length_eq_zero (by rw [← ints_length (k := k), h]; rfl)
    subst this
    exact ⟨rfl, by simpa using hl.symm⟩
  · subst h; cases ha
theorem WRow.none {k : IntKind} {sz : Nat} {S : Nat → Prop} {w : World} {a : Option Addr} {n : Nat} {xs : List Int} (h : WRow k sz S w a n xs) (hz : 0 < sz) (ha : a.isNone = true) : xs = [] ∧ n = 0 := by
  have hl := h.len
  rcases h.row with h | ⟨b, o, h, _⟩
  · have : xs = [] := List.eq_nil_of_length_eq_zero (by rw [← ints_length (k := k), h]; rfl)
    subst this
    refine ⟨rfl, ?_⟩
    rcases Nat.eq_zero_or_pos n with h | h
    · exact h
    · have := Nat.mul_pos hz h
      simp at hl
      omega
  · subst h; cases ha
def Each (k : IntKind) (w : World) : List Pc → Prop
  | [] => True
  | p :: ps => (∃ S, IRow k S w p.a p.n p.xs ∧ p.n ≤ p.c) ∧ Each k w ps
theorem PRow.of_blkE {k : IntKind} {w : World} {b n : Nat} {cs : List Value} {e : TypeId} {ps : List Pc} (B : Blk w b cs e) (hc : cs = ps.map Pc.val) (hn : ps.length = n) (he : Each k w ps) : PRow k (fun _ => True) w (some ⟨b, 0, Option.none⟩) n ps := by
  refine PRow.of_blk B trivial hc hn ?_
  clear B hc hn
  induction ps with
  | nil => intro p hp; cases hp
  | cons q ps ih =>
    intro p hp
    rcases List.mem_cons.1 hp with rfl | hp
    · obtain ⟨⟨S, h1, h2⟩, _⟩ := he
      exact ⟨h1.weaken fun _ _ _ => trivial, h2⟩
    · exact ih he.2 p hp

section
variable {P : Program} {ops : Array Oper} {R : World → World → Prop} {K : List Value → World → Prop} {rest : List Oper} {restX : List (Oper × Kd)} {l : List Value} {w : World} {d : Tmp} {dd : Option Tmp} {ty xt yt : TypeId} {pos : String} {af : Array Edge} {g : Option (Nat × Bool)} {x y : Operand} {k ki : IntKind} {S : Nat → Prop} {a : Option Addr} {n c sz : Nat} {xs : List Int} {i : Int} {e : TypeId}

theorem RS.idxP {ps : List Pc} (hR : PRow k S w a n ps) (hx : ev l x = .slice a n c) (hy : ev l y = .int ki i) (hu : P.underlying xt = some (.slice e)) (hs : P.cellsOf e = 1) (hi : 0 ≤ i ∧ i < n)
    (h : ∀ b o p, w.cell? ⟨b, o, none⟩ = some (.slice p.a p.n p.c) → p = ps.getD i.toNat default → IRow k S w p.a p.n p.xs → p.n ≤ p.c → RS P ops K rest (l.set d (.pointer (some ⟨b, o, none⟩))) w) :
    RS P ops K (⟨some d, .indexAddr xt x y, ty, pos, af, none⟩ :: rest) l w := by
  obtain ⟨b, o, ha, hc, hr, hn⟩ := hR.at_ hi
  exact RS.o (D.indexAddr hx hy hu hs (by decide) ha hi) (h _ _ _ hc rfl hr hn) rfl

theorem RS.idxW (hR : WRow k sz S w a n xs) (hx : ev l x = .slice a n c) (hy : ev l y = .int ki i) (hu : P.underlying xt = some (.slice e)) (hs : P.cellsOf e = sz) (hz : 0 < sz) (hi : 0 ≤ i ∧ i < n)
    (h : ∀ b o, Cells w b o (ints k (elt sz xs i.toNat)) → S b → Arr k sz (elt sz xs i.toNat) → RS P ops K rest (l.set d (.pointer (some ⟨b, o, none⟩))) w) :
    RS P ops K (⟨some d, .indexAddr xt x y, ty, pos, af, none⟩ :: rest) l w := by
  obtain ⟨b, o, ha, hs', hc⟩ := hR.at_ hz hi
  exact RS.o (D.indexAddr hx hy hu hs (by omega) ha hi) (h _ _ hc hs' (hR.elt_arr (by omega))) rfl
theorem Cells.ext {w w' : World} {b o : Nat} {cs : List Value} (h : Cells w b o cs) (k : Ext w w') (hn : 0 < cs.length) : Cells w' b o cs := h.of_block (k.block b (h.lt hn))
theorem RX.idxW (hRE : ∀ w', R w w' → Ext w w') (hR : WRow k sz S w a n xs) (hx : ev l x = .slice a n c) (hy : ev l y = .int ki i) (hu : P.underlying xt = some (.slice e)) (hs : P.cellsOf e = sz) (hz : 0 < sz) (hi : 0 ≤ i ∧ i < n)
    (h : ∀ b o, (∀ w', R w w' → Cells w' b o (ints k (elt sz xs i.toNat))) → S b → Arr k sz (elt sz xs i.toNat) → RX P ops R K restX (l.set d (.pointer (some ⟨b, o, none⟩))) w) :
    RX P ops R K ((⟨some d, .indexAddr xt x y, ty, pos, af, none⟩, .q) :: restX) l w := by
  obtain ⟨b, o, ha, hs', hc⟩ := hR.at_ hz hi
  have hl := hR.elt_len (i := i.toNat) (by omega)
  exact RX.o (fun w' _ => D.indexAddr hx hy hu hs (by omega) ha hi) (h _ _ (fun w' hw => hc.ext (hRE _ hw) (by rw [ints_length]; omega)) hs' (hR.elt_arr (by omega))) rfl
/-- An element of several cells, loaded. -/
theorem D.loadW {b o : Nat} {ed : TypeDesc} (hx : ev l x = .pointer (some ⟨b, o, none⟩)) (he : P.underlying xt = some ed) (hd : isAggD ed = true) (hs : P.cellsOf xt = sz) (hz : sz ≠ 0) (hA : Arr k sz xs) (hc : Cells w b o (ints k xs)) :
    (execOp (ev l) ⟨dd, .load xt x, ty, pos, af, g⟩).run P w = .ok (.value (.agg (ints k xs).toArray)) w :=
  D.loadAgg hx he hd hs hz (by rw [ints_length, hA.1]) hc

theorem D.cap (hx : ev l x = .slice a n c) (hu : P.underlying xt = some (.slice e)) :
    (execOp (ev l) ⟨dd, .call { callee := .builtin .cap, args := #[x], argTypes := #[xt] }, ty, pos, af, g⟩).run P w = .ok (.value (.int .i64 c)) w := by
  simp [execOp, resolve, hx, invoke, builtin, Builtin.cap_, run_underlying hu, goInt]

/-- A store into a row of integers that is owned. -/
theorem RS.storeI {lo b : Nat} {e' : TypeId} {j : Int} {v : Int} (hO : IOwn lo w e' k (some ⟨b, 0, none⟩) n c xs) (hx : ev l x = .pointer (some ⟨b, 0 + j.toNat * 1, none⟩)) (hy : ev l y = .int k v) (hs : P.cellsOf xt = 1) (hj : 0 ≤ j ∧ j < n) (hv : 0 ≤ v ∧ v < lim k)
    (h : ∀ w', St b w w' → IOwn lo w' e' k (some ⟨b, 0, none⟩) n c (xs.set j.toNat v) → RS P ops K rest l w') : RS P ops K (⟨none, .store xt x y, ty, pos, af, none⟩ :: rest) l w := by
  have hl := hO.len
  refine RS.storeOwn hx hy hs rfl hO.own (by rw [ints_length]; omega) (fun w' y' N => h w' y' ⟨?_, hO.bd.set _ hv⟩)
  rwa [ints_set, show 0 + j.toNat * 1 = j.toNat by omega] at N

/-- An array that is built of nothing. -/
theorem D.build0 {t e' n' sz' by_ : Nat} {z : List Value} (hu : P.underlying t = some (.array n' e')) (ht : TI P t sz' by_ z) (hs : P.cellsOf e' = 1) :
    (execOp (ev l) ⟨dd, .build t #[], ty, pos, af, g⟩).run P w = .ok (.value (.agg z.toArray)) w := by
  obtain ⟨i, v, i1, i2, i3, i4, i5⟩ := ht
  have hz1 : (zeroValue t).run P w = .ok v w := by simp [zeroValue, typeInfo, i1, i4]
  simp only [execOp, Instr.build, Sem.run_bind, hz1, Result.andThen, run_underlying hu, size_run hs (by decide)]
  rw [i5]
  simp [Instr.fill]
theorem fieldI {t : TypeId} {m : Nat} {tl : List Value} (hc : P.cellsOf t = m) (hl : xs.length = m) : ((ints k xs ++ tl).drop 0).take (P.cellsOf t) = ints k xs := by
  rw [hc, List.drop_zero, List.take_left' (by rw [ints_length]; exact hl)]
/-- append(s, xs...) of wide elements. -/
theorem RS.appendW {lo by_ : Nat} {z : List Value} {a2 : Option Addr} {m c2 : Nat} {ys : List Int} {t : TypeId}
    (hO : WOwn lo w e k sz a n c xs) (hR : WRow k sz S w a2 m ys) (hx : ev l x = .slice a n c) (hy : ev l y = .slice a2 m c2) (hu : P.underlying t = some (.slice e)) (ht : TI P e sz by_ z) (hz : z.length = sz) (hsz : 0 < sz)
    (hlo : lo ≤ w.heap.size) (hby : by_ ≤ 1000) (hb : n + m ≤ 100000000)
    (h : ∀ a' c' w', WOwn lo w' e k sz a' (n + m) c' (xs ++ ys) → Pr (fun b => obk a = some b) w w' → RS P ops K rest (l.set d (.slice a' (n + m) c')) w') :
    RS P ops K (⟨some d, .call { callee := .builtin .append, args := #[x, y], argTypes := #[t, t] }, ty, pos, af, none⟩ :: rest) l w := by
  have h8 : (n + m) * by_ ≤ (n + m) * 1000 := Nat.mul_le_mul_left _ hby
  refine RS.append hx hy hu ht hz hsz hO.own hR.row (by rw [ints_length, hR.len, Nat.mul_comm]) (ints_one _ _) hlo (by omega) (by omega) ?_
  intro a' c' w' ho hp
  exact h a' c' w' ⟨by rw [ints_append]; exact ho, hO.bd.append hR.bd⟩ hp

theorem loadBytes_run {b : Nat} : ∀ (xs : List Int) (o : Nat) (acc : ByteArray), Cells w b o (ints .u8 xs) → (Extern.Bytes.loadBytes ⟨b, o, none⟩ xs.length acc).run P w = .ok ⟨acc.data ++ (xs.map fun n => UInt8.ofNat n.toNat).toArray⟩ w
  | [], o, acc, _ => by simp [Extern.Bytes.loadBytes]
  | x :: xs, o, acc, h => by
    have h0 := h 0 (by simp [ints])
    have h1 : Cells w b (o + 1) (ints .u8 xs) := by
      intro j hj
      have := h (j + 1) (by simp [ints] at hj ⊢; omega)
      rw [show o + (j + 1) = o + 1 + j by omega] at this
      rw [this]
      simp [ints]
    have h2 : (Go.load ⟨b, o, none⟩).run P w = .ok (.int .u8 x) w := by
      simp only [Go.load, Sem.run]
      rw [show w.cell? ⟨b, o, none⟩ = some (.int .u8 x) by simpa [ints] using h0]
    simp only [List.length_cons, Extern.Bytes.loadBytes, Sem.run_bind, h2, Result.andThen, add_mk]
    rw [loadBytes_run xs (o + 1) _ h1]
    simp [ByteArray.push, Nat.toUInt8]
theorem bytesOf_run (hR : IRow .u8 S w a n xs) : (Extern.Bytes.bytesOf (.slice a n c)).run P w = .ok (strOfNums xs) w := by
  have hl := hR.len
  cases a with
  | none =>
    have : xs = [] := by
      rcases hR.row with h | ⟨b, o, h, _⟩
      · exact List.eq_nil_of_length_eq_zero (by rw [← ints_length (k := .u8), h]; rfl)
      · cases h
    subst this
    simp [Extern.Bytes.bytesOf]
    rfl
  | some ad =>
    rcases hR.row with h | ⟨b, o, h, _, hc⟩
    · have : xs = [] := List.eq_nil_of_length_eq_zero (by rw [← ints_length (k := .u8), h]; rfl)
      subst this
      simp at hl
      subst hl
      simp [Extern.Bytes.bytesOf, Extern.Bytes.loadBytes]
      rfl
    · obtain rfl := Option.some.inj h
      simp only [Extern.Bytes.bytesOf]
      rw [← hl, loadBytes_run xs o _ hc]
      simp [strOfNums, ByteArray.empty, ByteArray.emptyWithCapacity]
      rfl

/-- A function that a row of the model answers. -/
theorem D.ext {f : FuncId} {fn : Func} {args : Array Operand} {av : List Value} {ts : Array TypeId} {E : Array Value → Sem Value} {v : Value} {w' : World} (hf : P.funcs[f]? = some fn) (hn : (fn.name == "runtime.NumGoroutine") = false) (hb : fn.body.isNone = true) (hnx : Extern.findNext fn = none) (he : Extern.find fn = some E)
    (ha : args.toList.map (ev l) = av) (hr : (E av.toArray).run P w = .ok v w') :
    (execOp (ev l) ⟨dd, .call { callee := .value (.func f), args := args, argTypes := ts }, ty, pos, af, g⟩).run P w = .ok (.value v) w' := by
  have hfun : ev l (.func f) = .func (.func f) #[] #[] := rfl
  simp only [execOp, resolve, args_map ha, hfun]
  have hn' : ¬ fn.name = "runtime.NumGoroutine" := by simpa using hn
  simp only [Deferred.ofValue, invoke, callFunc, Sem.run_bind, run_program, Result.andThen, hf, hn, hb, Bool.false_eq_true, if_false, if_true, hnx, he]
  have hb' : fn.body = none := by simpa using hb
  simp [mark, Sem.run, hn', hf]
  rw [if_pos hb', hnx, he]
  simp [hr]
end
end Go.Proofs.YtiohpiiiapjblaaDoor.G
