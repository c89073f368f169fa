/-
  Part 12 of the lemmas of these laws: DagClosed, DagOrders.
-/
import Derived.Test.YtakbhjagiofbgaaGreatDoorPDx11
set_option linter.unusedSimpArgs false
namespace Go.Proofs.YtakbhjagiofbgaaGreatDoor.W
open Go.RowKit Go.Proofs.YtakbhjagiofbgaaGreatDoor.G
set_option linter.unusedVariables false
set_option linter.unusedSimpArgs false
set_option maxRecDepth 20000
set_option maxHeartbeats 8000000
attribute [local irreducible] RS RX RY Code.wp bodyPost J Ent.blk Ent.irow Ent.iown Ent.wrow Ent.wown Ent.grow Ent.gown Ent.all Ent.emp
structure OfA where
 (i : Nat) (q : GrA) (P : S.PG)
theorem mk_ok {l : List S.OpV} (hl : ∀ o ∈ l, o.ok) {i : Nat} (hi : i ≤ l.length) {g : S.PG} (h : S.mkN l i = some g) : ∀ o ∈ g.ops, o.ok := fun o ho => by
 obtain ⟨h1, h2, h3, h4⟩ := S.mkN_good h
 obtain ⟨j, hj, rfl⟩ := List.getElem_of_mem ho
 obtain ⟨k, hk, _, e⟩ := (h4 (S.idAt g.ids j) g.ops[j]).1 ⟨j, by have := h1.2; omega, rfl, by rw [List.getD_eq_getElem?_getD, List.getElem?_eq_getElem hj]; rfl⟩
 rw [e, List.getD_eq_getElem?_getD, List.getElem?_eq_getElem (by omega)]
 exact hl _ (List.getElem_mem _)
theorem dagOf {S0 : Nat → Prop} (a : Option Addr) (n c : Nat) (zs : List OpA) (TK : TypeId) (w : World) (K0 : Kst w TK) (O : GRow opC 11 S0 w a n zs) (I0 : Inns opI S0 w zs) (hok : ∀ z ∈ zs, z.o.ok) (hn : n ≤ 100000) :
  Calls Tryz.prog 41 #[.slice a n c] w (Gv w (fun q : GrA => .tuple #[.agg (grC q).toArray, .int .i64 (S.lstE (zs.map OpA.o))]) (grE 43 54) (GrP (S.lstP (zs.map OpA.o)).m (S.lstP (zs.map OpA.o)).ids (S.lstP (zs.map OpA.o)).ops)) := by
 have hl := O.len
 obtain ⟨ops, hops⟩ := ex (zs.map OpA.o)
 have hol : ops.length = n := by rw [hops, List.length_map, hl]
 have ook : ∀ o ∈ ops, o.ok := fun o ho => by
  rw [hops] at ho
  obtain ⟨z, hz, rfl⟩ := List.mem_map.1 ho
  exact hok z hz
 have opR : ∀ {i : Nat} {z : OpA}, zs[i]? = some z → OpR S0 w z ∧ ops.getD i S.OpV.zero = z.o := fun {i z} h => by
  have hm := List.mem_of_getElem? h
  have h1 := I0 z hm ⟨.u8, 32, z.pa, z.o.n, z.pc, z.o.ids⟩ (List.mem_singleton.2 rfl)
  exact ⟨⟨hok z hm, h1.1, h1.2⟩, by rw [hops, List.getD_eq_getElem?_getD, List.getElem?_map, h]; rfl⟩
 rw [← hops]
 have nil : S.lstE ops ≠ 0 → GrP (S.lstP ops).m (S.lstP ops).ids (S.lstP ops).ops GrA.nil := fun h => by
  rw [S.lstP_no h]
  exact GrP.nil
 refine J.enter 61 Tryz.func41 rfl rfl ?_
 refine run ?_
 refine J.alloc rfl fun b1 => ?_
 refine run ?_
 refine J.ifd rfl (fun c1 => ?_) (fun c1 => ?_)
 ·refine run ?_
  have he := S.lstE_4 (l := ops) (by omega)
  refine J.nilGr 43 54 ?_
  refine J.finG GrA.nil ?_ (nil (by rw [he]; decide)) ?_
  ·rw [he]; rfl
  unfold grE GrA.nil; repeat (first | exact List.nil_sublist _ | refine List.Sublist.cons_cons _ ?_ | refine List.Sublist.cons _ ?_)
 have h60 : ¬ 60 < ops.length := by omega
 refine run ?_
 refine J.loopS (A := Int) (fun p => [(21, .int .i64 p)]) [3, 5, 6, 22, 23, 24, 25, 26, 27, 28, 29, 30, 31] (fun p => (0 ≤ p ∧ p ≤ n) ∧ ∀ k, k < p.toNat → S.verE (ops.getD k S.OpV.zero) = 0) (fun p => n - p.toNat) 0 (by kernel_rfl) ⟨by omega, fun i hi => by omega⟩ (fun p j hI => ?_)
 obtain ⟨h1, hI⟩ := hI
 refine run ?_
 refine J.ifd rfl (fun c2 => ?_) (fun c2 => ?_)
 ·obtain ⟨z, hz⟩ := O.ex (i := p) (by omega)
  obtain ⟨R, hzo⟩ := opR hz
  refine run ?_
  refine J.alloc rfl fun b2 => ?_
  refine run ?_
  refine J.callp rfl rfl (fun w' M => verifyO z.o R.ok _ _ _ _ (K0.ext M.ext) (R.row.ext M.ext) R.cap) ?_
  refine run ?_
  refine J.ifn rfl (fun c3 => ?_) (fun c3 => ?_)
  ·refine run ?_
   have hf := S.verL_first (l := ops) (i := p.toNat) (by omega) hI (by rw [hzo]; exact c3)
   rw [hzo] at hf
   obtain ⟨he, hne⟩ := S.lstE_v h60 (by rw [hf]; exact c3)
   refine J.nilGr 43 54 ?_
   refine J.finG GrA.nil ?_ (nil hne) ?_
   ·rw [he, hf]; rfl
   unfold grE GrA.nil; repeat (first | exact List.nil_sublist _ | refine List.Sublist.cons_cons _ ?_ | refine List.Sublist.cons _ ?_)
  refine run ?_
  refine J.nextS (p + 1) ⟨rfl, trivial⟩ (by kernel_rfl) ⟨by omega, fun i hi => ?_⟩ (by omega)
  rcases Nat.lt_or_ge i p.toNat with h | h
  ·exact hI i h
  obtain rfl : i = p.toNat := by omega
  rw [hzo]
  exact c3
 have hver : S.verL ops = 0 := S.verL_all fun k hk => hI k (by omega)
 have hv0 : ∀ k, k < ops.length → S.verE (ops.getD k S.OpV.zero) = 0 := fun k hk => hI k (by omega)
 refine run ?_
 refine J.alloc rfl fun b7 => ?_
 refine run ?_
 refine J.nilGr 43 54 ?_
 refine J.front (.blk b7 [.slice none 0 0, .slice none 0 0] 25) ?_
 refine J.drop (E := [.blk b7 [.slice none 0 0, .slice none 0 0] 25, .gown opC 11 54 none 0 0 [], .all [], .wown 43 .u8 32 none 0 0 [], .blk b1 [.slice none 0 0, .slice none 0 0] 25]) (by repeat (first | exact List.nil_sublist _ | refine List.Sublist.cons_cons _ ?_ | refine List.Sublist.cons _ ?_)) ?_
 refine J.loop (A := OfA) (fun p => [(34, .int .i64 (p.i : Nat))]) [3, 9, 10, 11, 12, 13, 35, 36, 37, 38, 39, 40, 41, 42, 43, 44, 45, 46, 47, 48, 49, 50, 51, 52, 53, 54] (fun p => [.blk b7 (grC p.q) 25, .gown opC 11 54 p.q.oa p.q.n p.q.oc p.q.zs, .all (p.q.zs.map (opE 43)), .wown 43 .u8 32 p.q.ia p.q.m p.q.ic p.q.ids, .blk b1 [.slice none 0 0, .slice none 0 0] 25]) (fun p => p.i ≤ n ∧ S.mkN ops p.i = some p.P ∧ GrP p.P.m p.P.ids p.P.ops p.q) (fun p => n - p.i) ⟨0, ⟨none, none, 0, 0, 0, 0, [], []⟩, .nil⟩ (by kernel_rfl) ⟨Nat.zero_le _, rfl, GrP.nil⟩ (fun p j hI2 => ?_)
 obtain ⟨hI1, hI2, hI3⟩ := hI2
 have hmk := S.mkN_good hI2
 have hqn : p.q.n = p.q.m := by have := hI3.n; have := hI3.m; have := hmk.1.2; omega
 have hqm : p.q.m = p.i := by have := hI3.m; have := hmk.2.2.1; omega
 have hqok := hI3.ok (mk_ok ook (by omega) hI2)
 refine run ?_
 refine J.ifd rfl (fun c4 => ?_) (fun c4 => ?_)
 ·obtain ⟨z, hz⟩ := O.ex (i := (p.i : Nat)) (by omega)
  rw [Int.toNat_natCast] at hz
  obtain ⟨R, hzo⟩ := opR hz
  have hchk := S.verE_check (by have := hv0 p.i (by omega); rw [hzo] at this; exact this)
  have hA := S.sha_arr (S.encS z.o)
  refine run ?_
  refine J.alloc rfl fun b9 => ?_
  refine run ?_
  refine J.callp rfl rfl (fun w' M => idO z.o R.ok _ _ _ _ (K0.ext M.ext) (R.row.ext M.ext) R.cap) ?_
  rw [if_pos hchk]
  refine run ?_
  refine J.alloc rfl fun b10 => ?_
  refine run ?_
  by_cases hin : S.inS p.P.m p.P.ids (S.idOf z.o)
  ·refine J.callp rfl rfl (fun w' M => dagPutIn (S1 := S0) p.q _ z w' (GrR.own hqok hI3.cap (by omega) w' M) hA (by rw [hI3.m, hI3.ids]; exact hmk.2.1) (by rw [hI3.m, hI3.ids]; exact hin)) ?_
   refine run ?_
   refine J.alloc rfl fun b12 => ?_
   refine run ?_
   have he := S.lstE_14 h60 hver (S.mkN_none (S.mkN_twice hI2 (by rw [hzo]; exact hin)) _ (by omega))
   refine J.nilGr 43 54 ?_
   refine J.finG GrA.nil ?_ (nil (by rw [he]; decide)) ?_
   ·rw [he]; rfl
   unfold grE GrA.nil; repeat (first | exact List.nil_sublist _ | refine List.Sublist.cons_cons _ ?_ | refine List.Sublist.cons _ ?_)
  refine J.call rfl rfl (fun w' M => dagPut p.q _ z w' (GrR.own hqok hI3.cap (by omega) w' M) hA (by rw [hI3.m, hI3.ids]; exact hmk.2.1) (by rw [hI3.m, hI3.ids]; exact hin) (R.ext M.ext) hqn (by omega)) fun q hq => ?_
  dsimp only [grE, List.cons_append, List.nil_append]
  refine run ?_
  refine J.alloc rfl fun b12 => ?_
  refine run ?_
  have hmore := S.mkN_more hI2 (by rw [hzo]; exact hin)
  rw [hzo] at hmore
  have hq2 : GrP (S.putP p.P (S.idOf z.o) z.o).m (S.putP p.P (S.idOf z.o) z.o).ids (S.putP p.P (S.idOf z.o) z.o).ops q := by
   rw [hI3.m, hI3.ids, hI3.ops] at hq
   exact hq
  refine J.front (.wown 43 .u8 32 q.ia q.m q.ic q.ids) ?_
  refine J.front (.all (q.zs.map (opE 43))) ?_
  refine J.front (.gown opC 11 54 q.oa q.n q.oc q.zs) ?_
  refine J.front (.blk b7 (grC q) 25) ?_
  exact J.next ⟨p.i + 1, q, S.putP p.P (S.idOf z.o) z.o⟩ ⟨rfl, trivial⟩ (by kernel_rfl) ⟨by dsimp only; omega, hmore, hq2⟩ (by dsimp only; omega)
 have hpi : p.i = ops.length := by omega
 rw [hpi] at hI2
 have hs := S.lstE_s h60 hver hI2
 refine run ?_
 refine J.callp rfl rfl (fun w' M => dagShape p.q w' (GrR.own hqok hI3.cap (by omega) w' M) (by omega) (by omega)) ?_
 rw [show S.shapeS p.q.m p.q.ids p.q.ops = S.lstE ops by rw [hI3.m, hI3.ids, hI3.ops, hs]]
 refine run ?_
 refine J.ifn rfl (fun c5 => ?_) (fun c5 => ?_)
 ·refine run ?_
  refine J.nilGr 43 54 ?_
  refine J.finG GrA.nil rfl (nil c5) ?_
  unfold grE GrA.nil; repeat (first | exact List.nil_sublist _ | refine List.Sublist.cons_cons _ ?_ | refine List.Sublist.cons _ ?_)
 refine run ?_
 have hq2 : GrP (S.lstP ops).m (S.lstP ops).ids (S.lstP ops).ops p.q := by rw [S.lstP_yes c5 hI2]; exact hI3
 refine J.finG p.q ?_ hq2 ?_
 ·show Value.tuple _ = Value.tuple _
  rw [c5]
 unfold grE; repeat (first | exact List.nil_sublist _ | refine List.Sublist.cons_cons _ ?_ | refine List.Sublist.cons _ ?_)
instance : Fld Tryz.prog 54 0 0 := ⟨_, _, 1, Tryz.underlying54, rfl, by kernel_rfl, by decide, rfl⟩
instance : Sca Tryz.prog 48 := ⟨_, Tryz.underlying48, rfl⟩
instance : Und Tryz.prog 48 (.int .u32) := ⟨Tryz.underlying48⟩
instance : Fld Tryz.prog 54 2 2 := ⟨_, _, 1, Tryz.underlying54, rfl, by kernel_rfl, by decide, rfl⟩
instance : Sca Tryz.prog 38 := ⟨_, Tryz.underlying38, rfl⟩
instance : Und Tryz.prog 38 (.int .u64) := ⟨Tryz.underlying38⟩
instance : Fld Tryz.prog 54 3 3 := ⟨_, _, 6, Tryz.underlying54, rfl, by kernel_rfl, by decide, rfl⟩
instance : Agg Tryz.prog 50 6 := ⟨_, Tryz.underlying50, rfl, by kernel_rfl⟩
instance : Fld Tryz.prog 54 4 9 := ⟨_, _, 2, Tryz.underlying54, rfl, by kernel_rfl, by decide, rfl⟩
instance : Agg Tryz.prog 52 2 := ⟨_, Tryz.underlying52, rfl, by kernel_rfl⟩
instance : Ents Tryz.prog 130 := ⟨.mk Tryz.func130 (by kernel_rfl) rfl⟩
instance : Ents Tryz.prog 127 := ⟨.mk Tryz.func127 (by kernel_rfl) rfl⟩
instance : Und Tryz.prog 138 (.slice 25) := ⟨Tryz.underlying138⟩
end Go.Proofs.YtakbhjagiofbgaaGreatDoor.W
namespace Go.Proofs.YtakbhjagiofbgaaGreatDoor.S
open G
set_option linter.unusedVariables false
theorem chkP_fine {g : PG} (hl : g.ids.length = 32 * g.m) : chkP g = 0 ↔ g.fine := chk_fine hl
theorem getD_at {α : Type} {l : List α} {d : α} {i : Nat} (h : i < l.length) : l.getD i d = l[i] := by rw [List.getD_eq_getElem?_getD, List.getElem?_eq_getElem h]; rfl
theorem fine_shape {g : PG} (hg : g.fine) : shapeS g.m g.ids g.ops = 0 := by
  obtain ⟨_, _, _, h4, h5, h6⟩ := chkG_zero.1 ((chk_fine hg.good.1).2 hg)
  unfold shapeS
  rw [if_neg (not_not_intro h4), if_neg (not_not_intro h5), if_pos h6]
theorem nil_fine : PG.nil.fine := ⟨nil_good, Nat.zero_le _, nil_rising, fun x o h => absurd h (nil_has x o), fun x o h => absurd h (nil_has x o), [], List.nodup_nil, fun x h => (by cases h), Nat.le_refl _, fun i h => absurd h (Nat.not_lt_zero _)⟩
/-! lists -/
theorem mkN_nodup {l : List OpV} (h : (l.map idOf).Nodup) : ∀ i, i ≤ l.length → ∃ g, mkN l i = some g
  | 0, _ => ⟨.nil, rfl⟩
  | i + 1, hi => by
    obtain ⟨g, hg⟩ := mkN_nodup h i (by omega)
    have hn : ¬ inS g.m g.ids (idOf (l.getD i OpV.zero)) := fun hin => by
      obtain ⟨o, ho⟩ := has_in.1 hin
      obtain ⟨k, hk, e, _⟩ := ((mkN_good hg).2.2.2 _ _).1 ho
      have h1 : i < l.length := by omega
      have h2 : k < l.length := by omega
      have hp := List.pairwise_iff_getElem.1 h k i (by rw [List.length_map]; exact h2) (by rw [List.length_map]; exact h1) hk
      apply hp
      rw [List.getElem_map, List.getElem_map, ← getD_at (d := OpV.zero) h1, ← getD_at (d := OpV.zero) h2]
      exact e.symm
    exact ⟨_, mkN_more hg hn⟩
theorem fine_idOf {g : PG} (hg : g.fine) {i : Nat} (hi : i < g.m) : idOf (g.ops.getD i OpV.zero) = idAt g.ids i := (hg.own _ _ ⟨i, hi, rfl, rfl⟩).2
theorem fine_map {g : PG} (hg : g.fine) : g.ops.map idOf = idsP g := by
  apply List.ext_getElem
  · rw [List.length_map, hg.good.2]; simp [idsP]
  · intro i h1 h2
    rw [List.length_map] at h1
    have hi : i < g.m := by rw [← hg.good.2]; exact h1
    have e := fine_idOf hg hi
    rw [getD_at h1] at e
    rw [List.getElem_map]
    refine e.trans ?_
    simp [idsP]
theorem idsP_nodup {g : PG} (hr : Rising g.m g.ids) : (idsP g).Nodup := (idsP_sorted hr).imp fun {a b} h e => by subst e; rw [cmpS_self] at h; exact absurd h (by decide)
theorem lst_perm {g : PG} (hg : g.fine) {l : List OpV} (hp : l.Perm g.ops) : lstE l = 0 ∧ lstP l = g := by
  have hlen : l.length = g.m := hp.length_eq.trans hg.good.2
  have hn : (l.map idOf).Nodup := by
    have h1 : (l.map idOf).Perm (g.ops.map idOf) := hp.map _
    rw [fine_map hg] at h1
    exact h1.nodup_iff.2 (idsP_nodup hg.rising)
  obtain ⟨q, hq⟩ := mkN_nodup hn l.length (Nat.le_refl _)
  obtain ⟨q1, q2, q3, q4⟩ := mkN_good hq
  have e : q = g := PG.ext_has q1 hg.good q2 hg.rising fun x o => by
    rw [q4]
    constructor
    · rintro ⟨k, hk, rfl, rfl⟩
      have hm : l.getD k OpV.zero ∈ g.ops := hp.mem_iff.1 (by rw [getD_at hk]; exact List.getElem_mem hk)
      obtain ⟨i, hi, ei⟩ := List.getElem_of_mem hm
      rw [← getD_at (d := OpV.zero) hi] at ei
      have him : i < g.m := by rw [← hg.good.2]; exact hi
      exact ⟨i, him, by rw [← fine_idOf hg him, ei], ei⟩
    · rintro ⟨i, hi, rfl, rfl⟩
      have h2 : i < g.ops.length := by rw [hg.good.2]; exact hi
      have hm : g.ops.getD i OpV.zero ∈ l := hp.mem_iff.2 (by rw [getD_at h2]; exact List.getElem_mem h2)
      obtain ⟨k, hk, ek⟩ := List.getElem_of_mem hm
      rw [← getD_at (d := OpV.zero) hk] at ek
      exact ⟨k, hk, by rw [ek, fine_idOf hg hi], ek.symm⟩
  have hv : verL l = 0 := verL_zero.2 fun o ho => by
    obtain ⟨i, hi, ei⟩ := List.getElem_of_mem (hp.mem_iff.1 ho)
    rw [← getD_at (d := OpV.zero) hi] at ei
    have := (hg.own _ _ ⟨i, by rw [← hg.good.2]; exact hi, rfl, rfl⟩).1
    rwa [ei] at this
  have h60 : ¬ 60 < l.length := by have := hg.le; omega
  have hs := lstE_s h60 hv hq
  rw [e, fine_shape hg] at hs
  exact ⟨hs, by rw [lstP_yes hs hq, e]⟩
/-! one by one -/
structure PartG (g : PG) (l : List Nat) (i : Nat) (q : PG) : Prop where
  fine : q.fine
  m : q.m = i
  has : ∀ x o, q.has x o ↔ ∃ k, k < i ∧ x = idAt g.ids (l.getD k 0) ∧ o = g.ops.getD (l.getD k 0) OpV.zero
theorem part_zero (g : PG) (l : List Nat) : PartG g l 0 .nil := ⟨nil_fine, rfl, fun x o => ⟨fun h => absurd h (nil_has x o), fun ⟨k, hk, _⟩ => absurd hk (Nat.not_lt_zero _)⟩⟩
theorem mem_take_getD {l : List Nat} {k i : Nat} (h : k < i) (hi : i ≤ l.length) : l.getD k 0 ∈ l.take i := by
  have hk : k < l.length := by omega
  rw [getD_at hk]
  exact List.mem_take_iff_getElem.2 ⟨k, by omega, rfl⟩
theorem take_getD_ex {l : List Nat} {i p : Nat} (h : p ∈ l.take i) (hi : i ≤ l.length) : ∃ k, k < i ∧ l.getD k 0 = p := by
  obtain ⟨k, hk, e⟩ := List.mem_take_iff_getElem.1 h
  have hk' : k < l.length := by omega
  exact ⟨k, by omega, by rw [getD_at hk', e]⟩
theorem part_add {g q : PG} (hg : g.fine) {l : List Nat} (hn : l.Nodup) (hb : ∀ x ∈ l, x < g.m) (hs : Seqd (prS g.m g.ids g.ops) l) {i : Nat} (h : PartG g l i q) (hi : i < l.length) :
    addE q (g.ops.getD (l.getD i 0) OpV.zero) = 0 ∧ addI q (g.ops.getD (l.getD i 0) OpV.zero) = idAt g.ids (l.getD i 0) ∧ PartG g l (i + 1) (addP q (g.ops.getD (l.getD i 0) OpV.zero)) := by
  have ha : l.getD i 0 < g.m := hb _ (getD_mem hi)
  have hid := fine_idOf hg ha
  have hown : ownS (g.ops.getD (l.getD i 0) OpV.zero) (idAt g.ids (l.getD i 0)) := hg.own _ _ ⟨_, ha, rfl, rfl⟩
  have hm : q.m < 60 := by
    have h1 := nodup_len hn (m := List.range g.m) fun x hx => List.mem_range.2 (hb x hx)
    rw [List.length_range] at h1
    have := hg.le
    have := h.m
    omega
  have hnot : ¬ inS q.m q.ids (idOf (g.ops.getD (l.getD i 0) OpV.zero)) := fun hin => by
    rw [hid] at hin
    obtain ⟨o, ho⟩ := has_in.1 hin
    obtain ⟨k, hk, e, _⟩ := (h.has _ _).1 ho
    have e2 := rising_inj hg.rising ha (hb _ (getD_mem (by omega))) e
    have := mem_take_getD (l := l) hk (by omega)
    rw [← e2] at this
    exact getD_notin hn hi this
  have hall : allI q.m q.ids (g.ops.getD (l.getD i 0) OpV.zero).n (g.ops.getD (l.getD i 0) OpV.zero).ids := fun j hj => by
    have h1 := hg.opens _ _ ⟨_, ha, rfl, rfl⟩ j hj
    have h2 := hs i hi (ixS g.m g.ids (idAt (g.ops.getD (l.getD i 0) OpV.zero).ids j)) (by unfold prS; exact List.mem_map.2 ⟨j, List.mem_range.2 hj, rfl⟩)
    obtain ⟨k, hk, e⟩ := take_getD_ex h2 (by omega)
    exact has_in.2 ⟨_, (h.has _ _).2 ⟨k, hk, by rw [e, (ix_in h1).2], rfl⟩⟩
  have he := addE_0 (g := q) ((chk_fine h.fine.good.1).2 h.fine) hown.1 hnot hall (by omega)
  obtain ⟨e1, e2⟩ := addP_yes he
  refine ⟨he, by rw [e2, hid], ?_⟩
  rw [e1]
  refine ⟨fine_put h.fine ⟨hown.1, rfl⟩ (idOf_len _) hnot hall hm, by show q.m + 1 = _; rw [h.m], fun x o => ?_⟩
  rw [putP_has h.fine.good (idOf_len _), h.has, hid]
  constructor
  · rintro (⟨k, hk, e⟩ | e)
    · exact ⟨k, by omega, e⟩
    · exact ⟨i, Nat.lt_succ_self _, e⟩
  · rintro ⟨k, hk, e⟩
    rcases Nat.lt_or_ge k i with a | a
    · exact .inl ⟨k, a, e⟩
    · obtain rfl : k = i := by omega
      exact .inr e
theorem part_all {g q : PG} (hg : g.fine) {l : List Nat} (hn : l.Nodup) (hb : ∀ x ∈ l, x < g.m) (hl : g.m ≤ l.length) (h : PartG g l l.length q) : q = g := PG.ext_has h.fine.good hg.good h.fine.rising hg.rising fun x o => by
  rw [h.has]
  constructor
  · rintro ⟨k, hk, rfl, rfl⟩
    exact ⟨_, hb _ (getD_mem hk), rfl, rfl⟩
  · rintro ⟨i, hi, rfl, rfl⟩
    have h1 := nodup_all hn hb hl hi
    obtain ⟨k, hk, e⟩ := List.getElem_of_mem h1
    rw [← getD_at (d := 0) hk] at e
    exact ⟨k, hk, by rw [e], by rw [e]⟩
/-! what is added -/
theorem add_fine {g : PG} {o : OpV} (hl : g.ids.length = 32 * g.m) (h : addE g o = 0) : g.fine ∧ ¬ inS g.m g.ids (idOf o) ∧ (addP g o).fine ∧ (addP g o).m = g.m + 1 ∧ addI g o = idOf o ∧ ∀ y u, (addP g o).has y u ↔ g.has y u ∨ (y = idOf o ∧ u = o) := by
  obtain ⟨h1, h2, h3, h4, h5⟩ := addE_zero.1 h
  have hg := (chk_fine hl).1 h1
  obtain ⟨e1, e2⟩ := addP_yes h
  have := hg.le
  refine ⟨hg, h3, ?_, ?_, e2, ?_⟩
  · rw [e1]; exact fine_put hg ⟨h2, rfl⟩ (idOf_len _) h3 h4 (by omega)
  · rw [e1]; rfl
  · rw [e1]; exact putP_has hg.good (idOf_len _) o
theorem order_full {g : PG} (hg : g.fine) {l : List Nat} (hn : l.Nodup) (hb : ∀ x ∈ l, x < g.m) (hs : Seqd (prS g.m g.ids g.ops) l) (hc : Clsd (prS g.m g.ids g.ops) g.m l) : l.length = g.m := by
  obtain ⟨_, _, _, h4, h5, h6⟩ := chkG_zero.1 ((chk_fine hg.good.1).2 hg)
  rw [hg.good.2] at h6
  have h1 := (found_iff hn hb hs hc).1 h6
  have h2 := nodup_len hn (m := List.range g.m) fun x hx => List.mem_range.2 (hb x hx)
  rw [List.length_range] at h2
  omega
/-! unions -/
/-! comparisons -/
def eqP (a b : PG) : Prop := a.ids = b.ids ∧ a.ops = b.ops
instance (a b : PG) : Decidable (eqP a b) := by unfold eqP; infer_instance
end Go.Proofs.YtakbhjagiofbgaaGreatDoor.S
namespace Go.Proofs.YtakbhjagiofbgaaGreatDoor.W
open Go.RowKit Go.Proofs.YtakbhjagiofbgaaGreatDoor.G
set_option linter.unusedVariables false
set_option linter.unusedSimpArgs false
set_option maxRecDepth 20000
set_option maxHeartbeats 8000000
attribute [local irreducible] RS RX RY Code.wp bodyPost J Ent.blk Ent.irow Ent.iown Ent.wrow Ent.wown Ent.grow Ent.gown Ent.all Ent.emp
instance : Ents Tryz.prog 126 := ⟨.mk Tryz.func126 (by kernel_rfl) rfl⟩
instance : Ents Tryz.prog 131 := ⟨.mk Tryz.func131 (by kernel_rfl) rfl⟩
instance : Ents Tryz.prog 112 := ⟨.mk Tryz.func112 (by kernel_rfl) rfl⟩
instance : Ents Tryz.prog 14 := ⟨.mk Tryz.func14 (by kernel_rfl) rfl⟩
instance : Ents Tryz.prog 102 := ⟨.mk Tryz.func102 (by kernel_rfl) rfl⟩
instance : Ents Tryz.prog 124 := ⟨.mk Tryz.func124 (by kernel_rfl) rfl⟩
instance : Ents Tryz.prog 18 := ⟨.mk Tryz.func18 (by kernel_rfl) rfl⟩
instance : Ents Tryz.prog 13 := ⟨.mk Tryz.func13 (by kernel_rfl) rfl⟩
theorem rgTake {α : Type} {S0 : Nat → Prop} {w0 : World} {L : List Ent} {f : α → List Value} {sz n : Nat} {a : Option Addr} {lst : List α} (h : RG S0 w0 L f sz a n lst) (p c : Nat) (hp : p ≤ n) (hc : p ≤ c) : RG S0 w0 L f sz (subA a 0 sz c) p (lst.take p) := by
 have := h.sub 0 p c hp (Nat.zero_le _) hc
 simpa using this
theorem rgDrop {α : Type} {S0 : Nat → Prop} {w0 : World} {L : List Ent} {f : α → List Value} {sz n : Nat} {a : Option Addr} {lst : List α} (h : RG S0 w0 L f sz a n lst) (p c : Nat) (hp : p ≤ n) (hc : n ≤ c) (hl : lst.length = n) : RG S0 w0 L f sz (subA a p sz c) (n - p) (lst.drop p) := by
 have := h.sub p n c (Nat.le_refl _) hp hc
 rwa [List.take_of_length_le (by rw [List.length_drop]; omega)] at this
theorem GrP.sz {P : S.PG} {q : GrA} (h : GrP P.m P.ids P.ops q) (hs : P.good ∧ P.m ≤ 60) : q.m ≤ 70 ∧ q.n ≤ 70 := by
 have := h.m
 have := h.n
 have := hs.1.2
 omega
theorem GrP.nm {P : S.PG} {q : GrA} (h : GrP P.m P.ids P.ops q) (hs : P.good) : q.n = q.m := by
 have := h.m
 have := h.n
 have := hs.2
 omega
theorem GrP.P {P : S.PG} {q : GrA} (h : GrP P.m P.ids P.ops q) : q.P = P := by
 unfold GrA.P
 rw [h.m, h.ids, h.ops]
theorem put_ok {a : S.PG} {x : List Int} {o : S.OpV} (ha : ∀ u ∈ a.ops, u.ok) (ho : o.ok) : ∀ u ∈ (S.putP a x o).ops, u.ok := fun u hu => by
 have hu : u ∈ a.ops.take _ ++ o :: a.ops.drop _ := hu
 rcases List.mem_append.1 hu with k | k
 ·exact ha u (List.mem_of_mem_take k)
 rcases List.mem_cons.1 k with e | k
 ·rw [e]; exact ho
 exact ha u (List.mem_of_mem_drop k)
theorem add_ok {a : S.PG} {o : S.OpV} (ha : ∀ u ∈ a.ops, u.ok) (ho : o.ok) : ∀ u ∈ (S.addP a o).ops, u.ok := by
 by_cases h : S.addE a o = 0
 ·rw [(S.addP_yes h).1]
  exact put_ok ha ho
 rw [(S.addP_no h).1]
 exact fun u hu => (by cases hu)
theorem nil_size : S.PG.nil.good ∧ S.PG.nil.m ≤ 60 := ⟨S.nil_good, Nat.zero_le _⟩
theorem add_size {a : S.PG} {o : S.OpV} (hl : a.ids.length = 32 * a.m) : (S.addP a o).good ∧ (S.addP a o).m ≤ 60 := by
 by_cases h : S.addE a o = 0
 ·have f := (S.add_fine hl h).2.2.1
  exact ⟨f.good, f.le⟩
 rw [(S.addP_no h).1]
 exact nil_size
end Go.Proofs.YtakbhjagiofbgaaGreatDoor.W
namespace Go.Proofs.YtakbhjagiofbgaaGreatDoor.S
open G
set_option linter.unusedVariables false
def gxX : List Int := [114, 98, 67, 49, 49, 105, 2, 103, 116, 6, 228, 162, 149, 81, 200, 12, 154, 138, 190, 161, 79, 203, 38, 124, 216, 152, 32, 52, 195, 238, 3, 132]
def gxY : List Int := [21, 212, 110, 188, 78, 185, 227, 55, 177, 78, 225, 72, 97, 254, 14, 46, 152, 40, 250, 61, 168, 204, 12, 221, 182, 216, 80, 19, 27, 92, 162, 20]
def gxA : OpV := ⟨0, 1, 1, 0, 0, 0, 0, 0, 0, [], .empty, .empty⟩
def gxB : OpV := ⟨0, 1, 1, 0, 0, 0, 0, 0, 1, gxX, .empty, .empty⟩
def gxO : OpV := ⟨4, 1, 1, 0, 0, 0, 376595462, 88407594, 0, [], .empty, .empty⟩
def gxU : OpV := ⟨16, 1, 1, 0, 0, 0, 480380063, 274837419, 1, gxX, .empty, .empty⟩
theorem gx_x : sha (encS gxO) = gxX := by decide +kernel
theorem gx_y : sha (encS gxU) = gxY := by decide +kernel
theorem gx_arrX : Arr .u8 32 gxX := gx_x ▸ sha_arr _
theorem gx_arrY : Arr .u8 32 gxY := gx_y ▸ sha_arr _
theorem gx_arrZ : Arr .u8 32 (List.replicate 32 0) := ⟨by simp, fun x hx => by rw [List.mem_replicate] at hx; rw [hx.2]; simp only [lim]; omega⟩
theorem gx_pub1 : pubS 1 = 4 := by decide +kernel
theorem gx_pub2 : pubS 2 = 16 := by decide +kernel
theorem gx_non1 : nonceS 1 (msgS (gxA.wit 1)) = 211812135 := by decide +kernel
theorem gx_non2 : nonceS 2 (msgS (gxB.wit 2)) = 314077299 := by decide +kernel
theorem gx_r1 : pubS 211812135 = 336507345 := by
  unfold pubS
  rw [pw_fast _ _ _ (by decide) (by decide)]
  decide +kernel
theorem gx_r2 : pubS 314077299 = 350125251 := by
  unfold pubS
  rw [pw_fast _ _ _ (by decide) (by decide)]
  decide +kernel
theorem gx_e1 : sigE 1 (msgS (gxA.wit 1)) = 376595462 := by
  unfold sigE
  rw [gx_non1, gx_r1, gx_pub1]
  decide +kernel
theorem gx_e2 : sigE 2 (msgS (gxB.wit 2)) = 480380063 := by
  unfold sigE
  rw [gx_non2, gx_r2, gx_pub2]
  decide +kernel
theorem gx_s1 : sigS 1 (msgS (gxA.wit 1)) = 88407594 := by
  unfold sigS
  rw [gx_non1, gx_e1]
  decide
theorem gx_s2 : sigS 2 (msgS (gxB.wit 2)) = 274837419 := by
  unfold sigS
  rw [gx_non2, gx_e2]
  decide
theorem gx_signE1 : signE 1 gxA = 0 := signE_zero.2 ⟨by decide, check_zero.2 ⟨(by decide : (0 : Nat) ≤ 4), rising_nil, isG_pub 1 (by decide), (by decide : (1 : Int) ≤ 1000000000000), (by decide : (0 : Int) < 500000003), (by decide : (0 : Int) < 500000003), .inl ⟨rfl, rfl, rfl, rfl, rfl, rfl⟩⟩⟩
theorem gx_signE2 : signE 2 gxB = 0 := signE_zero.2 ⟨by decide, check_zero.2 ⟨(by decide : (1 : Nat) ≤ 4), fun j hj => absurd hj (Nat.not_lt_zero _), isG_pub 2 (by decide), (by decide : (1 : Int) ≤ 1000000000000), (by decide : (0 : Int) < 500000003), (by decide : (0 : Int) < 500000003), .inl ⟨rfl, rfl, rfl, rfl, rfl, rfl⟩⟩⟩
theorem gx_sign1 : signS 1 gxA = gxO := by
  unfold signS
  rw [if_pos gx_signE1, gx_e1, gx_s1]
  unfold OpV.wit
  rw [gx_pub1]
  rfl
theorem gx_sign2 : signS 2 gxB = gxU := by
  unfold signS
  rw [if_pos gx_signE2, gx_e2, gx_s2]
  unfold OpV.wit
  rw [gx_pub2]
  rfl
theorem gx_okA : gxA.ok := ⟨by decide, by decide, by decide, by decide, by decide, by decide, by decide, by decide, by decide, by decide, by decide⟩
theorem gx_okB : gxB.ok := ⟨by decide, by decide, by decide, by decide, by decide, by decide, by decide, by decide, by decide, by decide, by decide⟩
theorem gx_okO : gxO.ok := ⟨by decide, by decide, by decide, by decide, by decide, by decide, by decide, by decide, by decide, by decide, by decide⟩
theorem gx_okU : gxU.ok := ⟨by decide, by decide, by decide, by decide, by decide, by decide, by decide, by decide, by decide, by decide, by decide⟩
theorem gx_verO : verE gxO = 0 := by
  have := (sign_good gx_okA rfl gx_signE1).2.2.2.2.2.2
  rwa [gx_sign1] at this
theorem gx_verU : verE gxU = 0 := by
  have := (sign_good gx_okB rfl gx_signE2).2.2.2.2.2.2
  rwa [gx_sign2] at this
noncomputable def gxG : PG := addP .nil gxO
noncomputable def gxH : PG := addP gxG gxU
theorem gx_chk : chkP PG.nil = 0 := (chkP_fine rfl).2 nil_fine
theorem gx_add1 : addE .nil gxO = 0 := addE_0 gx_chk gx_verO (nil_in _) (fun j hj => absurd hj (Nat.not_lt_zero _)) (by decide)
theorem gx_id1 : addI .nil gxO = gxX := by rw [(addP_yes gx_add1).2]; exact gx_x
theorem gx_f1 : PG.nil.fine ∧ ¬ inS PG.nil.m PG.nil.ids (idOf gxO) ∧ gxG.fine ∧ gxG.m = PG.nil.m + 1 ∧ addI PG.nil gxO = idOf gxO ∧ ∀ y u, gxG.has y u ↔ PG.nil.has y u ∨ (y = idOf gxO ∧ u = gxO) := add_fine rfl gx_add1
theorem gx_m1 : gxG.m = 1 := gx_f1.2.2.2.1
theorem gx_in1 (y : List Int) : inS gxG.m gxG.ids y ↔ y = gxX := by
  rw [has_in]
  constructor
  · rintro ⟨o, ho⟩
    rcases (gx_f1.2.2.2.2.2 y o).1 ho with h | h
    · exact absurd h (nil_has _ _)
    · rw [h.1]; exact gx_x
  · rintro rfl
    exact ⟨gxO, (gx_f1.2.2.2.2.2 _ _).2 (.inr ⟨gx_x.symm, rfl⟩)⟩
theorem gx_ne : gxY ≠ gxX := by decide
theorem gx_add2 : addE gxG gxU = 0 := by
  refine addE_0 ((chkP_fine gx_f1.2.2.1.good.1).2 gx_f1.2.2.1) gx_verU (fun h => ?_) (fun j hj => ?_) (by rw [gx_m1]; decide)
  · have h := (gx_in1 _).1 h
    rw [show idOf gxU = gxY from gx_y] at h
    exact gx_ne h
  · have hj : j < 1 := hj
    obtain rfl : j = 0 := by omega
    exact (gx_in1 _).2 rfl
theorem gx_id2 : addI gxG gxU = gxY := by rw [(addP_yes gx_add2).2]; exact gx_y
theorem gx_f2 : gxG.fine ∧ ¬ inS gxG.m gxG.ids (idOf gxU) ∧ gxH.fine ∧ gxH.m = gxG.m + 1 ∧ addI gxG gxU = idOf gxU ∧ ∀ y u, gxH.has y u ↔ gxG.has y u ∨ (y = idOf gxU ∧ u = gxU) := add_fine gx_f1.2.2.1.good.1 gx_add2
theorem gx_m2 : gxH.m = 2 := by
  have h : gxH.m = gxG.m + 1 := gx_f2.2.2.2.1
  rw [h, gx_m1]
theorem gx_inY : inS gxH.m gxH.ids gxY := has_in.2 ⟨gxU, (gx_f2.2.2.2.2.2 _ _).2 (.inr ⟨gx_y.symm, rfl⟩)⟩
theorem gx_inX : inS gxH.m gxH.ids gxX := has_in.2 ⟨gxO, (gx_f2.2.2.2.2.2 _ _).2 (.inl ((gx_f1.2.2.2.2.2 _ _).2 (.inr ⟨gx_x.symm, rfl⟩)))⟩
theorem gx_open : addE .nil gxU = 40 := addE_4 gx_chk gx_verU (nil_in _) fun h => nil_in _ (h 0 (by decide))
theorem gx_twice : addE gxH gxO = 14 := addE_3 ((chkP_fine gx_f2.2.2.1.good.1).2 gx_f2.2.2.1) gx_verO (by rw [show idOf gxO = gxX from gx_x]; exact gx_inX)
theorem gx_chkH : chkP gxH = 0 := (chkP_fine gx_f2.2.2.1.good.1).2 gx_f2.2.2.1
end Go.Proofs.YtakbhjagiofbgaaGreatDoor.S
namespace Go.Proofs.YtakbhjagiofbgaaGreatDoor.G
open Go.RowKit
set_option linter.unusedVariables false
section
variable {S0 : Nat → Prop} {w0 : World} {L : List Ent} {P : Program} {ops : Array Oper} {K : List Value → World → Prop} {rest : List (Oper × Kd)} {l l' : List Value} {m : Md} {d : Tmp} {ty xt e : TypeId} {pos : String} {af : Array Edge} {kd : Kd} {x y : Operand} {nn : Nat} {ki : IntKind} {a : Option Addr} {k0 : Nat}
end
section
variable {S0 : Nat → Prop} {w0 : World} {L Lq : List Ent} {P : Program} {l : List Value} {l0 : List Oper} {K : List Value → World → Prop}
class SubL (E L : List Ent) : Prop where
  h : E.Sublist L
instance SubL.nil {L : List Ent} : SubL [] L := ⟨List.nil_sublist _⟩
instance (priority := low) SubL.skip {E L : List Ent} {x : Ent} [s : SubL E L] : SubL E (x :: L) := ⟨.cons _ s.h⟩
instance SubL.take {E L : List Ent} {x : Ent} [s : SubL E L] : SubL (x :: E) (x :: L) := ⟨.cons_cons _ s.h⟩
def bs (k n : Nat) : Array Bool := ((List.range k).map fun i => n.testBit i).toArray
theorem J.wst {A : Type} (M : A → List (Nat × Value)) (Jk : List Nat) (Lp : A → List Ent) (I : A → Prop) (n : Nat) (li : Array Bool) {l' : A → (Nat → Value) → List Value} {n0 : Nat} {li0 : Array Bool}
    (h : ∀ p j, I p → J S0 w0 (Lp p) (WX S0 w0 Lq P l0 K n li (l' p j)))
    (k : (∀ (p : A) (le : List Value) (L' : List Ent) (li' : Array Bool), slotsOk le (M p) → upd (upd l (M p)) (junk Jk (fun s => le.getD s undef)) = le → li' = li → I p → SubL (Lp p) L' → J S0 w0 L' (WX S0 w0 Lq P l0 K n li' le)) → J S0 w0 L (WX S0 w0 Lq P l0 K n0 li0 l))
    (hl : ∀ p j, upd (upd l (M p)) (junk Jk j) = l' p j := by intro p j; simp only [upd, junk, List.map_cons, List.map_nil, List.set_cons_succ, List.set_cons_zero]; exact rfl) : J S0 w0 L (WX S0 w0 Lq P l0 K n0 li0 l) :=
  k fun p le L' li' _ he hli hi hs w' Mm => by
    subst hli
    have := h p (fun s => le.getD s undef) hi w' (Mm.sub hs.h)
    rw [← hl, he] at this
    exact this
end
end Go.Proofs.YtakbhjagiofbgaaGreatDoor.G
namespace Go.Proofs.YtakbhjagiofbgaaGreatDoor.W
open Go.RowKit Go.Proofs.YtakbhjagiofbgaaGreatDoor.G
set_option linter.unusedVariables false
set_option linter.unusedSimpArgs false
set_option maxRecDepth 20000
set_option maxHeartbeats 8000000
attribute [local irreducible] RS RX RY Code.wp bodyPost J Ent.blk Ent.irow Ent.iown Ent.wrow Ent.wown Ent.grow Ent.gown Ent.all Ent.emp
instance : SInf Tryz.prog 50 [(0, 1), (1, 1), (2, 4)] := ⟨_, Tryz.underlying50, by kernel_rfl, by kernel_rfl⟩
instance : Inf Tryz.prog 50 6 64 [.int .u8 0, .string .empty, .int .u8 0, .int .i64 0, .int .u64 0, .string .empty] := ⟨TI.of (v := .agg #[.int .u8 0, .string .empty, .int .u8 0, .int .i64 0, .int .u64 0, .string .empty]) (by kernel_rfl) rfl⟩
instance : SInf Tryz.prog 54 [(0, 1), (1, 1), (2, 1), (3, 6), (9, 2)] := ⟨_, Tryz.underlying54, by kernel_rfl, by kernel_rfl⟩
instance : Ents Tryz.prog 133 := ⟨.mk Tryz.func133 (by kernel_rfl) rfl⟩
instance : Ents Tryz.prog 47 := ⟨.mk Tryz.func47 (by kernel_rfl) rfl⟩
instance : Ents Tryz.prog 114 := ⟨.mk Tryz.func114 (by kernel_rfl) rfl⟩
instance : Ents Tryz.prog 31 := ⟨.mk Tryz.func31 (by kernel_rfl) rfl⟩
instance : Ents Tryz.prog 48 := ⟨.mk Tryz.func48 (by kernel_rfl) rfl⟩
theorem signG (x : Int) (hx : 0 ≤ x ∧ x < 4294967296) {S0 : Nat → Prop} (z : OpA) (TK : TypeId) (w : World) (K0 : Kst w TK) (R : OpR S0 w z) :
  Calls Tryz.prog 133 #[.int .u32 x, .agg (opC z).toArray] w (Gv w (fun q : OpA × Int => .tuple #[.agg (opC q.1).toArray, .int .i64 q.2]) (fun q => [.wrow .u8 32 q.1.pa q.1.o.n q.1.o.ids]) fun q => q.1.o.n ≤ q.1.pc ∧ q.1.o = S.signS x z.o ∧ q.2 = S.signE x z.o) :=
 Gv.of (signO x hx z.o R.ok _ _ TK w K0 R.row R.cap) fun v w' _ ⟨a', c', hv, hc, W⟩ => ⟨(⟨S.signS x z.o, a', c'⟩, S.signE x z.o), hv, ⟨hc, rfl, rfl⟩, sep1 (show (Ent.wrow .u8 32 a' (S.signS x z.o).n (S.signS x z.o).ids).ok _ _ by unfold Ent.wrow; exact W)⟩
theorem dagSigned (x : Int) (hx : 0 ≤ x ∧ x < 4294967296) {S0 : Nat → Prop} (a : Option Addr) (n c : Nat) (ids : List Int) (TK : TypeId) (w : World) (K0 : Kst w TK) (hok : (⟨0, 1, 1, 0, 0, 0, 0, 0, n, ids, .empty, .empty⟩ : S.OpV).ok) (D0 : WRow .u8 32 S0 w a n ids) (hc : n ≤ c) :
  Calls Tryz.prog 114 #[.int .u32 x, .slice a n c] w (Gv w (fun q : OpA => .agg (opC q).toArray) (fun q => [.wrow .u8 32 q.pa q.o.n q.o.ids]) fun q => q.o.n ≤ q.pc ∧ q.o = S.signS x ⟨0, 1, 1, 0, 0, 0, 0, 0, n, ids, .empty, .empty⟩) := by
 refine J.enter 14 Tryz.func114 rfl rfl ?_
 refine run ?_
 refine J.alloc rfl fun b1 => ?_
 refine run ?_
 refine J.call rfl rfl (fun w' M => signG x hx ⟨⟨0, 1, 1, 0, 0, 0, 0, 0, n, ids, .empty, .empty⟩, a, c⟩ TK w' (K0.ext M.ext) ⟨hok, D0.ext M.ext, hc⟩) fun q hq => ?_
 refine run ?_
 refine J.alloc rfl fun b2 => ?_
 refine run ?_
 exact J.finG q.1 rfl ⟨hq.1, hq.2.1⟩ (by repeat (first | exact List.nil_sublist _ | refine List.Sublist.cons_cons _ ?_ | refine List.Sublist.cons _ ?_))
theorem sgA (TK : TypeId) (w : World) (K0 : Kst w TK) : Calls Tryz.prog 114 #[.int .u32 1, .slice none 0 0] w (Gv w (fun q : Option Addr × Nat => .agg (opC ⟨S.gxO, q.1, q.2⟩).toArray) (fun q => [.wrow .u8 32 q.1 0 []]) fun _ => True) :=
 (dagSigned (S0 := no) 1 (by decide) none 0 0 [] TK w K0 S.gx_okA WRow.nil (Nat.le_refl _)).mono fun _ w' ⟨⟨o, pa, pc⟩, h1, ⟨hc, e⟩, h3, h4⟩ => by
  obtain rfl : o = S.gxO := e.trans S.gx_sign1
  exact ⟨(pa, pc), h1, trivial, h3, h4⟩
theorem sgB {S0 : Nat → Prop} (a : Option Addr) (TK : TypeId) (w : World) (K0 : Kst w TK) (D0 : WRow .u8 32 S0 w a 1 S.gxX) : Calls Tryz.prog 114 #[.int .u32 2, .slice a 1 1] w (Gv w (fun q : Option Addr × Nat => .agg (opC ⟨S.gxU, q.1, q.2⟩).toArray) (fun q => [.wrow .u8 32 q.1 1 S.gxX]) fun q => 1 ≤ q.2) :=
 (dagSigned 2 (by decide) a 1 1 S.gxX TK w K0 S.gx_okB D0 (Nat.le_refl _)).mono fun _ w' ⟨⟨o, pa, pc⟩, h1, ⟨hc, e⟩, h3, h4⟩ => by
  obtain rfl : o = S.gxU := e.trans S.gx_sign2
  exact ⟨(pa, pc), h1, hc, h3, h4⟩
theorem addX {S0 S1 : Nat → Prop} (g : GrA) (P : S.PG) (o : S.OpV) (pa : Option Addr) (pc : Nat) (TK : TypeId) (w : World) (K0 : Kst w TK) (hg : GrP P.m P.ids P.ops g) (G : GrR S0 w g) (ho : o.ok) (D : WRow .u8 32 S1 w pa o.n o.ids) (hc : o.n ≤ pc) {Q : S.PG} {x : List Int} {e : Int} (h1 : S.addP P o = Q) (h2 : S.addI P o = x) (h3 : S.addE P o = e) :
  Calls Tryz.prog 31 #[.agg (grC g).toArray, .agg (opC ⟨o, pa, pc⟩).toArray] w (Gv w (fun q : GrA => .tuple #[.agg (grC q).toArray, .agg (ints .u8 x).toArray, .int .i64 e]) (grE 43 54) (GrP Q.m Q.ids Q.ops)) := by
 have h := dagAdd g ⟨o, pa, pc⟩ TK w K0 G ⟨ho, D, hc⟩
 rw [GrP.P (P := P) hg] at h
 dsimp only at h
 rw [h1, h2, h3] at h
 exact h
theorem nilR (w : World) : GrR no w GrA.nil := ⟨WRow.nil, GRow.nil' opC_len, Inns.nil, fun z hz => (by cases hz), Nat.le_refl _, Nat.le_refl _, Nat.zero_le _, Nat.zero_le _⟩
theorem addY {S0 S1 : Nat → Prop} (g : GrA) (P : S.PG) (o : S.OpV) (pa : Option Addr) (pc : Nat) (TK : TypeId) (w : World) (K0 : Kst w TK) (hg : GrP P.m P.ids P.ops g) (G : GrR S0 w g) (ho : o.ok) (D : WRow .u8 32 S1 w pa o.n o.ids) (hc : o.n ≤ pc) {e : Int} (h3 : S.addE P o = e) (he : e ≠ 0) :
  Calls Tryz.prog 31 #[.agg (grC g).toArray, .agg (opC ⟨o, pa, pc⟩).toArray] w (Gv w (fun q : GrA => .tuple #[.agg (grC q).toArray, .agg (ints .u8 (List.replicate 32 0)).toArray, .int .i64 e]) (fun _ => []) fun _ => True) :=
 (addX g P o pa pc TK w K0 hg G ho D hc rfl (S.addP_no (by rw [h3]; exact he)).2 h3).mono fun _ _ ⟨q, h1, _, h3, _⟩ => ⟨q, h1, trivial, h3, trivial⟩
theorem cB {L : List Ent} {w : World} {TK : TypeId} {F : Option Addr → Nat → Nat → List Int → List Ent} (b : Nat) (K0 : Kst w TK) [R : RWO L (some ⟨b, 0, none⟩) 43 .u8 32 1 1 S.gxX F] (w' : World) (M : Mem no w L w') : Calls Tryz.prog 114 #[.int .u32 2, .slice (some ⟨b, 0, none⟩) 1 1] w' (Gv w' (fun q : Option Addr × Nat => .agg (opC ⟨S.gxU, q.1, q.2⟩).toArray) (fun q => [.wrow .u8 32 q.1 1 S.gxX]) fun q => 1 ≤ q.2) :=
 (RW.own' (a := some ⟨b, 0, none⟩) w' M).elim fun _ k0 => sgB _ TK w' (K0.ext M.ext) k0
theorem cU {L : List Ent} {w : World} {TK : TypeId} (q1 : GrA) (z : Option Addr × Nat) {F1 : Option Addr → Nat → Nat → List OpA → List Ent} {F2 : Option Addr → Nat → Nat → List Int → List Ent} {F3 : Ent → List Ent} (K0 : Kst w TK) (hk : ∀ z ∈ q1.zs, z.o.ok) (hq : GrP S.gxG.m S.gxG.ids S.gxG.ops q1) (hm : q1.m ≤ 70 ∧ q1.n ≤ 70) (hz : 1 ≤ z.2)
  [R1 : GO L q1.oa opC 11 54 q1.n q1.oc q1.zs F1] [R2 : RWO L q1.ia 43 .u8 32 q1.m q1.ic q1.ids F2] [R3 : RE L (.all (q1.zs.map (opE 43))) F3] [R4 : RRW L z.1 .u8 32 1 S.gxX] (w' : World) (M : Mem no w L w') : Calls Tryz.prog 31 #[.agg (grC q1).toArray, .agg (opC ⟨S.gxU, z.1, z.2⟩).toArray] w' (Gv w' (fun q : GrA => .tuple #[.agg (grC q).toArray, .agg (ints .u8 S.gxY).toArray, .int .i64 0]) (fun q => [.gown opC 11 54 q.oa q.n q.oc q.zs, .all (q.zs.map (opE 43)), .wown 43 .u8 32 q.ia q.m q.ic q.ids]) (GrP S.gxH.m S.gxH.ids S.gxH.ops)) :=
 (RW.row' (a := z.1) w' M).elim fun _ k1 => addX q1 S.gxG S.gxU z.1 z.2 TK w' (K0.ext M.ext) hq (GrR.own hk hq.cap hm w' M) S.gx_okU k1 hz (Q := S.gxH) rfl S.gx_id2 S.gx_add2
theorem cN {L : List Ent} {w : World} {TK : TypeId} (z : Option Addr × Nat) (K0 : Kst w TK) (hz : 1 ≤ z.2) [R4 : RRW L z.1 .u8 32 1 S.gxX] (w' : World) (M : Mem no w L w') : Calls Tryz.prog 31 #[.agg (grC GrA.nil).toArray, .agg (opC ⟨S.gxU, z.1, z.2⟩).toArray] w' (Gv w' (fun q : GrA => .tuple #[.agg (grC q).toArray, .agg (ints .u8 (List.replicate 32 0)).toArray, .int .i64 40]) (fun _ => []) fun _ => True) :=
 (RW.row' (a := z.1) w' M).elim fun _ k1 => addY GrA.nil .nil S.gxU z.1 z.2 TK w' (K0.ext M.ext) GrP.nil (nilR w') S.gx_okU k1 hz S.gx_open (by decide)
theorem cT {L : List Ent} {w : World} {TK : TypeId} (q2 : GrA) (z : Option Addr × Nat) {F1 : Option Addr → Nat → Nat → List OpA → List Ent} {F2 : Option Addr → Nat → Nat → List Int → List Ent} {F3 : Ent → List Ent} (K0 : Kst w TK) (hk : ∀ z ∈ q2.zs, z.o.ok) (hq : GrP S.gxH.m S.gxH.ids S.gxH.ops q2) (hm : q2.m ≤ 70 ∧ q2.n ≤ 70)
  [R1 : GO L q2.oa opC 11 54 q2.n q2.oc q2.zs F1] [R2 : RWO L q2.ia 43 .u8 32 q2.m q2.ic q2.ids F2] [R3 : RE L (.all (q2.zs.map (opE 43))) F3] [R4 : RRW L z.1 .u8 32 0 []] (w' : World) (M : Mem no w L w') : Calls Tryz.prog 31 #[.agg (grC q2).toArray, .agg (opC ⟨S.gxO, z.1, z.2⟩).toArray] w' (Gv w' (fun q : GrA => .tuple #[.agg (grC q).toArray, .agg (ints .u8 (List.replicate 32 0)).toArray, .int .i64 14]) (fun _ => []) fun _ => True) :=
 (RW.row' (a := z.1) w' M).elim fun _ k1 => addY q2 S.gxH S.gxO z.1 z.2 TK w' (K0.ext M.ext) hq (GrR.own hk hq.cap hm w' M) S.gx_okO k1 (Nat.zero_le _) S.gx_twice (by decide)
theorem dagAlive (TK : TypeId) (w : World) (K0 : Kst w TK) : Calls Tryz.prog 30 #[] w (Ret w fun v _ => v = .bool true) := by
 have hX := S.gx_arrX
 have hY := S.gx_arrY
 have hZ := S.gx_arrZ
 have o1 : ∀ u ∈ S.gxG.ops, u.ok := add_ok (a := .nil) (fun u hu => by cases hu) S.gx_okO
 have o2 : ∀ u ∈ S.gxH.ops, u.ok := add_ok (a := S.gxG) o1 S.gx_okU
 have s1 : S.gxG.good ∧ S.gxG.m ≤ 60 := ⟨S.gx_f1.2.2.1.good, S.gx_f1.2.2.1.le⟩
 have s2 : S.gxH.good ∧ S.gxH.m ≤ 60 := ⟨S.gx_f2.2.2.1.good, S.gx_f2.2.2.1.le⟩
 have gx40 : S.addE .nil S.gxU ≠ 0 := by rw [S.gx_open]; decide
 have gx14 : S.addE S.gxH S.gxO ≠ 0 := by rw [S.gx_twice]; decide
 refine J.enter 86 Tryz.func30 rfl rfl ?_
 refine run ?_
 refine J.callp rfl rfl (fun w' M => dagNew w') ?_
 refine J.call rfl rfl (fun w' M => sgA TK w' (K0.ext M.ext)) fun z1 hz1 => ?_
 refine J.call rfl rfl (fun w' M => (RW.row' (a := z1.1) w' M).elim fun _ k1 => addX GrA.nil .nil S.gxO z1.1 z1.2 TK w' (K0.ext M.ext) GrP.nil (nilR w') S.gx_okO k1 (Nat.zero_le _) (Q := S.gxG) rfl S.gx_id1 S.gx_add1) fun q1 hq1 => ?_
 dsimp only [grE, List.cons_append, List.nil_append]
 refine run ?_
 refine J.alloc rfl fun b1 => ?_
 refine J.alloc rfl fun b2 => ?_
 refine run ?_
 have hk1 := hq1.ok o1
 have hm1 := hq1.sz s1
 refine J.drop (E := [.blk b2 (ints .u8 S.gxX) 43, .blk b1 (grC q1) 25, .gown opC 11 54 q1.oa q1.n q1.oc q1.zs, .all (q1.zs.map (opE 43)), .wown 43 .u8 32 q1.ia q1.m q1.ic q1.ids]) (by repeat (first | exact List.nil_sublist _ | refine List.Sublist.cons_cons _ ?_ | refine List.Sublist.cons _ ?_)) ?_
 refine J.joinX (A := GrA × Nat × Nat) (fun u => [(4, .pointer (some ⟨u.2.1, 0, none⟩)), (5, .pointer (some ⟨u.2.2, 0, none⟩)), (6, .int .i64 0)]) [22, 23, 24, 25, 26, 27, 28, 29, 30] (fun u => [.blk u.2.2 (ints .u8 S.gxY) 43, .blk u.2.1 (grC u.1) 25, .gown opC 11 54 u.1.oa u.1.n u.1.oc u.1.zs, .all (u.1.zs.map (opE 43)), .wown 43 .u8 32 u.1.ia u.1.m u.1.ic u.1.ids, .blk b2 (ints .u8 S.gxX) 43, .blk b1 (grC q1) 25]) (fun u => GrP S.gxH.m S.gxH.ids S.gxH.ops u.1) ?_ (fun u j2 hu => ?_)
 ·refine J.regionW [.blk b2 (ints .u8 S.gxX) 43, .blk b1 (grC q1) 25] mixed ?_
  refine J.wst (A := GrA × Nat × Unit) (fun p => [(4, .pointer (some ⟨p.2.1, 0, none⟩)), (23, .agg (grC q1).toArray), (24, .agg (ints .u8 S.gxX).toArray), (27, .tuple #[.agg (grC p.1).toArray, .agg (ints .u8 S.gxY).toArray, .int .i64 0]), (28, .agg (grC p.1).toArray), (29, .agg (ints .u8 S.gxY).toArray), (30, .int .i64 0)]) [22, 25, 26] (fun p => [.blk p.2.1 [.slice none 0 0, .slice none 0 0] 25, .gown opC 11 54 p.1.oa p.1.n p.1.oc p.1.zs, .all (p.1.zs.map (opE 43)), .wown 43 .u8 32 p.1.ia p.1.m p.1.ic p.1.ids, .blk b2 (ints .u8 S.gxX) 43, .blk b1 (grC q1) 25, .gown opC 11 54 q1.oa q1.n q1.oc q1.zs, .all (q1.zs.map (opE 43)), .wown 43 .u8 32 q1.ia q1.m q1.ic q1.ids]) (fun p => GrP S.gxH.m S.gxH.ids S.gxH.ops p.1 ∧ True) 4 (bs 14 1023) (fun p j hp => ?_) (fun st0 => ?_)
  ·obtain ⟨q, bg, _⟩ := p
   obtain ⟨hq, _⟩ := hp
   try dsimp only
   try dsimp only at hq
   refine J.wfin [(10, .e), (11, .e), (12, .e), (13, .q)] (by kernel_rfl) ?_
   refine run ?_
   refine J.alloc rfl fun bi => ?_
   refine run ?_
   refine run ?_
   refine run ?_
   refine J.front (.blk bg (grC q) 25) ?_
   refine J.front (.blk bi (ints .u8 S.gxY) 43) ?_
   exact J.cut (q, bg, bi) ⟨rfl, rfl, rfl, trivial⟩ (by kernel_rfl) hq
  refine J.wst (A := GrA × Nat × Unit) (fun p => [(5, .pointer (some ⟨p.2.1, 0, none⟩)), (23, .agg (grC q1).toArray), (24, .agg (ints .u8 S.gxX).toArray), (27, .tuple #[.agg (grC p.1).toArray, .agg (ints .u8 S.gxY).toArray, .int .i64 0]), (28, .agg (grC p.1).toArray), (29, .agg (ints .u8 S.gxY).toArray), (30, .int .i64 0)]) [22, 25, 26] (fun p => [.blk p.2.1 (ints .u8 (List.replicate 32 0)) 43, .gown opC 11 54 p.1.oa p.1.n p.1.oc p.1.zs, .all (p.1.zs.map (opE 43)), .wown 43 .u8 32 p.1.ia p.1.m p.1.ic p.1.ids, .blk b2 (ints .u8 S.gxX) 43, .blk b1 (grC q1) 25, .gown opC 11 54 q1.oa q1.n q1.oc q1.zs, .all (q1.zs.map (opE 43)), .wown 43 .u8 32 q1.ia q1.m q1.ic q1.ids]) (fun p => GrP S.gxH.m S.gxH.ids S.gxH.ops p.1 ∧ True) 4 (bs 14 1535) (fun p j hp => ?_) (fun st1 => ?_)
  ·obtain ⟨q, bi, _⟩ := p
   obtain ⟨hq, _⟩ := hp
   try dsimp only
   try dsimp only at hq
   refine J.wfin [(9, .e), (11, .e), (12, .e), (13, .q)] (by kernel_rfl) ?_
   refine run ?_
   refine J.alloc rfl fun bg => ?_
   refine run ?_
   refine run ?_
   refine run ?_
   refine J.front (.blk bg (grC q) 25) ?_
   refine J.front (.blk bi (ints .u8 S.gxY) 43) ?_
   exact J.cut (q, bg, bi) ⟨rfl, rfl, rfl, trivial⟩ (by kernel_rfl) hq
  refine J.wst (A := GrA × Unit) (fun p => [(23, .agg (grC q1).toArray), (24, .agg (ints .u8 S.gxX).toArray), (27, .tuple #[.agg (grC p.1).toArray, .agg (ints .u8 S.gxY).toArray, .int .i64 0])]) [25, 26] (fun p => [.gown opC 11 54 p.1.oa p.1.n p.1.oc p.1.zs, .all (p.1.zs.map (opE 43)), .wown 43 .u8 32 p.1.ia p.1.m p.1.ic p.1.ids, .blk b2 (ints .u8 S.gxX) 43, .blk b1 (grC q1) 25, .gown opC 11 54 q1.oa q1.n q1.oc q1.zs, .all (q1.zs.map (opE 43)), .wown 43 .u8 32 q1.ia q1.m q1.ic q1.ids]) (fun p => GrP S.gxH.m S.gxH.ids S.gxH.ops p.1 ∧ True) 9 (bs 14 31) (fun p j hp => ?_) (fun st2 => ?_)
  ·obtain ⟨q, _⟩ := p
   obtain ⟨hq, _⟩ := hp
   try dsimp only
   try dsimp only at hq
   refine J.wnode [(5, .q), (6, .q), (7, .q), (8, .q)] [9, 10] 4 (bs 14 511) (by kernel_rfl) ?_
   refine run ?_
   refine J.nil ?_
   refine J.wbr ?_ ?_
   ·refine J.alloc rfl fun bg => ?_
    refine J.nil ?_
    exact st0 (q, bg, ()) _ _ _ ⟨rfl, rfl, rfl, rfl, rfl, rfl, rfl, trivial⟩ (by kernel_rfl) (by kernel_rfl) ⟨hq, trivial⟩ inferInstance
   refine J.wbr ?_ ?_
   ·refine J.alloc rfl fun bi => ?_
    refine J.nil ?_
    exact st1 (q, bi, ()) _ _ _ ⟨rfl, rfl, rfl, rfl, rfl, rfl, rfl, trivial⟩ (by kernel_rfl) (by kernel_rfl) ⟨hq, trivial⟩ inferInstance
   exact J.wbr0
  refine J.wst (A := GrA × Nat × Unit) (fun p => [(4, .pointer (some ⟨p.2.1, 0, none⟩)), (23, .agg (grC q1).toArray), (24, .agg (ints .u8 S.gxX).toArray), (27, .tuple #[.agg (grC p.1).toArray, .agg (ints .u8 S.gxY).toArray, .int .i64 0])]) [25, 26] (fun p => [.blk p.2.1 [.slice none 0 0, .slice none 0 0] 25, .gown opC 11 54 p.1.oa p.1.n p.1.oc p.1.zs, .all (p.1.zs.map (opE 43)), .wown 43 .u8 32 p.1.ia p.1.m p.1.ic p.1.ids, .blk b2 (ints .u8 S.gxX) 43, .blk b1 (grC q1) 25, .gown opC 11 54 q1.oa q1.n q1.oc q1.zs, .all (q1.zs.map (opE 43)), .wown 43 .u8 32 q1.ia q1.m q1.ic q1.ids]) (fun p => GrP S.gxH.m S.gxH.ids S.gxH.ops p.1 ∧ True) 8 (bs 14 543) (fun p j hp => ?_) (fun st3 => ?_)
  ·obtain ⟨q, bg, _⟩ := p
   obtain ⟨hq, _⟩ := hp
   try dsimp only
   try dsimp only at hq
   refine J.wfin [(5, .q), (6, .q), (7, .q), (8, .q), (10, .e), (11, .e), (12, .e), (13, .q)] (by kernel_rfl) ?_
   refine run ?_
   refine J.alloc rfl fun bi => ?_
   refine run ?_
   refine run ?_
   refine run ?_
   refine J.front (.blk bg (grC q) 25) ?_
   refine J.front (.blk bi (ints .u8 S.gxY) 43) ?_
   exact J.cut (q, bg, bi) ⟨rfl, rfl, rfl, trivial⟩ (by kernel_rfl) hq
  refine J.wst (A := (Option Addr × Nat) × Nat × Nat × Unit) (fun p => [(4, .pointer (some ⟨p.2.1, 0, none⟩)), (5, .pointer (some ⟨p.2.2.1, 0, none⟩)), (23, .agg (grC q1).toArray), (24, .agg (ints .u8 S.gxX).toArray), (26, .agg (opC ⟨S.gxU, p.1.1, p.1.2⟩).toArray)]) [25] (fun p => [.blk p.2.1 [.slice none 0 0, .slice none 0 0] 25, .blk p.2.2.1 (ints .u8 (List.replicate 32 0)) 43, .wrow .u8 32 p.1.1 1 S.gxX, .blk b2 (ints .u8 S.gxX) 43, .blk b1 (grC q1) 25, .gown opC 11 54 q1.oa q1.n q1.oc q1.zs, .all (q1.zs.map (opE 43)), .wown 43 .u8 32 q1.ia q1.m q1.ic q1.ids]) (fun p => 1 ≤ p.1.2 ∧ True) 8 (bs 14 1551) (fun p j hp => ?_) (fun st4 => ?_)
  ·obtain ⟨z, bg, bi, _⟩ := p
   obtain ⟨hz, _⟩ := hp
   try dsimp only
   try dsimp only at hz
   refine J.wfin [(4, .e), (5, .q), (6, .q), (7, .q), (8, .q), (11, .e), (12, .e), (13, .q)] (by kernel_rfl) ?_
   refine run ?_
   refine J.call rfl rfl (cU q1 z K0 hk1 hq1 hm1 hz) fun q hq => ?_
   refine run ?_
   refine run ?_
   refine run ?_
   refine J.front (.blk bg (grC q) 25) ?_
   refine J.front (.blk bi (ints .u8 S.gxY) 43) ?_
   exact J.cut (q, bg, bi) ⟨rfl, rfl, rfl, trivial⟩ (by kernel_rfl) hq
  refine J.wst (A := (Option Addr × Nat) × Nat × Unit) (fun p => [(4, .pointer (some ⟨p.2.1, 0, none⟩)), (23, .agg (grC q1).toArray), (24, .agg (ints .u8 S.gxX).toArray), (26, .agg (opC ⟨S.gxU, p.1.1, p.1.2⟩).toArray)]) [25] (fun p => [.blk p.2.1 [.slice none 0 0, .slice none 0 0] 25, .wrow .u8 32 p.1.1 1 S.gxX, .blk b2 (ints .u8 S.gxX) 43, .blk b1 (grC q1) 25, .gown opC 11 54 q1.oa q1.n q1.oc q1.zs, .all (q1.zs.map (opE 43)), .wown 43 .u8 32 q1.ia q1.m q1.ic q1.ids]) (fun p => 1 ≤ p.1.2 ∧ True) 9 (bs 14 527) (fun p j hp => ?_) (fun st5 => ?_)
  ·obtain ⟨z, bg, _⟩ := p
   obtain ⟨hz, _⟩ := hp
   try dsimp only
   try dsimp only at hz
   refine J.wnode [] [4, 10] 8 (bs 14 527) (by kernel_rfl) ?_
   refine run ?_
   refine J.nil ?_
   refine J.wbr ?_ ?_
   ·refine J.call rfl rfl (cU q1 z K0 hk1 hq1 hm1 hz) fun q hq => ?_
    refine J.nil ?_
    refine J.front (.wown 43 .u8 32 q.ia q.m q.ic q.ids) ?_
    refine J.front (.all (q.zs.map (opE 43))) ?_
    refine J.front (.gown opC 11 54 q.oa q.n q.oc q.zs) ?_
    refine J.front (.blk bg [.slice none 0 0, .slice none 0 0] 25) ?_
    exact st3 (q, bg, ()) _ _ _ ⟨rfl, rfl, rfl, rfl, trivial⟩ (by kernel_rfl) (by kernel_rfl) ⟨hq, trivial⟩ inferInstance
   refine J.wbr ?_ ?_
   ·refine J.alloc rfl fun bi => ?_
    refine J.nil ?_
    refine J.front (.wrow .u8 32 z.1 1 S.gxX) ?_
    refine J.front (.blk bi (ints .u8 (List.replicate 32 0)) 43) ?_
    refine J.front (.blk bg [.slice none 0 0, .slice none 0 0] 25) ?_
    exact st4 (z, bg, bi, ()) _ _ _ ⟨rfl, rfl, rfl, rfl, rfl, trivial⟩ (by kernel_rfl) (by kernel_rfl) ⟨hz, trivial⟩ inferInstance
   exact J.wbr0
  refine J.wst (A := GrA × Nat × Unit) (fun p => [(5, .pointer (some ⟨p.2.1, 0, none⟩)), (23, .agg (grC q1).toArray), (24, .agg (ints .u8 S.gxX).toArray), (27, .tuple #[.agg (grC p.1).toArray, .agg (ints .u8 S.gxY).toArray, .int .i64 0])]) [25, 26] (fun p => [.blk p.2.1 (ints .u8 (List.replicate 32 0)) 43, .gown opC 11 54 p.1.oa p.1.n p.1.oc p.1.zs, .all (p.1.zs.map (opE 43)), .wown 43 .u8 32 p.1.ia p.1.m p.1.ic p.1.ids, .blk b2 (ints .u8 S.gxX) 43, .blk b1 (grC q1) 25, .gown opC 11 54 q1.oa q1.n q1.oc q1.zs, .all (q1.zs.map (opE 43)), .wown 43 .u8 32 q1.ia q1.m q1.ic q1.ids]) (fun p => GrP S.gxH.m S.gxH.ids S.gxH.ops p.1 ∧ True) 8 (bs 14 1055) (fun p j hp => ?_) (fun st6 => ?_)
  ·obtain ⟨q, bi, _⟩ := p
   obtain ⟨hq, _⟩ := hp
   try dsimp only
   try dsimp only at hq
   refine J.wfin [(5, .q), (6, .q), (7, .q), (8, .q), (9, .e), (11, .e), (12, .e), (13, .q)] (by kernel_rfl) ?_
   refine run ?_
   refine J.alloc rfl fun bg => ?_
   refine run ?_
   refine run ?_
   refine run ?_
   refine J.front (.blk bg (grC q) 25) ?_
   refine J.front (.blk bi (ints .u8 S.gxY) 43) ?_
   exact J.cut (q, bg, bi) ⟨rfl, rfl, rfl, trivial⟩ (by kernel_rfl) hq
  refine J.wst (A := (Option Addr × Nat) × Nat × Unit) (fun p => [(5, .pointer (some ⟨p.2.1, 0, none⟩)), (23, .agg (grC q1).toArray), (24, .agg (ints .u8 S.gxX).toArray), (26, .agg (opC ⟨S.gxU, p.1.1, p.1.2⟩).toArray)]) [25] (fun p => [.blk p.2.1 (ints .u8 (List.replicate 32 0)) 43, .wrow .u8 32 p.1.1 1 S.gxX, .blk b2 (ints .u8 S.gxX) 43, .blk b1 (grC q1) 25, .gown opC 11 54 q1.oa q1.n q1.oc q1.zs, .all (q1.zs.map (opE 43)), .wown 43 .u8 32 q1.ia q1.m q1.ic q1.ids]) (fun p => 1 ≤ p.1.2 ∧ True) 9 (bs 14 1039) (fun p j hp => ?_) (fun st7 => ?_)
  ·obtain ⟨z, bi, _⟩ := p
   obtain ⟨hz, _⟩ := hp
   try dsimp only
   try dsimp only at hz
   refine J.wnode [] [4, 9] 8 (bs 14 1039) (by kernel_rfl) ?_
   refine run ?_
   refine J.nil ?_
   refine J.wbr ?_ ?_
   ·refine J.call rfl rfl (cU q1 z K0 hk1 hq1 hm1 hz) fun q hq => ?_
    refine J.nil ?_
    refine J.front (.wown 43 .u8 32 q.ia q.m q.ic q.ids) ?_
    refine J.front (.all (q.zs.map (opE 43))) ?_
    refine J.front (.gown opC 11 54 q.oa q.n q.oc q.zs) ?_
    refine J.front (.blk bi (ints .u8 (List.replicate 32 0)) 43) ?_
    exact st6 (q, bi, ()) _ _ _ ⟨rfl, rfl, rfl, rfl, trivial⟩ (by kernel_rfl) (by kernel_rfl) ⟨hq, trivial⟩ inferInstance
   refine J.wbr ?_ ?_
   ·refine J.alloc rfl fun bg => ?_
    refine J.nil ?_
    exact st4 (z, bg, bi, ()) _ _ _ ⟨rfl, rfl, rfl, rfl, rfl, trivial⟩ (by kernel_rfl) (by kernel_rfl) ⟨hz, trivial⟩ inferInstance
   exact J.wbr0
  refine J.wst (A := (Option Addr × Nat) × Unit) (fun p => [(23, .agg (grC q1).toArray), (24, .agg (ints .u8 S.gxX).toArray), (26, .agg (opC ⟨S.gxU, p.1.1, p.1.2⟩).toArray)]) [25] (fun p => [.wrow .u8 32 p.1.1 1 S.gxX, .blk b2 (ints .u8 S.gxX) 43, .blk b1 (grC q1) 25, .gown opC 11 54 q1.oa q1.n q1.oc q1.zs, .all (q1.zs.map (opE 43)), .wown 43 .u8 32 q1.ia q1.m q1.ic q1.ids]) (fun p => 1 ≤ p.1.2 ∧ True) 10 (bs 14 15) (fun p j hp => ?_) (fun st8 => ?_)
  ·obtain ⟨z, _⟩ := p
   obtain ⟨hz, _⟩ := hp
   try dsimp only
   try dsimp only at hz
   refine J.wnode [] [4, 9, 10] 9 (bs 14 15) (by kernel_rfl) ?_
   refine run ?_
   refine J.nil ?_
   refine J.wbr ?_ ?_
   ·refine J.call rfl rfl (cU q1 z K0 hk1 hq1 hm1 hz) fun q hq => ?_
    refine J.nil ?_
    exact st2 (q, ()) _ _ _ ⟨rfl, rfl, rfl, trivial⟩ (by kernel_rfl) (by kernel_rfl) ⟨hq, trivial⟩ inferInstance
   refine J.wbr ?_ ?_
   ·refine J.alloc rfl fun bg => ?_
    refine J.nil ?_
    exact st5 (z, bg, ()) _ _ _ ⟨rfl, rfl, rfl, rfl, trivial⟩ (by kernel_rfl) (by kernel_rfl) ⟨hz, trivial⟩ inferInstance
   refine J.wbr ?_ ?_
   ·refine J.alloc rfl fun bi => ?_
    refine J.nil ?_
    exact st7 (z, bi, ()) _ _ _ ⟨rfl, rfl, rfl, rfl, trivial⟩ (by kernel_rfl) (by kernel_rfl) ⟨hz, trivial⟩ inferInstance
   exact J.wbr0
  refine J.wst (A := Nat × Nat × Nat × Unit) (fun p => [(4, .pointer (some ⟨p.2.1, 0, none⟩)), (5, .pointer (some ⟨p.2.2.1, 0, none⟩)), (23, .agg (grC q1).toArray), (24, .agg (ints .u8 S.gxX).toArray), (25, .slice (some ⟨p.1, 0, none⟩) 1 1)]) [] (fun p => [.blk p.2.1 [.slice none 0 0, .slice none 0 0] 25, .blk p.2.2.1 (ints .u8 (List.replicate 32 0)) 43, .wown 43 .u8 32 (some ⟨p.1, 0, none⟩) 1 1 S.gxX, .blk b2 (ints .u8 S.gxX) 43, .blk b1 (grC q1) 25, .gown opC 11 54 q1.oa q1.n q1.oc q1.zs, .all (q1.zs.map (opE 43)), .wown 43 .u8 32 q1.ia q1.m q1.ic q1.ids]) (fun p => True) 9 (bs 14 1543) (fun p j hp => ?_) (fun st9 => ?_)
  ·obtain ⟨bx, bg, bi, _⟩ := p
   obtain _ := hp
   try dsimp only
   refine J.wfin [(3, .e), (4, .e), (5, .q), (6, .q), (7, .q), (8, .q), (11, .e), (12, .e), (13, .q)] (by kernel_rfl) ?_
   refine run ?_
   refine J.call rfl rfl (cB bx K0) fun z hz => ?_
   refine run ?_
   refine J.call rfl rfl (cU q1 z K0 hk1 hq1 hm1 hz) fun q hq => ?_
   refine run ?_
   refine run ?_
   refine run ?_
   refine J.front (.blk bg (grC q) 25) ?_
   refine J.front (.blk bi (ints .u8 S.gxY) 43) ?_
   exact J.cut (q, bg, bi) ⟨rfl, rfl, rfl, trivial⟩ (by kernel_rfl) hq
  refine J.wst (A := Nat × Nat × Unit) (fun p => [(4, .pointer (some ⟨p.2.1, 0, none⟩)), (23, .agg (grC q1).toArray), (24, .agg (ints .u8 S.gxX).toArray), (25, .slice (some ⟨p.1, 0, none⟩) 1 1)]) [] (fun p => [.blk p.2.1 [.slice none 0 0, .slice none 0 0] 25, .wown 43 .u8 32 (some ⟨p.1, 0, none⟩) 1 1 S.gxX, .blk b2 (ints .u8 S.gxX) 43, .blk b1 (grC q1) 25, .gown opC 11 54 q1.oa q1.n q1.oc q1.zs, .all (q1.zs.map (opE 43)), .wown 43 .u8 32 q1.ia q1.m q1.ic q1.ids]) (fun p => True) 10 (bs 14 519) (fun p j hp => ?_) (fun st10 => ?_)
  ·obtain ⟨bx, bg, _⟩ := p
   obtain _ := hp
   try dsimp only
   refine J.wnode [] [3, 10] 9 (bs 14 519) (by kernel_rfl) ?_
   refine run ?_
   refine J.nil ?_
   refine J.wbr ?_ ?_
   ·refine J.call rfl rfl (cB bx K0) fun z hz => ?_
    refine J.nil ?_
    refine J.front (.wrow .u8 32 z.1 1 S.gxX) ?_
    refine J.front (.blk bg [.slice none 0 0, .slice none 0 0] 25) ?_
    exact st5 (z, bg, ()) _ _ _ ⟨rfl, rfl, rfl, rfl, trivial⟩ (by kernel_rfl) (by kernel_rfl) ⟨hz, trivial⟩ inferInstance
   refine J.wbr ?_ ?_
   ·refine J.alloc rfl fun bi => ?_
    refine J.nil ?_
    refine J.front (.wown 43 .u8 32 (some ⟨bx, 0, none⟩) 1 1 S.gxX) ?_
    refine J.front (.blk bi (ints .u8 (List.replicate 32 0)) 43) ?_
    refine J.front (.blk bg [.slice none 0 0, .slice none 0 0] 25) ?_
    exact st9 (bx, bg, bi, ()) _ _ _ ⟨rfl, rfl, rfl, rfl, rfl, trivial⟩ (by kernel_rfl) (by kernel_rfl) trivial inferInstance
   exact J.wbr0
  refine J.wst (A := Nat × Nat × Unit) (fun p => [(5, .pointer (some ⟨p.2.1, 0, none⟩)), (23, .agg (grC q1).toArray), (24, .agg (ints .u8 S.gxX).toArray), (25, .slice (some ⟨p.1, 0, none⟩) 1 1)]) [] (fun p => [.blk p.2.1 (ints .u8 (List.replicate 32 0)) 43, .wown 43 .u8 32 (some ⟨p.1, 0, none⟩) 1 1 S.gxX, .blk b2 (ints .u8 S.gxX) 43, .blk b1 (grC q1) 25, .gown opC 11 54 q1.oa q1.n q1.oc q1.zs, .all (q1.zs.map (opE 43)), .wown 43 .u8 32 q1.ia q1.m q1.ic q1.ids]) (fun p => True) 10 (bs 14 1031) (fun p j hp => ?_) (fun st11 => ?_)
  ·obtain ⟨bx, bi, _⟩ := p
   obtain _ := hp
   try dsimp only
   refine J.wnode [] [3, 9] 9 (bs 14 1031) (by kernel_rfl) ?_
   refine run ?_
   refine J.nil ?_
   refine J.wbr ?_ ?_
   ·refine J.call rfl rfl (cB bx K0) fun z hz => ?_
    refine J.nil ?_
    refine J.front (.wrow .u8 32 z.1 1 S.gxX) ?_
    refine J.front (.blk bi (ints .u8 (List.replicate 32 0)) 43) ?_
    exact st7 (z, bi, ()) _ _ _ ⟨rfl, rfl, rfl, rfl, trivial⟩ (by kernel_rfl) (by kernel_rfl) ⟨hz, trivial⟩ inferInstance
   refine J.wbr ?_ ?_
   ·refine J.alloc rfl fun bg => ?_
    refine J.nil ?_
    exact st9 (bx, bg, bi, ()) _ _ _ ⟨rfl, rfl, rfl, rfl, rfl, trivial⟩ (by kernel_rfl) (by kernel_rfl) trivial inferInstance
   exact J.wbr0
  refine J.wst (A := Nat × Unit) (fun p => [(23, .agg (grC q1).toArray), (24, .agg (ints .u8 S.gxX).toArray), (25, .slice (some ⟨p.1, 0, none⟩) 1 1)]) [] (fun p => [.wown 43 .u8 32 (some ⟨p.1, 0, none⟩) 1 1 S.gxX, .blk b2 (ints .u8 S.gxX) 43, .blk b1 (grC q1) 25, .gown opC 11 54 q1.oa q1.n q1.oc q1.zs, .all (q1.zs.map (opE 43)), .wown 43 .u8 32 q1.ia q1.m q1.ic q1.ids]) (fun p => True) 11 (bs 14 7) (fun p j hp => ?_) (fun st12 => ?_)
  ·obtain ⟨bx, _⟩ := p
   obtain _ := hp
   try dsimp only
   refine J.wnode [] [3, 9, 10] 10 (bs 14 7) (by kernel_rfl) ?_
   refine run ?_
   refine J.nil ?_
   refine J.wbr ?_ ?_
   ·refine J.call rfl rfl (cB bx K0) fun z hz => ?_
    refine J.nil ?_
    exact st8 (z, ()) _ _ _ ⟨rfl, rfl, rfl, trivial⟩ (by kernel_rfl) (by kernel_rfl) ⟨hz, trivial⟩ inferInstance
   refine J.wbr ?_ ?_
   ·refine J.alloc rfl fun bg => ?_
    refine J.nil ?_
    exact st10 (bx, bg, ()) _ _ _ ⟨rfl, rfl, rfl, rfl, trivial⟩ (by kernel_rfl) (by kernel_rfl) trivial inferInstance
   refine J.wbr ?_ ?_
   ·refine J.alloc rfl fun bi => ?_
    refine J.nil ?_
    exact st11 (bx, bi, ()) _ _ _ ⟨rfl, rfl, rfl, rfl, trivial⟩ (by kernel_rfl) (by kernel_rfl) trivial inferInstance
   exact J.wbr0
  refine J.wst (A := Nat × Nat × Unit) (fun p => [(4, .pointer (some ⟨p.1, 0, none⟩)), (5, .pointer (some ⟨p.2.1, 0, none⟩)), (23, .agg (grC q1).toArray), (24, .agg (ints .u8 S.gxX).toArray)]) [] (fun p => [.blk p.1 [.slice none 0 0, .slice none 0 0] 25, .blk p.2.1 (ints .u8 (List.replicate 32 0)) 43, .blk b2 (ints .u8 S.gxX) 43, .blk b1 (grC q1) 25, .gown opC 11 54 q1.oa q1.n q1.oc q1.zs, .all (q1.zs.map (opE 43)), .wown 43 .u8 32 q1.ia q1.m q1.ic q1.ids]) (fun p => True) 10 (bs 14 1539) (fun p j hp => ?_) (fun st13 => ?_)
  ·obtain ⟨bg, bi, _⟩ := p
   obtain _ := hp
   try dsimp only
   refine J.wfin [(2, .e), (3, .e), (4, .e), (5, .q), (6, .q), (7, .q), (8, .q), (11, .e), (12, .e), (13, .q)] (by kernel_rfl) ?_
   refine run ?_
   refine J.b1W rfl rfl hX fun bx => ?_
   refine run ?_
   refine J.call rfl rfl (cB bx K0) fun z hz => ?_
   refine run ?_
   refine J.call rfl rfl (cU q1 z K0 hk1 hq1 hm1 hz) fun q hq => ?_
   refine run ?_
   refine run ?_
   refine run ?_
   refine J.front (.blk bg (grC q) 25) ?_
   refine J.front (.blk bi (ints .u8 S.gxY) 43) ?_
   exact J.cut (q, bg, bi) ⟨rfl, rfl, rfl, trivial⟩ (by kernel_rfl) hq
  refine J.wst (A := Nat × Unit) (fun p => [(4, .pointer (some ⟨p.1, 0, none⟩)), (23, .agg (grC q1).toArray), (24, .agg (ints .u8 S.gxX).toArray)]) [] (fun p => [.blk p.1 [.slice none 0 0, .slice none 0 0] 25, .blk b2 (ints .u8 S.gxX) 43, .blk b1 (grC q1) 25, .gown opC 11 54 q1.oa q1.n q1.oc q1.zs, .all (q1.zs.map (opE 43)), .wown 43 .u8 32 q1.ia q1.m q1.ic q1.ids]) (fun p => True) 11 (bs 14 515) (fun p j hp => ?_) (fun st14 => ?_)
  ·obtain ⟨bg, _⟩ := p
   obtain _ := hp
   try dsimp only
   refine J.wnode [] [2, 10] 10 (bs 14 515) (by kernel_rfl) ?_
   refine run ?_
   refine J.nil ?_
   refine J.wbr ?_ ?_
   ·refine J.b1W rfl rfl hX fun bx => ?_
    refine J.nil ?_
    refine J.front (.wown 43 .u8 32 (some ⟨bx, 0, none⟩) 1 1 S.gxX) ?_
    refine J.front (.blk bg [.slice none 0 0, .slice none 0 0] 25) ?_
    exact st10 (bx, bg, ()) _ _ _ ⟨rfl, rfl, rfl, rfl, trivial⟩ (by kernel_rfl) (by kernel_rfl) trivial inferInstance
   refine J.wbr ?_ ?_
   ·refine J.alloc rfl fun bi => ?_
    refine J.nil ?_
    refine J.front (.blk bi (ints .u8 (List.replicate 32 0)) 43) ?_
    refine J.front (.blk bg [.slice none 0 0, .slice none 0 0] 25) ?_
    exact st13 (bg, bi, ()) _ _ _ ⟨rfl, rfl, rfl, rfl, trivial⟩ (by kernel_rfl) (by kernel_rfl) trivial inferInstance
   exact J.wbr0
  refine J.wst (A := Nat × Unit) (fun p => [(5, .pointer (some ⟨p.1, 0, none⟩)), (23, .agg (grC q1).toArray), (24, .agg (ints .u8 S.gxX).toArray)]) [] (fun p => [.blk p.1 (ints .u8 (List.replicate 32 0)) 43, .blk b2 (ints .u8 S.gxX) 43, .blk b1 (grC q1) 25, .gown opC 11 54 q1.oa q1.n q1.oc q1.zs, .all (q1.zs.map (opE 43)), .wown 43 .u8 32 q1.ia q1.m q1.ic q1.ids]) (fun p => True) 11 (bs 14 1027) (fun p j hp => ?_) (fun st15 => ?_)
  ·obtain ⟨bi, _⟩ := p
   obtain _ := hp
   try dsimp only
   refine J.wnode [] [2, 9] 10 (bs 14 1027) (by kernel_rfl) ?_
   refine run ?_
   refine J.nil ?_
   refine J.wbr ?_ ?_
   ·refine J.b1W rfl rfl hX fun bx => ?_
    refine J.nil ?_
    refine J.front (.wown 43 .u8 32 (some ⟨bx, 0, none⟩) 1 1 S.gxX) ?_
    refine J.front (.blk bi (ints .u8 (List.replicate 32 0)) 43) ?_
    exact st11 (bx, bi, ()) _ _ _ ⟨rfl, rfl, rfl, rfl, trivial⟩ (by kernel_rfl) (by kernel_rfl) trivial inferInstance
   refine J.wbr ?_ ?_
   ·refine J.alloc rfl fun bg => ?_
    refine J.nil ?_
    exact st13 (bg, bi, ()) _ _ _ ⟨rfl, rfl, rfl, rfl, trivial⟩ (by kernel_rfl) (by kernel_rfl) trivial inferInstance
   exact J.wbr0
  refine J.wnode [(0, .q), (1, .q)] [2, 9, 10] 11 (bs 14 3) (by kernel_rfl) ?_
  refine run ?_
  refine J.nil ?_
  refine J.wbr ?_ ?_
  ·refine J.b1W rfl rfl hX fun bx => ?_
   refine J.nil ?_
   exact st12 (bx, ()) _ _ _ ⟨rfl, rfl, rfl, trivial⟩ (by kernel_rfl) (by kernel_rfl) trivial inferInstance
  refine J.wbr ?_ ?_
  ·refine J.alloc rfl fun bg => ?_
   refine J.nil ?_
   exact st14 (bg, ()) _ _ _ ⟨rfl, rfl, rfl, trivial⟩ (by kernel_rfl) (by kernel_rfl) trivial inferInstance
  refine J.wbr ?_ ?_
  ·refine J.alloc rfl fun bi => ?_
   refine J.nil ?_
   exact st15 (bi, ()) _ _ _ ⟨rfl, rfl, rfl, trivial⟩ (by kernel_rfl) (by kernel_rfl) trivial inferInstance
  exact J.wbr0
 obtain ⟨q2, b4, b5⟩ := u
 dsimp only at hu ⊢
 have hk2 := hu.ok o2
 have hm2 := hu.sz s2
 refine run ?_
 obtain ⟨e0, h0⟩ := ex (Ent.blk b5 (ints .u8 S.gxY) 43)
 obtain ⟨e1, h1⟩ := ex (Ent.blk b4 (grC q2) 25)
 obtain ⟨e2, h2⟩ := ex (Ent.gown opC 11 54 q2.oa q2.n q2.oc q2.zs)
 obtain ⟨e3, h3⟩ := ex (Ent.all (q2.zs.map (opE 43)))
 obtain ⟨e4, h4⟩ := ex (Ent.wown 43 .u8 32 q2.ia q2.m q2.ic q2.ids)
 rw [← h0, ← h1, ← h2, ← h3, ← h4]
 refine J.joinX (A := Unit) (fun u => [(9, .int .i64 40)]) [7, 8, 31, 32, 33, 34, 35, 36, 37, 38, 39] (fun _ => [e0, e1, e2, e3, e4, .blk b2 (ints .u8 S.gxX) 43, .blk b1 (grC q1) 25]) (fun _ => True) ?_ (fun _ j3 _ => ?_)
 ·refine J.regionW [.blk b2 (ints .u8 S.gxX) 43, .blk b1 (grC q1) 25] mixed ?_
  refine J.wst (A := GrA × Nat × Unit) (fun p => [(7, .pointer (some ⟨p.2.1, 0, none⟩)), (32, .agg #[.slice none 0 0, .slice none 0 0]), (33, .agg (ints .u8 S.gxX).toArray), (36, .tuple #[.agg (grC p.1).toArray, .agg (ints .u8 (List.replicate 32 0)).toArray, .int .i64 40]), (37, .agg (grC p.1).toArray), (38, .agg (ints .u8 (List.replicate 32 0)).toArray), (39, .int .i64 40)]) [31, 34, 35] (fun p => [.blk p.2.1 [.slice none 0 0, .slice none 0 0] 25, e0, e1, e2, e3, e4, .blk b2 (ints .u8 S.gxX) 43, .blk b1 (grC q1) 25]) (fun p => True) 4 (bs 14 1023) (fun p j hp => ?_) (fun st0 => ?_)
  ·obtain ⟨q, bg, _⟩ := p
   obtain _ := hp
   try dsimp only
   refine J.wfin [(10, .e), (11, .e), (12, .e), (13, .q)] (by kernel_rfl) ?_
   refine run ?_
   refine J.alloc rfl fun bi => ?_
   refine run ?_
   refine run ?_
   refine run ?_
   exact J.cut () ⟨rfl, trivial⟩ (by kernel_rfl) trivial
  refine J.wst (A := GrA × Nat × Unit) (fun p => [(8, .pointer (some ⟨p.2.1, 0, none⟩)), (32, .agg #[.slice none 0 0, .slice none 0 0]), (33, .agg (ints .u8 S.gxX).toArray), (36, .tuple #[.agg (grC p.1).toArray, .agg (ints .u8 (List.replicate 32 0)).toArray, .int .i64 40]), (37, .agg (grC p.1).toArray), (38, .agg (ints .u8 (List.replicate 32 0)).toArray), (39, .int .i64 40)]) [31, 34, 35] (fun p => [.blk p.2.1 (ints .u8 (List.replicate 32 0)) 43, e0, e1, e2, e3, e4, .blk b2 (ints .u8 S.gxX) 43, .blk b1 (grC q1) 25]) (fun p => True) 4 (bs 14 1535) (fun p j hp => ?_) (fun st1 => ?_)
  ·obtain ⟨q, bi, _⟩ := p
   obtain _ := hp
   try dsimp only
   refine J.wfin [(9, .e), (11, .e), (12, .e), (13, .q)] (by kernel_rfl) ?_
   refine run ?_
   refine J.alloc rfl fun bg => ?_
   refine run ?_
   refine run ?_
   refine run ?_
   exact J.cut () ⟨rfl, trivial⟩ (by kernel_rfl) trivial
  refine J.wst (A := GrA × Unit) (fun p => [(32, .agg #[.slice none 0 0, .slice none 0 0]), (33, .agg (ints .u8 S.gxX).toArray), (36, .tuple #[.agg (grC p.1).toArray, .agg (ints .u8 (List.replicate 32 0)).toArray, .int .i64 40])]) [34, 35] (fun p => [e0, e1, e2, e3, e4, .blk b2 (ints .u8 S.gxX) 43, .blk b1 (grC q1) 25]) (fun p => True) 9 (bs 14 31) (fun p j hp => ?_) (fun st2 => ?_)
  ·obtain ⟨q, _⟩ := p
   obtain _ := hp
   try dsimp only
   refine J.wnode [(5, .q), (6, .q), (7, .q), (8, .q)] [9, 10] 4 (bs 14 511) (by kernel_rfl) ?_
   refine run ?_
   refine J.nil ?_
   refine J.wbr ?_ ?_
   ·refine J.alloc rfl fun bg => ?_
    refine J.nil ?_
    exact st0 (q, bg, ()) _ _ _ ⟨rfl, rfl, rfl, rfl, rfl, rfl, rfl, trivial⟩ (by kernel_rfl) (by kernel_rfl) trivial inferInstance
   refine J.wbr ?_ ?_
   ·refine J.alloc rfl fun bi => ?_
    refine J.nil ?_
    exact st1 (q, bi, ()) _ _ _ ⟨rfl, rfl, rfl, rfl, rfl, rfl, rfl, trivial⟩ (by kernel_rfl) (by kernel_rfl) trivial inferInstance
   exact J.wbr0
  refine J.wst (A := GrA × Nat × Unit) (fun p => [(7, .pointer (some ⟨p.2.1, 0, none⟩)), (32, .agg #[.slice none 0 0, .slice none 0 0]), (33, .agg (ints .u8 S.gxX).toArray), (36, .tuple #[.agg (grC p.1).toArray, .agg (ints .u8 (List.replicate 32 0)).toArray, .int .i64 40])]) [34, 35] (fun p => [.blk p.2.1 [.slice none 0 0, .slice none 0 0] 25, e0, e1, e2, e3, e4, .blk b2 (ints .u8 S.gxX) 43, .blk b1 (grC q1) 25]) (fun p => True) 8 (bs 14 543) (fun p j hp => ?_) (fun st3 => ?_)
  ·obtain ⟨q, bg, _⟩ := p
   obtain _ := hp
   try dsimp only
   refine J.wfin [(5, .q), (6, .q), (7, .q), (8, .q), (10, .e), (11, .e), (12, .e), (13, .q)] (by kernel_rfl) ?_
   refine run ?_
   refine J.alloc rfl fun bi => ?_
   refine run ?_
   refine run ?_
   refine run ?_
   exact J.cut () ⟨rfl, trivial⟩ (by kernel_rfl) trivial
  refine J.wst (A := (Option Addr × Nat) × Nat × Nat × Unit) (fun p => [(7, .pointer (some ⟨p.2.1, 0, none⟩)), (8, .pointer (some ⟨p.2.2.1, 0, none⟩)), (32, .agg #[.slice none 0 0, .slice none 0 0]), (33, .agg (ints .u8 S.gxX).toArray), (35, .agg (opC ⟨S.gxU, p.1.1, p.1.2⟩).toArray)]) [34] (fun p => [.blk p.2.1 [.slice none 0 0, .slice none 0 0] 25, .blk p.2.2.1 (ints .u8 (List.replicate 32 0)) 43, .wrow .u8 32 p.1.1 1 S.gxX, e0, e1, e2, e3, e4, .blk b2 (ints .u8 S.gxX) 43, .blk b1 (grC q1) 25]) (fun p => 1 ≤ p.1.2 ∧ True) 8 (bs 14 1551) (fun p j hp => ?_) (fun st4 => ?_)
  ·obtain ⟨z, bg, bi, _⟩ := p
   obtain ⟨hz, _⟩ := hp
   try dsimp only
   try dsimp only at hz
   refine J.wfin [(4, .e), (5, .q), (6, .q), (7, .q), (8, .q), (11, .e), (12, .e), (13, .q)] (by kernel_rfl) ?_
   refine run ?_
   refine J.call rfl rfl (cN z K0 hz) fun q hq => ?_
   refine run ?_
   refine run ?_
   refine run ?_
   exact J.cut () ⟨rfl, trivial⟩ (by kernel_rfl) trivial
  refine J.wst (A := (Option Addr × Nat) × Nat × Unit) (fun p => [(7, .pointer (some ⟨p.2.1, 0, none⟩)), (32, .agg #[.slice none 0 0, .slice none 0 0]), (33, .agg (ints .u8 S.gxX).toArray), (35, .agg (opC ⟨S.gxU, p.1.1, p.1.2⟩).toArray)]) [34] (fun p => [.blk p.2.1 [.slice none 0 0, .slice none 0 0] 25, .wrow .u8 32 p.1.1 1 S.gxX, e0, e1, e2, e3, e4, .blk b2 (ints .u8 S.gxX) 43, .blk b1 (grC q1) 25]) (fun p => 1 ≤ p.1.2 ∧ True) 9 (bs 14 527) (fun p j hp => ?_) (fun st5 => ?_)
  ·obtain ⟨z, bg, _⟩ := p
   obtain ⟨hz, _⟩ := hp
   try dsimp only
   try dsimp only at hz
   refine J.wnode [] [4, 10] 8 (bs 14 527) (by kernel_rfl) ?_
   refine run ?_
   refine J.nil ?_
   refine J.wbr ?_ ?_
   ·refine J.call rfl rfl (cN z K0 hz) fun q hq => ?_
    refine J.nil ?_
    exact st3 (q, bg, ()) _ _ _ ⟨rfl, rfl, rfl, rfl, trivial⟩ (by kernel_rfl) (by kernel_rfl) trivial inferInstance
   refine J.wbr ?_ ?_
   ·refine J.alloc rfl fun bi => ?_
    refine J.nil ?_
    refine J.front (.wrow .u8 32 z.1 1 S.gxX) ?_
    refine J.front (.blk bi (ints .u8 (List.replicate 32 0)) 43) ?_
    refine J.front (.blk bg [.slice none 0 0, .slice none 0 0] 25) ?_
    exact st4 (z, bg, bi, ()) _ _ _ ⟨rfl, rfl, rfl, rfl, rfl, trivial⟩ (by kernel_rfl) (by kernel_rfl) ⟨hz, trivial⟩ inferInstance
   exact J.wbr0
  refine J.wst (A := GrA × Nat × Unit) (fun p => [(8, .pointer (some ⟨p.2.1, 0, none⟩)), (32, .agg #[.slice none 0 0, .slice none 0 0]), (33, .agg (ints .u8 S.gxX).toArray), (36, .tuple #[.agg (grC p.1).toArray, .agg (ints .u8 (List.replicate 32 0)).toArray, .int .i64 40])]) [34, 35] (fun p => [.blk p.2.1 (ints .u8 (List.replicate 32 0)) 43, e0, e1, e2, e3, e4, .blk b2 (ints .u8 S.gxX) 43, .blk b1 (grC q1) 25]) (fun p => True) 8 (bs 14 1055) (fun p j hp => ?_) (fun st6 => ?_)
  ·obtain ⟨q, bi, _⟩ := p
   obtain _ := hp
   try dsimp only
   refine J.wfin [(5, .q), (6, .q), (7, .q), (8, .q), (9, .e), (11, .e), (12, .e), (13, .q)] (by kernel_rfl) ?_
   refine run ?_
   refine J.alloc rfl fun bg => ?_
   refine run ?_
   refine run ?_
   refine run ?_
   exact J.cut () ⟨rfl, trivial⟩ (by kernel_rfl) trivial
  refine J.wst (A := (Option Addr × Nat) × Nat × Unit) (fun p => [(8, .pointer (some ⟨p.2.1, 0, none⟩)), (32, .agg #[.slice none 0 0, .slice none 0 0]), (33, .agg (ints .u8 S.gxX).toArray), (35, .agg (opC ⟨S.gxU, p.1.1, p.1.2⟩).toArray)]) [34] (fun p => [.blk p.2.1 (ints .u8 (List.replicate 32 0)) 43, .wrow .u8 32 p.1.1 1 S.gxX, e0, e1, e2, e3, e4, .blk b2 (ints .u8 S.gxX) 43, .blk b1 (grC q1) 25]) (fun p => 1 ≤ p.1.2 ∧ True) 9 (bs 14 1039) (fun p j hp => ?_) (fun st7 => ?_)
  ·obtain ⟨z, bi, _⟩ := p
   obtain ⟨hz, _⟩ := hp
   try dsimp only
   try dsimp only at hz
   refine J.wnode [] [4, 9] 8 (bs 14 1039) (by kernel_rfl) ?_
   refine run ?_
   refine J.nil ?_
   refine J.wbr ?_ ?_
   ·refine J.call rfl rfl (cN z K0 hz) fun q hq => ?_
    refine J.nil ?_
    exact st6 (q, bi, ()) _ _ _ ⟨rfl, rfl, rfl, rfl, trivial⟩ (by kernel_rfl) (by kernel_rfl) trivial inferInstance
   refine J.wbr ?_ ?_
   ·refine J.alloc rfl fun bg => ?_
    refine J.nil ?_
    exact st4 (z, bg, bi, ()) _ _ _ ⟨rfl, rfl, rfl, rfl, rfl, trivial⟩ (by kernel_rfl) (by kernel_rfl) ⟨hz, trivial⟩ inferInstance
   exact J.wbr0
  refine J.wst (A := (Option Addr × Nat) × Unit) (fun p => [(32, .agg #[.slice none 0 0, .slice none 0 0]), (33, .agg (ints .u8 S.gxX).toArray), (35, .agg (opC ⟨S.gxU, p.1.1, p.1.2⟩).toArray)]) [34] (fun p => [.wrow .u8 32 p.1.1 1 S.gxX, e0, e1, e2, e3, e4, .blk b2 (ints .u8 S.gxX) 43, .blk b1 (grC q1) 25]) (fun p => 1 ≤ p.1.2 ∧ True) 10 (bs 14 15) (fun p j hp => ?_) (fun st8 => ?_)
  ·obtain ⟨z, _⟩ := p
   obtain ⟨hz, _⟩ := hp
   try dsimp only
   try dsimp only at hz
   refine J.wnode [] [4, 9, 10] 9 (bs 14 15) (by kernel_rfl) ?_
   refine run ?_
   refine J.nil ?_
   refine J.wbr ?_ ?_
   ·refine J.call rfl rfl (cN z K0 hz) fun q hq => ?_
    refine J.nil ?_
    exact st2 (q, ()) _ _ _ ⟨rfl, rfl, rfl, trivial⟩ (by kernel_rfl) (by kernel_rfl) trivial inferInstance
   refine J.wbr ?_ ?_
   ·refine J.alloc rfl fun bg => ?_
    refine J.nil ?_
    exact st5 (z, bg, ()) _ _ _ ⟨rfl, rfl, rfl, rfl, trivial⟩ (by kernel_rfl) (by kernel_rfl) ⟨hz, trivial⟩ inferInstance
   refine J.wbr ?_ ?_
   ·refine J.alloc rfl fun bi => ?_
    refine J.nil ?_
    exact st7 (z, bi, ()) _ _ _ ⟨rfl, rfl, rfl, rfl, trivial⟩ (by kernel_rfl) (by kernel_rfl) ⟨hz, trivial⟩ inferInstance
   exact J.wbr0
  refine J.wst (A := Nat × Nat × Nat × Unit) (fun p => [(7, .pointer (some ⟨p.2.1, 0, none⟩)), (8, .pointer (some ⟨p.2.2.1, 0, none⟩)), (32, .agg #[.slice none 0 0, .slice none 0 0]), (33, .agg (ints .u8 S.gxX).toArray), (34, .slice (some ⟨p.1, 0, none⟩) 1 1)]) [] (fun p => [.blk p.2.1 [.slice none 0 0, .slice none 0 0] 25, .blk p.2.2.1 (ints .u8 (List.replicate 32 0)) 43, .wown 43 .u8 32 (some ⟨p.1, 0, none⟩) 1 1 S.gxX, e0, e1, e2, e3, e4, .blk b2 (ints .u8 S.gxX) 43, .blk b1 (grC q1) 25]) (fun p => True) 9 (bs 14 1543) (fun p j hp => ?_) (fun st9 => ?_)
  ·obtain ⟨bx, bg, bi, _⟩ := p
   obtain _ := hp
   try dsimp only
   refine J.wfin [(3, .e), (4, .e), (5, .q), (6, .q), (7, .q), (8, .q), (11, .e), (12, .e), (13, .q)] (by kernel_rfl) ?_
   refine run ?_
   refine J.call rfl rfl (cB bx K0) fun z hz => ?_
   refine run ?_
   refine J.call rfl rfl (cN z K0 hz) fun q hq => ?_
   refine run ?_
   refine run ?_
   refine run ?_
   exact J.cut () ⟨rfl, trivial⟩ (by kernel_rfl) trivial
  refine J.wst (A := Nat × Nat × Unit) (fun p => [(7, .pointer (some ⟨p.2.1, 0, none⟩)), (32, .agg #[.slice none 0 0, .slice none 0 0]), (33, .agg (ints .u8 S.gxX).toArray), (34, .slice (some ⟨p.1, 0, none⟩) 1 1)]) [] (fun p => [.blk p.2.1 [.slice none 0 0, .slice none 0 0] 25, .wown 43 .u8 32 (some ⟨p.1, 0, none⟩) 1 1 S.gxX, e0, e1, e2, e3, e4, .blk b2 (ints .u8 S.gxX) 43, .blk b1 (grC q1) 25]) (fun p => True) 10 (bs 14 519) (fun p j hp => ?_) (fun st10 => ?_)
  ·obtain ⟨bx, bg, _⟩ := p
   obtain _ := hp
   try dsimp only
   refine J.wnode [] [3, 10] 9 (bs 14 519) (by kernel_rfl) ?_
   refine run ?_
   refine J.nil ?_
   refine J.wbr ?_ ?_
   ·refine J.call rfl rfl (cB bx K0) fun z hz => ?_
    refine J.nil ?_
    refine J.front (.wrow .u8 32 z.1 1 S.gxX) ?_
    refine J.front (.blk bg [.slice none 0 0, .slice none 0 0] 25) ?_
    exact st5 (z, bg, ()) _ _ _ ⟨rfl, rfl, rfl, rfl, trivial⟩ (by kernel_rfl) (by kernel_rfl) ⟨hz, trivial⟩ inferInstance
   refine J.wbr ?_ ?_
   ·refine J.alloc rfl fun bi => ?_
    refine J.nil ?_
    refine J.front (.wown 43 .u8 32 (some ⟨bx, 0, none⟩) 1 1 S.gxX) ?_
    refine J.front (.blk bi (ints .u8 (List.replicate 32 0)) 43) ?_
    refine J.front (.blk bg [.slice none 0 0, .slice none 0 0] 25) ?_
    exact st9 (bx, bg, bi, ()) _ _ _ ⟨rfl, rfl, rfl, rfl, rfl, trivial⟩ (by kernel_rfl) (by kernel_rfl) trivial inferInstance
   exact J.wbr0
  refine J.wst (A := Nat × Nat × Unit) (fun p => [(8, .pointer (some ⟨p.2.1, 0, none⟩)), (32, .agg #[.slice none 0 0, .slice none 0 0]), (33, .agg (ints .u8 S.gxX).toArray), (34, .slice (some ⟨p.1, 0, none⟩) 1 1)]) [] (fun p => [.blk p.2.1 (ints .u8 (List.replicate 32 0)) 43, .wown 43 .u8 32 (some ⟨p.1, 0, none⟩) 1 1 S.gxX, e0, e1, e2, e3, e4, .blk b2 (ints .u8 S.gxX) 43, .blk b1 (grC q1) 25]) (fun p => True) 10 (bs 14 1031) (fun p j hp => ?_) (fun st11 => ?_)
  ·obtain ⟨bx, bi, _⟩ := p
   obtain _ := hp
   try dsimp only
   refine J.wnode [] [3, 9] 9 (bs 14 1031) (by kernel_rfl) ?_
   refine run ?_
   refine J.nil ?_
   refine J.wbr ?_ ?_
   ·refine J.call rfl rfl (cB bx K0) fun z hz => ?_
    refine J.nil ?_
    refine J.front (.wrow .u8 32 z.1 1 S.gxX) ?_
    refine J.front (.blk bi (ints .u8 (List.replicate 32 0)) 43) ?_
    exact st7 (z, bi, ()) _ _ _ ⟨rfl, rfl, rfl, rfl, trivial⟩ (by kernel_rfl) (by kernel_rfl) ⟨hz, trivial⟩ inferInstance
   refine J.wbr ?_ ?_
   ·refine J.alloc rfl fun bg => ?_
    refine J.nil ?_
    exact st9 (bx, bg, bi, ()) _ _ _ ⟨rfl, rfl, rfl, rfl, rfl, trivial⟩ (by kernel_rfl) (by kernel_rfl) trivial inferInstance
   exact J.wbr0
  refine J.wst (A := Nat × Unit) (fun p => [(32, .agg #[.slice none 0 0, .slice none 0 0]), (33, .agg (ints .u8 S.gxX).toArray), (34, .slice (some ⟨p.1, 0, none⟩) 1 1)]) [] (fun p => [.wown 43 .u8 32 (some ⟨p.1, 0, none⟩) 1 1 S.gxX, e0, e1, e2, e3, e4, .blk b2 (ints .u8 S.gxX) 43, .blk b1 (grC q1) 25]) (fun p => True) 11 (bs 14 7) (fun p j hp => ?_) (fun st12 => ?_)
  ·obtain ⟨bx, _⟩ := p
   obtain _ := hp
   try dsimp only
   refine J.wnode [] [3, 9, 10] 10 (bs 14 7) (by kernel_rfl) ?_
   refine run ?_
   refine J.nil ?_
   refine J.wbr ?_ ?_
   ·refine J.call rfl rfl (cB bx K0) fun z hz => ?_
    refine J.nil ?_
    exact st8 (z, ()) _ _ _ ⟨rfl, rfl, rfl, trivial⟩ (by kernel_rfl) (by kernel_rfl) ⟨hz, trivial⟩ inferInstance
   refine J.wbr ?_ ?_
   ·refine J.alloc rfl fun bg => ?_
    refine J.nil ?_
    exact st10 (bx, bg, ()) _ _ _ ⟨rfl, rfl, rfl, rfl, trivial⟩ (by kernel_rfl) (by kernel_rfl) trivial inferInstance
   refine J.wbr ?_ ?_
   ·refine J.alloc rfl fun bi => ?_
    refine J.nil ?_
    exact st11 (bx, bi, ()) _ _ _ ⟨rfl, rfl, rfl, rfl, trivial⟩ (by kernel_rfl) (by kernel_rfl) trivial inferInstance
   exact J.wbr0
  refine J.wst (A := Nat × Nat × Unit) (fun p => [(7, .pointer (some ⟨p.1, 0, none⟩)), (8, .pointer (some ⟨p.2.1, 0, none⟩)), (32, .agg #[.slice none 0 0, .slice none 0 0]), (33, .agg (ints .u8 S.gxX).toArray)]) [] (fun p => [.blk p.1 [.slice none 0 0, .slice none 0 0] 25, .blk p.2.1 (ints .u8 (List.replicate 32 0)) 43, e0, e1, e2, e3, e4, .blk b2 (ints .u8 S.gxX) 43, .blk b1 (grC q1) 25]) (fun p => True) 10 (bs 14 1539) (fun p j hp => ?_) (fun st13 => ?_)
  ·obtain ⟨bg, bi, _⟩ := p
   obtain _ := hp
   try dsimp only
   refine J.wfin [(2, .e), (3, .e), (4, .e), (5, .q), (6, .q), (7, .q), (8, .q), (11, .e), (12, .e), (13, .q)] (by kernel_rfl) ?_
   refine run ?_
   refine J.b1W rfl rfl hX fun bx => ?_
   refine run ?_
   refine J.call rfl rfl (cB bx K0) fun z hz => ?_
   refine run ?_
   refine J.call rfl rfl (cN z K0 hz) fun q hq => ?_
   refine run ?_
   refine run ?_
   refine run ?_
   exact J.cut () ⟨rfl, trivial⟩ (by kernel_rfl) trivial
  refine J.wst (A := Nat × Unit) (fun p => [(7, .pointer (some ⟨p.1, 0, none⟩)), (32, .agg #[.slice none 0 0, .slice none 0 0]), (33, .agg (ints .u8 S.gxX).toArray)]) [] (fun p => [.blk p.1 [.slice none 0 0, .slice none 0 0] 25, e0, e1, e2, e3, e4, .blk b2 (ints .u8 S.gxX) 43, .blk b1 (grC q1) 25]) (fun p => True) 11 (bs 14 515) (fun p j hp => ?_) (fun st14 => ?_)
  ·obtain ⟨bg, _⟩ := p
   obtain _ := hp
   try dsimp only
   refine J.wnode [] [2, 10] 10 (bs 14 515) (by kernel_rfl) ?_
   refine run ?_
   refine J.nil ?_
   refine J.wbr ?_ ?_
   ·refine J.b1W rfl rfl hX fun bx => ?_
    refine J.nil ?_
    refine J.front (.wown 43 .u8 32 (some ⟨bx, 0, none⟩) 1 1 S.gxX) ?_
    refine J.front (.blk bg [.slice none 0 0, .slice none 0 0] 25) ?_
    exact st10 (bx, bg, ()) _ _ _ ⟨rfl, rfl, rfl, rfl, trivial⟩ (by kernel_rfl) (by kernel_rfl) trivial inferInstance
   refine J.wbr ?_ ?_
   ·refine J.alloc rfl fun bi => ?_
    refine J.nil ?_
    refine J.front (.blk bi (ints .u8 (List.replicate 32 0)) 43) ?_
    refine J.front (.blk bg [.slice none 0 0, .slice none 0 0] 25) ?_
    exact st13 (bg, bi, ()) _ _ _ ⟨rfl, rfl, rfl, rfl, trivial⟩ (by kernel_rfl) (by kernel_rfl) trivial inferInstance
   exact J.wbr0
  refine J.wst (A := Nat × Unit) (fun p => [(8, .pointer (some ⟨p.1, 0, none⟩)), (32, .agg #[.slice none 0 0, .slice none 0 0]), (33, .agg (ints .u8 S.gxX).toArray)]) [] (fun p => [.blk p.1 (ints .u8 (List.replicate 32 0)) 43, e0, e1, e2, e3, e4, .blk b2 (ints .u8 S.gxX) 43, .blk b1 (grC q1) 25]) (fun p => True) 11 (bs 14 1027) (fun p j hp => ?_) (fun st15 => ?_)
  ·obtain ⟨bi, _⟩ := p
   obtain _ := hp
   try dsimp only
   refine J.wnode [] [2, 9] 10 (bs 14 1027) (by kernel_rfl) ?_
   refine run ?_
   refine J.nil ?_
   refine J.wbr ?_ ?_
   ·refine J.b1W rfl rfl hX fun bx => ?_
    refine J.nil ?_
    refine J.front (.wown 43 .u8 32 (some ⟨bx, 0, none⟩) 1 1 S.gxX) ?_
    refine J.front (.blk bi (ints .u8 (List.replicate 32 0)) 43) ?_
    exact st11 (bx, bi, ()) _ _ _ ⟨rfl, rfl, rfl, rfl, trivial⟩ (by kernel_rfl) (by kernel_rfl) trivial inferInstance
   refine J.wbr ?_ ?_
   ·refine J.alloc rfl fun bg => ?_
    refine J.nil ?_
    exact st13 (bg, bi, ()) _ _ _ ⟨rfl, rfl, rfl, rfl, trivial⟩ (by kernel_rfl) (by kernel_rfl) trivial inferInstance
   exact J.wbr0
  refine J.wst (A := Unit) (fun p => [(32, .agg #[.slice none 0 0, .slice none 0 0]), (33, .agg (ints .u8 S.gxX).toArray)]) [] (fun p => [e0, e1, e2, e3, e4, .blk b2 (ints .u8 S.gxX) 43, .blk b1 (grC q1) 25]) (fun p => True) 12 (bs 14 3) (fun p j hp => ?_) (fun st16 => ?_)
  ·obtain _ := p
   obtain _ := hp
   try dsimp only
   refine J.wnode [] [2, 9, 10] 11 (bs 14 3) (by kernel_rfl) ?_
   refine run ?_
   refine J.nil ?_
   refine J.wbr ?_ ?_
   ·refine J.b1W rfl rfl hX fun bx => ?_
    refine J.nil ?_
    exact st12 (bx, ()) _ _ _ ⟨rfl, rfl, rfl, trivial⟩ (by kernel_rfl) (by kernel_rfl) trivial inferInstance
   refine J.wbr ?_ ?_
   ·refine J.alloc rfl fun bg => ?_
    refine J.nil ?_
    exact st14 (bg, ()) _ _ _ ⟨rfl, rfl, rfl, trivial⟩ (by kernel_rfl) (by kernel_rfl) trivial inferInstance
   refine J.wbr ?_ ?_
   ·refine J.alloc rfl fun bi => ?_
    refine J.nil ?_
    exact st15 (bi, ()) _ _ _ ⟨rfl, rfl, rfl, trivial⟩ (by kernel_rfl) (by kernel_rfl) trivial inferInstance
   exact J.wbr0
  refine J.wst (A := Nat × Nat × Nat × Unit) (fun p => [(7, .pointer (some ⟨p.2.1, 0, none⟩)), (8, .pointer (some ⟨p.2.2.1, 0, none⟩)), (33, .agg (ints .u8 S.gxX).toArray), (34, .slice (some ⟨p.1, 0, none⟩) 1 1)]) [] (fun p => [.blk p.2.1 [.slice none 0 0, .slice none 0 0] 25, .blk p.2.2.1 (ints .u8 (List.replicate 32 0)) 43, .wown 43 .u8 32 (some ⟨p.1, 0, none⟩) 1 1 S.gxX, e0, e1, e2, e3, e4, .blk b2 (ints .u8 S.gxX) 43, .blk b1 (grC q1) 25]) (fun p => True) 10 (bs 14 1542) (fun p j hp => ?_) (fun st17 => ?_)
  ·obtain ⟨bx, bg, bi, _⟩ := p
   obtain _ := hp
   try dsimp only
   refine J.wfin [(0, .e), (3, .e), (4, .e), (5, .q), (6, .q), (7, .q), (8, .q), (11, .e), (12, .e), (13, .q)] (by kernel_rfl) ?_
   refine run ?_
   refine J.callp rfl rfl (fun w' M => dagNew w') ?_
   refine run ?_
   refine J.call rfl rfl (cB bx K0) fun z hz => ?_
   refine run ?_
   refine J.call rfl rfl (cN z K0 hz) fun q hq => ?_
   refine run ?_
   refine run ?_
   refine run ?_
   exact J.cut () ⟨rfl, trivial⟩ (by kernel_rfl) trivial
  refine J.wst (A := Nat × Nat × Unit) (fun p => [(7, .pointer (some ⟨p.2.1, 0, none⟩)), (33, .agg (ints .u8 S.gxX).toArray), (34, .slice (some ⟨p.1, 0, none⟩) 1 1)]) [] (fun p => [.blk p.2.1 [.slice none 0 0, .slice none 0 0] 25, .wown 43 .u8 32 (some ⟨p.1, 0, none⟩) 1 1 S.gxX, e0, e1, e2, e3, e4, .blk b2 (ints .u8 S.gxX) 43, .blk b1 (grC q1) 25]) (fun p => True) 11 (bs 14 518) (fun p j hp => ?_) (fun st18 => ?_)
  ·obtain ⟨bx, bg, _⟩ := p
   obtain _ := hp
   try dsimp only
   refine J.wnode [] [0, 10] 10 (bs 14 518) (by kernel_rfl) ?_
   refine run ?_
   refine J.nil ?_
   refine J.wbr ?_ ?_
   ·refine J.callp rfl rfl (fun w' M => dagNew w') ?_
    refine J.nil ?_
    exact st10 (bx, bg, ()) _ _ _ ⟨rfl, rfl, rfl, rfl, trivial⟩ (by kernel_rfl) (by kernel_rfl) trivial inferInstance
   refine J.wbr ?_ ?_
   ·refine J.alloc rfl fun bi => ?_
    refine J.nil ?_
    refine J.front (.wown 43 .u8 32 (some ⟨bx, 0, none⟩) 1 1 S.gxX) ?_
    refine J.front (.blk bi (ints .u8 (List.replicate 32 0)) 43) ?_
    refine J.front (.blk bg [.slice none 0 0, .slice none 0 0] 25) ?_
    exact st17 (bx, bg, bi, ()) _ _ _ ⟨rfl, rfl, rfl, rfl, trivial⟩ (by kernel_rfl) (by kernel_rfl) trivial inferInstance
   exact J.wbr0
  refine J.wst (A := Nat × Nat × Unit) (fun p => [(8, .pointer (some ⟨p.2.1, 0, none⟩)), (33, .agg (ints .u8 S.gxX).toArray), (34, .slice (some ⟨p.1, 0, none⟩) 1 1)]) [] (fun p => [.blk p.2.1 (ints .u8 (List.replicate 32 0)) 43, .wown 43 .u8 32 (some ⟨p.1, 0, none⟩) 1 1 S.gxX, e0, e1, e2, e3, e4, .blk b2 (ints .u8 S.gxX) 43, .blk b1 (grC q1) 25]) (fun p => True) 11 (bs 14 1030) (fun p j hp => ?_) (fun st19 => ?_)
  ·obtain ⟨bx, bi, _⟩ := p
   obtain _ := hp
   try dsimp only
   refine J.wnode [] [0, 9] 10 (bs 14 1030) (by kernel_rfl) ?_
   refine run ?_
   refine J.nil ?_
   refine J.wbr ?_ ?_
   ·refine J.callp rfl rfl (fun w' M => dagNew w') ?_
    refine J.nil ?_
    exact st11 (bx, bi, ()) _ _ _ ⟨rfl, rfl, rfl, rfl, trivial⟩ (by kernel_rfl) (by kernel_rfl) trivial inferInstance
   refine J.wbr ?_ ?_
   ·refine J.alloc rfl fun bg => ?_
    refine J.nil ?_
    exact st17 (bx, bg, bi, ()) _ _ _ ⟨rfl, rfl, rfl, rfl, trivial⟩ (by kernel_rfl) (by kernel_rfl) trivial inferInstance
   exact J.wbr0
  refine J.wst (A := Nat × Unit) (fun p => [(33, .agg (ints .u8 S.gxX).toArray), (34, .slice (some ⟨p.1, 0, none⟩) 1 1)]) [] (fun p => [.wown 43 .u8 32 (some ⟨p.1, 0, none⟩) 1 1 S.gxX, e0, e1, e2, e3, e4, .blk b2 (ints .u8 S.gxX) 43, .blk b1 (grC q1) 25]) (fun p => True) 12 (bs 14 6) (fun p j hp => ?_) (fun st20 => ?_)
  ·obtain ⟨bx, _⟩ := p
   obtain _ := hp
   try dsimp only
   refine J.wnode [] [0, 9, 10] 11 (bs 14 6) (by kernel_rfl) ?_
   refine run ?_
   refine J.nil ?_
   refine J.wbr ?_ ?_
   ·refine J.callp rfl rfl (fun w' M => dagNew w') ?_
    refine J.nil ?_
    exact st12 (bx, ()) _ _ _ ⟨rfl, rfl, rfl, trivial⟩ (by kernel_rfl) (by kernel_rfl) trivial inferInstance
   refine J.wbr ?_ ?_
   ·refine J.alloc rfl fun bg => ?_
    refine J.nil ?_
    exact st18 (bx, bg, ()) _ _ _ ⟨rfl, rfl, rfl, trivial⟩ (by kernel_rfl) (by kernel_rfl) trivial inferInstance
   refine J.wbr ?_ ?_
   ·refine J.alloc rfl fun bi => ?_
    refine J.nil ?_
    exact st19 (bx, bi, ()) _ _ _ ⟨rfl, rfl, rfl, trivial⟩ (by kernel_rfl) (by kernel_rfl) trivial inferInstance
   exact J.wbr0
  refine J.wst (A := Nat × Nat × Unit) (fun p => [(7, .pointer (some ⟨p.1, 0, none⟩)), (8, .pointer (some ⟨p.2.1, 0, none⟩)), (33, .agg (ints .u8 S.gxX).toArray)]) [] (fun p => [.blk p.1 [.slice none 0 0, .slice none 0 0] 25, .blk p.2.1 (ints .u8 (List.replicate 32 0)) 43, e0, e1, e2, e3, e4, .blk b2 (ints .u8 S.gxX) 43, .blk b1 (grC q1) 25]) (fun p => True) 11 (bs 14 1538) (fun p j hp => ?_) (fun st21 => ?_)
  ·obtain ⟨bg, bi, _⟩ := p
   obtain _ := hp
   try dsimp only
   refine J.wnode [] [0, 2] 10 (bs 14 1538) (by kernel_rfl) ?_
   refine run ?_
   refine J.nil ?_
   refine J.wbr ?_ ?_
   ·refine J.callp rfl rfl (fun w' M => dagNew w') ?_
    refine J.nil ?_
    exact st13 (bg, bi, ()) _ _ _ ⟨rfl, rfl, rfl, rfl, trivial⟩ (by kernel_rfl) (by kernel_rfl) trivial inferInstance
   refine J.wbr ?_ ?_
   ·refine J.b1W rfl rfl hX fun bx => ?_
    refine J.nil ?_
    refine J.front (.wown 43 .u8 32 (some ⟨bx, 0, none⟩) 1 1 S.gxX) ?_
    refine J.front (.blk bi (ints .u8 (List.replicate 32 0)) 43) ?_
    refine J.front (.blk bg [.slice none 0 0, .slice none 0 0] 25) ?_
    exact st17 (bx, bg, bi, ()) _ _ _ ⟨rfl, rfl, rfl, rfl, trivial⟩ (by kernel_rfl) (by kernel_rfl) trivial inferInstance
   exact J.wbr0
  refine J.wst (A := Nat × Unit) (fun p => [(7, .pointer (some ⟨p.1, 0, none⟩)), (33, .agg (ints .u8 S.gxX).toArray)]) [] (fun p => [.blk p.1 [.slice none 0 0, .slice none 0 0] 25, e0, e1, e2, e3, e4, .blk b2 (ints .u8 S.gxX) 43, .blk b1 (grC q1) 25]) (fun p => True) 12 (bs 14 514) (fun p j hp => ?_) (fun st22 => ?_)
  ·obtain ⟨bg, _⟩ := p
   obtain _ := hp
   try dsimp only
   refine J.wnode [] [0, 2, 10] 11 (bs 14 514) (by kernel_rfl) ?_
   refine run ?_
   refine J.nil ?_
   refine J.wbr ?_ ?_
   ·refine J.callp rfl rfl (fun w' M => dagNew w') ?_
    refine J.nil ?_
    exact st14 (bg, ()) _ _ _ ⟨rfl, rfl, rfl, trivial⟩ (by kernel_rfl) (by kernel_rfl) trivial inferInstance
   refine J.wbr ?_ ?_
   ·refine J.b1W rfl rfl hX fun bx => ?_
    refine J.nil ?_
    refine J.front (.wown 43 .u8 32 (some ⟨bx, 0, none⟩) 1 1 S.gxX) ?_
    refine J.front (.blk bg [.slice none 0 0, .slice none 0 0] 25) ?_
    exact st18 (bx, bg, ()) _ _ _ ⟨rfl, rfl, rfl, trivial⟩ (by kernel_rfl) (by kernel_rfl) trivial inferInstance
   refine J.wbr ?_ ?_
   ·refine J.alloc rfl fun bi => ?_
    refine J.nil ?_
    refine J.front (.blk bi (ints .u8 (List.replicate 32 0)) 43) ?_
    refine J.front (.blk bg [.slice none 0 0, .slice none 0 0] 25) ?_
    exact st21 (bg, bi, ()) _ _ _ ⟨rfl, rfl, rfl, trivial⟩ (by kernel_rfl) (by kernel_rfl) trivial inferInstance
   exact J.wbr0
  refine J.wst (A := Nat × Unit) (fun p => [(8, .pointer (some ⟨p.1, 0, none⟩)), (33, .agg (ints .u8 S.gxX).toArray)]) [] (fun p => [.blk p.1 (ints .u8 (List.replicate 32 0)) 43, e0, e1, e2, e3, e4, .blk b2 (ints .u8 S.gxX) 43, .blk b1 (grC q1) 25]) (fun p => True) 12 (bs 14 1026) (fun p j hp => ?_) (fun st23 => ?_)
  ·obtain ⟨bi, _⟩ := p
   obtain _ := hp
   try dsimp only
   refine J.wnode [] [0, 2, 9] 11 (bs 14 1026) (by kernel_rfl) ?_
   refine run ?_
   refine J.nil ?_
   refine J.wbr ?_ ?_
   ·refine J.callp rfl rfl (fun w' M => dagNew w') ?_
    refine J.nil ?_
    exact st15 (bi, ()) _ _ _ ⟨rfl, rfl, rfl, trivial⟩ (by kernel_rfl) (by kernel_rfl) trivial inferInstance
   refine J.wbr ?_ ?_
   ·refine J.b1W rfl rfl hX fun bx => ?_
    refine J.nil ?_
    refine J.front (.wown 43 .u8 32 (some ⟨bx, 0, none⟩) 1 1 S.gxX) ?_
    refine J.front (.blk bi (ints .u8 (List.replicate 32 0)) 43) ?_
    exact st19 (bx, bi, ()) _ _ _ ⟨rfl, rfl, rfl, trivial⟩ (by kernel_rfl) (by kernel_rfl) trivial inferInstance
   refine J.wbr ?_ ?_
   ·refine J.alloc rfl fun bg => ?_
    refine J.nil ?_
    exact st21 (bg, bi, ()) _ _ _ ⟨rfl, rfl, rfl, trivial⟩ (by kernel_rfl) (by kernel_rfl) trivial inferInstance
   exact J.wbr0
  refine J.wnode [(1, .q)] [0, 2, 9, 10] 12 (bs 14 2) (by kernel_rfl) ?_
  refine run ?_
  refine J.nil ?_
  refine J.wbr ?_ ?_
  ·refine J.callp rfl rfl (fun w' M => dagNew w') ?_
   refine J.nil ?_
   exact st16 () _ _ _ ⟨rfl, rfl, trivial⟩ (by kernel_rfl) (by kernel_rfl) trivial inferInstance
  refine J.wbr ?_ ?_
  ·refine J.b1W rfl rfl hX fun bx => ?_
   refine J.nil ?_
   exact st20 (bx, ()) _ _ _ ⟨rfl, rfl, trivial⟩ (by kernel_rfl) (by kernel_rfl) trivial inferInstance
  refine J.wbr ?_ ?_
  ·refine J.alloc rfl fun bg => ?_
   refine J.nil ?_
   exact st22 (bg, ()) _ _ _ ⟨rfl, rfl, trivial⟩ (by kernel_rfl) (by kernel_rfl) trivial inferInstance
  refine J.wbr ?_ ?_
  ·refine J.alloc rfl fun bi => ?_
   refine J.nil ?_
   exact st23 (bi, ()) _ _ _ ⟨rfl, rfl, trivial⟩ (by kernel_rfl) (by kernel_rfl) trivial inferInstance
  exact J.wbr0
 rw [h0, h1, h2, h3, h4]
 refine run ?_
 refine J.joinX (A := Unit) (fun u => [(12, .int .i64 14)]) [10, 11, 40, 41, 42, 43, 44, 45, 46] (fun _ => [.blk b5 (ints .u8 S.gxY) 43, .blk b4 (grC q2) 25, .gown opC 11 54 q2.oa q2.n q2.oc q2.zs, .all (q2.zs.map (opE 43)), .wown 43 .u8 32 q2.ia q2.m q2.ic q2.ids, .blk b2 (ints .u8 S.gxX) 43, .blk b1 (grC q1) 25]) (fun _ => True) ?_ (fun _ j4 _ => ?_)
 ·refine J.regionW [.blk b4 (grC q2) 25] mixed ?_
  refine J.wst (A := GrA × Nat × Unit) (fun p => [(10, .pointer (some ⟨p.2.1, 0, none⟩)), (41, .agg (grC q2).toArray), (43, .tuple #[.agg (grC p.1).toArray, .agg (ints .u8 (List.replicate 32 0)).toArray, .int .i64 14]), (44, .agg (grC p.1).toArray), (45, .agg (ints .u8 (List.replicate 32 0)).toArray), (46, .int .i64 14)]) [40, 42] (fun p => [.blk p.2.1 [.slice none 0 0, .slice none 0 0] 25, .blk b5 (ints .u8 S.gxY) 43, .blk b4 (grC q2) 25, .gown opC 11 54 q2.oa q2.n q2.oc q2.zs, .all (q2.zs.map (opE 43)), .wown 43 .u8 32 q2.ia q2.m q2.ic q2.ids, .blk b2 (ints .u8 S.gxX) 43, .blk b1 (grC q1) 25]) (fun p => True) 4 (bs 12 255) (fun p j hp => ?_) (fun st0 => ?_)
  ·obtain ⟨q, bg, _⟩ := p
   obtain _ := hp
   try dsimp only
   refine J.wfin [(8, .e), (9, .e), (10, .e), (11, .q)] (by kernel_rfl) ?_
   refine run ?_
   refine J.alloc rfl fun bi => ?_
   refine run ?_
   refine run ?_
   refine run ?_
   exact J.cut () ⟨rfl, trivial⟩ (by kernel_rfl) trivial
  refine J.wst (A := GrA × Nat × Unit) (fun p => [(11, .pointer (some ⟨p.2.1, 0, none⟩)), (41, .agg (grC q2).toArray), (43, .tuple #[.agg (grC p.1).toArray, .agg (ints .u8 (List.replicate 32 0)).toArray, .int .i64 14]), (44, .agg (grC p.1).toArray), (45, .agg (ints .u8 (List.replicate 32 0)).toArray), (46, .int .i64 14)]) [40, 42] (fun p => [.blk p.2.1 (ints .u8 (List.replicate 32 0)) 43, .blk b5 (ints .u8 S.gxY) 43, .blk b4 (grC q2) 25, .gown opC 11 54 q2.oa q2.n q2.oc q2.zs, .all (q2.zs.map (opE 43)), .wown 43 .u8 32 q2.ia q2.m q2.ic q2.ids, .blk b2 (ints .u8 S.gxX) 43, .blk b1 (grC q1) 25]) (fun p => True) 4 (bs 12 383) (fun p j hp => ?_) (fun st1 => ?_)
  ·obtain ⟨q, bi, _⟩ := p
   obtain _ := hp
   try dsimp only
   refine J.wfin [(7, .e), (9, .e), (10, .e), (11, .q)] (by kernel_rfl) ?_
   refine run ?_
   refine J.alloc rfl fun bg => ?_
   refine run ?_
   refine run ?_
   refine run ?_
   exact J.cut () ⟨rfl, trivial⟩ (by kernel_rfl) trivial
  refine J.wst (A := GrA × Unit) (fun p => [(41, .agg (grC q2).toArray), (43, .tuple #[.agg (grC p.1).toArray, .agg (ints .u8 (List.replicate 32 0)).toArray, .int .i64 14])]) [42] (fun p => [.blk b5 (ints .u8 S.gxY) 43, .blk b4 (grC q2) 25, .gown opC 11 54 q2.oa q2.n q2.oc q2.zs, .all (q2.zs.map (opE 43)), .wown 43 .u8 32 q2.ia q2.m q2.ic q2.ids, .blk b2 (ints .u8 S.gxX) 43, .blk b1 (grC q1) 25]) (fun p => True) 9 (bs 12 7) (fun p j hp => ?_) (fun st2 => ?_)
  ·obtain ⟨q, _⟩ := p
   obtain _ := hp
   try dsimp only
   refine J.wnode [(3, .q), (4, .q), (5, .q), (6, .q)] [7, 8] 4 (bs 12 127) (by kernel_rfl) ?_
   refine run ?_
   refine J.nil ?_
   refine J.wbr ?_ ?_
   ·refine J.alloc rfl fun bg => ?_
    refine J.nil ?_
    exact st0 (q, bg, ()) _ _ _ ⟨rfl, rfl, rfl, rfl, rfl, rfl, trivial⟩ (by kernel_rfl) (by kernel_rfl) trivial inferInstance
   refine J.wbr ?_ ?_
   ·refine J.alloc rfl fun bi => ?_
    refine J.nil ?_
    exact st1 (q, bi, ()) _ _ _ ⟨rfl, rfl, rfl, rfl, rfl, rfl, trivial⟩ (by kernel_rfl) (by kernel_rfl) trivial inferInstance
   exact J.wbr0
  refine J.wst (A := GrA × Nat × Unit) (fun p => [(10, .pointer (some ⟨p.2.1, 0, none⟩)), (41, .agg (grC q2).toArray), (43, .tuple #[.agg (grC p.1).toArray, .agg (ints .u8 (List.replicate 32 0)).toArray, .int .i64 14])]) [42] (fun p => [.blk p.2.1 [.slice none 0 0, .slice none 0 0] 25, .blk b5 (ints .u8 S.gxY) 43, .blk b4 (grC q2) 25, .gown opC 11 54 q2.oa q2.n q2.oc q2.zs, .all (q2.zs.map (opE 43)), .wown 43 .u8 32 q2.ia q2.m q2.ic q2.ids, .blk b2 (ints .u8 S.gxX) 43, .blk b1 (grC q1) 25]) (fun p => True) 8 (bs 12 135) (fun p j hp => ?_) (fun st3 => ?_)
  ·obtain ⟨q, bg, _⟩ := p
   obtain _ := hp
   try dsimp only
   refine J.wfin [(3, .q), (4, .q), (5, .q), (6, .q), (8, .e), (9, .e), (10, .e), (11, .q)] (by kernel_rfl) ?_
   refine run ?_
   refine J.alloc rfl fun bi => ?_
   refine run ?_
   refine run ?_
   refine run ?_
   exact J.cut () ⟨rfl, trivial⟩ (by kernel_rfl) trivial
  refine J.wst (A := (Option Addr × Nat) × Nat × Nat × Unit) (fun p => [(10, .pointer (some ⟨p.2.1, 0, none⟩)), (11, .pointer (some ⟨p.2.2.1, 0, none⟩)), (41, .agg (grC q2).toArray), (42, .agg (opC ⟨S.gxO, p.1.1, p.1.2⟩).toArray)]) [] (fun p => [.blk p.2.1 [.slice none 0 0, .slice none 0 0] 25, .blk p.2.2.1 (ints .u8 (List.replicate 32 0)) 43, .wrow .u8 32 p.1.1 0 [], .blk b5 (ints .u8 S.gxY) 43, .blk b4 (grC q2) 25, .gown opC 11 54 q2.oa q2.n q2.oc q2.zs, .all (q2.zs.map (opE 43)), .wown 43 .u8 32 q2.ia q2.m q2.ic q2.ids, .blk b2 (ints .u8 S.gxX) 43, .blk b1 (grC q1) 25]) (fun p => True) 8 (bs 12 387) (fun p j hp => ?_) (fun st4 => ?_)
  ·obtain ⟨z, bg, bi, _⟩ := p
   obtain _ := hp
   try dsimp only
   refine J.wfin [(2, .e), (3, .q), (4, .q), (5, .q), (6, .q), (9, .e), (10, .e), (11, .q)] (by kernel_rfl) ?_
   refine run ?_
   refine J.call rfl rfl (cT q2 z K0 hk2 hu hm2) fun q hq => ?_
   refine run ?_
   refine run ?_
   refine run ?_
   exact J.cut () ⟨rfl, trivial⟩ (by kernel_rfl) trivial
  refine J.wst (A := (Option Addr × Nat) × Nat × Unit) (fun p => [(10, .pointer (some ⟨p.2.1, 0, none⟩)), (41, .agg (grC q2).toArray), (42, .agg (opC ⟨S.gxO, p.1.1, p.1.2⟩).toArray)]) [] (fun p => [.blk p.2.1 [.slice none 0 0, .slice none 0 0] 25, .wrow .u8 32 p.1.1 0 [], .blk b5 (ints .u8 S.gxY) 43, .blk b4 (grC q2) 25, .gown opC 11 54 q2.oa q2.n q2.oc q2.zs, .all (q2.zs.map (opE 43)), .wown 43 .u8 32 q2.ia q2.m q2.ic q2.ids, .blk b2 (ints .u8 S.gxX) 43, .blk b1 (grC q1) 25]) (fun p => True) 9 (bs 12 131) (fun p j hp => ?_) (fun st5 => ?_)
  ·obtain ⟨z, bg, _⟩ := p
   obtain _ := hp
   try dsimp only
   refine J.wnode [] [2, 8] 8 (bs 12 131) (by kernel_rfl) ?_
   refine run ?_
   refine J.nil ?_
   refine J.wbr ?_ ?_
   ·refine J.call rfl rfl (cT q2 z K0 hk2 hu hm2) fun q hq => ?_
    refine J.nil ?_
    exact st3 (q, bg, ()) _ _ _ ⟨rfl, rfl, rfl, trivial⟩ (by kernel_rfl) (by kernel_rfl) trivial inferInstance
   refine J.wbr ?_ ?_
   ·refine J.alloc rfl fun bi => ?_
    refine J.nil ?_
    refine J.front (.wrow .u8 32 z.1 0 []) ?_
    refine J.front (.blk bi (ints .u8 (List.replicate 32 0)) 43) ?_
    refine J.front (.blk bg [.slice none 0 0, .slice none 0 0] 25) ?_
    exact st4 (z, bg, bi, ()) _ _ _ ⟨rfl, rfl, rfl, rfl, trivial⟩ (by kernel_rfl) (by kernel_rfl) trivial inferInstance
   exact J.wbr0
  refine J.wst (A := GrA × Nat × Unit) (fun p => [(11, .pointer (some ⟨p.2.1, 0, none⟩)), (41, .agg (grC q2).toArray), (43, .tuple #[.agg (grC p.1).toArray, .agg (ints .u8 (List.replicate 32 0)).toArray, .int .i64 14])]) [42] (fun p => [.blk p.2.1 (ints .u8 (List.replicate 32 0)) 43, .blk b5 (ints .u8 S.gxY) 43, .blk b4 (grC q2) 25, .gown opC 11 54 q2.oa q2.n q2.oc q2.zs, .all (q2.zs.map (opE 43)), .wown 43 .u8 32 q2.ia q2.m q2.ic q2.ids, .blk b2 (ints .u8 S.gxX) 43, .blk b1 (grC q1) 25]) (fun p => True) 8 (bs 12 263) (fun p j hp => ?_) (fun st6 => ?_)
  ·obtain ⟨q, bi, _⟩ := p
   obtain _ := hp
   try dsimp only
   refine J.wfin [(3, .q), (4, .q), (5, .q), (6, .q), (7, .e), (9, .e), (10, .e), (11, .q)] (by kernel_rfl) ?_
   refine run ?_
   refine J.alloc rfl fun bg => ?_
   refine run ?_
   refine run ?_
   refine run ?_
   exact J.cut () ⟨rfl, trivial⟩ (by kernel_rfl) trivial
  refine J.wst (A := (Option Addr × Nat) × Nat × Unit) (fun p => [(11, .pointer (some ⟨p.2.1, 0, none⟩)), (41, .agg (grC q2).toArray), (42, .agg (opC ⟨S.gxO, p.1.1, p.1.2⟩).toArray)]) [] (fun p => [.blk p.2.1 (ints .u8 (List.replicate 32 0)) 43, .wrow .u8 32 p.1.1 0 [], .blk b5 (ints .u8 S.gxY) 43, .blk b4 (grC q2) 25, .gown opC 11 54 q2.oa q2.n q2.oc q2.zs, .all (q2.zs.map (opE 43)), .wown 43 .u8 32 q2.ia q2.m q2.ic q2.ids, .blk b2 (ints .u8 S.gxX) 43, .blk b1 (grC q1) 25]) (fun p => True) 9 (bs 12 259) (fun p j hp => ?_) (fun st7 => ?_)
  ·obtain ⟨z, bi, _⟩ := p
   obtain _ := hp
   try dsimp only
   refine J.wnode [] [2, 7] 8 (bs 12 259) (by kernel_rfl) ?_
   refine run ?_
   refine J.nil ?_
   refine J.wbr ?_ ?_
   ·refine J.call rfl rfl (cT q2 z K0 hk2 hu hm2) fun q hq => ?_
    refine J.nil ?_
    exact st6 (q, bi, ()) _ _ _ ⟨rfl, rfl, rfl, trivial⟩ (by kernel_rfl) (by kernel_rfl) trivial inferInstance
   refine J.wbr ?_ ?_
   ·refine J.alloc rfl fun bg => ?_
    refine J.nil ?_
    exact st4 (z, bg, bi, ()) _ _ _ ⟨rfl, rfl, rfl, rfl, trivial⟩ (by kernel_rfl) (by kernel_rfl) trivial inferInstance
   exact J.wbr0
  refine J.wst (A := (Option Addr × Nat) × Unit) (fun p => [(41, .agg (grC q2).toArray), (42, .agg (opC ⟨S.gxO, p.1.1, p.1.2⟩).toArray)]) [] (fun p => [.wrow .u8 32 p.1.1 0 [], .blk b5 (ints .u8 S.gxY) 43, .blk b4 (grC q2) 25, .gown opC 11 54 q2.oa q2.n q2.oc q2.zs, .all (q2.zs.map (opE 43)), .wown 43 .u8 32 q2.ia q2.m q2.ic q2.ids, .blk b2 (ints .u8 S.gxX) 43, .blk b1 (grC q1) 25]) (fun p => True) 10 (bs 12 3) (fun p j hp => ?_) (fun st8 => ?_)
  ·obtain ⟨z, _⟩ := p
   obtain _ := hp
   try dsimp only
   refine J.wnode [] [2, 7, 8] 9 (bs 12 3) (by kernel_rfl) ?_
   refine run ?_
   refine J.nil ?_
   refine J.wbr ?_ ?_
   ·refine J.call rfl rfl (cT q2 z K0 hk2 hu hm2) fun q hq => ?_
    refine J.nil ?_
    exact st2 (q, ()) _ _ _ ⟨rfl, rfl, trivial⟩ (by kernel_rfl) (by kernel_rfl) trivial inferInstance
   refine J.wbr ?_ ?_
   ·refine J.alloc rfl fun bg => ?_
    refine J.nil ?_
    exact st5 (z, bg, ()) _ _ _ ⟨rfl, rfl, rfl, trivial⟩ (by kernel_rfl) (by kernel_rfl) trivial inferInstance
   refine J.wbr ?_ ?_
   ·refine J.alloc rfl fun bi => ?_
    refine J.nil ?_
    exact st7 (z, bi, ()) _ _ _ ⟨rfl, rfl, rfl, trivial⟩ (by kernel_rfl) (by kernel_rfl) trivial inferInstance
   exact J.wbr0
  refine J.wst (A := Nat × Nat × Unit) (fun p => [(10, .pointer (some ⟨p.1, 0, none⟩)), (11, .pointer (some ⟨p.2.1, 0, none⟩)), (41, .agg (grC q2).toArray)]) [] (fun p => [.blk p.1 [.slice none 0 0, .slice none 0 0] 25, .blk p.2.1 (ints .u8 (List.replicate 32 0)) 43, .blk b5 (ints .u8 S.gxY) 43, .blk b4 (grC q2) 25, .gown opC 11 54 q2.oa q2.n q2.oc q2.zs, .all (q2.zs.map (opE 43)), .wown 43 .u8 32 q2.ia q2.m q2.ic q2.ids, .blk b2 (ints .u8 S.gxX) 43, .blk b1 (grC q1) 25]) (fun p => True) 9 (bs 12 385) (fun p j hp => ?_) (fun st9 => ?_)
  ·obtain ⟨bg, bi, _⟩ := p
   obtain _ := hp
   try dsimp only
   refine J.wfin [(1, .e), (2, .e), (3, .q), (4, .q), (5, .q), (6, .q), (9, .e), (10, .e), (11, .q)] (by kernel_rfl) ?_
   refine run ?_
   refine J.call rfl rfl (fun w' M => sgA TK w' (K0.ext M.ext)) fun z hz => ?_
   refine run ?_
   refine J.call rfl rfl (cT q2 z K0 hk2 hu hm2) fun q hq => ?_
   refine run ?_
   refine run ?_
   refine run ?_
   exact J.cut () ⟨rfl, trivial⟩ (by kernel_rfl) trivial
  refine J.wst (A := Nat × Unit) (fun p => [(10, .pointer (some ⟨p.1, 0, none⟩)), (41, .agg (grC q2).toArray)]) [] (fun p => [.blk p.1 [.slice none 0 0, .slice none 0 0] 25, .blk b5 (ints .u8 S.gxY) 43, .blk b4 (grC q2) 25, .gown opC 11 54 q2.oa q2.n q2.oc q2.zs, .all (q2.zs.map (opE 43)), .wown 43 .u8 32 q2.ia q2.m q2.ic q2.ids, .blk b2 (ints .u8 S.gxX) 43, .blk b1 (grC q1) 25]) (fun p => True) 10 (bs 12 129) (fun p j hp => ?_) (fun st10 => ?_)
  ·obtain ⟨bg, _⟩ := p
   obtain _ := hp
   try dsimp only
   refine J.wnode [] [1, 8] 9 (bs 12 129) (by kernel_rfl) ?_
   refine run ?_
   refine J.nil ?_
   refine J.wbr ?_ ?_
   ·refine J.call rfl rfl (fun w' M => sgA TK w' (K0.ext M.ext)) fun z hz => ?_
    refine J.nil ?_
    refine J.front (.wrow .u8 32 z.1 0 []) ?_
    refine J.front (.blk bg [.slice none 0 0, .slice none 0 0] 25) ?_
    exact st5 (z, bg, ()) _ _ _ ⟨rfl, rfl, rfl, trivial⟩ (by kernel_rfl) (by kernel_rfl) trivial inferInstance
   refine J.wbr ?_ ?_
   ·refine J.alloc rfl fun bi => ?_
    refine J.nil ?_
    refine J.front (.blk bi (ints .u8 (List.replicate 32 0)) 43) ?_
    refine J.front (.blk bg [.slice none 0 0, .slice none 0 0] 25) ?_
    exact st9 (bg, bi, ()) _ _ _ ⟨rfl, rfl, rfl, trivial⟩ (by kernel_rfl) (by kernel_rfl) trivial inferInstance
   exact J.wbr0
  refine J.wst (A := Nat × Unit) (fun p => [(11, .pointer (some ⟨p.1, 0, none⟩)), (41, .agg (grC q2).toArray)]) [] (fun p => [.blk p.1 (ints .u8 (List.replicate 32 0)) 43, .blk b5 (ints .u8 S.gxY) 43, .blk b4 (grC q2) 25, .gown opC 11 54 q2.oa q2.n q2.oc q2.zs, .all (q2.zs.map (opE 43)), .wown 43 .u8 32 q2.ia q2.m q2.ic q2.ids, .blk b2 (ints .u8 S.gxX) 43, .blk b1 (grC q1) 25]) (fun p => True) 10 (bs 12 257) (fun p j hp => ?_) (fun st11 => ?_)
  ·obtain ⟨bi, _⟩ := p
   obtain _ := hp
   try dsimp only
   refine J.wnode [] [1, 7] 9 (bs 12 257) (by kernel_rfl) ?_
   refine run ?_
   refine J.nil ?_
   refine J.wbr ?_ ?_
   ·refine J.call rfl rfl (fun w' M => sgA TK w' (K0.ext M.ext)) fun z hz => ?_
    refine J.nil ?_
    refine J.front (.wrow .u8 32 z.1 0 []) ?_
    refine J.front (.blk bi (ints .u8 (List.replicate 32 0)) 43) ?_
    exact st7 (z, bi, ()) _ _ _ ⟨rfl, rfl, rfl, trivial⟩ (by kernel_rfl) (by kernel_rfl) trivial inferInstance
   refine J.wbr ?_ ?_
   ·refine J.alloc rfl fun bg => ?_
    refine J.nil ?_
    exact st9 (bg, bi, ()) _ _ _ ⟨rfl, rfl, rfl, trivial⟩ (by kernel_rfl) (by kernel_rfl) trivial inferInstance
   exact J.wbr0
  refine J.wnode [(0, .q)] [1, 7, 8] 10 (bs 12 1) (by kernel_rfl) ?_
  refine run ?_
  refine J.nil ?_
  refine J.wbr ?_ ?_
  ·refine J.call rfl rfl (fun w' M => sgA TK w' (K0.ext M.ext)) fun z hz => ?_
   refine J.nil ?_
   exact st8 (z, ()) _ _ _ ⟨rfl, rfl, trivial⟩ (by kernel_rfl) (by kernel_rfl) trivial inferInstance
  refine J.wbr ?_ ?_
  ·refine J.alloc rfl fun bg => ?_
   refine J.nil ?_
   exact st10 (bg, ()) _ _ _ ⟨rfl, rfl, trivial⟩ (by kernel_rfl) (by kernel_rfl) trivial inferInstance
  refine J.wbr ?_ ?_
  ·refine J.alloc rfl fun bi => ?_
   refine J.nil ?_
   exact st11 (bi, ()) _ _ _ ⟨rfl, rfl, trivial⟩ (by kernel_rfl) (by kernel_rfl) trivial inferInstance
  exact J.wbr0
 refine run ?_
 have hc2 : S.chkG q2.m q2.ids q2.ops = 0 := by rw [hu.m, hu.ids, hu.ops]; exact S.gx_chkH
 have hi2 : S.inS q2.m q2.ids S.gxY := by rw [hu.m, hu.ids]; exact S.gx_inY
 refine J.callp rfl rfl (fun w' M => dagHas q2 S.gxY TK w' (K0.ext M.ext) (GrR.own hk2 hu.cap hm2 w' M) hY) ?_
 rw [show decide (S.chkG q2.m q2.ids q2.ops = 0 ∧ S.inS q2.m q2.ids S.gxY) = true from decide_eq_true ⟨hc2, hi2⟩, hc2]
 refine run ?_
 refine J.spe rfl rfl rfl (fun _ => ?_) (fun c => absurd (by have := hq1.m; have := S.gx_m1; omega) c)
 refine run ?_
 refine J.spe rfl rfl rfl (fun _ => ?_) (fun c => absurd (by have := hu.m; have := S.gx_m2; omega) c)
 refine run ?_
 exact J.fin rfl
theorem lawFit {S0 : Nat → Prop} (g : GrA) (w : World) (G : GrI S0 w g) :
  Calls Tryz.prog 28 #[.agg (grC g).toArray] w (Gv w (fun q : Bool => .bool q) (fun _ => []) fun q => q = true → GrSm g ∧ S.chkG g.m g.ids g.ops = 0) := by
 refine J.enter 10 Tryz.func28 rfl rfl ?_
 refine run ?_
 refine J.box rfl rfl rfl fun b1 => ?_
 refine run ?_
 refine J.call rfl rfl (fun w' M => refGreat g w' (G.ext M.ext)) fun q hq => ?_
 refine run ?_
 refine J.spt rfl rfl rfl (fun c => ?_) (fun c => ?_)
 ·have G := G.gr (hq c)
  refine run ?_
  refine J.callp rfl rfl (fun w' M => refCheck g w' (G.ext M.ext)) ?_
  refine run ?_
  exact J.finG (S.chkG g.m g.ids g.ops == 0) rfl (fun h => ⟨hq c, by simpa using h⟩) (List.nil_sublist _)
 refine run ?_
 exact J.finG false rfl (fun h => by cases h) (List.nil_sublist _)
end Go.Proofs.YtakbhjagiofbgaaGreatDoor.W
