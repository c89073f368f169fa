/-
  Part 15 of the lemmas of these laws: PoolDoes.
-/
import Derived.Test.YtkmaenmhcgohbaaGreatDoorPPd14
set_option linter.unusedSimpArgs false
namespace Go.Proofs.YtkmaenmhcgohbaaGreatDoor.W
open Go.RowKit Go.Proofs.YtkmaenmhcgohbaaGreatDoor.G
set_option linter.unusedVariables false
set_option linter.unusedSimpArgs false
set_option maxRecDepth 20000
set_option maxHeartbeats 8000000
attribute [local irreducible] RS RX RY Code.wp bodyPost J Ent.blk Ent.irow Ent.iown Ent.wrow Ent.wown Ent.grow Ent.gown Ent.all Ent.emp
instance : Fld Tryz.prog 40 1 1 := ⟨_, _, 1, Tryz.underlying40, rfl, by kernel_rfl, by decide, rfl⟩
instance : Sca Tryz.prog 9 := ⟨_, Tryz.underlying9, rfl⟩
instance : Und Tryz.prog 9 .string := ⟨Tryz.underlying9⟩
instance : Fld Tryz.prog 40 2 2 := ⟨_, _, 4, Tryz.underlying40, rfl, by kernel_rfl, by decide, rfl⟩
instance : Fld Tryz.prog 24 3 3 := ⟨_, _, 1, Tryz.underlying24, rfl, by kernel_rfl, by decide, rfl⟩
instance : Ents Tryz.prog 59 := ⟨.mk Tryz.func59 (by kernel_rfl) rfl⟩
instance : Ents Tryz.prog 143 := ⟨.mk Tryz.func143 (by kernel_rfl) rfl⟩
instance : Ents Tryz.prog 132 := ⟨.mk Tryz.func132 (by kernel_rfl) rfl⟩
theorem pLong (z : OpA) (w : World) :
    Calls Tryz.prog 132 #[.agg (opC z).toArray] w (Gv w (fun q : Bool => .bool q) (fun _ => []) fun q => q = false → z.o.n ≤ 40 ∧ z.o.key.size ≤ 100 ∧ z.o.t.size ≤ 100) := by
  refine J.enter 21 Tryz.func132 rfl rfl ?_
  refine run ?_
  refine J.box rfl rfl rfl fun b1 => ?_
  refine run ?_
  refine J.spd rfl rfl rfl (fun c1 => ?_) (fun c1 => ?_)
  · refine run ?_
    exact J.finG true rfl (fun h => by cases h) (List.nil_sublist _)
  refine run ?_
  refine J.spd rfl rfl rfl (fun c2 => ?_) (fun c2 => ?_)
  · refine run ?_
    exact J.finG true rfl (fun h => by cases h) (List.nil_sublist _)
  refine run ?_
  exact J.finG (decide ((100 : Int) < z.o.t.size)) rfl (fun h => by have := of_decide_eq_false h; exact ⟨by omega, by omega, by omega⟩) (List.nil_sublist _)
theorem pOk {o : S.OpV} (h : o.rng) (k : o.n ≤ 40 ∧ o.key.size ≤ 100 ∧ o.t.size ≤ 100) : o.ok := ⟨h.au, h.st, h.k, h.vk, h.num, h.bits, h.e, h.s, k.1, k.2.1, k.2.2⟩
theorem lAt {α β : Type} {f : α → β} {l l2 : List α} (h : l.map f = l2.map f) {i : Nat} {x y : α} (hx : l[i]? = some x) (hy : l2[i]? = some y) : f x = f y := by
  have := congrArg (fun t => t[i]?) h
  simp only [List.getElem?_map, hx, hy, Option.map_some, Option.some.injEq] at this
  exact this
theorem jdR_i {S0 : Nat → Prop} {w : World} {d : JdA} (h : JdI S0 w d) (k : d.o.o.n ≤ 40 ∧ d.o.o.key.size ≤ 100 ∧ d.o.o.t.size ≤ 100) : JdR S0 w d := ⟨⟨pOk h.rng k, h.row, h.cap⟩, h.id⟩
structure PlB (p : PlA) : Prop where
  j : ∀ z ∈ p.js, z.n ≤ 600
  h : ∀ z ∈ p.hs, z.bn ≤ 600 ∧ z.j.o.o.n ≤ 40 ∧ z.j.o.o.key.size ≤ 100 ∧ z.j.o.o.t.size ≤ 100
  d : ∀ z ∈ p.ds, z.o.o.n ≤ 40 ∧ z.o.o.key.size ≤ 100 ∧ z.o.o.t.size ≤ 100
  n : p.jn ≤ 20 ∧ p.hn ≤ 20 ∧ p.dn ≤ 100
theorem plR_i {S0 : Nat → Prop} {w : World} {p : PlA} (G : PlI S0 w p) (B : PlB p) : PlR S0 w p := by
  have hn := B.n
  exact ⟨G.jr, G.hr, G.dr, fun j hj => ⟨⟨(G.ji j hj).cap, B.j j hj⟩, (G.ji j hj).row⟩, fun j hj => ⟨⟨(jdR_i (G.hi j hj).j (B.h j hj).2).k, (G.hi j hj).cap, (B.h j hj).1⟩, jdR_i (G.hi j hj).j (B.h j hj).2, (G.hi j hj).row⟩, fun d hd => jdR_i (G.di d hd) (B.d d hd), G.cap.1, G.cap.2.1, G.cap.2.2, by omega, by omega, by omega⟩
theorem PlI.ext {S0 : Nat → Prop} {w w' : World} {p : PlA} (h : PlI S0 w p) (x : Ext w w') : PlI S0 w' p := ⟨h.jr.ext x, h.hr.ext x, h.dr.ext x, fun j hj => ⟨(h.ji j hj).row.ext x, (h.ji j hj).cap⟩, fun j hj => ⟨⟨(h.hi j hj).j.rng, (h.hi j hj).j.row.ext x, (h.hi j hj).j.cap, (h.hi j hj).j.id⟩, (h.hi j hj).row.ext x, (h.hi j hj).cap⟩, fun j hj => ⟨(h.di j hj).rng, (h.di j hj).row.ext x, (h.di j hj).cap, (h.di j hj).id⟩, h.cap⟩
theorem refSameJobs {S0 S1 : Nat → Prop} {S2 S3 : Nat → Prop} (a : Option Addr) (n c : Nat) (l : List JbA) (a2 : Option Addr) (n2 c2 : Nat) (l2 : List JbA) (w : World) (G0 : GRow jbC 2 S0 w a n l) (G1 : GRow jbC 2 S1 w a2 n2 l2) (RA : ∀ j ∈ l, JbR S2 w j) (RB : ∀ j ∈ l2, JbR S3 w j) (h : l.map JbA.V = l2.map JbA.V) (hn : n ≤ 100) :
    Calls Tryz.prog 143 #[.slice a n c, .slice a2 n2 c2] w (Ret w fun v _ => v = .bool true) := by
  have h1 := G0.len
  have h2 := G1.len
  have h3 : l.length = l2.length := by have := congrArg List.length h; rwa [List.length_map, List.length_map] at this
  obtain rfl : n2 = n := by omega
  refine J.enter 40 Tryz.func143 rfl rfl ?_
  refine run ?_
  refine J.ifn rfl (fun c => absurd rfl c) (fun _ => ?_)
  refine run ?_
  refine J.loopS (A := Int) (fun i => [(5, .int .i64 i)]) [4, 11, 12, 13, 14, 15, 16, 17, 18, 19, 20, 21, 22, 23, 24, 25, 26, 27, 28, 29, 30, 31, 32, 33, 34, 35, 36, 37, 38, 39, 40, 41] (fun i => 0 ≤ i ∧ i ≤ n2) (fun i => n2 - i.toNat) 0 (by kernel_rfl) ⟨by omega, by omega⟩ (fun i j hI => ?_)
  refine run ?_
  refine J.ifd rfl (fun d1 => ?_) (fun d1 => ?_)
  · obtain ⟨z, hz⟩ := G0.ex (i := i) (by omega)
    obtain ⟨y, hy⟩ := G1.ex (i := i) (by omega)
    have e := lAt h hz hy
    have et : z.t = y.t := congrArg S.JbV.t e
    have eb : z.bs = y.bs := congrArg S.JbV.b e
    have ZR := RA z (List.mem_of_getElem? hz)
    have YR := RB y (List.mem_of_getElem? hy)
    have hzn := ZR.k.n
    have hyn := YR.k.n
    refine run ?_
    refine J.regionX [(0, .q), (1, .q), (2, .q), (3, .q), (4, .q), (5, .q), (6, .q), (7, .q), (8, .q), (9, .q), (10, .q), (11, .q), (12, .q), (13, .q), (14, .q), (15, .q), (16, .q), (17, .q), (18, .q), (19, .q), (20, .q), (21, .q), (22, .e), (23, .q), (24, .q)] mixed (by kernel_rfl) ?_
    refine run ?_
    refine J.spn rfl rfl rfl (fun c => absurd et c) (fun _ => ?_)
    refine run ?_
    refine J.callp rfl rfl (fun w' M => sameBytes z.a z.n z.c z.bs y.a y.n y.c y.bs w' (ZR.row.ext M.ext) (YR.row.ext M.ext) (by omega) (by omega)) ?_
    rw [decide_eq_true eb]
    refine run ?_
    exact J.nextS (i + 1) ⟨rfl, trivial⟩ (by kernel_rfl) ⟨by omega, by omega⟩ (by omega)
  refine run ?_
  exact J.fin rfl
theorem refSameJdT {S0 S1 : Nat → Prop} (j k : JdA) (w : World) (R : JdR S0 w j) (R2 : JdR S1 w k) (h : j.V = k.V) :
    Calls Tryz.prog 79 #[.agg (jdC j).toArray, .agg (jdC k).toArray] w (Ret w fun v _ => v = .bool true) := by
  have := refSameJd j k w R R2
  rwa [decide_eq_true ((S.sameJ_eq (a := j.V) (b := k.V) R.o.row.len R2.o.row.len).2 h)] at this
theorem refPSame {S0 S1 : Nat → Prop} (p q : PlA) (w : World) (R : PlR S0 w p) (Q : PlR S1 w q) (h : p.V = q.V) :
    Calls Tryz.prog 76 #[.agg (plC p).toArray, .agg (plC q).toArray] w (Ret w fun v _ => v = .bool true) := by
  have G1 := R.jr
  have G2 := R.hr
  have G3 := R.dr
  have K1 := Q.jr
  have K2 := Q.hr
  have K3 := Q.dr
  have hcp := R.cap
  have hcp2 := R.cap.2.2.2
  have ec : p.cap = q.cap := congrArg S.PlV.cap h
  have e1 : p.js.map JbA.V = q.js.map JbA.V := congrArg S.PlV.js h
  have e2 : p.hs.map HdA.V = q.hs.map HdA.V := congrArg S.PlV.hs h
  have e3 : p.ds.map JdA.V = q.ds.map JdA.V := congrArg S.PlV.ds h
  have el2 : p.hn = q.hn := by have := congrArg List.length e2; rw [List.length_map, List.length_map, G2.len, K2.len] at this; exact this
  have el3 : p.dn = q.dn := by have := congrArg List.length e3; rw [List.length_map, List.length_map, G3.len, K3.len] at this; exact this
  refine J.enter 97 Tryz.func76 rfl rfl ?_
  refine run ?_
  refine J.box rfl rfl rfl fun b1 => ?_
  refine J.box rfl rfl rfl fun b2 => ?_
  refine run ?_
  refine J.spn rfl rfl rfl (fun c => absurd ec c) (fun _ => ?_)
  refine run ?_
  refine J.callp rfl rfl (fun w' M => refSameJobs _ _ _ _ _ _ _ _ w' (G1.ext M.ext) (K1.ext M.ext) (fun j hj => (R.ji j hj).ext M.ext) (fun j hj => (Q.ji j hj).ext M.ext) e1 (by omega)) ?_
  refine run ?_
  refine J.spn rfl rfl rfl (fun c => absurd (by rw [el2]) c) (fun _ => ?_)
  refine run ?_
  refine J.ifn rfl (fun c => absurd (by rw [el3]) c) (fun _ => ?_)
  refine run ?_
  refine J.loopS (A := Int) (fun i => [(5, .int .i64 i)]) [4, 6, 7, 40, 41, 42, 43, 44, 45, 46, 47, 48, 49, 50, 51, 52, 53, 54, 55, 56, 57, 58, 59, 60, 61, 62, 63, 64, 65, 66, 67, 68, 69, 70, 71, 72, 73, 74, 75, 76, 77, 78, 79] (fun i => 0 ≤ i ∧ i ≤ p.hn) (fun i => p.hn - i.toNat) 0 (by kernel_rfl) ⟨by omega, by omega⟩ (fun i j hI => ?_)
  refine run ?_
  refine J.ifd rfl (fun d1 => ?_) (fun d1 => ?_)
  · obtain ⟨z, hz⟩ := G2.ex (i := i) (by omega)
    obtain ⟨y, hy⟩ := K2.ex (i := i) (by omega)
    have e := lAt e2 hz hy
    have es : z.s = y.s := congrArg S.HdV.s e
    have ejt : z.jt = y.jt := congrArg S.HdV.jt e
    have ebs : z.bs = y.bs := congrArg S.HdV.b e
    have ejj : z.j.V = y.j.V := congrArg S.HdV.j e
    have ejb : ([⟨z.jt, z.ba, z.bn, z.bc, z.bs⟩] : List JbA).map JbA.V = ([⟨y.jt, y.ba, y.bn, y.bc, y.bs⟩] : List JbA).map JbA.V := by simp [JbA.V, ejt, ebs]
    have ZR := R.h hz
    have YR := Q.h hy
    refine run ?_
    refine J.regionT [.blk b2 (plC q) 146, .blk b1 (plC p) 146] (.br [(0, .q), (1, .q), (2, .q), (3, .q), (4, .q), (5, .q), (6, .q), (7, .q), (8, .q), (9, .q)] 10 (.fin [(11, .e), (12, .e), (13, .e)]) 11 (.fin [(10, .e), (12, .e), (13, .e)])) mixed (by kernel_rfl) (by repeat (first | exact List.Sublist.refl _ | refine List.Sublist.cons_cons _ ?_ | refine List.Sublist.cons _ ?_)) ?_
    refine run ?_
    refine J.nil (J.kt ?_ ?_)
    · refine J.alloc rfl fun b3 => ?_
      refine run ?_
      refine J.alloc rfl fun b4 => ?_
      refine run ?_
      refine J.spn rfl rfl rfl (fun c => absurd es c) (fun _ => ?_)
      refine run ?_
      refine J.b1G jbC ⟨z.jt, z.ba, z.bn, z.bc, z.bs⟩ jbC_len rfl rfl rfl fun b5 => ?_
      refine run ?_
      refine J.b1G jbC ⟨y.jt, y.ba, y.bn, y.bc, y.bs⟩ jbC_len rfl rfl rfl fun b6 => ?_
      refine run ?_
      refine J.callp rfl rfl (fun w' M => (RG.own' (a := some ⟨b5, 0, none⟩) w' M).elim fun _ k0 => (RG.own' (a := some ⟨b6, 0, none⟩) w' M).elim fun _ k1 => refSameJobs _ _ _ _ _ _ _ _ w' k0 k1 (fun j hj => by rw [List.mem_singleton] at hj; subst hj; exact ⟨⟨ZR.k.cap, ZR.k.n⟩, ZR.row.ext M.ext⟩) (fun j hj => by rw [List.mem_singleton] at hj; subst hj; exact ⟨⟨YR.k.cap, YR.k.n⟩, YR.row.ext M.ext⟩) ejb (by decide)) ?_
      refine run ?_
      refine J.ldp rfl ?_ (hv := hdC_jd z.j.h) (hn := jdC_len' z.j)
      refine run ?_
      refine J.ldp rfl ?_ (hv := hdC_jd y.j.h) (hn := jdC_len' y.j)
      refine run ?_
      refine J.callp rfl rfl (fun w' M => refSameJdT z.j y.j w' (ZR.j.ext M.ext) (YR.j.ext M.ext) ejj) ?_
      refine run ?_
      exact J.nextS (i + 1) ⟨rfl, trivial⟩ (by kernel_rfl) ⟨by omega, by omega⟩ (by omega)
    · refine J.alloc rfl fun b4 => ?_
      refine run ?_
      refine J.alloc rfl fun b3 => ?_
      refine run ?_
      refine J.spn rfl rfl rfl (fun c => absurd es c) (fun _ => ?_)
      refine run ?_
      refine J.b1G jbC ⟨z.jt, z.ba, z.bn, z.bc, z.bs⟩ jbC_len rfl rfl rfl fun b5 => ?_
      refine run ?_
      refine J.b1G jbC ⟨y.jt, y.ba, y.bn, y.bc, y.bs⟩ jbC_len rfl rfl rfl fun b6 => ?_
      refine run ?_
      refine J.callp rfl rfl (fun w' M => (RG.own' (a := some ⟨b5, 0, none⟩) w' M).elim fun _ k0 => (RG.own' (a := some ⟨b6, 0, none⟩) w' M).elim fun _ k1 => refSameJobs _ _ _ _ _ _ _ _ w' k0 k1 (fun j hj => by rw [List.mem_singleton] at hj; subst hj; exact ⟨⟨ZR.k.cap, ZR.k.n⟩, ZR.row.ext M.ext⟩) (fun j hj => by rw [List.mem_singleton] at hj; subst hj; exact ⟨⟨YR.k.cap, YR.k.n⟩, YR.row.ext M.ext⟩) ejb (by decide)) ?_
      refine run ?_
      refine J.ldp rfl ?_ (hv := hdC_jd z.j.h) (hn := jdC_len' z.j)
      refine run ?_
      refine J.ldp rfl ?_ (hv := hdC_jd y.j.h) (hn := jdC_len' y.j)
      refine run ?_
      refine J.callp rfl rfl (fun w' M => refSameJdT z.j y.j w' (ZR.j.ext M.ext) (YR.j.ext M.ext) ejj) ?_
      refine run ?_
      exact J.nextS (i + 1) ⟨rfl, trivial⟩ (by kernel_rfl) ⟨by omega, by omega⟩ (by omega)
  refine run ?_
  refine J.loopS (A := Int) (fun i => [(8, .int .i64 i)]) [4, 80, 81, 82, 83, 84, 85, 86, 87, 88, 89, 90, 91, 92, 93, 94, 95, 96, 97, 98] (fun i => 0 ≤ i ∧ i ≤ p.dn) (fun i => p.dn - i.toNat) 0 (by kernel_rfl) ⟨by omega, by omega⟩ (fun i j hI => ?_)
  refine run ?_
  refine J.ifd rfl (fun d1 => ?_) (fun d1 => ?_)
  · obtain ⟨z, hz⟩ := G3.ex (i := i) (by omega)
    obtain ⟨y, hy⟩ := K3.ex (i := i) (by omega)
    have e := lAt e3 hz hy
    have ZR := R.d hz
    have YR := Q.d hy
    refine run ?_
    refine J.regionX [(0, .q), (1, .q), (2, .q), (3, .q), (4, .q), (5, .q), (6, .q), (7, .q), (8, .q), (9, .q), (10, .e), (11, .q)] mixed (by kernel_rfl) ?_
    refine run ?_
    refine J.callp rfl rfl (fun w' M => refSameJdT z y w' (ZR.ext M.ext) (YR.ext M.ext) e) ?_
    refine run ?_
    exact J.nextS (i + 1) ⟨rfl, trivial⟩ (by kernel_rfl) ⟨by omega, by omega⟩ (by omega)
  refine run ?_
  exact J.fin rfl
theorem refPGreat {S0 : Nat → Prop} (p : PlA) (w : World) (G : PlI S0 w p) :
    Calls Tryz.prog 68 #[.agg (plC p).toArray] w (Gv w (fun q : Bool => .bool q) (fun _ => []) fun q => q = false → PlB p) := by
  have G1 := G.jr
  have G2 := G.hr
  have G3 := G.dr
  have hl1 := G1.len
  have hl2 := G2.len
  have hl3 := G3.len
  have hcp := G.cap
  refine J.enter 88 Tryz.func68 rfl rfl ?_
  refine run ?_
  refine J.box rfl rfl rfl fun b1 => ?_
  refine run ?_
  refine J.spd rfl rfl rfl (fun c1 => ?_) (fun c1 => ?_)
  · skip
    refine run ?_
    exact J.finG true rfl (fun h => by cases h) (List.nil_sublist _)
  refine run ?_
  refine J.spd rfl rfl rfl (fun c2 => ?_) (fun c2 => ?_)
  · skip
    refine run ?_
    exact J.finG true rfl (fun h => by cases h) (List.nil_sublist _)
  refine run ?_
  refine J.spd rfl rfl rfl (fun c3 => ?_) (fun c3 => ?_)
  · refine run ?_
    refine J.spd rfl rfl rfl (fun c4 => ?_) (fun c4 => ?_)
    · skip
      refine run ?_
      exact J.finG true rfl (fun h => by cases h) (List.nil_sublist _)
    refine run ?_
    refine J.ifd rfl (fun c5 => ?_) (fun c5 => ?_)
    · skip
      refine run ?_
      exact J.finG true rfl (fun h => by cases h) (List.nil_sublist _)
    have hdn : p.dn ≤ 100 := by omega
    refine run ?_
    refine J.loopS (A := Int) (fun i => [(3, .int .i64 i)]) [2, 34, 35, 36, 37, 38, 39, 40, 41, 42, 43, 44, 45, 46, 47, 48] (fun i => (0 ≤ i ∧ i ≤ p.jn) ∧ ∀ (k : Nat) (z : JbA), k < i.toNat → p.js[k]? = some z → z.n ≤ 600) (fun i => p.jn - i.toNat) 0 (by kernel_rfl) ⟨by omega, fun k z hk => by omega⟩ (fun i j hI => ?_)
    obtain ⟨hi, hI⟩ := hI
    refine run ?_
    refine J.ifd rfl (fun d1 => ?_) (fun d1 => ?_)
    · obtain ⟨z, hz⟩ := G1.ex (i := i) (by omega)
      refine run ?_
      refine J.ifd rfl (fun d2 => ?_) (fun d2 => ?_)
      · skip
        refine run ?_
        exact J.finG true rfl (fun h => by cases h) (List.nil_sublist _)
      refine run ?_
      refine J.nextS (i + 1) ⟨rfl, trivial⟩ (by kernel_rfl) ⟨by omega, fun k y hk hy => ?_⟩ (by omega)
      rcases Nat.lt_or_ge k i.toNat with e | e
      · exact hI k y e hy
      · obtain rfl : k = i.toNat := by omega
        rw [hz] at hy
        cases hy
        omega
    have kj : ∀ z ∈ p.js, z.n ≤ 600 := fun z hz => by
      obtain ⟨k, hk⟩ := List.mem_iff_getElem?.1 hz
      have := (List.getElem?_eq_some_iff.1 hk).1
      exact hI k z (by omega) hk
    clear hI hi d1
    refine run ?_
    refine J.loopS (A := Int) (fun i => [(4, .int .i64 i)]) [2, 49, 50, 51, 52, 53, 54, 55, 56, 57, 58, 59, 60, 61, 62, 63, 64, 65, 66, 67, 68, 69, 70, 71, 72, 73, 74] (fun i => (0 ≤ i ∧ i ≤ p.hn) ∧ ∀ (k : Nat) (z : HdA), k < i.toNat → p.hs[k]? = some z → z.bn ≤ 600 ∧ z.j.o.o.n ≤ 40 ∧ z.j.o.o.key.size ≤ 100 ∧ z.j.o.o.t.size ≤ 100) (fun i => p.hn - i.toNat) 0 (by kernel_rfl) ⟨by omega, fun k z hk => by omega⟩ (fun i j hI => ?_)
    obtain ⟨hi, hI⟩ := hI
    refine run ?_
    refine J.ifd rfl (fun d1 => ?_) (fun d1 => ?_)
    · obtain ⟨z, hz⟩ := G2.ex (i := i) (by omega)
      refine run ?_
      refine J.spd rfl rfl rfl (fun d2 => ?_) (fun d2 => ?_)
      · skip
        refine run ?_
        exact J.finG true rfl (fun h => by cases h) (List.nil_sublist _)
      refine J.want rfl rfl rfl ?_
      refine J.fl rfl rfl ?_
      refine J.want rfl rfl rfl ?_
      refine J.ld rfl ?_
      refine J.want rfl rfl rfl ?_
      refine J.mv rfl ?_
      refine J.want rfl rfl rfl ?_
      refine J.idxG rfl rfl (RG.arg G2) ?_
      refine J.want rfl rfl rfl ?_
      refine J.flG rfl (RG.arg G2) ?_
      refine J.want rfl rfl rfl ?_
      refine J.flGG rfl (RG.arg G2) ?_
      refine J.want rfl rfl rfl ?_
      refine J.ldGa rfl (RG.arg G2) ?_ (q := z) (hf := show ((hdC z).drop 5).take 11 = opC z.j.o from rfl)
      refine J.want rfl rfl rfl ?_
      refine J.call rfl rfl (fun w' M => pLong z.j.o w') fun b hb => ?_
      refine run ?_
      cases b with
      | true =>
        refine run ?_
        exact J.finG true rfl (fun h => by cases h) (List.nil_sublist _)
      | false =>
        have hb := hb rfl
        refine run ?_
        refine J.nextS (i + 1) ⟨rfl, trivial⟩ (by kernel_rfl) ⟨by omega, fun k y hk hy => ?_⟩ (by omega)
        rcases Nat.lt_or_ge k i.toNat with e | e
        · exact hI k y e hy
        · obtain rfl : k = i.toNat := by omega
          rw [hz] at hy
          cases hy
          exact ⟨by omega, hb⟩
    have kh : ∀ z ∈ p.hs, z.bn ≤ 600 ∧ z.j.o.o.n ≤ 40 ∧ z.j.o.o.key.size ≤ 100 ∧ z.j.o.o.t.size ≤ 100 := fun z hz => by
      obtain ⟨k, hk⟩ := List.mem_iff_getElem?.1 hz
      have := (List.getElem?_eq_some_iff.1 hk).1
      exact hI k z (by omega) hk
    clear hI hi d1
    refine run ?_
    refine J.loopS (A := Int) (fun i => [(5, .int .i64 i)]) [2, 75, 76, 77, 78, 79, 80, 81, 82, 83, 84, 85, 86, 87, 88] (fun i => (0 ≤ i ∧ i ≤ p.dn) ∧ ∀ (k : Nat) (z : JdA), k < i.toNat → p.ds[k]? = some z → z.o.o.n ≤ 40 ∧ z.o.o.key.size ≤ 100 ∧ z.o.o.t.size ≤ 100) (fun i => p.dn - i.toNat) 0 (by kernel_rfl) ⟨by omega, fun k z hk => by omega⟩ (fun i j hI => ?_)
    obtain ⟨hi, hI⟩ := hI
    refine run ?_
    refine J.ifd rfl (fun d1 => ?_) (fun d1 => ?_)
    · obtain ⟨z, hz⟩ := G3.ex (i := i) (by omega)
      repeat (first | refine J.skip ?_ | refine J.thn ?_ | refine J.sq ?_ | refine J.block ?_)
      refine J.region ?_
      refine J.fl rfl rfl ?_
      refine J.ld rfl ?_
      refine J.mv rfl ?_
      refine J.idxG rfl rfl (RG.arg G3) ?_
      refine J.flG rfl (RG.arg G3) ?_
      refine J.ldGa rfl (RG.arg G3) ?_ (q := z) (hf := show ((jdC z).drop 2).take 11 = opC z.o from rfl)
      refine J.call rfl rfl (fun w' M => pLong z.o w') fun b hb => ?_
      refine run ?_
      cases b with
      | true =>
        refine run ?_
        exact J.finG true rfl (fun h => by cases h) (List.nil_sublist _)
      | false =>
        have hb := hb rfl
        refine run ?_
        refine J.nextS (i + 1) ⟨rfl, trivial⟩ (by kernel_rfl) ⟨by omega, fun k y hk hy => ?_⟩ (by omega)
        rcases Nat.lt_or_ge k i.toNat with e | e
        · exact hI k y e hy
        · obtain rfl : k = i.toNat := by omega
          rw [hz] at hy
          cases hy
          exact hb
    have kd : ∀ z ∈ p.ds, z.o.o.n ≤ 40 ∧ z.o.o.key.size ≤ 100 ∧ z.o.o.t.size ≤ 100 := fun z hz => by
      obtain ⟨k, hk⟩ := List.mem_iff_getElem?.1 hz
      have := (List.getElem?_eq_some_iff.1 hk).1
      exact hI k z (by omega) hk
    refine run ?_
    exact J.finG false rfl (fun _ => ⟨kj, kh, kd, by omega, by omega, by omega⟩) (List.nil_sublist _)
  · refine run ?_
    refine J.ifd rfl (fun c5 => ?_) (fun c5 => ?_)
    · skip
      refine run ?_
      exact J.finG true rfl (fun h => by cases h) (List.nil_sublist _)
    have hdn : p.dn ≤ 100 := by omega
    refine run ?_
    refine J.loopS (A := Int) (fun i => [(3, .int .i64 i)]) [2, 34, 35, 36, 37, 38, 39, 40, 41, 42, 43, 44, 45, 46, 47, 48] (fun i => (0 ≤ i ∧ i ≤ p.jn) ∧ ∀ (k : Nat) (z : JbA), k < i.toNat → p.js[k]? = some z → z.n ≤ 600) (fun i => p.jn - i.toNat) 0 (by kernel_rfl) ⟨by omega, fun k z hk => by omega⟩ (fun i j hI => ?_)
    obtain ⟨hi, hI⟩ := hI
    refine run ?_
    refine J.ifd rfl (fun d1 => ?_) (fun d1 => ?_)
    · obtain ⟨z, hz⟩ := G1.ex (i := i) (by omega)
      refine run ?_
      refine J.ifd rfl (fun d2 => ?_) (fun d2 => ?_)
      · skip
        refine run ?_
        exact J.finG true rfl (fun h => by cases h) (List.nil_sublist _)
      refine run ?_
      refine J.nextS (i + 1) ⟨rfl, trivial⟩ (by kernel_rfl) ⟨by omega, fun k y hk hy => ?_⟩ (by omega)
      rcases Nat.lt_or_ge k i.toNat with e | e
      · exact hI k y e hy
      · obtain rfl : k = i.toNat := by omega
        rw [hz] at hy
        cases hy
        omega
    have kj : ∀ z ∈ p.js, z.n ≤ 600 := fun z hz => by
      obtain ⟨k, hk⟩ := List.mem_iff_getElem?.1 hz
      have := (List.getElem?_eq_some_iff.1 hk).1
      exact hI k z (by omega) hk
    clear hI hi d1
    refine run ?_
    refine J.loopS (A := Int) (fun i => [(4, .int .i64 i)]) [2, 49, 50, 51, 52, 53, 54, 55, 56, 57, 58, 59, 60, 61, 62, 63, 64, 65, 66, 67, 68, 69, 70, 71, 72, 73, 74] (fun i => (0 ≤ i ∧ i ≤ p.hn) ∧ ∀ (k : Nat) (z : HdA), k < i.toNat → p.hs[k]? = some z → z.bn ≤ 600 ∧ z.j.o.o.n ≤ 40 ∧ z.j.o.o.key.size ≤ 100 ∧ z.j.o.o.t.size ≤ 100) (fun i => p.hn - i.toNat) 0 (by kernel_rfl) ⟨by omega, fun k z hk => by omega⟩ (fun i j hI => ?_)
    obtain ⟨hi, hI⟩ := hI
    refine run ?_
    refine J.ifd rfl (fun d1 => ?_) (fun d1 => ?_)
    · obtain ⟨z, hz⟩ := G2.ex (i := i) (by omega)
      refine run ?_
      refine J.spd rfl rfl rfl (fun d2 => ?_) (fun d2 => ?_)
      · skip
        refine run ?_
        exact J.finG true rfl (fun h => by cases h) (List.nil_sublist _)
      refine J.want rfl rfl rfl ?_
      refine J.fl rfl rfl ?_
      refine J.want rfl rfl rfl ?_
      refine J.ld rfl ?_
      refine J.want rfl rfl rfl ?_
      refine J.mv rfl ?_
      refine J.want rfl rfl rfl ?_
      refine J.idxG rfl rfl (RG.arg G2) ?_
      refine J.want rfl rfl rfl ?_
      refine J.flG rfl (RG.arg G2) ?_
      refine J.want rfl rfl rfl ?_
      refine J.flGG rfl (RG.arg G2) ?_
      refine J.want rfl rfl rfl ?_
      refine J.ldGa rfl (RG.arg G2) ?_ (q := z) (hf := show ((hdC z).drop 5).take 11 = opC z.j.o from rfl)
      refine J.want rfl rfl rfl ?_
      refine J.call rfl rfl (fun w' M => pLong z.j.o w') fun b hb => ?_
      refine run ?_
      cases b with
      | true =>
        refine run ?_
        exact J.finG true rfl (fun h => by cases h) (List.nil_sublist _)
      | false =>
        have hb := hb rfl
        refine run ?_
        refine J.nextS (i + 1) ⟨rfl, trivial⟩ (by kernel_rfl) ⟨by omega, fun k y hk hy => ?_⟩ (by omega)
        rcases Nat.lt_or_ge k i.toNat with e | e
        · exact hI k y e hy
        · obtain rfl : k = i.toNat := by omega
          rw [hz] at hy
          cases hy
          exact ⟨by omega, hb⟩
    have kh : ∀ z ∈ p.hs, z.bn ≤ 600 ∧ z.j.o.o.n ≤ 40 ∧ z.j.o.o.key.size ≤ 100 ∧ z.j.o.o.t.size ≤ 100 := fun z hz => by
      obtain ⟨k, hk⟩ := List.mem_iff_getElem?.1 hz
      have := (List.getElem?_eq_some_iff.1 hk).1
      exact hI k z (by omega) hk
    clear hI hi d1
    refine run ?_
    refine J.loopS (A := Int) (fun i => [(5, .int .i64 i)]) [2, 75, 76, 77, 78, 79, 80, 81, 82, 83, 84, 85, 86, 87, 88] (fun i => (0 ≤ i ∧ i ≤ p.dn) ∧ ∀ (k : Nat) (z : JdA), k < i.toNat → p.ds[k]? = some z → z.o.o.n ≤ 40 ∧ z.o.o.key.size ≤ 100 ∧ z.o.o.t.size ≤ 100) (fun i => p.dn - i.toNat) 0 (by kernel_rfl) ⟨by omega, fun k z hk => by omega⟩ (fun i j hI => ?_)
    obtain ⟨hi, hI⟩ := hI
    refine run ?_
    refine J.ifd rfl (fun d1 => ?_) (fun d1 => ?_)
    · obtain ⟨z, hz⟩ := G3.ex (i := i) (by omega)
      repeat (first | refine J.skip ?_ | refine J.thn ?_ | refine J.sq ?_ | refine J.block ?_)
      refine J.region ?_
      refine J.fl rfl rfl ?_
      refine J.ld rfl ?_
      refine J.mv rfl ?_
      refine J.idxG rfl rfl (RG.arg G3) ?_
      refine J.flG rfl (RG.arg G3) ?_
      refine J.ldGa rfl (RG.arg G3) ?_ (q := z) (hf := show ((jdC z).drop 2).take 11 = opC z.o from rfl)
      refine J.call rfl rfl (fun w' M => pLong z.o w') fun b hb => ?_
      refine run ?_
      cases b with
      | true =>
        refine run ?_
        exact J.finG true rfl (fun h => by cases h) (List.nil_sublist _)
      | false =>
        have hb := hb rfl
        refine run ?_
        refine J.nextS (i + 1) ⟨rfl, trivial⟩ (by kernel_rfl) ⟨by omega, fun k y hk hy => ?_⟩ (by omega)
        rcases Nat.lt_or_ge k i.toNat with e | e
        · exact hI k y e hy
        · obtain rfl : k = i.toNat := by omega
          rw [hz] at hy
          cases hy
          exact hb
    have kd : ∀ z ∈ p.ds, z.o.o.n ≤ 40 ∧ z.o.o.key.size ≤ 100 ∧ z.o.o.t.size ≤ 100 := fun z hz => by
      obtain ⟨k, hk⟩ := List.mem_iff_getElem?.1 hz
      have := (List.getElem?_eq_some_iff.1 hk).1
      exact hI k z (by omega) hk
    refine run ?_
    exact J.finG false rfl (fun _ => ⟨kj, kh, kd, by omega, by omega, by omega⟩) (List.nil_sublist _)
theorem jdR_own {S0 : Nat → Prop} {w0 : World} {L : List Ent} {d : JdA} {F : Ent → List Ent} [R : RE L (jdE d) F] (K : JdK d) (w : World) (M : Mem S0 w0 L w) : ∃ S, JdR S w d := by
  obtain ⟨A, _, a⟩ := M.get (R.h (jdE d)).same
  exact ⟨A, jdR_e K a⟩
instance : Ents Tryz.prog 68 := ⟨.mk Tryz.func68 (by kernel_rfl) rfl⟩
instance : Ents Tryz.prog 70 := ⟨.mk Tryz.func70 (by kernel_rfl) rfl⟩
instance : Ents Tryz.prog 71 := ⟨.mk Tryz.func71 (by kernel_rfl) rfl⟩
instance : Ents Tryz.prog 72 := ⟨.mk Tryz.func72 (by kernel_rfl) rfl⟩
instance : Ents Tryz.prog 73 := ⟨.mk Tryz.func73 (by kernel_rfl) rfl⟩
instance : Ents Tryz.prog 74 := ⟨.mk Tryz.func74 (by kernel_rfl) rfl⟩
instance : Ents Tryz.prog 75 := ⟨.mk Tryz.func75 (by kernel_rfl) rfl⟩
instance : Ents Tryz.prog 76 := ⟨.mk Tryz.func76 (by kernel_rfl) rfl⟩
theorem poolDoes {S0 S1 : Nat → Prop} (n k : Int) (p : PlA) (t : Int) (a : Option Addr) (m c : Nat) (xs : List Int) (TK : TypeId) (w : World) (K0 : Kst w TK) (G : PlI S0 w p) (D : IRow .u8 S1 w a m xs) (hc : m ≤ c) :
    Calls Tryz.prog 9 #[.int .i64 n, .int .i64 k, .agg (plC p).toArray, .int .i64 t, .slice a m c] w (Ret w fun v _ => v = .bool true) := by
  refine J.enter 117 Tryz.func9 rfl rfl ?_
  refine run ?_
  refine J.box rfl rfl rfl fun b1 => ?_
  refine run ?_
  refine J.call rfl rfl (fun w' M => refPGreat p w' (G.ext M.ext)) fun g hg => ?_
  refine run ?_
  cases g with
  | true =>
    refine run ?_
    exact J.fin rfl
  | false =>
  have R := plR_i G (hg rfl)
  refine run ?_
  refine J.ifd rfl (fun c1 => ?_) (fun c1 => ?_)
  · refine run ?_
    exact J.fin rfl
  have RJ : JbR S1 w ⟨t, a, m, c, xs⟩ := ⟨⟨hc, by show m ≤ 600; omega⟩, D⟩
  refine run ?_
  refine J.call rfl rfl (fun w' M => refPTwin p w' (R.ext M.ext)) fun q hq => ?_
  refine run ?_
  refine J.alloc rfl fun b2 => ?_
  refine run ?_
  refine J.call rfl rfl (fun w' M => poolNew n k w') fun u1 hu1 => ?_
  obtain ⟨u1, e1⟩ := u1
  obtain ⟨hu1, he1⟩ := hu1
  dsimp only at hu1 he1 ⊢
  subst he1
  refine run ?_
  refine J.alloc rfl fun b3 => ?_
  refine run ?_
  refine J.call rfl rfl (fun w' M => refNew n k w') fun u2 hu2 => ?_
  obtain ⟨u2, e2⟩ := u2
  obtain ⟨hu2, he2⟩ := hu2
  dsimp only at hu2 he2 ⊢
  subst he2
  refine run ?_
  refine J.alloc rfl fun b4 => ?_
  refine run ?_
  refine J.call rfl rfl (fun w' M => poolPut q ⟨t, a, m, c, xs⟩ TK w' (K0.ext M.ext) (PlR.own hq w' M) (RJ.ext M.ext)) fun u3 hu3 => ?_
  obtain ⟨u3, e3⟩ := u3
  obtain ⟨hu3, he3⟩ := hu3
  dsimp only at hu3 he3 ⊢
  rw [hq.V] at hu3 he3
  subst he3
  refine run ?_
  refine J.alloc rfl fun b5 => ?_
  refine run ?_
  refine J.call rfl rfl (fun w' M => refPPut p ⟨t, a, m, c, xs⟩ w' (R.ext M.ext) (RJ.ext M.ext)) fun u4 hu4 => ?_
  obtain ⟨u4, e4⟩ := u4
  obtain ⟨hu4, he4⟩ := hu4
  dsimp only at hu4 he4 ⊢
  subst he4
  refine run ?_
  refine J.alloc rfl fun b6 => ?_
  refine run ?_
  refine J.call rfl rfl (fun w' M => poolTake q t TK w' (K0.ext M.ext) (PlR.own hq w' M)) fun u5 hu5 => ?_
  rw [hq.V] at hu5
  obtain ⟨u5, z5, e5⟩ := u5
  obtain ⟨hp5, hj5, hk5, he5⟩ := hu5
  dsimp only at hp5 hj5 hk5 he5 ⊢
  subst he5
  refine run ?_
  refine J.alloc rfl fun b7 => ?_
  refine J.alloc rfl fun b8 => ?_
  refine run ?_
  refine J.call rfl rfl (fun w' M => refPTake p t w' (R.ext M.ext)) fun u6 hu6 => ?_
  obtain ⟨u6, z6, e6⟩ := u6
  obtain ⟨hp6, hj6, hk6, he6⟩ := hu6
  dsimp only at hp6 hj6 hk6 he6 ⊢
  subst he6
  refine run ?_
  refine J.alloc rfl fun b9 => ?_
  refine J.alloc rfl fun b10 => ?_
  refine run ?_
  refine J.regionX [(0, .q), (1, .q), (2, .e), (3, .q), (4, .q), (5, .q), (6, .q), (7, .q), (8, .q), (9, .q), (11, .q), (10, .e), (12, .e), (13, .q), (14, .q), (15, .q), (16, .q), (17, .q), (18, .e), (19, .q), (20, .q), (21, .q), (22, .q), (23, .q), (24, .q), (25, .q), (26, .q), (27, .q), (28, .e), (29, .q), (30, .q), (31, .q), (32, .q), (33, .e), (34, .q), (35, .q), (36, .q), (37, .q), (38, .q), (39, .q), (40, .q), (41, .q), (42, .q), (43, .e), (44, .q), (45, .q)] mixed (by kernel_rfl) ?_
  refine run ?_
  refine J.callp rfl rfl (fun w' M => refPSame u1 u2 w' (PlR.own hu1 w' M) (PlR.own hu2 w' M) (hu1.V.trans hu2.V.symm)) ?_
  refine run ?_
  refine J.spe rfl rfl rfl (fun _ => ?_) (fun c => absurd rfl c)
  refine run ?_
  refine J.callp rfl rfl (fun w' M => (by have := poolCheck q TK w' (K0.ext M.ext) (PlR.own hq w' M); rwa [hq.V] at this)) ?_
  refine run ?_
  refine J.callp rfl rfl (fun w' M => refPCheck p w' (R.ext M.ext)) ?_
  refine run ?_
  refine J.spe rfl rfl rfl (fun _ => ?_) (fun c => absurd rfl c)
  refine run ?_
  refine J.callp rfl rfl (fun w' M => refPSame u3 u4 w' (PlR.own hu3 w' M) (PlR.own hu4 w' M) (hu3.V.trans hu4.V.symm)) ?_
  refine run ?_
  refine J.spe rfl rfl rfl (fun _ => ?_) (fun c => absurd rfl c)
  refine run ?_
  refine J.callp rfl rfl (fun w' M => refPSame u5 u6 w' (PlR.own hp5 w' M) (PlR.own hp6 w' M) (hp5.V.trans hp6.V.symm)) ?_
  refine run ?_
  refine J.callp rfl rfl (fun w' M => (jdR_own hk5 w' M).elim fun _ k5 => (jdR_own hk6 w' M).elim fun _ k6 => refSameJdT z5 z6 w' k5 k6 (hj5.trans hj6.symm)) ?_
  refine run ?_
  refine J.spe rfl rfl rfl (fun _ => ?_) (fun c => absurd rfl c)
  refine run ?_
  refine J.callp rfl rfl (fun w' M => refPSame q p w' (PlR.own hq w' M) (R.ext M.ext) hq.V) ?_
  refine run ?_
  exact J.fin rfl
end Go.Proofs.YtkmaenmhcgohbaaGreatDoor.W
