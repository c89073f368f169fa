/-
  Part 14 of the lemmas of these laws: ShardPuts.
-/
import Derived.Test.YtkmgnmebadghbaaGreatDoorPSp13
set_option linter.unusedSimpArgs false
namespace Go.Proofs.YtkmgnmebadghbaaGreatDoor.S
open G
set_option linter.unusedVariables false
/-! ### ids by what is among them -/
def idG (n : Nat) (l : List Int) : PG := ⟨n, l, List.replicate n OpV.zero⟩
theorem idG_has {n : Nat} {l x : List Int} {o : OpV} : (idG n l).has x o ↔ inS n l x ∧ o = OpV.zero := by
 constructor
 ·rintro ⟨i, hi, e1, e2⟩
  have hi' : i < n := hi
  refine ⟨⟨i, hi', e1⟩, ?_⟩
  rw [← e2]
  show (List.replicate n OpV.zero).getD i OpV.zero = _
  rw [getD_at (by rw [List.length_replicate]; exact hi'), List.getElem_replicate]
 ·rintro ⟨⟨i, hi, e1⟩, rfl⟩
  refine ⟨i, hi, e1, ?_⟩
  show (List.replicate n OpV.zero).getD i OpV.zero = _
  rw [getD_at (by rw [List.length_replicate]; exact hi), List.getElem_replicate]
theorem idG_good {n : Nat} {l : List Int} (h : l.length = 32 * n) : (idG n l).good := ⟨h, List.length_replicate⟩
theorem idsG_ext {n k : Nat} {l q : List Int} (hl : l.length = 32 * n) (hq : q.length = 32 * k) (rl : Rising n l) (rq : Rising k q) (h : ∀ x, inS n l x ↔ inS k q x) : n = k ∧ l = q := by
 have e : idG n l = idG k q := PG.ext_has (idG_good hl) (idG_good hq) rl rq fun x o => by rw [idG_has, idG_has, h]
 exact ⟨congrArg PG.m e, congrArg PG.ids e⟩
/-! ### heads -/
theorem hd_all {g : PG} (hg : g.fine) : (hdI g).length = 32 * hdN g ∧ Rising (hdN g) (hdI g) ∧ ∀ y, inS (hdN g) (hdI g) y ↔ inS g.m g.ids y ∧ ∀ x u, g.has x u → ¬ inS u.n u.ids y := by
 obtain ⟨h1, h2, h3⟩ := sel_all (f := hdF g.m g.ids g.ops) hg.good hg.rising g.m (Nat.le_refl _)
 refine ⟨h1.1, h2, fun y => ?_⟩
 have hop : opensS g.m g.ids g.ops := fun i hi => by
  intro j hj
  exact hg.opens _ _ ⟨i, by rw [← hg.good.2]; exact hi, rfl, rfl⟩ j hj
 have named : ∀ i, i < g.m → (i ∈ namI (prS g.m g.ids g.ops) g.ops.length ↔ ∃ x u, g.has x u ∧ inS u.n u.ids (idAt g.ids i)) := fun i hi => by
  unfold namI
  rw [List.mem_flatMap]
  constructor
  ·rintro ⟨k, hk, hm⟩
   have hk := List.mem_range.1 hk
   exact ⟨idAt g.ids k, g.ops.getD k OpV.zero, ⟨k, by rw [← hg.good.2]; exact hk, rfl, rfl⟩, (mem_pr hg.rising (hop k hk) hi).1 hm⟩
  ·rintro ⟨x, u, ⟨k, hk, e1, e2⟩, hm⟩
   have hk' : k < g.ops.length := by rw [hg.good.2]; exact hk
   refine ⟨k, List.mem_range.2 hk', (mem_pr hg.rising (hop k hk') hi).2 ?_⟩
   rw [e2]
   exact hm
 refine (has_in (g := selP (hdF g.m g.ids g.ops) g g.m)).trans ⟨fun ⟨o, ho⟩ => ?_, fun ⟨⟨i, hi, e⟩, hn⟩ => ?_⟩
 ·obtain ⟨k, hk, hf, e, _⟩ := (h3 _ _).1 ho
  have hf := of_decide_eq_true hf
  refine ⟨⟨k, hk, e⟩, fun x u hu hi => hf ((named k hk).2 ⟨x, u, hu, ?_⟩)⟩
  rw [e]
  exact hi
 ·refine ⟨_, (h3 _ _).2 ⟨i, hi, decide_eq_true fun hm => ?_, e, rfl⟩⟩
  obtain ⟨x, u, hu, hin⟩ := (named i hi).1 hm
  rw [e] at hin
  exact hn x u hu hin
def keepF (o : OpV) (hs : List Int) (i : Nat) : Bool := decide (¬ inS o.n o.ids (idAt hs i))
def kpN (o : OpV) (n : Nat) (hs : List Int) : Nat := numF (keepF o hs) n
def kpI (o : OpV) (n : Nat) (hs : List Int) : List Int := selF (keepF o hs) hs n
theorem kp_all {o : OpV} {n : Nat} {hs : List Int} (hl : hs.length = 32 * n) (hr : Rising n hs) : (kpI o n hs).length = 32 * kpN o n hs ∧ Rising (kpN o n hs) (kpI o n hs) ∧ ∀ y, inS (kpN o n hs) (kpI o n hs) y ↔ inS n hs y ∧ ¬ inS o.n o.ids y := by
 obtain ⟨h1, h2, h3⟩ := sel_all (f := keepF o hs) (g := idG n hs) (idG_good hl) hr n (Nat.le_refl _)
 refine ⟨h1.1, h2, fun y => (has_in (g := selP (keepF o hs) (idG n hs) n)).trans ⟨fun ⟨u, hu⟩ => ?_, fun ⟨⟨i, hi, e⟩, hn⟩ => ?_⟩⟩
 ·obtain ⟨k, hk, hf, e, _⟩ := (h3 _ _).1 hu
  have hf := of_decide_eq_true hf
  have e' : idAt hs k = y := e
  rw [e'] at hf
  exact ⟨⟨k, hk, e⟩, hf⟩
 ·refine ⟨_, (h3 _ _).2 ⟨i, hi, decide_eq_true ?_, e, rfl⟩⟩
  have e' : idAt hs i = y := e
  show ¬ inS o.n o.ids (idAt hs i)
  rw [e']
  exact hn
theorem hd_add {g : PG} {o : OpV} (hl : g.ids.length = 32 * g.m) (h : addE g o = 0) :
  hdN (addP g o) = kpN o (hdN g) (hdI g) + 1 ∧ hdI (addP g o) = insW (kpI o (hdN g) (hdI g)) (spotS (kpN o (hdN g) (hdI g)) (kpI o (hdN g) (hdI g)) (idOf o)) (idOf o) := by
 obtain ⟨hg, hn, hf, _, _, hh⟩ := add_fine hl h
 obtain ⟨_, _, _, hall, _⟩ := addE_zero.1 h
 obtain ⟨a1, a2, a3⟩ := hd_all hg
 obtain ⟨b1, b2, b3⟩ := hd_all hf
 obtain ⟨c1, c2, c3⟩ := kp_all (o := o) a1 a2
 have hx := idOf_len o
 have hk : (idG (kpN o (hdN g) (hdI g)) (kpI o (hdN g) (hdI g))).good := idG_good c1
 have hni : ¬ inS (kpN o (hdN g) (hdI g)) (kpI o (hdN g) (hdI g)) (idOf o) := fun k => hn ((a3 _).1 ((c3 _).1 k).1).1
 have p1 := (putP_good hk hx OpV.zero).1
 have p2 := putP_rising hk c2 hx hni OpV.zero
 refine idsG_ext b1 p1 b2 p2 fun y => ?_
 have e : inS (putP (idG (kpN o (hdN g) (hdI g)) (kpI o (hdN g) (hdI g))) (idOf o) OpV.zero).m (putP (idG (kpN o (hdN g) (hdI g)) (kpI o (hdN g) (hdI g))) (idOf o) OpV.zero).ids y ↔ inS (kpN o (hdN g) (hdI g)) (kpI o (hdN g) (hdI g)) y ∨ y = idOf o := putP_in hk hx OpV.zero
 refine (b3 y).trans (Iff.trans ?_ e.symm)
 rw [c3, a3]
 constructor
 ·rintro ⟨h1, h2⟩
  obtain ⟨u, hu⟩ := has_in.1 h1
  rcases (hh y u).1 hu with k | ⟨k, _⟩
  ·exact .inl ⟨⟨has_in.2 ⟨u, k⟩, fun x v hv => h2 x v ((hh x v).2 (.inl hv))⟩, h2 _ o ((hh _ o).2 (.inr ⟨rfl, rfl⟩))⟩
  ·exact .inr k
 ·rintro (⟨⟨h1, h2⟩, h3⟩ | rfl)
  ·obtain ⟨u, hu⟩ := has_in.1 h1
   refine ⟨has_in.2 ⟨u, (hh _ _).2 (.inl hu)⟩, fun x v hv => ?_⟩
   rcases (hh x v).1 hv with k | ⟨_, rfl⟩
   ·exact h2 x v k
   ·exact h3
  ·refine ⟨has_in.2 ⟨o, (hh _ _).2 (.inr ⟨rfl, rfl⟩)⟩, fun x v hv => ?_⟩
   rcases (hh x v).1 hv with k | ⟨_, rfl⟩
   ·rintro ⟨j, hj, e⟩
    exact hn (e ▸ hg.opens x v k j hj)
   ·rintro ⟨j, hj, e⟩
    exact hn (e ▸ hall j hj)
/-! ### parts -/
theorem setP_getD {α : Type} {l : List α} {d y : α} {k i : Nat} (hk : k < l.length) : (l.set k y).getD i d = if i = k then y else l.getD i d := by
 rw [List.getD_eq_getElem?_getD, List.getElem?_set, List.getD_eq_getElem?_getD]
 by_cases e : k = i
 ·subst e
  simp [hk]
 ·rw [if_neg e, if_neg fun h => e h.symm]
theorem made_put {v : ShV} {o : OpV} (hv : okP v) (h : addE (whole v.ps) o = 0) :
  madeS (addP (whole v.ps) o) v.ps.length = ⟨v.ps.set (resN v.ps (idOf o)) (putP (v.ps.getD (resN v.ps (idOf o)) PG.nil) (idOf o) o), kpN o (hdN (whole v.ps)) v.hs + 1, insW (kpI o (hdN (whole v.ps)) v.hs) (spotS (kpN o (hdN (whole v.ps)) v.hs) (kpI o (hdN (whole v.ps)) v.hs) (idOf o)) (idOf o), v.ver + 1⟩ := by
 obtain ⟨hn, hgp, hc, h2, h3⟩ := hv
 have hm := whole_mrg hgp
 have hl := hm.good.1
 obtain ⟨hg, hni, hf, hm1, _, hh⟩ := add_fine hl h
 obtain ⟨e1, e2⟩ := hd_add hl h
 obtain ⟨r1, r2⟩ := res_lt (ps := v.ps) (x := idOf o) (by omega)
 have hx := idOf_len o
 rw [h3, h2]
 unfold madeS
 rw [e1, e2, hm1]
 have ep : List.map (prtS (addP (whole v.ps) o) v.ps.length) (List.range v.ps.length) = v.ps.set (resN v.ps (idOf o)) (putP (v.ps.getD (resN v.ps (idOf o)) PG.nil) (idOf o) o) := by
  apply List.ext_getElem
  ·simp
  ·intro i hi hi'
   have hi2 : i < v.ps.length := by simpa using hi
   rw [List.getElem_map, List.getElem_range, ← getD_at (d := PG.nil) hi', setP_getD r2]
   obtain ⟨q1, q2, q3⟩ := prt_all (n := v.ps.length) (i := i) hf.good hf.rising
   have pi := hgp i hi2
   have pb := prt_back hgp hm hi2
   obtain ⟨s1, s2, s3⟩ := prt_all (n := v.ps.length) (i := i) hm.good hm.rise
   rw [pb] at s3
   by_cases e : i = resN v.ps (idOf o)
   ·rw [if_pos e]
    subst e
    have hnp : ¬ inS (v.ps.getD (resN v.ps (idOf o)) PG.nil).m (v.ps.getD (resN v.ps (idOf o)) PG.nil).ids (idOf o) := fun k => hni ((in_part hgp (by omega)).2 k)
    refine PG.ext_has q1 (putP_good pi.1 hx o) q2 (putP_rising pi.1 pi.2.1 hx hnp o) fun y u => ?_
    rw [q3, hh, putP_has pi.1 hx, s3]
    constructor
    ·rintro ⟨k | k, hr⟩
     ·exact .inl ⟨k, hr⟩
     ·exact .inr k
    ·rintro (⟨k, hr⟩ | ⟨rfl, rfl⟩)
     ·exact ⟨.inl k, hr⟩
     ·exact ⟨.inr ⟨rfl, rfl⟩, r1.symm⟩
   ·rw [if_neg e]
    refine PG.ext_has q1 pi.1 q2 pi.2.1 fun y u => ?_
    rw [q3, hh, s3]
    constructor
    ·rintro ⟨k | ⟨rfl, rfl⟩, hr⟩
     ·exact ⟨k, hr⟩
     ·exact absurd (by omega) e
    ·rintro ⟨k, hr⟩
     exact ⟨.inl k, hr⟩
 rw [ep]
 rfl
/-! ### what Put tells -/
open Classical in
noncomputable def puE (v : ShV) (o : OpV) : Int := if okR v then addE (whole v.ps) o else 8
open Classical in
noncomputable def puS (v : ShV) (o : OpV) : ShV := if okR v ∧ addE (whole v.ps) o = 0 then madeS (addP (whole v.ps) o) v.ps.length else ShV.zero
open Classical in
noncomputable def puI (v : ShV) (o : OpV) : List Int := if okR v then addI (whole v.ps) o else List.replicate 32 0
section
variable {v : ShV} {o : OpV}
theorem pu_8 (h : ¬ okR v) : puE v o = 8 ∧ puS v o = ShV.zero ∧ puI v o = List.replicate 32 0 := ⟨if_neg h, if_neg fun k => h k.1, if_neg h⟩
theorem pu_no {e : Int} (h : okR v) (h1 : addE (whole v.ps) o = e) (h2 : e ≠ 0) : puE v o = e ∧ puS v o = ShV.zero ∧ puI v o = List.replicate 32 0 := by
 subst h1
 refine ⟨if_pos h, if_neg fun k => h2 k.2, ?_⟩
 unfold puI
 rw [if_pos h, (addP_no h2).2]
theorem pu_0 (h : okR v) (h1 : addE (whole v.ps) o = 0) : puE v o = 0 ∧ puS v o = madeS (addP (whole v.ps) o) v.ps.length ∧ puI v o = idOf o := by
 refine ⟨by unfold puE; rw [if_pos h, h1], if_pos ⟨h, h1⟩, ?_⟩
 unfold puI
 rw [if_pos h, (addP_yes h1).2]
end
end Go.Proofs.YtkmgnmebadghbaaGreatDoor.S
namespace Go.Proofs.YtkmgnmebadghbaaGreatDoor.W
open Go.RowKit Go.Proofs.YtkmgnmebadghbaaGreatDoor.G
set_option linter.unusedVariables false
set_option linter.unusedSimpArgs false
set_option maxRecDepth 20000
set_option maxHeartbeats 8000000
attribute [local irreducible] RS RX RY Code.wp bodyPost J Ent.blk Ent.iown Ent.wrow Ent.wown Ent.gown Ent.all Ent.emp
instance : Ents Tryz.prog 93 := ⟨.mk Tryz.func93 (by kernel_rfl) rfl⟩
structure TsA where
 (i : Nat) (a : Option Addr) (c : Nat) (gs : List GrA)
theorem gsTake {s : ShA} {i : Nat} {g q : GrA} {gs : List GrA} (hg : s.gs[i]? = some g) (hq : q.P = g.P) (h : gs.map GrA.P = s.V.ps.take i) : (gs ++ [q]).map GrA.P = s.V.ps.take (i + 1) := by
 have e : s.V.ps[i]? = some g.P := by show (s.gs.map GrA.P)[i]? = _; rw [List.getElem?_map, hg]; rfl
 rw [List.map_append, h, List.take_add_one, e, Option.toList_some, List.map_cons, List.map_nil, hq]
theorem refShTwin {S0 : Nat → Prop} (s : ShA) (w : World) (H : ShR S0 w s) :
  Calls Tryz.prog 44 #[.agg (shC s).toArray] w (Gv w (fun q : ShA => .agg (shC q).toArray) (fun q => shE q) (ShK s.V)) := by
 have P0 := H.pr
 have hl := P0.len
 have hH := H.hr
 have hcp := H.cap
 refine J.enter 30 Tryz.func44 rfl rfl ?_
 refine run ?_
 refine J.box rfl rfl rfl fun b1 => ?_
 refine J.alloc rfl fun b2 => ?_
 refine run ?_
 refine J.joinX (A := (Option Addr × Nat) × Nat) (fun u => [(3, .pointer (some ⟨u.2, 0, none⟩))]) [5, 6, 7, 8, 9, 10, 11] (fun u => [.blk u.2 [.slice none 0 0, .slice u.1.1 s.hn u.1.2, .int .i64 s.ver] 25, .wown 27 .u8 32 u.1.1 s.hn u.1.2 s.hs, .blk b2 [.slice none 0 0, .slice none 0 0, .int .i64 0] 25, .blk b1 (shC s) 25]) (fun u => True) ?_ (fun u j hu => ?_)
 ·refine J.regionW [.blk b1 (shC s) 25] mixed ?_
  refine J.wnode [(1, .q), (2, .q), (4, .q), (5, .q)] [0, 7] 4 #[false, true, true, false, true, true, false, false, false] (by kernel_rfl) ?_
  refine run ?_
  refine J.nil ?_
  refine J.wbr ?_ ?_
  ·refine J.b0W .u8 rfl fun b3 => ?_
   refine J.nil ?_
   refine J.wnode [] [3, 7] 3 #[true, true, true, false, true, true, false, false, false] (by kernel_rfl) ?_
   refine run ?_
   refine J.nil ?_
   refine J.wbr ?_ ?_
   ·refine J.apW rfl rfl (RW.arg hH) fun a' c' => ?_
    rw [Nat.zero_add s.hn, List.nil_append s.hs]
    refine J.nil ?_
    refine J.wfin [(6, .q), (7, .e), (8, .e)] (by kernel_rfl) ?_
    refine run ?_
    refine J.alloc rfl fun b5 => ?_
    refine run ?_
    refine run ?_
    refine J.front (.wown 27 .u8 32 a' s.hn c' s.hs) ?_
    refine J.front (.blk b5 [.slice none 0 0, .slice a' s.hn c', .int .i64 s.ver] 25) ?_
    exact J.cut ((a', c'), b5) ⟨rfl, trivial⟩ (by kernel_rfl) trivial
   refine J.wbr ?_ ?_
   ·refine J.alloc rfl fun b5 => ?_
    refine J.nil ?_
    refine J.wfin [(3, .e), (6, .q), (8, .e)] (by kernel_rfl) ?_
    refine run ?_
    refine J.apW rfl rfl (RW.arg hH) fun a' c' => ?_
    rw [Nat.zero_add s.hn, List.nil_append s.hs]
    refine run ?_
    refine run ?_
    refine J.front (.wown 27 .u8 32 a' s.hn c' s.hs) ?_
    refine J.front (.blk b5 [.slice none 0 0, .slice a' s.hn c', .int .i64 s.ver] 25) ?_
    exact J.cut ((a', c'), b5) ⟨rfl, trivial⟩ (by kernel_rfl) trivial
   exact J.wbr0
  refine J.wbr ?_ ?_
  ·refine J.alloc rfl fun b5 => ?_
   refine J.nil ?_
   refine J.wfin [(0, .e), (3, .e), (6, .q), (8, .e)] (by kernel_rfl) ?_
   refine run ?_
   refine J.b0W .u8 rfl fun b3 => ?_
   refine run ?_
   refine J.apW rfl rfl (RW.arg hH) fun a' c' => ?_
   rw [Nat.zero_add s.hn, List.nil_append s.hs]
   refine run ?_
   refine run ?_
   refine J.front (.wown 27 .u8 32 a' s.hn c' s.hs) ?_
   refine J.front (.blk b5 [.slice none 0 0, .slice a' s.hn c', .int .i64 s.ver] 25) ?_
   exact J.cut ((a', c'), b5) ⟨rfl, trivial⟩ (by kernel_rfl) trivial
  exact J.wbr0
 obtain ⟨⟨ha, hc⟩, b3⟩ := u
 dsimp only
 refine run ?_
 refine J.noA ?_
 refine J.nilG (fun g : GrA => grC g) 2 61 grC_len ?_
 refine J.loop (A := TsA) (fun p => [(4, .int .i64 (p.i : Nat))]) [12, 13, 14, 15, 16, 17, 18, 19, 20, 21, 22, 23, 24, 25, 26, 27, 28, 29] (fun p => [.gown (fun g : GrA => grC g) 2 61 p.a p.i p.c p.gs, .all (p.gs.map grAll), .blk b3 [.slice p.a p.i p.c, .slice ha s.hn hc, .int .i64 s.ver] 25, .wown 27 .u8 32 ha s.hn hc s.hs, .blk b2 [.slice none 0 0, .slice none 0 0, .int .i64 0] 25, .blk b1 (shC s) 25]) (fun p => p.i ≤ s.pn ∧ p.gs.map GrA.P = s.V.ps.take p.i ∧ ∀ x ∈ p.gs, GrK x) (fun p => s.pn - p.i) ⟨0, none, 0, []⟩ (by kernel_rfl) ⟨Nat.zero_le _, rfl, fun z hz => (by cases hz)⟩ (fun p j2 hI => ?_)
 obtain ⟨hp, hps, hpk⟩ := hI
 refine run ?_
 refine J.ifd rfl (fun c1 => ?_) (fun c1 => ?_)
 ·obtain ⟨g, hg⟩ := P0.ex (i := (p.i : Nat)) (by omega)
  have hg' := hg
  rw [Int.toNat_natCast] at hg'
  have G := H.g hg'
  have hcp2 := G.cap
  refine run ?_
  refine J.regionX [(0, .q), (1, .q), (2, .q), (3, .q), (4, .q), (5, .q), (6, .q), (7, .e), (8, .e), (9, .g), (10, .q), (11, .g)] mixed (by kernel_rfl) ?_
  refine run ?_
  refine J.call rfl rfl (fun w' M => refGTwin g w' (G.ext M.ext)) fun q hq => ?_
  dsimp only [grE, List.cons_append, List.nil_append]
  refine J.b1G (fun g : GrA => grC g) q grC_len rfl rfl rfl fun bb => ?_
  refine J.apG rfl rfl RG.own' grC_one fun a' c' => ?_
  refine run ?_
  refine J.triG q ?_
  refine J.snocA (p.gs.map grAll) (grAll q) ?_
  refine J.re (.all (p.gs.map grAll ++ [grAll q])) (.all ((p.gs ++ [q]).map grAll)) (fun _ _ h => by rw [List.map_append]; exact h) ?_
  refine J.drop (E := [.gown (fun g : GrA => grC g) 2 61 a' (p.i + 1) c' (p.gs ++ [q]), .all ((p.gs ++ [q]).map grAll), .blk b3 [.slice a' (p.i + 1) c', .slice ha s.hn hc, .int .i64 s.ver] 25, .wown 27 .u8 32 ha s.hn hc s.hs, .blk b2 [.slice none 0 0, .slice none 0 0, .int .i64 0] 25, .blk b1 (shC s) 25]) sb ?_
  exact J.next ⟨p.i + 1, a', c', p.gs ++ [q]⟩ ⟨rfl, trivial⟩ (by kernel_rfl) ⟨by dsimp only; omega, gsTake hg' (GrP.P (P := g.P) hq) hps, fun y hy => by
   rcases List.mem_append.1 hy with h | h
   ·exact hpk y h
   rw [List.mem_singleton] at h
   subst h
   exact ⟨hq.ok G.opz, hq.cap⟩⟩ (by dsimp only; omega)
 obtain ⟨pi, pa, pc, gs⟩ := p
 dsimp only at hp hps hpk c1 ⊢
 obtain rfl : pi = s.pn := by omega
 refine run ?_
 refine J.finG ⟨pa, s.pn, pc, gs, ha, s.hn, hc, s.hs, s.ver⟩ rfl ⟨?_, hpk⟩ sb
 unfold ShA.V
 dsimp only
 rw [hps, List.take_of_length_le (by rw [List.length_map, hl]; exact Nat.le_refl _)]
theorem shZero {v : S.ShV} (h : v = S.ShV.zero) : ShK v ShA.zero := ⟨h.symm, fun g hg => by cases hg⟩
theorem refShPut {S0 S1 : Nat → Prop} (s : ShA) (z : OpA) (w : World) (H : ShR S0 w s) (hL : ShL s) (R : OpR S1 w z) :
  Calls Tryz.prog 46 #[.agg (shC s).toArray, .agg (opC z).toArray] w (Gv w (fun q : ShA => .tuple #[.agg (shC q).toArray, .agg (ints .u8 (S.puI s.V z.o)).toArray, .int .i64 (S.puE s.V z.o)]) (fun q => shE q) (ShK (S.puS s.V z.o))) := by
 have hcp := H.cap
 have hll : s.V.ps.length = s.pn := by rw [List.length_map, H.pr.len]
 have h20 := R.ok.n
 have D1 := R.row
 refine J.enter 54 Tryz.func46 rfl rfl ?_
 refine run ?_
 refine J.box rfl rfl rfl fun b1 => ?_
 refine J.box rfl rfl rfl fun b2 => ?_
 refine J.alloc rfl fun b3 => ?_
 refine J.alloc rfl fun b4 => ?_
 refine run ?_
 refine J.callp rfl rfl (fun w' M => refShCheck s w' (H.ext M.ext) hL) ?_
 refine run ?_
 refine J.ifn rfl (fun c1 => ?_) (fun c1 => ?_)
 ·have he := S.pu_8 (o := z.o) (S.chkH_ne c1).1
  refine run ?_
  refine J.bz rfl ?_
  refine run ?_
  refine J.nilWo 27 .u8 32 ?_
  refine J.noA ?_
  refine J.nilG (fun g : GrA => grC g) 2 61 grC_len ?_
  rw [he.1, he.2.2]
  exact J.finG ShA.zero rfl (shZero he.2.1) sb
 have hok := S.chkH_iff.1 c1
 obtain ⟨n1, n4⟩ := ok_len H hok
 have hle := H.le hL n4
 have hwg := S.whole_good (ps := s.V.ps) H.ml
 have hc : S.chkP (S.whole s.V.ps) = 0 := hok.2.1
 have hwo := refWholeOk H
 refine run ?_
 refine J.callp rfl rfl (fun w' M => verifyOR z.o R.ok _ _ _ (R.row.ext M.ext) R.cap) ?_
 refine run ?_
 refine J.ifn rfl (fun c2 => ?_) (fun c2 => ?_)
 ·obtain ⟨k1, k2⟩ := S.addE_2 (o := z.o) hc c2
  have he := S.pu_no (o := z.o) hok k1 c2
  refine run ?_
  refine J.bz rfl ?_
  refine run ?_
  refine J.nilWo 27 .u8 32 ?_
  refine J.noA ?_
  refine J.nilG (fun g : GrA => grC g) 2 61 grC_len ?_
  rw [he.1, he.2.2]
  exact J.finG ShA.zero rfl (shZero he.2.1) sb
 have hz0 := S.check_zero.1 (S.verE_check c2)
 have hA := S.sha_arr (S.encS z.o)
 refine run ?_
 refine J.call rfl rfl (fun w' M => refWhole s w' (H.ext M.ext) hL n4) fun q hq => ?_
 dsimp only [grE, List.cons_append, List.nil_append]
 have hqs : q.m ≤ 70 ∧ q.n ≤ 70 := ⟨by rw [hq.m]; exact Nat.le_trans hle (by decide), by rw [hq.n, hwg.2]; exact Nat.le_trans hle (by decide)⟩
 have hqP : q.P = S.whole s.V.ps := by rw [hq.P]
 have hqm : q.m = (S.whole s.V.ps).m := hq.m
 refine run ?_
 refine J.alloc rfl fun b5 => ?_
 refine run ?_
 refine J.callp rfl rfl (fun w' M => ofO z.o R.ok _ _ _ (R.row.ext M.ext) R.cap hz0.1 (fun hk => S.fine4 hz0.2.2.2.2.2.2 hk)) ?_
 refine run ?_
 refine J.alloc rfl fun b6 => ?_
 refine run ?_
 refine J.callp rfl rfl (fun w' M => (RW.own' (a := q.ia) w' M).elim fun _ k0 => refAt _ _ _ _ _ w' k0 hA (by omega)) ?_
 refine run ?_
 refine J.ifd rfl (fun c3 => ?_) (fun c3 => ?_)
 ·rw [hq.m, hq.ids] at c3
  have hin : S.inS (S.whole s.V.ps).m (S.whole s.V.ps).ids (S.idOf z.o) := Decidable.not_not.1 fun h => absurd (S.at_neg.2 h) (Int.not_lt.2 c3)
  have he := S.pu_no hok (S.addE_3 hc c2 hin) (by decide)
  refine run ?_
  refine J.bz rfl ?_
  refine run ?_
  refine J.nilWo 27 .u8 32 ?_
  refine J.noA ?_
  refine J.nilG (fun g : GrA => grC g) 2 61 grC_len ?_
  rw [he.1, he.2.2]
  exact J.finG ShA.zero rfl (shZero he.2.1) sb
 rw [hq.m, hq.ids] at c3
 have hin : ¬ S.inS (S.whole s.V.ps).m (S.whole s.V.ps).ids (S.idOf z.o) := S.at_neg.1 (Int.not_le.1 c3)
 refine run ?_
 refine J.callp rfl rfl (fun w' M => (RW.own' (a := q.ia) w' M).elim fun _ k0 => refAll _ _ _ _ _ _ _ _ w' k0 (D1.ext M.ext) (by omega) (by omega)) ?_
 refine run ?_
 refine J.ifnot rfl (fun c4 => ?_) (fun c4 => ?_)
 ·have c4 := of_decide_eq_false c4
  rw [hq.m, hq.ids] at c4
  have he := S.pu_no hok (S.addE_4 hc c2 hin c4) (by decide)
  refine run ?_
  refine J.bz rfl ?_
  refine run ?_
  refine J.nilWo 27 .u8 32 ?_
  refine J.noA ?_
  refine J.nilG (fun g : GrA => grC g) 2 61 grC_len ?_
  rw [he.1, he.2.2]
  exact J.finG ShA.zero rfl (shZero he.2.1) sb
 have c4 := of_decide_eq_true c4
 rw [hq.m, hq.ids] at c4
 refine run ?_
 refine J.ife rfl (fun c5 => ?_) (fun c5 => ?_)
 ·have he := S.pu_no hok (S.addE_5 hc c2 hin c4 (by omega)) (by decide)
  refine run ?_
  refine J.bz rfl ?_
  refine run ?_
  refine J.nilWo 27 .u8 32 ?_
  refine J.noA ?_
  refine J.nilG (fun g : GrA => grC g) 2 61 grC_len ?_
  rw [he.1, he.2.2]
  exact J.finG ShA.zero rfl (shZero he.2.1) sb
 have ha := S.addE_0 hc c2 hin c4 (by omega)
 obtain ⟨hp1, hp2⟩ := S.addP_yes ha
 have he := S.pu_0 hok ha
 rw [he.1, he.2.1, he.2.2]
 obtain ⟨hg, _, hf, hm1, _, _⟩ := S.add_fine (o := z.o) hwg.1 ha
 refine run ?_
 refine J.regionR [.blk b6 (ints .u8 (S.sha (S.encS z.o))) 27, .blk b5 (grC q) 61, .blk b2 (opC z) 54, .blk b1 (shC s) 25] [(0, .q), (1, .q), (2, .q), (4, .q), (5, .q), (6, .q), (8, .q), (3, .e), (7, .e), (9, .e), (10, .e), (11, .q)] mixed (by kernel_rfl) (by repeat (first | exact List.Sublist.refl _ | refine List.Sublist.cons_cons _ ?_ | refine List.Sublist.cons _ ?_)) ?_
 refine run ?_
 refine J.call rfl rfl (fun w' M => refPut q _ z w' (GrR.own (hq.ok hwo) hq.cap hqs w' M) hA (R.ext M.ext) (by rw [hq.n, hq.m, hwg.2]) (by have := hg.le; omega)) fun q2 hq2 => ?_
 dsimp only [grE, List.cons_append, List.nil_append]
 have hq3 : GrP (S.addP (S.whole s.V.ps) z.o).m (S.addP (S.whole s.V.ps) z.o).ids (S.addP (S.whole s.V.ps) z.o).ops q2 := by
  rw [hp1, ← hqP]
  exact hq2
 have sa := add_size (a := S.whole s.V.ps) (o := z.o) hwg.1
 have ka := add_ok (a := S.whole s.V.ps) hwo R.ok
 have e3 : q2.P = S.addP (S.whole s.V.ps) z.o := GrP.P hq3
 have h0 : S.chkG q2.m q2.ids q2.ops = 0 := by
  have := (S.chkP_fine hf.good.1).2 hf
  rw [← e3] at this
  exact this
 refine run ?_
 refine J.call rfl rfl (fun w' M => refMade q2 s.pn w' (GrR.own (hq3.ok ka) hq3.cap (hq3.sz sa) w' M) h0 n4) fun q4 hq4 => ?_
 rw [e3] at hq4
 refine run ?_
 rw [hll]
 exact J.finG q4 rfl hq4 sb
instance : Ents Tryz.prog 113 := ⟨.mk Tryz.func113 (by kernel_rfl) rfl⟩
instance : Ents Tryz.prog 71 := ⟨.mk Tryz.func71 (by kernel_rfl) rfl⟩
instance : Ents Tryz.prog 88 := ⟨.mk Tryz.func88 (by kernel_rfl) rfl⟩
instance : Ents Tryz.prog 82 := ⟨.mk Tryz.func82 (by kernel_rfl) rfl⟩
theorem opC_cell (z : OpA) : ∀ u ∈ opC z, cellB u = true := by
 intro u hu
 simp only [opC, List.mem_cons, List.not_mem_nil, or_false] at hu
 rcases hu with rfl | rfl | rfl | rfl | rfl | rfl | rfl | rfl | rfl | rfl | rfl <;> rfl
theorem insOp0 (a : Option Addr) (n c : Nat) (l : List OpA) (i : Nat) (x : OpA) (b2 : Nat) (w : World) (hO : GOwn opC 11 0 w 54 a n c l) (hi : i ≤ n) (hn : n ≤ 1000) (hB : Blk w b2 (opC x) 54) (hne : ¬ obk a = some b2) :
  Calls Tryz.prog 86 #[.slice a n c, .int .i64 i, .slice (some ⟨b2, 0, none⟩) 1 1] w (Gw w opC 11 54 a (l.take i ++ x :: l.drop i)) := by
 have hlen := hO.len
 have hcn := hO.capn
 have hcm := hO.own.cap.2
 refine J.enterG 92 hO Tryz.func86 rfl rfl ?_
 refine run ?_
 refine J.ife rfl (fun h => ?_) (fun h => ?_)
 ·obtain rfl : i = n := by omega
  refine run ?_
  refine J.apG rfl rfl (RG.blkO hB hne opC_len) opC_one fun a' c' => ?_
  refine run ?_
  have e : l.take i ++ x :: l.drop i = l ++ [x] := by rw [List.take_of_length_le (by omega), List.drop_of_length_le (by omega)]
  rw [e]
  exact J.finW rfl
 have hin : i < n := by omega
 obtain ⟨g, rfl⟩ := hO.some (by omega)
 have hlt : (l.take i ++ x :: l.drop i).length = n + 1 := by simp; omega
 refine run ?_
 refine J.ifd rfl (fun h2 => ?_) (fun h2 => ?_)
 ·refine run ?_
  refine J.apZ (p := i) (k0 := n + 1 - i) opC n l rfl (by (conv => lhs; whnf) <;> exact sl3 (by omega) (by omega) rfl) (by (conv => lhs; whnf) <;> exact congrArg _ (by omega)) fun b' c' cs' hcs => ?_
  obtain ⟨k1, k2, k3, k4⟩ := hcs
  refine run ?_
  refine J.copyR (b := b') (o := i * 11) (n := n + 1 - i) (k := 1) (by (conv => lhs; whnf) <;> exact sl3 (by omega) (by omega) rfl) rfl (RG.cells (RG.blkO hB hne opC_len)) (by rw [List.flatMap_cons, List.flatMap_nil, List.append_nil, opC_len]) (fun u hu => opC_cell x u (by simpa using List.mem_of_mem_take hu)) rfl ?_
  refine run ?_
  refine J.regionX [(0, .q), (1, .q), (2, .q), (3, .q), (4, .q), (5, .q), (6, .q), (7, .q), (8, .g)] mixed (by kernel_rfl) ?_
  refine run ?_
  refine J.copyR (b := b') (o := (i + 1) * 11) (n := n - i) (n2 := n - i) (k := n - i) (a := some ⟨g, i * 11, none⟩) (by (conv => lhs; whnf) <;> exact sl3 (by omega) (by omega) rfl) (by (conv => lhs; whnf) <;> exact sl3 (by omega) (by omega) rfl) (RG.cells (RG.tail RG.own' hin)) (by rw [flat_len opC 11 opC_len, List.length_drop, hlen, Nat.mul_comm]) (fun u hu => by obtain ⟨y, _, hy⟩ := List.mem_flatMap.1 (List.mem_of_mem_take hu); exact opC_cell y u hy) rfl ?_ (ho := by simp only [splice_length]; omega)
  refine run ?_
  have hz := (ins_flat (f := opC) (sz := 11) (z := x) opC_len hlen hin (by omega) k2).2
  refine J.ruc opC 11 54 b' (n + 1) c' (l.take i ++ x :: l.drop i) opC_len (by simp only [splice_length]; exact k1) (by
   rw [← hz]
   congr 2
   rw [List.take_of_length_le (by rw [flat_len opC 11 opC_len, List.length_drop, hlen]; omega)]) (by omega) k4 hlt ?_
  exact J.finW (a' := some ⟨b', 0, none⟩) (n' := n + 1) (c' := c') (by (conv => lhs; whnf) <;> exact sl3 (by omega) (by omega) rfl)
 refine run ?_
 refine J.cur opC 11 54 g n c l fun cur hcur => ?_
 obtain ⟨k1, k2, k3, k4, k5⟩ := hcur
 have hcl : (n + 1) * 11 ≤ cur.length := by omega
 refine J.extv (E := Extern.SlicesOverlaps.overlaps #[59, 59] #[4]) (v := .bool false) Tryz.func127 (by kernel_rfl) (by kernel_rfl) (by kernel_rfl) (by kernel_rfl) rfl (fun w' M => by
  have B1 := hB.pr M.pr hne
  have B2 : Blk w' g cur 54 := M.blk .here
  exact Lib.run_overlaps_apart w' _ _ 54 Und.h 11 (fun w => size_run Siz.h (by decide)) ⟨b2, 0, none⟩ ⟨g, _, none⟩ 1 1 _ _ (fun e => hne (show some g = some b2 from congrArg some (show g = b2 from e.symm))) _ _ _ _ (blk_shape B1) (blk_shape B2) (by omega) (blk_free B1) (blk_free B1)) ?_
 refine run ?_
 refine J.regionX [(0, .q), (1, .q), (2, .q), (3, .q), (4, .q), (5, .q), (6, .q), (7, .q), (8, .g)] mixed (by kernel_rfl) ?_
 refine run ?_
 refine J.copyR (b := g) (o := (i + 1) * 11) (n := n - i) (k := n - i) (n2 := n + 1 - i) (ds := (cur.drop (i * 11)).take ((n + 1 - i) * 11)) (by (conv => lhs; whnf) <;> exact sl3 (by omega) (by omega) rfl) (by (conv => lhs; whnf) <;> exact sl3 (by omega) (by omega) rfl) (fun w' M => ⟨_, M.part (o := i * 11) (b := g) (by rw [List.length_take, List.length_drop, Nat.min_eq_left (by omega)])⟩) (by rw [List.length_take, List.length_drop]; omega) (fun u hu => ?_) rfl ?_
 ·rw [List.take_take, Nat.min_eq_left (by omega)] at hu
  have h5 := flat_drop opC 11 opC_len l i
  rw [← k2, List.drop_take, show n * 11 - i * 11 = (n - i) * 11 by omega] at h5
  rw [h5] at hu
  obtain ⟨y, _, hy⟩ := List.mem_flatMap.1 hu
  exact opC_cell y u hy
 refine run ?_
 refine J.copyR (b := g) (o := i * 11) (n := n + 1 - i) (k := 1) (by (conv => lhs; whnf) <;> exact sl3 (by omega) (by omega) rfl) rfl (RG.cells (RG.blkO hB hne opC_len)) (by rw [List.flatMap_cons, List.flatMap_nil, List.append_nil, opC_len]) (fun u hu => opC_cell x u (by simpa using List.mem_of_mem_take hu)) rfl ?_ (ho := by simp only [splice_length]; omega)
 refine run ?_
 have hz := (ins_flat (f := opC) (sz := 11) (z := x) (cs := cur) opC_len hlen hin hcl (by rw [← flat_take opC 11 opC_len, ← k2, List.take_take, Nat.min_eq_left (by omega)])).1
 refine J.ruc opC 11 54 g (n + 1) c (l.take i ++ x :: l.drop i) opC_len (by simp only [splice_length]; exact k1) (by
  rw [← hz]
  congr 2
  congr 1
  rw [List.take_take, Nat.min_eq_left (by omega), ← flat_drop opC 11 opC_len, ← k2, List.drop_take, show n * 11 - i * 11 = (n - i) * 11 by omega]) (by omega) k4 hlt ?_
 exact J.finW (by (conv => lhs; whnf) <;> exact sl3 (by omega) (by omega) rfl)
theorem idxID {S0 : Nat → Prop} (a : Option Addr) (n c : Nat) (ids x : List Int) (w : World) (D0 : WRow .u8 32 S0 w a n ids) (hx : Arr .u8 32 x) (hn : n ≤ 100000) :
  Calls Tryz.prog 113 #[.slice a n c, .agg (ints .u8 x).toArray] w (Gv w (fun r : Int => .int .i64 r) (fun _ => []) fun r => 0 ≤ r ↔ S.inS n ids x) := by
 have hl := D0.len
 refine J.enter 17 Tryz.func113 rfl rfl ?_
 refine run ?_
 refine J.box rfl rfl rfl fun b1 => ?_
 refine run ?_
 refine J.loopS (A := Int) (fun p => [(8, .int .i64 p)]) [4, 5, 9, 10, 11, 12, 13, 14, 15, 16, 17, 18] (fun p => (0 ≤ p ∧ p ≤ n) ∧ ∀ i, i < p.toNat → S.idAt ids i ≠ x) (fun p => n - p.toNat) 0 (by kernel_rfl) ⟨by omega, fun i hi => by omega⟩ (fun p j hI => ?_)
 obtain ⟨h1, hI⟩ := hI
 refine run ?_
 refine J.ifd rfl (fun c1 => ?_) (fun c1 => ?_)
 ·obtain ⟨q, hq⟩ := ex (elt 32 ids p.toNat)
  have hqa : Arr .u8 32 q := hq ▸ D0.elt_arr (by omega)
  refine run ?_
  refine J.regionX [(0, .q), (1, .q), (2, .q), (3, .q), (4, .q), (5, .q)] mixed (by kernel_rfl) ?_
  refine run ?_
  refine J.ifd rfl (fun c2 => ?_) (fun c2 => ?_)
  ·refine run ?_
   exact J.finG p rfl ⟨fun _ => ⟨p.toNat, by omega, by rw [c2]; exact hq.symm⟩, fun _ => by omega⟩ (List.nil_sublist _)
  refine run ?_
  refine J.nextS (p + 1) ⟨rfl, trivial⟩ (by kernel_rfl) ⟨by omega, fun i hi => ?_⟩ (by omega)
  rcases Nat.lt_or_ge i p.toNat with e | e
  ·exact hI i e
  obtain rfl : i = p.toNat := by omega
  exact fun h => c2 (h.symm.trans hq.symm)
 refine run ?_
 exact J.finG (-1) rfl ⟨fun h => by omega, fun ⟨i, hi, e⟩ => absurd e (hI i (by omega))⟩ (List.nil_sublist _)
theorem hasID {S0 : Nat → Prop} (a : Option Addr) (n c : Nat) (ids x : List Int) (w : World) (D0 : WRow .u8 32 S0 w a n ids) (hx : Arr .u8 32 x) (hn : n ≤ 100000) :
  Calls Tryz.prog 71 #[.slice a n c, .agg (ints .u8 x).toArray] w (Ret w fun v _ => v = .bool (decide (S.inS n ids x))) := by
 refine J.enter 7 Tryz.func71 rfl rfl ?_
 refine run ?_
 refine J.box rfl rfl rfl fun b1 => ?_
 refine run ?_
 refine J.call rfl rfl (fun w' M => idxID a n c ids x w' (D0.ext M.ext) hx hn) fun r hr => ?_
 refine run ?_
 exact J.fin (congrArg _ (decide_eq_decide.2 hr))
def kpB (o : S.OpV) (y : IdV) : Bool := decide (¬ S.inS o.n o.ids y.xs)
theorem kp_filter (o : S.OpV) {l : List IdV} {hs : List Int} (he : flatI l = hs) : ∀ k, k ≤ l.length → S.selF (S.keepF o hs) hs k = flatI ((l.take k).filter (kpB o)) ∧ S.numF (S.keepF o hs) k = ((l.take k).filter (kpB o)).length
 | 0, _ => ⟨rfl, rfl⟩
 | k + 1, hk => by
  obtain ⟨h1, h2⟩ := kp_filter o he k (by omega)
  obtain ⟨y, hy⟩ : ∃ y, l[k]? = some y := ⟨_, List.getElem?_eq_getElem (by omega)⟩
  have hi := idv_at he hy
  have hb : S.keepF o hs k = kpB o y := by unfold S.keepF kpB; rw [hi]
  rw [S.selF, S.numF, h1, h2, hb, hi, List.take_add_one, hy, Option.toList_some, List.filter_append]
  cases h : kpB o y with
  | true => rw [List.filter_cons_of_pos h, List.filter_nil]; exact ⟨by unfold flatI; simp, by simp⟩
  | false => rw [List.filter_cons_of_neg (by rw [h]; decide), List.filter_nil]; exact ⟨by simp, by simp⟩
theorem shPut2 {S1 : Nat → Prop} (z : OpA) (x : List Int) (b : Nat) (T : TypeId) (w : World) (hB : Blk w b (opC z) T) (D1 : WRow .u8 32 S1 w z.pa z.o.n z.o.ids) (hx : Arr .u8 32 x) (hn : z.o.n ≤ 1000) :
  Calls Tryz.prog 88 #[.agg (ints .u8 x).toArray, .pointer (some ⟨b, 0, none⟩)] w (Ret w fun v _ => v = .bool (decide (S.inS z.o.n z.o.ids x))) := by
 refine J.enter 6 Tryz.func88 rfl rfl ?_
 refine run ?_
 refine J.box rfl rfl rfl fun b1 => ?_
 refine run ?_
 refine J.ldOq hB rfl ?_
 refine run ?_
 refine J.callp rfl rfl (fun w' M => hasID _ _ _ _ _ w' (D1.ext M.ext) hx (by omega)) ?_
 refine run ?_
 exact J.fin rfl
theorem idxPut2 {S1 S2 : Nat → Prop} (a : Option Addr) (n c : Nat) (l : List IdV) (z : OpA) (b : Nat) (T : TypeId) (w : World) (D0 : GRow idC 32 S2 w a n l) (hn : n ≤ 1000) (hA : ∀ y ∈ l, Arr .u8 32 y.xs) (hB : Blk w b (opC z) T) (D1 : WRow .u8 32 S1 w z.pa z.o.n z.o.ids) (hz : z.o.n ≤ 1000) :
  Calls Tryz.prog 123 #[.slice a n c, .func (.func 88) #[] #[.pointer (some ⟨b, 0, none⟩)]] w (Gv w (fun r : Int => .int .i64 r) (fun _ => []) fun r => (r = -1 ∧ l.filter (kpB z.o) = l) ∨ ∃ i : Nat, r = (i : Nat) ∧ i < n ∧ (l.take (i + 1)).filter (kpB z.o) = l.take i) := by
 have hl := D0.len
 refine J.enter 17 Tryz.func123 rfl rfl ?_
 refine run ?_
 refine J.loopS (A := Int) (fun p => [(8, .int .i64 p)]) [4, 5, 9, 10, 11, 12, 13, 14, 15, 16, 17, 18] (fun p => (0 ≤ p ∧ p ≤ n) ∧ (l.take p.toNat).filter (kpB z.o) = l.take p.toNat) (fun p => n - p.toNat) 0 (by kernel_rfl) ⟨by omega, rfl⟩ (fun p j hI => ?_)
 obtain ⟨h1, hI⟩ := hI
 refine run ?_
 refine J.ifd rfl (fun c1 => ?_) (fun c1 => ?_)
 ·obtain ⟨y, hy⟩ := D0.ex (i := p) (by omega)
  have e : (l.take (p.toNat + 1)).filter (kpB z.o) = l.take p.toNat ++ if kpB z.o y then [y] else [] := by
   rw [List.take_add_one, hy, Option.toList_some, List.filter_append, hI]
   cases h : kpB z.o y with
   | true => rw [List.filter_cons_of_pos h]; rfl
   | false => rw [List.filter_cons_of_neg (by rw [h]; decide)]; rfl
  refine run ?_
  refine J.ldGa (i := p) (sz := 32) (off := 0) rfl (RG.arg D0) ?_ (q := y) (hf := idC_all y) (hn := idC_len y)
  refine run ?_
  refine J.callvp rfl rfl rfl (fun w' M => shPut2 z y.xs b T w' (hB.ext M.ext) (D1.ext M.ext) (hA y (List.mem_of_getElem? hy)) hz) ?_
  refine run ?_
  refine J.ifd rfl (fun c2 => ?_) (fun c2 => ?_)
  ·refine run ?_
   refine J.finG p rfl (.inr ⟨p.toNat, by omega, by omega, ?_⟩) (List.nil_sublist _)
   rw [e, show kpB z.o y = false from decide_eq_false (not_not_intro c2)]
   simp
  refine run ?_
  refine J.nextS (p + 1) ⟨rfl, trivial⟩ (by kernel_rfl) ⟨by omega, ?_⟩ (by omega)
  rw [show (p + 1).toNat = p.toNat + 1 by omega, e, show kpB z.o y = true from decide_eq_true c2, List.take_add_one, hy]
  rfl
 refine run ?_
 refine J.finG (-1) rfl (.inl ⟨rfl, ?_⟩) (List.nil_sublist _)
 rwa [List.take_of_length_le (by omega)] at hI
structure DlA where
 (i j : Nat) (l : List IdV)
theorem delPut2 {S1 : Nat → Prop} (a : Option Addr) (n c : Nat) (l : List IdV) (z : OpA) (b : Nat) (T : TypeId) (w : World) (hO : GOwn idC 32 0 w 27 a n c l) (hn : n ≤ 1000) (hA : ∀ y ∈ l, Arr .u8 32 y.xs) (hB : Blk w b (opC z) T) (hne : ¬ obk a = some b) (D1 : WRow .u8 32 S1 w z.pa z.o.n z.o.ids) (hS : ∀ q, S1 q → obk a = some q → False) (hz : z.o.n ≤ 1000) :
  Calls Tryz.prog 87 #[.slice a n c, .func (.func 88) #[] #[.pointer (some ⟨b, 0, none⟩)]] w (Gw w idC 32 27 a (l.filter (kpB z.o))) := by
 have hlen := hO.len
 have hcn := hO.capn
 have hcm := hO.own.cap.2
 refine J.enterG 40 hO Tryz.func87 rfl rfl ?_
 refine run ?_
 refine J.call rfl rfl (fun w' M => (RG.own' (a := a) w' M).elim fun _ k0 => idxPut2 a n c l z b T w' k0 hn hA (hB.pr M.pr hne) (D1.pr M.pr hS) hz) fun r hr => ?_
 refine run ?_
 refine J.ife rfl (fun c1 => ?_) (fun c1 => ?_)
 ·have hf : l.filter (kpB z.o) = l := hr.elim (fun h => h.2) fun ⟨i, h, _⟩ => by omega
  rw [hf]
  refine run ?_
  exact J.finW rfl
 obtain ⟨i, rfl, hi, hf⟩ : ∃ i : Nat, r = (i : Nat) ∧ i < n ∧ (l.take (i + 1)).filter (kpB z.o) = l.take i := hr.resolve_left fun h => c1 h.1
 obtain ⟨g, rfl⟩ := hO.some (by omega)
 refine run ?_
 refine J.loop (A := DlA) (fun p => [(5, .int .i64 (p.i : Nat)), (6, .int .i64 (p.j : Nat))]) [7, 16, 17, 18, 19, 20, 21, 22, 23, 24, 25, 26, 27, 28, 29, 30, 31, 32, 33, 34, 35] (fun p => [.gown idC 32 27 (some ⟨g, 0, none⟩) n c p.l]) (fun p => p.i < p.j ∧ p.j ≤ n ∧ p.l.length = n ∧ p.l.take p.i = (l.take p.j).filter (kpB z.o) ∧ p.l.drop p.j = l.drop p.j) (fun p => n - p.j) ⟨i, i + 1, l⟩ (by kernel_rfl) ⟨Nat.lt_succ_self _, hi, hlen, hf.symm, rfl⟩ (fun p j hI => ?_)
 obtain ⟨h1, h2, h3, h4, h5⟩ := hI
 refine run ?_
 refine J.ifd rfl (fun c2 => ?_) (fun c2 => ?_)
 ·obtain ⟨y, hy⟩ : ∃ y, p.l[((p.j : Nat) : Int).toNat]? = some y := ⟨_, List.getElem?_eq_getElem (by omega)⟩
  have hy' : l[p.j]? = some y := by
   have e := congrArg (fun q : List IdV => q[0]?) h5
   simp only [List.getElem?_drop, Nat.add_zero] at e
   rw [← e]
   rw [Int.toNat_natCast] at hy
   exact hy
  have e : (l.take (p.j + 1)).filter (kpB z.o) = p.l.take p.i ++ if kpB z.o y then [y] else [] := by
   rw [List.take_add_one, hy', Option.toList_some, List.filter_append, h4]
   cases h : kpB z.o y with
   | true => rw [List.filter_cons_of_pos h]; rfl
   | false => rw [List.filter_cons_of_neg (by rw [h]; decide)]; rfl
  have ed : p.l.drop (p.j + 1) = l.drop (p.j + 1) := by
   have e := congrArg (List.drop 1) h5
   rwa [List.drop_drop, List.drop_drop] at e
  refine run ?_
  refine J.ldGa (i := ((p.j : Nat) : Int)) (sz := 32) (off := 0) rfl RG.own' ?_ (q := y) (hf := idC_all y) (hn := idC_len y)
  refine run ?_
  refine J.alloc rfl fun b4 => ?_
  refine run ?_
  refine J.callvp rfl rfl rfl (fun w' M => shPut2 z y.xs b T w' (hB.pr M.pr hne) (D1.pr M.pr hS) (hA y (List.mem_of_getElem? hy')) hz) ?_
  refine run ?_
  refine J.ifnot rfl (fun c3 => ?_) (fun c3 => ?_)
  ·have c3 := of_decide_eq_false c3
   refine run ?_
   refine J.stG (f := idC) (q := y) rfl rfl rfl ?_ (hv := ints_cellB _ _)
   refine run ?_
   rw [Int.toNat_natCast]
   refine J.drop (E := [.gown idC 32 27 (some ⟨g, 0, none⟩) n c (p.l.set p.i y)]) sb ?_
   refine J.next ⟨p.i + 1, p.j + 1, p.l.set p.i y⟩ ⟨rfl, rfl, trivial⟩ (by kernel_rfl) ⟨by dsimp only; omega, by dsimp only; omega, by dsimp only; rw [List.length_set]; exact h3, ?_, ?_⟩ (by dsimp only; omega)
   ·dsimp only
    rw [e, show kpB z.o y = true from decide_eq_true c3, if_pos rfl, List.take_add_one, List.getElem?_set, if_pos rfl, if_pos (by omega), Option.toList_some, List.take_set_of_le (Nat.le_refl _)]
   dsimp only
   rw [List.drop_set_of_lt (by omega)]
   exact ed
  have c3 := of_decide_eq_true c3
  refine run ?_
  refine J.drop (E := [.gown idC 32 27 (some ⟨g, 0, none⟩) n c p.l]) sb ?_
  refine J.next ⟨p.i, p.j + 1, p.l⟩ ⟨rfl, rfl, trivial⟩ (by kernel_rfl) ⟨by dsimp only; omega, by dsimp only; omega, h3, ?_, ed⟩ (by dsimp only; omega)
  dsimp only
  rw [e, show kpB z.o y = false from decide_eq_false (not_not_intro c3)]
  simp
 obtain ⟨pi, pj, pl⟩ := p
 dsimp only at h1 h2 h3 h4 h5 c2 ⊢
 obtain rfl : pj = n := by omega
 rw [List.take_of_length_le (show l.length ≤ pj by omega)] at h4
 have hfl : (l.filter (kpB z.o)).length = pi := by rw [← h4, List.length_take]; omega
 refine J.cur idC 32 27 g pj c pl fun cur hcur => ?_
 obtain ⟨k1, k2, _, _, _⟩ := hcur
 refine run ?_
 refine J.clr (o := pi * 32) (q := pj - pi) (show Value.slice (some ⟨g, 0 + ((pi : Nat) : Int).toNat * 32, none⟩) (pj - ((pi : Nat) : Int).toNat) (c - ((pi : Nat) : Int).toNat) = .slice (some ⟨g, pi * 32, none⟩) (pj - pi) (c - pi) from by rw [Int.toNat_natCast, Nat.zero_add]) (fun cs2 hcs2 => ?_) (hfit := by rw [k1]; omega)
 obtain ⟨k3, k4⟩ := hcs2
 refine run ?_
 refine J.ruc idC 32 27 g pi c (l.filter (kpB z.o)) idC_len (by rw [k3, k1]) (by rw [k4, ← h4, ← flat_take idC 32 idC_len, ← k2, List.take_take, Nat.min_eq_left (by omega)]) (by omega) hcm hfl ?_
 exact J.finW (a' := some ⟨g, 0, none⟩) (n' := pi) (c' := c) (by exact sl3 rfl (by omega) rfl)
theorem shPut1 {S0 : Nat → Prop} (s : ShA) (x : List Int) (b : Nat) (T : TypeId) (w : World) (hB : Blk w b (shC s) T) (H : ShR S0 w s) (hx : Arr .u8 32 x) (hgp : S.goodPs s.V.ps) (h1 : 1 ≤ s.pn) :
  Calls Tryz.prog 82 #[.agg (ints .u8 x).toArray, .pointer (some ⟨b, 0, none⟩)] w (Ret w fun v _ => v = .bool (decide (¬ S.inS (S.whole s.V.ps).m (S.whole s.V.ps).ids x))) := by
 have hll : s.V.ps.length = s.pn := by rw [List.length_map, H.pr.len]
 obtain ⟨r1, r2⟩ := S.res_lt (ps := s.V.ps) (x := x) (by omega)
 obtain ⟨g, hg⟩ : ∃ g, s.gs[S.resN s.V.ps x]? = some g := ⟨_, List.getElem?_eq_getElem (by rw [H.pr.len]; omega)⟩
 have hgP := shAt hg
 have hin := S.in_part (x := x) hgp (by omega)
 rw [hgP] at hin
 refine J.enter 14 Tryz.func82 rfl rfl ?_
 refine run ?_
 refine J.box rfl rfl rfl fun b1 => ?_
 refine run ?_
 refine J.ldOA hB (fun h => h) rfl ?_
 refine run ?_
 refine J.callp rfl rfl (fun w' M => shFind s x g w' (H.ext M.ext) hx hgp h1 hg) ?_
 refine run ?_
 exact J.fin (congrArg _ (by simp [hin]))
theorem idxAbs {S0 S1 : Nat → Prop} (s : ShA) (a : Option Addr) (n c : Nat) (ps : List Int) (b : Nat) (T : TypeId) (w : World) (hB : Blk w b (shC s) T) (H : ShR S0 w s) (D1 : WRow .u8 32 S1 w a n ps) (hgp : S.goodPs s.V.ps) (h0 : 1 ≤ s.pn) (hn : n ≤ 1000) :
  Calls Tryz.prog 123 #[.slice a n c, .func (.func 82) #[] #[.pointer (some ⟨b, 0, none⟩)]] w (Gv w (fun r : Int => .int .i64 r) (fun _ => []) fun r => 0 ≤ r ↔ ¬ S.allI (S.whole s.V.ps).m (S.whole s.V.ps).ids n ps) := by
 have hl := D1.len
 refine J.enter 17 Tryz.func123 rfl rfl ?_
 refine run ?_
 refine J.loopS (A := Int) (fun p => [(8, .int .i64 p)]) [4, 5, 9, 10, 11, 12, 13, 14, 15, 16, 17, 18] (fun p => (0 ≤ p ∧ p ≤ n) ∧ ∀ i, i < p.toNat → S.inS (S.whole s.V.ps).m (S.whole s.V.ps).ids (S.idAt ps i)) (fun p => n - p.toNat) 0 (by kernel_rfl) ⟨by omega, fun i hi => by omega⟩ (fun p j hI => ?_)
 obtain ⟨h1, hI⟩ := hI
 refine run ?_
 refine J.ifd rfl (fun c1 => ?_) (fun c1 => ?_)
 ·refine run ?_
  refine J.callvp rfl rfl rfl (fun w' M => shPut1 s _ b T w' (hB.ext M.ext) (H.ext M.ext) (D1.elt_arr (by omega)) hgp h0) ?_
  refine run ?_
  refine J.ifd rfl (fun c2 => ?_) (fun c2 => ?_)
  ·refine run ?_
   exact J.finG p rfl ⟨fun _ h => c2 (h p.toNat (by omega)), fun _ => by omega⟩ (List.nil_sublist _)
  refine run ?_
  refine J.nextS (p + 1) ⟨rfl, trivial⟩ (by kernel_rfl) ⟨by omega, fun i hi => ?_⟩ (by omega)
  rcases Nat.lt_or_ge i p.toNat with e | e
  ·exact hI i e
  obtain rfl : i = p.toNat := by omega
  exact Classical.not_not.1 c2
 refine run ?_
 exact J.finG (-1) rfl ⟨fun h => by omega, fun h => absurd (fun i hi => hI i (by omega)) h⟩ (List.nil_sublist _)
theorem hasAbs {S0 S1 : Nat → Prop} (s : ShA) (a : Option Addr) (n c : Nat) (ps : List Int) (b : Nat) (T : TypeId) (w : World) (hB : Blk w b (shC s) T) (H : ShR S0 w s) (D1 : WRow .u8 32 S1 w a n ps) (hgp : S.goodPs s.V.ps) (h0 : 1 ≤ s.pn) (hn : n ≤ 1000) :
  Calls Tryz.prog 83 #[.slice a n c, .func (.func 82) #[] #[.pointer (some ⟨b, 0, none⟩)]] w (Ret w fun v _ => v = .bool (decide (¬ S.allI (S.whole s.V.ps).m (S.whole s.V.ps).ids n ps))) := by
 refine J.enter 7 Tryz.func83 rfl rfl ?_
 refine run ?_
 refine J.call rfl rfl (fun w' M => idxAbs s a n c ps b T w' (hB.ext M.ext) (H.ext M.ext) (D1.ext M.ext) hgp h0 hn) fun r hr2 => ?_
 refine run ?_
 exact J.fin (congrArg _ (decide_eq_decide.2 hr2))
end Go.Proofs.YtkmgnmebadghbaaGreatDoor.W
namespace Go.Proofs.YtkmgnmebadghbaaGreatDoor.W
open Go.RowKit Go.Proofs.YtkmgnmebadghbaaGreatDoor.G
set_option linter.unusedVariables false
theorem blk_e {S : Nat → Prop} {w : World} {b : Nat} {cs : List Value} {T : TypeId} (h : (Ent.blk b cs T).ok S w) : S b ∧ Blk w b cs T := h
section
variable {S0 : Nat → Prop} {w0 : World} {L : List Ent} {P : Program} {ops : Array Oper} {K : List Value → World → Prop} {rest : List (Oper × Kd)} {l l' : List Value} {m : Md} {d : Tmp} {ty xt e : TypeId} {pos : String} {af : Array Edge} {kd : Kd} {x y : Operand} {nn : Nat} {ki : IntKind} {a : Option Addr} {k0 off i : Nat}
theorem J.ncP (hk : pureK kd = true) (ha : ∃ b o, a = some ⟨b, o, none⟩) (hx : ev l x = pt a k0) (k : J S0 w0 L (RY S0 w0 m P ops K rest l')) (hl : l.set d (pt a k0) = l' := by dsimp only [List.set]) :
  J S0 w0 L (RY S0 w0 m P ops K ((⟨some d, .nilCheck x, ty, pos, af, none⟩, kd) :: rest) l) := by
 obtain ⟨b, o, rfl⟩ := ha
 exact J.nc (a := ⟨b, o + k0, none⟩) hk hx k hl
theorem J.flP [F : Fld P xt i off] (hk : pureK kd = true) (ha : ∃ b o, a = some ⟨b, o, none⟩) (hx : ev l x = pt a k0) (k : J S0 w0 L (RY S0 w0 m P ops K rest l')) (hl : l.set d (pt a (k0 + off)) = l' := by dsimp only [List.set]) :
  J S0 w0 L (RY S0 w0 m P ops K ((⟨some d, .fieldAddr xt x i, ty, pos, af, none⟩, kd) :: rest) l) := by
 obtain ⟨b, o, rfl⟩ := ha
 exact J.fl (b := b) (o := o + k0) (ad := o + (k0 + off)) hk hx k (Nat.add_assoc _ _ _) hl
theorem J.ixN (j : Nat) [U : Und P xt (.array nn e)] [Z : Siz P e 1] (hk : pureK kd = true) (ha : ∃ b o, a = some ⟨b, o, none⟩) (hx : ev l x = pt a k0) (hy : ev l y = .int ki (j : Nat)) (kk : J S0 w0 L (RY S0 w0 m P ops K rest l')) (hn : j < nn := by decide) (hl : l.set d (pt a (k0 + j)) = l' := by dsimp only [List.set]) :
  J S0 w0 L (RY S0 w0 m P ops K ((⟨some d, .indexAddr xt x y, ty, pos, af, none⟩, kd) :: rest) l) :=
 J.pur hk (fun w => by
  obtain ⟨b, o, rfl⟩ := ha
  have := D.indexArr (P := P) (d := some d) (ty := ty) (pos := pos) (af := af) (g := none) (w := w) (i := ((j : Nat) : Int)) (hx.trans (pt_some rfl k0)) hy U.h Z.h (by decide) (by omega)
  rw [Int.toNat_natCast, Nat.mul_one, Nat.add_assoc] at this
  exact this) kk hl
end
theorem idC_at (x : IdV) {j : Nat} (h : j < 32) : (idC x).getD j undef = .int .u8 (x.xs.getD j 0) := ints_getD _ _ _ (by rw [x.h]; exact h)
def idUp (j : Nat) (x : IdV) : IdV := ⟨x.xs.set j ((x.xs.getD j 0 + 1) % 256), by rw [List.length_set, x.h]⟩
theorem idUp_eq (j : Nat) (x : IdV) : idC (idUp j x) = (idC x).set j (.int .u8 ((x.xs.getD j 0 + 1) % 256)) := (ints_set _ _ _ _).symm
theorem up_bd {l : List IdV} (h : Bd .u8 (flatI l)) {i : Nat} (j : Nat) {x : IdV} (hx : l[i]? = some x) : Bd .u8 (flatI (l.set i (idUp j x))) := fun y hy => by
 unfold flatI at hy
 obtain ⟨u, hu, hyu⟩ := List.mem_flatMap.1 hy
 have old : ∀ v ∈ l, y ∈ v.xs → y ∈ flatI l := fun v hv hm => by
  unfold flatI
  exact List.mem_flatMap.2 ⟨v, hv, hm⟩
 rcases List.mem_or_eq_of_mem_set hu with k | rfl
 ·exact h y (old u k hyu)
 ·rcases List.mem_or_eq_of_mem_set hyu with k | rfl
  ·exact h y (old x (List.mem_of_getElem? hx) k)
  ·simp only [lim]; omega
theorem gown_reG {α : Type} {f : α → List Value} {sz : Nat} {T : TypeId} {a : Option Addr} {n c : Nat} {zs zs' : List α} {S0 : Nat → Prop} {w : World} (h1 : zs'.flatMap f = zs.flatMap f) (h2 : zs'.length = zs.length) (h : (Ent.gown f sz T a n c zs).ok S0 w) : (Ent.gown f sz T a n c zs').ok S0 w := by
 obtain ⟨k1, k2⟩ := gown_e h
 have k : GOwn f sz 0 w T a n c zs' := ⟨by rw [h1]; exact k1.own, k1.szf, h2.trans k1.len⟩
 unfold Ent.gown
 exact ⟨k, k2⟩
end Go.Proofs.YtkmgnmebadghbaaGreatDoor.W
namespace Go.Proofs.YtkmgnmebadghbaaGreatDoor.G
open Go.RowKit
set_option linter.unusedVariables false
section
variable {S0 : Nat → Prop} {w0 : World} {L Lq : List Ent} {bg fl : List Nat} {P : Program} {Q : Exit → Act → World → Prop} {l : List Value} {id n n' : Nat} {l0 : List Oper} {K : List Value → World → Prop} {li : Array Bool} {rd : List Nat} {ops : Array Oper}
theorem J.gnodeC {pl' : List (Oper × Kd)} (pl : List (Nat × Kd)) (rd : List Nat) (n' : Nat) (li' : Array Bool)
  (hB : (Region.noSelect l0.toArray && (bgB l0.toArray bg fl && (((G.bigs pl).all (fun i => bg.contains i) && (G.frees pl).all (fun i => fl.contains i)) && (Nat.beq (n' + 1 + pl.length) n && (!rd.isEmpty && planB l0.toArray fl (fun s => (Region.ready .any l0.toArray s == rd) && (s.toList == li'.toList && rd.all fun i => !bg.any (Nat.beq i))) pl li))))) = true)
  (h : J S0 w0 L (RY S0 w0 (.r Lq) P l0.toArray (BG S0 w0 Lq bg fl P l0 K n' li' rd) pl' l)) (hs : Lq.Sublist L := by repeat (first | exact List.Sublist.refl _ | refine List.Sublist.cons_cons _ ?_ | refine List.Sublist.cons _ ?_)) (hp : pick l0 pl = pl' := by dsimp only [pick, nth]) : J S0 w0 L (WG S0 w0 Lq bg fl P l0 K n li l) := fun w M hcl => by
 simp only [Bool.and_eq_true] at hB
 obtain ⟨hns, hbg, ⟨hg, hf⟩, hz, hr0, hB⟩ := hB
 have hz := Nat.eq_of_beq_eq_true hz
 subst hz
 subst hp
 have h1 : RX P l0.toArray (MR S0 w0 Lq) (BG S0 w0 Lq bg fl P l0 K n' li' rd) (pick l0 pl) l w := h w M (M.sub hs)
 rw [List.all_eq_true] at hg hf
 refine rx_list (n := n' + 1) (bg := bg) (fl := fl) ?_ (fun _ h => h) (fun h k x => k (h x)) hns (bgB_spec hbg) pl li l w hcl (fun i hi => by simpa using hg i ((mem_bigs pl i).1 hi)) (fun i hi => by simpa using hf i (mem_frees pl i hi)) hB h1
 intro listed l w hcl he hk
 simp only [Bool.and_eq_true, beq_iff_eq] at he
 obtain ⟨hr, hl, _⟩ := he
 obtain rfl : listed = li' := Array.ext' hl
 refine ⟨fun h0 => by rw [h0] at hr; subst hr; simp at hr0, fun k hm => ?_⟩
 have hk2 := BG.get hk (hr ▸ hm)
 have hlt : k < l0.length := by
  obtain ⟨_, o, ho, _⟩ := mem_ready.1 hm
  simpa using (Array.getElem?_eq_some_iff.1 ho).1
 have hi : l0.toArray[k]? = some (nth l0 k) := by simpa using nth_get l0 k hlt
 unfold xOp
 simp only [hi]
 simp only [RX] at hk2
 split
 ·rename_i hw
  rw [if_pos (by exact hw)] at hk2
  unfold Oper.wp at *
  refine upon_mono ?_ (fun _ _ _ h => h) hk2
  rintro a w' ⟨l', rfl, hR, h⟩
  exact ⟨fun _ => hR, h (hcl.set hm)⟩
 ·rename_i hw
  rw [if_neg (by exact hw)] at hk2
  rw [put_fr]
  exact ⟨fun _ => fun h => h, hk2 (hcl.set hm)⟩
end
end Go.Proofs.YtkmgnmebadghbaaGreatDoor.G
namespace Go.Proofs.YtkmgnmebadghbaaGreatDoor.W
open Go.RowKit Go.Proofs.YtkmgnmebadghbaaGreatDoor.G
set_option linter.unusedVariables false
set_option linter.unusedSimpArgs false
set_option maxRecDepth 20000
set_option maxHeartbeats 8000000
attribute [local irreducible] RS RX RY Code.wp bodyPost J Ent.blk Ent.iown Ent.wrow Ent.wown Ent.gown Ent.all Ent.emp
instance : Ents Tryz.prog 86 := ⟨.mk Tryz.func86 (by kernel_rfl) rfl⟩
instance : Ents Tryz.prog 87 := ⟨.mk Tryz.func87 (by kernel_rfl) rfl⟩
theorem erase_mid {α : Type} (f : α → Ent) (l : List α) {p : Nat} (x : α) (h : p ≤ l.length) : ((l.take p ++ x :: l.drop p).map f).eraseIdx p = l.map f := by
 rw [List.map_append, List.map_cons, List.eraseIdx_append_of_length_le (by rw [List.length_map, List.length_take]; omega), List.length_map, List.length_take, Nat.min_eq_left h, Nat.sub_self, List.eraseIdx_cons_zero, ← List.map_append, List.take_append_drop]
theorem set_midE {α : Type} (f : α → Ent) (l : List α) {p : Nat} (x : α) (h : p ≤ l.length) : ((l.take p ++ x :: l.drop p).map f).set p (f x) = (l.take p ++ x :: l.drop p).map f := by
 rw [← List.map_set, List.set_append_right _ _ (by rw [List.length_take]; omega), List.length_take, Nat.min_eq_left h, Nat.sub_self, List.set_cons_zero]
theorem shEq {a a' : List S.PG} {b b' : Nat} {c c' : List Int} {d d' : Int} (h1 : a = a') (h2 : b = b') (h3 : c = c') (h4 : d = d') : (⟨a, b, c, d⟩ : S.ShV) = ⟨a', b', c', d'⟩ := by rw [h1, h2, h3, h4]
theorem set_map {gs : List GrA} {v : S.ShV} {r : Nat} {q1 : GrA} {p : S.PG} (h : gs.map GrA.P = v.ps) (e : q1.P = p) : (gs.set r q1).map GrA.P = v.ps.set r p := by rw [List.map_set, h, e]
theorem shPut {S0 S1 : Nat → Prop} (s : ShA) (z : OpA) (TK : TypeId) (w : World) (K0 : Kst w TK) (H : ShR S0 w s) (hL : ShL s) (R : OpR S1 w z) :
  Calls Tryz.prog 45 #[.agg (shC s).toArray, .agg (opC z).toArray] w (Gv w (fun q : ShA => .tuple #[.agg (shC q).toArray, .agg (ints .u8 (S.puI s.V z.o)).toArray, .int .i64 (S.puE s.V z.o)]) (fun q => shE q) (ShK (S.puS s.V z.o))) := by
 have P0 := H.pr
 have hl := P0.len
 have hcp := H.cap
 have hll : s.V.ps.length = s.pn := by rw [List.length_map, H.pr.len]
 have hoi := S.ok_iff (v := s.V) H.ml
 have h20 := R.ok.n
 have D1 := R.row
 refine J.enter 130 Tryz.func45 rfl rfl ?_
 refine run ?_
 refine J.box rfl rfl rfl fun b1 => ?_
 refine J.box rfl rfl rfl fun b2 => ?_
 refine J.alloc rfl fun b3 => ?_
 refine J.alloc rfl fun b4 => ?_
 refine run ?_
 refine J.callp rfl rfl (fun w' M => shCheck s _ w' (K0.ext M.ext) (H.ext M.ext) hL) ?_
 refine run ?_
 refine J.joinX (A := Int) (fun r => [(7, .int .i64 r)]) [24, 25] (fun _ => [.blk b4 (ints .u8 (List.replicate 32 0)) 27, .blk b3 [.slice none 0 0, .slice none 0 0, .int .i64 0] 25, .blk b2 (opC z) 54, .blk b1 (shC s) 25]) (fun r => (S.chkH s.V = 0 → r = S.verE z.o) ∧ (S.chkH s.V ≠ 0 → r = S.chkH s.V)) ?_ (fun r j1 hr => ?_)
 ·refine J.ife rfl (fun c1 => ?_) (fun c1 => ?_)
  ·refine run ?_
   refine J.callp rfl rfl (fun w' M => verifyO z.o R.ok _ _ _ _ (K0.ext M.ext) (R.row.ext M.ext) R.cap) ?_
   refine run ?_
   exact J.cut _ ⟨rfl, trivial⟩ (by kernel_rfl) ⟨fun _ => rfl, fun h => absurd c1 h⟩
  refine run ?_
  exact J.cut _ ⟨rfl, trivial⟩ (by kernel_rfl) ⟨fun h => absurd h c1, fun _ => rfl⟩
 refine run ?_
 refine J.ifn rfl (fun c2 => ?_) (fun c2 => ?_)
 ·have he : S.puE s.V z.o = r ∧ S.puS s.V z.o = S.ShV.zero ∧ S.puI s.V z.o = List.replicate 32 0 := by
   by_cases c : S.chkH s.V = 0
   ·have e := hr.1 c
    have hok := S.chkH_iff.1 c
    rw [e] at c2 ⊢
    exact S.pu_no hok (S.addE_2 hok.2.1 c2).1 c2
   have e := hr.2 c
   obtain ⟨k1, k2⟩ := S.chkH_ne c
   rw [e, k2]
   exact S.pu_8 k1
  refine run ?_
  refine J.bz rfl ?_
  refine run ?_
  refine J.nilWo 27 .u8 32 ?_
  refine J.noA ?_
  refine J.nilG (fun g : GrA => grC g) 2 61 grC_len ?_
  rw [he.1, he.2.2]
  exact J.finG ShA.zero rfl (shZero he.2.1) sb
 have c1 : S.chkH s.V = 0 := Classical.byContradiction fun c => c (by rw [← hr.2 c, c2])
 have hv : S.verE z.o = 0 := (hr.1 c1).symm.trans c2
 have hchk := S.verE_check hv
 have hok := S.chkH_iff.1 c1
 have hokp := hoi.1 hok
 obtain ⟨n1, n4⟩ := ok_len H hok
 have hgp := hokp.2.1
 have hle := H.le hL n4
 have hwg := S.whole_good (ps := s.V.ps) H.ml
 have hc : S.chkP (S.whole s.V.ps) = 0 := hok.2.1
 have hwo := refWholeOk H
 have hver : s.ver = ((S.whole s.V.ps).m : Nat) := hokp.2.2.2.1
 have hhs : s.hs = S.hdI (S.whole s.V.ps) := hokp.2.2.2.2
 have hA := S.sha_arr (S.encS z.o)
 obtain ⟨r1, r2⟩ := S.res_lt (ps := s.V.ps) (x := S.idOf z.o) (by omega)
 obtain ⟨g, hg⟩ : ∃ g, s.gs[S.resN s.V.ps (S.idOf z.o)]? = some g := ⟨_, List.getElem?_eq_getElem (by rw [hl]; omega)⟩
 have hgP := shAt hg
 have hin := S.in_part (x := S.idOf z.o) hgp (by omega)
 rw [hgP] at hin
 refine run ?_
 refine J.callp rfl rfl (fun w' M => idO z.o R.ok _ _ _ _ (K0.ext M.ext) (R.row.ext M.ext) R.cap) ?_
 rw [if_pos hchk]
 refine run ?_
 refine J.alloc rfl fun b5 => ?_
 refine run ?_
 refine J.callp rfl rfl (fun w' M => shFind s _ g w' (H.ext M.ext) hA hgp n1 hg) ?_
 obtain ⟨sp, hsp⟩ := ex (S.spotS g.m g.ids (S.sha (S.encS z.o)))
 rw [← hsp]
 have hspl : sp ≤ g.m := by rw [hsp]; exact S.spotC_le _ _
 refine run ?_
 refine J.fn rfl rfl rfl ?_
 refine run ?_
 refine J.ifd rfl (fun c3 => ?_) (fun c3 => ?_)
 ·have he := S.pu_no hok (S.addE_3 hc hv (hin.2 c3)) (by decide)
  refine run ?_
  refine J.bz rfl ?_
  refine run ?_
  refine J.nilWo 27 .u8 32 ?_
  refine J.noA ?_
  refine J.nilG (fun g : GrA => grC g) 2 61 grC_len ?_
  rw [he.1, he.2.2]
  exact J.finG ShA.zero rfl (shZero he.2.1) sb
 have hin' : ¬ S.inS (S.whole s.V.ps).m (S.whole s.V.ps).ids (S.idOf z.o) := fun h => c3 (hin.1 h)
 refine run ?_
 refine J.callp rfl rfl (fun w' M => hasAbs s _ _ _ _ b1 _ w' (blkC b1 M) (H.ext M.ext) (D1.ext M.ext) hgp n1 (by omega)) ?_
 refine run ?_
 refine J.ifd rfl (fun c4 => ?_) (fun c4 => ?_)
 ·have he := S.pu_no hok (S.addE_4 hc hv hin' c4) (by decide)
  refine run ?_
  refine J.bz rfl ?_
  refine run ?_
  refine J.nilWo 27 .u8 32 ?_
  refine J.noA ?_
  refine J.nilG (fun g : GrA => grC g) 2 61 grC_len ?_
  rw [he.1, he.2.2]
  exact J.finG ShA.zero rfl (shZero he.2.1) sb
 have c4 := Classical.not_not.1 c4
 refine run ?_
 refine J.ife rfl (fun c5 => ?_) (fun c5 => ?_)
 ·have he := S.pu_no hok (S.addE_5 hc hv hin' c4 (by omega)) (by decide)
  refine run ?_
  refine J.bz rfl ?_
  refine run ?_
  refine J.nilWo 27 .u8 32 ?_
  refine J.noA ?_
  refine J.nilG (fun g : GrA => grC g) 2 61 grC_len ?_
  rw [he.1, he.2.2]
  exact J.finG ShA.zero rfl (shZero he.2.1) sb
 have ha := S.addE_0 hc hv hin' c4 (by omega)
 have he := S.pu_0 hok ha
 have hmp := S.made_put hokp ha
 obtain ⟨hd1, hd2, hd3⟩ := S.hd_all (g := S.whole s.V.ps) ((S.chkP_fine hwg.1).1 hc)
 have hhl := H.hr.len
 have hhn : S.hdN (S.whole s.V.ps) = s.hn := by rw [← hhs] at hd1; omega
 rw [hhn] at hmp hd2
 rw [← hhs] at hd2
 rw [he.1, he.2.1, he.2.2, hmp]
 clear hmp he hd1 hd3
 obtain ⟨ke1, ke2, _⟩ := S.kp_all (o := z.o) (n := s.hn) (hs := s.hs) hhl hd2
 have hkn := S.numF_le (S.keepF z.o s.hs) s.hn
 have hkn' : S.kpN z.o s.hn s.hs ≤ s.hn := hkn
 have hhn60 : s.hn ≤ 64 := by have := S.numF_le (S.hdF (S.whole s.V.ps).m (S.whole s.V.ps).ids (S.whole s.V.ps).ops) (S.whole s.V.ps).m; have e : S.numF (S.hdF (S.whole s.V.ps).m (S.whole s.V.ps).ids (S.whole s.V.ps).ops) (S.whole s.V.ps).m = s.hn := hhn; omega
 obtain ⟨rr, hrr⟩ := ex (S.resN s.V.ps (S.idOf z.o))
 rw [← hrr] at r1 r2 hg hgP ⊢
 refine run ?_
 refine J.alloc rfl fun b6 => ?_
 refine run ?_
 refine J.noA ?_
 refine J.nilG (fun g : GrA => grC g) 2 61 grC_len ?_
 refine J.loop (A := TsA) (fun p => [(68, .int .i64 (p.i : Nat))]) [16, 69, 70, 71, 72, 73, 74, 75, 76, 77, 78, 79] (fun p => [.gown (fun g : GrA => grC g) 2 61 p.a p.i p.c p.gs, .all (p.gs.map grAll), .blk b6 [.slice p.a p.i p.c, .slice none 0 0, .int .i64 (s.ver + 1)] 25, .blk b5 (ints .u8 (S.sha (S.encS z.o))) 27, .blk b4 (ints .u8 (List.replicate 32 0)) 27, .blk b3 [.slice none 0 0, .slice none 0 0, .int .i64 0] 25, .blk b2 (opC z) 54, .blk b1 (shC s) 25]) (fun p => p.i ≤ s.pn ∧ p.gs.map GrA.P = s.V.ps.take p.i ∧ ∀ x ∈ p.gs, GrK x) (fun p => s.pn - p.i) ⟨0, none, 0, []⟩ (by kernel_rfl) ⟨Nat.zero_le _, rfl, fun z hz => (by cases hz)⟩ (fun p j2 hI => ?_)
 obtain ⟨hp, hps, hpk⟩ := hI
 refine run ?_
 refine J.ifd rfl (fun d1 => ?_) (fun d1 => ?_)
 ·obtain ⟨y, hy⟩ := P0.ex (i := (p.i : Nat)) (by omega)
  have hy' := hy
  rw [Int.toNat_natCast] at hy'
  have G := H.g hy'
  have hcp2 := G.cap
  refine run ?_
  refine J.alloc rfl fun b7 => ?_
  refine run ?_
  refine J.regionX [(0, .q), (1, .q), (2, .q), (3, .e), (4, .e), (5, .g), (6, .q), (7, .g)] mixed (by kernel_rfl) ?_
  refine run ?_
  refine J.call rfl rfl (fun w' M => shTwin y w' (G.ext M.ext)) fun q hq => ?_
  dsimp only [grE, List.cons_append, List.nil_append]
  refine J.b1G (fun g : GrA => grC g) q grC_len rfl rfl rfl fun bb => ?_
  refine J.apG rfl rfl RG.own' grC_one fun a' c' => ?_
  refine run ?_
  refine J.triG q ?_
  refine J.snocA (p.gs.map grAll) (grAll q) ?_
  refine J.re (.all (p.gs.map grAll ++ [grAll q])) (.all ((p.gs ++ [q]).map grAll)) (fun _ _ h => by rw [List.map_append]; exact h) ?_
  refine J.drop (E := [.gown (fun g : GrA => grC g) 2 61 a' (p.i + 1) c' (p.gs ++ [q]), .all ((p.gs ++ [q]).map grAll), .blk b6 [.slice a' (p.i + 1) c', .slice none 0 0, .int .i64 (s.ver + 1)] 25, .blk b5 (ints .u8 (S.sha (S.encS z.o))) 27, .blk b4 (ints .u8 (List.replicate 32 0)) 27, .blk b3 [.slice none 0 0, .slice none 0 0, .int .i64 0] 25, .blk b2 (opC z) 54, .blk b1 (shC s) 25]) sb ?_
  exact J.next ⟨p.i + 1, a', c', p.gs ++ [q]⟩ ⟨rfl, trivial⟩ (by kernel_rfl) ⟨by dsimp only; omega, gsTake hy' (GrP.P (P := y.P) hq) hps, fun u hu => by
   rcases List.mem_append.1 hu with h | h
   ·exact hpk u h
   rw [List.mem_singleton] at h
   subst h
   exact ⟨hq.ok G.opz, hq.cap⟩⟩ (by dsimp only; omega)
 obtain ⟨pi, pa, pc, gs⟩ := p
 dsimp only at hp hps hpk d1 ⊢
 obtain rfl : pi = s.pn := by omega
 have hps : gs.map GrA.P = s.V.ps := hps.trans (List.take_of_length_le (by rw [hll]; exact Nat.le_refl _))
 refine run ?_
 refine J.call rfl rfl (fun w' M => cloneW _ _ _ _ w' (D1.ext M.ext) R.cap (by omega)) fun q hq => ?_
 refine run ?_
 have hgl : gs.length = s.pn := by have := congrArg List.length hps; rw [List.length_map] at this; omega
 obtain ⟨q0, hq0⟩ : ∃ q0, gs[rr]? = some q0 := ⟨_, List.getElem?_eq_getElem (by omega)⟩
 have hq0P : q0.P = g.P := by
  have e := congrArg (fun l : List S.PG => l[rr]?) hps
  simp only [List.getElem?_map, hq0, hg, Option.map_some] at e
  exact Option.some.inj e
 have hq0m : q0.m = g.m := congrArg S.PG.m hq0P
 have hq0i : q0.ids = g.ids := congrArg S.PG.ids hq0P
 have hgg := hgp _ r2
 rw [hgP] at hgg
 have hgn : g.ops.length = g.m := hgg.1.2
 have hq0o : q0.ops = g.ops := congrArg S.PG.ops hq0P
 have hq0k := hpk q0 (List.mem_of_getElem? hq0)
 have hgm : g.m ≤ 70 := (H.g hg).cap.2.2.1
 refine J.fact (.gown (fun g : GrA => grC g) 2 61 pa s.pn pc gs) (fun _ _ h => (gown_e h).1.some (by omega)) fun hpa => ?_
 have hpb : ∃ b o, pa = some ⟨b, o, none⟩ := hpa.elim fun b h => ⟨b, 0, h⟩
 have hgr : gs[((rr : Nat) : Int).toNat]? = some q0 := by rw [Int.toNat_natCast]; exact hq0
 refine J.openA (gs.map grAll) rr (e := grAll q0) (by rw [List.getElem?_map, hq0]; rfl) ?_
 refine J.re (grAll q0) (.all [.gown opC 11 54 (q0).oa (q0).n (q0).oc (q0).zs, .all ((q0).zs.map (opE 27)), .wown 27 .u8 32 (q0).ia (q0).m (q0).ic (q0).ids]) (fun _ _ h => h) ?_
 refine J.openA [.gown opC 11 54 (q0).oa (q0).n (q0).oc (q0).zs, .all ((q0).zs.map (opE 27)), .wown 27 .u8 32 (q0).ia (q0).m (q0).ic (q0).ids] 2 rfl ?_
 dsimp only [List.eraseIdx]
 refine J.openA [.gown opC 11 54 (q0).oa (q0).n (q0).oc (q0).zs, .all ((q0).zs.map (opE 27))] 1 rfl ?_
 dsimp only [List.eraseIdx]
 refine J.openA [.gown opC 11 54 (q0).oa (q0).n (q0).oc (q0).zs] 0 rfl ?_
 dsimp only [List.eraseIdx]
 refine J.fact (.wown 27 .u8 32 q0.ia q0.m q0.ic q0.ids) (fun _ _ h => (wown_len h).1) fun hlen0 => ?_
 refine J.fact (.wown 27 .u8 32 q0.ia q0.m q0.ic q0.ids) (fun _ _ h => (wown_e h).1.bd) fun hbd0 => ?_
 refine J.fact (.gown opC 11 54 q0.oa q0.n q0.oc q0.zs) (fun _ _ h => (gown_e h).1.len) fun hzl0 => ?_
 obtain ⟨ids, hl1, hl2⟩ := chunks q0.m q0.ids hlen0
 have hzn : q0.n = g.m := by have h := congrArg List.length hq0o; unfold GrA.ops at h; rw [List.length_map] at h; unfold GrA.ops at hgn; omega
 have hil : (ids.take sp ++ (⟨S.sha (S.encS z.o), hA.1⟩ : IdV) :: ids.drop sp).length = q0.m + 1 := by simp; omega
 have hzl : (q0.zs.take sp ++ (⟨z.o, q.1, q.2⟩ : OpA) :: q0.zs.drop sp).length = q0.n + 1 := by simp; omega
 have hcv : flatI (ids.take sp ++ (⟨S.sha (S.encS z.o), hA.1⟩ : IdV) :: ids.drop sp) = S.insW q0.ids sp (S.sha (S.encS z.o)) := by rw [flatI_ins, hl2]
 have hbd : Bd .u8 (S.insW q0.ids sp (S.sha (S.encS z.o))) := ins_bd hbd0 hA.2
 have hsg1 : ∀ ia ic, (gs.set ((rr : Nat) : Int).toNat (⟨ia, q0.oa, q0.m + 1, q0.n, ic, q0.oc, S.insW q0.ids sp (S.sha (S.encS z.o)), q0.zs⟩ : GrA))[((rr : Nat) : Int).toNat]? = some ⟨ia, q0.oa, q0.m + 1, q0.n, ic, q0.oc, S.insW q0.ids sp (S.sha (S.encS z.o)), q0.zs⟩ := fun ia ic => by rw [List.getElem?_set, if_pos rfl, if_pos (by omega)]
 refine J.joinX (A := (Option Addr × Nat) × (Option Addr × Nat)) (fun u => []) [88, 89, 90, 91, 92, 93, 94, 95, 96, 97, 98, 99, 100, 101, 102, 103, 104, 105, 106, 107, 108, 109] (fun u => [.gown opC 11 54 u.2.1 (q0.n + 1) u.2.2 (q0.zs.take sp ++ (⟨z.o, q.1, q.2⟩ : OpA) :: q0.zs.drop sp), .all (q0.zs.map (opE 27)), .wown 27 .u8 32 u.1.1 (q0.m + 1) u.1.2 (S.insW q0.ids sp (S.sha (S.encS z.o))), .gown (fun g : GrA => grC g) 2 61 pa s.pn pc (gs.set rr (⟨u.1.1, u.2.1, q0.m + 1, q0.n + 1, u.1.2, u.2.2, S.insW q0.ids sp (S.sha (S.encS z.o)), q0.zs.take sp ++ (⟨z.o, q.1, q.2⟩ : OpA) :: q0.zs.drop sp⟩ : GrA)), .all ((gs.map grAll).eraseIdx rr), .blk b6 [.slice pa s.pn pc, .slice none 0 0, .int .i64 (s.ver + 1)] 25, .wown 27 .u8 32 q.1 z.o.n q.2 z.o.ids, .blk b5 (ints .u8 (S.sha (S.encS z.o))) 27, .blk b4 (ints .u8 (List.replicate 32 0)) 27, .blk b3 [.slice none 0 0, .slice none 0 0, .int .i64 0] 25, .blk b2 (opC ⟨z.o, q.1, q.2⟩) 54, .blk b1 (shC s) 25]) (fun _ => True) ?_ (fun u j3 _ => ?_)
 ·refine J.regionG [.gown (fun g : GrA => grC g) 2 61 pa s.pn pc gs, .blk b5 (ints .u8 (S.sha (S.encS z.o))) 27, .blk b2 (opC ⟨z.o, q.1, q.2⟩) 54] [20, 23] [1, 18, 19, 21, 22] mixed ?_
  refine J.gnodeC [(0, .q), (1, .c), (2, .q), (3, .q), (4, .q), (5, .q), (6, .q), (7, .q), (10, .q), (11, .q), (12, .q), (13, .q), (14, .q), (15, .q)] [8, 16] 9 #[true, true, true, true, true, true, true, true, false, false, true, true, true, true, true, true, false, false, false, false, false, false, false, false] (by kernel_rfl) ?_
  refine run ?_
  refine J.ncP rfl hpb rfl ?_
  refine run ?_
  refine J.ncP rfl hpb rfl ?_
  refine run ?_
  refine J.nil ?_
  refine J.gbr ?_ ?_
  ·refine J.b1G idC ⟨S.sha (S.encS z.o), hA.1⟩ idC_len rfl rfl rfl fun bx => ?_
   refine J.nil ?_
   refine J.gnode [] [9, 16] 8 #[true, true, true, true, true, true, true, true, true, false, true, true, true, true, true, true, false, false, false, false, false, false, false, false] (by kernel_rfl) ?_
   refine run ?_
   refine J.nil ?_
   refine J.gbr ?_ ?_
   ·refine J.re (.wown 27 .u8 32 q0.ia q0.m q0.ic q0.ids) (.gown idC 32 27 q0.ia q0.m q0.ic ids) (fun _ _ h => wown_gown hl2 hl1 h) ?_
    refine J.callG rfl (fun w' M hO' => insId0 q0.ia q0.m q0.ic ids sp ⟨S.sha (S.encS z.o), hA.1⟩ bx w' hO' (by omega) (by omega) (let ⟨_, _, k⟩ := M.get (GO.h (a := some ⟨bx, 0, none⟩) (some ⟨bx, 0, none⟩) 1 1 [(⟨S.sha (S.encS z.o), hA.1⟩ : IdV)]).same; gown_one (gown_e k).1) (fun he => by
     obtain ⟨S1, S2, h1, h2, h3⟩ := M.two (.gown idC 32 27 q0.ia q0.m q0.ic ids) (.gown idC 32 27 (some ⟨bx, 0, none⟩) 1 1 [(⟨S.sha (S.encS z.o), hA.1⟩ : IdV)])
     exact h1 bx ((gown_e h2).2 _ he) ((gown_e h3).2 _ rfl))) fun ia ic => ?_
    rw [hil]
    refine J.nil ?_
    refine J.gfin [(16, .e), (17, .e), (18, .c), (19, .c), (20, .g), (21, .c), (22, .c), (23, .g)] (by kernel_rfl) ?_
    refine run ?_
    refine J.b1G opC ⟨z.o, q.1, q.2⟩ opC_len rfl rfl rfl fun bz => ?_
    refine run ?_
    refine J.callG rfl (fun w' M hO' => insOp0 q0.oa q0.n q0.oc q0.zs sp ⟨z.o, q.1, q.2⟩ bz w' hO' (by omega) (by omega) (let ⟨_, _, k⟩ := M.get (GO.h (a := some ⟨bz, 0, none⟩) (some ⟨bz, 0, none⟩) 1 1 [(⟨z.o, q.1, q.2⟩ : OpA)]).same; gown_one (gown_e k).1) (fun he => by
     obtain ⟨S1, S2, h1, h2, h3⟩ := M.two (.gown opC 11 54 q0.oa q0.n q0.oc q0.zs) (.gown opC 11 54 (some ⟨bz, 0, none⟩) 1 1 [(⟨z.o, q.1, q.2⟩ : OpA)])
     exact h1 bz ((gown_e h2).2 _ he) ((gown_e h3).2 _ rfl))) fun oa oc => ?_
    rw [hzl]
    refine J.sw rfl ?_
    refine run ?_
    refine J.ncP rfl hpb rfl ?_
    refine J.flP rfl hpb rfl ?_
    refine run ?_
    refine J.stGf (f := fun g : GrA => grC g) (o := 0) (q0 := q0) (q := ⟨ia, q0.oa, q0.m + 1, q0.n, ic, q0.oc, S.insW q0.ids sp (S.sha (S.encS z.o)), q0.zs⟩) rfl rfl hgr rfl ?_
    refine run ?_
    refine J.ncP rfl hpb rfl ?_
    refine J.flP rfl hpb rfl ?_
    refine run ?_
    refine J.stGf (f := fun g : GrA => grC g) (o := 1) (q0 := ⟨ia, q0.oa, q0.m + 1, q0.n, ic, q0.oc, S.insW q0.ids sp (S.sha (S.encS z.o)), q0.zs⟩) (q := ⟨ia, oa, q0.m + 1, q0.n + 1, ic, oc, S.insW q0.ids sp (S.sha (S.encS z.o)), (q0.zs.take sp ++ (⟨z.o, q.1, q.2⟩ : OpA) :: q0.zs.drop sp)⟩) rfl rfl (hsg1 ia ic) rfl ?_
    rw [List.set_set, Int.toNat_natCast rr]
    refine run ?_
    refine J.re (.gown idC 32 27 ia (q0.m + 1) ic (ids.take sp ++ (⟨S.sha (S.encS z.o), hA.1⟩ : IdV) :: ids.drop sp)) (.wown 27 .u8 32 ia (q0.m + 1) ic (S.insW q0.ids sp (S.sha (S.encS z.o)))) (fun _ _ h => hcv ▸ gown_wown (hcv.symm ▸ hbd) h) ?_
    refine J.front (.blk b6 [.slice pa s.pn pc, .slice none 0 0, .int .i64 (s.ver + 1)] 25) ?_
    refine J.front (.all ((gs.map grAll).eraseIdx rr)) ?_
    refine J.front (.gown (fun g : GrA => grC g) 2 61 pa s.pn pc (gs.set rr ⟨ia, oa, q0.m + 1, q0.n + 1, ic, oc, S.insW q0.ids sp (S.sha (S.encS z.o)), (q0.zs.take sp ++ (⟨z.o, q.1, q.2⟩ : OpA) :: q0.zs.drop sp)⟩)) ?_
    refine J.front (.wown 27 .u8 32 ia (q0.m + 1) ic (S.insW q0.ids sp (S.sha (S.encS z.o)))) ?_
    refine J.front (.all (q0.zs.map (opE 27))) ?_
    refine J.front (.gown opC 11 54 oa (q0.n + 1) oc (q0.zs.take sp ++ (⟨z.o, q.1, q.2⟩ : OpA) :: q0.zs.drop sp)) ?_
    exact J.cut ((ia, ic), (oa, oc)) trivial (by kernel_rfl) trivial
   refine J.gbr ?_ ?_
   ·refine J.b1G opC ⟨z.o, q.1, q.2⟩ opC_len rfl rfl rfl fun bz => ?_
    refine J.nil ?_
    refine J.gfin [(9, .e), (17, .e), (18, .c), (19, .c), (20, .g), (21, .c), (22, .c), (23, .g)] (by kernel_rfl) ?_
    refine run ?_
    refine J.re (.wown 27 .u8 32 q0.ia q0.m q0.ic q0.ids) (.gown idC 32 27 q0.ia q0.m q0.ic ids) (fun _ _ h => wown_gown hl2 hl1 h) ?_
    refine J.callG rfl (fun w' M hO' => insId0 q0.ia q0.m q0.ic ids sp ⟨S.sha (S.encS z.o), hA.1⟩ bx w' hO' (by omega) (by omega) (let ⟨_, _, k⟩ := M.get (GO.h (a := some ⟨bx, 0, none⟩) (some ⟨bx, 0, none⟩) 1 1 [(⟨S.sha (S.encS z.o), hA.1⟩ : IdV)]).same; gown_one (gown_e k).1) (fun he => by
     obtain ⟨S1, S2, h1, h2, h3⟩ := M.two (.gown idC 32 27 q0.ia q0.m q0.ic ids) (.gown idC 32 27 (some ⟨bx, 0, none⟩) 1 1 [(⟨S.sha (S.encS z.o), hA.1⟩ : IdV)])
     exact h1 bx ((gown_e h2).2 _ he) ((gown_e h3).2 _ rfl))) fun ia ic => ?_
    rw [hil]
    refine run ?_
    refine J.callG rfl (fun w' M hO' => insOp0 q0.oa q0.n q0.oc q0.zs sp ⟨z.o, q.1, q.2⟩ bz w' hO' (by omega) (by omega) (let ⟨_, _, k⟩ := M.get (GO.h (a := some ⟨bz, 0, none⟩) (some ⟨bz, 0, none⟩) 1 1 [(⟨z.o, q.1, q.2⟩ : OpA)]).same; gown_one (gown_e k).1) (fun he => by
     obtain ⟨S1, S2, h1, h2, h3⟩ := M.two (.gown opC 11 54 q0.oa q0.n q0.oc q0.zs) (.gown opC 11 54 (some ⟨bz, 0, none⟩) 1 1 [(⟨z.o, q.1, q.2⟩ : OpA)])
     exact h1 bz ((gown_e h2).2 _ he) ((gown_e h3).2 _ rfl))) fun oa oc => ?_
    rw [hzl]
    refine J.sw rfl ?_
    refine run ?_
    refine J.ncP rfl hpb rfl ?_
    refine J.flP rfl hpb rfl ?_
    refine run ?_
    refine J.stGf (f := fun g : GrA => grC g) (o := 0) (q0 := q0) (q := ⟨ia, q0.oa, q0.m + 1, q0.n, ic, q0.oc, S.insW q0.ids sp (S.sha (S.encS z.o)), q0.zs⟩) rfl rfl hgr rfl ?_
    refine run ?_
    refine J.ncP rfl hpb rfl ?_
    refine J.flP rfl hpb rfl ?_
    refine run ?_
    refine J.stGf (f := fun g : GrA => grC g) (o := 1) (q0 := ⟨ia, q0.oa, q0.m + 1, q0.n, ic, q0.oc, S.insW q0.ids sp (S.sha (S.encS z.o)), q0.zs⟩) (q := ⟨ia, oa, q0.m + 1, q0.n + 1, ic, oc, S.insW q0.ids sp (S.sha (S.encS z.o)), (q0.zs.take sp ++ (⟨z.o, q.1, q.2⟩ : OpA) :: q0.zs.drop sp)⟩) rfl rfl (hsg1 ia ic) rfl ?_
    rw [List.set_set, Int.toNat_natCast rr]
    refine run ?_
    refine J.re (.gown idC 32 27 ia (q0.m + 1) ic (ids.take sp ++ (⟨S.sha (S.encS z.o), hA.1⟩ : IdV) :: ids.drop sp)) (.wown 27 .u8 32 ia (q0.m + 1) ic (S.insW q0.ids sp (S.sha (S.encS z.o)))) (fun _ _ h => hcv ▸ gown_wown (hcv.symm ▸ hbd) h) ?_
    refine J.front (.blk b6 [.slice pa s.pn pc, .slice none 0 0, .int .i64 (s.ver + 1)] 25) ?_
    refine J.front (.all ((gs.map grAll).eraseIdx rr)) ?_
    refine J.front (.gown (fun g : GrA => grC g) 2 61 pa s.pn pc (gs.set rr ⟨ia, oa, q0.m + 1, q0.n + 1, ic, oc, S.insW q0.ids sp (S.sha (S.encS z.o)), (q0.zs.take sp ++ (⟨z.o, q.1, q.2⟩ : OpA) :: q0.zs.drop sp)⟩)) ?_
    refine J.front (.wown 27 .u8 32 ia (q0.m + 1) ic (S.insW q0.ids sp (S.sha (S.encS z.o)))) ?_
    refine J.front (.all (q0.zs.map (opE 27))) ?_
    refine J.front (.gown opC 11 54 oa (q0.n + 1) oc (q0.zs.take sp ++ (⟨z.o, q.1, q.2⟩ : OpA) :: q0.zs.drop sp)) ?_
    exact J.cut ((ia, ic), (oa, oc)) trivial (by kernel_rfl) trivial
   exact J.gbr0
  refine J.gbr ?_ ?_
  ·refine J.b1G opC ⟨z.o, q.1, q.2⟩ opC_len rfl rfl rfl fun bz => ?_
   refine J.nil ?_
   refine J.gfin [(8, .e), (9, .e), (17, .e), (18, .c), (19, .c), (20, .g), (21, .c), (22, .c), (23, .g)] (by kernel_rfl) ?_
   refine run ?_
   refine J.b1G idC ⟨S.sha (S.encS z.o), hA.1⟩ idC_len rfl rfl rfl fun bx => ?_
   refine run ?_
   refine J.re (.wown 27 .u8 32 q0.ia q0.m q0.ic q0.ids) (.gown idC 32 27 q0.ia q0.m q0.ic ids) (fun _ _ h => wown_gown hl2 hl1 h) ?_
   refine J.callG rfl (fun w' M hO' => insId0 q0.ia q0.m q0.ic ids sp ⟨S.sha (S.encS z.o), hA.1⟩ bx w' hO' (by omega) (by omega) (let ⟨_, _, k⟩ := M.get (GO.h (a := some ⟨bx, 0, none⟩) (some ⟨bx, 0, none⟩) 1 1 [(⟨S.sha (S.encS z.o), hA.1⟩ : IdV)]).same; gown_one (gown_e k).1) (fun he => by
    obtain ⟨S1, S2, h1, h2, h3⟩ := M.two (.gown idC 32 27 q0.ia q0.m q0.ic ids) (.gown idC 32 27 (some ⟨bx, 0, none⟩) 1 1 [(⟨S.sha (S.encS z.o), hA.1⟩ : IdV)])
    exact h1 bx ((gown_e h2).2 _ he) ((gown_e h3).2 _ rfl))) fun ia ic => ?_
   rw [hil]
   refine run ?_
   refine J.callG rfl (fun w' M hO' => insOp0 q0.oa q0.n q0.oc q0.zs sp ⟨z.o, q.1, q.2⟩ bz w' hO' (by omega) (by omega) (let ⟨_, _, k⟩ := M.get (GO.h (a := some ⟨bz, 0, none⟩) (some ⟨bz, 0, none⟩) 1 1 [(⟨z.o, q.1, q.2⟩ : OpA)]).same; gown_one (gown_e k).1) (fun he => by
    obtain ⟨S1, S2, h1, h2, h3⟩ := M.two (.gown opC 11 54 q0.oa q0.n q0.oc q0.zs) (.gown opC 11 54 (some ⟨bz, 0, none⟩) 1 1 [(⟨z.o, q.1, q.2⟩ : OpA)])
    exact h1 bz ((gown_e h2).2 _ he) ((gown_e h3).2 _ rfl))) fun oa oc => ?_
   rw [hzl]
   refine J.sw rfl ?_
   refine run ?_
   refine J.ncP rfl hpb rfl ?_
   refine J.flP rfl hpb rfl ?_
   refine run ?_
   refine J.stGf (f := fun g : GrA => grC g) (o := 0) (q0 := q0) (q := ⟨ia, q0.oa, q0.m + 1, q0.n, ic, q0.oc, S.insW q0.ids sp (S.sha (S.encS z.o)), q0.zs⟩) rfl rfl hgr rfl ?_
   refine run ?_
   refine J.ncP rfl hpb rfl ?_
   refine J.flP rfl hpb rfl ?_
   refine run ?_
   refine J.stGf (f := fun g : GrA => grC g) (o := 1) (q0 := ⟨ia, q0.oa, q0.m + 1, q0.n, ic, q0.oc, S.insW q0.ids sp (S.sha (S.encS z.o)), q0.zs⟩) (q := ⟨ia, oa, q0.m + 1, q0.n + 1, ic, oc, S.insW q0.ids sp (S.sha (S.encS z.o)), (q0.zs.take sp ++ (⟨z.o, q.1, q.2⟩ : OpA) :: q0.zs.drop sp)⟩) rfl rfl (hsg1 ia ic) rfl ?_
   rw [List.set_set, Int.toNat_natCast rr]
   refine run ?_
   refine J.re (.gown idC 32 27 ia (q0.m + 1) ic (ids.take sp ++ (⟨S.sha (S.encS z.o), hA.1⟩ : IdV) :: ids.drop sp)) (.wown 27 .u8 32 ia (q0.m + 1) ic (S.insW q0.ids sp (S.sha (S.encS z.o)))) (fun _ _ h => hcv ▸ gown_wown (hcv.symm ▸ hbd) h) ?_
   refine J.front (.blk b6 [.slice pa s.pn pc, .slice none 0 0, .int .i64 (s.ver + 1)] 25) ?_
   refine J.front (.all ((gs.map grAll).eraseIdx rr)) ?_
   refine J.front (.gown (fun g : GrA => grC g) 2 61 pa s.pn pc (gs.set rr ⟨ia, oa, q0.m + 1, q0.n + 1, ic, oc, S.insW q0.ids sp (S.sha (S.encS z.o)), (q0.zs.take sp ++ (⟨z.o, q.1, q.2⟩ : OpA) :: q0.zs.drop sp)⟩)) ?_
   refine J.front (.wown 27 .u8 32 ia (q0.m + 1) ic (S.insW q0.ids sp (S.sha (S.encS z.o)))) ?_
   refine J.front (.all (q0.zs.map (opE 27))) ?_
   refine J.front (.gown opC 11 54 oa (q0.n + 1) oc (q0.zs.take sp ++ (⟨z.o, q.1, q.2⟩ : OpA) :: q0.zs.drop sp)) ?_
   exact J.cut ((ia, ic), (oa, oc)) trivial (by kernel_rfl) trivial
  exact J.gbr0
 obtain ⟨⟨ia, ic⟩, oa, oc⟩ := u
 dsimp only
 have hHH := H.hr
 obtain ⟨hl0, hh1, hh2⟩ := chunks s.hn s.hs hhl
 have hAh : ∀ y ∈ hl0, Arr .u8 32 y.xs := fun y hy => ⟨y.h, fun v hv => hHH.bd v (by rw [← hh2]; unfold flatI; exact List.mem_flatMap.2 ⟨y, hy, hv⟩)⟩
 obtain ⟨hf1, hf2⟩ := kp_filter z.o hh2 s.hn (by omega)
 rw [List.take_of_length_le (by omega)] at hf1 hf2
 have hf1 : flatI (hl0.filter (kpB z.o)) = S.kpI z.o s.hn s.hs := hf1.symm
 have hf2 : (hl0.filter (kpB z.o)).length = S.kpN z.o s.hn s.hs := hf2.symm
 have hfb : Bd .u8 (flatI (hl0.filter (kpB z.o))) := fun v hv => by
  unfold flatI at hv
  obtain ⟨y, hy, hyv⟩ := List.mem_flatMap.1 hv
  exact (hAh y (List.mem_filter.1 hy).1).2 v hyv
 have hkb : Bd .u8 (S.kpI z.o s.hn s.hs) := hf1 ▸ hfb
 obtain ⟨kn, hkn0⟩ := ex (S.kpN z.o s.hn s.hs)
 obtain ⟨kI, hkI0⟩ := ex (S.kpI z.o s.hn s.hs)
 rw [← hkn0, ← hkI0] at ke1 ke2
 rw [← hkn0] at hkn' hf2 ⊢
 rw [← hkI0] at hf1 hkb ⊢
 obtain ⟨kl, hk1, hk2⟩ := chunks kn kI ke1
 refine run ?_
 refine J.call rfl rfl (fun w' M => cloneW _ _ _ _ w' (hHH.ext M.ext) hcp.2.1 (by omega)) fun qh hqh => ?_
 refine run ?_
 refine J.fn rfl rfl rfl ?_
 refine J.re (.wown 27 .u8 32 qh.1 s.hn qh.2 s.hs) (.gown idC 32 27 qh.1 s.hn qh.2 hl0) (fun _ _ h => wown_gown hh2 hh1 h) ?_
 refine J.callG rfl (fun w' M hO' => by
  obtain ⟨S1, S2, h1, h2, h3⟩ := M.two (.gown idC 32 27 qh.1 s.hn qh.2 hl0) (.wown 27 .u8 32 q.1 z.o.n q.2 z.o.ids)
  obtain ⟨S3, S4, g1, g2, g3⟩ := M.two (.gown idC 32 27 qh.1 s.hn qh.2 hl0) (.blk b2 (opC ⟨z.o, q.1, q.2⟩) 54)
  exact delPut2 (S1 := S2) qh.1 s.hn qh.2 hl0 ⟨z.o, q.1, q.2⟩ b2 _ w' hO' (by omega) hAh (blk_e g3).2 (fun he => g1 b2 ((gown_e g2).2 _ he) (blk_e g3).1) (wown_row h3) (fun x hx he => h1 x ((gown_e h2).2 _ he) hx) (by show z.o.n ≤ 1000; omega)) fun ha' hc' => ?_
 rw [show (hl0.filter (kpB (OpA.o ⟨z.o, q.1, q.2⟩))).length = kn from hf2]
 refine run ?_
 refine J.re (.gown idC 32 27 ha' kn hc' (hl0.filter (kpB (OpA.o ⟨z.o, q.1, q.2⟩)))) (.wown 27 .u8 32 ha' kn hc' kI) (fun _ _ h => hf1 ▸ gown_wown hfb h) ?_
 refine run ?_
 refine J.callp rfl rfl (fun w' M => (RW.own' (a := ha') w' M).elim fun _ k0 => bsID _ _ _ _ _ w' k0 hA ke2 (by omega)) ?_
 obtain ⟨sq, hsq⟩ := ex (S.spotS kn kI (S.sha (S.encS z.o)))
 rw [← hsq]
 have hsql : sq ≤ kn := by rw [hsq]; exact S.spotC_le _ _
 have hkil : (kl.take sq ++ (⟨S.sha (S.encS z.o), hA.1⟩ : IdV) :: kl.drop sq).length = kn + 1 := by simp; omega
 have hkcv : flatI (kl.take sq ++ (⟨S.sha (S.encS z.o), hA.1⟩ : IdV) :: kl.drop sq) = S.insW kI sq (S.sha (S.encS z.o)) := by rw [flatI_ins, hk2]
 have hkbd : Bd .u8 (S.insW kI sq (S.sha (S.encS z.o))) := ins_bd hkb hA.2
 refine run ?_
 refine J.b1G idC ⟨S.sha (S.encS z.o), hA.1⟩ idC_len rfl rfl rfl fun bx => ?_
 refine J.re (.wown 27 .u8 32 ha' kn hc' kI) (.gown idC 32 27 ha' kn hc' kl) (fun _ _ h => wown_gown hk2 hk1 h) ?_
 refine J.callG rfl (fun w' M hO' => insId0 ha' kn hc' kl sq ⟨S.sha (S.encS z.o), hA.1⟩ bx w' hO' hsql (by omega) (let ⟨_, _, k⟩ := M.get (GO.h (a := some ⟨bx, 0, none⟩) (some ⟨bx, 0, none⟩) 1 1 [(⟨S.sha (S.encS z.o), hA.1⟩ : IdV)]).same; gown_one (gown_e k).1) (fun he => by
  obtain ⟨S1, S2, h1, h2, h3⟩ := M.two (.gown idC 32 27 ha' kn hc' kl) (.gown idC 32 27 (some ⟨bx, 0, none⟩) 1 1 [(⟨S.sha (S.encS z.o), hA.1⟩ : IdV)])
  exact h1 bx ((gown_e h2).2 _ he) ((gown_e h3).2 _ rfl))) fun h2a h2c => ?_
 rw [hkil]
 refine run ?_
 refine J.re (.gown idC 32 27 h2a (kn + 1) h2c (kl.take sq ++ (⟨S.sha (S.encS z.o), hA.1⟩ : IdV) :: kl.drop sq)) (.wown 27 .u8 32 h2a (kn + 1) h2c (S.insW kI sq (S.sha (S.encS z.o)))) (fun _ _ h => hkcv ▸ gown_wown (hkcv.symm ▸ hkbd) h) ?_
 refine run ?_
 refine J.regionR [.blk b6 [.slice pa s.pn pc, .slice h2a (kn + 1) h2c, .int .i64 (s.ver + 1)] 25, .blk b5 (ints .u8 (S.sha (S.encS z.o))) 27] [(0, .q), (1, .q), (2, .e), (3, .e), (4, .q)] mixed (by kernel_rfl) (by repeat (first | exact List.Sublist.refl _ | refine List.Sublist.cons_cons _ ?_ | refine List.Sublist.cons _ ?_)) ?_
 refine run ?_
 have hzlen : q0.zs.length = g.m := by omega
 refine J.re (.all (q0.zs.map (opE 27))) (.all (((q0.zs.take sp ++ (⟨z.o, q.1, q.2⟩ : OpA) :: q0.zs.drop sp).map (opE 27)).eraseIdx sp)) (fun _ _ h => by rw [erase_mid _ _ _ (by omega)]; exact h) ?_
 refine J.re (.wown 27 .u8 32 q.1 z.o.n q.2 z.o.ids) (opE 27 ⟨z.o, q.1, q.2⟩) (fun _ _ h => h) ?_
 refine J.shutA ((q0.zs.take sp ++ (⟨z.o, q.1, q.2⟩ : OpA) :: q0.zs.drop sp).map (opE 27)) sp (opE 27 ⟨z.o, q.1, q.2⟩) (by rw [List.length_map]; omega) ?_
 refine J.re (.all (((q0.zs.take sp ++ (⟨z.o, q.1, q.2⟩ : OpA) :: q0.zs.drop sp).map (opE 27)).set sp (opE 27 ⟨z.o, q.1, q.2⟩))) (.all ((q0.zs.take sp ++ (⟨z.o, q.1, q.2⟩ : OpA) :: q0.zs.drop sp).map (opE 27))) (fun _ _ h => by rw [set_midE _ _ _ (by omega)] at h; exact h) ?_
 refine J.triG (⟨ia, oa, q0.m + 1, q0.n + 1, ic, oc, S.insW q0.ids sp (S.sha (S.encS z.o)), q0.zs.take sp ++ (⟨z.o, q.1, q.2⟩ : OpA) :: q0.zs.drop sp⟩ : GrA) ?_
 refine J.shutA (gs.map grAll) rr (grAll (⟨ia, oa, q0.m + 1, q0.n + 1, ic, oc, S.insW q0.ids sp (S.sha (S.encS z.o)), q0.zs.take sp ++ (⟨z.o, q.1, q.2⟩ : OpA) :: q0.zs.drop sp⟩ : GrA)) (by rw [List.length_map]; omega) ?_
 rw [← List.map_set]
 refine J.front (.wown 27 .u8 32 h2a (kn + 1) h2c (S.insW kI sq (S.sha (S.encS z.o)))) ?_
 refine J.front (.all ((gs.set rr (⟨ia, oa, q0.m + 1, q0.n + 1, ic, oc, S.insW q0.ids sp (S.sha (S.encS z.o)), q0.zs.take sp ++ (⟨z.o, q.1, q.2⟩ : OpA) :: q0.zs.drop sp⟩ : GrA)).map grAll)) ?_
 refine J.front (.gown (fun g : GrA => grC g) 2 61 pa s.pn pc (gs.set rr (⟨ia, oa, q0.m + 1, q0.n + 1, ic, oc, S.insW q0.ids sp (S.sha (S.encS z.o)), q0.zs.take sp ++ (⟨z.o, q.1, q.2⟩ : OpA) :: q0.zs.drop sp⟩ : GrA))) ?_
 refine J.finG ⟨pa, s.pn, pc, gs.set rr (⟨ia, oa, q0.m + 1, q0.n + 1, ic, oc, S.insW q0.ids sp (S.sha (S.encS z.o)), q0.zs.take sp ++ (⟨z.o, q.1, q.2⟩ : OpA) :: q0.zs.drop sp⟩ : GrA), h2a, kn + 1, h2c, S.insW kI sq (S.sha (S.encS z.o)), s.ver + 1⟩ rfl ⟨?_, ?_⟩ sb
 ·unfold ShA.V
  dsimp only
  rw [hgP, hsq]
  refine shEq (set_map hps ?_) rfl rfl rfl
  unfold GrA.P S.putP GrA.ops
  dsimp only
  rw [insO_map, hq0m, hq0i, hsp]
  have e := hq0o
  unfold GrA.ops at e
  rw [e]
 intro u hu
 rcases List.mem_or_eq_of_mem_set hu with h | rfl
 ·exact hpk u h
 refine ⟨fun y hy => ?_, fun y hy => ?_⟩
 ·rcases List.mem_append.1 hy with k | k
  ·exact hq0k.ok y (List.mem_of_mem_take k)
  rcases List.mem_cons.1 k with rfl | k
  ·exact R.ok
  exact hq0k.ok y (List.mem_of_mem_drop k)
 rcases List.mem_append.1 hy with k | k
 ·exact hq0k.cap y (List.mem_of_mem_take k)
 rcases List.mem_cons.1 k with rfl | k
 ·exact hq
 exact hq0k.cap y (List.mem_of_mem_drop k)
instance : Ents Tryz.prog 10 := ⟨.mk Tryz.func10 (by kernel_rfl) rfl⟩
instance : Ents Tryz.prog 44 := ⟨.mk Tryz.func44 (by kernel_rfl) rfl⟩
instance : Ents Tryz.prog 45 := ⟨.mk Tryz.func45 (by kernel_rfl) rfl⟩
instance : Ents Tryz.prog 46 := ⟨.mk Tryz.func46 (by kernel_rfl) rfl⟩
theorem eqSh_same {a b : S.ShV} (h : a = b) : S.eqSh a b := by subst h; exact ⟨rfl, rfl, rfl, fun i hi => ⟨rfl, rfl⟩⟩
theorem ShK.szR {S0 : Nat → Prop} {w : World} {s o : ShA} (h : ShK s.V o) (H : ShR S0 w s) : (∀ g ∈ o.gs, g.m ≤ 70 ∧ g.ops.length ≤ 70) ∧ (o.gs.length ≤ 6 ∧ o.hn ≤ 100) := by
 have e : o.gs.map GrA.P = s.gs.map GrA.P := congrArg S.ShV.ps h.V
 have e2 : o.hn = s.hn := congrArg S.ShV.hn h.V
 have hcp := H.cap
 refine ⟨fun q hq => ?_, ?_, by omega⟩
 ·have hm : q.P ∈ s.gs.map GrA.P := e ▸ List.mem_map.2 ⟨q, hq, rfl⟩
  obtain ⟨g, hg, e3⟩ := List.mem_map.1 hm
  have G := H.gi g hg
  have h1 := G.cap
  have h2 := G.len
  have h3 : g.m = q.m := congrArg S.PG.m e3
  have h4 : g.ops = q.ops := congrArg S.PG.ops e3
  rw [← h3, ← h4]
  omega
 have := congrArg List.length e
 rw [List.length_map, List.length_map, H.pr.len] at this
 omega
theorem pu_sz {v : S.ShV} {o : S.OpV} {q : ShA} (hl : (S.whole v.ps).ids.length = 32 * (S.whole v.ps).m) (h : ShK (S.puS v o) q) : (∀ g ∈ q.gs, g.m ≤ 70 ∧ g.ops.length ≤ 70) ∧ (q.gs.length ≤ 6 ∧ q.hn ≤ 100) := by
 by_cases c : S.okR v ∧ S.addE (S.whole v.ps) o = 0
 ·rw [(S.pu_0 c.1 c.2).2.1] at h
  exact h.sz (Nat.le_trans (add_size hl).2 (by decide)) c.1.1.2
 have e : S.puS v o = S.ShV.zero := if_neg c
 rw [e] at h
 have h1 : q.gs.map GrA.P = [] := congrArg S.ShV.ps h.V
 have h2 : q.hn = 0 := congrArg S.ShV.hn h.V
 have h3 : q.gs = [] := List.map_eq_nil_iff.1 h1
 rw [h3, h2]
 exact ⟨fun g hg => (by cases hg), Nat.zero_le _, Nat.zero_le _⟩
theorem pu_arr (v : S.ShV) (o : S.OpV) : Arr .u8 32 (S.puI v o) := by
 by_cases c : S.okR v
 ·have e : S.puI v o = S.addI (S.whole v.ps) o := if_pos c
  rw [e]
  exact S.addI_arr _ _
 have e : S.puI v o = List.replicate 32 0 := if_neg c
 rw [e]
 exact ⟨List.length_replicate, fun x hx => by rw [List.eq_of_mem_replicate hx]; decide⟩
@[reducible] def upG (v : GrA) (l : List IdV) : GrA := ⟨v.ia, v.oa, v.m, v.n, v.ic, v.oc, flatI l, v.zs⟩
structure CgA where
 (i : Nat) (gs : List GrA)
structure CiA where
 (i : Nat) (l : List IdV)
theorem shardPuts {S0 S1 : Nat → Prop} (s : ShA) (z : OpA) (TK : TypeId) (w : World) (K0 : Kst w TK) (G : ShI S0 w s) (hr : z.o.rng) (row : WRow .u8 32 S1 w z.pa z.o.n z.o.ids) (cap : z.o.n ≤ z.pc) :
  Calls Tryz.prog 5 #[.agg (shC s).toArray, .agg (opC z).toArray] w (Ret w fun v _ => v = .bool true) := by
 refine J.enter 105 Tryz.func5 rfl rfl ?_
 refine run ?_
 refine J.box rfl rfl rfl fun b1 => ?_
 refine J.box rfl rfl rfl fun b2 => ?_
 refine run ?_
 refine J.call rfl rfl (fun w' M => refShGreat s w' (G.ext M.ext)) fun g hg => ?_
 refine run ?_
 refine J.sp rfl rfl rfl (fun c1 => ?_) (fun c1 => ?_)
 ·refine run ?_
  exact J.fin rfl
 refine run ?_
 refine J.callp rfl rfl (fun w' M => great z.o z.pa z.pc w') ?_
 refine run ?_
 refine J.ifd rfl (fun c2 => ?_) (fun c2 => ?_)
 ·refine run ?_
  exact J.fin rfl
 obtain ⟨H, hL⟩ := G.sh (hg c1)
 have R : OpR S1 w z := ⟨hr.ok c2, row, cap⟩
 have hwl : (S.whole s.V.ps).ids.length = 32 * (S.whole s.V.ps).m := (S.whole_good (ps := s.V.ps) H.ml).1
 have hsl := H.pr.len
 have har := pu_arr s.V z.o
 refine run ?_
 refine J.call rfl rfl (fun w' M => refShTwin s w' (H.ext M.ext)) fun o1 ho1 => ?_
 refine J.fact (.gown (fun g : GrA => grC g) 2 61 o1.pa o1.pn o1.pc o1.gs) (fun _ _ h => (gown_e h).1.len) fun ho1l => ?_
 obtain ⟨z1, z2⟩ := ho1.szR H
 have hoL : ShL o1 := fun h => by
  have e := congrArg List.length (congrArg S.ShV.ps ho1.V)
  rw [List.length_map, List.length_map] at e
  rw [ho1.V]
  exact hL (by omega)
 refine run ?_
 refine J.alloc rfl fun b3 => ?_
 refine run ?_
 refine J.call rfl rfl (fun w' M => shPut o1 z TK w' (K0.ext M.ext) (ShR.own ho1.k z1 z2 w' M) hoL (R.ext M.ext)) fun a ha => ?_
 rw [ho1.V] at ha ⊢
 refine run ?_
 refine J.alloc rfl fun b4 => ?_
 refine J.alloc rfl fun b5 => ?_
 refine run ?_
 refine J.call rfl rfl (fun w' M => refShPut s z w' (H.ext M.ext) hL (R.ext M.ext)) fun b hb => ?_
 refine run ?_
 refine J.alloc rfl fun b6 => ?_
 refine J.alloc rfl fun b7 => ?_
 obtain ⟨x1, x2⟩ := pu_sz hwl ha
 obtain ⟨y1, y2⟩ := pu_sz hwl hb
 refine run ?_
 refine J.callp rfl rfl (fun w' M => refShSame a b w' (ShR.own ha.k x1 x2 w' M) (ShR.own hb.k y1 y2 w' M)) ?_
 rw [show decide (S.eqSh a.V b.V) = true from decide_eq_true (eqSh_same (ha.V.trans hb.V.symm))]
 refine run ?_
 refine J.spd rfl rfl rfl (fun c => absurd rfl c) (fun _ => ?_)
 refine run ?_
 refine J.spn rfl rfl rfl (fun c => absurd rfl c) (fun _ => ?_)
 refine run ?_
 refine J.callp rfl rfl (fun w' M => refShSame o1 s w' (ShR.own ho1.k z1 z2 w' M) (H.ext M.ext)) ?_
 rw [show decide (S.eqSh o1.V s.V) = true from decide_eq_true (eqSh_same ho1.V)]
 refine run ?_
 refine J.fact (.gown (fun g : GrA => grC g) 2 61 a.pa a.pn a.pc a.gs) (fun _ _ h => (gown_e h).1.len) fun hal => ?_
 have ham : ∀ g ∈ a.gs, g.m ≤ 70 := fun g hg => (x1 g hg).1
 have haz := x2.2
 have hapn : a.pn ≤ 6 := by have := x2.1; omega
 refine J.drop (E := [.blk b4 (shC a) 25, .gown (fun g : GrA => grC g) 2 61 a.pa a.pn a.pc a.gs, .all (a.gs.map grAll), .wown 27 .u8 32 a.ha a.hn a.hc a.hs, .blk b3 (shC o1) 25, .gown (fun g : GrA => grC g) 2 61 o1.pa o1.pn o1.pc o1.gs, .all (o1.gs.map grAll), .wown 27 .u8 32 o1.ha o1.hn o1.hc o1.hs, .blk b1 (shC s) 25]) sb ?_
 refine J.loop (A := CgA) (fun p => [(12, .int .i64 (p.i : Nat))]) [13, 57, 58, 59, 60, 61, 62, 63, 64, 65, 66, 67, 68, 69, 70, 71, 72, 73, 74, 75, 76, 77, 78, 79, 80, 81, 82, 83, 84, 85, 86, 87] (fun p => [.blk b4 (shC a) 25, .gown (fun g : GrA => grC g) 2 61 a.pa a.pn a.pc p.gs, .all (p.gs.map grAll), .wown 27 .u8 32 a.ha a.hn a.hc a.hs, .blk b3 (shC o1) 25, .gown (fun g : GrA => grC g) 2 61 o1.pa o1.pn o1.pc o1.gs, .all (o1.gs.map grAll), .wown 27 .u8 32 o1.ha o1.hn o1.hc o1.hs, .blk b1 (shC s) 25]) (fun p => p.i ≤ a.pn ∧ p.gs.length = a.pn ∧ ∀ g ∈ p.gs, g.m ≤ 70) (fun p => a.pn - p.i) ⟨0, a.gs⟩ (by kernel_rfl) ⟨Nat.zero_le _, hal, ham⟩ (fun p j hI => ?_)
 obtain ⟨hI1, hI2, hI3⟩ := hI
 refine run ?_
 refine J.ifd rfl (fun d1 => ?_) (fun d1 => ?_)
 ·obtain ⟨q0, hq0⟩ : ∃ q0, p.gs[p.i]? = some q0 := ⟨_, List.getElem?_eq_getElem (by omega)⟩
  have hm0 := hI3 q0 (List.mem_of_getElem? hq0)
  refine run ?_
  refine J.loop (A := CgA) (fun u => [(13, .int .i64 (u.i : Nat))]) [64, 65, 66, 67, 68, 69, 70, 71, 72, 73, 74, 75, 76, 77, 78, 79, 80, 81, 82, 83, 84, 85, 86, 87] (fun u => [.blk b4 (shC a) 25, .gown (fun g : GrA => grC g) 2 61 a.pa a.pn a.pc u.gs, .all (u.gs.map grAll), .wown 27 .u8 32 a.ha a.hn a.hc a.hs, .blk b3 (shC o1) 25, .gown (fun g : GrA => grC g) 2 61 o1.pa o1.pn o1.pc o1.gs, .all (o1.gs.map grAll), .wown 27 .u8 32 o1.ha o1.hn o1.hc o1.hs, .blk b1 (shC s) 25]) (fun u => u.i ≤ q0.m ∧ u.gs.length = a.pn ∧ (∀ g ∈ u.gs, g.m ≤ 70) ∧ ∃ v, u.gs[p.i]? = some v ∧ v.m = q0.m) (fun u => q0.m - u.i) ⟨0, p.gs⟩ (by kernel_rfl) ⟨Nat.zero_le _, hI2, hI3, q0, hq0, rfl⟩ (fun u j2 hU => ?_)
  obtain ⟨hU1, hU2, hU3, v, hv, hvm⟩ := hU
  have hvv : u.gs[((p.i : Nat) : Int).toNat]? = some v := by rw [Int.toNat_natCast]; exact hv
  refine run ?_
  refine J.ifd rfl (fun d2 => ?_) (fun d2 => ?_)
  ·refine J.openA (u.gs.map grAll) p.i (e := grAll v) (by rw [List.getElem?_map, hv]; rfl) ?_
   refine J.re (grAll v) (.all [.gown opC 11 54 (v).oa (v).n (v).oc (v).zs, .all ((v).zs.map (opE 27)), .wown 27 .u8 32 (v).ia (v).m (v).ic (v).ids]) (fun _ _ h => h) ?_
   refine J.openA [.gown opC 11 54 (v).oa (v).n (v).oc (v).zs, .all ((v).zs.map (opE 27)), .wown 27 .u8 32 (v).ia (v).m (v).ic (v).ids] 2 rfl ?_
   dsimp only [List.eraseIdx]
   refine J.openA [.gown opC 11 54 (v).oa (v).n (v).oc (v).zs, .all ((v).zs.map (opE 27))] 1 rfl ?_
   dsimp only [List.eraseIdx]
   refine J.openA [.gown opC 11 54 (v).oa (v).n (v).oc (v).zs] 0 rfl ?_
   dsimp only [List.eraseIdx]
   refine J.fact (.wown 27 .u8 32 v.ia v.m v.ic v.ids) (fun _ _ h => (wown_len h).1) fun hlen => ?_
   refine J.fact (.wown 27 .u8 32 v.ia v.m v.ic v.ids) (fun _ _ h => (wown_e h).1.bd) fun hbd => ?_
   obtain ⟨l, hl1, hl2⟩ := chunks v.m v.ids hlen
   refine J.re (.wown 27 .u8 32 v.ia v.m v.ic v.ids) (.gown idC 32 27 v.ia v.m v.ic l) (fun _ _ h => wown_gown hl2 hl1 h) ?_
   refine J.fact (.gown idC 32 27 v.ia v.m v.ic l) (fun _ _ h => (gown_e h).1.some (by omega)) fun hpa => ?_
   have hpb : ∃ b o, v.ia = some ⟨b, o, none⟩ := hpa.elim fun b h => ⟨b, 0, h⟩
   obtain ⟨x, hx⟩ : ∃ x, l[((u.i : Nat) : Int).toNat]? = some x := ⟨_, List.getElem?_eq_getElem (by omega)⟩
   refine run ?_
   refine J.regionX [(0, .q), (1, .q), (2, .q), (3, .q), (4, .q), (5, .q), (6, .q), (7, .q), (8, .q), (9, .q), (10, .q), (11, .q), (12, .q), (13, .g)] mixed (by kernel_rfl) ?_
   refine run ?_
   refine J.ixN 0 rfl hpb rfl rfl ?_
   refine J.ldGf (f := idC) (off := 0) rfl RG.own' ?_ (hq := hx) (hf := idC_at x (by decide))
   refine J.add rfl rfl rfl ?_ (hw := W.u8m _)
   refine run ?_
   refine J.ixN 0 rfl hpb rfl rfl ?_
   refine J.stGf (f := idC) (o := 0) (q0 := x) (q := idUp 0 x) rfl rfl hx (idUp_eq 0 x) ?_
   refine run ?_
   have hx' : l[u.i]? = some x := by rw [Int.toNat_natCast] at hx; exact hx
   rw [Int.toNat_natCast u.i]
   refine J.re (.gown idC 32 27 v.ia v.m v.ic (l.set u.i (idUp 0 x))) (.wown 27 .u8 32 v.ia v.m v.ic (flatI (l.set u.i (idUp 0 x)))) (fun _ _ h => gown_wown (up_bd (by rw [hl2]; exact hbd) 0 hx') h) ?_
   refine J.triG (upG v (l.set u.i (idUp 0 x))) ?_
   refine J.shutA (u.gs.map grAll) p.i (grAll (upG v (l.set u.i (idUp 0 x)))) (by rw [List.length_map]; omega) ?_
   rw [← List.map_set]
   refine J.re (.gown (fun g : GrA => grC g) 2 61 a.pa a.pn a.pc u.gs) (.gown (fun g : GrA => grC g) 2 61 a.pa a.pn a.pc (u.gs.set p.i (upG v (l.set u.i (idUp 0 x))))) (fun _ _ h => gown_reG (flat_same hv rfl) (by rw [List.length_set]) h) ?_
   refine J.front (.wown 27 .u8 32 a.ha a.hn a.hc a.hs) ?_
   refine J.front (.all ((u.gs.set p.i (upG v (l.set u.i (idUp 0 x)))).map grAll)) ?_
   refine J.front (.gown (fun g : GrA => grC g) 2 61 a.pa a.pn a.pc (u.gs.set p.i (upG v (l.set u.i (idUp 0 x))))) ?_
   refine J.front (.blk b4 (shC a) 25) ?_
   refine J.drop (E := [.blk b4 (shC a) 25, .gown (fun g : GrA => grC g) 2 61 a.pa a.pn a.pc (u.gs.set p.i (upG v (l.set u.i (idUp 0 x)))), .all ((u.gs.set p.i (upG v (l.set u.i (idUp 0 x)))).map grAll), .wown 27 .u8 32 a.ha a.hn a.hc a.hs, .blk b3 (shC o1) 25, .gown (fun g : GrA => grC g) 2 61 o1.pa o1.pn o1.pc o1.gs, .all (o1.gs.map grAll), .wown 27 .u8 32 o1.ha o1.hn o1.hc o1.hs, .blk b1 (shC s) 25]) sb ?_
   exact J.next ⟨u.i + 1, u.gs.set p.i (upG v (l.set u.i (idUp 0 x)))⟩ ⟨rfl, trivial⟩ (by kernel_rfl) ⟨by dsimp only; omega, by dsimp only; rw [List.length_set]; exact hU2, fun y hy => by
    rcases List.mem_or_eq_of_mem_set hy with k | rfl
    ·exact hU3 y k
    exact hU3 v (List.mem_of_getElem? hv), upG v (l.set u.i (idUp 0 x)), by dsimp only; rw [List.getElem?_set]; rw [if_pos rfl, if_pos (by omega)], hvm⟩ (by dsimp only; omega)
  refine run ?_
  exact J.next ⟨p.i + 1, u.gs⟩ ⟨rfl, trivial⟩ (by kernel_rfl) ⟨by dsimp only; omega, hU2, hU3⟩ (by dsimp only; omega)
 refine run ?_
 refine J.fact (.wown 27 .u8 32 a.ha a.hn a.hc a.hs) (fun _ _ h => (wown_len h).1) fun hhl => ?_
 obtain ⟨hl, hl1, hl2⟩ := chunks a.hn a.hs hhl
 refine J.re (.wown 27 .u8 32 a.ha a.hn a.hc a.hs) (.gown idC 32 27 a.ha a.hn a.hc hl) (fun _ _ h => wown_gown hl2 hl1 h) ?_
 refine J.drop (E := [.blk b4 (shC a) 25, .gown idC 32 27 a.ha a.hn a.hc hl, .blk b3 (shC o1) 25, .gown (fun g : GrA => grC g) 2 61 o1.pa o1.pn o1.pc o1.gs, .all (o1.gs.map grAll), .wown 27 .u8 32 o1.ha o1.hn o1.hc o1.hs, .blk b1 (shC s) 25]) sb ?_
 refine J.loop (A := CiA) (fun u => [(14, .int .i64 (u.i : Nat))]) [88, 89, 90, 91, 92, 93, 94, 95, 96, 97, 98, 99, 100, 101, 102, 103] (fun u => [.blk b4 (shC a) 25, .gown idC 32 27 a.ha a.hn a.hc u.l, .blk b3 (shC o1) 25, .gown (fun g : GrA => grC g) 2 61 o1.pa o1.pn o1.pc o1.gs, .all (o1.gs.map grAll), .wown 27 .u8 32 o1.ha o1.hn o1.hc o1.hs, .blk b1 (shC s) 25]) (fun u => u.i ≤ a.hn ∧ u.l.length = a.hn) (fun u => a.hn - u.i) ⟨0, hl⟩ (by kernel_rfl) ⟨Nat.zero_le _, hl1⟩ (fun u j2 hU => ?_)
 obtain ⟨hU1, hU2⟩ := hU
 refine run ?_
 refine J.ifd rfl (fun d2 => ?_) (fun d2 => ?_)
 ·refine J.fact (.gown idC 32 27 a.ha a.hn a.hc u.l) (fun _ _ h => (gown_e h).1.some (by omega)) fun hpa => ?_
  have hpb : ∃ b o, a.ha = some ⟨b, o, none⟩ := hpa.elim fun b h => ⟨b, 0, h⟩
  obtain ⟨x, hx⟩ : ∃ x, u.l[((u.i : Nat) : Int).toNat]? = some x := ⟨_, List.getElem?_eq_getElem (by omega)⟩
  refine run ?_
  refine J.regionX [(0, .q), (1, .q), (2, .q), (3, .q), (4, .q), (5, .q), (6, .q), (7, .q), (8, .q), (9, .g)] mixed (by kernel_rfl) ?_
  refine run ?_
  refine J.ixN 31 rfl hpb rfl rfl ?_
  refine J.ldGf (f := idC) (off := 31) rfl RG.own' ?_ (hq := hx) (hf := idC_at x (by decide))
  refine J.add rfl rfl rfl ?_ (hw := W.u8m _)
  refine run ?_
  refine J.ixN 31 rfl hpb rfl rfl ?_
  refine J.stGf (f := idC) (o := 31) (q0 := x) (q := idUp 31 x) rfl rfl hx (idUp_eq 31 x) ?_
  refine run ?_
  exact J.next ⟨u.i + 1, u.l.set ((u.i : Nat) : Int).toNat (idUp 31 x)⟩ ⟨rfl, trivial⟩ (by kernel_rfl) ⟨by dsimp only; omega, by dsimp only; rw [List.length_set]; exact hU2⟩ (by dsimp only; omega)
 refine run ?_
 refine J.callp rfl rfl (fun w' M => refShSame o1 s w' (ShR.own ho1.k z1 z2 w' M) (H.ext M.ext)) ?_
 refine run ?_
 exact J.fin (congrArg _ (decide_eq_true (eqSh_same ho1.V)))
end Go.Proofs.YtkmgnmebadghbaaGreatDoor.W
