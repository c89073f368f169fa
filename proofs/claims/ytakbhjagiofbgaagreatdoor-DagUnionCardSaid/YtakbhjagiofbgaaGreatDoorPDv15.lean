/-
  Part 15 of the lemmas of these laws: DagUnion.
-/
import Derived.Test.YtakbhjagiofbgaaGreatDoorPDv14
set_option linter.unusedSimpArgs false
namespace Go.Proofs.YtakbhjagiofbgaaGreatDoor.W
open Go.RowKit Go.Proofs.YtakbhjagiofbgaaGreatDoor.G
set_option linter.unusedVariables false
set_option linter.unusedSimpArgs false
set_option maxRecDepth 20000
set_option maxHeartbeats 8000000
attribute [local irreducible] RS RX RY Code.wp bodyPost J Ent.blk Ent.irow Ent.iown Ent.wrow Ent.wown Ent.grow Ent.gown Ent.all Ent.emp
instance : Ents Tryz.prog 126 := ⟨.mk Tryz.func126 (by kernel_rfl) rfl⟩
instance : Ents Tryz.prog 131 := ⟨.mk Tryz.func131 (by kernel_rfl) rfl⟩
structure UnA where
 (i : Nat) (q : GrA)
theorem uni_ok {a b : S.PG} (ha : ∀ o ∈ a.ops, o.ok) (hb : ∀ i, (b.ops.getD i S.OpV.zero).ok) : ∀ i, ∀ o ∈ (S.uniN a b i).ops, o.ok
 | 0 => ha
 | i + 1 => fun o ho => by
  by_cases h : S.inS (S.uniN a b i).m (S.uniN a b i).ids (S.idAt b.ids i)
  ·rw [S.uniN_yes h] at ho
   exact uni_ok ha hb i o ho
  rw [S.uniN_no h] at ho
  have ho : o ∈ (S.uniN a b i).ops.take _ ++ b.ops.getD i S.OpV.zero :: (S.uniN a b i).ops.drop _ := ho
  rcases List.mem_append.1 ho with k | k
  ·exact uni_ok ha hb i o (List.mem_of_mem_take k)
  rcases List.mem_cons.1 k with e | k
  ·rw [e]; exact hb i
  exact uni_ok ha hb i o (List.mem_of_mem_drop k)
theorem uniE_e {a b : S.PG} (h : S.eqE a b ≠ 0) : S.uniE a b = S.eqE a b := by
 by_cases c : S.chkP a = 0
 ·rw [S.eqE_2 c] at h ⊢
  exact (S.uniE_2 c h).1
 rw [S.eqE_1 c]
 exact (S.uniE_1 c).1
theorem eqE_both {a b : S.PG} (h : S.eqE a b = 0) : S.chkP a = 0 ∧ S.chkP b = 0 := by
 have ca : S.chkP a = 0 := Classical.byContradiction fun c => c ((S.eqE_1 c).symm.trans h)
 exact ⟨ca, (S.eqE_2 ca).symm.trans h⟩
theorem dagEqual {S0 S1 : Nat → Prop} (g h : GrA) (TK : TypeId) (w : World) (K0 : Kst w TK) (G : GrR S0 w g) (H : GrR S1 w h) :
  Calls Tryz.prog 45 #[.agg (grC g).toArray, .agg (grC h).toArray] w (Ret w fun v _ => v = .tuple #[.bool (S.eqB g.P h.P), .int .i64 (S.eqE g.P h.P)]) := by
 have D0 := G.ids
 have D1 := H.ids
 have hcp := G.cap
 have hcp1 := H.cap
 refine J.enter 24 Tryz.func45 rfl rfl ?_
 refine run ?_
 refine J.box rfl rfl rfl fun b1 => ?_
 refine J.box rfl rfl rfl fun b2 => ?_
 refine run ?_
 refine J.b2Gr g h rfl rfl rfl fun b3 => ?_
 refine J.callp rfl rfl (fun w' M => (RG.own' (a := some ⟨b3, 0, none⟩) w' M).elim fun _ k0 => dagChecks _ g h _ w' (K0.ext M.ext) k0 (G.ext M.ext) (H.ext M.ext)) ?_
 refine run ?_
 refine J.ifn rfl (fun c1 => ?_) (fun c1 => ?_)
 ·refine run ?_
  refine J.fin ?_
  rw [S.eqB_no c1]
 refine run ?_
 refine J.callp rfl rfl (fun w' M => eqIDs _ _ _ _ _ _ _ _ w' (D0.ext M.ext) (D1.ext M.ext) (by omega) (by omega)) ?_
 refine run ?_
 refine J.spd rfl rfl rfl (fun c2 => ?_) (fun c2 => ?_)
 rotate_left
 ·refine run ?_
  refine J.fin ?_
  rw [S.eqB_yes c1, c1, show decide (S.eqP g.P h.P) = false from decide_eq_false fun e => c2 e.1]
 refine run ?_
 refine J.callp rfl rfl (fun w' M => eqOps g h w' (G.ext M.ext) (H.ext M.ext)) ?_
 refine run ?_
 refine J.fin ?_
 rw [S.eqB_yes c1, c1, show decide (S.eqP g.P h.P) = decide (g.ops = h.ops) from decide_eq_decide.2 ⟨fun e => e.2, fun e => ⟨c2, e⟩⟩]
theorem dagUnion {S0 S1 : Nat → Prop} (g h : GrA) (TK : TypeId) (w : World) (K0 : Kst w TK) (G : GrR S0 w g) (H : GrR S1 w h) (hsz : S.chkP g.P = 0 → S.chkP h.P = 0 → ∀ i, i ≤ h.m → (S.uniN g.P h.P i).m ≤ 61) :
  Calls Tryz.prog 43 #[.agg (grC g).toArray, .agg (grC h).toArray] w (Gv w (fun q : GrA => .tuple #[.agg (grC q).toArray, .int .i64 (S.uniE g.P h.P)]) (grE 43 54) (GrP (S.uniP g.P h.P).m (S.uniP g.P h.P).ids (S.uniP g.P h.P).ops)) := by
 have D0 := G.ids
 have G0 := G.ops
 have D1 := H.ids
 have G1 := H.ops
 have hl := G.len
 have hl1 := H.len
 have hcp := G.cap
 have hcp1 := H.cap
 have hlen := D0.len
 have hlen1 := D1.len
 have nil : S.uniE g.P h.P ≠ 0 → GrP (S.uniP g.P h.P).m (S.uniP g.P h.P).ids (S.uniP g.P h.P).ops GrA.nil := fun c => by
  rw [S.uniP_no c]
  exact GrP.nil
 refine J.enter 98 Tryz.func43 rfl rfl ?_
 refine run ?_
 refine J.box rfl rfl rfl fun b1 => ?_
 refine J.box rfl rfl rfl fun b2 => ?_
 refine J.alloc rfl fun b4 => ?_
 refine run ?_
 refine J.b2Gr g h rfl rfl rfl fun b3 => ?_
 refine J.callp rfl rfl (fun w' M => (RG.own' (a := some ⟨b3, 0, none⟩) w' M).elim fun _ k0 => dagChecks _ g h _ w' (K0.ext M.ext) k0 (G.ext M.ext) (H.ext M.ext)) ?_
 refine run ?_
 refine J.ifn rfl (fun c1 => ?_) (fun c1 => ?_)
 ·refine run ?_
  have he := uniE_e c1
  refine J.nilGr 43 54 ?_
  refine J.finG GrA.nil ?_ (nil (by rw [he]; exact c1)) ?_
  ·rw [he]; rfl
  unfold grE GrA.nil; repeat (first | exact List.nil_sublist _ | refine List.Sublist.cons_cons _ ?_ | refine List.Sublist.cons _ ?_)
 obtain ⟨ca, cb⟩ := eqE_both c1
 have hza := S.chkG_zero.1 (show S.chkG g.m g.ids g.ops = 0 from ca)
 have hzb := S.chkG_zero.1 (show S.chkG h.m h.ids h.ops = 0 from cb)
 have hrisa := hza.2.2.2.1
 have hrisb := hzb.2.2.2.1
 have hsz := hsz ca cb
 have hgoodg : g.P.good := ⟨hlen, hza.2.1.symm⟩
 refine run ?_
 refine J.loopS (A := Int) (fun p => [(27, .int .i64 p)]) [5, 7, 8, 9, 10, 28, 29, 30, 31, 32, 33, 34, 35, 36, 37, 38, 39, 40, 41, 42, 43, 44, 45, 46, 47, 48, 49, 50, 51, 52, 53, 54] (fun p => (0 ≤ p ∧ p ≤ h.m) ∧ ∀ i, i < p.toNat → S.inS g.m g.ids (S.idAt h.ids i) → g.ops.getD (S.ixS g.m g.ids (S.idAt h.ids i)) S.OpV.zero = h.ops.getD i S.OpV.zero) (fun p => h.m - p.toNat) 0 (by kernel_rfl) ⟨by omega, fun i hi => by omega⟩ (fun p j hI => ?_)
 obtain ⟨h1, hI⟩ := hI
 refine run ?_
 refine J.ifd rfl (fun c2 => ?_) (fun c2 => ?_)
 ·have next : ∀ {i : Nat}, i < (p + 1).toNat → (S.inS g.m g.ids (S.idAt h.ids p.toNat) → g.ops.getD (S.ixS g.m g.ids (S.idAt h.ids p.toNat)) S.OpV.zero = h.ops.getD p.toNat S.OpV.zero) → S.inS g.m g.ids (S.idAt h.ids i) → g.ops.getD (S.ixS g.m g.ids (S.idAt h.ids i)) S.OpV.zero = h.ops.getD i S.OpV.zero := fun {i} hi k => by
   rcases Nat.lt_or_ge i p.toNat with e | e
   ·exact hI i e
   obtain rfl : i = p.toNat := by omega
   exact k
  refine run ?_
  refine J.alloc rfl fun b8 => ?_
  refine run ?_
  refine J.callp rfl rfl (fun w' M => dagFind g _ w' (D0.ext M.ext) (D1.elt_arr (by omega)) hrisa hcp.2.2.1) ?_
  refine run ?_
  refine J.regionX [(0, .q), (1, .q), (2, .q), (3, .q), (4, .q), (5, .q), (6, .q), (7, .q), (8, .q), (9, .q), (10, .q), (11, .q), (12, .e), (13, .q), (14, .q)] mixed (by kernel_rfl) ?_
  refine run ?_
  refine J.spd rfl rfl rfl (fun c3 => ?_) (fun c3 => ?_)
  rotate_left
  ·refine run ?_
   exact J.nextS (p + 1) ⟨rfl, trivial⟩ (by kernel_rfl) ⟨by omega, fun i hi => next hi fun k => absurd k c3⟩ (by omega)
  have hsx := S.spotS_ix hrisa c3
  have hix := (S.ix_in c3).1
  rw [← hsx] at hix
  obtain ⟨z, hzz⟩ := G0.ex (i := (S.spotS g.m g.ids (elt 32 h.ids p.toNat) : Nat)) (by omega)
  obtain ⟨y, hyy⟩ := G1.ex (i := p) (by omega)
  have R := G.op hzz
  have R1 := H.op hyy
  have hzo := GrA.opAt hzz
  have hyo := GrA.opAt hyy
  rw [Int.toNat_natCast, hsx] at hzo
  have hse := S.sameO_eq (a := z.o) (b := y.o) R.row.len R1.row.len
  refine run ?_
  refine J.callp rfl rfl (fun w' M => dagSame z y w' (R.ext M.ext) (R1.ext M.ext)) ?_
  refine run ?_
  refine J.ifnot rfl (fun c4 => ?_) (fun c4 => ?_)
  ·have c4 := of_decide_eq_false c4
   refine run ?_
   have he := S.uniE_3 ca cb ⟨p.toNat, show p.toNat < h.m by omega, c3, fun e => c4 (hse.2 (by rw [← hzo, ← hyo]; exact e))⟩
   refine J.nilGr 43 54 ?_
   refine J.finG GrA.nil ?_ (nil (by rw [he]; decide)) ?_
   ·rw [he]; rfl
   unfold grE GrA.nil; repeat (first | exact List.nil_sublist _ | refine List.Sublist.cons_cons _ ?_ | refine List.Sublist.cons _ ?_)
  have c4 := hse.1 (of_decide_eq_true c4)
  refine run ?_
  exact J.nextS (p + 1) ⟨rfl, trivial⟩ (by kernel_rfl) ⟨by omega, fun i hi => next hi fun _ => by rw [hyo, ← c4]; exact hzo⟩ (by omega)
 have hnc : ¬ S.clash g.P h.P := fun ⟨i, hi, k1, k2⟩ => k2 (hI i (by have : i < h.m := hi; omega) k1)
 refine run ?_
 refine J.call rfl rfl (fun w' M => cloneW _ _ _ _ w' (D0.ext M.ext) hcp.1 (by omega)) fun q hq => ?_
 refine run ?_
 refine J.alloc rfl fun b11 => ?_
 refine run ?_
 refine J.noA (J.nilG opC 11 54 opC_len ?_)
 refine J.drop (E := [.gown opC 11 54 none 0 0 [], .all [], .blk b11 [.slice q.1 g.m q.2, .slice none 0 0] 25, .wown 43 .u8 32 q.1 g.m q.2 g.ids, .blk b4 [.slice none 0 0, .slice none 0 0] 25, .blk b2 (grC h) 25, .blk b1 (grC g) 25]) (by repeat (first | exact List.nil_sublist _ | refine List.Sublist.cons_cons _ ?_ | refine List.Sublist.cons _ ?_)) ?_
 refine J.loop (A := GtA) (fun p => [(62, .int .i64 (p.n : Nat))]) [13, 63, 64, 65, 66, 67, 68, 69, 70, 71, 72, 73] (fun p => [.gown opC 11 54 p.a p.n p.c p.zs, .all (p.zs.map (opE 43)), .blk b11 [.slice q.1 g.m q.2, .slice p.a p.n p.c] 25, .wown 43 .u8 32 q.1 g.m q.2 g.ids, .blk b4 [.slice none 0 0, .slice none 0 0] 25, .blk b2 (grC h) 25, .blk b1 (grC g) 25]) (fun p => p.n ≤ g.n ∧ p.zs.map OpA.o = g.ops.take p.n ∧ ∀ z ∈ p.zs, z.o.n ≤ z.pc) (fun p => g.n - p.n) ⟨0, none, 0, []⟩ (by kernel_rfl) ⟨Nat.zero_le _, rfl, fun z hz => (by cases hz)⟩ (fun p j2 hI => ?_)
 obtain ⟨hI1, hI2, hI3⟩ := hI
 refine run ?_
 refine J.ifd rfl (fun c5 => ?_) (fun c5 => ?_)
 ·obtain ⟨z, hzz⟩ := G0.ex (i := (p.n : Nat)) (by omega)
  have R := G.op hzz
  have hzz' := hzz
  rw [Int.toNat_natCast] at hzz'
  have hzo := GrA.opAt hzz'
  refine run ?_
  refine J.alloc rfl fun b13 => ?_
  refine run ?_
  refine J.regionX [(0, .q), (1, .q), (2, .q), (3, .e), (4, .e), (5, .g), (6, .q), (7, .g)] mixed (by kernel_rfl) ?_
  refine run ?_
  refine J.call rfl rfl (fun w' M => dagTwin z w' (R.ext M.ext)) fun u hu => ?_
  refine J.b1G opC ⟨z.o, u.1, u.2⟩ opC_len rfl rfl rfl fun bb => ?_
  refine J.apG rfl rfl RG.own' opC_one fun a' c' => ?_
  refine run ?_
  refine J.snocA (p.zs.map (opE 43)) (.wown 43 .u8 32 u.1 z.o.n u.2 z.o.ids) ?_
  refine J.drop (E := [.gown opC 11 54 a' (p.n + 1) c' (p.zs ++ [(⟨z.o, u.1, u.2⟩ : OpA)]), .all (p.zs.map (opE 43) ++ [.wown 43 .u8 32 u.1 z.o.n u.2 z.o.ids]), .blk b11 [.slice q.1 g.m q.2, .slice a' (p.n + 1) c'] 25, .wown 43 .u8 32 q.1 g.m q.2 g.ids, .blk b4 [.slice none 0 0, .slice none 0 0] 25, .blk b2 (grC h) 25, .blk b1 (grC g) 25]) (by repeat (first | exact List.nil_sublist _ | refine List.Sublist.cons_cons _ ?_ | refine List.Sublist.cons _ ?_)) ?_
  refine J.re (.all (p.zs.map (opE 43) ++ [.wown 43 .u8 32 u.1 z.o.n u.2 z.o.ids])) (.all ((p.zs ++ [(⟨z.o, u.1, u.2⟩ : OpA)]).map (opE 43))) (fun _ _ h => by rw [List.map_append]; exact h) ?_
  exact J.next ⟨p.n + 1, a', c', p.zs ++ [⟨z.o, u.1, u.2⟩]⟩ ⟨rfl, trivial⟩ (by kernel_rfl) ⟨by dsimp only; omega, by dsimp only; rw [List.map_append, hI2, List.take_add_one, S.op_at (by omega), hzo]; rfl, fun y hy => by
   rcases List.mem_append.1 hy with h | h
   ·exact hI3 y h
   rw [List.mem_singleton] at h; subst h; exact hu⟩ (by dsimp only; omega)
 have hpn : p.n = g.n := by omega
 refine run ?_
 refine J.loop (A := UnA) (fun u => [(77, .int .i64 (u.i : Nat))]) [14, 15, 78, 79, 80, 81, 82, 83, 84, 85, 86, 87, 88, 89, 90, 91, 92, 93] (fun u => [.gown opC 11 54 u.q.oa u.q.n u.q.oc u.q.zs, .all (u.q.zs.map (opE 43)), .blk b11 (grC u.q) 25, .wown 43 .u8 32 u.q.ia u.q.m u.q.ic u.q.ids, .blk b4 [.slice none 0 0, .slice none 0 0] 25, .blk b2 (grC h) 25, .blk b1 (grC g) 25]) (fun u => u.i ≤ h.m ∧ GrP (S.uniN g.P h.P u.i).m (S.uniN g.P h.P u.i).ids (S.uniN g.P h.P u.i).ops u.q) (fun u => h.m - u.i) ⟨0, ⟨q.1, p.a, g.m, p.n, q.2, p.c, g.ids, p.zs⟩⟩ (by kernel_rfl) ⟨Nat.zero_le _, ⟨rfl, rfl, by dsimp only [S.uniN]; omega, by show p.zs.map OpA.o = _; rw [hI2, List.take_of_length_le (by omega)]; rfl, hI3⟩⟩ (fun u j3 hU => ?_)
 obtain ⟨hU1, hU2⟩ := hU
 have hug := S.uniN_good (a := g.P) (b := h.P) hgoodg hrisa hlen1 u.i hU1
 have hus := hsz u.i hU1
 have hun : u.q.n = u.q.m := by have := hU2.n; have := hU2.m; have := hug.1.2; omega
 have hum : u.q.m ≤ 61 := by have := hU2.m; omega
 have huok := hU2.ok (uni_ok (a := g.P) (b := h.P) G.opz H.zok u.i)
 have hur : S.Rising u.q.m u.q.ids := by rw [hU2.m, hU2.ids]; exact hug.2.1
 refine run ?_
 refine J.ifd rfl (fun c6 => ?_) (fun c6 => ?_)
 ·obtain ⟨z, hz⟩ := G1.ex (i := (u.i : Nat)) (by omega)
  have R := H.op hz
  have hz' := hz
  rw [Int.toNat_natCast] at hz'
  have hzo := GrA.opAt hz'
  refine run ?_
  refine J.alloc rfl fun b15 => ?_
  refine run ?_
  refine J.regionX [(0, .q), (1, .q), (2, .q), (3, .q), (4, .q), (5, .q), (6, .q), (7, .e), (8, .q), (9, .q), (10, .c), (11, .g)] mixed (by kernel_rfl) ?_
  refine run ?_
  by_cases hin : S.inS u.q.m u.q.ids (elt 32 h.ids u.i)
  ·refine J.callp rfl rfl (fun w' M => dagPutIn (S1 := S0) u.q _ z w' (GrR.own huok hU2.cap (by omega) w' M) (D1.elt_arr (by omega)) hur hin) ?_
   refine run ?_
   have hin2 : S.inS (S.uniN g.P h.P u.i).m (S.uniN g.P h.P u.i).ids (S.idAt h.P.ids u.i) := by rw [← hU2.m, ← hU2.ids]; exact hin
   exact J.next ⟨u.i + 1, u.q⟩ ⟨rfl, trivial⟩ (by kernel_rfl) ⟨by dsimp only; omega, by rw [S.uniN_yes hin2]; exact hU2⟩ (by dsimp only; omega)
  have hin2 : ¬ S.inS (S.uniN g.P h.P u.i).m (S.uniN g.P h.P u.i).ids (S.idAt h.P.ids u.i) := by rw [← hU2.m, ← hU2.ids]; exact hin
  have hno := S.uniN_no hin2
  have hus2 := hsz (u.i + 1) (by omega)
  have hm1 : (S.uniN g.P h.P (u.i + 1)).m = (S.uniN g.P h.P u.i).m + 1 := by rw [hno]; rfl
  refine J.call rfl rfl (fun w' M => dagPut u.q _ z w' (GrR.own huok hU2.cap (by omega) w' M) (D1.elt_arr (by omega)) hur hin (R.ext M.ext) hun (by have := hU2.m; omega)) fun v hv => ?_
  dsimp only [grE, List.cons_append, List.nil_append]
  refine run ?_
  have hv2 : GrP (S.uniN g.P h.P (u.i + 1)).m (S.uniN g.P h.P (u.i + 1)).ids (S.uniN g.P h.P (u.i + 1)).ops v := by
   rw [hno]
   rw [hU2.m, hU2.ids, hU2.ops] at hv
   have e : h.P.ops.getD u.i S.OpV.zero = z.o := hzo
   rw [e]
   exact hv
  refine J.front (.wown 43 .u8 32 v.ia v.m v.ic v.ids) ?_
  refine J.front (.blk b11 (grC v) 25) ?_
  refine J.front (.all (v.zs.map (opE 43))) ?_
  refine J.front (.gown opC 11 54 v.oa v.n v.oc v.zs) ?_
  exact J.next ⟨u.i + 1, v⟩ ⟨rfl, trivial⟩ (by kernel_rfl) ⟨by dsimp only; omega, hv2⟩ (by dsimp only; omega)
 have hui : u.i = h.m := by omega
 rw [hui] at hU2
 have hum2 : u.q.m = (S.uniN g.P h.P h.P.m).m := hU2.m
 refine run ?_
 refine J.ifd rfl (fun c7 => ?_) (fun c7 => ?_)
 ·refine run ?_
  have he := S.uniE_4 ca cb hnc (by omega)
  refine J.nilGr 43 54 ?_
  refine J.finG GrA.nil ?_ (nil (by rw [he]; decide)) ?_
  ·rw [he]; rfl
  unfold grE GrA.nil; repeat (first | exact List.nil_sublist _ | refine List.Sublist.cons_cons _ ?_ | refine List.Sublist.cons _ ?_)
 refine run ?_
 have he := S.uniE_0 ca cb hnc (by omega)
 have hu2 : GrP (S.uniP g.P h.P).m (S.uniP g.P h.P).ids (S.uniP g.P h.P).ops u.q := by rw [S.uniP_yes he]; exact hU2
 refine J.finG u.q ?_ hu2 ?_
 ·rw [he]
 unfold grE; repeat (first | exact List.nil_sublist _ | refine List.Sublist.cons_cons _ ?_ | refine List.Sublist.cons _ ?_)
instance : Ents Tryz.prog 112 := ⟨.mk Tryz.func112 (by kernel_rfl) rfl⟩
instance : Ents Tryz.prog 14 := ⟨.mk Tryz.func14 (by kernel_rfl) rfl⟩
instance : Ents Tryz.prog 102 := ⟨.mk Tryz.func102 (by kernel_rfl) rfl⟩
instance : Ents Tryz.prog 124 := ⟨.mk Tryz.func124 (by kernel_rfl) rfl⟩
instance : Ents Tryz.prog 18 := ⟨.mk Tryz.func18 (by kernel_rfl) rfl⟩
instance : Ents Tryz.prog 13 := ⟨.mk Tryz.func13 (by kernel_rfl) rfl⟩
theorem GrP.sz {P : S.PG} {q : GrA} (h : GrP P.m P.ids P.ops q) (hs : P.good ∧ P.m ≤ 60) : q.m ≤ 70 ∧ q.n ≤ 70 := by
 have := h.m
 have := h.n
 have := hs.1.2
 omega
theorem GrP.nm {P : S.PG} {q : GrA} (h : GrP P.m P.ids P.ops q) (hs : P.good) : q.n = q.m := by
 have := h.m
 have := h.n
 have := hs.2
 omega
theorem GrP.P {P : S.PG} {q : GrA} (h : GrP P.m P.ids P.ops q) : q.P = P := by
 unfold GrA.P
 rw [h.m, h.ids, h.ops]
theorem put_ok {a : S.PG} {x : List Int} {o : S.OpV} (ha : ∀ u ∈ a.ops, u.ok) (ho : o.ok) : ∀ u ∈ (S.putP a x o).ops, u.ok := fun u hu => by
 have hu : u ∈ a.ops.take _ ++ o :: a.ops.drop _ := hu
 rcases List.mem_append.1 hu with k | k
 ·exact ha u (List.mem_of_mem_take k)
 rcases List.mem_cons.1 k with e | k
 ·rw [e]; exact ho
 exact ha u (List.mem_of_mem_drop k)
theorem add_ok {a : S.PG} {o : S.OpV} (ha : ∀ u ∈ a.ops, u.ok) (ho : o.ok) : ∀ u ∈ (S.addP a o).ops, u.ok := by
 by_cases h : S.addE a o = 0
 ·rw [(S.addP_yes h).1]
  exact put_ok ha ho
 rw [(S.addP_no h).1]
 exact fun u hu => (by cases hu)
theorem nil_size : S.PG.nil.good ∧ S.PG.nil.m ≤ 60 := ⟨S.nil_good, Nat.zero_le _⟩
theorem uniP_ok {a b : S.PG} (ha : ∀ o ∈ a.ops, o.ok) (hb : ∀ i, (b.ops.getD i S.OpV.zero).ok) : ∀ u ∈ (S.uniP a b).ops, u.ok := by
 by_cases h : S.uniE a b = 0
 ·rw [S.uniP_yes h]
  exact uni_ok ha hb _
 rw [S.uniP_no h]
 exact fun u hu => (by cases hu)
theorem uniP_size {a b : S.PG} (hla : a.ids.length = 32 * a.m) (hlb : b.ids.length = 32 * b.m) : (S.uniP a b).good ∧ (S.uniP a b).m ≤ 60 := by
 by_cases h : S.uniE a b = 0
 ·have f := S.uniP_fine hla hlb h
  exact ⟨f.good, f.le⟩
 rw [S.uniP_no h]
 exact nil_size
theorem uni_16 {a b : S.PG} (hla : a.ids.length = 32 * a.m) (hlb : b.ids.length = 32 * b.m) (h1 : ¬ (16 < a.ops.length ∧ a.ops.length ≤ 60)) (h2 : ¬ (16 < b.ops.length ∧ b.ops.length ≤ 60)) : S.chkP a = 0 → S.chkP b = 0 → ∀ i, i ≤ b.m → (S.uniN a b i).m ≤ 61 := fun ca cb i hi => by
 have fa := (S.chkP_fine hla).1 ca
 have fb := (S.chkP_fine hlb).1 cb
 have := (S.uniN_good fa.good fa.rising hlb i hi).2.2
 have := fa.le
 have := fb.le
 have := fa.good.2
 have := fb.good.2
 omega
end Go.Proofs.YtakbhjagiofbgaaGreatDoor.W
namespace Go.Proofs.YtakbhjagiofbgaaGreatDoor.S
open G
set_option linter.unusedVariables false
def gxX : List Int := [114, 98, 67, 49, 49, 105, 2, 103, 116, 6, 228, 162, 149, 81, 200, 12, 154, 138, 190, 161, 79, 203, 38, 124, 216, 152, 32, 52, 195, 238, 3, 132]
def gxY : List Int := [21, 212, 110, 188, 78, 185, 227, 55, 177, 78, 225, 72, 97, 254, 14, 46, 152, 40, 250, 61, 168, 204, 12, 221, 182, 216, 80, 19, 27, 92, 162, 20]
def gxA : OpV := ⟨0, 1, 1, 0, 0, 0, 0, 0, 0, [], .empty, .empty⟩
def gxB : OpV := ⟨0, 1, 1, 0, 0, 0, 0, 0, 1, gxX, .empty, .empty⟩
def gxO : OpV := ⟨4, 1, 1, 0, 0, 0, 376595462, 88407594, 0, [], .empty, .empty⟩
def gxU : OpV := ⟨16, 1, 1, 0, 0, 0, 480380063, 274837419, 1, gxX, .empty, .empty⟩
theorem gx_x : sha (encS gxO) = gxX := by decide +kernel
theorem gx_y : sha (encS gxU) = gxY := by decide +kernel
theorem gx_arrX : Arr .u8 32 gxX := gx_x ▸ sha_arr _
theorem gx_arrY : Arr .u8 32 gxY := gx_y ▸ sha_arr _
theorem gx_arrZ : Arr .u8 32 (List.replicate 32 0) := ⟨by simp, fun x hx => by rw [List.mem_replicate] at hx; rw [hx.2]; simp only [lim]; omega⟩
theorem gx_pub1 : pubS 1 = 4 := by decide +kernel
theorem gx_pub2 : pubS 2 = 16 := by decide +kernel
theorem gx_non1 : nonceS 1 (msgS (gxA.wit 1)) = 211812135 := by decide +kernel
theorem gx_non2 : nonceS 2 (msgS (gxB.wit 2)) = 314077299 := by decide +kernel
theorem gx_r1 : pubS 211812135 = 336507345 := by
  unfold pubS
  rw [pw_fast _ _ _ (by decide) (by decide)]
  decide +kernel
theorem gx_r2 : pubS 314077299 = 350125251 := by
  unfold pubS
  rw [pw_fast _ _ _ (by decide) (by decide)]
  decide +kernel
theorem gx_e1 : sigE 1 (msgS (gxA.wit 1)) = 376595462 := by
  unfold sigE
  rw [gx_non1, gx_r1, gx_pub1]
  decide +kernel
theorem gx_e2 : sigE 2 (msgS (gxB.wit 2)) = 480380063 := by
  unfold sigE
  rw [gx_non2, gx_r2, gx_pub2]
  decide +kernel
theorem gx_s1 : sigS 1 (msgS (gxA.wit 1)) = 88407594 := by
  unfold sigS
  rw [gx_non1, gx_e1]
  decide
theorem gx_s2 : sigS 2 (msgS (gxB.wit 2)) = 274837419 := by
  unfold sigS
  rw [gx_non2, gx_e2]
  decide
theorem gx_signE1 : signE 1 gxA = 0 := signE_zero.2 ⟨by decide, check_zero.2 ⟨(by decide : (0 : Nat) ≤ 4), rising_nil, isG_pub 1 (by decide), (by decide : (1 : Int) ≤ 1000000000000), (by decide : (0 : Int) < 500000003), (by decide : (0 : Int) < 500000003), .inl ⟨rfl, rfl, rfl, rfl, rfl, rfl⟩⟩⟩
theorem gx_signE2 : signE 2 gxB = 0 := signE_zero.2 ⟨by decide, check_zero.2 ⟨(by decide : (1 : Nat) ≤ 4), fun j hj => absurd hj (Nat.not_lt_zero _), isG_pub 2 (by decide), (by decide : (1 : Int) ≤ 1000000000000), (by decide : (0 : Int) < 500000003), (by decide : (0 : Int) < 500000003), .inl ⟨rfl, rfl, rfl, rfl, rfl, rfl⟩⟩⟩
theorem gx_sign1 : signS 1 gxA = gxO := by
  unfold signS
  rw [if_pos gx_signE1, gx_e1, gx_s1]
  unfold OpV.wit
  rw [gx_pub1]
  rfl
theorem gx_sign2 : signS 2 gxB = gxU := by
  unfold signS
  rw [if_pos gx_signE2, gx_e2, gx_s2]
  unfold OpV.wit
  rw [gx_pub2]
  rfl
theorem gx_okA : gxA.ok := ⟨by decide, by decide, by decide, by decide, by decide, by decide, by decide, by decide, by decide, by decide, by decide⟩
theorem gx_okB : gxB.ok := ⟨by decide, by decide, by decide, by decide, by decide, by decide, by decide, by decide, by decide, by decide, by decide⟩
theorem gx_okO : gxO.ok := ⟨by decide, by decide, by decide, by decide, by decide, by decide, by decide, by decide, by decide, by decide, by decide⟩
theorem gx_okU : gxU.ok := ⟨by decide, by decide, by decide, by decide, by decide, by decide, by decide, by decide, by decide, by decide, by decide⟩
theorem gx_verO : verE gxO = 0 := by
  have := (sign_good gx_okA rfl gx_signE1).2.2.2.2.2.2
  rwa [gx_sign1] at this
theorem gx_verU : verE gxU = 0 := by
  have := (sign_good gx_okB rfl gx_signE2).2.2.2.2.2.2
  rwa [gx_sign2] at this
noncomputable def gxG : PG := addP .nil gxO
noncomputable def gxH : PG := addP gxG gxU
theorem gx_chk : chkP PG.nil = 0 := (chkP_fine rfl).2 nil_fine
theorem gx_add1 : addE .nil gxO = 0 := addE_0 gx_chk gx_verO (nil_in _) (fun j hj => absurd hj (Nat.not_lt_zero _)) (by decide)
theorem gx_id1 : addI .nil gxO = gxX := by rw [(addP_yes gx_add1).2]; exact gx_x
theorem gx_f1 : PG.nil.fine ∧ ¬ inS PG.nil.m PG.nil.ids (idOf gxO) ∧ gxG.fine ∧ gxG.m = PG.nil.m + 1 ∧ addI PG.nil gxO = idOf gxO ∧ ∀ y u, gxG.has y u ↔ PG.nil.has y u ∨ (y = idOf gxO ∧ u = gxO) := add_fine rfl gx_add1
theorem gx_m1 : gxG.m = 1 := gx_f1.2.2.2.1
theorem gx_in1 (y : List Int) : inS gxG.m gxG.ids y ↔ y = gxX := by
  rw [has_in]
  constructor
  · rintro ⟨o, ho⟩
    rcases (gx_f1.2.2.2.2.2 y o).1 ho with h | h
    · exact absurd h (nil_has _ _)
    · rw [h.1]; exact gx_x
  · rintro rfl
    exact ⟨gxO, (gx_f1.2.2.2.2.2 _ _).2 (.inr ⟨gx_x.symm, rfl⟩)⟩
theorem gx_ne : gxY ≠ gxX := by decide
theorem gx_add2 : addE gxG gxU = 0 := by
  refine addE_0 ((chkP_fine gx_f1.2.2.1.good.1).2 gx_f1.2.2.1) gx_verU (fun h => ?_) (fun j hj => ?_) (by rw [gx_m1]; decide)
  · have h := (gx_in1 _).1 h
    rw [show idOf gxU = gxY from gx_y] at h
    exact gx_ne h
  · have hj : j < 1 := hj
    obtain rfl : j = 0 := by omega
    exact (gx_in1 _).2 rfl
theorem gx_id2 : addI gxG gxU = gxY := by rw [(addP_yes gx_add2).2]; exact gx_y
theorem gx_f2 : gxG.fine ∧ ¬ inS gxG.m gxG.ids (idOf gxU) ∧ gxH.fine ∧ gxH.m = gxG.m + 1 ∧ addI gxG gxU = idOf gxU ∧ ∀ y u, gxH.has y u ↔ gxG.has y u ∨ (y = idOf gxU ∧ u = gxU) := add_fine gx_f1.2.2.1.good.1 gx_add2
theorem gx_m2 : gxH.m = 2 := by
  have h : gxH.m = gxG.m + 1 := gx_f2.2.2.2.1
  rw [h, gx_m1]
theorem gx_inY : inS gxH.m gxH.ids gxY := has_in.2 ⟨gxU, (gx_f2.2.2.2.2.2 _ _).2 (.inr ⟨gx_y.symm, rfl⟩)⟩
theorem gx_inX : inS gxH.m gxH.ids gxX := has_in.2 ⟨gxO, (gx_f2.2.2.2.2.2 _ _).2 (.inl ((gx_f1.2.2.2.2.2 _ _).2 (.inr ⟨gx_x.symm, rfl⟩)))⟩
theorem gx_open : addE .nil gxU = 40 := addE_4 gx_chk gx_verU (nil_in _) fun h => nil_in _ (h 0 (by decide))
theorem gx_twice : addE gxH gxO = 14 := addE_3 ((chkP_fine gx_f2.2.2.1.good.1).2 gx_f2.2.2.1) gx_verO (by rw [show idOf gxO = gxX from gx_x]; exact gx_inX)
theorem gx_chkH : chkP gxH = 0 := (chkP_fine gx_f2.2.2.1.good.1).2 gx_f2.2.2.1
end Go.Proofs.YtakbhjagiofbgaaGreatDoor.S
namespace Go.Proofs.YtakbhjagiofbgaaGreatDoor.G
open Go.RowKit
set_option linter.unusedVariables false
section
variable {S0 : Nat → Prop} {w0 : World} {L : List Ent} {P : Program} {ops : Array Oper} {K : List Value → World → Prop} {rest : List (Oper × Kd)} {l l' : List Value} {m : Md} {d : Tmp} {ty xt e : TypeId} {pos : String} {af : Array Edge} {kd : Kd} {x y : Operand} {nn : Nat} {ki : IntKind} {a : Option Addr} {k0 : Nat}
end
section
variable {S0 : Nat → Prop} {w0 : World} {L Lq : List Ent} {P : Program} {l : List Value} {l0 : List Oper} {K : List Value → World → Prop}
class SubL (E L : List Ent) : Prop where
  h : E.Sublist L
instance SubL.nil {L : List Ent} : SubL [] L := ⟨List.nil_sublist _⟩
instance (priority := low) SubL.skip {E L : List Ent} {x : Ent} [s : SubL E L] : SubL E (x :: L) := ⟨.cons _ s.h⟩
instance SubL.take {E L : List Ent} {x : Ent} [s : SubL E L] : SubL (x :: E) (x :: L) := ⟨.cons_cons _ s.h⟩
def bs (k n : Nat) : Array Bool := ((List.range k).map fun i => n.testBit i).toArray
theorem J.wst {A : Type} (M : A → List (Nat × Value)) (Jk : List Nat) (Lp : A → List Ent) (I : A → Prop) (n : Nat) (li : Array Bool) {l' : A → (Nat → Value) → List Value} {n0 : Nat} {li0 : Array Bool}
    (h : ∀ p j, I p → J S0 w0 (Lp p) (WX S0 w0 Lq P l0 K n li (l' p j)))
    (k : (∀ (p : A) (le : List Value) (L' : List Ent) (li' : Array Bool), slotsOk le (M p) → upd (upd l (M p)) (junk Jk (fun s => le.getD s undef)) = le → li' = li → I p → SubL (Lp p) L' → J S0 w0 L' (WX S0 w0 Lq P l0 K n li' le)) → J S0 w0 L (WX S0 w0 Lq P l0 K n0 li0 l))
    (hl : ∀ p j, upd (upd l (M p)) (junk Jk j) = l' p j := by intro p j; simp only [upd, junk, List.map_cons, List.map_nil, List.set_cons_succ, List.set_cons_zero]; exact rfl) : J S0 w0 L (WX S0 w0 Lq P l0 K n0 li0 l) :=
  k fun p le L' li' _ he hli hi hs w' Mm => by
    subst hli
    have := h p (fun s => le.getD s undef) hi w' (Mm.sub hs.h)
    rw [← hl, he] at this
    exact this
end
end Go.Proofs.YtakbhjagiofbgaaGreatDoor.G
namespace Go.Proofs.YtakbhjagiofbgaaGreatDoor.W
open Go.RowKit Go.Proofs.YtakbhjagiofbgaaGreatDoor.G
set_option linter.unusedVariables false
set_option linter.unusedSimpArgs false
set_option maxRecDepth 20000
set_option maxHeartbeats 8000000
attribute [local irreducible] RS RX RY Code.wp bodyPost J Ent.blk Ent.irow Ent.iown Ent.wrow Ent.wown Ent.grow Ent.gown Ent.all Ent.emp
instance : SInf Tryz.prog 50 [(0, 1), (1, 1), (2, 4)] := ⟨_, Tryz.underlying50, by kernel_rfl, by kernel_rfl⟩
instance : Inf Tryz.prog 50 6 64 [.int .u8 0, .string .empty, .int .u8 0, .int .i64 0, .int .u64 0, .string .empty] := ⟨TI.of (v := .agg #[.int .u8 0, .string .empty, .int .u8 0, .int .i64 0, .int .u64 0, .string .empty]) (by kernel_rfl) rfl⟩
instance : SInf Tryz.prog 54 [(0, 1), (1, 1), (2, 1), (3, 6), (9, 2)] := ⟨_, Tryz.underlying54, by kernel_rfl, by kernel_rfl⟩
instance : Ents Tryz.prog 133 := ⟨.mk Tryz.func133 (by kernel_rfl) rfl⟩
instance : Ents Tryz.prog 47 := ⟨.mk Tryz.func47 (by kernel_rfl) rfl⟩
instance : Ents Tryz.prog 114 := ⟨.mk Tryz.func114 (by kernel_rfl) rfl⟩
instance : Ents Tryz.prog 31 := ⟨.mk Tryz.func31 (by kernel_rfl) rfl⟩
instance : Ents Tryz.prog 48 := ⟨.mk Tryz.func48 (by kernel_rfl) rfl⟩
theorem signG (x : Int) (hx : 0 ≤ x ∧ x < 4294967296) {S0 : Nat → Prop} (z : OpA) (TK : TypeId) (w : World) (K0 : Kst w TK) (R : OpR S0 w z) :
  Calls Tryz.prog 133 #[.int .u32 x, .agg (opC z).toArray] w (Gv w (fun q : OpA × Int => .tuple #[.agg (opC q.1).toArray, .int .i64 q.2]) (fun q => [.wrow .u8 32 q.1.pa q.1.o.n q.1.o.ids]) fun q => q.1.o.n ≤ q.1.pc ∧ q.1.o = S.signS x z.o ∧ q.2 = S.signE x z.o) :=
 Gv.of (signO x hx z.o R.ok _ _ TK w K0 R.row R.cap) fun v w' _ ⟨a', c', hv, hc, W⟩ => ⟨(⟨S.signS x z.o, a', c'⟩, S.signE x z.o), hv, ⟨hc, rfl, rfl⟩, sep1 (show (Ent.wrow .u8 32 a' (S.signS x z.o).n (S.signS x z.o).ids).ok _ _ by unfold Ent.wrow; exact W)⟩
theorem dagSigned (x : Int) (hx : 0 ≤ x ∧ x < 4294967296) {S0 : Nat → Prop} (a : Option Addr) (n c : Nat) (ids : List Int) (TK : TypeId) (w : World) (K0 : Kst w TK) (hok : (⟨0, 1, 1, 0, 0, 0, 0, 0, n, ids, .empty, .empty⟩ : S.OpV).ok) (D0 : WRow .u8 32 S0 w a n ids) (hc : n ≤ c) :
  Calls Tryz.prog 114 #[.int .u32 x, .slice a n c] w (Gv w (fun q : OpA => .agg (opC q).toArray) (fun q => [.wrow .u8 32 q.pa q.o.n q.o.ids]) fun q => q.o.n ≤ q.pc ∧ q.o = S.signS x ⟨0, 1, 1, 0, 0, 0, 0, 0, n, ids, .empty, .empty⟩) := by
 refine J.enter 14 Tryz.func114 rfl rfl ?_
 refine run ?_
 refine J.alloc rfl fun b1 => ?_
 refine run ?_
 refine J.call rfl rfl (fun w' M => signG x hx ⟨⟨0, 1, 1, 0, 0, 0, 0, 0, n, ids, .empty, .empty⟩, a, c⟩ TK w' (K0.ext M.ext) ⟨hok, D0.ext M.ext, hc⟩) fun q hq => ?_
 refine run ?_
 refine J.alloc rfl fun b2 => ?_
 refine run ?_
 exact J.finG q.1 rfl ⟨hq.1, hq.2.1⟩ (by repeat (first | exact List.nil_sublist _ | refine List.Sublist.cons_cons _ ?_ | refine List.Sublist.cons _ ?_))
theorem sgA (TK : TypeId) (w : World) (K0 : Kst w TK) : Calls Tryz.prog 114 #[.int .u32 1, .slice none 0 0] w (Gv w (fun q : Option Addr × Nat => .agg (opC ⟨S.gxO, q.1, q.2⟩).toArray) (fun q => [.wrow .u8 32 q.1 0 []]) fun _ => True) :=
 (dagSigned (S0 := no) 1 (by decide) none 0 0 [] TK w K0 S.gx_okA WRow.nil (Nat.le_refl _)).mono fun _ w' ⟨⟨o, pa, pc⟩, h1, ⟨hc, e⟩, h3, h4⟩ => by
  obtain rfl : o = S.gxO := e.trans S.gx_sign1
  exact ⟨(pa, pc), h1, trivial, h3, h4⟩
theorem sgB {S0 : Nat → Prop} (a : Option Addr) (TK : TypeId) (w : World) (K0 : Kst w TK) (D0 : WRow .u8 32 S0 w a 1 S.gxX) : Calls Tryz.prog 114 #[.int .u32 2, .slice a 1 1] w (Gv w (fun q : Option Addr × Nat => .agg (opC ⟨S.gxU, q.1, q.2⟩).toArray) (fun q => [.wrow .u8 32 q.1 1 S.gxX]) fun q => 1 ≤ q.2) :=
 (dagSigned 2 (by decide) a 1 1 S.gxX TK w K0 S.gx_okB D0 (Nat.le_refl _)).mono fun _ w' ⟨⟨o, pa, pc⟩, h1, ⟨hc, e⟩, h3, h4⟩ => by
  obtain rfl : o = S.gxU := e.trans S.gx_sign2
  exact ⟨(pa, pc), h1, hc, h3, h4⟩
theorem addX {S0 S1 : Nat → Prop} (g : GrA) (P : S.PG) (o : S.OpV) (pa : Option Addr) (pc : Nat) (TK : TypeId) (w : World) (K0 : Kst w TK) (hg : GrP P.m P.ids P.ops g) (G : GrR S0 w g) (ho : o.ok) (D : WRow .u8 32 S1 w pa o.n o.ids) (hc : o.n ≤ pc) {Q : S.PG} {x : List Int} {e : Int} (h1 : S.addP P o = Q) (h2 : S.addI P o = x) (h3 : S.addE P o = e) :
  Calls Tryz.prog 31 #[.agg (grC g).toArray, .agg (opC ⟨o, pa, pc⟩).toArray] w (Gv w (fun q : GrA => .tuple #[.agg (grC q).toArray, .agg (ints .u8 x).toArray, .int .i64 e]) (grE 43 54) (GrP Q.m Q.ids Q.ops)) := by
 have h := dagAdd g ⟨o, pa, pc⟩ TK w K0 G ⟨ho, D, hc⟩
 rw [GrP.P (P := P) hg] at h
 dsimp only at h
 rw [h1, h2, h3] at h
 exact h
theorem nilR (w : World) : GrR no w GrA.nil := ⟨WRow.nil, GRow.nil' opC_len, Inns.nil, fun z hz => (by cases hz), Nat.le_refl _, Nat.le_refl _, Nat.zero_le _, Nat.zero_le _⟩
theorem addY {S0 S1 : Nat → Prop} (g : GrA) (P : S.PG) (o : S.OpV) (pa : Option Addr) (pc : Nat) (TK : TypeId) (w : World) (K0 : Kst w TK) (hg : GrP P.m P.ids P.ops g) (G : GrR S0 w g) (ho : o.ok) (D : WRow .u8 32 S1 w pa o.n o.ids) (hc : o.n ≤ pc) {e : Int} (h3 : S.addE P o = e) (he : e ≠ 0) :
  Calls Tryz.prog 31 #[.agg (grC g).toArray, .agg (opC ⟨o, pa, pc⟩).toArray] w (Gv w (fun q : GrA => .tuple #[.agg (grC q).toArray, .agg (ints .u8 (List.replicate 32 0)).toArray, .int .i64 e]) (fun _ => []) fun _ => True) :=
 (addX g P o pa pc TK w K0 hg G ho D hc rfl (S.addP_no (by rw [h3]; exact he)).2 h3).mono fun _ _ ⟨q, h1, _, h3, _⟩ => ⟨q, h1, trivial, h3, trivial⟩
theorem cB {L : List Ent} {w : World} {TK : TypeId} {F : Option Addr → Nat → Nat → List Int → List Ent} (b : Nat) (K0 : Kst w TK) [R : RWO L (some ⟨b, 0, none⟩) 43 .u8 32 1 1 S.gxX F] (w' : World) (M : Mem no w L w') : Calls Tryz.prog 114 #[.int .u32 2, .slice (some ⟨b, 0, none⟩) 1 1] w' (Gv w' (fun q : Option Addr × Nat => .agg (opC ⟨S.gxU, q.1, q.2⟩).toArray) (fun q => [.wrow .u8 32 q.1 1 S.gxX]) fun q => 1 ≤ q.2) :=
 (RW.own' (a := some ⟨b, 0, none⟩) w' M).elim fun _ k0 => sgB _ TK w' (K0.ext M.ext) k0
theorem cU {L : List Ent} {w : World} {TK : TypeId} (q1 : GrA) (z : Option Addr × Nat) {F1 : Option Addr → Nat → Nat → List OpA → List Ent} {F2 : Option Addr → Nat → Nat → List Int → List Ent} {F3 : Ent → List Ent} (K0 : Kst w TK) (hk : ∀ z ∈ q1.zs, z.o.ok) (hq : GrP S.gxG.m S.gxG.ids S.gxG.ops q1) (hm : q1.m ≤ 70 ∧ q1.n ≤ 70) (hz : 1 ≤ z.2)
  [R1 : GO L q1.oa opC 11 54 q1.n q1.oc q1.zs F1] [R2 : RWO L q1.ia 43 .u8 32 q1.m q1.ic q1.ids F2] [R3 : RE L (.all (q1.zs.map (opE 43))) F3] [R4 : RRW L z.1 .u8 32 1 S.gxX] (w' : World) (M : Mem no w L w') : Calls Tryz.prog 31 #[.agg (grC q1).toArray, .agg (opC ⟨S.gxU, z.1, z.2⟩).toArray] w' (Gv w' (fun q : GrA => .tuple #[.agg (grC q).toArray, .agg (ints .u8 S.gxY).toArray, .int .i64 0]) (fun q => [.gown opC 11 54 q.oa q.n q.oc q.zs, .all (q.zs.map (opE 43)), .wown 43 .u8 32 q.ia q.m q.ic q.ids]) (GrP S.gxH.m S.gxH.ids S.gxH.ops)) :=
 (RW.row' (a := z.1) w' M).elim fun _ k1 => addX q1 S.gxG S.gxU z.1 z.2 TK w' (K0.ext M.ext) hq (GrR.own hk hq.cap hm w' M) S.gx_okU k1 hz (Q := S.gxH) rfl S.gx_id2 S.gx_add2
theorem cN {L : List Ent} {w : World} {TK : TypeId} (z : Option Addr × Nat) (K0 : Kst w TK) (hz : 1 ≤ z.2) [R4 : RRW L z.1 .u8 32 1 S.gxX] (w' : World) (M : Mem no w L w') : Calls Tryz.prog 31 #[.agg (grC GrA.nil).toArray, .agg (opC ⟨S.gxU, z.1, z.2⟩).toArray] w' (Gv w' (fun q : GrA => .tuple #[.agg (grC q).toArray, .agg (ints .u8 (List.replicate 32 0)).toArray, .int .i64 40]) (fun _ => []) fun _ => True) :=
 (RW.row' (a := z.1) w' M).elim fun _ k1 => addY GrA.nil .nil S.gxU z.1 z.2 TK w' (K0.ext M.ext) GrP.nil (nilR w') S.gx_okU k1 hz S.gx_open (by decide)
theorem cT {L : List Ent} {w : World} {TK : TypeId} (q2 : GrA) (z : Option Addr × Nat) {F1 : Option Addr → Nat → Nat → List OpA → List Ent} {F2 : Option Addr → Nat → Nat → List Int → List Ent} {F3 : Ent → List Ent} (K0 : Kst w TK) (hk : ∀ z ∈ q2.zs, z.o.ok) (hq : GrP S.gxH.m S.gxH.ids S.gxH.ops q2) (hm : q2.m ≤ 70 ∧ q2.n ≤ 70)
  [R1 : GO L q2.oa opC 11 54 q2.n q2.oc q2.zs F1] [R2 : RWO L q2.ia 43 .u8 32 q2.m q2.ic q2.ids F2] [R3 : RE L (.all (q2.zs.map (opE 43))) F3] [R4 : RRW L z.1 .u8 32 0 []] (w' : World) (M : Mem no w L w') : Calls Tryz.prog 31 #[.agg (grC q2).toArray, .agg (opC ⟨S.gxO, z.1, z.2⟩).toArray] w' (Gv w' (fun q : GrA => .tuple #[.agg (grC q).toArray, .agg (ints .u8 (List.replicate 32 0)).toArray, .int .i64 14]) (fun _ => []) fun _ => True) :=
 (RW.row' (a := z.1) w' M).elim fun _ k1 => addY q2 S.gxH S.gxO z.1 z.2 TK w' (K0.ext M.ext) hq (GrR.own hk hq.cap hm w' M) S.gx_okO k1 (Nat.zero_le _) S.gx_twice (by decide)
theorem dagAlive (TK : TypeId) (w : World) (K0 : Kst w TK) : Calls Tryz.prog 30 #[] w (Ret w fun v _ => v = .bool true) := by
 have hX := S.gx_arrX
 have hY := S.gx_arrY
 have hZ := S.gx_arrZ
 have o1 : ∀ u ∈ S.gxG.ops, u.ok := add_ok (a := .nil) (fun u hu => by cases hu) S.gx_okO
 have o2 : ∀ u ∈ S.gxH.ops, u.ok := add_ok (a := S.gxG) o1 S.gx_okU
 have s1 : S.gxG.good ∧ S.gxG.m ≤ 60 := ⟨S.gx_f1.2.2.1.good, S.gx_f1.2.2.1.le⟩
 have s2 : S.gxH.good ∧ S.gxH.m ≤ 60 := ⟨S.gx_f2.2.2.1.good, S.gx_f2.2.2.1.le⟩
 have gx40 : S.addE .nil S.gxU ≠ 0 := by rw [S.gx_open]; decide
 have gx14 : S.addE S.gxH S.gxO ≠ 0 := by rw [S.gx_twice]; decide
 refine J.enter 86 Tryz.func30 rfl rfl ?_
 refine run ?_
 refine J.callp rfl rfl (fun w' M => dagNew w') ?_
 refine J.call rfl rfl (fun w' M => sgA TK w' (K0.ext M.ext)) fun z1 hz1 => ?_
 refine J.call rfl rfl (fun w' M => (RW.row' (a := z1.1) w' M).elim fun _ k1 => addX GrA.nil .nil S.gxO z1.1 z1.2 TK w' (K0.ext M.ext) GrP.nil (nilR w') S.gx_okO k1 (Nat.zero_le _) (Q := S.gxG) rfl S.gx_id1 S.gx_add1) fun q1 hq1 => ?_
 dsimp only [grE, List.cons_append, List.nil_append]
 refine run ?_
 refine J.alloc rfl fun b1 => ?_
 refine J.alloc rfl fun b2 => ?_
 refine run ?_
 have hk1 := hq1.ok o1
 have hm1 := hq1.sz s1
 refine J.drop (E := [.blk b2 (ints .u8 S.gxX) 43, .blk b1 (grC q1) 25, .gown opC 11 54 q1.oa q1.n q1.oc q1.zs, .all (q1.zs.map (opE 43)), .wown 43 .u8 32 q1.ia q1.m q1.ic q1.ids]) (by repeat (first | exact List.nil_sublist _ | refine List.Sublist.cons_cons _ ?_ | refine List.Sublist.cons _ ?_)) ?_
 refine J.joinX (A := GrA × Nat × Nat) (fun u => [(4, .pointer (some ⟨u.2.1, 0, none⟩)), (5, .pointer (some ⟨u.2.2, 0, none⟩)), (6, .int .i64 0)]) [22, 23, 24, 25, 26, 27, 28, 29, 30] (fun u => [.blk u.2.2 (ints .u8 S.gxY) 43, .blk u.2.1 (grC u.1) 25, .gown opC 11 54 u.1.oa u.1.n u.1.oc u.1.zs, .all (u.1.zs.map (opE 43)), .wown 43 .u8 32 u.1.ia u.1.m u.1.ic u.1.ids, .blk b2 (ints .u8 S.gxX) 43, .blk b1 (grC q1) 25]) (fun u => GrP S.gxH.m S.gxH.ids S.gxH.ops u.1) ?_ (fun u j2 hu => ?_)
 ·refine J.regionW [.blk b2 (ints .u8 S.gxX) 43, .blk b1 (grC q1) 25] mixed ?_
  refine J.wst (A := GrA × Nat × Unit) (fun p => [(4, .pointer (some ⟨p.2.1, 0, none⟩)), (23, .agg (grC q1).toArray), (24, .agg (ints .u8 S.gxX).toArray), (27, .tuple #[.agg (grC p.1).toArray, .agg (ints .u8 S.gxY).toArray, .int .i64 0]), (28, .agg (grC p.1).toArray), (29, .agg (ints .u8 S.gxY).toArray), (30, .int .i64 0)]) [22, 25, 26] (fun p => [.blk p.2.1 [.slice none 0 0, .slice none 0 0] 25, .gown opC 11 54 p.1.oa p.1.n p.1.oc p.1.zs, .all (p.1.zs.map (opE 43)), .wown 43 .u8 32 p.1.ia p.1.m p.1.ic p.1.ids, .blk b2 (ints .u8 S.gxX) 43, .blk b1 (grC q1) 25, .gown opC 11 54 q1.oa q1.n q1.oc q1.zs, .all (q1.zs.map (opE 43)), .wown 43 .u8 32 q1.ia q1.m q1.ic q1.ids]) (fun p => GrP S.gxH.m S.gxH.ids S.gxH.ops p.1 ∧ True) 4 (bs 14 1023) (fun p j hp => ?_) (fun st0 => ?_)
  ·obtain ⟨q, bg, _⟩ := p
   obtain ⟨hq, _⟩ := hp
   try dsimp only
   try dsimp only at hq
   refine J.wfin [(10, .e), (11, .e), (12, .e), (13, .q)] (by kernel_rfl) ?_
   refine run ?_
   refine J.alloc rfl fun bi => ?_
   refine run ?_
   refine run ?_
   refine run ?_
   refine J.front (.blk bg (grC q) 25) ?_
   refine J.front (.blk bi (ints .u8 S.gxY) 43) ?_
   exact J.cut (q, bg, bi) ⟨rfl, rfl, rfl, trivial⟩ (by kernel_rfl) hq
  refine J.wst (A := GrA × Nat × Unit) (fun p => [(5, .pointer (some ⟨p.2.1, 0, none⟩)), (23, .agg (grC q1).toArray), (24, .agg (ints .u8 S.gxX).toArray), (27, .tuple #[.agg (grC p.1).toArray, .agg (ints .u8 S.gxY).toArray, .int .i64 0]), (28, .agg (grC p.1).toArray), (29, .agg (ints .u8 S.gxY).toArray), (30, .int .i64 0)]) [22, 25, 26] (fun p => [.blk p.2.1 (ints .u8 (List.replicate 32 0)) 43, .gown opC 11 54 p.1.oa p.1.n p.1.oc p.1.zs, .all (p.1.zs.map (opE 43)), .wown 43 .u8 32 p.1.ia p.1.m p.1.ic p.1.ids, .blk b2 (ints .u8 S.gxX) 43, .blk b1 (grC q1) 25, .gown opC 11 54 q1.oa q1.n q1.oc q1.zs, .all (q1.zs.map (opE 43)), .wown 43 .u8 32 q1.ia q1.m q1.ic q1.ids]) (fun p => GrP S.gxH.m S.gxH.ids S.gxH.ops p.1 ∧ True) 4 (bs 14 1535) (fun p j hp => ?_) (fun st1 => ?_)
  ·obtain ⟨q, bi, _⟩ := p
   obtain ⟨hq, _⟩ := hp
   try dsimp only
   try dsimp only at hq
   refine J.wfin [(9, .e), (11, .e), (12, .e), (13, .q)] (by kernel_rfl) ?_
   refine run ?_
   refine J.alloc rfl fun bg => ?_
   refine run ?_
   refine run ?_
   refine run ?_
   refine J.front (.blk bg (grC q) 25) ?_
   refine J.front (.blk bi (ints .u8 S.gxY) 43) ?_
   exact J.cut (q, bg, bi) ⟨rfl, rfl, rfl, trivial⟩ (by kernel_rfl) hq
  refine J.wst (A := GrA × Unit) (fun p => [(23, .agg (grC q1).toArray), (24, .agg (ints .u8 S.gxX).toArray), (27, .tuple #[.agg (grC p.1).toArray, .agg (ints .u8 S.gxY).toArray, .int .i64 0])]) [25, 26] (fun p => [.gown opC 11 54 p.1.oa p.1.n p.1.oc p.1.zs, .all (p.1.zs.map (opE 43)), .wown 43 .u8 32 p.1.ia p.1.m p.1.ic p.1.ids, .blk b2 (ints .u8 S.gxX) 43, .blk b1 (grC q1) 25, .gown opC 11 54 q1.oa q1.n q1.oc q1.zs, .all (q1.zs.map (opE 43)), .wown 43 .u8 32 q1.ia q1.m q1.ic q1.ids]) (fun p => GrP S.gxH.m S.gxH.ids S.gxH.ops p.1 ∧ True) 9 (bs 14 31) (fun p j hp => ?_) (fun st2 => ?_)
  ·obtain ⟨q, _⟩ := p
   obtain ⟨hq, _⟩ := hp
   try dsimp only
   try dsimp only at hq
   refine J.wnode [(5, .q), (6, .q), (7, .q), (8, .q)] [9, 10] 4 (bs 14 511) (by kernel_rfl) ?_
   refine run ?_
   refine J.nil ?_
   refine J.wbr ?_ ?_
   ·refine J.alloc rfl fun bg => ?_
    refine J.nil ?_
    exact st0 (q, bg, ()) _ _ _ ⟨rfl, rfl, rfl, rfl, rfl, rfl, rfl, trivial⟩ (by kernel_rfl) (by kernel_rfl) ⟨hq, trivial⟩ inferInstance
   refine J.wbr ?_ ?_
   ·refine J.alloc rfl fun bi => ?_
    refine J.nil ?_
    exact st1 (q, bi, ()) _ _ _ ⟨rfl, rfl, rfl, rfl, rfl, rfl, rfl, trivial⟩ (by kernel_rfl) (by kernel_rfl) ⟨hq, trivial⟩ inferInstance
   exact J.wbr0
  refine J.wst (A := GrA × Nat × Unit) (fun p => [(4, .pointer (some ⟨p.2.1, 0, none⟩)), (23, .agg (grC q1).toArray), (24, .agg (ints .u8 S.gxX).toArray), (27, .tuple #[.agg (grC p.1).toArray, .agg (ints .u8 S.gxY).toArray, .int .i64 0])]) [25, 26] (fun p => [.blk p.2.1 [.slice none 0 0, .slice none 0 0] 25, .gown opC 11 54 p.1.oa p.1.n p.1.oc p.1.zs, .all (p.1.zs.map (opE 43)), .wown 43 .u8 32 p.1.ia p.1.m p.1.ic p.1.ids, .blk b2 (ints .u8 S.gxX) 43, .blk b1 (grC q1) 25, .gown opC 11 54 q1.oa q1.n q1.oc q1.zs, .all (q1.zs.map (opE 43)), .wown 43 .u8 32 q1.ia q1.m q1.ic q1.ids]) (fun p => GrP S.gxH.m S.gxH.ids S.gxH.ops p.1 ∧ True) 8 (bs 14 543) (fun p j hp => ?_) (fun st3 => ?_)
  ·obtain ⟨q, bg, _⟩ := p
   obtain ⟨hq, _⟩ := hp
   try dsimp only
   try dsimp only at hq
   refine J.wfin [(5, .q), (6, .q), (7, .q), (8, .q), (10, .e), (11, .e), (12, .e), (13, .q)] (by kernel_rfl) ?_
   refine run ?_
   refine J.alloc rfl fun bi => ?_
   refine run ?_
   refine run ?_
   refine run ?_
   refine J.front (.blk bg (grC q) 25) ?_
   refine J.front (.blk bi (ints .u8 S.gxY) 43) ?_
   exact J.cut (q, bg, bi) ⟨rfl, rfl, rfl, trivial⟩ (by kernel_rfl) hq
  refine J.wst (A := (Option Addr × Nat) × Nat × Nat × Unit) (fun p => [(4, .pointer (some ⟨p.2.1, 0, none⟩)), (5, .pointer (some ⟨p.2.2.1, 0, none⟩)), (23, .agg (grC q1).toArray), (24, .agg (ints .u8 S.gxX).toArray), (26, .agg (opC ⟨S.gxU, p.1.1, p.1.2⟩).toArray)]) [25] (fun p => [.blk p.2.1 [.slice none 0 0, .slice none 0 0] 25, .blk p.2.2.1 (ints .u8 (List.replicate 32 0)) 43, .wrow .u8 32 p.1.1 1 S.gxX, .blk b2 (ints .u8 S.gxX) 43, .blk b1 (grC q1) 25, .gown opC 11 54 q1.oa q1.n q1.oc q1.zs, .all (q1.zs.map (opE 43)), .wown 43 .u8 32 q1.ia q1.m q1.ic q1.ids]) (fun p => 1 ≤ p.1.2 ∧ True) 8 (bs 14 1551) (fun p j hp => ?_) (fun st4 => ?_)
  ·obtain ⟨z, bg, bi, _⟩ := p
   obtain ⟨hz, _⟩ := hp
   try dsimp only
   try dsimp only at hz
   refine J.wfin [(4, .e), (5, .q), (6, .q), (7, .q), (8, .q), (11, .e), (12, .e), (13, .q)] (by kernel_rfl) ?_
   refine run ?_
   refine J.call rfl rfl (cU q1 z K0 hk1 hq1 hm1 hz) fun q hq => ?_
   refine run ?_
   refine run ?_
   refine run ?_
   refine J.front (.blk bg (grC q) 25) ?_
   refine J.front (.blk bi (ints .u8 S.gxY) 43) ?_
   exact J.cut (q, bg, bi) ⟨rfl, rfl, rfl, trivial⟩ (by kernel_rfl) hq
  refine J.wst (A := (Option Addr × Nat) × Nat × Unit) (fun p => [(4, .pointer (some ⟨p.2.1, 0, none⟩)), (23, .agg (grC q1).toArray), (24, .agg (ints .u8 S.gxX).toArray), (26, .agg (opC ⟨S.gxU, p.1.1, p.1.2⟩).toArray)]) [25] (fun p => [.blk p.2.1 [.slice none 0 0, .slice none 0 0] 25, .wrow .u8 32 p.1.1 1 S.gxX, .blk b2 (ints .u8 S.gxX) 43, .blk b1 (grC q1) 25, .gown opC 11 54 q1.oa q1.n q1.oc q1.zs, .all (q1.zs.map (opE 43)), .wown 43 .u8 32 q1.ia q1.m q1.ic q1.ids]) (fun p => 1 ≤ p.1.2 ∧ True) 9 (bs 14 527) (fun p j hp => ?_) (fun st5 => ?_)
  ·obtain ⟨z, bg, _⟩ := p
   obtain ⟨hz, _⟩ := hp
   try dsimp only
   try dsimp only at hz
   refine J.wnode [] [4, 10] 8 (bs 14 527) (by kernel_rfl) ?_
   refine run ?_
   refine J.nil ?_
   refine J.wbr ?_ ?_
   ·refine J.call rfl rfl (cU q1 z K0 hk1 hq1 hm1 hz) fun q hq => ?_
    refine J.nil ?_
    refine J.front (.wown 43 .u8 32 q.ia q.m q.ic q.ids) ?_
    refine J.front (.all (q.zs.map (opE 43))) ?_
    refine J.front (.gown opC 11 54 q.oa q.n q.oc q.zs) ?_
    refine J.front (.blk bg [.slice none 0 0, .slice none 0 0] 25) ?_
    exact st3 (q, bg, ()) _ _ _ ⟨rfl, rfl, rfl, rfl, trivial⟩ (by kernel_rfl) (by kernel_rfl) ⟨hq, trivial⟩ inferInstance
   refine J.wbr ?_ ?_
   ·refine J.alloc rfl fun bi => ?_
    refine J.nil ?_
    refine J.front (.wrow .u8 32 z.1 1 S.gxX) ?_
    refine J.front (.blk bi (ints .u8 (List.replicate 32 0)) 43) ?_
    refine J.front (.blk bg [.slice none 0 0, .slice none 0 0] 25) ?_
    exact st4 (z, bg, bi, ()) _ _ _ ⟨rfl, rfl, rfl, rfl, rfl, trivial⟩ (by kernel_rfl) (by kernel_rfl) ⟨hz, trivial⟩ inferInstance
   exact J.wbr0
  refine J.wst (A := GrA × Nat × Unit) (fun p => [(5, .pointer (some ⟨p.2.1, 0, none⟩)), (23, .agg (grC q1).toArray), (24, .agg (ints .u8 S.gxX).toArray), (27, .tuple #[.agg (grC p.1).toArray, .agg (ints .u8 S.gxY).toArray, .int .i64 0])]) [25, 26] (fun p => [.blk p.2.1 (ints .u8 (List.replicate 32 0)) 43, .gown opC 11 54 p.1.oa p.1.n p.1.oc p.1.zs, .all (p.1.zs.map (opE 43)), .wown 43 .u8 32 p.1.ia p.1.m p.1.ic p.1.ids, .blk b2 (ints .u8 S.gxX) 43, .blk b1 (grC q1) 25, .gown opC 11 54 q1.oa q1.n q1.oc q1.zs, .all (q1.zs.map (opE 43)), .wown 43 .u8 32 q1.ia q1.m q1.ic q1.ids]) (fun p => GrP S.gxH.m S.gxH.ids S.gxH.ops p.1 ∧ True) 8 (bs 14 1055) (fun p j hp => ?_) (fun st6 => ?_)
  ·obtain ⟨q, bi, _⟩ := p
   obtain ⟨hq, _⟩ := hp
   try dsimp only
   try dsimp only at hq
   refine J.wfin [(5, .q), (6, .q), (7, .q), (8, .q), (9, .e), (11, .e), (12, .e), (13, .q)] (by kernel_rfl) ?_
   refine run ?_
   refine J.alloc rfl fun bg => ?_
   refine run ?_
   refine run ?_
   refine run ?_
   refine J.front (.blk bg (grC q) 25) ?_
   refine J.front (.blk bi (ints .u8 S.gxY) 43) ?_
   exact J.cut (q, bg, bi) ⟨rfl, rfl, rfl, trivial⟩ (by kernel_rfl) hq
  refine J.wst (A := (Option Addr × Nat) × Nat × Unit) (fun p => [(5, .pointer (some ⟨p.2.1, 0, none⟩)), (23, .agg (grC q1).toArray), (24, .agg (ints .u8 S.gxX).toArray), (26, .agg (opC ⟨S.gxU, p.1.1, p.1.2⟩).toArray)]) [25] (fun p => [.blk p.2.1 (ints .u8 (List.replicate 32 0)) 43, .wrow .u8 32 p.1.1 1 S.gxX, .blk b2 (ints .u8 S.gxX) 43, .blk b1 (grC q1) 25, .gown opC 11 54 q1.oa q1.n q1.oc q1.zs, .all (q1.zs.map (opE 43)), .wown 43 .u8 32 q1.ia q1.m q1.ic q1.ids]) (fun p => 1 ≤ p.1.2 ∧ True) 9 (bs 14 1039) (fun p j hp => ?_) (fun st7 => ?_)
  ·obtain ⟨z, bi, _⟩ := p
   obtain ⟨hz, _⟩ := hp
   try dsimp only
   try dsimp only at hz
   refine J.wnode [] [4, 9] 8 (bs 14 1039) (by kernel_rfl) ?_
   refine run ?_
   refine J.nil ?_
   refine J.wbr ?_ ?_
   ·refine J.call rfl rfl (cU q1 z K0 hk1 hq1 hm1 hz) fun q hq => ?_
    refine J.nil ?_
    refine J.front (.wown 43 .u8 32 q.ia q.m q.ic q.ids) ?_
    refine J.front (.all (q.zs.map (opE 43))) ?_
    refine J.front (.gown opC 11 54 q.oa q.n q.oc q.zs) ?_
    refine J.front (.blk bi (ints .u8 (List.replicate 32 0)) 43) ?_
    exact st6 (q, bi, ()) _ _ _ ⟨rfl, rfl, rfl, rfl, trivial⟩ (by kernel_rfl) (by kernel_rfl) ⟨hq, trivial⟩ inferInstance
   refine J.wbr ?_ ?_
   ·refine J.alloc rfl fun bg => ?_
    refine J.nil ?_
    exact st4 (z, bg, bi, ()) _ _ _ ⟨rfl, rfl, rfl, rfl, rfl, trivial⟩ (by kernel_rfl) (by kernel_rfl) ⟨hz, trivial⟩ inferInstance
   exact J.wbr0
  refine J.wst (A := (Option Addr × Nat) × Unit) (fun p => [(23, .agg (grC q1).toArray), (24, .agg (ints .u8 S.gxX).toArray), (26, .agg (opC ⟨S.gxU, p.1.1, p.1.2⟩).toArray)]) [25] (fun p => [.wrow .u8 32 p.1.1 1 S.gxX, .blk b2 (ints .u8 S.gxX) 43, .blk b1 (grC q1) 25, .gown opC 11 54 q1.oa q1.n q1.oc q1.zs, .all (q1.zs.map (opE 43)), .wown 43 .u8 32 q1.ia q1.m q1.ic q1.ids]) (fun p => 1 ≤ p.1.2 ∧ True) 10 (bs 14 15) (fun p j hp => ?_) (fun st8 => ?_)
  ·obtain ⟨z, _⟩ := p
   obtain ⟨hz, _⟩ := hp
   try dsimp only
   try dsimp only at hz
   refine J.wnode [] [4, 9, 10] 9 (bs 14 15) (by kernel_rfl) ?_
   refine run ?_
   refine J.nil ?_
   refine J.wbr ?_ ?_
   ·refine J.call rfl rfl (cU q1 z K0 hk1 hq1 hm1 hz) fun q hq => ?_
    refine J.nil ?_
    exact st2 (q, ()) _ _ _ ⟨rfl, rfl, rfl, trivial⟩ (by kernel_rfl) (by kernel_rfl) ⟨hq, trivial⟩ inferInstance
   refine J.wbr ?_ ?_
   ·refine J.alloc rfl fun bg => ?_
    refine J.nil ?_
    exact st5 (z, bg, ()) _ _ _ ⟨rfl, rfl, rfl, rfl, trivial⟩ (by kernel_rfl) (by kernel_rfl) ⟨hz, trivial⟩ inferInstance
   refine J.wbr ?_ ?_
   ·refine J.alloc rfl fun bi => ?_
    refine J.nil ?_
    exact st7 (z, bi, ()) _ _ _ ⟨rfl, rfl, rfl, rfl, trivial⟩ (by kernel_rfl) (by kernel_rfl) ⟨hz, trivial⟩ inferInstance
   exact J.wbr0
  refine J.wst (A := Nat × Nat × Nat × Unit) (fun p => [(4, .pointer (some ⟨p.2.1, 0, none⟩)), (5, .pointer (some ⟨p.2.2.1, 0, none⟩)), (23, .agg (grC q1).toArray), (24, .agg (ints .u8 S.gxX).toArray), (25, .slice (some ⟨p.1, 0, none⟩) 1 1)]) [] (fun p => [.blk p.2.1 [.slice none 0 0, .slice none 0 0] 25, .blk p.2.2.1 (ints .u8 (List.replicate 32 0)) 43, .wown 43 .u8 32 (some ⟨p.1, 0, none⟩) 1 1 S.gxX, .blk b2 (ints .u8 S.gxX) 43, .blk b1 (grC q1) 25, .gown opC 11 54 q1.oa q1.n q1.oc q1.zs, .all (q1.zs.map (opE 43)), .wown 43 .u8 32 q1.ia q1.m q1.ic q1.ids]) (fun p => True) 9 (bs 14 1543) (fun p j hp => ?_) (fun st9 => ?_)
  ·obtain ⟨bx, bg, bi, _⟩ := p
   obtain _ := hp
   try dsimp only
   refine J.wfin [(3, .e), (4, .e), (5, .q), (6, .q), (7, .q), (8, .q), (11, .e), (12, .e), (13, .q)] (by kernel_rfl) ?_
   refine run ?_
   refine J.call rfl rfl (cB bx K0) fun z hz => ?_
   refine run ?_
   refine J.call rfl rfl (cU q1 z K0 hk1 hq1 hm1 hz) fun q hq => ?_
   refine run ?_
   refine run ?_
   refine run ?_
   refine J.front (.blk bg (grC q) 25) ?_
   refine J.front (.blk bi (ints .u8 S.gxY) 43) ?_
   exact J.cut (q, bg, bi) ⟨rfl, rfl, rfl, trivial⟩ (by kernel_rfl) hq
  refine J.wst (A := Nat × Nat × Unit) (fun p => [(4, .pointer (some ⟨p.2.1, 0, none⟩)), (23, .agg (grC q1).toArray), (24, .agg (ints .u8 S.gxX).toArray), (25, .slice (some ⟨p.1, 0, none⟩) 1 1)]) [] (fun p => [.blk p.2.1 [.slice none 0 0, .slice none 0 0] 25, .wown 43 .u8 32 (some ⟨p.1, 0, none⟩) 1 1 S.gxX, .blk b2 (ints .u8 S.gxX) 43, .blk b1 (grC q1) 25, .gown opC 11 54 q1.oa q1.n q1.oc q1.zs, .all (q1.zs.map (opE 43)), .wown 43 .u8 32 q1.ia q1.m q1.ic q1.ids]) (fun p => True) 10 (bs 14 519) (fun p j hp => ?_) (fun st10 => ?_)
  ·obtain ⟨bx, bg, _⟩ := p
   obtain _ := hp
   try dsimp only
   refine J.wnode [] [3, 10] 9 (bs 14 519) (by kernel_rfl) ?_
   refine run ?_
   refine J.nil ?_
   refine J.wbr ?_ ?_
   ·refine J.call rfl rfl (cB bx K0) fun z hz => ?_
    refine J.nil ?_
    refine J.front (.wrow .u8 32 z.1 1 S.gxX) ?_
    refine J.front (.blk bg [.slice none 0 0, .slice none 0 0] 25) ?_
    exact st5 (z, bg, ()) _ _ _ ⟨rfl, rfl, rfl, rfl, trivial⟩ (by kernel_rfl) (by kernel_rfl) ⟨hz, trivial⟩ inferInstance
   refine J.wbr ?_ ?_
   ·refine J.alloc rfl fun bi => ?_
    refine J.nil ?_
    refine J.front (.wown 43 .u8 32 (some ⟨bx, 0, none⟩) 1 1 S.gxX) ?_
    refine J.front (.blk bi (ints .u8 (List.replicate 32 0)) 43) ?_
    refine J.front (.blk bg [.slice none 0 0, .slice none 0 0] 25) ?_
    exact st9 (bx, bg, bi, ()) _ _ _ ⟨rfl, rfl, rfl, rfl, rfl, trivial⟩ (by kernel_rfl) (by kernel_rfl) trivial inferInstance
   exact J.wbr0
  refine J.wst (A := Nat × Nat × Unit) (fun p => [(5, .pointer (some ⟨p.2.1, 0, none⟩)), (23, .agg (grC q1).toArray), (24, .agg (ints .u8 S.gxX).toArray), (25, .slice (some ⟨p.1, 0, none⟩) 1 1)]) [] (fun p => [.blk p.2.1 (ints .u8 (List.replicate 32 0)) 43, .wown 43 .u8 32 (some ⟨p.1, 0, none⟩) 1 1 S.gxX, .blk b2 (ints .u8 S.gxX) 43, .blk b1 (grC q1) 25, .gown opC 11 54 q1.oa q1.n q1.oc q1.zs, .all (q1.zs.map (opE 43)), .wown 43 .u8 32 q1.ia q1.m q1.ic q1.ids]) (fun p => True) 10 (bs 14 1031) (fun p j hp => ?_) (fun st11 => ?_)
  ·obtain ⟨bx, bi, _⟩ := p
   obtain _ := hp
   try dsimp only
   refine J.wnode [] [3, 9] 9 (bs 14 1031) (by kernel_rfl) ?_
   refine run ?_
   refine J.nil ?_
   refine J.wbr ?_ ?_
   ·refine J.call rfl rfl (cB bx K0) fun z hz => ?_
    refine J.nil ?_
    refine J.front (.wrow .u8 32 z.1 1 S.gxX) ?_
    refine J.front (.blk bi (ints .u8 (List.replicate 32 0)) 43) ?_
    exact st7 (z, bi, ()) _ _ _ ⟨rfl, rfl, rfl, rfl, trivial⟩ (by kernel_rfl) (by kernel_rfl) ⟨hz, trivial⟩ inferInstance
   refine J.wbr ?_ ?_
   ·refine J.alloc rfl fun bg => ?_
    refine J.nil ?_
    exact st9 (bx, bg, bi, ()) _ _ _ ⟨rfl, rfl, rfl, rfl, rfl, trivial⟩ (by kernel_rfl) (by kernel_rfl) trivial inferInstance
   exact J.wbr0
  refine J.wst (A := Nat × Unit) (fun p => [(23, .agg (grC q1).toArray), (24, .agg (ints .u8 S.gxX).toArray), (25, .slice (some ⟨p.1, 0, none⟩) 1 1)]) [] (fun p => [.wown 43 .u8 32 (some ⟨p.1, 0, none⟩) 1 1 S.gxX, .blk b2 (ints .u8 S.gxX) 43, .blk b1 (grC q1) 25, .gown opC 11 54 q1.oa q1.n q1.oc q1.zs, .all (q1.zs.map (opE 43)), .wown 43 .u8 32 q1.ia q1.m q1.ic q1.ids]) (fun p => True) 11 (bs 14 7) (fun p j hp => ?_) (fun st12 => ?_)
  ·obtain ⟨bx, _⟩ := p
   obtain _ := hp
   try dsimp only
   refine J.wnode [] [3, 9, 10] 10 (bs 14 7) (by kernel_rfl) ?_
   refine run ?_
   refine J.nil ?_
   refine J.wbr ?_ ?_
   ·refine J.call rfl rfl (cB bx K0) fun z hz => ?_
    refine J.nil ?_
    exact st8 (z, ()) _ _ _ ⟨rfl, rfl, rfl, trivial⟩ (by kernel_rfl) (by kernel_rfl) ⟨hz, trivial⟩ inferInstance
   refine J.wbr ?_ ?_
   ·refine J.alloc rfl fun bg => ?_
    refine J.nil ?_
    exact st10 (bx, bg, ()) _ _ _ ⟨rfl, rfl, rfl, rfl, trivial⟩ (by kernel_rfl) (by kernel_rfl) trivial inferInstance
   refine J.wbr ?_ ?_
   ·refine J.alloc rfl fun bi => ?_
    refine J.nil ?_
    exact st11 (bx, bi, ()) _ _ _ ⟨rfl, rfl, rfl, rfl, trivial⟩ (by kernel_rfl) (by kernel_rfl) trivial inferInstance
   exact J.wbr0
  refine J.wst (A := Nat × Nat × Unit) (fun p => [(4, .pointer (some ⟨p.1, 0, none⟩)), (5, .pointer (some ⟨p.2.1, 0, none⟩)), (23, .agg (grC q1).toArray), (24, .agg (ints .u8 S.gxX).toArray)]) [] (fun p => [.blk p.1 [.slice none 0 0, .slice none 0 0] 25, .blk p.2.1 (ints .u8 (List.replicate 32 0)) 43, .blk b2 (ints .u8 S.gxX) 43, .blk b1 (grC q1) 25, .gown opC 11 54 q1.oa q1.n q1.oc q1.zs, .all (q1.zs.map (opE 43)), .wown 43 .u8 32 q1.ia q1.m q1.ic q1.ids]) (fun p => True) 10 (bs 14 1539) (fun p j hp => ?_) (fun st13 => ?_)
  ·obtain ⟨bg, bi, _⟩ := p
   obtain _ := hp
   try dsimp only
   refine J.wfin [(2, .e), (3, .e), (4, .e), (5, .q), (6, .q), (7, .q), (8, .q), (11, .e), (12, .e), (13, .q)] (by kernel_rfl) ?_
   refine run ?_
   refine J.b1W rfl rfl hX fun bx => ?_
   refine run ?_
   refine J.call rfl rfl (cB bx K0) fun z hz => ?_
   refine run ?_
   refine J.call rfl rfl (cU q1 z K0 hk1 hq1 hm1 hz) fun q hq => ?_
   refine run ?_
   refine run ?_
   refine run ?_
   refine J.front (.blk bg (grC q) 25) ?_
   refine J.front (.blk bi (ints .u8 S.gxY) 43) ?_
   exact J.cut (q, bg, bi) ⟨rfl, rfl, rfl, trivial⟩ (by kernel_rfl) hq
  refine J.wst (A := Nat × Unit) (fun p => [(4, .pointer (some ⟨p.1, 0, none⟩)), (23, .agg (grC q1).toArray), (24, .agg (ints .u8 S.gxX).toArray)]) [] (fun p => [.blk p.1 [.slice none 0 0, .slice none 0 0] 25, .blk b2 (ints .u8 S.gxX) 43, .blk b1 (grC q1) 25, .gown opC 11 54 q1.oa q1.n q1.oc q1.zs, .all (q1.zs.map (opE 43)), .wown 43 .u8 32 q1.ia q1.m q1.ic q1.ids]) (fun p => True) 11 (bs 14 515) (fun p j hp => ?_) (fun st14 => ?_)
  ·obtain ⟨bg, _⟩ := p
   obtain _ := hp
   try dsimp only
   refine J.wnode [] [2, 10] 10 (bs 14 515) (by kernel_rfl) ?_
   refine run ?_
   refine J.nil ?_
   refine J.wbr ?_ ?_
   ·refine J.b1W rfl rfl hX fun bx => ?_
    refine J.nil ?_
    refine J.front (.wown 43 .u8 32 (some ⟨bx, 0, none⟩) 1 1 S.gxX) ?_
    refine J.front (.blk bg [.slice none 0 0, .slice none 0 0] 25) ?_
    exact st10 (bx, bg, ()) _ _ _ ⟨rfl, rfl, rfl, rfl, trivial⟩ (by kernel_rfl) (by kernel_rfl) trivial inferInstance
   refine J.wbr ?_ ?_
   ·refine J.alloc rfl fun bi => ?_
    refine J.nil ?_
    refine J.front (.blk bi (ints .u8 (List.replicate 32 0)) 43) ?_
    refine J.front (.blk bg [.slice none 0 0, .slice none 0 0] 25) ?_
    exact st13 (bg, bi, ()) _ _ _ ⟨rfl, rfl, rfl, rfl, trivial⟩ (by kernel_rfl) (by kernel_rfl) trivial inferInstance
   exact J.wbr0
  refine J.wst (A := Nat × Unit) (fun p => [(5, .pointer (some ⟨p.1, 0, none⟩)), (23, .agg (grC q1).toArray), (24, .agg (ints .u8 S.gxX).toArray)]) [] (fun p => [.blk p.1 (ints .u8 (List.replicate 32 0)) 43, .blk b2 (ints .u8 S.gxX) 43, .blk b1 (grC q1) 25, .gown opC 11 54 q1.oa q1.n q1.oc q1.zs, .all (q1.zs.map (opE 43)), .wown 43 .u8 32 q1.ia q1.m q1.ic q1.ids]) (fun p => True) 11 (bs 14 1027) (fun p j hp => ?_) (fun st15 => ?_)
  ·obtain ⟨bi, _⟩ := p
   obtain _ := hp
   try dsimp only
   refine J.wnode [] [2, 9] 10 (bs 14 1027) (by kernel_rfl) ?_
   refine run ?_
   refine J.nil ?_
   refine J.wbr ?_ ?_
   ·refine J.b1W rfl rfl hX fun bx => ?_
    refine J.nil ?_
    refine J.front (.wown 43 .u8 32 (some ⟨bx, 0, none⟩) 1 1 S.gxX) ?_
    refine J.front (.blk bi (ints .u8 (List.replicate 32 0)) 43) ?_
    exact st11 (bx, bi, ()) _ _ _ ⟨rfl, rfl, rfl, rfl, trivial⟩ (by kernel_rfl) (by kernel_rfl) trivial inferInstance
   refine J.wbr ?_ ?_
   ·refine J.alloc rfl fun bg => ?_
    refine J.nil ?_
    exact st13 (bg, bi, ()) _ _ _ ⟨rfl, rfl, rfl, rfl, trivial⟩ (by kernel_rfl) (by kernel_rfl) trivial inferInstance
   exact J.wbr0
  refine J.wnode [(0, .q), (1, .q)] [2, 9, 10] 11 (bs 14 3) (by kernel_rfl) ?_
  refine run ?_
  refine J.nil ?_
  refine J.wbr ?_ ?_
  ·refine J.b1W rfl rfl hX fun bx => ?_
   refine J.nil ?_
   exact st12 (bx, ()) _ _ _ ⟨rfl, rfl, rfl, trivial⟩ (by kernel_rfl) (by kernel_rfl) trivial inferInstance
  refine J.wbr ?_ ?_
  ·refine J.alloc rfl fun bg => ?_
   refine J.nil ?_
   exact st14 (bg, ()) _ _ _ ⟨rfl, rfl, rfl, trivial⟩ (by kernel_rfl) (by kernel_rfl) trivial inferInstance
  refine J.wbr ?_ ?_
  ·refine J.alloc rfl fun bi => ?_
   refine J.nil ?_
   exact st15 (bi, ()) _ _ _ ⟨rfl, rfl, rfl, trivial⟩ (by kernel_rfl) (by kernel_rfl) trivial inferInstance
  exact J.wbr0
 obtain ⟨q2, b4, b5⟩ := u
 dsimp only at hu ⊢
 have hk2 := hu.ok o2
 have hm2 := hu.sz s2
 refine run ?_
 obtain ⟨e0, h0⟩ := ex (Ent.blk b5 (ints .u8 S.gxY) 43)
 obtain ⟨e1, h1⟩ := ex (Ent.blk b4 (grC q2) 25)
 obtain ⟨e2, h2⟩ := ex (Ent.gown opC 11 54 q2.oa q2.n q2.oc q2.zs)
 obtain ⟨e3, h3⟩ := ex (Ent.all (q2.zs.map (opE 43)))
 obtain ⟨e4, h4⟩ := ex (Ent.wown 43 .u8 32 q2.ia q2.m q2.ic q2.ids)
 rw [← h0, ← h1, ← h2, ← h3, ← h4]
 refine J.joinX (A := Unit) (fun u => [(9, .int .i64 40)]) [7, 8, 31, 32, 33, 34, 35, 36, 37, 38, 39] (fun _ => [e0, e1, e2, e3, e4, .blk b2 (ints .u8 S.gxX) 43, .blk b1 (grC q1) 25]) (fun _ => True) ?_ (fun _ j3 _ => ?_)
 ·refine J.regionW [.blk b2 (ints .u8 S.gxX) 43, .blk b1 (grC q1) 25] mixed ?_
  refine J.wst (A := GrA × Nat × Unit) (fun p => [(7, .pointer (some ⟨p.2.1, 0, none⟩)), (32, .agg #[.slice none 0 0, .slice none 0 0]), (33, .agg (ints .u8 S.gxX).toArray), (36, .tuple #[.agg (grC p.1).toArray, .agg (ints .u8 (List.replicate 32 0)).toArray, .int .i64 40]), (37, .agg (grC p.1).toArray), (38, .agg (ints .u8 (List.replicate 32 0)).toArray), (39, .int .i64 40)]) [31, 34, 35] (fun p => [.blk p.2.1 [.slice none 0 0, .slice none 0 0] 25, e0, e1, e2, e3, e4, .blk b2 (ints .u8 S.gxX) 43, .blk b1 (grC q1) 25]) (fun p => True) 4 (bs 14 1023) (fun p j hp => ?_) (fun st0 => ?_)
  ·obtain ⟨q, bg, _⟩ := p
   obtain _ := hp
   try dsimp only
   refine J.wfin [(10, .e), (11, .e), (12, .e), (13, .q)] (by kernel_rfl) ?_
   refine run ?_
   refine J.alloc rfl fun bi => ?_
   refine run ?_
   refine run ?_
   refine run ?_
   exact J.cut () ⟨rfl, trivial⟩ (by kernel_rfl) trivial
  refine J.wst (A := GrA × Nat × Unit) (fun p => [(8, .pointer (some ⟨p.2.1, 0, none⟩)), (32, .agg #[.slice none 0 0, .slice none 0 0]), (33, .agg (ints .u8 S.gxX).toArray), (36, .tuple #[.agg (grC p.1).toArray, .agg (ints .u8 (List.replicate 32 0)).toArray, .int .i64 40]), (37, .agg (grC p.1).toArray), (38, .agg (ints .u8 (List.replicate 32 0)).toArray), (39, .int .i64 40)]) [31, 34, 35] (fun p => [.blk p.2.1 (ints .u8 (List.replicate 32 0)) 43, e0, e1, e2, e3, e4, .blk b2 (ints .u8 S.gxX) 43, .blk b1 (grC q1) 25]) (fun p => True) 4 (bs 14 1535) (fun p j hp => ?_) (fun st1 => ?_)
  ·obtain ⟨q, bi, _⟩ := p
   obtain _ := hp
   try dsimp only
   refine J.wfin [(9, .e), (11, .e), (12, .e), (13, .q)] (by kernel_rfl) ?_
   refine run ?_
   refine J.alloc rfl fun bg => ?_
   refine run ?_
   refine run ?_
   refine run ?_
   exact J.cut () ⟨rfl, trivial⟩ (by kernel_rfl) trivial
  refine J.wst (A := GrA × Unit) (fun p => [(32, .agg #[.slice none 0 0, .slice none 0 0]), (33, .agg (ints .u8 S.gxX).toArray), (36, .tuple #[.agg (grC p.1).toArray, .agg (ints .u8 (List.replicate 32 0)).toArray, .int .i64 40])]) [34, 35] (fun p => [e0, e1, e2, e3, e4, .blk b2 (ints .u8 S.gxX) 43, .blk b1 (grC q1) 25]) (fun p => True) 9 (bs 14 31) (fun p j hp => ?_) (fun st2 => ?_)
  ·obtain ⟨q, _⟩ := p
   obtain _ := hp
   try dsimp only
   refine J.wnode [(5, .q), (6, .q), (7, .q), (8, .q)] [9, 10] 4 (bs 14 511) (by kernel_rfl) ?_
   refine run ?_
   refine J.nil ?_
   refine J.wbr ?_ ?_
   ·refine J.alloc rfl fun bg => ?_
    refine J.nil ?_
    exact st0 (q, bg, ()) _ _ _ ⟨rfl, rfl, rfl, rfl, rfl, rfl, rfl, trivial⟩ (by kernel_rfl) (by kernel_rfl) trivial inferInstance
   refine J.wbr ?_ ?_
   ·refine J.alloc rfl fun bi => ?_
    refine J.nil ?_
    exact st1 (q, bi, ()) _ _ _ ⟨rfl, rfl, rfl, rfl, rfl, rfl, rfl, trivial⟩ (by kernel_rfl) (by kernel_rfl) trivial inferInstance
   exact J.wbr0
  refine J.wst (A := GrA × Nat × Unit) (fun p => [(7, .pointer (some ⟨p.2.1, 0, none⟩)), (32, .agg #[.slice none 0 0, .slice none 0 0]), (33, .agg (ints .u8 S.gxX).toArray), (36, .tuple #[.agg (grC p.1).toArray, .agg (ints .u8 (List.replicate 32 0)).toArray, .int .i64 40])]) [34, 35] (fun p => [.blk p.2.1 [.slice none 0 0, .slice none 0 0] 25, e0, e1, e2, e3, e4, .blk b2 (ints .u8 S.gxX) 43, .blk b1 (grC q1) 25]) (fun p => True) 8 (bs 14 543) (fun p j hp => ?_) (fun st3 => ?_)
  ·obtain ⟨q, bg, _⟩ := p
   obtain _ := hp
   try dsimp only
   refine J.wfin [(5, .q), (6, .q), (7, .q), (8, .q), (10, .e), (11, .e), (12, .e), (13, .q)] (by kernel_rfl) ?_
   refine run ?_
   refine J.alloc rfl fun bi => ?_
   refine run ?_
   refine run ?_
   refine run ?_
   exact J.cut () ⟨rfl, trivial⟩ (by kernel_rfl) trivial
  refine J.wst (A := (Option Addr × Nat) × Nat × Nat × Unit) (fun p => [(7, .pointer (some ⟨p.2.1, 0, none⟩)), (8, .pointer (some ⟨p.2.2.1, 0, none⟩)), (32, .agg #[.slice none 0 0, .slice none 0 0]), (33, .agg (ints .u8 S.gxX).toArray), (35, .agg (opC ⟨S.gxU, p.1.1, p.1.2⟩).toArray)]) [34] (fun p => [.blk p.2.1 [.slice none 0 0, .slice none 0 0] 25, .blk p.2.2.1 (ints .u8 (List.replicate 32 0)) 43, .wrow .u8 32 p.1.1 1 S.gxX, e0, e1, e2, e3, e4, .blk b2 (ints .u8 S.gxX) 43, .blk b1 (grC q1) 25]) (fun p => 1 ≤ p.1.2 ∧ True) 8 (bs 14 1551) (fun p j hp => ?_) (fun st4 => ?_)
  ·obtain ⟨z, bg, bi, _⟩ := p
   obtain ⟨hz, _⟩ := hp
   try dsimp only
   try dsimp only at hz
   refine J.wfin [(4, .e), (5, .q), (6, .q), (7, .q), (8, .q), (11, .e), (12, .e), (13, .q)] (by kernel_rfl) ?_
   refine run ?_
   refine J.call rfl rfl (cN z K0 hz) fun q hq => ?_
   refine run ?_
   refine run ?_
   refine run ?_
   exact J.cut () ⟨rfl, trivial⟩ (by kernel_rfl) trivial
  refine J.wst (A := (Option Addr × Nat) × Nat × Unit) (fun p => [(7, .pointer (some ⟨p.2.1, 0, none⟩)), (32, .agg #[.slice none 0 0, .slice none 0 0]), (33, .agg (ints .u8 S.gxX).toArray), (35, .agg (opC ⟨S.gxU, p.1.1, p.1.2⟩).toArray)]) [34] (fun p => [.blk p.2.1 [.slice none 0 0, .slice none 0 0] 25, .wrow .u8 32 p.1.1 1 S.gxX, e0, e1, e2, e3, e4, .blk b2 (ints .u8 S.gxX) 43, .blk b1 (grC q1) 25]) (fun p => 1 ≤ p.1.2 ∧ True) 9 (bs 14 527) (fun p j hp => ?_) (fun st5 => ?_)
  ·obtain ⟨z, bg, _⟩ := p
   obtain ⟨hz, _⟩ := hp
   try dsimp only
   try dsimp only at hz
   refine J.wnode [] [4, 10] 8 (bs 14 527) (by kernel_rfl) ?_
   refine run ?_
   refine J.nil ?_
   refine J.wbr ?_ ?_
   ·refine J.call rfl rfl (cN z K0 hz) fun q hq => ?_
    refine J.nil ?_
    exact st3 (q, bg, ()) _ _ _ ⟨rfl, rfl, rfl, rfl, trivial⟩ (by kernel_rfl) (by kernel_rfl) trivial inferInstance
   refine J.wbr ?_ ?_
   ·refine J.alloc rfl fun bi => ?_
    refine J.nil ?_
    refine J.front (.wrow .u8 32 z.1 1 S.gxX) ?_
    refine J.front (.blk bi (ints .u8 (List.replicate 32 0)) 43) ?_
    refine J.front (.blk bg [.slice none 0 0, .slice none 0 0] 25) ?_
    exact st4 (z, bg, bi, ()) _ _ _ ⟨rfl, rfl, rfl, rfl, rfl, trivial⟩ (by kernel_rfl) (by kernel_rfl) ⟨hz, trivial⟩ inferInstance
   exact J.wbr0
  refine J.wst (A := GrA × Nat × Unit) (fun p => [(8, .pointer (some ⟨p.2.1, 0, none⟩)), (32, .agg #[.slice none 0 0, .slice none 0 0]), (33, .agg (ints .u8 S.gxX).toArray), (36, .tuple #[.agg (grC p.1).toArray, .agg (ints .u8 (List.replicate 32 0)).toArray, .int .i64 40])]) [34, 35] (fun p => [.blk p.2.1 (ints .u8 (List.replicate 32 0)) 43, e0, e1, e2, e3, e4, .blk b2 (ints .u8 S.gxX) 43, .blk b1 (grC q1) 25]) (fun p => True) 8 (bs 14 1055) (fun p j hp => ?_) (fun st6 => ?_)
  ·obtain ⟨q, bi, _⟩ := p
   obtain _ := hp
   try dsimp only
   refine J.wfin [(5, .q), (6, .q), (7, .q), (8, .q), (9, .e), (11, .e), (12, .e), (13, .q)] (by kernel_rfl) ?_
   refine run ?_
   refine J.alloc rfl fun bg => ?_
   refine run ?_
   refine run ?_
   refine run ?_
   exact J.cut () ⟨rfl, trivial⟩ (by kernel_rfl) trivial
  refine J.wst (A := (Option Addr × Nat) × Nat × Unit) (fun p => [(8, .pointer (some ⟨p.2.1, 0, none⟩)), (32, .agg #[.slice none 0 0, .slice none 0 0]), (33, .agg (ints .u8 S.gxX).toArray), (35, .agg (opC ⟨S.gxU, p.1.1, p.1.2⟩).toArray)]) [34] (fun p => [.blk p.2.1 (ints .u8 (List.replicate 32 0)) 43, .wrow .u8 32 p.1.1 1 S.gxX, e0, e1, e2, e3, e4, .blk b2 (ints .u8 S.gxX) 43, .blk b1 (grC q1) 25]) (fun p => 1 ≤ p.1.2 ∧ True) 9 (bs 14 1039) (fun p j hp => ?_) (fun st7 => ?_)
  ·obtain ⟨z, bi, _⟩ := p
   obtain ⟨hz, _⟩ := hp
   try dsimp only
   try dsimp only at hz
   refine J.wnode [] [4, 9] 8 (bs 14 1039) (by kernel_rfl) ?_
   refine run ?_
   refine J.nil ?_
   refine J.wbr ?_ ?_
   ·refine J.call rfl rfl (cN z K0 hz) fun q hq => ?_
    refine J.nil ?_
    exact st6 (q, bi, ()) _ _ _ ⟨rfl, rfl, rfl, rfl, trivial⟩ (by kernel_rfl) (by kernel_rfl) trivial inferInstance
   refine J.wbr ?_ ?_
   ·refine J.alloc rfl fun bg => ?_
    refine J.nil ?_
    exact st4 (z, bg, bi, ()) _ _ _ ⟨rfl, rfl, rfl, rfl, rfl, trivial⟩ (by kernel_rfl) (by kernel_rfl) ⟨hz, trivial⟩ inferInstance
   exact J.wbr0
  refine J.wst (A := (Option Addr × Nat) × Unit) (fun p => [(32, .agg #[.slice none 0 0, .slice none 0 0]), (33, .agg (ints .u8 S.gxX).toArray), (35, .agg (opC ⟨S.gxU, p.1.1, p.1.2⟩).toArray)]) [34] (fun p => [.wrow .u8 32 p.1.1 1 S.gxX, e0, e1, e2, e3, e4, .blk b2 (ints .u8 S.gxX) 43, .blk b1 (grC q1) 25]) (fun p => 1 ≤ p.1.2 ∧ True) 10 (bs 14 15) (fun p j hp => ?_) (fun st8 => ?_)
  ·obtain ⟨z, _⟩ := p
   obtain ⟨hz, _⟩ := hp
   try dsimp only
   try dsimp only at hz
   refine J.wnode [] [4, 9, 10] 9 (bs 14 15) (by kernel_rfl) ?_
   refine run ?_
   refine J.nil ?_
   refine J.wbr ?_ ?_
   ·refine J.call rfl rfl (cN z K0 hz) fun q hq => ?_
    refine J.nil ?_
    exact st2 (q, ()) _ _ _ ⟨rfl, rfl, rfl, trivial⟩ (by kernel_rfl) (by kernel_rfl) trivial inferInstance
   refine J.wbr ?_ ?_
   ·refine J.alloc rfl fun bg => ?_
    refine J.nil ?_
    exact st5 (z, bg, ()) _ _ _ ⟨rfl, rfl, rfl, rfl, trivial⟩ (by kernel_rfl) (by kernel_rfl) ⟨hz, trivial⟩ inferInstance
   refine J.wbr ?_ ?_
   ·refine J.alloc rfl fun bi => ?_
    refine J.nil ?_
    exact st7 (z, bi, ()) _ _ _ ⟨rfl, rfl, rfl, rfl, trivial⟩ (by kernel_rfl) (by kernel_rfl) ⟨hz, trivial⟩ inferInstance
   exact J.wbr0
  refine J.wst (A := Nat × Nat × Nat × Unit) (fun p => [(7, .pointer (some ⟨p.2.1, 0, none⟩)), (8, .pointer (some ⟨p.2.2.1, 0, none⟩)), (32, .agg #[.slice none 0 0, .slice none 0 0]), (33, .agg (ints .u8 S.gxX).toArray), (34, .slice (some ⟨p.1, 0, none⟩) 1 1)]) [] (fun p => [.blk p.2.1 [.slice none 0 0, .slice none 0 0] 25, .blk p.2.2.1 (ints .u8 (List.replicate 32 0)) 43, .wown 43 .u8 32 (some ⟨p.1, 0, none⟩) 1 1 S.gxX, e0, e1, e2, e3, e4, .blk b2 (ints .u8 S.gxX) 43, .blk b1 (grC q1) 25]) (fun p => True) 9 (bs 14 1543) (fun p j hp => ?_) (fun st9 => ?_)
  ·obtain ⟨bx, bg, bi, _⟩ := p
   obtain _ := hp
   try dsimp only
   refine J.wfin [(3, .e), (4, .e), (5, .q), (6, .q), (7, .q), (8, .q), (11, .e), (12, .e), (13, .q)] (by kernel_rfl) ?_
   refine run ?_
   refine J.call rfl rfl (cB bx K0) fun z hz => ?_
   refine run ?_
   refine J.call rfl rfl (cN z K0 hz) fun q hq => ?_
   refine run ?_
   refine run ?_
   refine run ?_
   exact J.cut () ⟨rfl, trivial⟩ (by kernel_rfl) trivial
  refine J.wst (A := Nat × Nat × Unit) (fun p => [(7, .pointer (some ⟨p.2.1, 0, none⟩)), (32, .agg #[.slice none 0 0, .slice none 0 0]), (33, .agg (ints .u8 S.gxX).toArray), (34, .slice (some ⟨p.1, 0, none⟩) 1 1)]) [] (fun p => [.blk p.2.1 [.slice none 0 0, .slice none 0 0] 25, .wown 43 .u8 32 (some ⟨p.1, 0, none⟩) 1 1 S.gxX, e0, e1, e2, e3, e4, .blk b2 (ints .u8 S.gxX) 43, .blk b1 (grC q1) 25]) (fun p => True) 10 (bs 14 519) (fun p j hp => ?_) (fun st10 => ?_)
  ·obtain ⟨bx, bg, _⟩ := p
   obtain _ := hp
   try dsimp only
   refine J.wnode [] [3, 10] 9 (bs 14 519) (by kernel_rfl) ?_
   refine run ?_
   refine J.nil ?_
   refine J.wbr ?_ ?_
   ·refine J.call rfl rfl (cB bx K0) fun z hz => ?_
    refine J.nil ?_
    refine J.front (.wrow .u8 32 z.1 1 S.gxX) ?_
    refine J.front (.blk bg [.slice none 0 0, .slice none 0 0] 25) ?_
    exact st5 (z, bg, ()) _ _ _ ⟨rfl, rfl, rfl, rfl, trivial⟩ (by kernel_rfl) (by kernel_rfl) ⟨hz, trivial⟩ inferInstance
   refine J.wbr ?_ ?_
   ·refine J.alloc rfl fun bi => ?_
    refine J.nil ?_
    refine J.front (.wown 43 .u8 32 (some ⟨bx, 0, none⟩) 1 1 S.gxX) ?_
    refine J.front (.blk bi (ints .u8 (List.replicate 32 0)) 43) ?_
    refine J.front (.blk bg [.slice none 0 0, .slice none 0 0] 25) ?_
    exact st9 (bx, bg, bi, ()) _ _ _ ⟨rfl, rfl, rfl, rfl, rfl, trivial⟩ (by kernel_rfl) (by kernel_rfl) trivial inferInstance
   exact J.wbr0
  refine J.wst (A := Nat × Nat × Unit) (fun p => [(8, .pointer (some ⟨p.2.1, 0, none⟩)), (32, .agg #[.slice none 0 0, .slice none 0 0]), (33, .agg (ints .u8 S.gxX).toArray), (34, .slice (some ⟨p.1, 0, none⟩) 1 1)]) [] (fun p => [.blk p.2.1 (ints .u8 (List.replicate 32 0)) 43, .wown 43 .u8 32 (some ⟨p.1, 0, none⟩) 1 1 S.gxX, e0, e1, e2, e3, e4, .blk b2 (ints .u8 S.gxX) 43, .blk b1 (grC q1) 25]) (fun p => True) 10 (bs 14 1031) (fun p j hp => ?_) (fun st11 => ?_)
  ·obtain ⟨bx, bi, _⟩ := p
   obtain _ := hp
   try dsimp only
   refine J.wnode [] [3, 9] 9 (bs 14 1031) (by kernel_rfl) ?_
   refine run ?_
   refine J.nil ?_
   refine J.wbr ?_ ?_
   ·refine J.call rfl rfl (cB bx K0) fun z hz => ?_
    refine J.nil ?_
    refine J.front (.wrow .u8 32 z.1 1 S.gxX) ?_
    refine J.front (.blk bi (ints .u8 (List.replicate 32 0)) 43) ?_
    exact st7 (z, bi, ()) _ _ _ ⟨rfl, rfl, rfl, rfl, trivial⟩ (by kernel_rfl) (by kernel_rfl) ⟨hz, trivial⟩ inferInstance
   refine J.wbr ?_ ?_
   ·refine J.alloc rfl fun bg => ?_
    refine J.nil ?_
    exact st9 (bx, bg, bi, ()) _ _ _ ⟨rfl, rfl, rfl, rfl, rfl, trivial⟩ (by kernel_rfl) (by kernel_rfl) trivial inferInstance
   exact J.wbr0
  refine J.wst (A := Nat × Unit) (fun p => [(32, .agg #[.slice none 0 0, .slice none 0 0]), (33, .agg (ints .u8 S.gxX).toArray), (34, .slice (some ⟨p.1, 0, none⟩) 1 1)]) [] (fun p => [.wown 43 .u8 32 (some ⟨p.1, 0, none⟩) 1 1 S.gxX, e0, e1, e2, e3, e4, .blk b2 (ints .u8 S.gxX) 43, .blk b1 (grC q1) 25]) (fun p => True) 11 (bs 14 7) (fun p j hp => ?_) (fun st12 => ?_)
  ·obtain ⟨bx, _⟩ := p
   obtain _ := hp
   try dsimp only
   refine J.wnode [] [3, 9, 10] 10 (bs 14 7) (by kernel_rfl) ?_
   refine run ?_
   refine J.nil ?_
   refine J.wbr ?_ ?_
   ·refine J.call rfl rfl (cB bx K0) fun z hz => ?_
    refine J.nil ?_
    exact st8 (z, ()) _ _ _ ⟨rfl, rfl, rfl, trivial⟩ (by kernel_rfl) (by kernel_rfl) ⟨hz, trivial⟩ inferInstance
   refine J.wbr ?_ ?_
   ·refine J.alloc rfl fun bg => ?_
    refine J.nil ?_
    exact st10 (bx, bg, ()) _ _ _ ⟨rfl, rfl, rfl, rfl, trivial⟩ (by kernel_rfl) (by kernel_rfl) trivial inferInstance
   refine J.wbr ?_ ?_
   ·refine J.alloc rfl fun bi => ?_
    refine J.nil ?_
    exact st11 (bx, bi, ()) _ _ _ ⟨rfl, rfl, rfl, rfl, trivial⟩ (by kernel_rfl) (by kernel_rfl) trivial inferInstance
   exact J.wbr0
  refine J.wst (A := Nat × Nat × Unit) (fun p => [(7, .pointer (some ⟨p.1, 0, none⟩)), (8, .pointer (some ⟨p.2.1, 0, none⟩)), (32, .agg #[.slice none 0 0, .slice none 0 0]), (33, .agg (ints .u8 S.gxX).toArray)]) [] (fun p => [.blk p.1 [.slice none 0 0, .slice none 0 0] 25, .blk p.2.1 (ints .u8 (List.replicate 32 0)) 43, e0, e1, e2, e3, e4, .blk b2 (ints .u8 S.gxX) 43, .blk b1 (grC q1) 25]) (fun p => True) 10 (bs 14 1539) (fun p j hp => ?_) (fun st13 => ?_)
  ·obtain ⟨bg, bi, _⟩ := p
   obtain _ := hp
   try dsimp only
   refine J.wfin [(2, .e), (3, .e), (4, .e), (5, .q), (6, .q), (7, .q), (8, .q), (11, .e), (12, .e), (13, .q)] (by kernel_rfl) ?_
   refine run ?_
   refine J.b1W rfl rfl hX fun bx => ?_
   refine run ?_
   refine J.call rfl rfl (cB bx K0) fun z hz => ?_
   refine run ?_
   refine J.call rfl rfl (cN z K0 hz) fun q hq => ?_
   refine run ?_
   refine run ?_
   refine run ?_
   exact J.cut () ⟨rfl, trivial⟩ (by kernel_rfl) trivial
  refine J.wst (A := Nat × Unit) (fun p => [(7, .pointer (some ⟨p.1, 0, none⟩)), (32, .agg #[.slice none 0 0, .slice none 0 0]), (33, .agg (ints .u8 S.gxX).toArray)]) [] (fun p => [.blk p.1 [.slice none 0 0, .slice none 0 0] 25, e0, e1, e2, e3, e4, .blk b2 (ints .u8 S.gxX) 43, .blk b1 (grC q1) 25]) (fun p => True) 11 (bs 14 515) (fun p j hp => ?_) (fun st14 => ?_)
  ·obtain ⟨bg, _⟩ := p
   obtain _ := hp
   try dsimp only
   refine J.wnode [] [2, 10] 10 (bs 14 515) (by kernel_rfl) ?_
   refine run ?_
   refine J.nil ?_
   refine J.wbr ?_ ?_
   ·refine J.b1W rfl rfl hX fun bx => ?_
    refine J.nil ?_
    refine J.front (.wown 43 .u8 32 (some ⟨bx, 0, none⟩) 1 1 S.gxX) ?_
    refine J.front (.blk bg [.slice none 0 0, .slice none 0 0] 25) ?_
    exact st10 (bx, bg, ()) _ _ _ ⟨rfl, rfl, rfl, rfl, trivial⟩ (by kernel_rfl) (by kernel_rfl) trivial inferInstance
   refine J.wbr ?_ ?_
   ·refine J.alloc rfl fun bi => ?_
    refine J.nil ?_
    refine J.front (.blk bi (ints .u8 (List.replicate 32 0)) 43) ?_
    refine J.front (.blk bg [.slice none 0 0, .slice none 0 0] 25) ?_
    exact st13 (bg, bi, ()) _ _ _ ⟨rfl, rfl, rfl, rfl, trivial⟩ (by kernel_rfl) (by kernel_rfl) trivial inferInstance
   exact J.wbr0
  refine J.wst (A := Nat × Unit) (fun p => [(8, .pointer (some ⟨p.1, 0, none⟩)), (32, .agg #[.slice none 0 0, .slice none 0 0]), (33, .agg (ints .u8 S.gxX).toArray)]) [] (fun p => [.blk p.1 (ints .u8 (List.replicate 32 0)) 43, e0, e1, e2, e3, e4, .blk b2 (ints .u8 S.gxX) 43, .blk b1 (grC q1) 25]) (fun p => True) 11 (bs 14 1027) (fun p j hp => ?_) (fun st15 => ?_)
  ·obtain ⟨bi, _⟩ := p
   obtain _ := hp
   try dsimp only
   refine J.wnode [] [2, 9] 10 (bs 14 1027) (by kernel_rfl) ?_
   refine run ?_
   refine J.nil ?_
   refine J.wbr ?_ ?_
   ·refine J.b1W rfl rfl hX fun bx => ?_
    refine J.nil ?_
    refine J.front (.wown 43 .u8 32 (some ⟨bx, 0, none⟩) 1 1 S.gxX) ?_
    refine J.front (.blk bi (ints .u8 (List.replicate 32 0)) 43) ?_
    exact st11 (bx, bi, ()) _ _ _ ⟨rfl, rfl, rfl, rfl, trivial⟩ (by kernel_rfl) (by kernel_rfl) trivial inferInstance
   refine J.wbr ?_ ?_
   ·refine J.alloc rfl fun bg => ?_
    refine J.nil ?_
    exact st13 (bg, bi, ()) _ _ _ ⟨rfl, rfl, rfl, rfl, trivial⟩ (by kernel_rfl) (by kernel_rfl) trivial inferInstance
   exact J.wbr0
  refine J.wst (A := Unit) (fun p => [(32, .agg #[.slice none 0 0, .slice none 0 0]), (33, .agg (ints .u8 S.gxX).toArray)]) [] (fun p => [e0, e1, e2, e3, e4, .blk b2 (ints .u8 S.gxX) 43, .blk b1 (grC q1) 25]) (fun p => True) 12 (bs 14 3) (fun p j hp => ?_) (fun st16 => ?_)
  ·obtain _ := p
   obtain _ := hp
   try dsimp only
   refine J.wnode [] [2, 9, 10] 11 (bs 14 3) (by kernel_rfl) ?_
   refine run ?_
   refine J.nil ?_
   refine J.wbr ?_ ?_
   ·refine J.b1W rfl rfl hX fun bx => ?_
    refine J.nil ?_
    exact st12 (bx, ()) _ _ _ ⟨rfl, rfl, rfl, trivial⟩ (by kernel_rfl) (by kernel_rfl) trivial inferInstance
   refine J.wbr ?_ ?_
   ·refine J.alloc rfl fun bg => ?_
    refine J.nil ?_
    exact st14 (bg, ()) _ _ _ ⟨rfl, rfl, rfl, trivial⟩ (by kernel_rfl) (by kernel_rfl) trivial inferInstance
   refine J.wbr ?_ ?_
   ·refine J.alloc rfl fun bi => ?_
    refine J.nil ?_
    exact st15 (bi, ()) _ _ _ ⟨rfl, rfl, rfl, trivial⟩ (by kernel_rfl) (by kernel_rfl) trivial inferInstance
   exact J.wbr0
  refine J.wst (A := Nat × Nat × Nat × Unit) (fun p => [(7, .pointer (some ⟨p.2.1, 0, none⟩)), (8, .pointer (some ⟨p.2.2.1, 0, none⟩)), (33, .agg (ints .u8 S.gxX).toArray), (34, .slice (some ⟨p.1, 0, none⟩) 1 1)]) [] (fun p => [.blk p.2.1 [.slice none 0 0, .slice none 0 0] 25, .blk p.2.2.1 (ints .u8 (List.replicate 32 0)) 43, .wown 43 .u8 32 (some ⟨p.1, 0, none⟩) 1 1 S.gxX, e0, e1, e2, e3, e4, .blk b2 (ints .u8 S.gxX) 43, .blk b1 (grC q1) 25]) (fun p => True) 10 (bs 14 1542) (fun p j hp => ?_) (fun st17 => ?_)
  ·obtain ⟨bx, bg, bi, _⟩ := p
   obtain _ := hp
   try dsimp only
   refine J.wfin [(0, .e), (3, .e), (4, .e), (5, .q), (6, .q), (7, .q), (8, .q), (11, .e), (12, .e), (13, .q)] (by kernel_rfl) ?_
   refine run ?_
   refine J.callp rfl rfl (fun w' M => dagNew w') ?_
   refine run ?_
   refine J.call rfl rfl (cB bx K0) fun z hz => ?_
   refine run ?_
   refine J.call rfl rfl (cN z K0 hz) fun q hq => ?_
   refine run ?_
   refine run ?_
   refine run ?_
   exact J.cut () ⟨rfl, trivial⟩ (by kernel_rfl) trivial
  refine J.wst (A := Nat × Nat × Unit) (fun p => [(7, .pointer (some ⟨p.2.1, 0, none⟩)), (33, .agg (ints .u8 S.gxX).toArray), (34, .slice (some ⟨p.1, 0, none⟩) 1 1)]) [] (fun p => [.blk p.2.1 [.slice none 0 0, .slice none 0 0] 25, .wown 43 .u8 32 (some ⟨p.1, 0, none⟩) 1 1 S.gxX, e0, e1, e2, e3, e4, .blk b2 (ints .u8 S.gxX) 43, .blk b1 (grC q1) 25]) (fun p => True) 11 (bs 14 518) (fun p j hp => ?_) (fun st18 => ?_)
  ·obtain ⟨bx, bg, _⟩ := p
   obtain _ := hp
   try dsimp only
   refine J.wnode [] [0, 10] 10 (bs 14 518) (by kernel_rfl) ?_
   refine run ?_
   refine J.nil ?_
   refine J.wbr ?_ ?_
   ·refine J.callp rfl rfl (fun w' M => dagNew w') ?_
    refine J.nil ?_
    exact st10 (bx, bg, ()) _ _ _ ⟨rfl, rfl, rfl, rfl, trivial⟩ (by kernel_rfl) (by kernel_rfl) trivial inferInstance
   refine J.wbr ?_ ?_
   ·refine J.alloc rfl fun bi => ?_
    refine J.nil ?_
    refine J.front (.wown 43 .u8 32 (some ⟨bx, 0, none⟩) 1 1 S.gxX) ?_
    refine J.front (.blk bi (ints .u8 (List.replicate 32 0)) 43) ?_
    refine J.front (.blk bg [.slice none 0 0, .slice none 0 0] 25) ?_
    exact st17 (bx, bg, bi, ()) _ _ _ ⟨rfl, rfl, rfl, rfl, trivial⟩ (by kernel_rfl) (by kernel_rfl) trivial inferInstance
   exact J.wbr0
  refine J.wst (A := Nat × Nat × Unit) (fun p => [(8, .pointer (some ⟨p.2.1, 0, none⟩)), (33, .agg (ints .u8 S.gxX).toArray), (34, .slice (some ⟨p.1, 0, none⟩) 1 1)]) [] (fun p => [.blk p.2.1 (ints .u8 (List.replicate 32 0)) 43, .wown 43 .u8 32 (some ⟨p.1, 0, none⟩) 1 1 S.gxX, e0, e1, e2, e3, e4, .blk b2 (ints .u8 S.gxX) 43, .blk b1 (grC q1) 25]) (fun p => True) 11 (bs 14 1030) (fun p j hp => ?_) (fun st19 => ?_)
  ·obtain ⟨bx, bi, _⟩ := p
   obtain _ := hp
   try dsimp only
   refine J.wnode [] [0, 9] 10 (bs 14 1030) (by kernel_rfl) ?_
   refine run ?_
   refine J.nil ?_
   refine J.wbr ?_ ?_
   ·refine J.callp rfl rfl (fun w' M => dagNew w') ?_
    refine J.nil ?_
    exact st11 (bx, bi, ()) _ _ _ ⟨rfl, rfl, rfl, rfl, trivial⟩ (by kernel_rfl) (by kernel_rfl) trivial inferInstance
   refine J.wbr ?_ ?_
   ·refine J.alloc rfl fun bg => ?_
    refine J.nil ?_
    exact st17 (bx, bg, bi, ()) _ _ _ ⟨rfl, rfl, rfl, rfl, trivial⟩ (by kernel_rfl) (by kernel_rfl) trivial inferInstance
   exact J.wbr0
  refine J.wst (A := Nat × Unit) (fun p => [(33, .agg (ints .u8 S.gxX).toArray), (34, .slice (some ⟨p.1, 0, none⟩) 1 1)]) [] (fun p => [.wown 43 .u8 32 (some ⟨p.1, 0, none⟩) 1 1 S.gxX, e0, e1, e2, e3, e4, .blk b2 (ints .u8 S.gxX) 43, .blk b1 (grC q1) 25]) (fun p => True) 12 (bs 14 6) (fun p j hp => ?_) (fun st20 => ?_)
  ·obtain ⟨bx, _⟩ := p
   obtain _ := hp
   try dsimp only
   refine J.wnode [] [0, 9, 10] 11 (bs 14 6) (by kernel_rfl) ?_
   refine run ?_
   refine J.nil ?_
   refine J.wbr ?_ ?_
   ·refine J.callp rfl rfl (fun w' M => dagNew w') ?_
    refine J.nil ?_
    exact st12 (bx, ()) _ _ _ ⟨rfl, rfl, rfl, trivial⟩ (by kernel_rfl) (by kernel_rfl) trivial inferInstance
   refine J.wbr ?_ ?_
   ·refine J.alloc rfl fun bg => ?_
    refine J.nil ?_
    exact st18 (bx, bg, ()) _ _ _ ⟨rfl, rfl, rfl, trivial⟩ (by kernel_rfl) (by kernel_rfl) trivial inferInstance
   refine J.wbr ?_ ?_
   ·refine J.alloc rfl fun bi => ?_
    refine J.nil ?_
    exact st19 (bx, bi, ()) _ _ _ ⟨rfl, rfl, rfl, trivial⟩ (by kernel_rfl) (by kernel_rfl) trivial inferInstance
   exact J.wbr0
  refine J.wst (A := Nat × Nat × Unit) (fun p => [(7, .pointer (some ⟨p.1, 0, none⟩)), (8, .pointer (some ⟨p.2.1, 0, none⟩)), (33, .agg (ints .u8 S.gxX).toArray)]) [] (fun p => [.blk p.1 [.slice none 0 0, .slice none 0 0] 25, .blk p.2.1 (ints .u8 (List.replicate 32 0)) 43, e0, e1, e2, e3, e4, .blk b2 (ints .u8 S.gxX) 43, .blk b1 (grC q1) 25]) (fun p => True) 11 (bs 14 1538) (fun p j hp => ?_) (fun st21 => ?_)
  ·obtain ⟨bg, bi, _⟩ := p
   obtain _ := hp
   try dsimp only
   refine J.wnode [] [0, 2] 10 (bs 14 1538) (by kernel_rfl) ?_
   refine run ?_
   refine J.nil ?_
   refine J.wbr ?_ ?_
   ·refine J.callp rfl rfl (fun w' M => dagNew w') ?_
    refine J.nil ?_
    exact st13 (bg, bi, ()) _ _ _ ⟨rfl, rfl, rfl, rfl, trivial⟩ (by kernel_rfl) (by kernel_rfl) trivial inferInstance
   refine J.wbr ?_ ?_
   ·refine J.b1W rfl rfl hX fun bx => ?_
    refine J.nil ?_
    refine J.front (.wown 43 .u8 32 (some ⟨bx, 0, none⟩) 1 1 S.gxX) ?_
    refine J.front (.blk bi (ints .u8 (List.replicate 32 0)) 43) ?_
    refine J.front (.blk bg [.slice none 0 0, .slice none 0 0] 25) ?_
    exact st17 (bx, bg, bi, ()) _ _ _ ⟨rfl, rfl, rfl, rfl, trivial⟩ (by kernel_rfl) (by kernel_rfl) trivial inferInstance
   exact J.wbr0
  refine J.wst (A := Nat × Unit) (fun p => [(7, .pointer (some ⟨p.1, 0, none⟩)), (33, .agg (ints .u8 S.gxX).toArray)]) [] (fun p => [.blk p.1 [.slice none 0 0, .slice none 0 0] 25, e0, e1, e2, e3, e4, .blk b2 (ints .u8 S.gxX) 43, .blk b1 (grC q1) 25]) (fun p => True) 12 (bs 14 514) (fun p j hp => ?_) (fun st22 => ?_)
  ·obtain ⟨bg, _⟩ := p
   obtain _ := hp
   try dsimp only
   refine J.wnode [] [0, 2, 10] 11 (bs 14 514) (by kernel_rfl) ?_
   refine run ?_
   refine J.nil ?_
   refine J.wbr ?_ ?_
   ·refine J.callp rfl rfl (fun w' M => dagNew w') ?_
    refine J.nil ?_
    exact st14 (bg, ()) _ _ _ ⟨rfl, rfl, rfl, trivial⟩ (by kernel_rfl) (by kernel_rfl) trivial inferInstance
   refine J.wbr ?_ ?_
   ·refine J.b1W rfl rfl hX fun bx => ?_
    refine J.nil ?_
    refine J.front (.wown 43 .u8 32 (some ⟨bx, 0, none⟩) 1 1 S.gxX) ?_
    refine J.front (.blk bg [.slice none 0 0, .slice none 0 0] 25) ?_
    exact st18 (bx, bg, ()) _ _ _ ⟨rfl, rfl, rfl, trivial⟩ (by kernel_rfl) (by kernel_rfl) trivial inferInstance
   refine J.wbr ?_ ?_
   ·refine J.alloc rfl fun bi => ?_
    refine J.nil ?_
    refine J.front (.blk bi (ints .u8 (List.replicate 32 0)) 43) ?_
    refine J.front (.blk bg [.slice none 0 0, .slice none 0 0] 25) ?_
    exact st21 (bg, bi, ()) _ _ _ ⟨rfl, rfl, rfl, trivial⟩ (by kernel_rfl) (by kernel_rfl) trivial inferInstance
   exact J.wbr0
  refine J.wst (A := Nat × Unit) (fun p => [(8, .pointer (some ⟨p.1, 0, none⟩)), (33, .agg (ints .u8 S.gxX).toArray)]) [] (fun p => [.blk p.1 (ints .u8 (List.replicate 32 0)) 43, e0, e1, e2, e3, e4, .blk b2 (ints .u8 S.gxX) 43, .blk b1 (grC q1) 25]) (fun p => True) 12 (bs 14 1026) (fun p j hp => ?_) (fun st23 => ?_)
  ·obtain ⟨bi, _⟩ := p
   obtain _ := hp
   try dsimp only
   refine J.wnode [] [0, 2, 9] 11 (bs 14 1026) (by kernel_rfl) ?_
   refine run ?_
   refine J.nil ?_
   refine J.wbr ?_ ?_
   ·refine J.callp rfl rfl (fun w' M => dagNew w') ?_
    refine J.nil ?_
    exact st15 (bi, ()) _ _ _ ⟨rfl, rfl, rfl, trivial⟩ (by kernel_rfl) (by kernel_rfl) trivial inferInstance
   refine J.wbr ?_ ?_
   ·refine J.b1W rfl rfl hX fun bx => ?_
    refine J.nil ?_
    refine J.front (.wown 43 .u8 32 (some ⟨bx, 0, none⟩) 1 1 S.gxX) ?_
    refine J.front (.blk bi (ints .u8 (List.replicate 32 0)) 43) ?_
    exact st19 (bx, bi, ()) _ _ _ ⟨rfl, rfl, rfl, trivial⟩ (by kernel_rfl) (by kernel_rfl) trivial inferInstance
   refine J.wbr ?_ ?_
   ·refine J.alloc rfl fun bg => ?_
    refine J.nil ?_
    exact st21 (bg, bi, ()) _ _ _ ⟨rfl, rfl, rfl, trivial⟩ (by kernel_rfl) (by kernel_rfl) trivial inferInstance
   exact J.wbr0
  refine J.wnode [(1, .q)] [0, 2, 9, 10] 12 (bs 14 2) (by kernel_rfl) ?_
  refine run ?_
  refine J.nil ?_
  refine J.wbr ?_ ?_
  ·refine J.callp rfl rfl (fun w' M => dagNew w') ?_
   refine J.nil ?_
   exact st16 () _ _ _ ⟨rfl, rfl, trivial⟩ (by kernel_rfl) (by kernel_rfl) trivial inferInstance
  refine J.wbr ?_ ?_
  ·refine J.b1W rfl rfl hX fun bx => ?_
   refine J.nil ?_
   exact st20 (bx, ()) _ _ _ ⟨rfl, rfl, trivial⟩ (by kernel_rfl) (by kernel_rfl) trivial inferInstance
  refine J.wbr ?_ ?_
  ·refine J.alloc rfl fun bg => ?_
   refine J.nil ?_
   exact st22 (bg, ()) _ _ _ ⟨rfl, rfl, trivial⟩ (by kernel_rfl) (by kernel_rfl) trivial inferInstance
  refine J.wbr ?_ ?_
  ·refine J.alloc rfl fun bi => ?_
   refine J.nil ?_
   exact st23 (bi, ()) _ _ _ ⟨rfl, rfl, trivial⟩ (by kernel_rfl) (by kernel_rfl) trivial inferInstance
  exact J.wbr0
 rw [h0, h1, h2, h3, h4]
 refine run ?_
 refine J.joinX (A := Unit) (fun u => [(12, .int .i64 14)]) [10, 11, 40, 41, 42, 43, 44, 45, 46] (fun _ => [.blk b5 (ints .u8 S.gxY) 43, .blk b4 (grC q2) 25, .gown opC 11 54 q2.oa q2.n q2.oc q2.zs, .all (q2.zs.map (opE 43)), .wown 43 .u8 32 q2.ia q2.m q2.ic q2.ids, .blk b2 (ints .u8 S.gxX) 43, .blk b1 (grC q1) 25]) (fun _ => True) ?_ (fun _ j4 _ => ?_)
 ·refine J.regionW [.blk b4 (grC q2) 25] mixed ?_
  refine J.wst (A := GrA × Nat × Unit) (fun p => [(10, .pointer (some ⟨p.2.1, 0, none⟩)), (41, .agg (grC q2).toArray), (43, .tuple #[.agg (grC p.1).toArray, .agg (ints .u8 (List.replicate 32 0)).toArray, .int .i64 14]), (44, .agg (grC p.1).toArray), (45, .agg (ints .u8 (List.replicate 32 0)).toArray), (46, .int .i64 14)]) [40, 42] (fun p => [.blk p.2.1 [.slice none 0 0, .slice none 0 0] 25, .blk b5 (ints .u8 S.gxY) 43, .blk b4 (grC q2) 25, .gown opC 11 54 q2.oa q2.n q2.oc q2.zs, .all (q2.zs.map (opE 43)), .wown 43 .u8 32 q2.ia q2.m q2.ic q2.ids, .blk b2 (ints .u8 S.gxX) 43, .blk b1 (grC q1) 25]) (fun p => True) 4 (bs 12 255) (fun p j hp => ?_) (fun st0 => ?_)
  ·obtain ⟨q, bg, _⟩ := p
   obtain _ := hp
   try dsimp only
   refine J.wfin [(8, .e), (9, .e), (10, .e), (11, .q)] (by kernel_rfl) ?_
   refine run ?_
   refine J.alloc rfl fun bi => ?_
   refine run ?_
   refine run ?_
   refine run ?_
   exact J.cut () ⟨rfl, trivial⟩ (by kernel_rfl) trivial
  refine J.wst (A := GrA × Nat × Unit) (fun p => [(11, .pointer (some ⟨p.2.1, 0, none⟩)), (41, .agg (grC q2).toArray), (43, .tuple #[.agg (grC p.1).toArray, .agg (ints .u8 (List.replicate 32 0)).toArray, .int .i64 14]), (44, .agg (grC p.1).toArray), (45, .agg (ints .u8 (List.replicate 32 0)).toArray), (46, .int .i64 14)]) [40, 42] (fun p => [.blk p.2.1 (ints .u8 (List.replicate 32 0)) 43, .blk b5 (ints .u8 S.gxY) 43, .blk b4 (grC q2) 25, .gown opC 11 54 q2.oa q2.n q2.oc q2.zs, .all (q2.zs.map (opE 43)), .wown 43 .u8 32 q2.ia q2.m q2.ic q2.ids, .blk b2 (ints .u8 S.gxX) 43, .blk b1 (grC q1) 25]) (fun p => True) 4 (bs 12 383) (fun p j hp => ?_) (fun st1 => ?_)
  ·obtain ⟨q, bi, _⟩ := p
   obtain _ := hp
   try dsimp only
   refine J.wfin [(7, .e), (9, .e), (10, .e), (11, .q)] (by kernel_rfl) ?_
   refine run ?_
   refine J.alloc rfl fun bg => ?_
   refine run ?_
   refine run ?_
   refine run ?_
   exact J.cut () ⟨rfl, trivial⟩ (by kernel_rfl) trivial
  refine J.wst (A := GrA × Unit) (fun p => [(41, .agg (grC q2).toArray), (43, .tuple #[.agg (grC p.1).toArray, .agg (ints .u8 (List.replicate 32 0)).toArray, .int .i64 14])]) [42] (fun p => [.blk b5 (ints .u8 S.gxY) 43, .blk b4 (grC q2) 25, .gown opC 11 54 q2.oa q2.n q2.oc q2.zs, .all (q2.zs.map (opE 43)), .wown 43 .u8 32 q2.ia q2.m q2.ic q2.ids, .blk b2 (ints .u8 S.gxX) 43, .blk b1 (grC q1) 25]) (fun p => True) 9 (bs 12 7) (fun p j hp => ?_) (fun st2 => ?_)
  ·obtain ⟨q, _⟩ := p
   obtain _ := hp
   try dsimp only
   refine J.wnode [(3, .q), (4, .q), (5, .q), (6, .q)] [7, 8] 4 (bs 12 127) (by kernel_rfl) ?_
   refine run ?_
   refine J.nil ?_
   refine J.wbr ?_ ?_
   ·refine J.alloc rfl fun bg => ?_
    refine J.nil ?_
    exact st0 (q, bg, ()) _ _ _ ⟨rfl, rfl, rfl, rfl, rfl, rfl, trivial⟩ (by kernel_rfl) (by kernel_rfl) trivial inferInstance
   refine J.wbr ?_ ?_
   ·refine J.alloc rfl fun bi => ?_
    refine J.nil ?_
    exact st1 (q, bi, ()) _ _ _ ⟨rfl, rfl, rfl, rfl, rfl, rfl, trivial⟩ (by kernel_rfl) (by kernel_rfl) trivial inferInstance
   exact J.wbr0
  refine J.wst (A := GrA × Nat × Unit) (fun p => [(10, .pointer (some ⟨p.2.1, 0, none⟩)), (41, .agg (grC q2).toArray), (43, .tuple #[.agg (grC p.1).toArray, .agg (ints .u8 (List.replicate 32 0)).toArray, .int .i64 14])]) [42] (fun p => [.blk p.2.1 [.slice none 0 0, .slice none 0 0] 25, .blk b5 (ints .u8 S.gxY) 43, .blk b4 (grC q2) 25, .gown opC 11 54 q2.oa q2.n q2.oc q2.zs, .all (q2.zs.map (opE 43)), .wown 43 .u8 32 q2.ia q2.m q2.ic q2.ids, .blk b2 (ints .u8 S.gxX) 43, .blk b1 (grC q1) 25]) (fun p => True) 8 (bs 12 135) (fun p j hp => ?_) (fun st3 => ?_)
  ·obtain ⟨q, bg, _⟩ := p
   obtain _ := hp
   try dsimp only
   refine J.wfin [(3, .q), (4, .q), (5, .q), (6, .q), (8, .e), (9, .e), (10, .e), (11, .q)] (by kernel_rfl) ?_
   refine run ?_
   refine J.alloc rfl fun bi => ?_
   refine run ?_
   refine run ?_
   refine run ?_
   exact J.cut () ⟨rfl, trivial⟩ (by kernel_rfl) trivial
  refine J.wst (A := (Option Addr × Nat) × Nat × Nat × Unit) (fun p => [(10, .pointer (some ⟨p.2.1, 0, none⟩)), (11, .pointer (some ⟨p.2.2.1, 0, none⟩)), (41, .agg (grC q2).toArray), (42, .agg (opC ⟨S.gxO, p.1.1, p.1.2⟩).toArray)]) [] (fun p => [.blk p.2.1 [.slice none 0 0, .slice none 0 0] 25, .blk p.2.2.1 (ints .u8 (List.replicate 32 0)) 43, .wrow .u8 32 p.1.1 0 [], .blk b5 (ints .u8 S.gxY) 43, .blk b4 (grC q2) 25, .gown opC 11 54 q2.oa q2.n q2.oc q2.zs, .all (q2.zs.map (opE 43)), .wown 43 .u8 32 q2.ia q2.m q2.ic q2.ids, .blk b2 (ints .u8 S.gxX) 43, .blk b1 (grC q1) 25]) (fun p => True) 8 (bs 12 387) (fun p j hp => ?_) (fun st4 => ?_)
  ·obtain ⟨z, bg, bi, _⟩ := p
   obtain _ := hp
   try dsimp only
   refine J.wfin [(2, .e), (3, .q), (4, .q), (5, .q), (6, .q), (9, .e), (10, .e), (11, .q)] (by kernel_rfl) ?_
   refine run ?_
   refine J.call rfl rfl (cT q2 z K0 hk2 hu hm2) fun q hq => ?_
   refine run ?_
   refine run ?_
   refine run ?_
   exact J.cut () ⟨rfl, trivial⟩ (by kernel_rfl) trivial
  refine J.wst (A := (Option Addr × Nat) × Nat × Unit) (fun p => [(10, .pointer (some ⟨p.2.1, 0, none⟩)), (41, .agg (grC q2).toArray), (42, .agg (opC ⟨S.gxO, p.1.1, p.1.2⟩).toArray)]) [] (fun p => [.blk p.2.1 [.slice none 0 0, .slice none 0 0] 25, .wrow .u8 32 p.1.1 0 [], .blk b5 (ints .u8 S.gxY) 43, .blk b4 (grC q2) 25, .gown opC 11 54 q2.oa q2.n q2.oc q2.zs, .all (q2.zs.map (opE 43)), .wown 43 .u8 32 q2.ia q2.m q2.ic q2.ids, .blk b2 (ints .u8 S.gxX) 43, .blk b1 (grC q1) 25]) (fun p => True) 9 (bs 12 131) (fun p j hp => ?_) (fun st5 => ?_)
  ·obtain ⟨z, bg, _⟩ := p
   obtain _ := hp
   try dsimp only
   refine J.wnode [] [2, 8] 8 (bs 12 131) (by kernel_rfl) ?_
   refine run ?_
   refine J.nil ?_
   refine J.wbr ?_ ?_
   ·refine J.call rfl rfl (cT q2 z K0 hk2 hu hm2) fun q hq => ?_
    refine J.nil ?_
    exact st3 (q, bg, ()) _ _ _ ⟨rfl, rfl, rfl, trivial⟩ (by kernel_rfl) (by kernel_rfl) trivial inferInstance
   refine J.wbr ?_ ?_
   ·refine J.alloc rfl fun bi => ?_
    refine J.nil ?_
    refine J.front (.wrow .u8 32 z.1 0 []) ?_
    refine J.front (.blk bi (ints .u8 (List.replicate 32 0)) 43) ?_
    refine J.front (.blk bg [.slice none 0 0, .slice none 0 0] 25) ?_
    exact st4 (z, bg, bi, ()) _ _ _ ⟨rfl, rfl, rfl, rfl, trivial⟩ (by kernel_rfl) (by kernel_rfl) trivial inferInstance
   exact J.wbr0
  refine J.wst (A := GrA × Nat × Unit) (fun p => [(11, .pointer (some ⟨p.2.1, 0, none⟩)), (41, .agg (grC q2).toArray), (43, .tuple #[.agg (grC p.1).toArray, .agg (ints .u8 (List.replicate 32 0)).toArray, .int .i64 14])]) [42] (fun p => [.blk p.2.1 (ints .u8 (List.replicate 32 0)) 43, .blk b5 (ints .u8 S.gxY) 43, .blk b4 (grC q2) 25, .gown opC 11 54 q2.oa q2.n q2.oc q2.zs, .all (q2.zs.map (opE 43)), .wown 43 .u8 32 q2.ia q2.m q2.ic q2.ids, .blk b2 (ints .u8 S.gxX) 43, .blk b1 (grC q1) 25]) (fun p => True) 8 (bs 12 263) (fun p j hp => ?_) (fun st6 => ?_)
  ·obtain ⟨q, bi, _⟩ := p
   obtain _ := hp
   try dsimp only
   refine J.wfin [(3, .q), (4, .q), (5, .q), (6, .q), (7, .e), (9, .e), (10, .e), (11, .q)] (by kernel_rfl) ?_
   refine run ?_
   refine J.alloc rfl fun bg => ?_
   refine run ?_
   refine run ?_
   refine run ?_
   exact J.cut () ⟨rfl, trivial⟩ (by kernel_rfl) trivial
  refine J.wst (A := (Option Addr × Nat) × Nat × Unit) (fun p => [(11, .pointer (some ⟨p.2.1, 0, none⟩)), (41, .agg (grC q2).toArray), (42, .agg (opC ⟨S.gxO, p.1.1, p.1.2⟩).toArray)]) [] (fun p => [.blk p.2.1 (ints .u8 (List.replicate 32 0)) 43, .wrow .u8 32 p.1.1 0 [], .blk b5 (ints .u8 S.gxY) 43, .blk b4 (grC q2) 25, .gown opC 11 54 q2.oa q2.n q2.oc q2.zs, .all (q2.zs.map (opE 43)), .wown 43 .u8 32 q2.ia q2.m q2.ic q2.ids, .blk b2 (ints .u8 S.gxX) 43, .blk b1 (grC q1) 25]) (fun p => True) 9 (bs 12 259) (fun p j hp => ?_) (fun st7 => ?_)
  ·obtain ⟨z, bi, _⟩ := p
   obtain _ := hp
   try dsimp only
   refine J.wnode [] [2, 7] 8 (bs 12 259) (by kernel_rfl) ?_
   refine run ?_
   refine J.nil ?_
   refine J.wbr ?_ ?_
   ·refine J.call rfl rfl (cT q2 z K0 hk2 hu hm2) fun q hq => ?_
    refine J.nil ?_
    exact st6 (q, bi, ()) _ _ _ ⟨rfl, rfl, rfl, trivial⟩ (by kernel_rfl) (by kernel_rfl) trivial inferInstance
   refine J.wbr ?_ ?_
   ·refine J.alloc rfl fun bg => ?_
    refine J.nil ?_
    exact st4 (z, bg, bi, ()) _ _ _ ⟨rfl, rfl, rfl, rfl, trivial⟩ (by kernel_rfl) (by kernel_rfl) trivial inferInstance
   exact J.wbr0
  refine J.wst (A := (Option Addr × Nat) × Unit) (fun p => [(41, .agg (grC q2).toArray), (42, .agg (opC ⟨S.gxO, p.1.1, p.1.2⟩).toArray)]) [] (fun p => [.wrow .u8 32 p.1.1 0 [], .blk b5 (ints .u8 S.gxY) 43, .blk b4 (grC q2) 25, .gown opC 11 54 q2.oa q2.n q2.oc q2.zs, .all (q2.zs.map (opE 43)), .wown 43 .u8 32 q2.ia q2.m q2.ic q2.ids, .blk b2 (ints .u8 S.gxX) 43, .blk b1 (grC q1) 25]) (fun p => True) 10 (bs 12 3) (fun p j hp => ?_) (fun st8 => ?_)
  ·obtain ⟨z, _⟩ := p
   obtain _ := hp
   try dsimp only
   refine J.wnode [] [2, 7, 8] 9 (bs 12 3) (by kernel_rfl) ?_
   refine run ?_
   refine J.nil ?_
   refine J.wbr ?_ ?_
   ·refine J.call rfl rfl (cT q2 z K0 hk2 hu hm2) fun q hq => ?_
    refine J.nil ?_
    exact st2 (q, ()) _ _ _ ⟨rfl, rfl, trivial⟩ (by kernel_rfl) (by kernel_rfl) trivial inferInstance
   refine J.wbr ?_ ?_
   ·refine J.alloc rfl fun bg => ?_
    refine J.nil ?_
    exact st5 (z, bg, ()) _ _ _ ⟨rfl, rfl, rfl, trivial⟩ (by kernel_rfl) (by kernel_rfl) trivial inferInstance
   refine J.wbr ?_ ?_
   ·refine J.alloc rfl fun bi => ?_
    refine J.nil ?_
    exact st7 (z, bi, ()) _ _ _ ⟨rfl, rfl, rfl, trivial⟩ (by kernel_rfl) (by kernel_rfl) trivial inferInstance
   exact J.wbr0
  refine J.wst (A := Nat × Nat × Unit) (fun p => [(10, .pointer (some ⟨p.1, 0, none⟩)), (11, .pointer (some ⟨p.2.1, 0, none⟩)), (41, .agg (grC q2).toArray)]) [] (fun p => [.blk p.1 [.slice none 0 0, .slice none 0 0] 25, .blk p.2.1 (ints .u8 (List.replicate 32 0)) 43, .blk b5 (ints .u8 S.gxY) 43, .blk b4 (grC q2) 25, .gown opC 11 54 q2.oa q2.n q2.oc q2.zs, .all (q2.zs.map (opE 43)), .wown 43 .u8 32 q2.ia q2.m q2.ic q2.ids, .blk b2 (ints .u8 S.gxX) 43, .blk b1 (grC q1) 25]) (fun p => True) 9 (bs 12 385) (fun p j hp => ?_) (fun st9 => ?_)
  ·obtain ⟨bg, bi, _⟩ := p
   obtain _ := hp
   try dsimp only
   refine J.wfin [(1, .e), (2, .e), (3, .q), (4, .q), (5, .q), (6, .q), (9, .e), (10, .e), (11, .q)] (by kernel_rfl) ?_
   refine run ?_
   refine J.call rfl rfl (fun w' M => sgA TK w' (K0.ext M.ext)) fun z hz => ?_
   refine run ?_
   refine J.call rfl rfl (cT q2 z K0 hk2 hu hm2) fun q hq => ?_
   refine run ?_
   refine run ?_
   refine run ?_
   exact J.cut () ⟨rfl, trivial⟩ (by kernel_rfl) trivial
  refine J.wst (A := Nat × Unit) (fun p => [(10, .pointer (some ⟨p.1, 0, none⟩)), (41, .agg (grC q2).toArray)]) [] (fun p => [.blk p.1 [.slice none 0 0, .slice none 0 0] 25, .blk b5 (ints .u8 S.gxY) 43, .blk b4 (grC q2) 25, .gown opC 11 54 q2.oa q2.n q2.oc q2.zs, .all (q2.zs.map (opE 43)), .wown 43 .u8 32 q2.ia q2.m q2.ic q2.ids, .blk b2 (ints .u8 S.gxX) 43, .blk b1 (grC q1) 25]) (fun p => True) 10 (bs 12 129) (fun p j hp => ?_) (fun st10 => ?_)
  ·obtain ⟨bg, _⟩ := p
   obtain _ := hp
   try dsimp only
   refine J.wnode [] [1, 8] 9 (bs 12 129) (by kernel_rfl) ?_
   refine run ?_
   refine J.nil ?_
   refine J.wbr ?_ ?_
   ·refine J.call rfl rfl (fun w' M => sgA TK w' (K0.ext M.ext)) fun z hz => ?_
    refine J.nil ?_
    refine J.front (.wrow .u8 32 z.1 0 []) ?_
    refine J.front (.blk bg [.slice none 0 0, .slice none 0 0] 25) ?_
    exact st5 (z, bg, ()) _ _ _ ⟨rfl, rfl, rfl, trivial⟩ (by kernel_rfl) (by kernel_rfl) trivial inferInstance
   refine J.wbr ?_ ?_
   ·refine J.alloc rfl fun bi => ?_
    refine J.nil ?_
    refine J.front (.blk bi (ints .u8 (List.replicate 32 0)) 43) ?_
    refine J.front (.blk bg [.slice none 0 0, .slice none 0 0] 25) ?_
    exact st9 (bg, bi, ()) _ _ _ ⟨rfl, rfl, rfl, trivial⟩ (by kernel_rfl) (by kernel_rfl) trivial inferInstance
   exact J.wbr0
  refine J.wst (A := Nat × Unit) (fun p => [(11, .pointer (some ⟨p.1, 0, none⟩)), (41, .agg (grC q2).toArray)]) [] (fun p => [.blk p.1 (ints .u8 (List.replicate 32 0)) 43, .blk b5 (ints .u8 S.gxY) 43, .blk b4 (grC q2) 25, .gown opC 11 54 q2.oa q2.n q2.oc q2.zs, .all (q2.zs.map (opE 43)), .wown 43 .u8 32 q2.ia q2.m q2.ic q2.ids, .blk b2 (ints .u8 S.gxX) 43, .blk b1 (grC q1) 25]) (fun p => True) 10 (bs 12 257) (fun p j hp => ?_) (fun st11 => ?_)
  ·obtain ⟨bi, _⟩ := p
   obtain _ := hp
   try dsimp only
   refine J.wnode [] [1, 7] 9 (bs 12 257) (by kernel_rfl) ?_
   refine run ?_
   refine J.nil ?_
   refine J.wbr ?_ ?_
   ·refine J.call rfl rfl (fun w' M => sgA TK w' (K0.ext M.ext)) fun z hz => ?_
    refine J.nil ?_
    refine J.front (.wrow .u8 32 z.1 0 []) ?_
    refine J.front (.blk bi (ints .u8 (List.replicate 32 0)) 43) ?_
    exact st7 (z, bi, ()) _ _ _ ⟨rfl, rfl, rfl, trivial⟩ (by kernel_rfl) (by kernel_rfl) trivial inferInstance
   refine J.wbr ?_ ?_
   ·refine J.alloc rfl fun bg => ?_
    refine J.nil ?_
    exact st9 (bg, bi, ()) _ _ _ ⟨rfl, rfl, rfl, trivial⟩ (by kernel_rfl) (by kernel_rfl) trivial inferInstance
   exact J.wbr0
  refine J.wnode [(0, .q)] [1, 7, 8] 10 (bs 12 1) (by kernel_rfl) ?_
  refine run ?_
  refine J.nil ?_
  refine J.wbr ?_ ?_
  ·refine J.call rfl rfl (fun w' M => sgA TK w' (K0.ext M.ext)) fun z hz => ?_
   refine J.nil ?_
   exact st8 (z, ()) _ _ _ ⟨rfl, rfl, trivial⟩ (by kernel_rfl) (by kernel_rfl) trivial inferInstance
  refine J.wbr ?_ ?_
  ·refine J.alloc rfl fun bg => ?_
   refine J.nil ?_
   exact st10 (bg, ()) _ _ _ ⟨rfl, rfl, trivial⟩ (by kernel_rfl) (by kernel_rfl) trivial inferInstance
  refine J.wbr ?_ ?_
  ·refine J.alloc rfl fun bi => ?_
   refine J.nil ?_
   exact st11 (bi, ()) _ _ _ ⟨rfl, rfl, trivial⟩ (by kernel_rfl) (by kernel_rfl) trivial inferInstance
  exact J.wbr0
 refine run ?_
 have hc2 : S.chkG q2.m q2.ids q2.ops = 0 := by rw [hu.m, hu.ids, hu.ops]; exact S.gx_chkH
 have hi2 : S.inS q2.m q2.ids S.gxY := by rw [hu.m, hu.ids]; exact S.gx_inY
 refine J.callp rfl rfl (fun w' M => dagHas q2 S.gxY TK w' (K0.ext M.ext) (GrR.own hk2 hu.cap hm2 w' M) hY) ?_
 rw [show decide (S.chkG q2.m q2.ids q2.ops = 0 ∧ S.inS q2.m q2.ids S.gxY) = true from decide_eq_true ⟨hc2, hi2⟩, hc2]
 refine run ?_
 refine J.spe rfl rfl rfl (fun _ => ?_) (fun c => absurd (by have := hq1.m; have := S.gx_m1; omega) c)
 refine run ?_
 refine J.spe rfl rfl rfl (fun _ => ?_) (fun c => absurd (by have := hu.m; have := S.gx_m2; omega) c)
 refine run ?_
 exact J.fin rfl
theorem lawFit {S0 : Nat → Prop} (g : GrA) (w : World) (G : GrI S0 w g) :
  Calls Tryz.prog 28 #[.agg (grC g).toArray] w (Gv w (fun q : Bool => .bool q) (fun _ => []) fun q => q = true → GrSm g ∧ S.chkG g.m g.ids g.ops = 0) := by
 refine J.enter 10 Tryz.func28 rfl rfl ?_
 refine run ?_
 refine J.box rfl rfl rfl fun b1 => ?_
 refine run ?_
 refine J.call rfl rfl (fun w' M => refGreat g w' (G.ext M.ext)) fun q hq => ?_
 refine run ?_
 refine J.spt rfl rfl rfl (fun c => ?_) (fun c => ?_)
 ·have G := G.gr (hq c)
  refine run ?_
  refine J.callp rfl rfl (fun w' M => refCheck g w' (G.ext M.ext)) ?_
  refine run ?_
  exact J.finG (S.chkG g.m g.ids g.ops == 0) rfl (fun h => ⟨hq c, by simpa using h⟩) (List.nil_sublist _)
 refine run ?_
 exact J.finG false rfl (fun h => by cases h) (List.nil_sublist _)
instance : Ents Tryz.prog 28 := ⟨.mk Tryz.func28 (by kernel_rfl) rfl⟩
instance : Ents Tryz.prog 30 := ⟨.mk Tryz.func30 (by kernel_rfl) rfl⟩
instance : Ents Tryz.prog 43 := ⟨.mk Tryz.func43 (by kernel_rfl) rfl⟩
instance : Ents Tryz.prog 45 := ⟨.mk Tryz.func45 (by kernel_rfl) rfl⟩
theorem lawUnion {S0 S1 : Nat → Prop} (g h : GrA) (x : List Int) (TK : TypeId) (w : World) (K0 : Kst w TK) (G : GrI S0 w g) (H : GrI S1 w h) (hx : Arr .u8 32 x) :
  Calls Tryz.prog 8 #[.agg (grC g).toArray, .agg (grC h).toArray, .agg (ints .u8 x).toArray] w (Ret w fun v _ => v = .bool true) := by
 refine J.enter 189 Tryz.func8 rfl rfl ?_
 refine run ?_
 refine J.box rfl rfl rfl fun b1 => ?_
 refine J.box rfl rfl rfl fun b2 => ?_
 refine J.box rfl rfl rfl fun b3 => ?_
 refine run ?_
 refine J.call rfl rfl (fun w' M => lawFit g w' (G.ext M.ext)) fun q1 hq1 => ?_
 refine run ?_
 refine J.spt rfl rfl rfl (fun c1 => ?_) (fun c1 => ?_)
 ·refine run ?_
  refine J.callp rfl rfl (fun w' M => dagAlive TK w' (K0.ext M.ext)) ?_
  refine run ?_
  exact J.fin rfl
 refine run ?_
 refine J.call rfl rfl (fun w' M => lawFit h w' (H.ext M.ext)) fun q2 hq2 => ?_
 refine run ?_
 refine J.ifnot rfl (fun c2 => ?_) (fun c2 => ?_)
 ·refine run ?_
  refine J.callp rfl rfl (fun w' M => dagAlive TK w' (K0.ext M.ext)) ?_
  refine run ?_
  exact J.fin rfl
 obtain ⟨s1, k1⟩ := hq1 c1
 obtain ⟨s2, k2⟩ := hq2 c2
 have G := G.gr s1
 have H := H.gr s2
 have hlg := G.ids.len
 have hlh := H.ids.len
 have hcp := G.cap
 have hcp1 := H.cap
 have fg : g.P.fine := (S.chkP_fine hlg).1 k1
 have fh : h.P.fine := (S.chkP_fine hlh).1 k2
 have z1 : ¬ (16 < g.P.ops.length ∧ g.P.ops.length ≤ 60) := by have := s1.2.2.1; rw [← G.len] at this; exact this
 have z2 : ¬ (16 < h.P.ops.length ∧ h.P.ops.length ≤ 60) := by have := s2.2.2.1; rw [← H.len] at this; exact this
 obtain ⟨e0, p0⟩ := S.uni_self fg
 have sz := uniP_size (a := g.P) (b := h.P) hlg hlh
 have sz0 := uniP_size (a := g.P) (b := g.P) hlg hlg
 have ok := uniP_ok (a := g.P) (b := h.P) G.opz H.zok
 have ok0 := uniP_ok (a := g.P) (b := g.P) G.opz G.zok
 refine run ?_
 refine J.call rfl rfl (fun w' M => dagUnion g h TK w' (K0.ext M.ext) (G.ext M.ext) (H.ext M.ext) (uni_16 (a := g.P) (b := h.P) hlg hlh z1 z2)) fun qa hqa => ?_
 dsimp only [grE, List.cons_append, List.nil_append]
 refine run ?_
 refine J.alloc rfl fun b4 => ?_
 refine run ?_
 refine J.call rfl rfl (fun w' M => dagUnion h g TK w' (K0.ext M.ext) (H.ext M.ext) (G.ext M.ext) (uni_16 (a := h.P) (b := g.P) hlh hlg z2 z1)) fun qb hqb => ?_
 dsimp only [grE, List.cons_append, List.nil_append]
 rw [← S.uniP_comm fg fh] at hqb
 rw [← S.uniE_comm fg fh]
 refine run ?_
 refine J.alloc rfl fun b5 => ?_
 refine run ?_
 refine J.call rfl rfl (fun w' M => dagUnion g g TK w' (K0.ext M.ext) (G.ext M.ext) (G.ext M.ext) (uni_16 (a := g.P) (b := g.P) hlg hlg z1 z1)) fun qo hqo => ?_
 dsimp only [grE, List.cons_append, List.nil_append]
 rw [e0]
 refine run ?_
 refine J.alloc rfl fun b6 => ?_
 refine run ?_
 refine J.callp rfl rfl (fun w' M => refGSame qo g w' (GrR.own (hqo.ok ok0) hqo.cap (hqo.sz sz0) w' M) (G.ext M.ext)) ?_
 refine run ?_
 refine J.spt rfl rfl rfl (fun c => absurd ⟨by rw [hqo.ids, p0], by rw [hqo.ops, p0]⟩ (of_decide_eq_false c)) (fun _ => ?_)
 refine run ?_
 refine J.ifn rfl (fun c => absurd rfl c) (fun _ => ?_)
 refine run ?_
 refine J.ifn rfl (fun c3 => ?_) (fun c3 => ?_)
 ·rcases S.uniE_or fg fh c3 with e | e
  ·rw [e]
   refine run ?_
   refine J.callp rfl rfl (fun w' M => dagAlive TK w' (K0.ext M.ext)) ?_
   refine run ?_
   exact J.fin rfl
  rw [e]
  refine run ?_
  refine J.callp rfl rfl (fun w' M => dagAlive TK w' (K0.ext M.ext)) ?_
  refine run ?_
  exact J.fin rfl
 have fU := S.uniP_fine hlg hlh c3
 have eU := S.uniP_yes c3
 have inU : ∀ y, S.inS (S.uniP g.P h.P).m (S.uniP g.P h.P).ids y ↔ S.inS g.m g.ids y ∨ S.inS h.m h.ids y := fun y => by
  rw [eU]
  exact S.uni_in' fg.good fg.rising hlh y
 have pa := GrP.P (P := S.uniP g.P h.P) hqa
 have pb := GrP.P (P := S.uniP g.P h.P) hqb
 have ca : S.chkG qa.m qa.ids qa.ops = 0 := by rw [hqa.m, hqa.ids, hqa.ops]; exact (S.chkP_fine fU.good.1).2 fU
 have ina : ∀ y, S.inS qa.m qa.ids y ↔ S.inS g.m g.ids y ∨ S.inS h.m h.ids y := fun y => by rw [hqa.m, hqa.ids]; exact inU y
 have da : decide (S.chkG qa.m qa.ids qa.ops = 0 ∧ S.inS qa.m qa.ids x) = decide (S.inS g.m g.ids x ∨ S.inS h.m h.ids x) := decide_eq_decide.2 ⟨fun k => (ina x).1 k.2, fun k => ⟨ca, (ina x).2 k⟩⟩
 have dg : decide (S.chkG g.m g.ids g.ops = 0 ∧ S.inS g.m g.ids x) = decide (S.inS g.m g.ids x) := decide_eq_decide.2 ⟨fun k => k.2, fun k => ⟨k1, k⟩⟩
 have dh : decide (S.chkG h.m h.ids h.ops = 0 ∧ S.inS h.m h.ids x) = decide (S.inS h.m h.ids x) := decide_eq_decide.2 ⟨fun k => k.2, fun k => ⟨k2, k⟩⟩
 have v1 : S.eqE (S.uniP g.P h.P) (S.uniP g.P h.P) = 0 := S.eqE_fine fU fU
 have v2 : S.eqB (S.uniP g.P h.P) (S.uniP g.P h.P) = true := by rw [S.eqB_yes v1]; exact decide_eq_true ⟨rfl, rfl⟩
 have v3 : S.eqE (S.uniP g.P h.P) g.P = 0 := S.eqE_fine fU fg
 have v4 : S.eqB (S.uniP g.P h.P) g.P = decide (S.allI g.m g.ids h.m h.ids) := by
  rw [S.eqB_yes v3]
  refine decide_eq_decide.2 ((S.eqP_iff fU.good fg.good).trans ?_)
  rw [eU]
  exact S.uniN_whole fg.good fg.rising hlh
 have a1 : S.allI qa.m qa.ids g.m g.ids := fun j hj => (ina _).2 (.inl ⟨j, hj, rfl⟩)
 have a2 : S.allI qa.m qa.ids h.m h.ids := fun j hj => (ina _).2 (.inr ⟨j, hj, rfl⟩)
 have sza := hqa.sz sz
 have szb := hqb.sz sz
 refine run ?_
 refine J.callp rfl rfl (fun w' M => dagHas qa x TK w' (K0.ext M.ext) (GrR.own (hqa.ok ok) hqa.cap sza w' M) hx) ?_
 rw [da, ca]
 refine run ?_
 refine J.callp rfl rfl (fun w' M => dagHas g x TK w' (K0.ext M.ext) (G.ext M.ext) hx) ?_
 rw [dg, k1]
 refine run ?_
 refine J.callp rfl rfl (fun w' M => dagHas h x TK w' (K0.ext M.ext) (H.ext M.ext) hx) ?_
 rw [dh, k2]
 refine run ?_
 refine J.callp rfl rfl (fun w' M => dagEqual qa qb TK w' (K0.ext M.ext) (GrR.own (hqa.ok ok) hqa.cap sza w' M) (GrR.own (hqb.ok ok) hqb.cap szb w' M)) ?_
 rw [pa, pb, v1, v2]
 refine run ?_
 refine J.callp rfl rfl (fun w' M => dagEqual qa g TK w' (K0.ext M.ext) (GrR.own (hqa.ok ok) hqa.cap sza w' M) (G.ext M.ext)) ?_
 rw [pa, v3, v4]
 refine J.drop (E := [.blk b5 (grC qb) 25, .gown opC 11 54 qb.oa qb.n qb.oc qb.zs, .all (qb.zs.map (opE 43)), .wown 43 .u8 32 qb.ia qb.m qb.ic qb.ids, .blk b4 (grC qa) 25, .gown opC 11 54 qa.oa qa.n qa.oc qa.zs, .all (qa.zs.map (opE 43)), .wown 43 .u8 32 qa.ia qa.m qa.ic qa.ids, .blk b3 (ints .u8 x) 43, .blk b2 (grC h) 25, .blk b1 (grC g) 25]) (by repeat (first | exact List.nil_sublist _ | refine List.Sublist.cons_cons _ ?_ | refine List.Sublist.cons _ ?_)) ?_
 refine J.mv rfl ?_
 refine J.ex rfl rfl ?_
 refine J.ex rfl rfl ?_
 refine J.as rfl ?_
 refine J.as rfl ?_
 refine J.nilN ?_
 refine J.thn ?_
 refine J.sq ?_
 refine J.joinX (A := Bool) (fun u => [(149, .bool u)]) [105, 106, 107, 108, 109, 110, 111, 112, 113, 114, 115, 116, 117, 118, 119, 120, 121, 122, 123, 124, 125, 126, 127, 128, 129, 130, 131, 132, 133, 134, 135, 136, 137, 138, 139, 140, 141, 142, 143, 144, 145, 146, 147, 148] (fun _ => [.blk b5 (grC qb) 25, .gown opC 11 54 qb.oa qb.n qb.oc qb.zs, .all (qb.zs.map (opE 43)), .wown 43 .u8 32 qb.ia qb.m qb.ic qb.ids, .blk b4 (grC qa) 25, .gown opC 11 54 qa.oa qa.n qa.oc qa.zs, .all (qa.zs.map (opE 43)), .wown 43 .u8 32 qa.ia qa.m qa.ic qa.ids, .blk b3 (ints .u8 x) 43, .blk b2 (grC h) 25, .blk b1 (grC g) 25]) (fun u => u = false) ?_ (fun u j2 hu => ?_)
 ·refine run ?_
  refine J.spd rfl rfl rfl (fun d1 => ?_) (fun d1 => ?_)
  ·refine run ?_
   refine J.sp rfl rfl rfl (fun c => by simp [d1] at c) (fun _ => ?_)
   refine run ?_
   refine J.callp rfl rfl (fun w' M => refGSame qa qb w' (GrR.own (hqa.ok ok) hqa.cap sza w' M) (GrR.own (hqb.ok ok) hqb.cap szb w' M)) ?_
   refine run ?_
   refine J.spt rfl rfl rfl (fun c => absurd ⟨hqa.ids.trans hqb.ids.symm, hqa.ops.trans hqb.ops.symm⟩ (of_decide_eq_false c)) (fun _ => ?_)
   refine run ?_
   refine J.callp rfl rfl (fun w' M => refAll _ _ _ _ _ _ _ _ w' (G.ids.ext M.ext) (H.ids.ext M.ext) (by omega) (by omega)) ?_
   refine run ?_
   refine J.ifb rfl (fun c => by simp at c) (fun _ => ?_)
   refine run ?_
   exact J.cut _ ⟨rfl, trivial⟩ (by kernel_rfl) (by simp)
  refine run ?_
  refine J.sp rfl rfl rfl (fun c => by simp [d1] at c) (fun _ => ?_)
  refine run ?_
  refine J.callp rfl rfl (fun w' M => refGSame qa qb w' (GrR.own (hqa.ok ok) hqa.cap sza w' M) (GrR.own (hqb.ok ok) hqb.cap szb w' M)) ?_
  refine run ?_
  refine J.spt rfl rfl rfl (fun c => absurd ⟨hqa.ids.trans hqb.ids.symm, hqa.ops.trans hqb.ops.symm⟩ (of_decide_eq_false c)) (fun _ => ?_)
  refine run ?_
  refine J.callp rfl rfl (fun w' M => refAll _ _ _ _ _ _ _ _ w' (G.ids.ext M.ext) (H.ids.ext M.ext) (by omega) (by omega)) ?_
  refine run ?_
  refine J.ifb rfl (fun c => by simp at c) (fun _ => ?_)
  refine run ?_
  exact J.cut _ ⟨rfl, trivial⟩ (by kernel_rfl) (by simp)
 subst hu
 refine run ?_
 refine J.callp rfl rfl (fun w' M => (RW.own' (a := qa.ia) w' M).elim fun _ k0 => refAll _ _ _ _ _ _ _ _ w' k0 (G.ids.ext M.ext) (by omega) (by omega)) ?_
 refine run ?_
 refine J.spt rfl rfl rfl (fun c => absurd a1 (of_decide_eq_false c)) (fun _ => ?_)
 refine run ?_
 refine J.callp rfl rfl (fun w' M => (RW.own' (a := qa.ia) w' M).elim fun _ k0 => refAll _ _ _ _ _ _ _ _ w' k0 (H.ids.ext M.ext) (by omega) (by omega)) ?_
 refine run ?_
 refine J.ifnot rfl (fun c => absurd a2 (of_decide_eq_false c)) (fun _ => ?_)
 refine run ?_
 refine J.loopS (A := Int) (fun p => [(23, .int .i64 p)]) [6, 164, 165, 166, 167, 168, 169, 170, 171, 172, 173, 174, 175, 176, 177, 178, 179, 180, 181, 182, 183, 184, 185, 186, 187, 188, 189, 190] (fun p => 0 ≤ p ∧ p ≤ qa.m) (fun p => qa.m - p.toNat) 0 (by kernel_rfl) ⟨by omega, by omega⟩ (fun p j hI => ?_)
 refine run ?_
 refine J.ifd rfl (fun d1 => ?_) (fun d1 => ?_)
 ·refine J.fact (.wown 43 .u8 32 qa.ia qa.m qa.ic qa.ids) (fun _ _ h => (wown_row h).elt_arr (i := p.toNat) (by omega)) fun hA => ?_
  have hin := (ina (elt 32 qa.ids p.toNat)).1 ⟨p.toNat, by omega, rfl⟩
  refine run ?_
  refine J.regionX [(0, .q), (1, .q), (2, .q), (3, .q), (4, .q), (5, .q), (6, .q), (7, .e), (8, .q), (9, .q), (10, .q), (11, .q), (12, .q), (13, .q), (14, .q), (15, .q), (16, .q), (17, .e), (18, .q), (19, .q)] mixed (by kernel_rfl) ?_
  refine run ?_
  refine J.callp rfl rfl (fun w' M => refAt _ _ _ _ _ w' (G.ids.ext M.ext) hA (by omega)) ?_
  refine run ?_
  refine J.spd rfl rfl rfl (fun d2 => ?_) (fun d2 => ?_)
  ·refine run ?_
   refine J.callp rfl rfl (fun w' M => refAt _ _ _ _ _ w' (H.ids.ext M.ext) hA (by omega)) ?_
   refine run ?_
   refine J.ifd rfl (fun d3 => absurd hin (not_or.2 ⟨S.at_neg.1 d2, S.at_neg.1 d3⟩)) (fun _ => ?_)
   refine run ?_
   exact J.nextS (p + 1) ⟨rfl, trivial⟩ (by kernel_rfl) ⟨by omega, by omega⟩ (by omega)
  refine run ?_
  exact J.nextS (p + 1) ⟨rfl, trivial⟩ (by kernel_rfl) ⟨by omega, by omega⟩ (by omega)
 refine run ?_
 refine J.callp rfl rfl (fun w' M => dagAlive TK w' (K0.ext M.ext)) ?_
 refine run ?_
 exact J.fin rfl
end Go.Proofs.YtakbhjagiofbgaaGreatDoor.W
