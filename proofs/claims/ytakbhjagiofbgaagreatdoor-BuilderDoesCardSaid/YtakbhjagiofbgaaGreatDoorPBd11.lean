/-
  Part 11 of the lemmas of these laws: BuilderDoes.
-/
import Derived.Test.YtakbhjagiofbgaaGreatDoorPBd10
set_option linter.unusedSimpArgs false
namespace Go.Proofs.YtakbhjagiofbgaaGreatDoor.W
open Go.RowKit Go.Proofs.YtakbhjagiofbgaaGreatDoor.G
set_option linter.unusedVariables false
set_option linter.unusedSimpArgs false
set_option maxRecDepth 20000
set_option maxHeartbeats 8000000
attribute [local irreducible] RS RX RY Code.wp bodyPost J Ent.blk Ent.irow Ent.iown Ent.wrow Ent.wown Ent.grow Ent.gown Ent.all Ent.emp
instance : Fld Tryz.prog 25 1 1 := ⟨_, _, 1, Tryz.underlying25, rfl, by kernel_rfl, by decide, rfl⟩
instance : Sca Tryz.prog 23 := ⟨_, Tryz.underlying23, rfl⟩
instance : Und Tryz.prog 23 (.slice 54) := ⟨Tryz.underlying23⟩
instance : Und Tryz.prog 76 (.slice 3) := ⟨Tryz.underlying76⟩
instance : Inf Tryz.prog 3 1 8 [.int .i64 0] := ⟨TI.of (v := .int .i64 0) (by kernel_rfl) rfl⟩
instance : Siz Tryz.prog 3 1 := ⟨by kernel_rfl⟩
instance : Und Tryz.prog 269 (.slice 76) := ⟨Tryz.underlying269⟩
instance : Inf Tryz.prog 76 1 24 [.slice none 0 0] := ⟨TI.of (v := .slice none 0 0) (by kernel_rfl) rfl⟩
instance : Siz Tryz.prog 76 1 := ⟨by kernel_rfl⟩
instance : Siz Tryz.prog 54 11 := ⟨by kernel_rfl⟩
instance : Agg Tryz.prog 54 11 := ⟨_, Tryz.underlying54, rfl, by kernel_rfl⟩
instance : Inf Tryz.prog 54 11 112 [.int .u32 0, .slice none 0 0, .int .u64 0, .int .u8 0, .string .empty, .int .u8 0, .int .i64 0, .int .u64 0, .string .empty, .int .u32 0, .int .u32 0] := ⟨TI.of (v := .agg #[.int .u32 0, .slice none 0 0, .int .u64 0, .int .u8 0, .string .empty, .int .u8 0, .int .i64 0, .int .u64 0, .string .empty, .int .u32 0, .int .u32 0]) (by kernel_rfl) rfl⟩
instance : Fld Tryz.prog 54 1 1 := ⟨_, _, 1, Tryz.underlying54, rfl, by kernel_rfl, by decide, rfl⟩
instance : Inf Tryz.prog 43 32 32 (ints .u8 (List.replicate 32 0)) := ⟨TI.of (v := .agg ((ints .u8 (List.replicate 32 0))).toArray) (by kernel_rfl) rfl⟩
instance : Ents Tryz.prog 119 := ⟨.mk Tryz.func119 (by kernel_rfl) rfl⟩
instance : Sca Tryz.prog 76 := ⟨_, Tryz.underlying76, rfl⟩
instance : Sca Tryz.prog 3 := ⟨_, Tryz.underlying3, rfl⟩
structure ShP where
 (i : Int) (ws rs : List Int) (qs : List Pc) (a : Option Addr) (n c : Nat)
theorem dagShape {S0 : Nat → Prop} (g : GrA) (w : World) (G : GrR S0 w g) (he : g.m = g.n) (hn : g.n ≤ 60) :
  Calls Tryz.prog 120 #[.agg (grC g).toArray] w (Ret w fun v _ => v = .int .i64 (S.shapeS g.m g.ids g.ops)) := by
 have D0 := G.ids
 have G0 := G.ops
 have hl := G.len
 obtain ⟨P, hP⟩ := ex (S.prS g.m g.ids g.ops)
 have hPl : ∀ i, (P i).length = (g.ops.getD i S.OpV.zero).n := fun i => by rw [hP, S.prS_len]
 have hPg : ∀ i j, j < (g.ops.getD i S.OpV.zero).n → (P i).getD j 0 = S.ixS g.m g.ids (S.idAt (g.ops.getD i S.OpV.zero).ids j) := fun i j h => by rw [hP, S.prS_get _ _ _ _ _ h]
 have hn20 : ∀ i, (g.ops.getD i S.OpV.zero).n ≤ 40 := fun i => by
  rw [List.getD_eq_getElem?_getD]
  cases h : g.ops[i]? with
  | none => exact Nat.zero_le _
  | some o =>
   unfold GrA.ops at h
   rw [List.getElem?_map] at h
   obtain ⟨z, hz, rfl⟩ := Option.map_eq_some_iff.1 h
   exact (G.ok z (List.mem_of_getElem? hz)).n
 refine J.enter 132 Tryz.func120 rfl rfl ?_
 refine run ?_
 refine J.box rfl rfl rfl fun b1 => ?_
 refine run ?_
 refine J.loopS (A := Int) (fun p => [(3, .int .i64 p)]) [2, 16, 17, 18, 19, 20, 21, 22, 23, 24, 25, 26, 27, 28, 29, 30, 31, 32, 33, 34, 35] (fun p => 1 ≤ p ∧ (p ≤ g.m ∨ p = 1) ∧ S.RisS g.ids p.toNat) (fun p => (g.m + 1 - p).toNat) 1 (by kernel_rfl) ⟨by decide, .inr rfl, fun k hk => by omega⟩ (fun p j hI => ?_)
 obtain ⟨h1, h2, h3⟩ := hI
 refine run ?_
 refine J.ifd rfl (fun c1 => ?_) (fun c1 => ?_)
 ·refine run ?_
  refine J.regionX [(0, .q), (1, .q), (2, .q), (3, .q), (4, .q), (5, .q), (6, .q), (7, .q), (8, .q), (9, .q), (10, .q), (11, .e), (12, .q)] mixed (by kernel_rfl) ?_
  refine run ?_
  refine J.callp rfl rfl (fun w' M => dcmp _ _ (D0.elt_arr (by omega)) (D0.elt_arr (by omega)) w') ?_
  refine run ?_
  have e : p.toNat = (p - 1).toNat + 1 := by omega
  refine J.ifd rfl (fun c2 => ?_) (fun c2 => ?_)
  ·refine run ?_
   refine J.fin ?_
   rw [S.shape_32 (i := (p - 1).toNat) (by omega) (by rw [e] at c2; exact c2)]
  refine run ?_
  refine J.nextS (p + 1) ⟨rfl, trivial⟩ (by kernel_rfl) ⟨by omega, .inl (by omega), fun k hk => ?_⟩ (by omega)
  by_cases hk2 : k + 1 < p.toNat
  ·exact h3 k hk2
  obtain rfl : k = (p - 1).toNat := by omega
  rw [e] at c2
  exact Int.not_le.1 c2
 have hr : S.Rising g.m g.ids := fun i hi => h3 i (by omega)
 refine run ?_
 refine J.mkI rfl rfl rfl fun bw => ?_
 refine run ?_
 refine J.mkG pcC default (fun _ => rfl) rfl rfl rfl rfl fun bb => ?_
 refine run ?_
 refine J.nilI 3 .i64 ?_
 refine J.newA ((List.replicate g.n default).map (pcE 3 .i64)) ?_ fun w => sep_nils _ _ _ _
 refine J.loop (A := ShP) (fun p => [(6, .slice p.a p.n p.c), (47, .int .i64 p.i)]) [2, 7, 8, 10, 11, 12, 48, 49, 50, 51, 52, 53, 54, 55, 56, 57, 58, 59, 60, 61, 62, 63, 64, 65, 66, 67, 68, 69, 70, 71, 72, 73, 74, 75, 76, 77, 78, 79, 80, 81, 82, 83, 84, 85, 86, 87, 88, 89, 90, 91, 92, 93] (fun p => [.all (p.qs.map (pcE 3 .i64)), .iown 3 .i64 p.a p.n p.c p.rs, .gown pcC 1 76 (some ⟨bb, 0, none⟩) g.n g.n p.qs, .iown 3 .i64 (some ⟨bw, 0, none⟩) g.n g.n p.ws, .blk b1 (grC g) 25])
  (fun p => (0 ≤ p.i ∧ p.i ≤ g.n) ∧ S.ShQ P g.n p.i.toNat 0 p.qs ∧ S.ShW P g.n p.i.toNat p.ws ∧ p.rs = S.castL (S.zeroP P p.i.toNat) ∧ p.n = p.rs.length ∧ ∀ k, k < p.i.toNat → S.allI g.m g.ids (g.ops.getD k S.OpV.zero).n (g.ops.getD k S.OpV.zero).ids)
  (fun p => g.n - p.i.toNat) ⟨0, List.replicate g.n 0, [], List.replicate g.n default, none, 0, 0⟩ (by kernel_rfl) ⟨by dsimp only; omega, S.ShQ.first _ _, S.ShW.first _ _, rfl, rfl, fun k hk => by simp at hk⟩ (fun p j hI => ?_)
 obtain ⟨i1, iq, iw, ir, il, io⟩ := hI
 refine run ?_
 refine J.ifd rfl (fun c2 => ?_) (fun c2 => ?_)
 ·obtain ⟨z, hz⟩ := G0.ex (i := p.i) (by omega)
  have R := G.op hz
  have hzo := GrA.opAt hz
  have h20 := R.ok.n
  have hPz := hPl p.i.toNat
  rw [hzo] at hPz
  refine run ?_
  refine J.alloc rfl fun b2 => ?_
  refine run ?_
  refine J.loop (A := Int × List Pc) (fun p2 => [(55, .int .i64 p2.1)]) [2, 10, 11, 12, 56, 57, 58, 59, 60, 61, 62, 63, 64, 65, 66, 67, 68, 69, 70, 71, 72, 73, 74, 75, 76, 77] (fun p2 => [.blk b2 (opC z) 54, .all (p2.2.map (pcE 3 .i64)), .iown 3 .i64 p.a p.n p.c p.rs, .gown pcC 1 76 (some ⟨bb, 0, none⟩) g.n g.n p2.2, .iown 3 .i64 (some ⟨bw, 0, none⟩) g.n g.n p.ws, .blk b1 (grC g) 25])
   (fun p2 => (0 ≤ p2.1 ∧ p2.1 ≤ z.o.n) ∧ S.ShQ P g.n p.i.toNat p2.1.toNat p2.2 ∧ ∀ k, k < p2.1.toNat → S.inS g.m g.ids (S.idAt z.o.ids k)) (fun p2 => z.o.n - p2.1.toNat) (0, p.qs) (by kernel_rfl) ⟨by dsimp only; omega, iq, fun k hk => by simp at hk⟩ (fun p2 j2 hI2 => ?_)
  obtain ⟨k1, kq, ki⟩ := hI2
  have D1 := R.row
  refine run ?_
  refine J.ifd rfl (fun c3 => ?_) (fun c3 => ?_)
  ·refine run ?_
   refine J.alloc rfl fun b3 => ?_
   have hx := D1.elt_arr (i := p2.1.toNat) (by omega)
   refine run ?_
   refine J.callp rfl rfl (fun w' M => dagFind g _ w' (D0.ext M.ext) hx hr (by omega)) ?_
   refine run ?_
   refine J.ifnot rfl (fun c4 => ?_) (fun c4 => ?_)
   ·refine run ?_
    refine J.fin ?_
    rw [S.shape_40 (i := p.i.toNat) (j := p2.1.toNat) hr (by omega) (by rw [hzo]; omega) (by rw [hzo]; exact of_decide_eq_false c4)]
   have hin := of_decide_eq_true c4
   have hlt := ((S.spotS_has hr).1 hin).1
   have hat := S.spotS_ix hr hin
   obtain ⟨q, hq⟩ := kq.get (a := S.spotS g.m g.ids (elt 32 z.o.ids p2.1.toNat)) (by omega)
   refine run ?_
   refine J.b1 rfl rfl fun b4 => ?_
   refine J.openP 3 .i64 p2.2 hq ?_
   have hbl := S.behJ_len P p.i.toNat p2.1.toNat (S.spotS g.m g.ids (elt 32 z.o.ids p2.1.toNat)) 40 (fun i => by rw [hPl]; exact hn20 i)
   have hqx := kq.xs _ _ hq
   have hqn : q.n ≤ 40 * 61 := by
    rw [hqx.2, hqx.1, S.castL_len]
    have : p.i.toNat + 1 ≤ 61 := by omega
    omega
   refine J.apI rfl rfl RI.own' fun a' c' => ?_
   refine run ?_
   refine J.stG1 rfl rfl (q := ⟨a', q.n + 1, c', q.xs ++ [p.i]⟩) rfl ?_
   refine J.shutP 3 .i64 p2.2 (S.spotS g.m g.ids (elt 32 z.o.ids p2.1.toNat)) ⟨a', q.n + 1, c', q.xs ++ [p.i]⟩ (by rw [kq.len]; omega) ?_
   refine run ?_
   refine J.next (p2.1 + 1, p2.2.set (S.spotS g.m g.ids (elt 32 z.o.ids p2.1.toNat)) ⟨a', q.n + 1, c', q.xs ++ [p.i]⟩) ⟨rfl, trivial⟩ (by kernel_rfl) ?_ (by dsimp only; omega)
   have e1 : (p2.1 + 1).toNat = p2.1.toNat + 1 := by omega
   have e2 : p.i = (p.i.toNat : Nat) := by omega
   refine ⟨by dsimp only; omega, ?_, fun k hk => ?_⟩
   ·dsimp only
    rw [e1, e2]
    exact kq.step (by omega) hq (by rw [hPg _ _ (by rw [hzo]; omega), hzo]; exact hat) a' c'
   dsimp only at hk
   rcases Nat.lt_or_ge k p2.1.toNat with h | h
   ·exact ki k h
   obtain rfl : k = p2.1.toNat := by omega
   exact hin
  have hj : (P p.i.toNat).length ≤ p2.1.toNat := by omega
  have e1 : (p.i + 1).toNat = p.i.toNat + 1 := by omega
  have e2 : ((P p.i.toNat).length : Int) = z.o.n := by omega
  have hws := iw.step (by omega)
  rw [e2] at hws
  have hzs := S.zeroP_succ P p.i.toNat
  have hop : ∀ k, k < p.i.toNat + 1 → S.allI g.m g.ids (g.ops.getD k S.OpV.zero).n (g.ops.getD k S.OpV.zero).ids := fun k hk => by
   rcases Nat.lt_or_ge k p.i.toNat with h | h
   ·exact io k h
   obtain rfl : k = p.i.toNat := by omega
   rw [hzo]
   exact fun j hj => ki j (by omega)
  refine run ?_
  have hg := S.set_get p.ws p.i.toNat p.i.toNat (z.o.n : Int) (by rw [iw.len]; omega)
  rw [if_pos rfl] at hg
  have hzl : (S.zeroP P p.i.toNat).length ≤ p.i.toNat := by
   have := List.length_filter_le (fun k => decide ((P k).length = 0)) (List.range p.i.toNat)
   rw [List.length_range] at this
   exact this
  have hpl : p.n ≤ 60 := by rw [il, ir, S.castL_len]; omega
  refine J.ife rfl (fun c4 => ?_) (fun c4 => ?_)
  ·rw [hg] at c4
   refine run ?_
   refine J.b1 rfl rfl fun b4 => ?_
   refine J.apI rfl rfl RI.own' fun a' c' => ?_
   refine run ?_
   refine J.next ⟨p.i + 1, p.ws.set p.i.toNat z.o.n, p.rs ++ [p.i], p2.2, a', p.n + 1, c'⟩ ⟨rfl, rfl, trivial⟩ (by kernel_rfl) ?_ (by dsimp only; omega)
   dsimp only
   rw [e1]
   refine ⟨by omega, kq.next hj, hws, ?_, by rw [il]; simp, hop⟩
   rw [hzs, if_pos (by omega), S.castL_snoc, ir]
   congr 2
   omega
  rw [hg] at c4
  refine run ?_
  refine J.next ⟨p.i + 1, p.ws.set p.i.toNat z.o.n, p.rs, p2.2, p.a, p.n, p.c⟩ ⟨rfl, rfl, trivial⟩ (by kernel_rfl) ?_ (by dsimp only; omega)
  dsimp only
  rw [e1]
  exact ⟨by omega, kq.next hj, hws, by rw [hzs, if_neg (by omega), ir], il, hop⟩
 have ei : p.i.toNat = g.n := by omega
 rw [ei] at iq iw ir io
 have K0 := iw.kahn
 have hop : S.opensS g.m g.ids g.ops := fun k hk => io k (by omega)
 refine run ?_
 refine J.loop (A := ShP) (fun p => [(6, .slice p.a p.n p.c), (13, .int .i64 p.i)]) [15, 94, 95, 96, 97, 98, 99, 100, 101, 102, 103, 104, 105, 106, 107, 108, 109, 110, 111, 112, 113, 114, 115, 116, 117, 118, 119, 120, 121, 122, 123, 124, 125, 126, 127] (fun p' => [.all (p.qs.map (pcE 3 .i64)), .iown 3 .i64 p'.a p'.n p'.c p'.rs, .gown pcC 1 76 (some ⟨bb, 0, none⟩) g.n g.n p.qs, .iown 3 .i64 (some ⟨bw, 0, none⟩) g.n g.n p'.ws, .blk b1 (grC g) 25])
  (fun p' => 0 ≤ p'.i ∧ p'.ws.length = g.n ∧ ∃ rd, p'.rs = S.castL rd ∧ p'.n = rd.length ∧ S.Kahn P g.n (S.wtS p'.ws) rd p'.i.toNat) (fun p' => g.n - p'.i.toNat) ⟨0, p.ws, p.rs, [], p.a, p.n, p.c⟩ (by kernel_rfl) ⟨Int.le_refl _, iw.len, _, ir, by rw [il, ir, S.castL_len], K0⟩ (fun p3 j3 hI3 => ?_)
 obtain ⟨m1, m2, rd, m3, m4, m5⟩ := hI3
 have m6 := m5.le
 have m7 := m5.dl
 refine run ?_
 refine J.ifd rfl (fun c3 => ?_) (fun c3 => ?_)
 ·have hd : p3.i.toNat < rd.length := by omega
  obtain ⟨r0, hr0⟩ := ex (p3.rs.getD p3.i.toNat 0)
  obtain ⟨kk, hkk⟩ := ex (rd.getD p3.i.toNat 0)
  have hv : r0 = kk := by rw [hr0, m3, S.castL_get, hkk]
  have hkn : kk < g.n := by rw [hkk]; exact m5.lt _ (S.getD_mem hd)
  have hrk : r0.toNat = kk := by omega
  obtain ⟨q, hq⟩ := iq.get hkn
  have hqx := iq.xs _ _ hq
  rw [S.behJ_zero] at hqx
  have hql : q.n = (S.behS P g.n kk).length := by rw [hqx.2, hqx.1, S.castL_len]
  have hqb := S.behJ_len P g.n 0 kk 40 (fun i => by rw [hPl]; exact hn20 i)
  rw [S.behJ_zero] at hqb
  have hq' : p.qs[r0.toNat]? = some q := by rw [hrk]; exact hq
  have hr1 : 0 ≤ r0 ∧ r0 < g.n := by omega
  refine run ?_
  refine J.loop (A := ShP) (fun p => [(6, .slice p.a p.n p.c), (108, .int .i64 p.i)]) [15, 109, 110, 111, 112, 113, 114, 115, 116, 117, 118, 119, 120, 121, 122, 123, 124, 125, 126, 127] (fun p' => [.all (p.qs.map (pcE 3 .i64)), .iown 3 .i64 p'.a p'.n p'.c p'.rs, .gown pcC 1 76 (some ⟨bb, 0, none⟩) g.n g.n p.qs, .iown 3 .i64 (some ⟨bw, 0, none⟩) g.n g.n p'.ws, .blk b1 (grC g) 25])
   (fun p' => (0 ≤ p'.i ∧ p'.i ≤ q.n) ∧ p'.ws.length = g.n ∧ ∃ rd, p'.rs = S.castL rd ∧ p'.n = rd.length ∧ S.KahnI P g.n (S.wtS p'.ws) rd p3.i.toNat p'.i.toNat ∧ kk = rd.getD p3.i.toNat 0) (fun p' => q.n - p'.i.toNat) ⟨0, p3.ws, p3.rs, [], p3.a, p3.n, p3.c⟩ (by kernel_rfl) ⟨by dsimp only; omega, m2, rd, m3, m4, m5.enter hd, hkk⟩ (fun p4 j4 hI4 => ?_)
  obtain ⟨n1, n2, rd4, n3, n4, n5, n6⟩ := hI4
  have n7 := n5.le
  refine run ?_
  refine J.ifd rfl (fun c4 => ?_) (fun c4 => ?_)
  ·obtain ⟨x, hx⟩ := ex (q.xs.getD p4.i.toNat 0)
   have hxk : x = ((S.behS P g.n kk).getD p4.i.toNat 0 : Nat) := by rw [hx, hqx.1, S.castL_get]
   have ht : p4.i.toNat < (S.behS P g.n (rd4.getD p3.i.toNat 0)).length := by rw [← n6]; omega
   have hk0 : x.toNat = (S.behS P g.n (rd4.getD p3.i.toNat 0)).getD p4.i.toNat 0 := by rw [← n6]; omega
   obtain ⟨o1, o2⟩ := n5.told ht hk0
   have o3 := n5.down n2 ht hk0
   obtain ⟨wv, hwv⟩ := ex (p4.ws.getD x.toNat 0)
   have hwt : S.wtS p4.ws x.toNat = wv.toNat := by rw [hwv]; rfl
   have hx0 : 0 ≤ x ∧ x < g.n := by omega
   refine run ?_
   refine J.idxI rfl rfl (RI.all (e := 3) (k := .i64) hq) ?_
   refine J.ldI rfl (RI.all (e := 3) (k := .i64) hq) ?_
   refine J.fact (.iown 3 .i64 (some ⟨bw, 0, none⟩) g.n g.n p4.ws) (fun S w => iown_bd) fun hbd => ?_
   have hwb := hbd.get x.toNat
   simp only [lim] at hwb
   have hg := S.set_get p4.ws x.toNat x.toNat (wv - 1) (by omega)
   rw [if_pos rfl] at hg
   rw [← hwv] at hwb o3
   have hdl := n5.dl
   refine run ?_
   refine J.ife rfl (fun c5 => ?_) (fun c5 => ?_)
   ·rw [hg] at c5
    rw [if_pos c5] at o3
    refine run ?_
    refine J.b1 rfl rfl fun b4 => ?_
    refine J.apI rfl rfl RI.own' fun a' c' => ?_
    refine run ?_
    refine J.next ⟨p4.i + 1, p4.ws.set x.toNat (wv - 1), p4.rs ++ [x], [], a', p4.n + 1, c'⟩ ⟨rfl, rfl, trivial⟩ (by kernel_rfl) ?_ (by dsimp only; omega)
    dsimp only
    rw [show (p4.i + 1).toNat = p4.i.toNat + 1 by omega]
    refine ⟨by omega, by rw [List.length_set]; exact n2, rd4 ++ [x.toNat], ?_, by simp; exact n4, o3, ?_⟩
    ·rw [S.castL_snoc, n3, show ((x.toNat : Nat) : Int) = x by omega]
    rw [S.getD_snoc, if_pos hdl]; exact n6
   rw [hg] at c5
   rw [if_neg c5] at o3
   refine run ?_
   refine J.next ⟨p4.i + 1, p4.ws.set x.toNat (wv - 1), p4.rs, [], p4.a, p4.n, p4.c⟩ ⟨rfl, rfl, trivial⟩ (by kernel_rfl) ?_ (by dsimp only; omega)
   dsimp only
   rw [show (p4.i + 1).toNat = p4.i.toNat + 1 by omega]
   exact ⟨by omega, by rw [List.length_set]; exact n2, rd4, n3, n4, o3, n6⟩
  have hlv := n5.leave (by rw [← n6]; omega)
  refine run ?_
  refine J.next ⟨p3.i + 1, p4.ws, p4.rs, [], p4.a, p4.n, p4.c⟩ ⟨rfl, rfl, trivial⟩ (by kernel_rfl) ?_ (by dsimp only; omega)
  dsimp only
  rw [show (p3.i + 1).toNat = p3.i.toNat + 1 by omega]
  exact ⟨by omega, n2, rd4, n3, n4, hlv⟩
 have hf := m5.last (by omega)
 rw [hP, ← hl] at hf
 have hse := S.shape_end hr hop hf
 refine run ?_
 refine J.ifd rfl (fun c4 => ?_) (fun c4 => ?_)
 ·refine run ?_
  refine J.fin ?_
  rw [hse, if_pos (by omega)]
 refine run ?_
 refine J.fin ?_
 rw [hse, if_neg (by omega)]
instance : Ents Tryz.prog 37 := ⟨.mk Tryz.func37 (by kernel_rfl) rfl⟩
instance : Und Tryz.prog 31 (.int .i64) := ⟨Tryz.underlying31⟩
instance : Und Tryz.prog 5 (.int .u8) := ⟨Tryz.underlying5⟩
instance : Siz Tryz.prog 5 1 := ⟨by kernel_rfl⟩
instance : Ents Tryz.prog 115 := ⟨.mk Tryz.func115 (by kernel_rfl) rfl⟩
instance : Ents Tryz.prog 120 := ⟨.mk Tryz.func120 (by kernel_rfl) rfl⟩
instance : Ents Tryz.prog 33 := ⟨.mk Tryz.func33 (by kernel_rfl) rfl⟩
instance : Ents Tryz.prog 128 := ⟨.mk Tryz.func128 (by kernel_rfl) rfl⟩
instance : Siz Tryz.prog 22 1 := ⟨by kernel_rfl⟩
theorem dagCheck {S0 : Nat → Prop} (g : GrA) (TK : TypeId) (w : World) (K0 : Kst w TK) (G : GrR S0 w g) :
  Calls Tryz.prog 33 #[.agg (grC g).toArray] w (Ret w fun v _ => v = .int .i64 (S.chkG g.m g.ids g.ops)) := by
 have D0 := G.ids
 have G0 := G.ops
 have hl := G.len
 have hcp := G.cap
 refine J.enter 49 Tryz.func33 rfl rfl ?_
 refine run ?_
 refine J.box rfl rfl rfl fun b1 => ?_
 refine run ?_
 refine J.ifd rfl (fun c => ?_) (fun c => ?_)
 ·refine run ?_
  refine J.fin ?_
  unfold S.chkG
  rw [if_pos (by omega)]
 refine run ?_
 refine J.ifn rfl (fun c2 => ?_) (fun c2 => ?_)
 ·refine run ?_
  refine J.fin ?_
  unfold S.chkG
  rw [if_neg (by omega), if_pos (by omega)]
 refine run ?_
 have h8 : ∀ i, i < g.n → ¬ S.ownS (g.ops.getD i S.OpV.zero) (S.idAt g.ids i) → (8 : Int) = S.chkG g.m g.ids g.ops := fun i hi h => by
  unfold S.chkG
  rw [if_neg (by omega), if_neg (by omega), if_pos fun ho => h (ho i (by omega))]
 refine J.loopS (A := Int) (fun p => [(21, .int .i64 p)]) [2, 3, 4, 5, 6, 22, 23, 24, 25, 26, 27, 28, 29, 30, 31, 32, 33, 34, 35, 36, 37, 38, 39, 40, 41, 42, 43, 44, 45, 46, 47] (fun p => (0 ≤ p ∧ p ≤ g.n) ∧ ∀ i, i < p.toNat → S.ownS (g.ops.getD i S.OpV.zero) (S.idAt g.ids i)) (fun p => g.n - p.toNat) 0 (by kernel_rfl) ⟨by omega, fun i hi => by omega⟩ (fun p j hI => ?_)
 obtain ⟨h1, hI⟩ := hI
 refine run ?_
 refine J.ifd rfl (fun c3 => ?_) (fun c3 => ?_)
 ·obtain ⟨z, hz⟩ := G0.ex (i := p) (by omega)
  have R := G.op hz
  have hzo := GrA.opAt hz
  have hsa := S.idX_arr z.o
  refine run ?_
  refine J.alloc rfl fun b2 => ?_
  refine run ?_
  refine J.callp rfl rfl (fun w' M => idO z.o R.ok _ _ _ _ (K0.ext M.ext) (R.row.ext M.ext) R.cap) ?_
  refine run ?_
  refine J.alloc rfl fun b3 => ?_
  refine run ?_
  refine J.regionX [(0, .q), (1, .q), (2, .q), (3, .q), (4, .q), (5, .q), (6, .q), (7, .q), (8, .q), (9, .q), (10, .q), (11, .q), (12, .q), (13, .e), (14, .q), (15, .q)] mixed (by kernel_rfl) ?_
  refine run ?_
  have h9 : ¬ S.ownS z.o (S.idAt g.ids p.toNat) → (8 : Int) = S.chkG g.m g.ids g.ops := fun h => h8 p.toNat (by omega) (by rw [hzo]; exact h)
  refine J.spn rfl rfl rfl (fun c4 => ?_) (fun c4 => ?_)
  ·refine run ?_
   refine J.fin (congrArg _ (h9 fun h => c4 (S.verE_check h.1)))
  refine run ?_
  refine J.spd rfl rfl rfl (fun c5 => ?_) (fun c5 => ?_)
  ·refine run ?_
   refine J.fin (congrArg _ (h9 fun h => c5 ?_))
   rw [if_pos c4]
   exact h.2
  rw [if_pos c4] at c5
  refine run ?_
  refine J.callp rfl rfl (fun w' M => verifyO z.o R.ok _ _ _ _ (K0.ext M.ext) (R.row.ext M.ext) R.cap) ?_
  refine run ?_
  refine J.ifn rfl (fun c6 => ?_) (fun c6 => ?_)
  ·refine run ?_
   exact J.fin (congrArg _ (h9 fun h => c6 h.1))
  refine run ?_
  refine J.nextS (p + 1) ⟨rfl, trivial⟩ (by kernel_rfl) ⟨by omega, fun i hi => ?_⟩ (by omega)
  rcases Nat.lt_or_ge i p.toNat with h | h
  ·exact hI i h
  obtain rfl : i = p.toNat := by omega
  rw [hzo]
  exact ⟨c6, Decidable.not_not.1 c5⟩
 refine run ?_
 refine J.callp rfl rfl (fun w' M => dagShape g w' (G.ext M.ext) (by omega) (by omega)) ?_
 refine run ?_
 refine J.fin ?_
 unfold S.chkG
 rw [if_neg (by omega), if_neg (by omega), if_neg (not_not_intro (show S.ownsS g.ids g.ops from fun i hi => hI i (by omega)))]
theorem cloneW {S0 : Nat → Prop} (a : Option Addr) (n c : Nat) (ids : List Int) (w : World) (D0 : WRow .u8 32 S0 w a n ids) (hc : n ≤ c) (hn : n ≤ 1000) :
  Calls Tryz.prog 128 #[.slice a n c] w (Gv w (fun q : Option Addr × Nat => .slice q.1 n q.2) (fun q => [.wown 43 .u8 32 q.1 n q.2 ids]) fun q => n ≤ q.2) :=
 Gv.of (cloneID a n c ids w D0 hc hn) fun v w' x ⟨a', n', c', hv, hn', O⟩ => ⟨(a', c'), by rw [hv, hn'], by subst hn'; exact O.own.cap.1, sep1 (by subst hn'; exact wown_ok O)⟩
end Go.Proofs.YtakbhjagiofbgaaGreatDoor.W
namespace Go.Proofs.YtakbhjagiofbgaaGreatDoor.S
open G
def atS (m : Nat) (ids x : List Int) : Int := if inS m ids x then (ixS m ids x : Nat) else -1
theorem at_hit {m : Nat} {ids x : List Int} {i : Nat} (hi : i < m) (e : idAt ids i = x) (hf : ∀ j, j < i → idAt ids j ≠ x) : (i : Int) = atS m ids x := by
  unfold atS; rw [if_pos ⟨i, hi, e⟩, ix_first hi e hf]
theorem at_miss {m : Nat} {ids x : List Int} (hf : ∀ j, j < m → idAt ids j ≠ x) : (-1 : Int) = atS m ids x := by
  unfold atS; rw [if_neg]; rintro ⟨i, hi, e⟩; exact hf i hi e
theorem at_neg {m : Nat} {ids x : List Int} : atS m ids x < 0 ↔ ¬ inS m ids x := by
  unfold atS
  by_cases h : inS m ids x
  · rw [if_pos h]; exact ⟨fun h1 => by omega, fun h1 => absurd h h1⟩
  · rw [if_neg h]; exact ⟨fun _ => h, fun _ => by decide⟩
structure HvS (ids : List Int) (rd : List Nat) (hv : List Int) : Prop where
  len : hv.length = 32 * rd.length
  at_ : ∀ k, k < rd.length → idAt hv k = idAt ids (rd.getD k 0)
theorem HvS.first (ids : List Int) : HvS ids [] [] := ⟨rfl, fun k hk => by cases hk⟩
theorem HvS.snoc {ids hv : List Int} {rd : List Nat} {i m : Nat} (h : HvS ids rd hv) (hl : ids.length = 32 * m) (hi : i < m) : HvS ids (rd ++ [i]) (hv ++ idAt ids i) := by
  have h32 := idAt_len ids i m hl hi
  refine ⟨by rw [List.length_append, List.length_append, h.len, h32, List.length_singleton]; omega, fun k hk => ?_⟩
  rw [List.length_append, List.length_singleton] at hk
  rw [getD_snoc]
  by_cases e : k < rd.length
  · rw [if_pos e, ← h.at_ k e]
    unfold idAt
    rw [List.drop_append_of_le_length (by rw [h.len]; omega), List.take_append_of_le_length (by rw [List.length_drop, h.len]; omega)]
  · obtain rfl : k = rd.length := by omega
    rw [if_neg e, if_pos rfl]
    have : (hv ++ idAt ids i).drop (32 * rd.length) = idAt ids i := by rw [← h.len]; exact List.drop_left
    show ((hv ++ idAt ids i).drop (32 * rd.length)).take 32 = _
    rw [this, List.take_of_length_le (by omega)]
theorem HvS.all {m : Nat} {ids hv : List Int} {ops : List OpV} {rd : List Nat} (h : HvS ids rd hv) (hr : Rising m ids) (hb : ∀ x ∈ rd, x < m) {i : Nat} (ho : allI m ids (ops.getD i OpV.zero).n (ops.getD i OpV.zero).ids) :
    allI rd.length hv (ops.getD i OpV.zero).n (ops.getD i OpV.zero).ids ↔ ∀ p ∈ prS m ids ops i, p ∈ rd := by
  constructor
  · intro ha p hp
    unfold prS at hp
    obtain ⟨j, hj, rfl⟩ := List.mem_map.1 hp
    obtain ⟨k, hk, e⟩ := ha j (List.mem_range.1 hj)
    rw [h.at_ k hk] at e
    have hm := getD_mem hk
    rw [← e, ix_eq hr (hb _ hm)]
    exact hm
  · intro ha j hj
    have hp : ixS m ids (idAt (ops.getD i OpV.zero).ids j) ∈ rd := ha _ (by unfold prS; exact List.mem_map.2 ⟨j, List.mem_range.2 hj, rfl⟩)
    obtain ⟨k, hk, e⟩ := List.getElem_of_mem hp
    refine ⟨k, hk, ?_⟩
    rw [h.at_ k hk, List.getD_eq_getElem?_getD, List.getElem?_eq_getElem hk, Option.getD_some, e]
    exact (ix_in (ho j hj)).2
def dnS (n : Nat) (rd : List Nat) : List Bool := (List.range n).map fun i => decide (i ∈ rd)
theorem dnS_first (n : Nat) : dnS n [] = List.replicate n false := by
  unfold dnS
  apply List.ext_getElem
  · simp
  · intro i h1 h2; simp
theorem dnS_get {n i : Nat} (rd : List Nat) (h : i < n) : (dnS n rd)[i]? = some (decide (i ∈ rd)) := by
  unfold dnS; rw [List.getElem?_map, List.getElem?_range h]; rfl
theorem dnS_snoc {n i : Nat} (rd : List Nat) (h : i < n) : (dnS n rd).set i true = dnS n (rd ++ [i]) := by
  apply List.ext_getElem?
  intro j
  rw [List.getElem?_set]
  by_cases hj : j < n
  · rw [dnS_get _ hj, dnS_get _ hj]
    by_cases e : i = j
    · subst e; rw [if_pos rfl, if_pos (by simpa [dnS] using hj)]; simp
    · rw [if_neg e]; congr 1; rw [decide_eq_decide, List.mem_append, List.mem_singleton]; exact ⟨.inl, fun h => h.resolve_right fun e2 => e e2.symm⟩
  · rw [List.getElem?_eq_none (by simpa [dnS] using hj), List.getElem?_eq_none (by simpa [dnS] using hj)]
    split
    · split <;> simp_all
    · rfl
structure OrdS (P : Nat → List Nat) (n : Nat) (rd : List Nat) : Prop where
  nd : rd.Nodup
  lt : ∀ x ∈ rd, x < n
  sq : Seqd P rd
theorem OrdS.first (P : Nat → List Nat) (n : Nat) : OrdS P n [] := ⟨List.nodup_nil, fun x h => (by cases h), fun i h => (by cases h)⟩
theorem OrdS.le {P : Nat → List Nat} {n : Nat} {rd : List Nat} (h : OrdS P n rd) : rd.length ≤ n := by
  have := nodup_len (l := rd) (m := List.range n) h.nd fun x hx => List.mem_range.2 (h.lt x hx)
  simpa using this
theorem OrdS.snoc {P : Nat → List Nat} {n i : Nat} {rd : List Nat} (h : OrdS P n rd) (hi : i < n) (hn : i ∉ rd) (hp : ∀ p ∈ P i, p ∈ rd) : OrdS P n (rd ++ [i]) := by
  refine ⟨List.nodup_append.2 ⟨h.nd, by simp, fun a ha b hb => ?_⟩, fun x hx => ?_, h.sq.snoc (d := rd.length) fun p hp' => by rw [List.take_length]; exact hp p hp'⟩
  · rw [List.mem_singleton] at hb; subst hb; intro e; subst e; exact hn ha
  · rcases List.mem_append.1 hx with e | e
    · exact h.lt x e
    · rw [List.mem_singleton] at e; subst e; exact hi
theorem OrdS.found {P : Nat → List Nat} {n : Nat} {rd : List Nat} (h : OrdS P n rd) (hc : Clsd P n rd) : Found P n ↔ ¬ rd.length < n := found_iff h.nd h.lt h.sq hc
theorem OrdS.room {P : Nat → List Nat} {n i : Nat} {rd : List Nat} (h : OrdS P n rd) (hi : i < n) (hn : i ∉ rd) : rd.length < n := by
  have := nodup_len (l := i :: rd) (m := List.range n) (List.nodup_cons.2 ⟨hn, h.nd⟩) fun x hx => by
    rcases List.mem_cons.1 hx with e | e
    · subst e; exact List.mem_range.2 hi
    · exact List.mem_range.2 (h.lt x e)
  simp only [List.length_cons, List.length_range] at this
  omega
end Go.Proofs.YtakbhjagiofbgaaGreatDoor.S
namespace Go.Proofs.YtakbhjagiofbgaaGreatDoor.W
open Go.RowKit Go.Proofs.YtakbhjagiofbgaaGreatDoor.G
set_option linter.unusedVariables false
set_option linter.unusedSimpArgs false
set_option maxRecDepth 20000
set_option maxHeartbeats 8000000
attribute [local irreducible] RS RX RY Code.wp bodyPost J Ent.blk Ent.irow Ent.iown Ent.wrow Ent.wown Ent.grow Ent.gown Ent.all Ent.emp
instance : Ents Tryz.prog 34 := ⟨.mk Tryz.func34 (by kernel_rfl) rfl⟩
instance : Und Tryz.prog 210 (.slice 4) := ⟨Tryz.underlying210⟩
instance : Inf Tryz.prog 4 1 1 [.bool false] := ⟨TI.of (v := .bool false) (by kernel_rfl) rfl⟩
instance : Siz Tryz.prog 4 1 := ⟨by kernel_rfl⟩
instance : Sca Tryz.prog 4 := ⟨_, Tryz.underlying4, rfl⟩
instance : Und Tryz.prog 4 .bool := ⟨Tryz.underlying4⟩
instance : Ents Tryz.prog 36 := ⟨.mk Tryz.func36 (by kernel_rfl) rfl⟩
instance : Ents Tryz.prog 32 := ⟨.mk Tryz.func32 (by kernel_rfl) rfl⟩
instance : Ents Tryz.prog 38 := ⟨.mk Tryz.func38 (by kernel_rfl) rfl⟩
instance : Ents Tryz.prog 123 := ⟨.mk Tryz.func123 (by kernel_rfl) rfl⟩
instance : Ents Tryz.prog 25 := ⟨.mk Tryz.func25 (by kernel_rfl) rfl⟩
instance : Ents Tryz.prog 125 := ⟨.mk Tryz.func125 (by kernel_rfl) rfl⟩
structure OrP where
 (rd : List Nat) (n : Nat) (od hv : List Int) (dn : List Bool) (ao : Option Addr) (co : Nat) (ah : Option Addr) (ch : Nat) (more : Bool)
theorem refAt {S0 : Nat → Prop} (a : Option Addr) (n c : Nat) (ids x : List Int) (w : World) (D0 : WRow .u8 32 S0 w a n ids) (hx : Arr .u8 32 x) (hn : n ≤ 1000) :
  Calls Tryz.prog 34 #[.slice a n c, .agg (ints .u8 x).toArray] w (Ret w fun v _ => v = .int .i64 (S.atS n ids x)) := by
 refine J.enter 17 Tryz.func34 rfl rfl ?_
 refine run ?_
 refine J.box rfl rfl rfl fun b1 => ?_
 refine run ?_
 refine J.loopS (A := Int) (fun p => [(5, .int .i64 p)]) [6, 7, 8, 9, 10, 11, 12, 13, 14, 15, 16, 17, 18] (fun p => (0 ≤ p ∧ p ≤ n) ∧ ∀ k, k < p.toNat → S.idAt ids k ≠ x) (fun p => n - p.toNat) 0 (by kernel_rfl) ⟨by omega, fun k hk => by omega⟩ (fun p j hI => ?_)
 obtain ⟨h1, hI⟩ := hI
 refine run ?_
 refine J.ifd rfl (fun c1 => ?_) (fun c1 => ?_)
 ·obtain ⟨q, hq⟩ := ex (elt 32 ids p.toNat)
  have hqa : Arr .u8 32 q := hq ▸ D0.elt_arr (by omega)
  refine run ?_
  refine J.regionX [(0, .q), (1, .q), (2, .q), (3, .q), (4, .q), (5, .q)] mixed (by kernel_rfl) ?_
  refine run ?_
  refine J.ifd rfl (fun c2 => ?_) (fun c2 => ?_)
  ·refine run ?_
   refine J.fin ?_
   rw [← S.at_hit (i := p.toNat) (by omega) (by rw [← c2]; exact hq.symm) hI]
   congr 1
   omega
  refine run ?_
  refine J.nextS (p + 1) ⟨rfl, trivial⟩ (by kernel_rfl) ⟨by omega, fun k hk => ?_⟩ (by omega)
  rcases Nat.lt_or_ge k p.toNat with h | h
  ·exact hI k h
  obtain rfl : k = p.toNat := by omega
  exact fun e => c2 (hq.trans e)
 refine run ?_
 refine J.fin ?_
 rw [← S.at_miss fun k hk => hI k (by omega)]
theorem refAll {S0 S1 : Nat → Prop} (a a2 : Option Addr) (n c n2 c2 : Nat) (ids ps : List Int) (w : World) (D0 : WRow .u8 32 S0 w a n ids) (D1 : WRow .u8 32 S1 w a2 n2 ps) (hn : n ≤ 1000) (hn2 : n2 ≤ 1000) :
  Calls Tryz.prog 36 #[.slice a n c, .slice a2 n2 c2] w (Ret w fun v _ => v = .bool (decide (S.allI n ids n2 ps))) := by
 refine J.enter 17 Tryz.func36 rfl rfl ?_
 refine run ?_
 refine J.loopS (A := Int) (fun p => [(5, .int .i64 p)]) [6, 7, 8, 9, 10, 11, 12, 13, 14, 15, 16, 17, 18] (fun p => (0 ≤ p ∧ p ≤ n2) ∧ ∀ k, k < p.toNat → S.inS n ids (S.idAt ps k)) (fun p => n2 - p.toNat) 0 (by kernel_rfl) ⟨by omega, fun k hk => by omega⟩ (fun p j hI => ?_)
 obtain ⟨h1, hI⟩ := hI
 refine run ?_
 refine J.ifd rfl (fun c1 => ?_) (fun c1 => ?_)
 ·refine run ?_
  refine J.callp rfl rfl (fun w' M => refAt _ _ _ _ _ _ (D0.ext M.ext) (D1.elt_arr (by omega)) hn) ?_
  refine run ?_
  refine J.ifd rfl (fun c2 => ?_) (fun c2 => ?_)
  ·refine run ?_
   exact J.fin (congrArg _ (decide_eq_false fun h => S.at_neg.1 c2 (h _ (by omega))).symm)
  refine run ?_
  refine J.nextS (p + 1) ⟨rfl, trivial⟩ (by kernel_rfl) ⟨by omega, fun k hk => ?_⟩ (by omega)
  rcases Nat.lt_or_ge k p.toNat with h | h
  ·exact hI k h
  obtain rfl : k = p.toNat := by omega
  exact Decidable.not_not.1 fun h => c2 (S.at_neg.2 h)
 refine run ?_
 exact J.fin (congrArg _ (decide_eq_true fun k hk => hI k (by omega)).symm)
theorem refOrderL {S0 : Nat → Prop} (g : GrA) (w : World) (G : GrR S0 w g) (he : g.m = g.n) (hr : S.Rising g.m g.ids) (ho : S.opensS g.m g.ids g.ops) :
  Calls Tryz.prog 38 #[.agg (grC g).toArray] w (Gv w (fun q : (Option Addr × Nat × Nat) × List Nat => .slice q.1.1 q.1.2.1 q.1.2.2) (fun q => [.iown 3 .i64 q.1.1 q.1.2.1 q.1.2.2 (S.castL q.2)]) fun q => q.1.2.1 = q.2.length ∧ S.OrdS (S.prS g.m g.ids g.ops) g.n q.2 ∧ S.Clsd (S.prS g.m g.ids g.ops) g.n q.2) := by
 have D0 := G.ids
 have G0 := G.ops
 have hl := G.len
 have hcp := G.cap
 have hcp4 := hcp.2.2.2
 obtain ⟨P, hP⟩ := ex (S.prS g.m g.ids g.ops)
 refine J.enter 50 Tryz.func38 rfl rfl ?_
 refine run ?_
 refine J.box rfl rfl rfl fun b1 => ?_
 refine run ?_
 refine J.mkG boC false (fun _ => rfl) rfl rfl rfl rfl fun bd => ?_
 rw [← S.dnS_first]
 refine run ?_
 refine J.nilI 3 .i64 ?_
 refine J.nilWo 43 .u8 32 ?_
 refine J.loop (A := OrP) (fun p => [(3, .slice p.ao p.n p.co), (4, .slice p.ah p.n p.ch), (6, .bool p.more)]) [7, 12, 13, 14, 15, 16, 17, 18, 19, 20, 21, 22, 23, 24, 25, 26, 27, 28, 29, 30, 31, 32, 33, 34, 35, 36, 37, 38, 39, 40, 41, 42, 43, 44, 45, 46, 47, 48, 49] (fun p => [.wown 43 .u8 32 p.ah p.n p.ch p.hv, .iown 3 .i64 p.ao p.n p.co p.od, .gown boC 1 4 (some ⟨bd, 0, none⟩) g.n g.n p.dn, .blk b1 (grC g) 25])
  (fun p => S.OrdS P g.n p.rd ∧ S.HvS g.ids p.rd p.hv ∧ (p.more = false → S.Clsd P g.n p.rd) ∧ p.n = p.rd.length ∧ p.od = S.castL p.rd ∧ p.dn = S.dnS g.n p.rd) (fun p => 2 * (g.n - p.rd.length) + p.more.toNat) ⟨[], 0, [], [], S.dnS g.n [], none, 0, none, 0, true⟩ (by kernel_rfl) ⟨S.OrdS.first _ _, S.HvS.first _, fun h => (by cases h), rfl, rfl, rfl⟩ (fun p j hI => ?_)
 obtain ⟨hO, hH, hC, hn, hod, hd⟩ := hI
 have hle := hO.le
 refine run ?_
 refine J.ifb rfl (fun c1 => ?_) (fun c1 => ?_)
 ·refine run ?_
  refine J.loopS (A := Int) (fun p => [(7, .int .i64 p)]) [13, 14, 15, 16, 17, 18, 19, 20, 21, 22, 23, 24, 25, 26, 27, 28, 29, 30, 31, 32, 33, 34, 35, 36, 37, 38, 39, 40, 41, 42, 43, 44, 45, 46, 47, 48, 49] (fun i => (0 ≤ i ∧ i ≤ g.n) ∧ ∀ k, k < i.toNat → k ∉ p.rd → ¬ ∀ q ∈ P k, q ∈ p.rd) (fun i => g.n - i.toNat) 0 (by kernel_rfl) ⟨by omega, fun k hk => by omega⟩ (fun i j2 hI2 => ?_)
  obtain ⟨h1, h2⟩ := hI2
  refine run ?_
  refine J.ifd rfl (fun c2 => ?_) (fun c2 => ?_)
  ·obtain ⟨z, hz⟩ := G0.ex (i := i) (by omega)
   have R := G.op hz
   have hzo := GrA.opAt hz
   have h20 := R.ok.n
   have hdn := S.dnS_get p.rd (show i.toNat < g.n by omega)
   rw [← hd] at hdn
   have hall := hH.all (ops := g.ops) (i := i.toNat) hr (fun x hx => by have := hO.lt x hx; omega) (ho i.toNat (by omega))
   rw [hzo, ← hP, ← hn] at hall
   have hnext : (i.toNat ∉ p.rd → ¬ ∀ q ∈ P i.toNat, q ∈ p.rd) → ((0 ≤ i + 1 ∧ i + 1 ≤ (g.n : Int)) ∧ ∀ k, k < (i + 1).toNat → k ∉ p.rd → ¬ ∀ q ∈ P k, q ∈ p.rd) := fun hk => ⟨by omega, fun k hk2 => by
    rcases Nat.lt_or_ge k i.toNat with h | h
    ·exact h2 k h
    obtain rfl : k = i.toNat := by omega
    exact hk⟩
   refine run ?_
   refine J.spt rfl rfl rfl (fun c3 => ?_) (fun c3 => ?_)
   ·have hni := of_decide_eq_false c3
    refine run ?_
    refine J.callp rfl rfl (fun w' M => (RW.own' w' M).elim fun _ h => refAll _ _ _ _ _ _ _ _ _ h (R.row.ext M.ext) (by omega) (by omega)) ?_
    refine run ?_
    refine J.ifd rfl (fun c4 => ?_) (fun c4 => ?_)
    ·have hp := hall.1 c4
     have hO' := hO.snoc (show i.toNat < g.n by omega) hni hp
     have hH' := hH.snoc (i := i.toNat) D0.len (by omega)
     have hroom := hO.room (show i.toNat < g.n by omega) hni
     have hx : Arr .u8 32 (elt 32 g.ids i.toNat) := D0.elt_arr (by omega)
     have ei : i = (i.toNat : Nat) := by omega
     have hI' : ∀ b : Bool, b = true → S.OrdS P g.n (p.rd ++ [i.toNat]) ∧ S.HvS g.ids (p.rd ++ [i.toNat]) (p.hv ++ elt 32 g.ids i.toNat) ∧ (b = false → S.Clsd P g.n (p.rd ++ [i.toNat])) ∧ p.n + 1 = (p.rd ++ [i.toNat]).length ∧ p.od ++ [i] = S.castL (p.rd ++ [i.toNat]) ∧ p.dn.set i.toNat true = S.dnS g.n (p.rd ++ [i.toNat]) :=
      fun b hb => ⟨hO', hH', fun h => (by rw [hb] at h; cases h), by simp [hn], by rw [S.castL_snoc, ← ei, hod], by rw [hd]; exact S.dnS_snoc _ (by omega)⟩
     refine run ?_
     refine J.regionT [.blk b1 (grC g) 25] (.br [(0, .q), (1, .q), (2, .q), (3, .q), (6, .q), (7, .q), (8, .q), (9, .q), (10, .q), (11, .q)] 4 (.br [] 5 (.fin [(12, .e), (13, .e), (14, .q), (15, .q), (16, .q), (17, .e), (18, .q)]) 12 (.fin [(5, .e), (13, .e), (14, .q), (15, .q), (16, .q), (17, .e), (18, .q)])) 12 (.fin [(4, .e), (5, .e), (13, .e), (14, .q), (15, .q), (16, .q), (17, .e), (18, .q)])) mixed (by kernel_rfl) (by repeat (first | exact List.Sublist.refl _ | refine List.Sublist.cons_cons _ ?_ | refine List.Sublist.cons _ ?_)) ?_
     refine run ?_
     refine J.nil (J.kt ?_ ?_)
     ·refine J.b1 rfl rfl fun ba => ?_
      refine J.nil (J.kr (J.tbr (J.nil (J.kt ?_ ?_))))
      ·refine J.apI rfl rfl RI.own' fun ao co => ?_
       refine run ?_
       refine J.b1W rfl rfl hx fun bb => ?_
       refine J.apW rfl rfl RW.own' fun ah ch => ?_
       refine run ?_
       refine J.stG1 rfl rfl (q := true) rfl ?_
       refine run ?_
       exact J.next ⟨p.rd ++ [i.toNat], p.n + 1, p.od ++ [i], p.hv ++ elt 32 g.ids i.toNat, p.dn.set i.toNat true, ao, co, ah, ch, true⟩ ⟨rfl, rfl, rfl, trivial⟩ (by kernel_rfl) (hI' true rfl) (by dsimp only; rw [List.length_append, List.length_singleton]; cases p.more <;> simp <;> omega)
      refine J.b1W rfl rfl hx fun bb => ?_
      refine run ?_
      refine J.apI rfl rfl RI.own' fun ao co => ?_
      refine J.apW rfl rfl RW.own' fun ah ch => ?_
      refine run ?_
      refine J.stG1 rfl rfl (q := true) rfl ?_
      refine run ?_
      exact J.next ⟨p.rd ++ [i.toNat], p.n + 1, p.od ++ [i], p.hv ++ elt 32 g.ids i.toNat, p.dn.set i.toNat true, ao, co, ah, ch, true⟩ ⟨rfl, rfl, rfl, trivial⟩ (by kernel_rfl) (hI' true rfl) (by dsimp only; rw [List.length_append, List.length_singleton]; cases p.more <;> simp <;> omega)
     refine J.b1W rfl rfl hx fun bb => ?_
     refine run ?_
     refine J.b1 rfl rfl fun ba => ?_
     refine J.apI rfl rfl RI.own' fun ao co => ?_
     refine J.apW rfl rfl RW.own' fun ah ch => ?_
     refine run ?_
     refine J.stG1 rfl rfl (q := true) rfl ?_
     refine run ?_
     exact J.next ⟨p.rd ++ [i.toNat], p.n + 1, p.od ++ [i], p.hv ++ elt 32 g.ids i.toNat, p.dn.set i.toNat true, ao, co, ah, ch, true⟩ ⟨rfl, rfl, rfl, trivial⟩ (by kernel_rfl) (hI' true rfl) (by dsimp only; rw [List.length_append, List.length_singleton]; cases p.more <;> simp <;> omega)
    refine run ?_
    exact J.nextS (i + 1) ⟨rfl, trivial⟩ (by kernel_rfl) (hnext fun _ h => c4 (hall.2 h)) (by omega)
   refine run ?_
   exact J.nextS (i + 1) ⟨rfl, trivial⟩ (by kernel_rfl) (hnext fun h => absurd (of_decide_eq_true c3) h) (by omega)
  refine run ?_
  exact J.next ⟨p.rd, p.n, p.od, p.hv, p.dn, p.ao, p.co, p.ah, p.ch, false⟩ ⟨rfl, rfl, rfl, trivial⟩ (by kernel_rfl) ⟨hO, hH, fun _ k hk hq => Decidable.not_not.1 (fun hn => h2 k (by omega) hn hq), hn, hod, hd⟩ (by dsimp only; rw [c1]; exact Nat.lt_succ_self _)
 refine run ?_
 refine J.re (.iown 3 .i64 p.ao p.n p.co p.od) (.iown 3 .i64 p.ao p.n p.co (S.castL p.rd)) (fun _ _ h => by rw [← hod]; exact h) ?_
 exact J.finG ((p.ao, p.n, p.co), p.rd) rfl ⟨hn, by rw [← hP]; exact hO, by rw [← hP]; exact hC c1⟩ (by repeat (first | exact List.nil_sublist _ | refine List.Sublist.cons_cons _ ?_ | refine List.Sublist.cons _ ?_))
theorem refOrder {S0 : Nat → Prop} (g : GrA) (w : World) (G : GrR S0 w g) (he : g.m = g.n) (hr : S.Rising g.m g.ids) (ho : S.opensS g.m g.ids g.ops) :
  Calls Tryz.prog 38 #[.agg (grC g).toArray] w (Gv w (fun q : Option Addr × Nat × Nat => .slice q.1 q.2.1 q.2.2) (fun _ => []) fun q => q.2.1 ≤ 70 ∧ (S.Found (S.prS g.m g.ids g.ops) g.n ↔ ¬ q.2.1 < g.n)) :=
 (refOrderL g w G he hr ho).mono fun _ _ ⟨q, h1, ⟨k1, k2, k3⟩, h3, _⟩ => ⟨q.1, h1, ⟨by have := k2.le; have := G.cap.2.2.2; omega, by rw [k1]; exact k2.found k3⟩, h3, trivial⟩
theorem refShape {S0 : Nat → Prop} (g : GrA) (w : World) (G : GrR S0 w g) (he : g.m = g.n) :
  Calls Tryz.prog 125 #[.agg (grC g).toArray] w (Ret w fun v _ => v = .int .i64 (S.shapeS g.m g.ids g.ops)) := by
 have D0 := G.ids
 have G0 := G.ops
 have hl := G.len
 have hcp := G.cap
 refine J.enter 31 Tryz.func125 rfl rfl ?_
 refine run ?_
 refine J.box rfl rfl rfl fun b1 => ?_
 refine run ?_
 refine J.callp rfl rfl (fun w' M => risingR _ _ _ _ _ (D0.ext M.ext) hcp.1 (by omega)) ?_
 refine run ?_
 refine J.ifnot rfl (fun c1 => ?_) (fun c1 => ?_)
 ·refine run ?_
  refine J.fin ?_
  unfold S.shapeS
  rw [if_pos (of_decide_eq_false c1)]
 have hr := of_decide_eq_true c1
 refine run ?_
 refine J.loopS (A := Int) (fun p => [(3, .int .i64 p)]) [8, 9, 10, 11, 12, 13, 14, 15, 16, 17, 18, 19, 20, 21, 22, 23, 24] (fun p => (0 ≤ p ∧ p ≤ g.n) ∧ ∀ k, k < p.toNat → S.allI g.m g.ids (g.ops.getD k S.OpV.zero).n (g.ops.getD k S.OpV.zero).ids) (fun p => g.n - p.toNat) 0 (by kernel_rfl) ⟨by omega, fun k hk => by omega⟩ (fun p j hI => ?_)
 obtain ⟨h1, hI⟩ := hI
 refine run ?_
 refine J.ifd rfl (fun c2 => ?_) (fun c2 => ?_)
 ·obtain ⟨z, hz⟩ := G0.ex (i := p) (by omega)
  have R := G.op hz
  have hzo := GrA.opAt hz
  have h20 := R.ok.n
  refine run ?_
  refine J.regionX [(0, .q), (1, .q), (2, .q), (3, .q), (4, .q), (5, .q), (6, .q), (7, .q), (8, .e), (9, .q)] mixed (by kernel_rfl) ?_
  refine run ?_
  refine J.callp rfl rfl (fun w' M => refAll _ _ _ _ _ _ _ _ _ (D0.ext M.ext) (R.row.ext M.ext) (by omega) (by omega)) ?_
  refine run ?_
  refine J.ifnot rfl (fun c3 => ?_) (fun c3 => ?_)
  ·refine run ?_
   refine J.fin ?_
   unfold S.shapeS
   rw [if_neg (not_not_intro hr), if_pos fun ho => of_decide_eq_false c3 ?_]
   rw [← hzo]
   exact ho p.toNat (by omega)
  refine run ?_
  refine J.nextS (p + 1) ⟨rfl, trivial⟩ (by kernel_rfl) ⟨by omega, fun k hk => ?_⟩ (by omega)
  rcases Nat.lt_or_ge k p.toNat with h | h
  ·exact hI k h
  obtain rfl : k = p.toNat := by omega
  rw [hzo]
  exact of_decide_eq_true c3
 have ho : S.opensS g.m g.ids g.ops := fun k hk => hI k (by omega)
 refine run ?_
 refine J.regionX [(0, .q), (3, .q), (4, .q), (5, .q), (1, .e), (2, .q), (6, .q)] mixed (by kernel_rfl) ?_
 refine run ?_
 refine J.call rfl rfl (fun w' M => refOrder g w' (G.ext M.ext) he hr ho) fun q hq => ?_
 obtain ⟨hq1, hq2⟩ := hq
 rw [← hl] at hq2
 have hs := S.shape_end hr ho hq2
 refine run ?_
 refine J.ifd rfl (fun c3 => ?_) (fun c3 => ?_)
 ·refine run ?_
  refine J.fin ?_
  rw [hs, if_pos (by omega)]
 refine run ?_
 refine J.fin ?_
 rw [hs, if_neg (by omega)]
theorem refCheck {S0 : Nat → Prop} (g : GrA) (w : World) (G : GrR S0 w g) :
  Calls Tryz.prog 102 #[.agg (grC g).toArray] w (Ret w fun v _ => v = .int .i64 (S.chkG g.m g.ids g.ops)) := by
 have D0 := G.ids
 have G0 := G.ops
 have hl := G.len
 have hcp := G.cap
 refine J.enter 44 Tryz.func102 rfl rfl ?_
 refine run ?_
 refine J.box rfl rfl rfl fun b1 => ?_
 refine run ?_
 refine J.ifd rfl (fun c => ?_) (fun c => ?_)
 ·refine run ?_
  refine J.fin ?_
  unfold S.chkG
  rw [if_pos (by omega)]
 refine run ?_
 refine J.ifn rfl (fun c2 => ?_) (fun c2 => ?_)
 ·refine run ?_
  refine J.fin ?_
  unfold S.chkG
  rw [if_neg (by omega), if_pos (by omega)]
 refine run ?_
 have h8 : ∀ i, i < g.n → ¬ S.ownS (g.ops.getD i S.OpV.zero) (S.idAt g.ids i) → (8 : Int) = S.chkG g.m g.ids g.ops := fun i hi h => by
  unfold S.chkG
  rw [if_neg (by omega), if_neg (by omega), if_pos fun ho => h (ho i (by omega))]
 refine J.loopS (A := Int) (fun p => [(3, .int .i64 p)]) [15, 16, 17, 18, 19, 20, 21, 22, 23, 24, 25, 26, 27, 28, 29, 30, 31, 32, 33, 34, 35, 36, 37, 38, 39, 40, 41, 42] (fun p => (0 ≤ p ∧ p ≤ g.n) ∧ ∀ i, i < p.toNat → S.ownS (g.ops.getD i S.OpV.zero) (S.idAt g.ids i)) (fun p => g.n - p.toNat) 0 (by kernel_rfl) ⟨by omega, fun i hi => by omega⟩ (fun p j hI => ?_)
 obtain ⟨h1, hI⟩ := hI
 refine run ?_
 refine J.ifd rfl (fun c3 => ?_) (fun c3 => ?_)
 ·obtain ⟨z, hz⟩ := G0.ex (i := p) (by omega)
  have R := G.op hz
  have hzo := GrA.opAt hz
  have hsa : Arr .u8 32 (S.sha (S.encS z.o)) := S.sha_arr _
  have hid : Arr .u8 32 (elt 32 g.ids p.toNat) := D0.elt_arr (by omega)
  have h9 : ¬ S.ownS z.o (S.idAt g.ids p.toNat) → (8 : Int) = S.chkG g.m g.ids g.ops := fun h => h8 p.toNat (by omega) (by rw [hzo]; exact h)
  refine run ?_
  refine J.regionX [(0, .q), (1, .q), (2, .q), (3, .q), (4, .q), (5, .e), (6, .q), (7, .q), (8, .q), (9, .q), (10, .q), (11, .q), (12, .q), (14, .q), (15, .q), (16, .q), (17, .q), (18, .q), (13, .e), (19, .q), (20, .q)] mixed (by kernel_rfl) ?_
  refine run ?_
  refine J.callp rfl rfl (fun w' M => verifyOR z.o R.ok _ _ _ (R.row.ext M.ext) R.cap) ?_
  refine run ?_
  refine J.spn rfl rfl rfl (fun c4 => ?_) (fun c4 => ?_)
  ·refine run ?_
   refine J.fin (congrArg _ (h9 fun h => c4 h.1))
  have hz0 := S.check_zero.1 (S.verE_check c4)
  refine run ?_
  refine J.callp rfl rfl (fun w' M => ofO z.o R.ok _ _ _ (R.row.ext M.ext) R.cap hz0.1 (fun hk => ?_)) ?_
  ·exact S.fine4 hz0.2.2.2.2.2.2 hk
  refine run ?_
  refine J.ifd rfl (fun c5 => ?_) (fun c5 => ?_)
  ·refine run ?_
   exact J.fin (congrArg _ (h9 fun h => c5 h.2))
  refine run ?_
  refine J.nextS (p + 1) ⟨rfl, trivial⟩ (by kernel_rfl) ⟨by omega, fun i hi => ?_⟩ (by omega)
  rcases Nat.lt_or_ge i p.toNat with h | h
  ·exact hI i h
  obtain rfl : i = p.toNat := by omega
  rw [hzo]
  exact ⟨c4, Decidable.not_not.1 c5⟩
 refine run ?_
 refine J.callp rfl rfl (fun w' M => refShape g w' (G.ext M.ext) (by omega)) ?_
 refine run ?_
 refine J.fin ?_
 unfold S.chkG
 rw [if_neg (by omega), if_neg (by omega), if_neg (not_not_intro (show S.ownsS g.ids g.ops from fun i hi => hI i (by omega)))]
instance : Ents Tryz.prog 29 := ⟨.mk Tryz.func29 (by kernel_rfl) rfl⟩
def bigO (o : S.OpV) : Prop := 20 < o.n ∨ 100 < o.key.size ∨ 100 < o.t.size
structure GrI (S0 : Nat → Prop) (w : World) (g : GrA) : Prop where
 ids : WRow .u8 32 S0 w g.ia g.m g.ids
 ops : GRow opC 11 S0 w g.oa g.n g.zs
 inn : Inns opI S0 w g.zs
 rng : ∀ z ∈ g.zs, z.o.rng
 cap : g.m ≤ g.ic ∧ g.n ≤ g.oc
def GrSm (g : GrA) : Prop := g.m ≤ 70 ∧ g.n ≤ 70 ∧ ¬ (16 < g.n ∧ g.n ≤ 60) ∧ ∀ i, i < g.n → ¬ bigO (g.ops.getD i S.OpV.zero)
theorem GrI.ext {S0 : Nat → Prop} {w w' : World} {g : GrA} (h : GrI S0 w g) (x : Ext w w') : GrI S0 w' g := ⟨h.ids.ext x, h.ops.ext x, h.inn.ext x, h.rng, h.cap⟩
theorem GrI.gr {S0 : Nat → Prop} {w : World} {g : GrA} (h : GrI S0 w g) (hs : GrSm g) : GrR S0 w g := ⟨h.ids, h.ops, h.inn, fun z hz => by
 obtain ⟨i, hi, rfl⟩ := List.getElem_of_mem hz
 have h1 := hs.2.2.2 i (by rw [← h.ops.len]; exact hi)
 rw [GrA.opAt (List.getElem?_eq_getElem hi)] at h1
 exact (h.rng _ hz).ok h1, h.cap.1, h.cap.2, hs.1, hs.2.1⟩
theorem refGreat {S0 : Nat → Prop} (g : GrA) (w : World) (G : GrI S0 w g) :
  Calls Tryz.prog 13 #[.agg (grC g).toArray] w (Gv w (fun q : Bool => .bool q) (fun _ => []) fun q => q = false → GrSm g) := by
 have G0 := G.ops
 refine J.enter 42 Tryz.func13 rfl rfl ?_
 refine run ?_
 refine J.box rfl rfl rfl fun b1 => ?_
 refine run ?_
 refine J.loopS (A := Int) (fun p => [(3, .int .i64 p)]) [4, 5, 6, 7, 8, 9, 10, 11, 12, 13, 14, 15, 16, 17, 18, 19, 20] (fun p => (0 ≤ p ∧ p ≤ g.n ∧ p ≤ 71) ∧ ∀ k, k < p.toNat → ¬ bigO (g.ops.getD k S.OpV.zero)) (fun p => g.n - p.toNat) 0 (by kernel_rfl) ⟨by omega, fun k hk => by omega⟩ (fun p j hI => ?_)
 obtain ⟨h1, hI⟩ := hI
 refine run ?_
 have hend : ∀ {L : List Ent} {X : World → Prop}, (¬ (p < g.n) ∨ ¬ p ≤ 70) → ((g.n ≤ 70 → ∀ k, k < g.n → ¬ bigO (g.ops.getD k S.OpV.zero)) → J no w L X) → J no w L X := fun h k => k fun hn i hi => hI i (by omega)
 refine J.spd rfl rfl rfl (fun c1 => ?_) (fun c1 => ?_)
 ·refine run ?_
  refine J.ifd rfl (fun c2 => ?_) (fun c2 => ?_)
  ·obtain ⟨z, hz⟩ := G0.ex (i := p) (by omega)
   have hzo := GrA.opAt hz
   refine run ?_
   refine J.callp rfl rfl (fun w' M => great z.o z.pa z.pc w') ?_
   refine run ?_
   refine J.ifd rfl (fun c3 => ?_) (fun c3 => ?_)
   ·refine run ?_
    exact J.finG true rfl (fun h => by cases h) (List.nil_sublist _)
   refine run ?_
   refine J.nextS (p + 1) ⟨rfl, trivial⟩ (by kernel_rfl) ⟨by omega, fun k hk => ?_⟩ (by omega)
   rcases Nat.lt_or_ge k p.toNat with h | h
   ·exact hI k h
   obtain rfl : k = p.toNat := by omega
   rw [hzo]
   exact c3
  refine hend (.inr c2) fun hA => ?_
  refine run ?_
  refine J.spd rfl rfl rfl (fun c3 => ?_) (fun c3 => ?_)
  ·refine run ?_
   refine J.spd rfl rfl rfl (fun c4 => ?_) (fun c4 => ?_)
   ·refine run ?_
    exact J.finG true rfl (fun h => by cases h) (List.nil_sublist _)
   refine run ?_
   refine J.spd rfl rfl rfl (fun c5 => ?_) (fun c5 => ?_)
   ·refine run ?_
    exact J.finG true rfl (fun h => by cases h) (List.nil_sublist _)
   refine run ?_
   exact J.finG (decide ((70 : Int) < g.m)) rfl (fun h => by have := of_decide_eq_false h; exact ⟨by omega, by omega, by omega, hA (by omega)⟩) (List.nil_sublist _)
  refine run ?_
  refine J.spd rfl rfl rfl (fun c5 => ?_) (fun c5 => ?_)
  ·refine run ?_
   exact J.finG true rfl (fun h => by cases h) (List.nil_sublist _)
  refine run ?_
  exact J.finG (decide ((70 : Int) < g.m)) rfl (fun h => by have := of_decide_eq_false h; exact ⟨by omega, by omega, by omega, hA (by omega)⟩) (List.nil_sublist _)
 refine hend (.inl c1) fun hA => ?_
 refine run ?_
 refine J.spd rfl rfl rfl (fun c3 => ?_) (fun c3 => ?_)
 ·refine run ?_
  refine J.spd rfl rfl rfl (fun c4 => ?_) (fun c4 => ?_)
  ·refine run ?_
   exact J.finG true rfl (fun h => by cases h) (List.nil_sublist _)
  refine run ?_
  refine J.spd rfl rfl rfl (fun c5 => ?_) (fun c5 => ?_)
  ·refine run ?_
   exact J.finG true rfl (fun h => by cases h) (List.nil_sublist _)
  refine run ?_
  exact J.finG (decide ((70 : Int) < g.m)) rfl (fun h => by have := of_decide_eq_false h; exact ⟨by omega, by omega, by omega, hA (by omega)⟩) (List.nil_sublist _)
 refine run ?_
 refine J.spd rfl rfl rfl (fun c5 => ?_) (fun c5 => ?_)
 ·refine run ?_
  exact J.finG true rfl (fun h => by cases h) (List.nil_sublist _)
 refine run ?_
 exact J.finG (decide ((70 : Int) < g.m)) rfl (fun h => by have := of_decide_eq_false h; exact ⟨by omega, by omega, by omega, hA (by omega)⟩) (List.nil_sublist _)
end Go.Proofs.YtakbhjagiofbgaaGreatDoor.W
namespace Go.Proofs.YtakbhjagiofbgaaGreatDoor.L
open Go Go.Proofs.YtakbhjagiofbgaaGreatDoor Go.Proofs.YtakbhjagiofbgaaGreatDoor.G Go.Proofs.YtakbhjagiofbgaaGreatDoor.W
open Go.ChangeShapes Go.WideShapes Go.ChangeAt Go.RowKit
set_option linter.unusedVariables false
set_option maxRecDepth 100000
section
variable {H : Type} {enc : TypeId × Value → H} {P : Program} {w : World} {base : Nat} {sp : Nat → Bool} {held : Bool} {fuel : Nat} {cs : List Value} {x : DataW H × List MemPlace} {t : TypeId}
theorem grow_in {α : Type} {e sz : Nat} (f : α → List Value) (Q : α → Prop) (d : α) (hf : ∀ x, (f x).length = sz) (ht : P.underlying t = some (.slice e)) (hes : P.cellsOf e = sz) (hz : 0 < sz)
    (h1 : ∀ m ds y, DataW.trod enc P w base sp held m e ds = some y → ∃ z, ds = f z ∧ Q z) (h : DataW.trod enc P w base sp held fuel t cs = some x) :
    ∃ a n c zs, cs = [.slice a n c] ∧ n ≤ c ∧ GRow f sz (fun _ => True) w a n zs ∧ ∀ z ∈ zs, Q z := by
  rcases DataW.trod_slice ht h with ⟨h2, _⟩ | ⟨a, len, cap, elems, rest, m, _, h2, _, _, hlc, _, hel, he, _⟩
  · exact ⟨none, 0, 0, [], h2, Nat.le_refl _, .nil hf, fun z hz => by cases hz⟩
  · refine ⟨some a, len, cap, ?_⟩
    by_cases h0 : len = 0
    · subst h0
      exact ⟨[], h2, hlc, .nil hf, fun z hz => by cases hz⟩
    · have one : ∀ i, i < len → ∃ z, Q z ∧ ∀ j, j < sz → w.cell? ((a.add (i * sz)).add j) = (f z)[j]? := by
        intro i hi
        have h3 := he i hi
        rw [List.getElem?_eq_getElem (by omega), hes] at h3
        cases hc : w.cells? base (a.add (i * sz)) sz with
        | none => rw [hc] at h3; cases h3
        | some ds =>
          rw [hc, Option.bind_some] at h3
          obtain ⟨z, h4, h5⟩ := h1 _ _ _ h3
          obtain ⟨h6, h7⟩ := cells_in hc
          exact ⟨z, h5, fun j hj => by rw [h7 j hj, h4]⟩
      obtain ⟨b0, o, spot⟩ := a
      obtain rfl : spot = none := by
        obtain ⟨z, _, h3⟩ := one 0 (by omega)
        have h4 := h3 0 hz
        rw [List.getElem?_eq_getElem (by rw [hf]; exact hz)] at h4
        have := World.cell?_spot h4
        simpa [Addr.add] using this
      obtain ⟨zs, h3, h4⟩ := list_of d (fun i z => Q z ∧ ∀ j, j < sz → w.cell? ⟨b0, o + (i * sz + j), none⟩ = (f z)[j]?) len (fun i hi => by
        obtain ⟨z, h5, h6⟩ := one i hi
        exact ⟨z, h5, fun j hj => by have := h6 j hj; rw [add_mk, add_mk, Nat.add_assoc] at this; exact this⟩)
      refine ⟨zs, h2, hlc, ⟨.inr ⟨b0, o, rfl, trivial, fun j hj => ?_⟩, h3, hf⟩, fun z hz => ?_⟩
      · rw [flat_len f sz hf, h3] at hj
        have hi : j / sz < len := Nat.div_lt_of_lt_mul hj
        have hm := Nat.mod_lt j hz
        have h5 := (h4 _ hi).2 _ hm
        rw [Nat.mul_comm (j / sz), Nat.div_add_mod] at h5
        have hg := flat_get f sz hf d zs (j / sz) (by omega)
        have e2 := congrArg (fun t => t[j % sz]?) hg
        simp only [List.getElem?_take, if_pos hm, List.getElem?_drop, Nat.div_add_mod] at e2
        rw [h5, ← e2, List.getD_eq_getElem?_getD, List.getElem?_eq_getElem (by rw [flat_len f sz hf, h3]; exact hj)]
        rfl
      · obtain ⟨j, hj, rfl⟩ := List.getElem_of_mem hz
        have := (h4 j (by omega)).1
        rw [List.getD_eq_getElem?_getD, List.getElem?_eq_getElem hj] at this
        exact this
end
theorem z_ops : Tryz.prog.cellsOf 23 = 1 := by kernel_rfl
theorem z_gr : Tryz.prog.cellsOf 25 = 2 := by kernel_rfl
section
variable {H : Type} {enc : TypeId × Value → H} {w : World} {base : Nat} {sp : Nat → Bool} {held : Bool} {fuel : Nat} {cs : List Value} {x : DataW H × List MemPlace}
theorem ops_in (h : DataW.trod enc Tryz.prog w base sp held fuel 23 cs = some x) : ∃ a n c zs, cs = [.slice a n c] ∧ n ≤ c ∧ GRow opC 11 (fun _ => True) w a n zs ∧ ∀ z ∈ zs, z.o.rng ∧ z.o.n ≤ z.pc ∧ WRow .u8 32 (fun _ => True) w z.pa z.o.n z.o.ids :=
  grow_in opC (fun z => z.o.rng ∧ z.o.n ≤ z.pc ∧ WRow .u8 32 (fun _ => True) w z.pa z.o.n z.o.ids) ⟨S.OpV.zero, none, 0⟩ (fun _ => rfl) Tryz.underlying23 z_op (by decide) (fun m ds y hd => by
    obtain ⟨o, pa, pc, h1, h2, h3, h4⟩ := op_in hd
    exact ⟨⟨o, pa, pc⟩, h1, h2, h3, h4⟩) h
theorem graph_in (h : DataW.trod enc Tryz.prog w base sp held fuel 25 cs = some x) : ∃ g, cs = grC g ∧ GrI (fun _ => True) w g := by
  have hl := (fields_in Tryz.underlying25 h).1
  rw [z_gr] at hl
  match cs, hl, h with
  | [c0, c1], _, h =>
    obtain ⟨_, _, f0⟩ := field_in 0 Tryz.underlying25 rfl z_ids h
    obtain ⟨_, _, f1⟩ := field_in 1 Tryz.underlying25 rfl z_ops h
    obtain ⟨ia, m, ic, ids, e0, hc0, hR0⟩ := ids_in Tryz.underlying22 Tryz.underlying43 Tryz.underlying5 z_u8 z_id (by decide) f0
    obtain ⟨oa, n, oc, zs, e1, hc1, hR1, hQ⟩ := ops_in f1
    have q0 : [c0] = [Value.slice ia m ic] := e0
    have q1 : [c1] = [Value.slice oa n oc] := e1
    simp only [List.cons.injEq, and_true] at q0 q1
    subst q0 q1
    refine ⟨⟨ia, oa, m, n, ic, oc, ids, zs⟩, rfl, hR0, hR1, fun z hz i hi => ?_, fun z hz => (hQ z hz).1, hc0, hc1⟩
    obtain rfl := List.mem_singleton.1 hi
    exact ⟨(hQ z hz).2.2, (hQ z hz).2.1⟩
end
end Go.Proofs.YtakbhjagiofbgaaGreatDoor.L
namespace Go.Proofs.YtakbhjagiofbgaaGreatDoor.W
open Go.RowKit Go.Proofs.YtakbhjagiofbgaaGreatDoor.G
@[reducible] def rgC (x : S.RgV) : List Value := .string x.key :: .int .u8 x.vk :: .int .i64 x.num :: .int .u64 x.bits :: .string x.t :: .int .u64 x.st :: ints .u8 x.id
theorem rgC_len (x : S.RgV) : (rgC x).length = 38 := by simp [rgC, ints_length, x.h32]
theorem rgC_cell (x : S.RgV) : ∀ u ∈ rgC x, cellB u = true := by
  intro u hu
  simp only [rgC, List.mem_cons] at hu
  rcases hu with rfl | rfl | rfl | rfl | rfl | rfl | hu <;> first | rfl | exact List.all_eq_true.1 (ints_cellB _ _) u hu
instance (x : S.RgV) : LenC (rgC x) 38 := ⟨rgC_len x, List.all_eq_true.2 (rgC_cell x)⟩
@[reducible] def stC (s : ByteArray) : List Value := [.string s]
@[reducible] def inC (q : Int) : List Value := [.int .i64 q]
theorem gown_e {α : Type} {f : α → List Value} {sz : Nat} {e : TypeId} {a : Option Addr} {n c : Nat} {lst : List α} {S : Nat → Prop} {w : World} (h : (Ent.gown f sz e a n c lst).ok S w) : GOwn f sz 0 w e a n c lst ∧ ∀ b, obk a = some b → S b := h
section
variable {S0 : Nat → Prop} {w0 : World} {L : List Ent} {P : Program} {Q : Exit → Act → World → Prop} {l : List Value} {x y : Code} {o : Operand} {s t : ByteArray}
end
structure RsR (S0 : Nat → Prop) (w : World) (a : Option Addr) (n c : Nat) (l : List S.RgV) : Prop where
  row : GRow rgC 38 S0 w a n l
  ok : ∀ x ∈ l, x.ok
  cap : n ≤ c
  n : n ≤ 100
section
variable {S0 : Nat → Prop} {w w' : World} {a : Option Addr} {n c : Nat} {l : List S.RgV}
theorem RsR.ext (h : RsR S0 w a n c l) (x : Ext w w') : RsR S0 w' a n c l := ⟨h.row.ext x, h.ok, h.cap, h.n⟩
theorem RsR.len (h : RsR S0 w a n c l) : l.length = n := h.row.len
end
end Go.Proofs.YtakbhjagiofbgaaGreatDoor.W
namespace Go.Proofs.YtakbhjagiofbgaaGreatDoor.S
open G
set_option linter.unusedVariables false
@[reducible] def idX (o : OpV) : List Int := if checkE o = 0 then sha (encS o) else List.replicate 32 0
/-! what is put -/
/-! operations of a graph -/
def setI (ops : List OpV) (i : Nat) : Prop := (ops.getD i OpV.zero).k = 4
instance (ops : List OpV) (i : Nat) : Decidable (setI ops i) := by unfold setI; infer_instance
/-! an operation that is applied -/
theorem OpV.ext' {a b : OpV} (h1 : a.au = b.au) (h2 : a.st = b.st) (h3 : a.k = b.k) (h4 : a.vk = b.vk) (h5 : a.num = b.num) (h6 : a.bits = b.bits) (h7 : a.e = b.e) (h8 : a.s = b.s) (h9 : a.n = b.n) (h10 : a.ids = b.ids) (h11 : a.key = b.key) (h12 : a.t = b.t) : a = b := by
  cases a; cases b; simp only at h1 h2 h3 h4 h5 h6 h7 h8 h9 h10 h11 h12; subst h1 h2 h3 h4 h5 h6 h7 h8 h9 h10 h11 h12; rfl
instance : DecidableEq OpV := fun a b => decidable_of_iff (a.au = b.au ∧ a.st = b.st ∧ a.k = b.k ∧ a.vk = b.vk ∧ a.num = b.num ∧ a.bits = b.bits ∧ a.e = b.e ∧ a.s = b.s ∧ a.n = b.n ∧ a.ids = b.ids ∧ a.key = b.key ∧ a.t = b.t)
  ⟨fun ⟨h1, h2, h3, h4, h5, h6, h7, h8, h9, h10, h11, h12⟩ => OpV.ext' h1 h2 h3 h4 h5 h6 h7 h8 h9 h10 h11 h12, fun h => by subst h; exact ⟨rfl, rfl, rfl, rfl, rfl, rfl, rfl, rfl, rfl, rfl, rfl, rfl⟩⟩
end Go.Proofs.YtakbhjagiofbgaaGreatDoor.S
namespace Go.Proofs.YtakbhjagiofbgaaGreatDoor.W
open Go.RowKit Go.Proofs.YtakbhjagiofbgaaGreatDoor.G
set_option linter.unusedVariables false
def opE (T : TypeId) (z : OpA) : Ent := .wown T .u8 32 z.pa z.o.n z.pc z.o.ids
instance (z : OpA) : LenC (opC z) 11 := ⟨rfl, rfl⟩
theorem wown_e {e : TypeId} {k : IntKind} {sz : Nat} {a : Option Addr} {n c : Nat} {xs : List Int} {S : Nat → Prop} {w : World} (h : (Ent.wown e k sz a n c xs).ok S w) : WOwn 0 w e k sz a n c xs ∧ ∀ b, obk a = some b → S b := h
theorem wown_row {e : TypeId} {k : IntKind} {sz : Nat} {a : Option Addr} {n c : Nat} {xs : List Int} {S : Nat → Prop} {w : World} (h : (Ent.wown e k sz a n c xs).ok S w) : WRow k sz S w a n xs := wown_wrow h
theorem all_e {E : List Ent} {S : Nat → Prop} {w : World} (h : (Ent.all E).ok S w) : Sep E S w := h
theorem sep_mem : ∀ {E : List Ent} {S : Nat → Prop} {w : World} {e : Ent}, e ∈ E → Sep E S w → ∃ S', (∀ b, S' b → S b) ∧ e.ok S' w
  | _ :: _, _, _, _, .head _, ⟨A, _, h1, _, _, h4, _⟩ => ⟨A, h1, h4⟩
  | _ :: _, _, _, _, .tail _ h, ⟨_, B, _, h2, _, _, h5⟩ => let ⟨S', k1, k2⟩ := sep_mem h h5; ⟨S', fun b hb => h2 b (k1 b hb), k2⟩
theorem sep_inns {T : TypeId} {zs : List OpA} {S : Nat → Prop} {w : World} (h : Sep (zs.map (opE T)) S w) (hc : ∀ z ∈ zs, z.o.n ≤ z.pc) : Inns opI S w zs := by
  intro z hz i hi
  obtain rfl := List.mem_singleton.1 hi
  obtain ⟨S', k1, k2⟩ := sep_mem (List.mem_map.2 ⟨z, hz, rfl⟩) h
  exact ⟨(wown_row k2).weaken fun b _ hb => k1 b hb, hc z hz⟩
theorem Inns.weak {α : Type} {g : α → List Inn} {S T : Nat → Prop} {w : World} {l : List α} (h : Inns g S w l) (k : ∀ b, S b → T b) : Inns g T w l := fun x hx i hi => ⟨(h x hx i hi).1.weaken fun b _ hb => k b hb, (h x hx i hi).2⟩
section
variable {S0 : Nat → Prop} {w0 : World} {L : List Ent} {X : World → Prop} {e : Ent} {E : List Ent}
end
section
variable {S0 : Nat → Prop} {w0 : World} {L : List Ent} {P : Program} {ops : Array Oper} {K : List Value → World → Prop} {rest : List (Oper × Kd)} {l : List Value} {m : Md} {d : Tmp} {ty : TypeId} {pos : String} {af : Array Edge} {kd : Kd} {t e : TypeId} {by_ sz : Nat} {k : IntKind} {zs : List Value}
theorem J.b0W [U : Und P t (.slice e)] [I : Inf P e sz by_ zs] (k : IntKind) {l' : Nat → List Value} (hk : okE m kd = true) (kk : ∀ b, J S0 w0 (.wown e k sz (some ⟨b, 0, none⟩) 0 0 [] :: L) (RY S0 w0 m P ops K rest (l' b)))
    (hl : ∀ b, l.set d (.slice (some ⟨b, 0, none⟩) 0 0) = l' b := by intro b; dsimp only [List.set]) : J S0 w0 L (RY S0 w0 m P ops K ((⟨some d, .buildSlice t 0 #[], ty, pos, af, none⟩, kd) :: rest) l) :=
  J.eff hk fun w M K' hK => RS.buildNone U.h I.h fun b w' e1 s1 x1 B => RS.nil (hK _ w' x1 (by
    rw [hl]
    exact kk b w' (M.new x1 ⟨WOwn.of_blk (xs := []) B rfl rfl (Nat.zero_le _) (Bd.nil _) (by decide), fun q hq => by simp [obk] at hq; subst hq; subst e1; exact Nat.le_refl _⟩)))
end
theorem GrR.own {S0 : Nat → Prop} {w0 : World} {L : List Ent} {g : GrA} {TI TO : TypeId} {F1 : Option Addr → Nat → Nat → List OpA → List Ent} {F2 : Option Addr → Nat → Nat → List Int → List Ent} {F3 : Ent → List Ent}
    [R1 : GO L g.oa opC 11 TO g.n g.oc g.zs F1] [R2 : RWO L g.ia TI .u8 32 g.m g.ic g.ids F2] [R3 : RE L (.all (g.zs.map (opE TI))) F3] (hok : ∀ z ∈ g.zs, z.o.ok) (hc : ∀ z ∈ g.zs, z.o.n ≤ z.pc) (hm : g.m ≤ 70 ∧ g.n ≤ 70) (w : World) (M : Mem S0 w0 L w) : GrR (fun _ => True) w g := by
  obtain ⟨A, _, a⟩ := M.get (R1.h g.oa g.n g.oc g.zs).same
  obtain ⟨B, _, b⟩ := M.get (R2.h g.ia g.m g.ic g.ids).same
  obtain ⟨C, _, c⟩ := M.get (R3.h (.all (g.zs.map (opE TI)))).same
  have a := (gown_e a).1
  have b' := wown_row b
  have b := (wown_e b).1
  exact ⟨b'.weaken fun _ _ _ => trivial, a.row.weaken fun _ _ _ => trivial, Inns.weak (sep_inns (all_e c) hc) fun _ _ => trivial, hok, (wown_len (S := fun _ => True) ⟨b, fun _ _ => trivial⟩).2, a.capn, hm⟩
structure GrP (m : Nat) (ids : List Int) (ops : List S.OpV) (g : GrA) : Prop where
  m : g.m = m
  ids : g.ids = ids
  n : g.n = ops.length
  ops : g.ops = ops
  cap : ∀ z ∈ g.zs, z.o.n ≤ z.pc
theorem GrP.ok {m : Nat} {ids : List Int} {ops : List S.OpV} {g : GrA} (h : GrP m ids ops g) (ho : ∀ o ∈ ops, o.ok) : ∀ z ∈ g.zs, z.o.ok := fun z hz => ho _ (by rw [← h.ops]; unfold GrA.ops; exact List.mem_map.2 ⟨z, hz, rfl⟩)
end Go.Proofs.YtakbhjagiofbgaaGreatDoor.W
namespace Go.Proofs.YtakbhjagiofbgaaGreatDoor.S
open G
set_option linter.unusedVariables false
structure PG where
  (m : Nat) (ids : List Int) (ops : List OpV)
def PG.good (g : PG) : Prop := g.ids.length = 32 * g.m ∧ g.ops.length = g.m
def PG.has (g : PG) (x : List Int) (o : OpV) : Prop := ∃ i, i < g.m ∧ idAt g.ids i = x ∧ g.ops.getD i OpV.zero = o
section
variable {g h : PG} {x y : List Int} {o u : OpV}
/-! the same -/
end
/-! orders by ids -/
section
variable {g h : PG} {x y : List Int} {o u : OpV}
end
@[reducible] def idOf (o : OpV) : List Int := sha (encS o)
noncomputable def chkP (g : PG) : Int := chkG g.m g.ids g.ops
def PG.nil : PG := ⟨0, [], []⟩
/-! lists -/
/-! unions -/
open Classical in
/-! comparisons -/
end Go.Proofs.YtakbhjagiofbgaaGreatDoor.S
namespace Go.Proofs.YtakbhjagiofbgaaGreatDoor.W
open Go.RowKit Go.Proofs.YtakbhjagiofbgaaGreatDoor.G
set_option linter.unusedVariables false
structure IdV where
  (xs : List Int) (h : xs.length = 32)
@[reducible] def idC (x : IdV) : List Value := ints .u8 x.xs
theorem idC_len (x : IdV) : (idC x).length = 32 := by rw [ints_length, x.h]
instance (x : IdV) : LenC (idC x) 32 := ⟨idC_len x, ints_cellB _ _⟩
section
variable {S : Nat → Prop} {w : World} {T : TypeId} {a : Option Addr} {n c : Nat} {l : List IdV} {xs : List Int}
end
section
variable {S0 : Nat → Prop} {w0 : World} {L : List Ent} {P : Program} {ops : Array Oper} {K : List Value → World → Prop} {rest : List (Oper × Kd)} {l : List Value} {m : Md} {d : Tmp} {ty t e : TypeId} {pos : String} {af : Array Edge} {kd : Kd} {by_ : Nat} {zs : List Value} {x y : Operand}
end
end Go.Proofs.YtakbhjagiofbgaaGreatDoor.W
namespace Go.Proofs.YtakbhjagiofbgaaGreatDoor.W
open Go.RowKit Go.Proofs.YtakbhjagiofbgaaGreatDoor.G
set_option linter.unusedVariables false
set_option linter.unusedSimpArgs false
set_option maxRecDepth 20000
set_option maxHeartbeats 8000000
attribute [local irreducible] RS RX RY Code.wp bodyPost J Ent.blk Ent.irow Ent.iown Ent.wrow Ent.wown Ent.grow Ent.gown Ent.all Ent.emp
instance : Ents Tryz.prog 100 := ⟨.mk Tryz.func100 (by kernel_rfl) rfl⟩
instance : Siz Tryz.prog 23 1 := ⟨by kernel_rfl⟩
instance : Ents Tryz.prog 56 := ⟨.mk Tryz.func56 (by kernel_rfl) rfl⟩
instance : Ents Tryz.prog 35 := ⟨.mk Tryz.func35 (by kernel_rfl) rfl⟩
structure GtA where
 (n : Nat) (a : Option Addr) (c : Nat) (zs : List OpA)
theorem GrR.opz {S0 : Nat → Prop} {w : World} {g : GrA} (h : GrR S0 w g) : ∀ o ∈ g.ops, o.ok := fun o ho => by
 unfold GrA.ops at ho
 obtain ⟨z, hz, rfl⟩ := List.mem_map.1 ho
 exact h.ok z hz
end Go.Proofs.YtakbhjagiofbgaaGreatDoor.W
namespace Go.Proofs.YtakbhjagiofbgaaGreatDoor.G
open Go.RowKit
set_option linter.unusedVariables false
def WX (S0 : Nat → Prop) (w0 : World) (Lq : List Ent) (P : Program) (l0 : List Oper) (K : List Value → World → Prop) (n : Nat) (li : Array Bool) (l : List Value) (w : World) : Prop :=
  Closed l0.toArray li → wpX P l0.toArray (MR S0 w0 Lq) [] (fun a w => ∃ l, a = fr l ∧ K l w) n li (fr l) w
def BR (S0 : Nat → Prop) (w0 : World) (Lq : List Ent) (P : Program) (l0 : List Oper) (K : List Value → World → Prop) (n : Nat) (li : Array Bool) : List Nat → List Value → World → Prop
  | [], _, _ => True
  | i :: rd, l, w => RX P l0.toArray (MR S0 w0 Lq) (WX S0 w0 Lq P l0 K n (li.setIfInBounds i true)) [(nth l0 i, .e)] l w ∧ BR S0 w0 Lq P l0 K n li rd l w
section
variable {S0 : Nat → Prop} {w0 : World} {L Lq : List Ent} {P : Program} {Q : Exit → Act → World → Prop} {l : List Value} {id n n' : Nat} {l0 : List Oper} {K : List Value → World → Prop} {li : Array Bool} {rd : List Nat}
theorem BR.get {k : Nat} {w : World} : ∀ {rd : List Nat}, BR S0 w0 Lq P l0 K n li rd l w → k ∈ rd → RX P l0.toArray (MR S0 w0 Lq) (WX S0 w0 Lq P l0 K n (li.setIfInBounds k true)) [(nth l0 k, .e)] l w
  | _ :: _, h, .head _ => h.1
  | _ :: _, h, .tail _ hk => BR.get h.2 hk
theorem J.front {X : World → Prop} {F : Ent → List Ent} (e : Ent) [R : RE L e F] (k : J S0 w0 (e :: F .emp) X) : J S0 w0 L X := fun w M => by
  exact k w (M.split (R.h .emp) fun S h => ⟨no, S, fun _ h => h.elim, fun _ h => h, fun _ h => h.elim, trivial, h⟩)
theorem D.buildA0 {ev0 : Operand → Value} {w : World} {dd : Option Tmp} {ty t e n by_ : Nat} {pos : String} {af : Array Edge} {g : Option (Nat × Bool)} {z : List Value} (hu : P.underlying t = some (.array n e)) (ht : TI P t n by_ z) (hs : P.cellsOf e = 1) :
    (execOp ev0 ⟨dd, .build t #[], ty, pos, af, g⟩).run P w = .ok (.value (.agg z.toArray)) w := by
  obtain ⟨i, v, i1, i2, i3, i4, i5⟩ := ht
  have hz1 : (zeroValue t).run P w = .ok v w := by simp [zeroValue, typeInfo, i1, i4]
  have hsz : (sizeOf e).run P w = .ok 1 w := size_run hs (by decide)
  simp [execOp, Instr.build, Sem.run_bind, hz1, Result.andThen, run_underlying hu, hsz, i5, Instr.fill]
theorem J.bz {ops : Array Oper} {rest : List (Oper × Kd)} {l' : List Value} {m : Md} {kd : Kd} {d : Tmp} {ty xt e n by_ : Nat} {pos : String} {af : Array Edge} {zs : List Value} [U : Und P xt (.array n e)] [I : Inf P xt n by_ zs] [Z : Siz P e 1] (hk : pureK kd = true) (k : J S0 w0 L (RY S0 w0 m P ops K rest l')) (hl : l.set d (.agg zs.toArray) = l' := by dsimp only [List.set]) :
    J S0 w0 L (RY S0 w0 m P ops K ((⟨some d, .build xt #[], ty, pos, af, none⟩, kd) :: rest) l) := J.pur hk (fun _ => D.buildA0 U.h I.h Z.h) k hl
end
end Go.Proofs.YtakbhjagiofbgaaGreatDoor.G
namespace Go.Proofs.YtakbhjagiofbgaaGreatDoor.W
open Go.RowKit Go.Proofs.YtakbhjagiofbgaaGreatDoor.G
set_option linter.unusedVariables false
set_option linter.unusedSimpArgs false
set_option maxRecDepth 20000
set_option maxHeartbeats 8000000
attribute [local irreducible] RS RX RY Code.wp bodyPost J Ent.blk Ent.irow Ent.iown Ent.wrow Ent.wown Ent.grow Ent.gown Ent.all Ent.emp
instance : Ents Tryz.prog 246 := ⟨.mk Tryz.func246 (by kernel_rfl) rfl⟩
instance : Ents Tryz.prog 188 := ⟨.mk Tryz.func188 (by kernel_rfl) rfl⟩
instance : Ents Tryz.prog 129 := ⟨.mk Tryz.func129 (by kernel_rfl) rfl⟩
instance : Ents Tryz.prog 118 := ⟨.mk Tryz.func118 (by kernel_rfl) rfl⟩
instance : Ents Tryz.prog 189 := ⟨.mk Tryz.func189 (by kernel_rfl) rfl⟩
instance : Ents Tryz.prog 116 := ⟨.mk Tryz.func116 (by kernel_rfl) rfl⟩
instance : Ents Tryz.prog 117 := ⟨.mk Tryz.func117 (by kernel_rfl) rfl⟩
@[reducible] def GrA.P (g : GrA) : S.PG := ⟨g.m, g.ids, g.ops⟩
def GrA.nil : GrA := ⟨none, none, 0, 0, 0, 0, [], []⟩
theorem GrP.nil : GrP S.PG.nil.m S.PG.nil.ids S.PG.nil.ops GrA.nil := ⟨rfl, rfl, rfl, rfl, fun z hz => by cases hz⟩
instance : Fld Tryz.prog 54 0 0 := ⟨_, _, 1, Tryz.underlying54, rfl, by kernel_rfl, by decide, rfl⟩
instance : Sca Tryz.prog 48 := ⟨_, Tryz.underlying48, rfl⟩
instance : Und Tryz.prog 48 (.int .u32) := ⟨Tryz.underlying48⟩
instance : Fld Tryz.prog 54 2 2 := ⟨_, _, 1, Tryz.underlying54, rfl, by kernel_rfl, by decide, rfl⟩
instance : Sca Tryz.prog 38 := ⟨_, Tryz.underlying38, rfl⟩
instance : Und Tryz.prog 38 (.int .u64) := ⟨Tryz.underlying38⟩
instance : Fld Tryz.prog 54 3 3 := ⟨_, _, 6, Tryz.underlying54, rfl, by kernel_rfl, by decide, rfl⟩
instance : Agg Tryz.prog 50 6 := ⟨_, Tryz.underlying50, rfl, by kernel_rfl⟩
instance : Fld Tryz.prog 54 4 9 := ⟨_, _, 2, Tryz.underlying54, rfl, by kernel_rfl, by decide, rfl⟩
instance : Agg Tryz.prog 52 2 := ⟨_, Tryz.underlying52, rfl, by kernel_rfl⟩
instance : Ents Tryz.prog 130 := ⟨.mk Tryz.func130 (by kernel_rfl) rfl⟩
instance : Ents Tryz.prog 127 := ⟨.mk Tryz.func127 (by kernel_rfl) rfl⟩
instance : Und Tryz.prog 138 (.slice 25) := ⟨Tryz.underlying138⟩
end Go.Proofs.YtakbhjagiofbgaaGreatDoor.W
namespace Go.Proofs.YtakbhjagiofbgaaGreatDoor.S
open G
set_option linter.unusedVariables false
theorem getD_at {α : Type} {l : List α} {d : α} {i : Nat} (h : i < l.length) : l.getD i d = l[i] := by rw [List.getD_eq_getElem?_getD, List.getElem?_eq_getElem h]; rfl
/-! lists -/
/-! one by one -/
/-! what is added -/
/-! unions -/
/-! comparisons -/
def eqP (a b : PG) : Prop := a.ids = b.ids ∧ a.ops = b.ops
instance (a b : PG) : Decidable (eqP a b) := by unfold eqP; infer_instance
end Go.Proofs.YtakbhjagiofbgaaGreatDoor.S
namespace Go.Proofs.YtakbhjagiofbgaaGreatDoor.W
open Go.RowKit Go.Proofs.YtakbhjagiofbgaaGreatDoor.G
set_option linter.unusedVariables false
set_option linter.unusedSimpArgs false
set_option maxRecDepth 20000
set_option maxHeartbeats 8000000
attribute [local irreducible] RS RX RY Code.wp bodyPost J Ent.blk Ent.irow Ent.iown Ent.wrow Ent.wown Ent.grow Ent.gown Ent.all Ent.emp
instance : Ents Tryz.prog 126 := ⟨.mk Tryz.func126 (by kernel_rfl) rfl⟩
instance : Ents Tryz.prog 131 := ⟨.mk Tryz.func131 (by kernel_rfl) rfl⟩
instance : Ents Tryz.prog 112 := ⟨.mk Tryz.func112 (by kernel_rfl) rfl⟩
instance : Ents Tryz.prog 14 := ⟨.mk Tryz.func14 (by kernel_rfl) rfl⟩
instance : Ents Tryz.prog 102 := ⟨.mk Tryz.func102 (by kernel_rfl) rfl⟩
instance : Ents Tryz.prog 124 := ⟨.mk Tryz.func124 (by kernel_rfl) rfl⟩
instance : Ents Tryz.prog 18 := ⟨.mk Tryz.func18 (by kernel_rfl) rfl⟩
instance : Ents Tryz.prog 13 := ⟨.mk Tryz.func13 (by kernel_rfl) rfl⟩
theorem GrP.sz {P : S.PG} {q : GrA} (h : GrP P.m P.ids P.ops q) (hs : P.good ∧ P.m ≤ 60) : q.m ≤ 70 ∧ q.n ≤ 70 := by
 have := h.m
 have := h.n
 have := hs.1.2
 omega
theorem GrP.nm {P : S.PG} {q : GrA} (h : GrP P.m P.ids P.ops q) (hs : P.good) : q.n = q.m := by
 have := h.m
 have := h.n
 have := hs.2
 omega
theorem GrP.P {P : S.PG} {q : GrA} (h : GrP P.m P.ids P.ops q) : q.P = P := by
 unfold GrA.P
 rw [h.m, h.ids, h.ops]
end Go.Proofs.YtakbhjagiofbgaaGreatDoor.W
namespace Go.Proofs.YtakbhjagiofbgaaGreatDoor.S
open G
set_option linter.unusedVariables false
/-! predecessors -/
def preE (n : Nat) (ids : List Int) : Int := if 60 < n then 4 else if Rising n ids then 0 else 32
def preN (n : Nat) (ids : List Int) : Nat := if preE n ids = 0 then min n 4 else 0
def preL (n : Nat) (ids : List Int) : List Int := if preE n ids = 0 then ids.take (32 * min n 4) else []
theorem preE_4 {n : Nat} {ids : List Int} (h : 60 < n) : preE n ids = 4 := if_pos h
theorem preE_32 {n : Nat} {ids : List Int} (h : ¬ 60 < n) (h2 : ¬ Rising n ids) : preE n ids = 32 := by unfold preE; rw [if_neg h, if_neg h2]
theorem preE_0 {n : Nat} {ids : List Int} (h : ¬ 60 < n) (h2 : Rising n ids) : preE n ids = 0 := by unfold preE; rw [if_neg h, if_pos h2]
theorem pre_no {n : Nat} {ids : List Int} (h : preE n ids ≠ 0) : preN n ids = 0 ∧ preL n ids = [] := ⟨if_neg h, if_neg h⟩
theorem pre_yes {n : Nat} {ids : List Int} (h : preE n ids = 0) : preN n ids = min n 4 ∧ preL n ids = ids.take (32 * min n 4) := ⟨if_pos h, if_pos h⟩
theorem preN_le (n : Nat) (ids : List Int) : preN n ids ≤ 4 := by
  unfold preN
  split <;> omega
/-! stamps -/
def stp (m : Int) (o : OpV) : Int := if o.st + 1 > m then o.st + 1 else m
def stq (m : Int) (o : OpV) : Int := if o.st > m then o.st else m
def nxtS (l : List OpV) : Int := l.foldl stp 0
def mstS (l : List OpV) : Int := l.foldl stq 0
theorem nxt_step {l : List OpV} {i : Nat} (hi : i < l.length) : nxtS (l.take (i + 1)) = stp (nxtS (l.take i)) (l.getD i OpV.zero) := by
  unfold nxtS
  rw [List.take_succ_eq_append_getElem hi, List.foldl_append, getD_at hi]
  rfl
theorem mst_step {l : List OpV} {i : Nat} (hi : i < l.length) : mstS (l.take (i + 1)) = stq (mstS (l.take i)) (l.getD i OpV.zero) := by
  unfold mstS
  rw [List.take_succ_eq_append_getElem hi, List.foldl_append, getD_at hi]
  rfl
theorem nxt_mst0 : ∀ (l : List OpV) (m : Int), l.foldl stp (m + 1) = l.foldl stq m + 1
  | [], m => rfl
  | o :: l, m => by
    rw [List.foldl_cons, List.foldl_cons]
    have e : stp (m + 1) o = stq m o + 1 := by
      unfold stp stq
      split <;> split <;> omega
    rw [e]
    exact nxt_mst0 l _
theorem nxt_mst {l : List OpV} (h : ∀ o ∈ l, 0 ≤ o.st) (hl : l ≠ []) : nxtS l = mstS l + 1 := by
  cases l with
  | nil => exact absurd rfl hl
  | cons o l =>
    unfold nxtS mstS
    rw [List.foldl_cons, List.foldl_cons]
    have h0 := h o (List.mem_cons_self ..)
    have e : stp 0 o = stq 0 o + 1 := by
      unfold stp stq
      split <;> split <;> omega
    rw [e]
    exact nxt_mst0 l _
theorem mst_le0 {k : Int} : ∀ (l : List OpV) (m : Int), m ≤ k → (∀ o ∈ l, o.st ≤ k) → l.foldl stq m ≤ k
  | [], m, h, _ => h
  | o :: l, m, h, h2 => by
    rw [List.foldl_cons]
    refine mst_le0 l _ ?_ fun u hu => h2 u (List.mem_cons_of_mem _ hu)
    have := h2 o (List.mem_cons_self ..)
    unfold stq
    split <;> omega
theorem mst_le {k : Int} {l : List OpV} (hk : 0 ≤ k) (h : ∀ o ∈ l, o.st ≤ k) : mstS l ≤ k := mst_le0 l 0 hk h
noncomputable def stmE (g : PG) : Int := if chkP g ≠ 0 then chkP g else if 1000000000000 < nxtS g.ops then 16 else 0
noncomputable def stmV (g : PG) : Int := if stmE g = 0 then nxtS g.ops else 0
theorem stmE_1 {g : PG} (h : chkP g ≠ 0) : stmE g = chkP g ∧ stmE g ≠ 0 := by
  have e : stmE g = chkP g := if_pos h
  exact ⟨e, by rw [e]; exact h⟩
theorem stmE_2 {g : PG} (h : chkP g = 0) (h2 : 1000000000000 < nxtS g.ops) : stmE g = 16 := by unfold stmE; rw [if_neg (not_not_intro h), if_pos h2]
theorem stmE_0 {g : PG} (h : chkP g = 0) (h2 : ¬ 1000000000000 < nxtS g.ops) : stmE g = 0 := by unfold stmE; rw [if_neg (not_not_intro h), if_neg h2]
theorem stmV_no {g : PG} (h : stmE g ≠ 0) : stmV g = 0 := if_neg h
theorem stmV_yes {g : PG} (h : stmE g = 0) : stmV g = nxtS g.ops := if_pos h
theorem chk_st {g : PG} (h : chkP g = 0) : ∀ o ∈ g.ops, o.st ≤ 1000000000000 := fun o ho => by
  obtain ⟨_, _, h3, _⟩ := chkG_zero.1 (show chkG g.m g.ids g.ops = 0 from h)
  obtain ⟨i, hi, rfl⟩ := List.getElem_of_mem ho
  have h4 := (h3 i hi).1
  rw [getD_at hi] at h4
  exact (check_zero.1 (verE_check h4)).2.2.2.1
/-! operations -/
def bldO (n : Nat) (ids : List Int) (st : Int) (o : OpV) : OpV := { o with au := 0, st := st, e := 0, s := 0, n := preN n ids, ids := preL n ids }
def bldE (x : Int) (n : Nat) (ids : List Int) (st : Int) (o : OpV) : Int := if preE n ids ≠ 0 then preE n ids else signE x (bldO n ids st o)
def bldV (x : Int) (n : Nat) (ids : List Int) (st : Int) (o : OpV) : OpV := if bldE x n ids st o = 0 then signS x (bldO n ids st o) else OpV.zero
def bldB (x : Int) (n : Nat) (ids : List Int) (st : Int) (o : OpV) : List Int := if bldE x n ids st o = 0 then encS (signS x (bldO n ids st o)) else []
def bldI (x : Int) (n : Nat) (ids : List Int) (st : Int) (o : OpV) : List Int := if bldE x n ids st o = 0 then idOf (signS x (bldO n ids st o)) else List.replicate 32 0
theorem bldE_1 {x : Int} {n : Nat} {ids : List Int} {st : Int} {o : OpV} (h : preE n ids ≠ 0) : bldE x n ids st o = preE n ids := if_pos h
theorem bldE_2 {x : Int} {n : Nat} {ids : List Int} {st : Int} {o : OpV} (h : preE n ids = 0) : bldE x n ids st o = signE x (bldO n ids st o) := if_neg (not_not_intro h)
theorem bld_no {x : Int} {n : Nat} {ids : List Int} {st : Int} {o : OpV} (h : bldE x n ids st o ≠ 0) : bldV x n ids st o = OpV.zero ∧ bldB x n ids st o = [] ∧ bldI x n ids st o = List.replicate 32 0 := ⟨if_neg h, if_neg h, if_neg h⟩
theorem bld_yes {x : Int} {n : Nat} {ids : List Int} {st : Int} {o : OpV} (h : bldE x n ids st o = 0) : bldV x n ids st o = signS x (bldO n ids st o) ∧ bldB x n ids st o = encS (signS x (bldO n ids st o)) ∧ bldI x n ids st o = idOf (signS x (bldO n ids st o)) := ⟨if_pos h, if_pos h, if_pos h⟩
end Go.Proofs.YtakbhjagiofbgaaGreatDoor.S
namespace Go.Proofs.YtakbhjagiofbgaaGreatDoor.G
open Go.RowKit
set_option linter.unusedVariables false
section
variable {S0 : Nat → Prop} {w0 : World} {L : List Ent} {P : Program} {ops : Array Oper} {K : List Value → World → Prop} {rest : List (Oper × Kd)} {l l' : List Value} {m : Md} {d : Tmp} {ty xt e : TypeId} {pos : String} {af : Array Edge} {kd : Kd} {x y : Operand} {nn : Nat} {ki : IntKind} {a : Option Addr} {k0 : Nat}
end
section
variable {S0 : Nat → Prop} {w0 : World} {L Lq : List Ent} {P : Program} {l : List Value} {l0 : List Oper} {K : List Value → World → Prop}
class SubL (E L : List Ent) : Prop where
  h : E.Sublist L
instance SubL.nil {L : List Ent} : SubL [] L := ⟨List.nil_sublist _⟩
instance (priority := low) SubL.skip {E L : List Ent} {x : Ent} [s : SubL E L] : SubL E (x :: L) := ⟨.cons _ s.h⟩
instance SubL.take {E L : List Ent} {x : Ent} [s : SubL E L] : SubL (x :: E) (x :: L) := ⟨.cons_cons _ s.h⟩
def bs (k n : Nat) : Array Bool := ((List.range k).map fun i => n.testBit i).toArray
end
section
variable {P : Program} {ev : Operand → Value} {w : World} {x y : Operand} {a b : Int} {k : IntKind} {d : Option Tmp} {ty : TypeId} {pos : String} {af : Array Edge} {g : Option (Nat × Bool)}
theorem D.min2 (hx : ev x = .int k a) (hy : ev y = .int k b) {ts : Array TypeId} :
    (execOp ev ⟨d, .call { callee := .builtin .min, args := #[x, y], argTypes := ts }, ty, pos, af, g⟩).run P w = .ok (.value (.int k (if b < a then b else a))) w := by
  simp [execOp, resolve, hx, hy, invoke, builtin, Builtin.min_, Builtin.min2]
end
section
variable {S0 : Nat → Prop} {w0 : World} {L : List Ent} {P : Program} {ops : Array Oper} {K : List Value → World → Prop} {rest : List (Oper × Kd)} {l l' : List Value} {m : Md} {d : Tmp} {ty : TypeId} {pos : String} {af : Array Edge} {kd : Kd} {x y : Operand} {k : IntKind} {p q r : Int}
theorem J.mn {ts : Array TypeId} (hk : pureK kd = true) (hx : ev l x = .int k p) (hy : ev l y = .int k q) (kk : J S0 w0 L (RY S0 w0 m P ops K rest l')) (hr : (if q < p then q else p) = r := by rfl) (hl : l.set d (.int k r) = l' := by dsimp only [List.set]) : J S0 w0 L (RY S0 w0 m P ops K ((⟨some d, .call { callee := .builtin .min, args := #[x, y], argTypes := ts }, ty, pos, af, none⟩, kd) :: rest) l) :=
  J.pur hk (fun _ => by subst hr; exact D.min2 hx hy) kk hl
end
end Go.Proofs.YtakbhjagiofbgaaGreatDoor.G
namespace Go.Proofs.YtakbhjagiofbgaaGreatDoor.W
open Go.RowKit Go.Proofs.YtakbhjagiofbgaaGreatDoor.G
set_option linter.unusedVariables false
set_option linter.unusedSimpArgs false
set_option maxRecDepth 20000
set_option maxHeartbeats 8000000
attribute [local irreducible] RS RX RY Code.wp bodyPost J Ent.blk Ent.irow Ent.iown Ent.wrow Ent.wown Ent.grow Ent.gown Ent.all Ent.emp
instance : Ents Tryz.prog 132 := ⟨.mk Tryz.func132 (by kernel_rfl) rfl⟩
theorem eltR {S0 : Nat → Prop} {w : World} {b o n : Nat} {ids : List Int} (h : WRow .u8 32 S0 w (some ⟨b, o, none⟩) n ids) {i : Int} (hi : 0 ≤ i ∧ i < n) : IRow .u8 S0 w (some ⟨b, o + i.toNat * 32, none⟩) 32 (elt 32 ids i.toNat) := by
  obtain ⟨b', o', e, hs, hc⟩ := h.at_ (by decide) hi
  cases e
  have hA := h.elt_arr (i := i.toNat) (by omega)
  exact ⟨.inr ⟨_, _, rfl, hs, hc⟩, hA.1, hA.2⟩
theorem wTake {S0 : Nat → Prop} {w : World} {a : Option Addr} {n : Nat} {ids : List Int} (h : WRow .u8 32 S0 w a n ids) (p c : Nat) (hp : p ≤ n) (hc : p ≤ c) : WRow .u8 32 S0 w (subA a 0 32 c) p (ids.take (32 * p)) := by
  have hl := h.len
  have := h.row.sub 0 p 32 c (by rw [ints_length]; omega) (Nat.zero_le _) hc
  refine ⟨?_, by rw [List.length_take]; omega, h.bd.take _⟩
  simpa [ints, List.map_take, Nat.mul_comm] using this
theorem min4 (n : Nat) : (if (4 : Int) < (n : Int) then 4 else (n : Int)) = ((min n 4 : Nat) : Int) := by split <;> omega
theorem bPreds {S0 : Nat → Prop} (a : Option Addr) (n c : Nat) (ids : List Int) (w : World) (D0 : WRow .u8 32 S0 w a n ids) (hc : n ≤ c) (hn : n ≤ 1000) :
    Calls Tryz.prog 50 #[.slice a n c] w (Gv w (fun q : Option Addr × Nat => .tuple #[.slice q.1 (S.preN n ids) q.2, .int .i64 (S.preE n ids)]) (fun q => [.wown 43 .u8 32 q.1 (S.preN n ids) q.2 (S.preL n ids)]) fun q => S.preN n ids ≤ q.2) := by
  have hlen := D0.len
  have nil : ∀ e : Int, S.preE n ids = e → e ≠ 0 → S.preN n ids = 0 ∧ S.preL n ids = [] := fun e h1 h2 => S.pre_no (by rw [h1]; exact h2)
  refine J.enter 30 Tryz.func50 rfl rfl ?_
  refine run ?_
  refine J.ifd rfl (fun c1 => ?_) (fun c1 => ?_)
  · refine run ?_
    have he := S.preE_4 (n := n) (ids := ids) (by omega)
    obtain ⟨e1, e2⟩ := nil 4 he (by decide)
    rw [he, e1, e2]
    refine J.nilWo 43 .u8 32 ?_
    exact J.finG (none, 0) rfl (Nat.le_refl _) (.cons_cons _ (List.nil_sublist _))
  refine run ?_
  refine J.loopS (A := Int) (fun p => [(4, .int .i64 p)]) [2, 3, 8, 9, 10, 11, 12, 13, 14, 15, 16, 17, 18, 19, 20, 21, 22, 23, 24] (fun p => (1 ≤ p ∧ (p ≤ n ∨ p = 1)) ∧ ∀ i, i + 1 < p.toNat → S.cmpS (S.idAt ids i) (S.idAt ids (i + 1)) < 0) (fun p => n - p.toNat) 1 (by kernel_rfl) ⟨by omega, fun i hi => by omega⟩ (fun p j hI => ?_)
  obtain ⟨h1, hI⟩ := hI
  refine run ?_
  refine J.ifd rfl (fun c2 => ?_) (fun c2 => ?_)
  · obtain ⟨b0, o0, ha, _, _⟩ := D0.at_ (by decide) (i := 0) (by omega)
    subst ha
    refine run ?_
    refine J.regionX [(0, .q), (1, .q), (2, .q), (3, .q), (4, .q), (5, .q), (6, .q), (7, .q), (8, .q), (9, .e), (10, .q)] mixed (by kernel_rfl) ?_
    refine run ?_
    refine J.callp rfl rfl (fun w' M => bcompare _ _ _ _ _ _ _ _ w' (eltR (D0.ext M.ext) (i := p - 1) (by omega)) (eltR (D0.ext M.ext) (i := p) (by omega))) ?_
    refine run ?_
    have e3 : p.toNat = (p - 1).toNat + 1 := by omega
    refine J.ifd rfl (fun c3 => ?_) (fun c3 => ?_)
    · refine run ?_
      have he := S.preE_32 (n := n) (ids := ids) (by omega) (fun hr => by
        have := hr (p - 1).toNat (by omega)
        rw [← e3] at this
        exact absurd c3 (Int.not_le.2 this))
      obtain ⟨e1, e2⟩ := nil 32 he (by decide)
      rw [he, e1, e2]
      refine J.nilWo 43 .u8 32 ?_
      exact J.finG (none, 0) rfl (Nat.le_refl _) (.cons_cons _ (List.nil_sublist _))
    · refine run ?_
      refine J.nextS (p + 1) ⟨rfl, trivial⟩ (by kernel_rfl) ⟨by omega, fun i hi => ?_⟩ (by omega)
      rcases Nat.lt_or_ge (i + 1) p.toNat with h | h
      · exact hI i h
      · obtain rfl : i = (p - 1).toNat := by omega
        rw [← e3]
        exact Int.not_le.1 c3
  have hr : S.Rising n ids := fun i hi => hI i (by omega)
  have he := S.preE_0 (by omega) hr
  obtain ⟨e1, e2⟩ := S.pre_yes he
  rw [he, e1, e2]
  refine run ?_
  refine J.mn rfl rfl rfl ?_ (hr := min4 n)
  refine run ?_
  refine J.call rfl rfl (fun w' M => cloneW (subA a 0 32 c) (min n 4) c (ids.take (32 * min n 4)) w' (wTake (D0.ext M.ext) (min n 4) c (by omega) (by omega)) (by omega) (by omega)) fun q hq => ?_
  refine run ?_
  exact J.finG q rfl hq (by repeat (first | exact List.nil_sublist _ | refine List.Sublist.cons_cons _ ?_ | refine List.Sublist.cons _ ?_))
theorem rPreds {S0 : Nat → Prop} (a : Option Addr) (n c : Nat) (ids : List Int) (w : World) (D0 : WRow .u8 32 S0 w a n ids) (hc : n ≤ c) (hn : n ≤ 1000) :
    Calls Tryz.prog 51 #[.slice a n c] w (Gv w (fun q : Option Addr × Nat => .tuple #[.slice q.1 (S.preN n ids) q.2, .int .i64 (S.preE n ids)]) (fun q => [.wown 43 .u8 32 q.1 (S.preN n ids) q.2 (S.preL n ids)]) fun q => S.preN n ids ≤ q.2) := by
  have hlen := D0.len
  have nil : ∀ e : Int, S.preE n ids = e → e ≠ 0 → S.preN n ids = 0 ∧ S.preL n ids = [] := fun e h1 h2 => S.pre_no (by rw [h1]; exact h2)
  refine J.enter 29 Tryz.func51 rfl rfl ?_
  refine run ?_
  refine J.ifd rfl (fun c1 => ?_) (fun c1 => ?_)
  · refine run ?_
    have he := S.preE_4 (n := n) (ids := ids) (by omega)
    obtain ⟨e1, e2⟩ := nil 4 he (by decide)
    rw [he, e1, e2]
    refine J.nilWo 43 .u8 32 ?_
    exact J.finG (none, 0) rfl (Nat.le_refl _) (.cons_cons _ (List.nil_sublist _))
  refine run ?_
  refine J.callp rfl rfl (fun w' M => risingR _ _ _ _ w' (D0.ext M.ext) hc hn) ?_
  refine run ?_
  refine J.ifnot rfl (fun c2 => ?_) (fun c2 => ?_)
  · refine run ?_
    have he := S.preE_32 (n := n) (ids := ids) (by omega) (of_decide_eq_false c2)
    obtain ⟨e1, e2⟩ := nil 32 he (by decide)
    rw [he, e1, e2]
    refine J.nilWo 43 .u8 32 ?_
    exact J.finG (none, 0) rfl (Nat.le_refl _) (.cons_cons _ (List.nil_sublist _))
  have hr := of_decide_eq_true c2
  have he := S.preE_0 (by omega) hr
  obtain ⟨e1, e2⟩ := S.pre_yes he
  rw [he, e1, e2]
  refine run ?_
  refine J.nilWo 43 .u8 32 ?_
  refine J.loop (A := GtA) (fun p => [(4, .slice p.a p.n p.c), (5, .int .i64 (p.n : Nat))]) [12, 13, 14, 15, 16, 17, 18, 19, 20, 21, 22, 23, 24, 25, 26, 27, 28] (fun p => [.wown 43 .u8 32 p.a p.n p.c (ids.take (32 * p.n))]) (fun p => p.n ≤ n ∧ p.n ≤ 4) (fun p => 4 - p.n) ⟨0, none, 0, []⟩ (by kernel_rfl) ⟨Nat.zero_le _, Nat.zero_le _⟩ (fun p j hI => ?_)
  obtain ⟨hI1, hI2⟩ := hI
  have stop : ¬ (p.n < n ∧ p.n < 4) → min n 4 = p.n := fun h => by omega
  refine run ?_
  refine J.spd rfl rfl rfl (fun d1 => ?_) (fun d1 => ?_)
  rotate_left
  · refine run ?_
    rw [stop (by omega)]
    refine J.fact (.wown 43 .u8 32 p.a p.n p.c (ids.take (32 * p.n))) (fun _ _ h => (wown_len h).2) fun hcap => ?_
    exact J.finG (p.a, p.c) rfl hcap (by repeat (first | exact List.nil_sublist _ | refine List.Sublist.cons_cons _ ?_ | refine List.Sublist.cons _ ?_))
  refine run ?_
  refine J.ifd rfl (fun d2 => ?_) (fun d2 => ?_)
  · have hA : Arr .u8 32 (elt 32 ids p.n) := D0.elt_arr (by omega)
    have e3 : ids.take (32 * p.n) ++ elt 32 ids ((p.n : Nat) : Int).toNat = ids.take (32 * (p.n + 1)) := by
      rw [Int.toNat_natCast, show 32 * (p.n + 1) = 32 * p.n + 32 by omega, List.take_add]
      rfl
    refine run ?_
    refine J.b1W rfl rfl hA fun bb => ?_
    refine J.apW rfl rfl RW.own' fun a' c' => ?_
    rw [e3]
    refine run ?_
    exact J.next ⟨p.n + 1, a', c', []⟩ ⟨rfl, rfl, trivial⟩ (by kernel_rfl) ⟨by dsimp only; omega, by dsimp only; omega⟩ (by dsimp only; omega)
  refine run ?_
  rw [stop (by omega)]
  refine J.fact (.wown 43 .u8 32 p.a p.n p.c (ids.take (32 * p.n))) (fun _ _ h => (wown_len h).2) fun hcap => ?_
  exact J.finG (p.a, p.c) rfl hcap (by repeat (first | exact List.nil_sublist _ | refine List.Sublist.cons_cons _ ?_ | refine List.Sublist.cons _ ?_))
theorem bStamp {S0 : Nat → Prop} (g : GrA) (TK : TypeId) (w : World) (K0 : Kst w TK) (G : GrR S0 w g) :
    Calls Tryz.prog 52 #[.agg (grC g).toArray] w (Ret w fun v _ => v = .tuple #[.int .u64 (S.stmV g.P), .int .i64 (S.stmE g.P)]) := by
  have G0 := G.ops
  have hl := G.len
  have hcp := G.cap
  refine J.enter 28 Tryz.func52 rfl rfl ?_
  refine run ?_
  refine J.box rfl rfl rfl fun b1 => ?_
  refine run ?_
  refine J.callp rfl rfl (fun w' M => dagCheck g TK w' (K0.ext M.ext) (G.ext M.ext)) ?_
  refine run ?_
  refine J.ifn rfl (fun c1 => ?_) (fun c1 => ?_)
  · obtain ⟨he, hne⟩ := S.stmE_1 (g := g.P) c1
    refine run ?_
    refine J.fin ?_
    rw [S.stmV_no hne, he]
    rfl
  have hst := S.chk_st (g := g.P) c1
  refine run ?_
  refine J.loopS (A := Int × Int) (fun p => [(5, .int .u64 p.2), (16, .int .i64 p.1)]) [7, 17, 18, 19, 20, 21, 22, 23, 24, 25] (fun p => (0 ≤ p.1 ∧ p.1 ≤ g.n) ∧ (0 ≤ p.2 ∧ p.2 ≤ 1000000000001) ∧ p.2 = S.nxtS (g.ops.take p.1.toNat)) (fun p => g.n - p.1.toNat) (0, 0) (by kernel_rfl) ⟨by dsimp only; omega, by dsimp only; omega, rfl⟩ (fun p j hI => ?_)
  obtain ⟨p, m⟩ := p
  obtain ⟨h1, h2, h3⟩ := hI
  dsimp only at h1 h2 h3 ⊢
  refine run ?_
  refine J.ifd rfl (fun c2 => ?_) (fun c2 => ?_)
  · obtain ⟨z, hz⟩ := G0.ex (i := p) (by omega)
    have hzo := GrA.opAt hz
    have R := G.op hz
    have hzs := R.ok.st
    have hz2 := hst z.o (by rw [← hzo, S.getD_at (by omega)]; exact List.getElem_mem _)
    refine run ?_
    refine J.alloc rfl fun b2 => ?_
    refine run ?_
    have e3 := S.nxt_step (l := g.ops) (i := p.toNat) (by omega)
    rw [← h3, hzo] at e3
    refine J.nextS (p + 1, if z.o.st + 1 > m then z.o.st + 1 else m) ⟨rfl, rfl, trivial⟩ (by kernel_rfl) ⟨by dsimp only; omega, by dsimp only; split <;> omega, ?_⟩ (by dsimp only; omega)
    dsimp only
    rw [show (p + 1).toNat = p.toNat + 1 by omega, e3]
    rfl
  have hpn : S.nxtS g.P.ops = m := by rw [h3, List.take_of_length_le (by omega)]
  refine run ?_
  refine J.ifd rfl (fun c3 => ?_) (fun c3 => ?_)
  · have he := S.stmE_2 (g := g.P) c1 (by rw [hpn]; exact c3)
    refine run ?_
    refine J.fin ?_
    rw [S.stmV_no (by rw [he]; decide), he]
  · have he := S.stmE_0 (g := g.P) c1 (by rw [hpn]; exact c3)
    refine run ?_
    refine J.fin ?_
    rw [S.stmV_yes he, he, hpn]
theorem rStamp {S0 : Nat → Prop} (g : GrA) (w : World) (G : GrR S0 w g) :
    Calls Tryz.prog 53 #[.agg (grC g).toArray] w (Ret w fun v _ => v = .tuple #[.int .u64 (S.stmV g.P), .int .i64 (S.stmE g.P)]) := by
  have G0 := G.ops
  have hl := G.len
  have hcp := G.cap
  refine J.enter 33 Tryz.func53 rfl rfl ?_
  refine run ?_
  refine J.box rfl rfl rfl fun b1 => ?_
  refine run ?_
  refine J.callp rfl rfl (fun w' M => refCheck g w' (G.ext M.ext)) ?_
  refine run ?_
  refine J.ifn rfl (fun c1 => ?_) (fun c1 => ?_)
  · obtain ⟨he, hne⟩ := S.stmE_1 (g := g.P) c1
    refine run ?_
    refine J.callp rfl rfl (fun w' M => refCheck g w' (G.ext M.ext)) ?_
    refine run ?_
    refine J.fin ?_
    rw [S.stmV_no hne, he]
    rfl
  have hst := S.chk_st (g := g.P) c1
  refine run ?_
  refine J.ife rfl (fun c2 => ?_) (fun c2 => ?_)
  · have h0 : g.P.ops = [] := List.eq_nil_of_length_eq_zero (show g.ops.length = 0 by omega)
    have hpn : S.nxtS g.P.ops = 0 := by rw [h0]; rfl
    have he := S.stmE_0 (g := g.P) c1 (by rw [hpn]; decide)
    refine run ?_
    refine J.fin ?_
    rw [S.stmV_yes he, he, hpn]
  have hnz := S.nxt_mst (l := g.P.ops) (fun o ho => (G.opz o ho).st.1) (fun h => by have h2 : g.ops.length = 0 := congrArg List.length h; omega)
  have hml := S.mst_le (k := 1000000000000) (l := g.P.ops) (by decide) hst
  refine run ?_
  refine J.loopS (A := Int × Int) (fun p => [(4, .int .u64 p.2), (5, .int .i64 p.1)]) [15, 16, 17, 18, 19, 20, 21, 22, 23, 24, 25, 26, 27, 28, 29] (fun p => (0 ≤ p.1 ∧ p.1 ≤ g.n) ∧ 0 ≤ p.2 ∧ p.2 = S.mstS (g.ops.take p.1.toNat)) (fun p => g.n - p.1.toNat) (0, 0) (by kernel_rfl) ⟨by dsimp only; omega, by dsimp only; omega, rfl⟩ (fun p j hI => ?_)
  obtain ⟨p, m⟩ := p
  obtain ⟨h1, h2, h3⟩ := hI
  dsimp only at h1 h2 h3 ⊢
  refine run ?_
  refine J.ifd rfl (fun c3 => ?_) (fun c3 => ?_)
  · obtain ⟨z, hz⟩ := G0.ex (i := p) (by omega)
    have hzo := GrA.opAt hz
    have R := G.op hz
    have hzs := R.ok.st
    refine run ?_
    have e3 := S.mst_step (l := g.ops) (i := p.toNat) (by omega)
    rw [← h3, hzo] at e3
    refine J.nextS (p + 1, if z.o.st > m then z.o.st else m) ⟨rfl, rfl, trivial⟩ (by kernel_rfl) ⟨by dsimp only; omega, by dsimp only; split <;> omega, ?_⟩ (by dsimp only; omega)
    dsimp only
    rw [show (p + 1).toNat = p.toNat + 1 by omega, e3]
    rfl
  have hpm : S.mstS g.P.ops = m := by rw [h3, List.take_of_length_le (by omega)]
  rw [hpm] at hnz hml
  refine run ?_
  refine J.ife rfl (fun c4 => ?_) (fun c4 => ?_)
  · have he := S.stmE_2 (g := g.P) c1 (by rw [hnz]; omega)
    refine run ?_
    refine J.fin ?_
    rw [S.stmV_no (by rw [he]; decide), he]
  · have he := S.stmE_0 (g := g.P) c1 (by rw [hnz]; omega)
    refine run ?_
    refine J.fin ?_
    rw [S.stmV_yes he, he, hnz]
instance : Fld Tryz.prog 50 1 1 := ⟨_, _, 1, Tryz.underlying50, rfl, by kernel_rfl, by decide, rfl⟩
instance : Sca Tryz.prog 9 := ⟨_, Tryz.underlying9, rfl⟩
instance : Und Tryz.prog 9 .string := ⟨Tryz.underlying9⟩
instance : Fld Tryz.prog 50 2 2 := ⟨_, _, 4, Tryz.underlying50, rfl, by kernel_rfl, by decide, rfl⟩
instance : Fld Tryz.prog 40 3 3 := ⟨_, _, 1, Tryz.underlying40, rfl, by kernel_rfl, by decide, rfl⟩
instance : Und Tryz.prog 277 (.slice 31) := ⟨Tryz.underlying277⟩
instance : Siz Tryz.prog 31 1 := ⟨by kernel_rfl⟩
instance : Sca Tryz.prog 31 := ⟨_, Tryz.underlying31, rfl⟩
instance : Ents Tryz.prog 50 := ⟨.mk Tryz.func50 (by kernel_rfl) rfl⟩
instance : SInf Tryz.prog 54 [(0, 1), (1, 1), (2, 1), (3, 6), (9, 2)] := ⟨_, Tryz.underlying54, by kernel_rfl, by kernel_rfl⟩
instance : Ents Tryz.prog 133 := ⟨.mk Tryz.func133 (by kernel_rfl) rfl⟩
instance : Ents Tryz.prog 121 := ⟨.mk Tryz.func121 (by kernel_rfl) rfl⟩
instance : Inf Tryz.prog 31 1 8 [.int .i64 0] := ⟨TI.of (v := .int .i64 0) (by kernel_rfl) rfl⟩
instance : Ents Tryz.prog 134 := ⟨.mk Tryz.func134 (by kernel_rfl) rfl⟩
instance : Ents Tryz.prog 51 := ⟨.mk Tryz.func51 (by kernel_rfl) rfl⟩
instance : Ents Tryz.prog 109 := ⟨.mk Tryz.func109 (by kernel_rfl) rfl⟩
instance : Ents Tryz.prog 111 := ⟨.mk Tryz.func111 (by kernel_rfl) rfl⟩
@[reducible] def acC (o : S.OpV) : List Value := [.int .u8 o.k, .string o.key, .int .u8 o.vk, .int .i64 o.num, .int .u64 o.bits, .string o.t]
theorem signB (x : Int) (hx : 0 ≤ x ∧ x < 4294967296) {S0 : Nat → Prop} (z : OpA) (TK : TypeId) (w : World) (K0 : Kst w TK) (R : OpR S0 w z) :
    Calls Tryz.prog 133 #[.int .u32 x, .agg (opC z).toArray] w (Gv w (fun q : OpA × Int => .tuple #[.agg (opC q.1).toArray, .int .i64 q.2]) (fun q => [.wrow .u8 32 q.1.pa q.1.o.n q.1.o.ids]) fun q => q.1.o.n ≤ q.1.pc ∧ q.1.o = S.signS x z.o ∧ q.2 = S.signE x z.o) :=
  Gv.of (signO x hx z.o R.ok _ _ TK w K0 R.row R.cap) fun v w' _ ⟨a', c', hv, hc, W⟩ => ⟨(⟨S.signS x z.o, a', c'⟩, S.signE x z.o), hv, ⟨hc, rfl, rfl⟩, sep1 (show (Ent.wrow .u8 32 a' (S.signS x z.o).n (S.signS x z.o).ids).ok _ _ by unfold Ent.wrow; exact W)⟩
theorem signBR (x : Int) (hx : 0 ≤ x ∧ x < 4294967296) {S0 : Nat → Prop} (z : OpA) (w : World) (R : OpR S0 w z) :
    Calls Tryz.prog 109 #[.int .u32 x, .agg (opC z).toArray] w (Gv w (fun q : OpA × Int => .tuple #[.agg (opC q.1).toArray, .int .i64 q.2]) (fun q => [.wrow .u8 32 q.1.pa q.1.o.n q.1.o.ids]) fun q => q.1.o.n ≤ q.1.pc ∧ q.1.o = S.signS x z.o ∧ q.2 = S.signE x z.o) :=
  Gv.of (signOR x hx z.o R.ok _ _ w R.row R.cap) fun v w' _ ⟨a', c', hv, hc, W⟩ => ⟨(⟨S.signS x z.o, a', c'⟩, S.signE x z.o), hv, ⟨hc, rfl, rfl⟩, sep1 (show (Ent.wrow .u8 32 a' (S.signS x z.o).n (S.signS x z.o).ids).ok _ _ by unfold Ent.wrow; exact W)⟩
theorem encB {S0 : Nat → Prop} (z : OpA) (w : World) (R : OpR S0 w z) (hc : S.checkE z.o = 0) :
    Calls Tryz.prog 121 #[.agg (opC z).toArray] w (Gv w (fun q : Option Addr × Nat × Nat => .tuple #[.slice q.1 q.2.1 q.2.2, .int .i64 0]) (fun q => [.irow .u8 q.1 q.2.1 (S.encS z.o)]) fun _ => True) :=
  Gv.of (encodeO z.o R.ok _ _ w R.row R.cap) fun v w' _ ⟨a', n', c', xs, hv, O, hx⟩ => ⟨(a', n', c'), by rw [hv, hc], trivial, sep1 (by rw [if_pos hc] at hx; subst hx; exact iown_irow (iown_ok O))⟩
theorem bytB {S0 : Nat → Prop} (z : OpA) (w : World) (R : OpR S0 w z) (h4 : z.o.n ≤ 4) (hF : z.o.k = 4 → S.FineV z.o.vk z.o.num z.o.bits z.o.t) :
    Calls Tryz.prog 111 #[.agg (opC z).toArray] w (Gv w (fun q : Option Addr × Nat × Nat => .slice q.1 q.2.1 q.2.2) (fun q => [.irow .u8 q.1 q.2.1 (S.encS z.o)]) fun _ => True) :=
  Gv.of (bytesOR z.o R.ok _ _ w R.row R.cap h4 hF) fun v w' _ ⟨a', n', c', hv, O⟩ => ⟨(a', n', c'), hv, trivial, sep1 (iown_irow (iown_ok O))⟩
theorem lawGreat24 (o : S.OpV) (w : World) :
    Calls Tryz.prog 49 #[.agg (acC o).toArray] w (Ret w fun v _ => v = .bool (decide (100 < o.key.size ∨ 100 < o.t.size))) := by
  refine J.enter 13 Tryz.func49 rfl rfl ?_
  refine run ?_
  refine J.box rfl rfl rfl fun b1 => ?_
  refine run ?_
  refine J.spd rfl rfl rfl (fun c => ?_) (fun c => ?_)
  · refine run ?_
    exact J.fin (congrArg _ (decide_eq_true (.inl (by omega))).symm)
  · refine run ?_
    exact J.fin (congrArg _ (decide_eq_decide.2 ⟨fun h => .inr (by omega), fun h => by rcases h with h | h <;> omega⟩))
theorem bFirst {S0 : Nat → Prop} (a : Option Addr) (w : World) (O : GRow inC 1 S0 w a 2 [0, 0]) :
    Calls Tryz.prog 134 #[.slice a 2 2] w (Ret w fun v _ => v = .int .i64 0) := by
  refine J.enter 14 Tryz.func134 rfl rfl ?_
  refine run ?_
  refine J.loopS (A := Int) (fun p => [(7, .int .i64 p)]) [2, 4, 8, 9, 10, 11, 12, 13, 14] (fun p => 0 ≤ p ∧ p ≤ 2) (fun p => 2 - p.toNat) 0 (by kernel_rfl) ⟨by omega, by omega⟩ (fun p j hI => ?_)
  refine run ?_
  refine J.ifd rfl (fun c1 => ?_) (fun c1 => ?_)
  · have hq : ([0, 0] : List Int)[p.toNat]? = some 0 := by
      rcases (show p.toNat = 0 ∨ p.toNat = 1 by omega) with h | h <;> rw [h] <;> rfl
    refine run ?_
    exact J.nextS (p + 1) ⟨rfl, trivial⟩ (by kernel_rfl) ⟨by omega, by omega⟩ (by omega)
  refine run ?_
  exact J.fin rfl
def BldP (x : Int) (n : Nat) (ids : List Int) (st : Int) (o : S.OpV) (q : OpA × Option Addr × Nat × Nat) : Prop := q.1.o = S.bldV x n ids st o ∧ q.1.o.n ≤ q.1.pc
@[reducible] def bldC (x : Int) (n : Nat) (ids : List Int) (st : Int) (o : S.OpV) (q : OpA × Option Addr × Nat × Nat) : Value := .tuple #[.agg (opC q.1).toArray, .slice q.2.1 q.2.2.1 q.2.2.2, .agg (ints .u8 (S.bldI x n ids st o)).toArray, .int .i64 (S.bldE x n ids st o)]
@[reducible] def bldP (x : Int) (n : Nat) (ids : List Int) (st : Int) (o : S.OpV) (q : OpA × Option Addr × Nat × Nat) : List Ent := [.wrow .u8 32 q.1.pa q.1.o.n q.1.o.ids, .irow .u8 q.2.1 q.2.2.1 (S.bldB x n ids st o)]
theorem bldO_ok {n : Nat} {ids : List Int} {st : Int} {o : S.OpV} (ho : o.ok) (hs : 0 ≤ st ∧ st < 18446744073709551616) : (S.bldO n ids st o).ok := ⟨(by show (0 : Int) ≤ 0 ∧ (0 : Int) < 4294967296; decide), hs, ho.k, ho.vk, ho.num, ho.bits, (by show (0 : Int) ≤ 0 ∧ (0 : Int) < 4294967296; decide), (by show (0 : Int) ≤ 0 ∧ (0 : Int) < 4294967296; decide), by have := S.preN_le n ids; show S.preN n ids ≤ 40; omega, ho.key, ho.t⟩
theorem bBuild (x : Int) (hx : 0 ≤ x ∧ x < 4294967296) {S0 : Nat → Prop} (a : Option Addr) (n c : Nat) (ids : List Int) (st : Int) (hs : 0 ≤ st ∧ st < 18446744073709551616) (o : S.OpV) (ho : o.ok) (TK : TypeId) (w : World) (K0 : Kst w TK) (D0 : WRow .u8 32 S0 w a n ids) (hc : n ≤ c) (hn : n ≤ 1000) :
    Calls Tryz.prog 54 #[.int .u32 x, .slice a n c, .int .u64 st, .agg (acC o).toArray] w (Gv w (bldC x n ids st o) (bldP x n ids st o) (BldP x n ids st o)) := by
  have hok := bldO_ok (n := n) (ids := ids) ho hs
  have h4 := S.preN_le n ids
  refine J.enter 56 Tryz.func54 rfl rfl ?_
  refine run ?_
  refine J.box rfl rfl rfl fun b1 => ?_
  refine J.alloc rfl fun b2 => ?_
  refine run ?_
  refine J.alloc rfl fun b3 => ?_
  refine run ?_
  refine J.call rfl rfl (fun w' M => bPreds a n c ids w' (D0.ext M.ext) hc hn) fun q hq => ?_
  refine run ?_
  refine J.ifn rfl (fun c1 => ?_) (fun c1 => ?_)
  · have he := S.bldE_1 (x := x) (st := st) (o := o) c1
    obtain ⟨e1, e2, e3⟩ := S.bld_no (x := x) (n := n) (ids := ids) (st := st) (o := o) (by rw [he]; exact c1)
    refine run ?_
    refine J.bz rfl ?_
    refine run ?_
    refine J.nilR .u8 (J.nilW .u8 32 ?_)
    refine J.finG (⟨S.OpV.zero, none, 0⟩, none, 0, 0) ?_ ⟨e1.symm, Nat.le_refl _⟩ ?_
    · unfold bldC
      rw [he, e3]
      rfl
    · unfold bldP
      rw [e2]
      exact .cons_cons _ (.cons_cons _ (List.nil_sublist _))
  have he := S.bldE_2 (x := x) (st := st) (o := o) c1
  refine run ?_
  refine J.call rfl rfl (fun w' M => (RW.own' (a := q.1) w' M).elim fun _ k0 => signB x hx ⟨S.bldO n ids st o, q.1, q.2⟩ TK w' (K0.ext M.ext) ⟨hok, k0, hq⟩) fun z hz => ?_
  obtain ⟨⟨zo, zp, zc⟩, ze⟩ := z
  obtain ⟨hz1, hz2, hz3⟩ := hz
  dsimp only at hz1 hz2 hz3 ⊢
  subst hz2 hz3
  refine run ?_
  refine J.alloc rfl fun b4 => ?_
  refine run ?_
  refine J.ifn rfl (fun c2 => ?_) (fun c2 => ?_)
  · obtain ⟨e1, e2, e3⟩ := S.bld_no (x := x) (n := n) (ids := ids) (st := st) (o := o) (by rw [he]; exact c2)
    refine run ?_
    refine J.bz rfl ?_
    refine run ?_
    refine J.nilR .u8 (J.nilW .u8 32 ?_)
    refine J.finG (⟨S.OpV.zero, none, 0⟩, none, 0, 0) ?_ ⟨e1.symm, Nat.le_refl _⟩ ?_
    · unfold bldC
      rw [he, e3]
      rfl
    · unfold bldP
      rw [e2]
      exact .cons_cons _ (.cons_cons _ (List.nil_sublist _))
  refine J.fact (.wown 43 .u8 32 q.1 (S.preN n ids) q.2 (S.preL n ids)) (fun _ _ h => (wown_len h).1) fun hpl => ?_
  have hg := S.sign_good hok hpl c2
  have hck : S.checkE (S.signS x (S.bldO n ids st o)) = 0 := hg.2.2.1
  have hso := S.signS_ok x _ hok
  have hA : Arr .u8 32 (S.sha (S.encS (S.signS x (S.bldO n ids st o)))) := S.sha_arr _
  obtain ⟨e1, e2, e3⟩ := S.bld_yes (x := x) (n := n) (ids := ids) (st := st) (o := o) (by rw [he]; exact c2)
  refine run ?_
  refine J.call rfl rfl (fun w' M => (RW.row' (a := zp) w' M).elim fun _ k0 => encB ⟨S.signS x (S.bldO n ids st o), zp, zc⟩ w' ⟨hso, k0, hz1⟩ hck) fun y hy => ?_
  refine run ?_
  refine J.callp rfl rfl (fun w' M => (RW.row' (a := zp) w' M).elim fun _ k0 => idO (S.signS x (S.bldO n ids st o)) hso zp zc _ w' (K0.ext M.ext) k0 hz1) ?_
  rw [if_pos hck, hck]
  refine run ?_
  refine J.alloc rfl fun b5 => ?_
  refine run ?_
  refine J.regionR [.blk b5 (ints .u8 (S.sha (S.encS (S.signS x (S.bldO n ids st o))))) 43, .blk b4 (opC ⟨S.signS x (S.bldO n ids st o), zp, zc⟩) 54] [(0, .q), (1, .q), (2, .q), (3, .q), (4, .q), (5, .e), (6, .e), (7, .e), (8, .q), (9, .e), (10, .q)] mixed (by kernel_rfl) (by repeat (first | exact List.Sublist.refl _ | refine List.Sublist.cons_cons _ ?_ | refine List.Sublist.cons _ ?_)) ?_
  refine run ?_
  refine J.b2V (p := 0) (q := 0) inC (fun _ => rfl) rfl rfl rfl rfl rfl rfl rfl fun b6 => ?_
  refine J.callp rfl rfl (fun w' M => (RG.own' (a := some ⟨b6, 0, none⟩) w' M).elim fun _ k0 => bFirst _ w' k0) ?_
  refine run ?_
  refine J.front (.wrow .u8 32 zp (S.signS x (S.bldO n ids st o)).n (S.signS x (S.bldO n ids st o)).ids) ?_
  refine J.finG (⟨S.signS x (S.bldO n ids st o), zp, zc⟩, y) ?_ ⟨e1.symm, hz1⟩ ?_
  · unfold bldC
    rw [he, c2, e3]
  · unfold bldP
    rw [e2]
    repeat (first | exact List.nil_sublist _ | refine List.Sublist.cons_cons _ ?_ | refine List.Sublist.cons _ ?_)
theorem rBuild (x : Int) (hx : 0 ≤ x ∧ x < 4294967296) {S0 : Nat → Prop} (a : Option Addr) (n c : Nat) (ids : List Int) (st : Int) (hs : 0 ≤ st ∧ st < 18446744073709551616) (o : S.OpV) (ho : o.ok) (w : World) (D0 : WRow .u8 32 S0 w a n ids) (hc : n ≤ c) (hn : n ≤ 1000) :
    Calls Tryz.prog 55 #[.int .u32 x, .slice a n c, .int .u64 st, .agg (acC o).toArray] w (Gv w (bldC x n ids st o) (bldP x n ids st o) (BldP x n ids st o)) := by
  have hok := bldO_ok (n := n) (ids := ids) ho hs
  have h4 := S.preN_le n ids
  refine J.enter 41 Tryz.func55 rfl rfl ?_
  refine run ?_
  refine J.box rfl rfl rfl fun b1 => ?_
  refine J.alloc rfl fun b2 => ?_
  refine run ?_
  refine J.alloc rfl fun b3 => ?_
  refine run ?_
  refine J.call rfl rfl (fun w' M => rPreds a n c ids w' (D0.ext M.ext) hc hn) fun q hq => ?_
  refine run ?_
  refine J.ifn rfl (fun c1 => ?_) (fun c1 => ?_)
  · have he := S.bldE_1 (x := x) (st := st) (o := o) c1
    obtain ⟨e1, e2, e3⟩ := S.bld_no (x := x) (n := n) (ids := ids) (st := st) (o := o) (by rw [he]; exact c1)
    refine run ?_
    refine J.bz rfl ?_
    refine run ?_
    refine J.nilR .u8 (J.nilW .u8 32 ?_)
    refine J.finG (⟨S.OpV.zero, none, 0⟩, none, 0, 0) ?_ ⟨e1.symm, Nat.le_refl _⟩ ?_
    · unfold bldC
      rw [he, e3]
      rfl
    · unfold bldP
      rw [e2]
      exact .cons_cons _ (.cons_cons _ (List.nil_sublist _))
  have he := S.bldE_2 (x := x) (st := st) (o := o) c1
  refine run ?_
  refine J.call rfl rfl (fun w' M => (RW.own' (a := q.1) w' M).elim fun _ k0 => signBR x hx ⟨S.bldO n ids st o, q.1, q.2⟩ w' ⟨hok, k0, hq⟩) fun z hz => ?_
  obtain ⟨⟨zo, zp, zc⟩, ze⟩ := z
  obtain ⟨hz1, hz2, hz3⟩ := hz
  dsimp only at hz1 hz2 hz3 ⊢
  subst hz2 hz3
  refine run ?_
  refine J.alloc rfl fun b4 => ?_
  refine run ?_
  refine J.ifn rfl (fun c2 => ?_) (fun c2 => ?_)
  · obtain ⟨e1, e2, e3⟩ := S.bld_no (x := x) (n := n) (ids := ids) (st := st) (o := o) (by rw [he]; exact c2)
    refine run ?_
    refine J.bz rfl ?_
    refine run ?_
    refine J.nilR .u8 (J.nilW .u8 32 ?_)
    refine J.finG (⟨S.OpV.zero, none, 0⟩, none, 0, 0) ?_ ⟨e1.symm, Nat.le_refl _⟩ ?_
    · unfold bldC
      rw [he, e3]
      rfl
    · unfold bldP
      rw [e2]
      exact .cons_cons _ (.cons_cons _ (List.nil_sublist _))
  refine J.fact (.wown 43 .u8 32 q.1 (S.preN n ids) q.2 (S.preL n ids)) (fun _ _ h => (wown_len h).1) fun hpl => ?_
  have hg := S.sign_good hok hpl c2
  have hck : S.checkE (S.signS x (S.bldO n ids st o)) = 0 := hg.2.2.1
  have hz0 := S.check_zero.1 hck
  have hso := S.signS_ok x _ hok
  have hA : Arr .u8 32 (S.sha (S.encS (S.signS x (S.bldO n ids st o)))) := S.sha_arr _
  obtain ⟨e1, e2, e3⟩ := S.bld_yes (x := x) (n := n) (ids := ids) (st := st) (o := o) (by rw [he]; exact c2)
  refine run ?_
  refine J.regionR [.blk b4 (opC ⟨S.signS x (S.bldO n ids st o), zp, zc⟩) 54] [(0, .q), (1, .q), (3, .q), (2, .e), (4, .e), (5, .e), (6, .q), (7, .e), (8, .q)] mixed (by kernel_rfl) (by repeat (first | exact List.Sublist.refl _ | refine List.Sublist.cons_cons _ ?_ | refine List.Sublist.cons _ ?_)) ?_
  refine run ?_
  refine J.call rfl rfl (fun w' M => (RW.row' (a := zp) w' M).elim fun _ k0 => bytB ⟨S.signS x (S.bldO n ids st o), zp, zc⟩ w' ⟨hso, k0, hz1⟩ hz0.1 (fun hk => S.fine4 hz0.2.2.2.2.2.2 hk)) fun y hy => ?_
  refine run ?_
  refine J.callp rfl rfl (fun w' M => (RW.row' (a := zp) w' M).elim fun _ k0 => ofO (S.signS x (S.bldO n ids st o)) hso zp zc w' k0 hz1 hz0.1 (fun hk => S.fine4 hz0.2.2.2.2.2.2 hk)) ?_
  refine run ?_
  refine J.front (.wrow .u8 32 zp (S.signS x (S.bldO n ids st o)).n (S.signS x (S.bldO n ids st o)).ids) ?_
  refine J.finG (⟨S.signS x (S.bldO n ids st o), zp, zc⟩, y) ?_ ⟨e1.symm, hz1⟩ ?_
  · unfold bldC
    rw [he, c2, e3]
  · unfold bldP
    rw [e2]
    repeat (first | exact List.nil_sublist _ | refine List.Sublist.cons_cons _ ?_ | refine List.Sublist.cons _ ?_)
end Go.Proofs.YtakbhjagiofbgaaGreatDoor.W
namespace Go.Proofs.YtakbhjagiofbgaaGreatDoor.L
open Go Go.Proofs.YtakbhjagiofbgaaGreatDoor Go.Proofs.YtakbhjagiofbgaaGreatDoor.G Go.Proofs.YtakbhjagiofbgaaGreatDoor.W
open Go.ChangeShapes Go.WideShapes Go.ChangeAt Go.RowKit
set_option linter.unusedVariables false
set_option maxRecDepth 100000
section
variable {H : Type} {enc : TypeId × Value → H} {w : World} {base : Nat} {sp : Nat → Bool} {held : Bool} {fuel : Nat} {cs : List Value} {x : DataW H × List MemPlace}
theorem act_in (h : DataW.trod enc Tryz.prog w base sp held fuel 50 cs = some x) : ∃ o : S.OpV, cs = acC o ∧ o.rng ∧ o.n = 0 := by
  have hl := (fields_in Tryz.underlying50 h).1
  rw [z_act] at hl
  match cs, hl, h with
  | [c3, c4, c5, c6, c7, c8], _, f3 =>
    obtain ⟨_, _, g0⟩ := field_in 0 Tryz.underlying50 rfl z_u8 f3
    obtain ⟨_, _, g1⟩ := field_in 1 Tryz.underlying50 rfl z_str f3
    obtain ⟨_, _, g2⟩ := field_in 2 Tryz.underlying50 rfl z_val f3
    obtain ⟨k, e3, r3⟩ := int_in Tryz.underlying5 g0
    obtain ⟨key, e4, _, _⟩ := DataW.trod_string Tryz.underlying9 g1
    obtain ⟨_, _, v0⟩ := field_in 0 Tryz.underlying40 rfl z_u8 g2
    obtain ⟨_, _, v1⟩ := field_in 1 Tryz.underlying40 rfl z_i64 g2
    obtain ⟨_, _, v2⟩ := field_in 2 Tryz.underlying40 rfl z_u64 g2
    obtain ⟨_, _, v3⟩ := field_in 3 Tryz.underlying40 rfl z_str g2
    obtain ⟨vk, e5, r5⟩ := int_in Tryz.underlying5 v0
    obtain ⟨num, e6, r6⟩ := int_in Tryz.underlying2 v1
    obtain ⟨bits, e7, r7⟩ := int_in Tryz.underlying38 v2
    obtain ⟨tx, e8, _, _⟩ := DataW.trod_string Tryz.underlying9 v3
    have q3 : [c3] = [Value.int .u8 k] := e3
    have q4 : [c4] = [Value.string key] := e4
    have q5 : [c5] = [Value.int .u8 vk] := e5
    have q6 : [c6] = [Value.int .i64 num] := e6
    have q7 : [c7] = [Value.int .u64 bits] := e7
    have q8 : [c8] = [Value.string tx] := e8
    simp only [List.cons.injEq, and_true] at q3 q4 q5 q6 q7 q8
    subst q3 q4 q5 q6 q7 q8
    have u8 : IntKind.min .u8 = 0 ∧ IntKind.max .u8 = 255 := by decide
    have u64 : IntKind.min .u64 = 0 ∧ IntKind.max .u64 = 18446744073709551615 := by decide
    have i64 : IntKind.min .i64 = -9223372036854775808 ∧ IntKind.max .i64 = 9223372036854775807 := by decide
    refine ⟨⟨0, 0, k, vk, num, bits, 0, 0, 0, [], key, tx⟩, rfl, ⟨?_, ?_, ?_, ?_, ?_, ?_, ?_, ?_⟩, rfl⟩ <;> dsimp only <;> omega
end
end Go.Proofs.YtakbhjagiofbgaaGreatDoor.L
