/-
  Part 11 of the lemmas of these laws: DagUnion.
-/
import Derived.Test.YtakbhjagiofbgaaGreatDoorPDv10
set_option linter.unusedSimpArgs false
namespace Go.Proofs.YtakbhjagiofbgaaGreatDoor.W
open Go.RowKit Go.Proofs.YtakbhjagiofbgaaGreatDoor.G
set_option linter.unusedVariables false
set_option linter.unusedSimpArgs false
set_option maxRecDepth 20000
set_option maxHeartbeats 8000000
attribute [local irreducible] RS RX RY Code.wp bodyPost J Ent.blk Ent.irow Ent.iown Ent.wrow Ent.wown Ent.grow Ent.gown Ent.all Ent.emp
instance : Ents Tryz.prog 34 := ⟨.mk Tryz.func34 (by kernel_rfl) rfl⟩
instance : Und Tryz.prog 210 (.slice 4) := ⟨Tryz.underlying210⟩
instance : Inf Tryz.prog 4 1 1 [.bool false] := ⟨TI.of (v := .bool false) (by kernel_rfl) rfl⟩
instance : Siz Tryz.prog 4 1 := ⟨by kernel_rfl⟩
instance : Sca Tryz.prog 4 := ⟨_, Tryz.underlying4, rfl⟩
instance : Und Tryz.prog 4 .bool := ⟨Tryz.underlying4⟩
instance : Ents Tryz.prog 36 := ⟨.mk Tryz.func36 (by kernel_rfl) rfl⟩
instance : Ents Tryz.prog 32 := ⟨.mk Tryz.func32 (by kernel_rfl) rfl⟩
instance : Ents Tryz.prog 38 := ⟨.mk Tryz.func38 (by kernel_rfl) rfl⟩
instance : Ents Tryz.prog 123 := ⟨.mk Tryz.func123 (by kernel_rfl) rfl⟩
instance : Ents Tryz.prog 25 := ⟨.mk Tryz.func25 (by kernel_rfl) rfl⟩
instance : Ents Tryz.prog 125 := ⟨.mk Tryz.func125 (by kernel_rfl) rfl⟩
structure OrP where
 (rd : List Nat) (n : Nat) (od hv : List Int) (dn : List Bool) (ao : Option Addr) (co : Nat) (ah : Option Addr) (ch : Nat) (more : Bool)
theorem refAt {S0 : Nat → Prop} (a : Option Addr) (n c : Nat) (ids x : List Int) (w : World) (D0 : WRow .u8 32 S0 w a n ids) (hx : Arr .u8 32 x) (hn : n ≤ 1000) :
  Calls Tryz.prog 34 #[.slice a n c, .agg (ints .u8 x).toArray] w (Ret w fun v _ => v = .int .i64 (S.atS n ids x)) := by
 refine J.enter 17 Tryz.func34 rfl rfl ?_
 refine run ?_
 refine J.box rfl rfl rfl fun b1 => ?_
 refine run ?_
 refine J.loopS (A := Int) (fun p => [(5, .int .i64 p)]) [6, 7, 8, 9, 10, 11, 12, 13, 14, 15, 16, 17, 18] (fun p => (0 ≤ p ∧ p ≤ n) ∧ ∀ k, k < p.toNat → S.idAt ids k ≠ x) (fun p => n - p.toNat) 0 (by kernel_rfl) ⟨by omega, fun k hk => by omega⟩ (fun p j hI => ?_)
 obtain ⟨h1, hI⟩ := hI
 refine run ?_
 refine J.ifd rfl (fun c1 => ?_) (fun c1 => ?_)
 ·obtain ⟨q, hq⟩ := ex (elt 32 ids p.toNat)
  have hqa : Arr .u8 32 q := hq ▸ D0.elt_arr (by omega)
  refine run ?_
  refine J.regionX [(0, .q), (1, .q), (2, .q), (3, .q), (4, .q), (5, .q)] mixed (by kernel_rfl) ?_
  refine run ?_
  refine J.ifd rfl (fun c2 => ?_) (fun c2 => ?_)
  ·refine run ?_
   refine J.fin ?_
   rw [← S.at_hit (i := p.toNat) (by omega) (by rw [← c2]; exact hq.symm) hI]
   congr 1
   omega
  refine run ?_
  refine J.nextS (p + 1) ⟨rfl, trivial⟩ (by kernel_rfl) ⟨by omega, fun k hk => ?_⟩ (by omega)
  rcases Nat.lt_or_ge k p.toNat with h | h
  ·exact hI k h
  obtain rfl : k = p.toNat := by omega
  exact fun e => c2 (hq.trans e)
 refine run ?_
 refine J.fin ?_
 rw [← S.at_miss fun k hk => hI k (by omega)]
theorem refAll {S0 S1 : Nat → Prop} (a a2 : Option Addr) (n c n2 c2 : Nat) (ids ps : List Int) (w : World) (D0 : WRow .u8 32 S0 w a n ids) (D1 : WRow .u8 32 S1 w a2 n2 ps) (hn : n ≤ 1000) (hn2 : n2 ≤ 1000) :
  Calls Tryz.prog 36 #[.slice a n c, .slice a2 n2 c2] w (Ret w fun v _ => v = .bool (decide (S.allI n ids n2 ps))) := by
 refine J.enter 17 Tryz.func36 rfl rfl ?_
 refine run ?_
 refine J.loopS (A := Int) (fun p => [(5, .int .i64 p)]) [6, 7, 8, 9, 10, 11, 12, 13, 14, 15, 16, 17, 18] (fun p => (0 ≤ p ∧ p ≤ n2) ∧ ∀ k, k < p.toNat → S.inS n ids (S.idAt ps k)) (fun p => n2 - p.toNat) 0 (by kernel_rfl) ⟨by omega, fun k hk => by omega⟩ (fun p j hI => ?_)
 obtain ⟨h1, hI⟩ := hI
 refine run ?_
 refine J.ifd rfl (fun c1 => ?_) (fun c1 => ?_)
 ·refine run ?_
  refine J.callp rfl rfl (fun w' M => refAt _ _ _ _ _ _ (D0.ext M.ext) (D1.elt_arr (by omega)) hn) ?_
  refine run ?_
  refine J.ifd rfl (fun c2 => ?_) (fun c2 => ?_)
  ·refine run ?_
   exact J.fin (congrArg _ (decide_eq_false fun h => S.at_neg.1 c2 (h _ (by omega))).symm)
  refine run ?_
  refine J.nextS (p + 1) ⟨rfl, trivial⟩ (by kernel_rfl) ⟨by omega, fun k hk => ?_⟩ (by omega)
  rcases Nat.lt_or_ge k p.toNat with h | h
  ·exact hI k h
  obtain rfl : k = p.toNat := by omega
  exact Decidable.not_not.1 fun h => c2 (S.at_neg.2 h)
 refine run ?_
 exact J.fin (congrArg _ (decide_eq_true fun k hk => hI k (by omega)).symm)
theorem refOrderL {S0 : Nat → Prop} (g : GrA) (w : World) (G : GrR S0 w g) (he : g.m = g.n) (hr : S.Rising g.m g.ids) (ho : S.opensS g.m g.ids g.ops) :
  Calls Tryz.prog 38 #[.agg (grC g).toArray] w (Gv w (fun q : (Option Addr × Nat × Nat) × List Nat => .slice q.1.1 q.1.2.1 q.1.2.2) (fun q => [.iown 3 .i64 q.1.1 q.1.2.1 q.1.2.2 (S.castL q.2)]) fun q => q.1.2.1 = q.2.length ∧ S.OrdS (S.prS g.m g.ids g.ops) g.n q.2 ∧ S.Clsd (S.prS g.m g.ids g.ops) g.n q.2) := by
 have D0 := G.ids
 have G0 := G.ops
 have hl := G.len
 have hcp := G.cap
 have hcp4 := hcp.2.2.2
 obtain ⟨P, hP⟩ := ex (S.prS g.m g.ids g.ops)
 refine J.enter 50 Tryz.func38 rfl rfl ?_
 refine run ?_
 refine J.box rfl rfl rfl fun b1 => ?_
 refine run ?_
 refine J.mkG boC false (fun _ => rfl) rfl rfl rfl rfl fun bd => ?_
 rw [← S.dnS_first]
 refine run ?_
 refine J.nilI 3 .i64 ?_
 refine J.nilWo 43 .u8 32 ?_
 refine J.loop (A := OrP) (fun p => [(3, .slice p.ao p.n p.co), (4, .slice p.ah p.n p.ch), (6, .bool p.more)]) [7, 12, 13, 14, 15, 16, 17, 18, 19, 20, 21, 22, 23, 24, 25, 26, 27, 28, 29, 30, 31, 32, 33, 34, 35, 36, 37, 38, 39, 40, 41, 42, 43, 44, 45, 46, 47, 48, 49] (fun p => [.wown 43 .u8 32 p.ah p.n p.ch p.hv, .iown 3 .i64 p.ao p.n p.co p.od, .gown boC 1 4 (some ⟨bd, 0, none⟩) g.n g.n p.dn, .blk b1 (grC g) 25])
  (fun p => S.OrdS P g.n p.rd ∧ S.HvS g.ids p.rd p.hv ∧ (p.more = false → S.Clsd P g.n p.rd) ∧ p.n = p.rd.length ∧ p.od = S.castL p.rd ∧ p.dn = S.dnS g.n p.rd) (fun p => 2 * (g.n - p.rd.length) + p.more.toNat) ⟨[], 0, [], [], S.dnS g.n [], none, 0, none, 0, true⟩ (by kernel_rfl) ⟨S.OrdS.first _ _, S.HvS.first _, fun h => (by cases h), rfl, rfl, rfl⟩ (fun p j hI => ?_)
 obtain ⟨hO, hH, hC, hn, hod, hd⟩ := hI
 have hle := hO.le
 refine run ?_
 refine J.ifb rfl (fun c1 => ?_) (fun c1 => ?_)
 ·refine run ?_
  refine J.loopS (A := Int) (fun p => [(7, .int .i64 p)]) [13, 14, 15, 16, 17, 18, 19, 20, 21, 22, 23, 24, 25, 26, 27, 28, 29, 30, 31, 32, 33, 34, 35, 36, 37, 38, 39, 40, 41, 42, 43, 44, 45, 46, 47, 48, 49] (fun i => (0 ≤ i ∧ i ≤ g.n) ∧ ∀ k, k < i.toNat → k ∉ p.rd → ¬ ∀ q ∈ P k, q ∈ p.rd) (fun i => g.n - i.toNat) 0 (by kernel_rfl) ⟨by omega, fun k hk => by omega⟩ (fun i j2 hI2 => ?_)
  obtain ⟨h1, h2⟩ := hI2
  refine run ?_
  refine J.ifd rfl (fun c2 => ?_) (fun c2 => ?_)
  ·obtain ⟨z, hz⟩ := G0.ex (i := i) (by omega)
   have R := G.op hz
   have hzo := GrA.opAt hz
   have h20 := R.ok.n
   have hdn := S.dnS_get p.rd (show i.toNat < g.n by omega)
   rw [← hd] at hdn
   have hall := hH.all (ops := g.ops) (i := i.toNat) hr (fun x hx => by have := hO.lt x hx; omega) (ho i.toNat (by omega))
   rw [hzo, ← hP, ← hn] at hall
   have hnext : (i.toNat ∉ p.rd → ¬ ∀ q ∈ P i.toNat, q ∈ p.rd) → ((0 ≤ i + 1 ∧ i + 1 ≤ (g.n : Int)) ∧ ∀ k, k < (i + 1).toNat → k ∉ p.rd → ¬ ∀ q ∈ P k, q ∈ p.rd) := fun hk => ⟨by omega, fun k hk2 => by
    rcases Nat.lt_or_ge k i.toNat with h | h
    ·exact h2 k h
    obtain rfl : k = i.toNat := by omega
    exact hk⟩
   refine run ?_
   refine J.spt rfl rfl rfl (fun c3 => ?_) (fun c3 => ?_)
   ·have hni := of_decide_eq_false c3
    refine run ?_
    refine J.callp rfl rfl (fun w' M => (RW.own' w' M).elim fun _ h => refAll _ _ _ _ _ _ _ _ _ h (R.row.ext M.ext) (by omega) (by omega)) ?_
    refine run ?_
    refine J.ifd rfl (fun c4 => ?_) (fun c4 => ?_)
    ·have hp := hall.1 c4
     have hO' := hO.snoc (show i.toNat < g.n by omega) hni hp
     have hH' := hH.snoc (i := i.toNat) D0.len (by omega)
     have hroom := hO.room (show i.toNat < g.n by omega) hni
     have hx : Arr .u8 32 (elt 32 g.ids i.toNat) := D0.elt_arr (by omega)
     have ei : i = (i.toNat : Nat) := by omega
     have hI' : ∀ b : Bool, b = true → S.OrdS P g.n (p.rd ++ [i.toNat]) ∧ S.HvS g.ids (p.rd ++ [i.toNat]) (p.hv ++ elt 32 g.ids i.toNat) ∧ (b = false → S.Clsd P g.n (p.rd ++ [i.toNat])) ∧ p.n + 1 = (p.rd ++ [i.toNat]).length ∧ p.od ++ [i] = S.castL (p.rd ++ [i.toNat]) ∧ p.dn.set i.toNat true = S.dnS g.n (p.rd ++ [i.toNat]) :=
      fun b hb => ⟨hO', hH', fun h => (by rw [hb] at h; cases h), by simp [hn], by rw [S.castL_snoc, ← ei, hod], by rw [hd]; exact S.dnS_snoc _ (by omega)⟩
     refine run ?_
     refine J.regionT [.blk b1 (grC g) 25] (.br [(0, .q), (1, .q), (2, .q), (3, .q), (6, .q), (7, .q), (8, .q), (9, .q), (10, .q), (11, .q)] 4 (.br [] 5 (.fin [(12, .e), (13, .e), (14, .q), (15, .q), (16, .q), (17, .e), (18, .q)]) 12 (.fin [(5, .e), (13, .e), (14, .q), (15, .q), (16, .q), (17, .e), (18, .q)])) 12 (.fin [(4, .e), (5, .e), (13, .e), (14, .q), (15, .q), (16, .q), (17, .e), (18, .q)])) mixed (by kernel_rfl) (by repeat (first | exact List.Sublist.refl _ | refine List.Sublist.cons_cons _ ?_ | refine List.Sublist.cons _ ?_)) ?_
     refine run ?_
     refine J.nil (J.kt ?_ ?_)
     ·refine J.b1 rfl rfl fun ba => ?_
      refine J.nil (J.kr (J.tbr (J.nil (J.kt ?_ ?_))))
      ·refine J.apI rfl rfl RI.own' fun ao co => ?_
       refine run ?_
       refine J.b1W rfl rfl hx fun bb => ?_
       refine J.apW rfl rfl RW.own' fun ah ch => ?_
       refine run ?_
       refine J.stG1 rfl rfl (q := true) rfl ?_
       refine run ?_
       exact J.next ⟨p.rd ++ [i.toNat], p.n + 1, p.od ++ [i], p.hv ++ elt 32 g.ids i.toNat, p.dn.set i.toNat true, ao, co, ah, ch, true⟩ ⟨rfl, rfl, rfl, trivial⟩ (by kernel_rfl) (hI' true rfl) (by dsimp only; rw [List.length_append, List.length_singleton]; cases p.more <;> simp <;> omega)
      refine J.b1W rfl rfl hx fun bb => ?_
      refine run ?_
      refine J.apI rfl rfl RI.own' fun ao co => ?_
      refine J.apW rfl rfl RW.own' fun ah ch => ?_
      refine run ?_
      refine J.stG1 rfl rfl (q := true) rfl ?_
      refine run ?_
      exact J.next ⟨p.rd ++ [i.toNat], p.n + 1, p.od ++ [i], p.hv ++ elt 32 g.ids i.toNat, p.dn.set i.toNat true, ao, co, ah, ch, true⟩ ⟨rfl, rfl, rfl, trivial⟩ (by kernel_rfl) (hI' true rfl) (by dsimp only; rw [List.length_append, List.length_singleton]; cases p.more <;> simp <;> omega)
     refine J.b1W rfl rfl hx fun bb => ?_
     refine run ?_
     refine J.b1 rfl rfl fun ba => ?_
     refine J.apI rfl rfl RI.own' fun ao co => ?_
     refine J.apW rfl rfl RW.own' fun ah ch => ?_
     refine run ?_
     refine J.stG1 rfl rfl (q := true) rfl ?_
     refine run ?_
     exact J.next ⟨p.rd ++ [i.toNat], p.n + 1, p.od ++ [i], p.hv ++ elt 32 g.ids i.toNat, p.dn.set i.toNat true, ao, co, ah, ch, true⟩ ⟨rfl, rfl, rfl, trivial⟩ (by kernel_rfl) (hI' true rfl) (by dsimp only; rw [List.length_append, List.length_singleton]; cases p.more <;> simp <;> omega)
    refine run ?_
    exact J.nextS (i + 1) ⟨rfl, trivial⟩ (by kernel_rfl) (hnext fun _ h => c4 (hall.2 h)) (by omega)
   refine run ?_
   exact J.nextS (i + 1) ⟨rfl, trivial⟩ (by kernel_rfl) (hnext fun h => absurd (of_decide_eq_true c3) h) (by omega)
  refine run ?_
  exact J.next ⟨p.rd, p.n, p.od, p.hv, p.dn, p.ao, p.co, p.ah, p.ch, false⟩ ⟨rfl, rfl, rfl, trivial⟩ (by kernel_rfl) ⟨hO, hH, fun _ k hk hq => Decidable.not_not.1 (fun hn => h2 k (by omega) hn hq), hn, hod, hd⟩ (by dsimp only; rw [c1]; exact Nat.lt_succ_self _)
 refine run ?_
 refine J.re (.iown 3 .i64 p.ao p.n p.co p.od) (.iown 3 .i64 p.ao p.n p.co (S.castL p.rd)) (fun _ _ h => by rw [← hod]; exact h) ?_
 exact J.finG ((p.ao, p.n, p.co), p.rd) rfl ⟨hn, by rw [← hP]; exact hO, by rw [← hP]; exact hC c1⟩ (by repeat (first | exact List.nil_sublist _ | refine List.Sublist.cons_cons _ ?_ | refine List.Sublist.cons _ ?_))
theorem refOrder {S0 : Nat → Prop} (g : GrA) (w : World) (G : GrR S0 w g) (he : g.m = g.n) (hr : S.Rising g.m g.ids) (ho : S.opensS g.m g.ids g.ops) :
  Calls Tryz.prog 38 #[.agg (grC g).toArray] w (Gv w (fun q : Option Addr × Nat × Nat => .slice q.1 q.2.1 q.2.2) (fun _ => []) fun q => q.2.1 ≤ 70 ∧ (S.Found (S.prS g.m g.ids g.ops) g.n ↔ ¬ q.2.1 < g.n)) :=
 (refOrderL g w G he hr ho).mono fun _ _ ⟨q, h1, ⟨k1, k2, k3⟩, h3, _⟩ => ⟨q.1, h1, ⟨by have := k2.le; have := G.cap.2.2.2; omega, by rw [k1]; exact k2.found k3⟩, h3, trivial⟩
theorem refShape {S0 : Nat → Prop} (g : GrA) (w : World) (G : GrR S0 w g) (he : g.m = g.n) :
  Calls Tryz.prog 125 #[.agg (grC g).toArray] w (Ret w fun v _ => v = .int .i64 (S.shapeS g.m g.ids g.ops)) := by
 have D0 := G.ids
 have G0 := G.ops
 have hl := G.len
 have hcp := G.cap
 refine J.enter 31 Tryz.func125 rfl rfl ?_
 refine run ?_
 refine J.box rfl rfl rfl fun b1 => ?_
 refine run ?_
 refine J.callp rfl rfl (fun w' M => risingR _ _ _ _ _ (D0.ext M.ext) hcp.1 (by omega)) ?_
 refine run ?_
 refine J.ifnot rfl (fun c1 => ?_) (fun c1 => ?_)
 ·refine run ?_
  refine J.fin ?_
  unfold S.shapeS
  rw [if_pos (of_decide_eq_false c1)]
 have hr := of_decide_eq_true c1
 refine run ?_
 refine J.loopS (A := Int) (fun p => [(3, .int .i64 p)]) [8, 9, 10, 11, 12, 13, 14, 15, 16, 17, 18, 19, 20, 21, 22, 23, 24] (fun p => (0 ≤ p ∧ p ≤ g.n) ∧ ∀ k, k < p.toNat → S.allI g.m g.ids (g.ops.getD k S.OpV.zero).n (g.ops.getD k S.OpV.zero).ids) (fun p => g.n - p.toNat) 0 (by kernel_rfl) ⟨by omega, fun k hk => by omega⟩ (fun p j hI => ?_)
 obtain ⟨h1, hI⟩ := hI
 refine run ?_
 refine J.ifd rfl (fun c2 => ?_) (fun c2 => ?_)
 ·obtain ⟨z, hz⟩ := G0.ex (i := p) (by omega)
  have R := G.op hz
  have hzo := GrA.opAt hz
  have h20 := R.ok.n
  refine run ?_
  refine J.regionX [(0, .q), (1, .q), (2, .q), (3, .q), (4, .q), (5, .q), (6, .q), (7, .q), (8, .e), (9, .q)] mixed (by kernel_rfl) ?_
  refine run ?_
  refine J.callp rfl rfl (fun w' M => refAll _ _ _ _ _ _ _ _ _ (D0.ext M.ext) (R.row.ext M.ext) (by omega) (by omega)) ?_
  refine run ?_
  refine J.ifnot rfl (fun c3 => ?_) (fun c3 => ?_)
  ·refine run ?_
   refine J.fin ?_
   unfold S.shapeS
   rw [if_neg (not_not_intro hr), if_pos fun ho => of_decide_eq_false c3 ?_]
   rw [← hzo]
   exact ho p.toNat (by omega)
  refine run ?_
  refine J.nextS (p + 1) ⟨rfl, trivial⟩ (by kernel_rfl) ⟨by omega, fun k hk => ?_⟩ (by omega)
  rcases Nat.lt_or_ge k p.toNat with h | h
  ·exact hI k h
  obtain rfl : k = p.toNat := by omega
  rw [hzo]
  exact of_decide_eq_true c3
 have ho : S.opensS g.m g.ids g.ops := fun k hk => hI k (by omega)
 refine run ?_
 refine J.regionX [(0, .q), (3, .q), (4, .q), (5, .q), (1, .e), (2, .q), (6, .q)] mixed (by kernel_rfl) ?_
 refine run ?_
 refine J.call rfl rfl (fun w' M => refOrder g w' (G.ext M.ext) he hr ho) fun q hq => ?_
 obtain ⟨hq1, hq2⟩ := hq
 rw [← hl] at hq2
 have hs := S.shape_end hr ho hq2
 refine run ?_
 refine J.ifd rfl (fun c3 => ?_) (fun c3 => ?_)
 ·refine run ?_
  refine J.fin ?_
  rw [hs, if_pos (by omega)]
 refine run ?_
 refine J.fin ?_
 rw [hs, if_neg (by omega)]
theorem refCheck {S0 : Nat → Prop} (g : GrA) (w : World) (G : GrR S0 w g) :
  Calls Tryz.prog 102 #[.agg (grC g).toArray] w (Ret w fun v _ => v = .int .i64 (S.chkG g.m g.ids g.ops)) := by
 have D0 := G.ids
 have G0 := G.ops
 have hl := G.len
 have hcp := G.cap
 refine J.enter 44 Tryz.func102 rfl rfl ?_
 refine run ?_
 refine J.box rfl rfl rfl fun b1 => ?_
 refine run ?_
 refine J.ifd rfl (fun c => ?_) (fun c => ?_)
 ·refine run ?_
  refine J.fin ?_
  unfold S.chkG
  rw [if_pos (by omega)]
 refine run ?_
 refine J.ifn rfl (fun c2 => ?_) (fun c2 => ?_)
 ·refine run ?_
  refine J.fin ?_
  unfold S.chkG
  rw [if_neg (by omega), if_pos (by omega)]
 refine run ?_
 have h8 : ∀ i, i < g.n → ¬ S.ownS (g.ops.getD i S.OpV.zero) (S.idAt g.ids i) → (8 : Int) = S.chkG g.m g.ids g.ops := fun i hi h => by
  unfold S.chkG
  rw [if_neg (by omega), if_neg (by omega), if_pos fun ho => h (ho i (by omega))]
 refine J.loopS (A := Int) (fun p => [(3, .int .i64 p)]) [15, 16, 17, 18, 19, 20, 21, 22, 23, 24, 25, 26, 27, 28, 29, 30, 31, 32, 33, 34, 35, 36, 37, 38, 39, 40, 41, 42] (fun p => (0 ≤ p ∧ p ≤ g.n) ∧ ∀ i, i < p.toNat → S.ownS (g.ops.getD i S.OpV.zero) (S.idAt g.ids i)) (fun p => g.n - p.toNat) 0 (by kernel_rfl) ⟨by omega, fun i hi => by omega⟩ (fun p j hI => ?_)
 obtain ⟨h1, hI⟩ := hI
 refine run ?_
 refine J.ifd rfl (fun c3 => ?_) (fun c3 => ?_)
 ·obtain ⟨z, hz⟩ := G0.ex (i := p) (by omega)
  have R := G.op hz
  have hzo := GrA.opAt hz
  have hsa : Arr .u8 32 (S.sha (S.encS z.o)) := S.sha_arr _
  have hid : Arr .u8 32 (elt 32 g.ids p.toNat) := D0.elt_arr (by omega)
  have h9 : ¬ S.ownS z.o (S.idAt g.ids p.toNat) → (8 : Int) = S.chkG g.m g.ids g.ops := fun h => h8 p.toNat (by omega) (by rw [hzo]; exact h)
  refine run ?_
  refine J.regionX [(0, .q), (1, .q), (2, .q), (3, .q), (4, .q), (5, .e), (6, .q), (7, .q), (8, .q), (9, .q), (10, .q), (11, .q), (12, .q), (14, .q), (15, .q), (16, .q), (17, .q), (18, .q), (13, .e), (19, .q), (20, .q)] mixed (by kernel_rfl) ?_
  refine run ?_
  refine J.callp rfl rfl (fun w' M => verifyOR z.o R.ok _ _ _ (R.row.ext M.ext) R.cap) ?_
  refine run ?_
  refine J.spn rfl rfl rfl (fun c4 => ?_) (fun c4 => ?_)
  ·refine run ?_
   refine J.fin (congrArg _ (h9 fun h => c4 h.1))
  have hz0 := S.check_zero.1 (S.verE_check c4)
  refine run ?_
  refine J.callp rfl rfl (fun w' M => ofO z.o R.ok _ _ _ (R.row.ext M.ext) R.cap hz0.1 (fun hk => ?_)) ?_
  ·exact S.fine4 hz0.2.2.2.2.2.2 hk
  refine run ?_
  refine J.ifd rfl (fun c5 => ?_) (fun c5 => ?_)
  ·refine run ?_
   exact J.fin (congrArg _ (h9 fun h => c5 h.2))
  refine run ?_
  refine J.nextS (p + 1) ⟨rfl, trivial⟩ (by kernel_rfl) ⟨by omega, fun i hi => ?_⟩ (by omega)
  rcases Nat.lt_or_ge i p.toNat with h | h
  ·exact hI i h
  obtain rfl : i = p.toNat := by omega
  rw [hzo]
  exact ⟨c4, Decidable.not_not.1 c5⟩
 refine run ?_
 refine J.callp rfl rfl (fun w' M => refShape g w' (G.ext M.ext) (by omega)) ?_
 refine run ?_
 refine J.fin ?_
 unfold S.chkG
 rw [if_neg (by omega), if_neg (by omega), if_neg (not_not_intro (show S.ownsS g.ids g.ops from fun i hi => hI i (by omega)))]
instance : Ents Tryz.prog 29 := ⟨.mk Tryz.func29 (by kernel_rfl) rfl⟩
def bigO (o : S.OpV) : Prop := 20 < o.n ∨ 100 < o.key.size ∨ 100 < o.t.size
structure GrI (S0 : Nat → Prop) (w : World) (g : GrA) : Prop where
 ids : WRow .u8 32 S0 w g.ia g.m g.ids
 ops : GRow opC 11 S0 w g.oa g.n g.zs
 inn : Inns opI S0 w g.zs
 rng : ∀ z ∈ g.zs, z.o.rng
 cap : g.m ≤ g.ic ∧ g.n ≤ g.oc
def GrSm (g : GrA) : Prop := g.m ≤ 70 ∧ g.n ≤ 70 ∧ ¬ (16 < g.n ∧ g.n ≤ 60) ∧ ∀ i, i < g.n → ¬ bigO (g.ops.getD i S.OpV.zero)
theorem GrI.ext {S0 : Nat → Prop} {w w' : World} {g : GrA} (h : GrI S0 w g) (x : Ext w w') : GrI S0 w' g := ⟨h.ids.ext x, h.ops.ext x, h.inn.ext x, h.rng, h.cap⟩
theorem GrI.gr {S0 : Nat → Prop} {w : World} {g : GrA} (h : GrI S0 w g) (hs : GrSm g) : GrR S0 w g := ⟨h.ids, h.ops, h.inn, fun z hz => by
 obtain ⟨i, hi, rfl⟩ := List.getElem_of_mem hz
 have h1 := hs.2.2.2 i (by rw [← h.ops.len]; exact hi)
 rw [GrA.opAt (List.getElem?_eq_getElem hi)] at h1
 exact (h.rng _ hz).ok h1, h.cap.1, h.cap.2, hs.1, hs.2.1⟩
theorem refGreat {S0 : Nat → Prop} (g : GrA) (w : World) (G : GrI S0 w g) :
  Calls Tryz.prog 13 #[.agg (grC g).toArray] w (Gv w (fun q : Bool => .bool q) (fun _ => []) fun q => q = false → GrSm g) := by
 have G0 := G.ops
 refine J.enter 42 Tryz.func13 rfl rfl ?_
 refine run ?_
 refine J.box rfl rfl rfl fun b1 => ?_
 refine run ?_
 refine J.loopS (A := Int) (fun p => [(3, .int .i64 p)]) [4, 5, 6, 7, 8, 9, 10, 11, 12, 13, 14, 15, 16, 17, 18, 19, 20] (fun p => (0 ≤ p ∧ p ≤ g.n ∧ p ≤ 71) ∧ ∀ k, k < p.toNat → ¬ bigO (g.ops.getD k S.OpV.zero)) (fun p => g.n - p.toNat) 0 (by kernel_rfl) ⟨by omega, fun k hk => by omega⟩ (fun p j hI => ?_)
 obtain ⟨h1, hI⟩ := hI
 refine run ?_
 have hend : ∀ {L : List Ent} {X : World → Prop}, (¬ (p < g.n) ∨ ¬ p ≤ 70) → ((g.n ≤ 70 → ∀ k, k < g.n → ¬ bigO (g.ops.getD k S.OpV.zero)) → J no w L X) → J no w L X := fun h k => k fun hn i hi => hI i (by omega)
 refine J.spd rfl rfl rfl (fun c1 => ?_) (fun c1 => ?_)
 ·refine run ?_
  refine J.ifd rfl (fun c2 => ?_) (fun c2 => ?_)
  ·obtain ⟨z, hz⟩ := G0.ex (i := p) (by omega)
   have hzo := GrA.opAt hz
   refine run ?_
   refine J.callp rfl rfl (fun w' M => great z.o z.pa z.pc w') ?_
   refine run ?_
   refine J.ifd rfl (fun c3 => ?_) (fun c3 => ?_)
   ·refine run ?_
    exact J.finG true rfl (fun h => by cases h) (List.nil_sublist _)
   refine run ?_
   refine J.nextS (p + 1) ⟨rfl, trivial⟩ (by kernel_rfl) ⟨by omega, fun k hk => ?_⟩ (by omega)
   rcases Nat.lt_or_ge k p.toNat with h | h
   ·exact hI k h
   obtain rfl : k = p.toNat := by omega
   rw [hzo]
   exact c3
  refine hend (.inr c2) fun hA => ?_
  refine run ?_
  refine J.spd rfl rfl rfl (fun c3 => ?_) (fun c3 => ?_)
  ·refine run ?_
   refine J.spd rfl rfl rfl (fun c4 => ?_) (fun c4 => ?_)
   ·refine run ?_
    exact J.finG true rfl (fun h => by cases h) (List.nil_sublist _)
   refine run ?_
   refine J.spd rfl rfl rfl (fun c5 => ?_) (fun c5 => ?_)
   ·refine run ?_
    exact J.finG true rfl (fun h => by cases h) (List.nil_sublist _)
   refine run ?_
   exact J.finG (decide ((70 : Int) < g.m)) rfl (fun h => by have := of_decide_eq_false h; exact ⟨by omega, by omega, by omega, hA (by omega)⟩) (List.nil_sublist _)
  refine run ?_
  refine J.spd rfl rfl rfl (fun c5 => ?_) (fun c5 => ?_)
  ·refine run ?_
   exact J.finG true rfl (fun h => by cases h) (List.nil_sublist _)
  refine run ?_
  exact J.finG (decide ((70 : Int) < g.m)) rfl (fun h => by have := of_decide_eq_false h; exact ⟨by omega, by omega, by omega, hA (by omega)⟩) (List.nil_sublist _)
 refine hend (.inl c1) fun hA => ?_
 refine run ?_
 refine J.spd rfl rfl rfl (fun c3 => ?_) (fun c3 => ?_)
 ·refine run ?_
  refine J.spd rfl rfl rfl (fun c4 => ?_) (fun c4 => ?_)
  ·refine run ?_
   exact J.finG true rfl (fun h => by cases h) (List.nil_sublist _)
  refine run ?_
  refine J.spd rfl rfl rfl (fun c5 => ?_) (fun c5 => ?_)
  ·refine run ?_
   exact J.finG true rfl (fun h => by cases h) (List.nil_sublist _)
  refine run ?_
  exact J.finG (decide ((70 : Int) < g.m)) rfl (fun h => by have := of_decide_eq_false h; exact ⟨by omega, by omega, by omega, hA (by omega)⟩) (List.nil_sublist _)
 refine run ?_
 refine J.spd rfl rfl rfl (fun c5 => ?_) (fun c5 => ?_)
 ·refine run ?_
  exact J.finG true rfl (fun h => by cases h) (List.nil_sublist _)
 refine run ?_
 exact J.finG (decide ((70 : Int) < g.m)) rfl (fun h => by have := of_decide_eq_false h; exact ⟨by omega, by omega, by omega, hA (by omega)⟩) (List.nil_sublist _)
end Go.Proofs.YtakbhjagiofbgaaGreatDoor.W
namespace Go.Proofs.YtakbhjagiofbgaaGreatDoor.L
open Go Go.Proofs.YtakbhjagiofbgaaGreatDoor Go.Proofs.YtakbhjagiofbgaaGreatDoor.G Go.Proofs.YtakbhjagiofbgaaGreatDoor.W
open Go.ChangeShapes Go.WideShapes Go.ChangeAt Go.RowKit
set_option linter.unusedVariables false
set_option maxRecDepth 100000
section
variable {H : Type} {enc : TypeId × Value → H} {P : Program} {w : World} {base : Nat} {sp : Nat → Bool} {held : Bool} {fuel : Nat} {cs : List Value} {x : DataW H × List MemPlace} {t : TypeId}
theorem okWide_array {e n : Nat} {r : Reach} {b0 : Nat} {v : Value} (ht : P.underlying t = some (.array n e)) (h : Value.okWide P w r b0 t v) : ∃ xs : Array Value, v = .agg xs ∧ xs.size = P.cellsOf t := by
  simp only [Value.okWide, ht] at h
  obtain ⟨cs, h1, h2, _⟩ := h
  exact ⟨cs, h1, h2⟩
theorem grow_in {α : Type} {e sz : Nat} (f : α → List Value) (Q : α → Prop) (d : α) (hf : ∀ x, (f x).length = sz) (ht : P.underlying t = some (.slice e)) (hes : P.cellsOf e = sz) (hz : 0 < sz)
    (h1 : ∀ m ds y, DataW.trod enc P w base sp held m e ds = some y → ∃ z, ds = f z ∧ Q z) (h : DataW.trod enc P w base sp held fuel t cs = some x) :
    ∃ a n c zs, cs = [.slice a n c] ∧ n ≤ c ∧ GRow f sz (fun _ => True) w a n zs ∧ ∀ z ∈ zs, Q z := by
  rcases DataW.trod_slice ht h with ⟨h2, _⟩ | ⟨a, len, cap, elems, rest, m, _, h2, _, _, hlc, _, hel, he, _⟩
  · exact ⟨none, 0, 0, [], h2, Nat.le_refl _, .nil hf, fun z hz => by cases hz⟩
  · refine ⟨some a, len, cap, ?_⟩
    by_cases h0 : len = 0
    · subst h0
      exact ⟨[], h2, hlc, .nil hf, fun z hz => by cases hz⟩
    · have one : ∀ i, i < len → ∃ z, Q z ∧ ∀ j, j < sz → w.cell? ((a.add (i * sz)).add j) = (f z)[j]? := by
        intro i hi
        have h3 := he i hi
        rw [List.getElem?_eq_getElem (by omega), hes] at h3
        cases hc : w.cells? base (a.add (i * sz)) sz with
        | none => rw [hc] at h3; cases h3
        | some ds =>
          rw [hc, Option.bind_some] at h3
          obtain ⟨z, h4, h5⟩ := h1 _ _ _ h3
          obtain ⟨h6, h7⟩ := cells_in hc
          exact ⟨z, h5, fun j hj => by rw [h7 j hj, h4]⟩
      obtain ⟨b0, o, spot⟩ := a
      obtain rfl : spot = none := by
        obtain ⟨z, _, h3⟩ := one 0 (by omega)
        have h4 := h3 0 hz
        rw [List.getElem?_eq_getElem (by rw [hf]; exact hz)] at h4
        have := World.cell?_spot h4
        simpa [Addr.add] using this
      obtain ⟨zs, h3, h4⟩ := list_of d (fun i z => Q z ∧ ∀ j, j < sz → w.cell? ⟨b0, o + (i * sz + j), none⟩ = (f z)[j]?) len (fun i hi => by
        obtain ⟨z, h5, h6⟩ := one i hi
        exact ⟨z, h5, fun j hj => by have := h6 j hj; rw [add_mk, add_mk, Nat.add_assoc] at this; exact this⟩)
      refine ⟨zs, h2, hlc, ⟨.inr ⟨b0, o, rfl, trivial, fun j hj => ?_⟩, h3, hf⟩, fun z hz => ?_⟩
      · rw [flat_len f sz hf, h3] at hj
        have hi : j / sz < len := Nat.div_lt_of_lt_mul hj
        have hm := Nat.mod_lt j hz
        have h5 := (h4 _ hi).2 _ hm
        rw [Nat.mul_comm (j / sz), Nat.div_add_mod] at h5
        have hg := flat_get f sz hf d zs (j / sz) (by omega)
        have e2 := congrArg (fun t => t[j % sz]?) hg
        simp only [List.getElem?_take, if_pos hm, List.getElem?_drop, Nat.div_add_mod] at e2
        rw [h5, ← e2, List.getD_eq_getElem?_getD, List.getElem?_eq_getElem (by rw [flat_len f sz hf, h3]; exact hj)]
        rfl
      · obtain ⟨j, hj, rfl⟩ := List.getElem_of_mem hz
        have := (h4 j (by omega)).1
        rw [List.getD_eq_getElem?_getD, List.getElem?_eq_getElem hj] at this
        exact this
end
theorem z_ops : Tryz.prog.cellsOf 23 = 1 := by kernel_rfl
theorem z_gr : Tryz.prog.cellsOf 25 = 2 := by kernel_rfl
section
variable {H : Type} {enc : TypeId × Value → H} {w : World} {base : Nat} {sp : Nat → Bool} {held : Bool} {fuel : Nat} {cs : List Value} {x : DataW H × List MemPlace}
theorem id_in (h : DataW.trod enc Tryz.prog w base sp held fuel 43 cs = some x) : ∃ xs, cs = ints .u8 xs ∧ Arr .u8 32 xs := bytes_in Tryz.underlying43 Tryz.underlying5 z_u8 z_id h
theorem ops_in (h : DataW.trod enc Tryz.prog w base sp held fuel 23 cs = some x) : ∃ a n c zs, cs = [.slice a n c] ∧ n ≤ c ∧ GRow opC 11 (fun _ => True) w a n zs ∧ ∀ z ∈ zs, z.o.rng ∧ z.o.n ≤ z.pc ∧ WRow .u8 32 (fun _ => True) w z.pa z.o.n z.o.ids :=
  grow_in opC (fun z => z.o.rng ∧ z.o.n ≤ z.pc ∧ WRow .u8 32 (fun _ => True) w z.pa z.o.n z.o.ids) ⟨S.OpV.zero, none, 0⟩ (fun _ => rfl) Tryz.underlying23 z_op (by decide) (fun m ds y hd => by
    obtain ⟨o, pa, pc, h1, h2, h3, h4⟩ := op_in hd
    exact ⟨⟨o, pa, pc⟩, h1, h2, h3, h4⟩) h
theorem graph_in (h : DataW.trod enc Tryz.prog w base sp held fuel 25 cs = some x) : ∃ g, cs = grC g ∧ GrI (fun _ => True) w g := by
  have hl := (fields_in Tryz.underlying25 h).1
  rw [z_gr] at hl
  match cs, hl, h with
  | [c0, c1], _, h =>
    obtain ⟨_, _, f0⟩ := field_in 0 Tryz.underlying25 rfl z_ids h
    obtain ⟨_, _, f1⟩ := field_in 1 Tryz.underlying25 rfl z_ops h
    obtain ⟨ia, m, ic, ids, e0, hc0, hR0⟩ := ids_in Tryz.underlying22 Tryz.underlying43 Tryz.underlying5 z_u8 z_id (by decide) f0
    obtain ⟨oa, n, oc, zs, e1, hc1, hR1, hQ⟩ := ops_in f1
    have q0 : [c0] = [Value.slice ia m ic] := e0
    have q1 : [c1] = [Value.slice oa n oc] := e1
    simp only [List.cons.injEq, and_true] at q0 q1
    subst q0 q1
    refine ⟨⟨ia, oa, m, n, ic, oc, ids, zs⟩, rfl, hR0, hR1, fun z hz i hi => ?_, fun z hz => (hQ z hz).1, hc0, hc1⟩
    obtain rfl := List.mem_singleton.1 hi
    exact ⟨(hQ z hz).2.2, (hQ z hz).2.1⟩
end
end Go.Proofs.YtakbhjagiofbgaaGreatDoor.L
