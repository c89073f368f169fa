/-
  Part 11 of the lemmas of these laws: LwwOrder, LwwGreatest.
-/
import Derived.Test.YtimdoffpnjdmmaaGreatDoorPLx10
set_option linter.unusedSimpArgs false
namespace Go.Proofs.YtimdoffpnjdmmaaGreatDoor.W
open Go.RowKit Go.Proofs.YtimdoffpnjdmmaaGreatDoor.G
set_option linter.unusedVariables false
set_option linter.unusedSimpArgs false
set_option maxRecDepth 20000
set_option maxHeartbeats 8000000
attribute [local irreducible] RS RX RY Code.wp bodyPost J Ent.blk Ent.irow Ent.iown Ent.wrow Ent.wown Ent.grow Ent.gown Ent.all Ent.emp
instance : Ents Tryz.prog 35 := ⟨.mk Tryz.func35 (by kernel_rfl) rfl⟩
instance : Und Tryz.prog 135 (.slice 4) := ⟨Tryz.underlying135⟩
instance : Inf Tryz.prog 4 1 1 [.bool false] := ⟨TI.of (v := .bool false) (by kernel_rfl) rfl⟩
instance : Siz Tryz.prog 4 1 := ⟨by kernel_rfl⟩
instance : Sca Tryz.prog 4 := ⟨_, Tryz.underlying4, rfl⟩
instance : Und Tryz.prog 4 .bool := ⟨Tryz.underlying4⟩
instance : Ents Tryz.prog 44 := ⟨.mk Tryz.func44 (by kernel_rfl) rfl⟩
instance : Ents Tryz.prog 41 := ⟨.mk Tryz.func41 (by kernel_rfl) rfl⟩
instance : Ents Tryz.prog 46 := ⟨.mk Tryz.func46 (by kernel_rfl) rfl⟩
instance : Ents Tryz.prog 74 := ⟨.mk Tryz.func74 (by kernel_rfl) rfl⟩
instance : Ents Tryz.prog 49 := ⟨.mk Tryz.func49 (by kernel_rfl) rfl⟩
instance : Ents Tryz.prog 75 := ⟨.mk Tryz.func75 (by kernel_rfl) rfl⟩
structure OrP where
 (rd : List Nat) (n : Nat) (od hv : List Int) (dn : List Bool) (ao : Option Addr) (co : Nat) (ah : Option Addr) (ch : Nat) (more : Bool)
theorem refAt {S0 : Nat → Prop} (a : Option Addr) (n c : Nat) (ids x : List Int) (w : World) (D0 : WRow .u8 32 S0 w a n ids) (hx : Arr .u8 32 x) (hn : n ≤ 1000) :
  Calls Tryz.prog 35 #[.slice a n c, .agg (ints .u8 x).toArray] w (Ret w fun v _ => v = .int .i64 (S.atS n ids x)) := by
 refine J.enter 17 Tryz.func35 rfl rfl ?_
 refine run ?_
 refine J.box rfl rfl rfl fun b1 => ?_
 refine run ?_
 refine J.loopS (A := Int) (fun p => [(5, .int .i64 p)]) [6, 7, 8, 9, 10, 11, 12, 13, 14, 15, 16, 17, 18] (fun p => (0 ≤ p ∧ p ≤ n) ∧ ∀ k, k < p.toNat → S.idAt ids k ≠ x) (fun p => n - p.toNat) 0 (by kernel_rfl) ⟨by omega, fun k hk => by omega⟩ (fun p j hI => ?_)
 obtain ⟨h1, hI⟩ := hI
 refine run ?_
 refine J.ifd rfl (fun c1 => ?_) (fun c1 => ?_)
 ·obtain ⟨q, hq⟩ := ex (elt 32 ids p.toNat)
  have hqa : Arr .u8 32 q := hq ▸ D0.elt_arr (by omega)
  refine run ?_
  refine J.regionX [(0, .q), (1, .q), (2, .q), (3, .q), (4, .q), (5, .q)] mixed (by kernel_rfl) ?_
  refine run ?_
  refine J.ifd rfl (fun c2 => ?_) (fun c2 => ?_)
  ·refine run ?_
   refine J.fin ?_
   rw [← S.at_hit (i := p.toNat) (by omega) (by rw [← c2]; exact hq.symm) hI]
   congr 1
   omega
  refine run ?_
  refine J.nextS (p + 1) ⟨rfl, trivial⟩ (by kernel_rfl) ⟨by omega, fun k hk => ?_⟩ (by omega)
  rcases Nat.lt_or_ge k p.toNat with h | h
  ·exact hI k h
  obtain rfl : k = p.toNat := by omega
  exact fun e => c2 (hq.trans e)
 refine run ?_
 refine J.fin ?_
 rw [← S.at_miss fun k hk => hI k (by omega)]
theorem refAll {S0 S1 : Nat → Prop} (a a2 : Option Addr) (n c n2 c2 : Nat) (ids ps : List Int) (w : World) (D0 : WRow .u8 32 S0 w a n ids) (D1 : WRow .u8 32 S1 w a2 n2 ps) (hn : n ≤ 1000) (hn2 : n2 ≤ 1000) :
  Calls Tryz.prog 44 #[.slice a n c, .slice a2 n2 c2] w (Ret w fun v _ => v = .bool (decide (S.allI n ids n2 ps))) := by
 refine J.enter 17 Tryz.func44 rfl rfl ?_
 refine run ?_
 refine J.loopS (A := Int) (fun p => [(5, .int .i64 p)]) [6, 7, 8, 9, 10, 11, 12, 13, 14, 15, 16, 17, 18] (fun p => (0 ≤ p ∧ p ≤ n2) ∧ ∀ k, k < p.toNat → S.inS n ids (S.idAt ps k)) (fun p => n2 - p.toNat) 0 (by kernel_rfl) ⟨by omega, fun k hk => by omega⟩ (fun p j hI => ?_)
 obtain ⟨h1, hI⟩ := hI
 refine run ?_
 refine J.ifd rfl (fun c1 => ?_) (fun c1 => ?_)
 ·refine run ?_
  refine J.callp rfl rfl (fun w' M => refAt _ _ _ _ _ _ (D0.ext M.ext) (D1.elt_arr (by omega)) hn) ?_
  refine run ?_
  refine J.ifd rfl (fun c2 => ?_) (fun c2 => ?_)
  ·refine run ?_
   exact J.fin (congrArg _ (decide_eq_false fun h => S.at_neg.1 c2 (h _ (by omega))).symm)
  refine run ?_
  refine J.nextS (p + 1) ⟨rfl, trivial⟩ (by kernel_rfl) ⟨by omega, fun k hk => ?_⟩ (by omega)
  rcases Nat.lt_or_ge k p.toNat with h | h
  ·exact hI k h
  obtain rfl : k = p.toNat := by omega
  exact Decidable.not_not.1 fun h => c2 (S.at_neg.2 h)
 refine run ?_
 exact J.fin (congrArg _ (decide_eq_true fun k hk => hI k (by omega)).symm)
theorem refOrder {S0 : Nat → Prop} (g : GrA) (w : World) (G : GrR S0 w g) (he : g.m = g.n) (hr : S.Rising g.m g.ids) (ho : S.opensS g.m g.ids g.ops) :
  Calls Tryz.prog 46 #[.agg (grC g).toArray] w (Gv w (fun q : Option Addr × Nat × Nat => .slice q.1 q.2.1 q.2.2) (fun _ => []) fun q => q.2.1 ≤ 70 ∧ (S.Found (S.prS g.m g.ids g.ops) g.n ↔ ¬ q.2.1 < g.n)) := by
 have D0 := G.ids
 have G0 := G.ops
 have hl := G.len
 have hcp := G.cap
 have hcp4 := hcp.2.2.2
 obtain ⟨P, hP⟩ := ex (S.prS g.m g.ids g.ops)
 refine J.enter 50 Tryz.func46 rfl rfl ?_
 refine run ?_
 refine J.box rfl rfl rfl fun b1 => ?_
 refine run ?_
 refine J.mkG boC false (fun _ => rfl) rfl rfl rfl rfl fun bd => ?_
 rw [← S.dnS_first]
 refine run ?_
 refine J.nilI 3 .i64 ?_
 refine J.nilWo 49 .u8 32 ?_
 refine J.loop (A := OrP) (fun p => [(3, .slice p.ao p.n p.co), (4, .slice p.ah p.n p.ch), (6, .bool p.more)]) [7, 12, 13, 14, 15, 16, 17, 18, 19, 20, 21, 22, 23, 24, 25, 26, 27, 28, 29, 30, 31, 32, 33, 34, 35, 36, 37, 38, 39, 40, 41, 42, 43, 44, 45, 46, 47, 48, 49] (fun p => [.wown 49 .u8 32 p.ah p.n p.ch p.hv, .iown 3 .i64 p.ao p.n p.co p.od, .gown boC 1 4 (some ⟨bd, 0, none⟩) g.n g.n p.dn, .blk b1 (grC g) 67])
  (fun p => S.OrdS P g.n p.rd ∧ S.HvS g.ids p.rd p.hv ∧ (p.more = false → S.Clsd P g.n p.rd) ∧ p.n = p.rd.length ∧ p.od = S.castL p.rd ∧ p.dn = S.dnS g.n p.rd) (fun p => 2 * (g.n - p.rd.length) + p.more.toNat) ⟨[], 0, [], [], S.dnS g.n [], none, 0, none, 0, true⟩ (by kernel_rfl) ⟨S.OrdS.first _ _, S.HvS.first _, fun h => (by cases h), rfl, rfl, rfl⟩ (fun p j hI => ?_)
 obtain ⟨hO, hH, hC, hn, hod, hd⟩ := hI
 have hle := hO.le
 refine run ?_
 refine J.ifb rfl (fun c1 => ?_) (fun c1 => ?_)
 ·refine run ?_
  refine J.loopS (A := Int) (fun p => [(7, .int .i64 p)]) [13, 14, 15, 16, 17, 18, 19, 20, 21, 22, 23, 24, 25, 26, 27, 28, 29, 30, 31, 32, 33, 34, 35, 36, 37, 38, 39, 40, 41, 42, 43, 44, 45, 46, 47, 48, 49] (fun i => (0 ≤ i ∧ i ≤ g.n) ∧ ∀ k, k < i.toNat → k ∉ p.rd → ¬ ∀ q ∈ P k, q ∈ p.rd) (fun i => g.n - i.toNat) 0 (by kernel_rfl) ⟨by omega, fun k hk => by omega⟩ (fun i j2 hI2 => ?_)
  obtain ⟨h1, h2⟩ := hI2
  refine run ?_
  refine J.ifd rfl (fun c2 => ?_) (fun c2 => ?_)
  ·obtain ⟨z, hz⟩ := G0.ex (i := i) (by omega)
   have R := G.op hz
   have hzo := GrA.opAt hz
   have h20 := R.ok.n
   have hdn := S.dnS_get p.rd (show i.toNat < g.n by omega)
   rw [← hd] at hdn
   have hall := hH.all (ops := g.ops) (i := i.toNat) hr (fun x hx => by have := hO.lt x hx; omega) (ho i.toNat (by omega))
   rw [hzo, ← hP, ← hn] at hall
   have hnext : (i.toNat ∉ p.rd → ¬ ∀ q ∈ P i.toNat, q ∈ p.rd) → ((0 ≤ i + 1 ∧ i + 1 ≤ (g.n : Int)) ∧ ∀ k, k < (i + 1).toNat → k ∉ p.rd → ¬ ∀ q ∈ P k, q ∈ p.rd) := fun hk => ⟨by omega, fun k hk2 => by
    rcases Nat.lt_or_ge k i.toNat with h | h
    ·exact h2 k h
    obtain rfl : k = i.toNat := by omega
    exact hk⟩
   refine run ?_
   refine J.spt rfl rfl rfl (fun c3 => ?_) (fun c3 => ?_)
   ·have hni := of_decide_eq_false c3
    refine run ?_
    refine J.callp rfl rfl (fun w' M => (RW.own' w' M).elim fun _ h => refAll _ _ _ _ _ _ _ _ _ h (R.row.ext M.ext) (by omega) (by omega)) ?_
    refine run ?_
    refine J.ifd rfl (fun c4 => ?_) (fun c4 => ?_)
    ·have hp := hall.1 c4
     have hO' := hO.snoc (show i.toNat < g.n by omega) hni hp
     have hH' := hH.snoc (i := i.toNat) D0.len (by omega)
     have hroom := hO.room (show i.toNat < g.n by omega) hni
     have hx : Arr .u8 32 (elt 32 g.ids i.toNat) := D0.elt_arr (by omega)
     have ei : i = (i.toNat : Nat) := by omega
     have hI' : ∀ b : Bool, b = true → S.OrdS P g.n (p.rd ++ [i.toNat]) ∧ S.HvS g.ids (p.rd ++ [i.toNat]) (p.hv ++ elt 32 g.ids i.toNat) ∧ (b = false → S.Clsd P g.n (p.rd ++ [i.toNat])) ∧ p.n + 1 = (p.rd ++ [i.toNat]).length ∧ p.od ++ [i] = S.castL (p.rd ++ [i.toNat]) ∧ p.dn.set i.toNat true = S.dnS g.n (p.rd ++ [i.toNat]) :=
      fun b hb => ⟨hO', hH', fun h => (by rw [hb] at h; cases h), by simp [hn], by rw [S.castL_snoc, ← ei, hod], by rw [hd]; exact S.dnS_snoc _ (by omega)⟩
     refine run ?_
     refine J.regionT [.blk b1 (grC g) 67] (.br [(0, .q), (1, .q), (2, .q), (3, .q), (6, .q), (7, .q), (8, .q), (9, .q), (10, .q), (11, .q)] 4 (.br [] 5 (.fin [(12, .e), (13, .e), (14, .q), (15, .q), (16, .q), (17, .e), (18, .q)]) 12 (.fin [(5, .e), (13, .e), (14, .q), (15, .q), (16, .q), (17, .e), (18, .q)])) 12 (.fin [(4, .e), (5, .e), (13, .e), (14, .q), (15, .q), (16, .q), (17, .e), (18, .q)])) mixed (by kernel_rfl) (by repeat (first | exact List.Sublist.refl _ | refine List.Sublist.cons_cons _ ?_ | refine List.Sublist.cons _ ?_)) ?_
     refine run ?_
     refine J.nil (J.kt ?_ ?_)
     ·refine J.b1 rfl rfl fun ba => ?_
      refine J.nil (J.kr (J.tbr (J.nil (J.kt ?_ ?_))))
      ·refine J.apI rfl rfl RI.own' fun ao co => ?_
       refine run ?_
       refine J.b1W rfl rfl hx fun bb => ?_
       refine J.apW rfl rfl RW.own' fun ah ch => ?_
       refine run ?_
       refine J.stG1 rfl rfl (q := true) rfl ?_
       refine run ?_
       exact J.next ⟨p.rd ++ [i.toNat], p.n + 1, p.od ++ [i], p.hv ++ elt 32 g.ids i.toNat, p.dn.set i.toNat true, ao, co, ah, ch, true⟩ ⟨rfl, rfl, rfl, trivial⟩ (by kernel_rfl) (hI' true rfl) (by dsimp only; rw [List.length_append, List.length_singleton]; cases p.more <;> simp <;> omega)
      refine J.b1W rfl rfl hx fun bb => ?_
      refine run ?_
      refine J.apI rfl rfl RI.own' fun ao co => ?_
      refine J.apW rfl rfl RW.own' fun ah ch => ?_
      refine run ?_
      refine J.stG1 rfl rfl (q := true) rfl ?_
      refine run ?_
      exact J.next ⟨p.rd ++ [i.toNat], p.n + 1, p.od ++ [i], p.hv ++ elt 32 g.ids i.toNat, p.dn.set i.toNat true, ao, co, ah, ch, true⟩ ⟨rfl, rfl, rfl, trivial⟩ (by kernel_rfl) (hI' true rfl) (by dsimp only; rw [List.length_append, List.length_singleton]; cases p.more <;> simp <;> omega)
     refine J.b1W rfl rfl hx fun bb => ?_
     refine run ?_
     refine J.b1 rfl rfl fun ba => ?_
     refine J.apI rfl rfl RI.own' fun ao co => ?_
     refine J.apW rfl rfl RW.own' fun ah ch => ?_
     refine run ?_
     refine J.stG1 rfl rfl (q := true) rfl ?_
     refine run ?_
     exact J.next ⟨p.rd ++ [i.toNat], p.n + 1, p.od ++ [i], p.hv ++ elt 32 g.ids i.toNat, p.dn.set i.toNat true, ao, co, ah, ch, true⟩ ⟨rfl, rfl, rfl, trivial⟩ (by kernel_rfl) (hI' true rfl) (by dsimp only; rw [List.length_append, List.length_singleton]; cases p.more <;> simp <;> omega)
    refine run ?_
    exact J.nextS (i + 1) ⟨rfl, trivial⟩ (by kernel_rfl) (hnext fun _ h => c4 (hall.2 h)) (by omega)
   refine run ?_
   exact J.nextS (i + 1) ⟨rfl, trivial⟩ (by kernel_rfl) (hnext fun h => absurd (of_decide_eq_true c3) h) (by omega)
  refine run ?_
  exact J.next ⟨p.rd, p.n, p.od, p.hv, p.dn, p.ao, p.co, p.ah, p.ch, false⟩ ⟨rfl, rfl, rfl, trivial⟩ (by kernel_rfl) ⟨hO, hH, fun _ k hk hq => Decidable.not_not.1 (fun hn => h2 k (by omega) hn hq), hn, hod, hd⟩ (by dsimp only; rw [c1]; exact Nat.lt_succ_self _)
 refine run ?_
 have hf := hO.found (hC c1)
 rw [hP] at hf
 exact J.finG (p.ao, p.n, p.co) rfl ⟨by dsimp only; omega, by dsimp only; rw [hn]; exact hf⟩ (List.nil_sublist _)
theorem refShape {S0 : Nat → Prop} (g : GrA) (w : World) (G : GrR S0 w g) (he : g.m = g.n) :
  Calls Tryz.prog 75 #[.agg (grC g).toArray] w (Ret w fun v _ => v = .int .i64 (S.shapeS g.m g.ids g.ops)) := by
 have D0 := G.ids
 have G0 := G.ops
 have hl := G.len
 have hcp := G.cap
 refine J.enter 31 Tryz.func75 rfl rfl ?_
 refine run ?_
 refine J.box rfl rfl rfl fun b1 => ?_
 refine run ?_
 refine J.callp rfl rfl (fun w' M => risingR _ _ _ _ _ (D0.ext M.ext) hcp.1 (by omega)) ?_
 refine run ?_
 refine J.ifnot rfl (fun c1 => ?_) (fun c1 => ?_)
 ·refine run ?_
  refine J.fin ?_
  unfold S.shapeS
  rw [if_pos (of_decide_eq_false c1)]
 have hr := of_decide_eq_true c1
 refine run ?_
 refine J.loopS (A := Int) (fun p => [(3, .int .i64 p)]) [8, 9, 10, 11, 12, 13, 14, 15, 16, 17, 18, 19, 20, 21, 22, 23, 24] (fun p => (0 ≤ p ∧ p ≤ g.n) ∧ ∀ k, k < p.toNat → S.allI g.m g.ids (g.ops.getD k S.OpV.zero).n (g.ops.getD k S.OpV.zero).ids) (fun p => g.n - p.toNat) 0 (by kernel_rfl) ⟨by omega, fun k hk => by omega⟩ (fun p j hI => ?_)
 obtain ⟨h1, hI⟩ := hI
 refine run ?_
 refine J.ifd rfl (fun c2 => ?_) (fun c2 => ?_)
 ·obtain ⟨z, hz⟩ := G0.ex (i := p) (by omega)
  have R := G.op hz
  have hzo := GrA.opAt hz
  have h20 := R.ok.n
  refine run ?_
  refine J.regionX [(0, .q), (1, .q), (2, .q), (3, .q), (4, .q), (5, .q), (6, .q), (7, .q), (8, .e), (9, .q)] mixed (by kernel_rfl) ?_
  refine run ?_
  refine J.callp rfl rfl (fun w' M => refAll _ _ _ _ _ _ _ _ _ (D0.ext M.ext) (R.row.ext M.ext) (by omega) (by omega)) ?_
  refine run ?_
  refine J.ifnot rfl (fun c3 => ?_) (fun c3 => ?_)
  ·refine run ?_
   refine J.fin ?_
   unfold S.shapeS
   rw [if_neg (not_not_intro hr), if_pos fun ho => of_decide_eq_false c3 ?_]
   rw [← hzo]
   exact ho p.toNat (by omega)
  refine run ?_
  refine J.nextS (p + 1) ⟨rfl, trivial⟩ (by kernel_rfl) ⟨by omega, fun k hk => ?_⟩ (by omega)
  rcases Nat.lt_or_ge k p.toNat with h | h
  ·exact hI k h
  obtain rfl : k = p.toNat := by omega
  rw [hzo]
  exact of_decide_eq_true c3
 have ho : S.opensS g.m g.ids g.ops := fun k hk => hI k (by omega)
 refine run ?_
 refine J.regionX [(0, .q), (3, .q), (4, .q), (5, .q), (1, .e), (2, .q), (6, .q)] mixed (by kernel_rfl) ?_
 refine run ?_
 refine J.call rfl rfl (fun w' M => refOrder g w' (G.ext M.ext) he hr ho) fun q hq => ?_
 obtain ⟨hq1, hq2⟩ := hq
 rw [← hl] at hq2
 have hs := S.shape_end hr ho hq2
 refine run ?_
 refine J.ifd rfl (fun c3 => ?_) (fun c3 => ?_)
 ·refine run ?_
  refine J.fin ?_
  rw [hs, if_pos (by omega)]
 refine run ?_
 refine J.fin ?_
 rw [hs, if_neg (by omega)]
theorem refCheck {S0 : Nat → Prop} (g : GrA) (w : World) (G : GrR S0 w g) :
  Calls Tryz.prog 34 #[.agg (grC g).toArray] w (Ret w fun v _ => v = .int .i64 (S.chkG g.m g.ids g.ops)) := by
 have D0 := G.ids
 have G0 := G.ops
 have hl := G.len
 have hcp := G.cap
 refine J.enter 44 Tryz.func34 rfl rfl ?_
 refine run ?_
 refine J.box rfl rfl rfl fun b1 => ?_
 refine run ?_
 refine J.ifd rfl (fun c => ?_) (fun c => ?_)
 ·refine run ?_
  refine J.fin ?_
  unfold S.chkG
  rw [if_pos (by omega)]
 refine run ?_
 refine J.ifn rfl (fun c2 => ?_) (fun c2 => ?_)
 ·refine run ?_
  refine J.fin ?_
  unfold S.chkG
  rw [if_neg (by omega), if_pos (by omega)]
 refine run ?_
 have h8 : ∀ i, i < g.n → ¬ S.ownS (g.ops.getD i S.OpV.zero) (S.idAt g.ids i) → (8 : Int) = S.chkG g.m g.ids g.ops := fun i hi h => by
  unfold S.chkG
  rw [if_neg (by omega), if_neg (by omega), if_pos fun ho => h (ho i (by omega))]
 refine J.loopS (A := Int) (fun p => [(3, .int .i64 p)]) [15, 16, 17, 18, 19, 20, 21, 22, 23, 24, 25, 26, 27, 28, 29, 30, 31, 32, 33, 34, 35, 36, 37, 38, 39, 40, 41, 42] (fun p => (0 ≤ p ∧ p ≤ g.n) ∧ ∀ i, i < p.toNat → S.ownS (g.ops.getD i S.OpV.zero) (S.idAt g.ids i)) (fun p => g.n - p.toNat) 0 (by kernel_rfl) ⟨by omega, fun i hi => by omega⟩ (fun p j hI => ?_)
 obtain ⟨h1, hI⟩ := hI
 refine run ?_
 refine J.ifd rfl (fun c3 => ?_) (fun c3 => ?_)
 ·obtain ⟨z, hz⟩ := G0.ex (i := p) (by omega)
  have R := G.op hz
  have hzo := GrA.opAt hz
  have hsa : Arr .u8 32 (S.sha (S.encS z.o)) := S.sha_arr _
  have hid : Arr .u8 32 (elt 32 g.ids p.toNat) := D0.elt_arr (by omega)
  have h9 : ¬ S.ownS z.o (S.idAt g.ids p.toNat) → (8 : Int) = S.chkG g.m g.ids g.ops := fun h => h8 p.toNat (by omega) (by rw [hzo]; exact h)
  refine run ?_
  refine J.regionX [(0, .q), (1, .q), (2, .q), (3, .q), (4, .q), (5, .e), (6, .q), (7, .q), (8, .q), (9, .q), (10, .q), (11, .q), (12, .q), (14, .q), (15, .q), (16, .q), (17, .q), (18, .q), (13, .e), (19, .q), (20, .q)] mixed (by kernel_rfl) ?_
  refine run ?_
  refine J.callp rfl rfl (fun w' M => verifyOR z.o R.ok _ _ _ (R.row.ext M.ext) R.cap) ?_
  refine run ?_
  refine J.spn rfl rfl rfl (fun c4 => ?_) (fun c4 => ?_)
  ·refine run ?_
   refine J.fin (congrArg _ (h9 fun h => c4 h.1))
  have hz0 := S.check_zero.1 (S.verE_check c4)
  refine run ?_
  refine J.callp rfl rfl (fun w' M => ofO z.o R.ok _ _ _ (R.row.ext M.ext) R.cap hz0.1 (fun hk => ?_)) ?_
  ·exact S.fine4 hz0.2.2.2.2.2.2 hk
  refine run ?_
  refine J.ifd rfl (fun c5 => ?_) (fun c5 => ?_)
  ·refine run ?_
   exact J.fin (congrArg _ (h9 fun h => c5 h.2))
  refine run ?_
  refine J.nextS (p + 1) ⟨rfl, trivial⟩ (by kernel_rfl) ⟨by omega, fun i hi => ?_⟩ (by omega)
  rcases Nat.lt_or_ge i p.toNat with h | h
  ·exact hI i h
  obtain rfl : i = p.toNat := by omega
  rw [hzo]
  exact ⟨c4, Decidable.not_not.1 c5⟩
 refine run ?_
 refine J.callp rfl rfl (fun w' M => refShape g w' (G.ext M.ext) (by omega)) ?_
 refine run ?_
 refine J.fin ?_
 unfold S.chkG
 rw [if_neg (by omega), if_neg (by omega), if_neg (not_not_intro (show S.ownsS g.ids g.ops from fun i hi => hI i (by omega)))]
end Go.Proofs.YtimdoffpnjdmmaaGreatDoor.W
namespace Go.Proofs.YtimdoffpnjdmmaaGreatDoor.W
open Go.RowKit Go.Proofs.YtimdoffpnjdmmaaGreatDoor.G
set_option linter.unusedVariables false
set_option linter.unusedSimpArgs false
set_option maxRecDepth 20000
set_option maxHeartbeats 8000000
attribute [local irreducible] RS RX RY Code.wp bodyPost J Ent.blk Ent.irow Ent.iown Ent.wrow Ent.wown Ent.grow Ent.gown Ent.all Ent.emp
instance : Ents Tryz.prog 38 := ⟨.mk Tryz.func38 (by kernel_rfl) rfl⟩
def bigO (o : S.OpV) : Prop := 20 < o.n ∨ 100 < o.key.size ∨ 100 < o.t.size
/-- A graph that comes in. -/
structure GrI (S0 : Nat → Prop) (w : World) (g : GrA) : Prop where
 ids : WRow .u8 32 S0 w g.ia g.m g.ids
 ops : GRow opC 11 S0 w g.oa g.n g.zs
 inn : Inns opI S0 w g.zs
 rng : ∀ z ∈ g.zs, z.o.rng
 cap : g.m ≤ g.ic ∧ g.n ≤ g.oc
def GrSm (g : GrA) : Prop := g.m ≤ 70 ∧ g.n ≤ 70 ∧ ¬ (16 < g.n ∧ g.n ≤ 60) ∧ ∀ i, i < g.n → ¬ bigO (g.ops.getD i S.OpV.zero)
theorem GrI.ext {S0 : Nat → Prop} {w w' : World} {g : GrA} (h : GrI S0 w g) (x : Ext w w') : GrI S0 w' g := ⟨h.ids.ext x, h.ops.ext x, h.inn.ext x, h.rng, h.cap⟩
theorem GrI.gr {S0 : Nat → Prop} {w : World} {g : GrA} (h : GrI S0 w g) (hs : GrSm g) : GrR S0 w g := ⟨h.ids, h.ops, h.inn, fun z hz => by
 obtain ⟨i, hi, rfl⟩ := List.getElem_of_mem hz
 have h1 := hs.2.2.2 i (by rw [← h.ops.len]; exact hi)
 rw [GrA.opAt (List.getElem?_eq_getElem hi)] at h1
 exact (h.rng _ hz).ok h1, h.cap.1, h.cap.2, hs.1, hs.2.1⟩
theorem refGreat {S0 : Nat → Prop} (g : GrA) (w : World) (G : GrI S0 w g) :
  Calls Tryz.prog 29 #[.agg (grC g).toArray] w (Gv w (fun q : Bool => .bool q) (fun _ => []) fun q => q = false → GrSm g) := by
 have G0 := G.ops
 refine J.enter 42 Tryz.func29 rfl rfl ?_
 refine run ?_
 refine J.box rfl rfl rfl fun b1 => ?_
 refine run ?_
 refine J.loopS (A := Int) (fun p => [(3, .int .i64 p)]) [4, 5, 6, 7, 8, 9, 10, 11, 12, 13, 14, 15, 16, 17, 18, 19, 20] (fun p => (0 ≤ p ∧ p ≤ g.n ∧ p ≤ 71) ∧ ∀ k, k < p.toNat → ¬ bigO (g.ops.getD k S.OpV.zero)) (fun p => g.n - p.toNat) 0 (by kernel_rfl) ⟨by omega, fun k hk => by omega⟩ (fun p j hI => ?_)
 obtain ⟨h1, hI⟩ := hI
 refine run ?_
 have hend : ∀ {L : List Ent} {X : World → Prop}, (¬ (p < g.n) ∨ ¬ p ≤ 70) → ((g.n ≤ 70 → ∀ k, k < g.n → ¬ bigO (g.ops.getD k S.OpV.zero)) → J no w L X) → J no w L X := fun h k => k fun hn i hi => hI i (by omega)
 refine J.spd rfl rfl rfl (fun c1 => ?_) (fun c1 => ?_)
 ·refine run ?_
  refine J.ifd rfl (fun c2 => ?_) (fun c2 => ?_)
  ·obtain ⟨z, hz⟩ := G0.ex (i := p) (by omega)
   have hzo := GrA.opAt hz
   refine run ?_
   refine J.callp rfl rfl (fun w' M => great z.o z.pa z.pc w') ?_
   refine run ?_
   refine J.ifd rfl (fun c3 => ?_) (fun c3 => ?_)
   ·refine run ?_
    exact J.finG true rfl (fun h => by cases h) (List.nil_sublist _)
   refine run ?_
   refine J.nextS (p + 1) ⟨rfl, trivial⟩ (by kernel_rfl) ⟨by omega, fun k hk => ?_⟩ (by omega)
   rcases Nat.lt_or_ge k p.toNat with h | h
   ·exact hI k h
   obtain rfl : k = p.toNat := by omega
   rw [hzo]
   exact c3
  refine hend (.inr c2) fun hA => ?_
  refine run ?_
  refine J.spd rfl rfl rfl (fun c3 => ?_) (fun c3 => ?_)
  ·refine run ?_
   refine J.spd rfl rfl rfl (fun c4 => ?_) (fun c4 => ?_)
   ·refine run ?_
    exact J.finG true rfl (fun h => by cases h) (List.nil_sublist _)
   refine run ?_
   refine J.spd rfl rfl rfl (fun c5 => ?_) (fun c5 => ?_)
   ·refine run ?_
    exact J.finG true rfl (fun h => by cases h) (List.nil_sublist _)
   refine run ?_
   exact J.finG (decide ((70 : Int) < g.m)) rfl (fun h => by have := of_decide_eq_false h; exact ⟨by omega, by omega, by omega, hA (by omega)⟩) (List.nil_sublist _)
  refine run ?_
  refine J.spd rfl rfl rfl (fun c5 => ?_) (fun c5 => ?_)
  ·refine run ?_
   exact J.finG true rfl (fun h => by cases h) (List.nil_sublist _)
  refine run ?_
  exact J.finG (decide ((70 : Int) < g.m)) rfl (fun h => by have := of_decide_eq_false h; exact ⟨by omega, by omega, by omega, hA (by omega)⟩) (List.nil_sublist _)
 refine hend (.inl c1) fun hA => ?_
 refine run ?_
 refine J.spd rfl rfl rfl (fun c3 => ?_) (fun c3 => ?_)
 ·refine run ?_
  refine J.spd rfl rfl rfl (fun c4 => ?_) (fun c4 => ?_)
  ·refine run ?_
   exact J.finG true rfl (fun h => by cases h) (List.nil_sublist _)
  refine run ?_
  refine J.spd rfl rfl rfl (fun c5 => ?_) (fun c5 => ?_)
  ·refine run ?_
   exact J.finG true rfl (fun h => by cases h) (List.nil_sublist _)
  refine run ?_
  exact J.finG (decide ((70 : Int) < g.m)) rfl (fun h => by have := of_decide_eq_false h; exact ⟨by omega, by omega, by omega, hA (by omega)⟩) (List.nil_sublist _)
 refine run ?_
 refine J.spd rfl rfl rfl (fun c5 => ?_) (fun c5 => ?_)
 ·refine run ?_
  exact J.finG true rfl (fun h => by cases h) (List.nil_sublist _)
 refine run ?_
 exact J.finG (decide ((70 : Int) < g.m)) rfl (fun h => by have := of_decide_eq_false h; exact ⟨by omega, by omega, by omega, hA (by omega)⟩) (List.nil_sublist _)
end Go.Proofs.YtimdoffpnjdmmaaGreatDoor.W
namespace Go.Proofs.YtimdoffpnjdmmaaGreatDoor.L
open Go Go.Proofs.YtimdoffpnjdmmaaGreatDoor Go.Proofs.YtimdoffpnjdmmaaGreatDoor.G Go.Proofs.YtimdoffpnjdmmaaGreatDoor.W
open Go.ChangeShapes Go.WideShapes Go.ChangeAt Go.RowKit
set_option linter.unusedVariables false
set_option maxRecDepth 100000
section
variable {H : Type} {enc : TypeId × Value → H} {P : Program} {w : World} {base : Nat} {sp : Nat → Bool} {held : Bool} {fuel : Nat} {cs : List Value} {x : DataW H × List MemPlace} {t : TypeId}
/-- A slice of records. -/
theorem grow_in {α : Type} {e sz : Nat} (f : α → List Value) (Q : α → Prop) (d : α) (hf : ∀ x, (f x).length = sz) (ht : P.underlying t = some (.slice e)) (hes : P.cellsOf e = sz) (hz : 0 < sz)
    (h1 : ∀ m ds y, DataW.trod enc P w base sp held m e ds = some y → ∃ z, ds = f z ∧ Q z) (h : DataW.trod enc P w base sp held fuel t cs = some x) :
    ∃ a n c zs, cs = [.slice a n c] ∧ n ≤ c ∧ GRow f sz (fun _ => True) w a n zs ∧ ∀ z ∈ zs, Q z := by
  rcases DataW.trod_slice ht h with ⟨h2, _⟩ | ⟨a, len, cap, elems, rest, m, _, h2, _, _, hlc, _, hel, he, _⟩
  · exact ⟨none, 0, 0, [], h2, Nat.le_refl _, .nil hf, fun z hz => by cases hz⟩
  · refine ⟨some a, len, cap, ?_⟩
    by_cases h0 : len = 0
    · subst h0
      exact ⟨[], h2, hlc, .nil hf, fun z hz => by cases hz⟩
    · have one : ∀ i, i < len → ∃ z, Q z ∧ ∀ j, j < sz → w.cell? ((a.add (i * sz)).add j) = (f z)[j]? := by
        intro i hi
        have h3 := he i hi
        rw [List.getElem?_eq_getElem (by omega), hes] at h3
        cases hc : w.cells? base (a.add (i * sz)) sz with
        | none => rw [hc] at h3; cases h3
        | some ds =>
          rw [hc, Option.bind_some] at h3
          obtain ⟨z, h4, h5⟩ := h1 _ _ _ h3
          obtain ⟨h6, h7⟩ := cells_in hc
          exact ⟨z, h5, fun j hj => by rw [h7 j hj, h4]⟩
      obtain ⟨b0, o, spot⟩ := a
      obtain rfl : spot = none := by
        obtain ⟨z, _, h3⟩ := one 0 (by omega)
        have h4 := h3 0 hz
        rw [List.getElem?_eq_getElem (by rw [hf]; exact hz)] at h4
        have := World.cell?_spot h4
        simpa [Addr.add] using this
      obtain ⟨zs, h3, h4⟩ := list_of d (fun i z => Q z ∧ ∀ j, j < sz → w.cell? ⟨b0, o + (i * sz + j), none⟩ = (f z)[j]?) len (fun i hi => by
        obtain ⟨z, h5, h6⟩ := one i hi
        exact ⟨z, h5, fun j hj => by have := h6 j hj; rw [add_mk, add_mk, Nat.add_assoc] at this; exact this⟩)
      refine ⟨zs, h2, hlc, ⟨.inr ⟨b0, o, rfl, trivial, fun j hj => ?_⟩, h3, hf⟩, fun z hz => ?_⟩
      · rw [flat_len f sz hf, h3] at hj
        have hi : j / sz < len := Nat.div_lt_of_lt_mul hj
        have hm := Nat.mod_lt j hz
        have h5 := (h4 _ hi).2 _ hm
        rw [Nat.mul_comm (j / sz), Nat.div_add_mod] at h5
        have hg := flat_get f sz hf d zs (j / sz) (by omega)
        have e2 := congrArg (fun t => t[j % sz]?) hg
        simp only [List.getElem?_take, if_pos hm, List.getElem?_drop, Nat.div_add_mod] at e2
        rw [h5, ← e2, List.getD_eq_getElem?_getD, List.getElem?_eq_getElem (by rw [flat_len f sz hf, h3]; exact hj)]
        rfl
      · obtain ⟨j, hj, rfl⟩ := List.getElem_of_mem hz
        have := (h4 j (by omega)).1
        rw [List.getD_eq_getElem?_getD, List.getElem?_eq_getElem hj] at this
        exact this
end
theorem z_ops : Tryz.prog.cellsOf 65 = 1 := by kernel_rfl
theorem z_gr : Tryz.prog.cellsOf 67 = 2 := by kernel_rfl
section
variable {H : Type} {enc : TypeId × Value → H} {w : World} {base : Nat} {sp : Nat → Bool} {held : Bool} {fuel : Nat} {cs : List Value} {x : DataW H × List MemPlace}
theorem ops_in (h : DataW.trod enc Tryz.prog w base sp held fuel 65 cs = some x) : ∃ a n c zs, cs = [.slice a n c] ∧ n ≤ c ∧ GRow opC 11 (fun _ => True) w a n zs ∧ ∀ z ∈ zs, z.o.rng ∧ z.o.n ≤ z.pc ∧ WRow .u8 32 (fun _ => True) w z.pa z.o.n z.o.ids :=
  grow_in opC (fun z => z.o.rng ∧ z.o.n ≤ z.pc ∧ WRow .u8 32 (fun _ => True) w z.pa z.o.n z.o.ids) ⟨S.OpV.zero, none, 0⟩ (fun _ => rfl) Tryz.underlying65 z_op (by decide) (fun m ds y hd => by
    obtain ⟨o, pa, pc, h1, h2, h3, h4⟩ := op_in hd
    exact ⟨⟨o, pa, pc⟩, h1, h2, h3, h4⟩) h
theorem graph_in (h : DataW.trod enc Tryz.prog w base sp held fuel 67 cs = some x) : ∃ g, cs = grC g ∧ GrI (fun _ => True) w g := by
  have hl := (fields_in Tryz.underlying67 h).1
  rw [z_gr] at hl
  match cs, hl, h with
  | [c0, c1], _, h =>
    obtain ⟨_, _, f0⟩ := field_in 0 Tryz.underlying67 rfl z_ids h
    obtain ⟨_, _, f1⟩ := field_in 1 Tryz.underlying67 rfl z_ops h
    obtain ⟨ia, m, ic, ids, e0, hc0, hR0⟩ := ids_in Tryz.underlying26 Tryz.underlying49 Tryz.underlying5 z_u8 z_id (by decide) f0
    obtain ⟨oa, n, oc, zs, e1, hc1, hR1, hQ⟩ := ops_in f1
    have q0 : [c0] = [Value.slice ia m ic] := e0
    have q1 : [c1] = [Value.slice oa n oc] := e1
    simp only [List.cons.injEq, and_true] at q0 q1
    subst q0 q1
    refine ⟨⟨ia, oa, m, n, ic, oc, ids, zs⟩, rfl, hR0, hR1, fun z hz i hi => ?_, fun z hz => (hQ z hz).1, hc0, hc1⟩
    obtain rfl := List.mem_singleton.1 hi
    exact ⟨(hQ z hz).2.2, (hQ z hz).2.1⟩
end
end Go.Proofs.YtimdoffpnjdmmaaGreatDoor.L
namespace Go.Proofs.YtimdoffpnjdmmaaGreatDoor.W
open Go.RowKit Go.Proofs.YtimdoffpnjdmmaaGreatDoor.G
/-- A register, by its cells. -/
@[reducible] def rgC (x : S.RgV) : List Value := .string x.key :: .int .u8 x.vk :: .int .i64 x.num :: .int .u64 x.bits :: .string x.t :: .int .u64 x.st :: ints .u8 x.id
theorem rgC_len (x : S.RgV) : (rgC x).length = 38 := by simp [rgC, ints_length, x.h32]
theorem rgC_cell (x : S.RgV) : ∀ u ∈ rgC x, cellB u = true := by
  intro u hu
  simp only [rgC, List.mem_cons] at hu
  rcases hu with rfl | rfl | rfl | rfl | rfl | rfl | hu <;> first | rfl | exact List.all_eq_true.1 (ints_cellB _ _) u hu
instance (x : S.RgV) : LenC (rgC x) 38 := ⟨rgC_len x, List.all_eq_true.2 (rgC_cell x)⟩
/-- The id of a register. -/
theorem rgC_id (x : S.RgV) : ((rgC x).drop 6).take 32 = ints .u8 x.id := by
  show (ints .u8 x.id).take 32 = _
  rw [List.take_of_length_le (by rw [ints_length, x.h32]; exact Nat.le_refl _)]
theorem rgC_one (x : S.RgV) : ∀ u ∈ rgC x, u.oneCell' = true := by
  intro u hu
  simp only [rgC, List.mem_cons] at hu
  rcases hu with rfl | rfl | rfl | rfl | rfl | rfl | hu <;> first | rfl | exact ints_one _ _ u hu
theorem eq_rg (x y : S.RgV) : eqC (rgC x) (rgC y) = decide (x = y) := by
  rw [Bool.eq_iff_iff]
  simp only [rgC, eqC, strEq, eqC_ints, Bool.and_eq_true, decide_eq_true_eq, beq_iff_eq]
  constructor
  · rintro ⟨h1, h2, h3, h4, h5, h6, h7⟩
    exact S.RgV.ext h1 h2 h3 h4 h5 h6 h7
  · rintro rfl
    simp
/-- One string. -/
@[reducible] def stC (s : ByteArray) : List Value := [.string s]
/-- One number. -/
@[reducible] def inC (q : Int) : List Value := [.int .i64 q]
theorem gown_e {α : Type} {f : α → List Value} {sz : Nat} {e : TypeId} {a : Option Addr} {n c : Nat} {lst : List α} {S : Nat → Prop} {w : World} (h : (Ent.gown f sz e a n c lst).ok S w) : GOwn f sz 0 w e a n c lst ∧ ∀ b, obk a = some b → S b := h
theorem bar_eq {s t : ByteArray} : (s.toList == t.toList) = decide (s = t) := by
  rw [Bool.eq_iff_iff, beq_iff_eq, decide_eq_true_eq, ByteArray.toList_eq, ByteArray.toList_eq]
  exact ⟨fun h => ByteArray.ext (Array.ext' h), fun h => by rw [h]⟩
section
variable {S0 : Nat → Prop} {w0 : World} {L : List Ent} {P : Program} {Q : Exit → Act → World → Prop} {l : List Value} {x y : Code} {o : Operand} {s t : ByteArray}
theorem J.ifS (hc : ev l o = .bool (s.toList == t.toList)) (ht : s = t → J S0 w0 L (x.wp P Q (fr l))) (hf : s ≠ t → J S0 w0 L (y.wp P Q (fr l))) : J S0 w0 L ((Code.cond o x y).wp P Q (fr l)) :=
  J.ifd (p := s = t) (by rw [hc, bar_eq]) ht hf
end
/-- Registers that can be read. -/
structure RsR (S0 : Nat → Prop) (w : World) (a : Option Addr) (n c : Nat) (l : List S.RgV) : Prop where
  row : GRow rgC 38 S0 w a n l
  ok : ∀ x ∈ l, x.ok
  cap : n ≤ c
  n : n ≤ 100
section
variable {S0 : Nat → Prop} {w w' : World} {a : Option Addr} {n c : Nat} {l : List S.RgV}
theorem RsR.ext (h : RsR S0 w a n c l) (x : Ext w w') : RsR S0 w' a n c l := ⟨h.row.ext x, h.ok, h.cap, h.n⟩
theorem RsR.len (h : RsR S0 w a n c l) : l.length = n := h.row.len
theorem RsR.okAt (h : RsR S0 w a n c l) {i : Nat} (hi : i < n) : (S.rg l i).ok := h.ok _ (S.rg_mem (by rw [h.len]; exact hi))
end
end Go.Proofs.YtimdoffpnjdmmaaGreatDoor.W
namespace Go.Proofs.YtimdoffpnjdmmaaGreatDoor.W
open Go.RowKit Go.Proofs.YtimdoffpnjdmmaaGreatDoor.G
set_option linter.unusedVariables false
set_option linter.unusedSimpArgs false
set_option maxRecDepth 20000
set_option maxHeartbeats 8000000
attribute [local irreducible] RS RX RY Code.wp bodyPost J Ent.blk Ent.irow Ent.iown Ent.wrow Ent.wown Ent.grow Ent.gown Ent.all Ent.emp
instance : Und Tryz.prog 9 .string := ⟨Tryz.underlying9⟩
instance : Und Tryz.prog 27 (.int .u64) := ⟨Tryz.underlying27⟩
instance : Ents Tryz.prog 136 := ⟨.mk Tryz.func136 (by kernel_rfl) rfl⟩
instance : Ents Tryz.prog 175 := ⟨.mk Tryz.func175 (by kernel_rfl) rfl⟩
instance : Fld Tryz.prog 51 0 0 := ⟨_, _, 1, Tryz.underlying51, rfl, by kernel_rfl, by decide, rfl⟩
instance : Sca Tryz.prog 9 := ⟨_, Tryz.underlying9, rfl⟩
instance : Ents Tryz.prog 68 := ⟨.mk Tryz.func68 (by kernel_rfl) rfl⟩
instance : Sca Tryz.prog 119 := ⟨_, Tryz.underlying119, rfl⟩
instance : Agg Tryz.prog 51 38 := ⟨_, Tryz.underlying51, rfl, by kernel_rfl⟩
instance : Ents Tryz.prog 103 := ⟨.mk Tryz.func103 (by kernel_rfl) rfl⟩
instance : Ents Tryz.prog 102 := ⟨.mk Tryz.func102 (by kernel_rfl) rfl⟩
instance : Und Tryz.prog 22 (.slice 51) := ⟨Tryz.underlying22⟩
instance : Siz Tryz.prog 51 38 := ⟨by kernel_rfl⟩
instance : Ents Tryz.prog 101 := ⟨.mk Tryz.func101 (by kernel_rfl) rfl⟩
instance : Fld Tryz.prog 51 2 5 := ⟨_, _, 1, Tryz.underlying51, rfl, by kernel_rfl, by decide, rfl⟩
instance : Sca Tryz.prog 27 := ⟨_, Tryz.underlying27, rfl⟩
instance : Ents Tryz.prog 134 := ⟨.mk Tryz.func134 (by kernel_rfl) rfl⟩
instance : Fld Tryz.prog 51 3 6 := ⟨_, _, 32, Tryz.underlying51, rfl, by kernel_rfl, by decide, rfl⟩
instance : Ents Tryz.prog 135 := ⟨.mk Tryz.func135 (by kernel_rfl) rfl⟩
instance : Ents Tryz.prog 133 := ⟨.mk Tryz.func133 (by kernel_rfl) rfl⟩
instance : Inf Tryz.prog 51 38 96 [.string .empty, .int .u8 0, .int .i64 0, .int .u64 0, .string .empty, .int .u64 0, .int .u8 0, .int .u8 0, .int .u8 0, .int .u8 0, .int .u8 0, .int .u8 0, .int .u8 0, .int .u8 0, .int .u8 0, .int .u8 0, .int .u8 0, .int .u8 0, .int .u8 0, .int .u8 0, .int .u8 0, .int .u8 0, .int .u8 0, .int .u8 0, .int .u8 0, .int .u8 0, .int .u8 0, .int .u8 0, .int .u8 0, .int .u8 0, .int .u8 0, .int .u8 0, .int .u8 0, .int .u8 0, .int .u8 0, .int .u8 0, .int .u8 0, .int .u8 0] := ⟨TI.of (v := .agg #[.string .empty, .int .u8 0, .int .i64 0, .int .u64 0, .string .empty, .int .u64 0, .int .u8 0, .int .u8 0, .int .u8 0, .int .u8 0, .int .u8 0, .int .u8 0, .int .u8 0, .int .u8 0, .int .u8 0, .int .u8 0, .int .u8 0, .int .u8 0, .int .u8 0, .int .u8 0, .int .u8 0, .int .u8 0, .int .u8 0, .int .u8 0, .int .u8 0, .int .u8 0, .int .u8 0, .int .u8 0, .int .u8 0, .int .u8 0, .int .u8 0, .int .u8 0, .int .u8 0, .int .u8 0, .int .u8 0, .int .u8 0, .int .u8 0, .int .u8 0]) (by kernel_rfl) rfl⟩
instance : Ents Tryz.prog 132 := ⟨.mk Tryz.func132 (by kernel_rfl) rfl⟩
theorem fits_rg0 (key t : ByteArray) (vk num bits st a0 a1 a2 a3 a4 a5 a6 a7 a8 a9 a10 a11 a12 a13 a14 a15 a16 a17 a18 a19 a20 a21 a22 a23 a24 a25 a26 a27 a28 a29 a30 a31 : Int) (h : [a0, a1, a2, a3, a4, a5, a6, a7, a8, a9, a10, a11, a12, a13, a14, a15, a16, a17, a18, a19, a20, a21, a22, a23, a24, a25, a26, a27, a28, a29, a30, a31].length = 32) : FitsT Tryz.prog 9 51 (rgC ⟨key, vk, num, bits, t, st, [a0, a1, a2, a3, a4, a5, a6, a7, a8, a9, a10, a11, a12, a13, a14, a15, a16, a17, a18, a19, a20, a21, a22, a23, a24, a25, a26, a27, a28, a29, a30, a31], h⟩) = true := by kernel_rfl
theorem fits_rg (x : S.RgV) : FitsT Tryz.prog 9 51 (rgC x) = true := by
 obtain ⟨key, vk, num, bits, t, st, id, h⟩ := x
 match id, h with
 | [a0, a1, a2, a3, a4, a5, a6, a7, a8, a9, a10, a11, a12, a13, a14, a15, a16, a17, a18, a19, a20, a21, a22, a23, a24, a25, a26, a27, a28, a29, a30, a31], h => exact fits_rg0 ..
theorem fill_rg0 (o : S.OpV) (a0 a1 a2 a3 a4 a5 a6 a7 a8 a9 a10 a11 a12 a13 a14 a15 a16 a17 a18 a19 a20 a21 a22 a23 a24 a25 a26 a27 a28 a29 a30 a31 : Int) (h : [a0, a1, a2, a3, a4, a5, a6, a7, a8, a9, a10, a11, a12, a13, a14, a15, a16, a17, a18, a19, a20, a21, a22, a23, a24, a25, a26, a27, a28, a29, a30, a31].length = 32) : fillL [(0, 1), (1, 4), (5, 1), (6, 32)] (rgC S.RgV.zero) [(0, .string o.key), (1, .agg ([.int .u8 o.vk, .int .i64 o.num, .int .u64 o.bits, .string o.t] : List Value).toArray), (2, .int .u64 o.st), (3, .agg (ints .u8 [a0, a1, a2, a3, a4, a5, a6, a7, a8, a9, a10, a11, a12, a13, a14, a15, a16, a17, a18, a19, a20, a21, a22, a23, a24, a25, a26, a27, a28, a29, a30, a31]).toArray)] = some (rgC (S.regO o [a0, a1, a2, a3, a4, a5, a6, a7, a8, a9, a10, a11, a12, a13, a14, a15, a16, a17, a18, a19, a20, a21, a22, a23, a24, a25, a26, a27, a28, a29, a30, a31] h)) := by kernel_rfl
theorem fill_rg (o : S.OpV) (id : List Int) (h : id.length = 32) : fillL [(0, 1), (1, 4), (5, 1), (6, 32)] (rgC S.RgV.zero) [(0, .string o.key), (1, .agg ([.int .u8 o.vk, .int .i64 o.num, .int .u64 o.bits, .string o.t] : List Value).toArray), (2, .int .u64 o.st), (3, .agg (ints .u8 id).toArray)] = some (rgC (S.regO o id h)) := by
 match id, h with
 | [a0, a1, a2, a3, a4, a5, a6, a7, a8, a9, a10, a11, a12, a13, a14, a15, a16, a17, a18, a19, a20, a21, a22, a23, a24, a25, a26, a27, a28, a29, a30, a31], h => exact fill_rg0 ..
theorem nanS (s : ByteArray) (w : World) : Calls Tryz.prog 136 #[.string s] w (Ret w fun v _ => v = .bool false) := by
 refine J.enter 5 Tryz.func136 rfl rfl ?_
 refine run ?_
 exact J.fin (congrArg Value.bool (by simp))
theorem nanU (s : Int) (w : World) : Calls Tryz.prog 175 #[.int .u64 s] w (Ret w fun v _ => v = .bool false) := by
 refine J.enter 5 Tryz.func175 rfl rfl ?_
 refine run ?_
 exact J.fin (congrArg Value.bool (by simp))
theorem cmpStr (s t : ByteArray) (w : World) : Calls Tryz.prog 103 #[.string s, .string t] w (Ret w fun v _ => v = .int .i64 (S.kc s t)) := by
 have hr : S.kc s t = -1 ∨ S.kc s t = 0 ∨ S.kc s t = 1 := S.cmpS_rng _ _
 refine J.enter 18 Tryz.func103 rfl rfl ?_
 refine run ?_
 refine J.callp rfl rfl (fun w' M => nanS _ w') ?_
 refine run ?_
 refine J.callp rfl rfl (fun w' M => nanS _ w') ?_
 refine run ?_
 refine J.ifd rfl (fun c => ?_) (fun c => ?_)
 ·refine run ?_
  exact J.fin (congrArg _ (by omega))
 refine run ?_
 refine J.ifd rfl (fun c2 => ?_) (fun c2 => ?_)
 ·refine run ?_
  exact J.fin (congrArg _ (by omega))
 refine run ?_
 exact J.fin (congrArg _ (by omega))
theorem cmpU (s t : Int) (w : World) : Calls Tryz.prog 134 #[.int .u64 s, .int .u64 t] w (Ret w fun v _ => v = .int .i64 (S.cmpN s t)) := by
 refine J.enter 18 Tryz.func134 rfl rfl ?_
 refine run ?_
 refine J.callp rfl rfl (fun w' M => nanU _ w') ?_
 refine run ?_
 refine J.callp rfl rfl (fun w' M => nanU _ w') ?_
 refine run ?_
 refine J.ifd rfl (fun c => ?_) (fun c => ?_)
 ·refine run ?_
  exact J.fin (congrArg _ ((S.cmpN_1 c)))
 refine run ?_
 refine J.ifd rfl (fun c2 => ?_) (fun c2 => ?_)
 ·refine run ?_
  exact J.fin (congrArg _ ((S.cmpN_2 c c2)))
 refine run ?_
 exact J.fin (congrArg _ ((S.cmpN_3 c c2)))
theorem cmpOr {S0 : Nat → Prop} (a : Option Addr) (x y : Int) (w : World) (D0 : GRow inC 1 S0 w a 2 [x, y]) : Calls Tryz.prog 133 #[.slice a 2 2] w (Ret w fun v _ => v = .int .i64 (S.orN x y)) := by
 refine J.enter 17 Tryz.func133 rfl rfl ?_
 refine run ?_
 refine J.loopS (A := Int) (fun p => [(8, .int .i64 p)]) [2, 5, 9, 10, 11, 12, 13, 14, 15, 16] (fun p => (0 ≤ p ∧ p ≤ 2) ∧ ∀ k, k < p.toNat → [x, y].getD k 0 = 0) (fun p => 2 - p.toNat) 0 (by kernel_rfl) ⟨by omega, fun k hk => by omega⟩ (fun p j hI => ?_)
 obtain ⟨h1, hI⟩ := hI
 refine run ?_
 refine J.ifd rfl (fun c => ?_) (fun c => ?_)
 ·obtain ⟨q, hq⟩ := ex ([x, y].getD p.toNat 0)
  have hq0 := S.get2 (x := x) (y := y) (p := p) (by omega)
  rw [← hq] at hq0
  refine run ?_
  refine J.ifn rfl (fun c2 => ?_) (fun c2 => ?_)
  ·refine run ?_
   exact J.fin (congrArg _ (by rw [hq]; rw [hq] at c2; exact S.or_hit (by omega) hI c2))
  refine run ?_
  refine J.nextS (p + 1) ⟨rfl, trivial⟩ (by kernel_rfl) ⟨by omega, fun k hk => ?_⟩ (by omega)
  rcases Nat.lt_or_ge k p.toNat with h | h
  ·exact hI k h
  obtain rfl : k = p.toNat := by omega
  rw [← hq]; exact c2
 refine run ?_
 exact J.fin (congrArg _ (S.or_miss fun k hk => hI k (by omega)))
theorem regKey (x : S.RgV) (w : World) : Calls Tryz.prog 68 #[.agg (rgC x).toArray] w (Ret w fun v _ => v = .string x.key) := by
 refine J.enter 4 Tryz.func68 rfl rfl ?_
 refine run ?_
 refine J.box rfl rfl rfl fun b1 => ?_
 refine run ?_
 exact J.fin rfl
theorem findCmp (x : S.RgV) (k : ByteArray) (b : Nat) (T : TypeId) (w : World) (hB : Blk w b [.func (.func 68) #[] #[]] T) :
  Calls Tryz.prog 102 #[.agg (rgC x).toArray, .string k, .pointer (some ⟨b, 0, none⟩)] w (Ret w fun v _ => v = .int .i64 (S.kc x.key k)) := by
 refine J.enter 8 Tryz.func102 rfl rfl ?_
 refine run ?_
 refine J.box rfl rfl rfl fun b1 => ?_
 refine run ?_
 refine J.ldO hB (fun h => h) rfl ?_
 refine run ?_
 refine J.callvp rfl rfl rfl (fun w' M => regKey x w') ?_
 refine run ?_
 refine J.callp rfl rfl (fun w' M => cmpStr _ _ w') ?_
 refine run ?_
 exact J.fin rfl
theorem bsReg {S0 : Nat → Prop} (a : Option Addr) (n c : Nat) (l : List S.RgV) (k : ByteArray) (b : Nat) (T : TypeId) (w : World) (D0 : GRow rgC 38 S0 w a n l) (hs : S.SortK l) (hn : n ≤ 100) (hB : Blk w b [.func (.func 68) #[] #[]] T) :
  Calls Tryz.prog 101 #[.slice a n c, .string k, .func (.func 102) #[] #[.pointer (some ⟨b, 0, none⟩)]] w (Ret w fun v _ => v = .tuple #[.int .i64 (S.spK l k : Nat), .bool (decide (S.hasK l k))]) := by
 have hl := D0.len
 have hm := S.mono_key hs k
 rw [hl] at hm
 refine J.enter 46 Tryz.func101 rfl rfl ?_
 refine run ?_
 refine J.loopS (A := Int × Int) (fun p => [(9, .int .i64 p.1), (10, .int .i64 p.2)]) [11, 15, 16, 17, 18, 19, 20, 21, 22, 23, 24, 25, 26, 27, 28, 29, 30, 31, 32, 33, 34] (fun p => S.HalfC n (S.cK l k) p.1 p.2) (fun p => (p.2 - p.1).toNat) (0, n) (by kernel_rfl) (S.HalfC.first _ _) (fun p j hI => ?_)
 have hh := hI.r
 refine run ?_
 refine J.ifd rfl (fun c1 => ?_) (fun c1 => ?_)
 ·have hq := S.rg_at (l := l) (i := ((p.1 + p.2) / 2).toNat) (by omega)
  refine run ?_
  refine J.callvp rfl rfl rfl (fun w' M => findCmp _ _ _ _ w' (hB.ext M.ext)) ?_
  refine run ?_
  refine J.ifd rfl (fun c2 => ?_) (fun c2 => ?_)
  ·refine run ?_
   exact J.nextS ((p.1 + p.2) / 2 + 1, p.2) ⟨rfl, rfl, trivial⟩ (by kernel_rfl) (hI.up hm (by omega) (by omega) c2) (by dsimp only; omega)
  refine run ?_
  exact J.nextS (p.1, (p.1 + p.2) / 2) ⟨rfl, rfl, trivial⟩ (by kernel_rfl) (hI.down hm (by omega) (by omega) c2) (by dsimp only; omega)
 have he : p.1 = (S.spK l k : Nat) := by unfold S.spK; rw [hl]; exact hI.spot c1
 have hsp := S.has_spK hs (k := k)
 rw [hl] at hsp
 refine run ?_
 refine J.spd rfl rfl rfl (fun c2 => ?_) (fun c2 => ?_)
 ·have hq := S.rg_at (l := l) (i := p.1.toNat) (by omega)
  refine run ?_
  refine J.callvp rfl rfl rfl (fun w' M => findCmp _ _ _ _ w' (hB.ext M.ext)) ?_
  refine run ?_
  refine J.fin ?_
  rw [he, Int.toNat_natCast]
  exact tup2 rfl (congrArg _ (beq_dec ⟨fun h => hsp.2 ⟨by omega, S.kc_eq.1 h⟩, fun h => S.kc_eq.2 (hsp.1 h).2⟩))
 refine run ?_
 refine J.fin ?_
 rw [he]
 exact tup2 rfl (congrArg _ (decide_eq_false fun h => by have := (hsp.1 h).1; omega).symm)
theorem findReg {S0 : Nat → Prop} (a : Option Addr) (n c : Nat) (l : List S.RgV) (k : ByteArray) (w : World) (D0 : GRow rgC 38 S0 w a n l) (hs : S.SortK l) (hn : n ≤ 100) :
  Calls Tryz.prog 67 #[.slice a n c, .func (.func 68) #[] #[], .string k] w (Ret w fun v _ => v = .tuple #[.int .i64 (S.spK l k : Nat), .bool (decide (S.hasK l k))]) := by
 refine J.enter 11 Tryz.func67 rfl rfl ?_
 refine run ?_
 refine J.box rfl rfl rfl fun b1 => ?_
 refine run ?_
 refine J.fn rfl rfl rfl ?_
 refine J.callp rfl rfl (fun w' M => bsReg _ _ _ _ _ _ _ w' (D0.ext M.ext) hs hn (M.blk .here)) ?_
 refine run ?_
 exact J.fin rfl
theorem later (x y : S.RgV) (hx : x.ok) (hy : y.ok) (w : World) : Calls Tryz.prog 100 #[.agg (rgC x).toArray, .agg (rgC y).toArray] w (Ret w fun v _ => v = .bool (decide (S.lateR x.st x.id y))) := by
 refine J.enter 16 Tryz.func100 rfl rfl ?_
 refine run ?_
 refine J.box rfl rfl rfl fun b1 => ?_
 refine J.box rfl rfl rfl fun b2 => ?_
 refine run ?_
 refine J.regionX [(0, .q), (1, .q), (2, .q), (3, .q), (5, .q), (6, .q), (7, .q), (8, .q), (4, .e), (9, .e), (10, .e), (11, .e), (12, .q), (13, .q)] mixed (by kernel_rfl) ?_
 refine run ?_
 refine J.callp rfl rfl (fun w' M => cmpU _ _ w') ?_
 refine run ?_
 refine J.callp rfl rfl (fun w' M => (RI.part (b := b1) (rgC_id x) x.h32 hx.id w' M).elim fun _ k1 => (RI.part (b := b2) (rgC_id y) y.h32 hy.id w' M).elim fun _ k2 => bcompare _ _ _ _ _ _ _ _ w' k1 k2) ?_
 refine J.b2V inC (fun _ => rfl) rfl rfl rfl rfl rfl rfl rfl fun b3 => ?_
 refine J.callp rfl rfl (fun w' M => (RG.own' (a := some ⟨b3, 0, none⟩) w' M).elim fun _ k1 => cmpOr _ _ _ w' k1) ?_
 refine run ?_
 exact J.fin (congrArg _ (decide_eq_decide.2 S.late_or))
theorem cloneG {S0 : Nat → Prop} (a : Option Addr) (n c : Nat) (l : List S.RgV) (w : World) (D0 : GRow rgC 38 S0 w a n l) (hn : n ≤ 1000) :
  Calls Tryz.prog 66 #[.slice a n c] w (Gv w (fun q : Option Addr × Nat => .slice q.1 n q.2) (fun q => [.gown rgC 38 51 q.1 n q.2 l]) fun _ => True) := by
 refine J.enter 7 Tryz.func66 rfl rfl ?_
 refine run ?_
 refine J.ifb rfl (fun c1 => ?_) (fun c1 => ?_)
 ·obtain ⟨rfl, rfl⟩ := D0.none (by decide) c1
  refine run ?_
  refine J.nilG rgC 38 51 rgC_len ?_
  exact J.finG (none, 0) rfl trivial (.cons_cons _ (List.nil_sublist _))
 refine run ?_
 refine J.b0G rgC rgC_len rfl fun b => ?_
 refine run ?_
 refine J.apG rfl rfl (RG.arg D0) rgC_one fun a' c' => ?_
 refine run ?_
 refine J.re (.gown rgC 38 51 a' (0 + n) c' ([] ++ l)) (.gown rgC 38 51 a' n c' l) (fun S w h => by rw [Nat.zero_add] at h; exact h) ?_
 exact J.finG (a', c') (by rw [Nat.zero_add]) trivial (.cons_cons _ (List.nil_sublist _))
theorem gown_one {w : World} {b : Nat} {x : S.RgV} {T : TypeId} (h : GOwn rgC 38 0 w T (some ⟨b, 0, none⟩) 1 1 [x]) : Blk w b (rgC x) T := by
 obtain ⟨cur, B, _, _, h3, h4, _⟩ := h.blk
 rw [List.take_of_length_le (by omega)] at h4
 rw [h4] at B
 simpa using B
theorem blk_free {w : World} {b o : Nat} {cs : List Value} {T : TypeId} (h : Blk w b cs T) : w.frozen? ⟨b, o, none⟩ = false := by
 unfold Blk at h
 unfold World.frozen?
 rw [h]
 simp
theorem blk_shape {w : World} {b : Nat} {cs : List Value} {T : TypeId} (h : Blk w b cs T) : w.shape? b = some (T, cs.length) := by
 unfold Blk at h
 unfold World.shape?
 rw [h]
 simp
theorem insReg (a : Option Addr) (n c : Nat) (l : List S.RgV) (i : Nat) (x : S.RgV) (b2 : Nat) (w : World) (hO : GOwn rgC 38 0 w 51 a n c l) (hi : i ≤ n) (hn : n ≤ 1000) (hB : Blk w b2 (rgC x) 51) (hne : ¬ obk a = some b2) :
  Calls Tryz.prog 99 #[.slice a n c, .int .i64 i, .slice (some ⟨b2, 0, none⟩) 1 1] w (Gw w rgC 38 51 a (l.take i ++ x :: l.drop i)) := by
 have hlen := hO.len
 have hcn := hO.capn
 have hcm := hO.own.cap.2
 refine J.enterG 92 hO Tryz.func99 rfl rfl ?_
 refine run ?_
 refine J.ife rfl (fun h => ?_) (fun h => ?_)
 ·obtain rfl : i = n := by omega
  refine run ?_
  refine J.apG rfl rfl (RG.blkO hB hne rgC_len) rgC_one fun a' c' => ?_
  refine run ?_
  have e : l.take i ++ x :: l.drop i = l ++ [x] := by rw [List.take_of_length_le (by omega), List.drop_of_length_le (by omega)]
  rw [e]
  exact J.finW rfl
 have hin : i < n := by omega
 obtain ⟨g, rfl⟩ := hO.some (by omega)
 have hlt : (l.take i ++ x :: l.drop i).length = n + 1 := by simp; omega
 refine run ?_
 refine J.ifd rfl (fun h2 => ?_) (fun h2 => ?_)
 ·refine run ?_
  refine J.apZ (p := i) (k0 := n + 1 - i) rgC n l rfl (by (conv => lhs; whnf) <;> exact sl3 (by omega) (by omega) rfl) (by (conv => lhs; whnf) <;> exact congrArg _ (by omega)) fun b' c' cs' hcs => ?_
  obtain ⟨k1, k2, k3, k4⟩ := hcs
  refine run ?_
  refine J.copyR (b := b') (o := i * 38) (n := n + 1 - i) (k := 1) (by (conv => lhs; whnf) <;> exact sl3 (by omega) (by omega) rfl) rfl (RG.cells (RG.blkO hB hne rgC_len)) (by rw [List.flatMap_cons, List.flatMap_nil, List.append_nil, rgC_len]) (fun u hu => rgC_cell x u (by simpa using List.mem_of_mem_take hu)) rfl ?_
  refine run ?_
  refine J.regionX [(0, .q), (1, .q), (2, .q), (3, .q), (4, .q), (5, .q), (6, .q), (7, .q), (8, .g)] mixed (by kernel_rfl) ?_
  refine run ?_
  refine J.copyR (b := b') (o := (i + 1) * 38) (n := n - i) (n2 := n - i) (k := n - i) (a := some ⟨g, i * 38, none⟩) (by (conv => lhs; whnf) <;> exact sl3 (by omega) (by omega) rfl) (by (conv => lhs; whnf) <;> exact sl3 (by omega) (by omega) rfl) (RG.cells (RG.tail RG.own' hin)) (by rw [flat_len rgC 38 rgC_len, List.length_drop, hlen, Nat.mul_comm]) (fun u hu => by obtain ⟨y, _, hy⟩ := List.mem_flatMap.1 (List.mem_of_mem_take hu); exact rgC_cell y u hy) rfl ?_ (ho := by simp only [splice_length]; omega)
  refine run ?_
  have hz := (ins_flat (f := rgC) (sz := 38) (z := x) rgC_len hlen hin (by omega) k2).2
  refine J.ruc rgC 38 51 b' (n + 1) c' (l.take i ++ x :: l.drop i) rgC_len (by simp only [splice_length]; exact k1) (by
   rw [← hz]
   congr 2
   ·congr 1
    rw [List.take_of_length_le (by rw [List.flatMap_cons, List.flatMap_nil, List.append_nil, rgC_len]; decide)]
    simp
   rw [List.take_of_length_le (by rw [flat_len rgC 38 rgC_len, List.length_drop, hlen]; omega)]) (by omega) k4 hlt ?_
  exact J.finW (a' := some ⟨b', 0, none⟩) (n' := n + 1) (c' := c') (by (conv => lhs; whnf) <;> exact sl3 (by omega) (by omega) rfl)
 refine run ?_
 refine J.cur rgC 38 51 g n c l fun cur hcur => ?_
 obtain ⟨k1, k2, k3, k4, k5⟩ := hcur
 have hcl : (n + 1) * 38 ≤ cur.length := by omega
 refine J.extv (E := Extern.SlicesOverlaps.overlaps #[22, 22] #[4]) (v := .bool false) Tryz.func131 (by kernel_rfl) (by kernel_rfl) (by kernel_rfl) (by kernel_rfl) rfl (fun w' M => by
  have B1 := hB.pr M.pr hne
  have B2 : Blk w' g cur 51 := M.blk .here
  exact Lib.run_overlaps_apart w' _ _ 51 Und.h 38 (fun w => size_run Siz.h (by decide)) ⟨b2, 0, none⟩ ⟨g, _, none⟩ 1 1 _ _ (fun e => hne (show some g = some b2 from congrArg some (show g = b2 from e.symm))) _ _ _ _ (blk_shape B1) (blk_shape B2) (by omega) (blk_free B1) (blk_free B1)) ?_
 refine run ?_
 refine J.regionX [(0, .q), (1, .q), (2, .q), (3, .q), (4, .q), (5, .q), (6, .q), (7, .q), (8, .g)] mixed (by kernel_rfl) ?_
 refine run ?_
 refine J.copyR (b := g) (o := (i + 1) * 38) (n := n - i) (k := n - i) (n2 := n + 1 - i) (ds := (cur.drop (i * 38)).take ((n + 1 - i) * 38)) (by (conv => lhs; whnf) <;> exact sl3 (by omega) (by omega) rfl) (by (conv => lhs; whnf) <;> exact sl3 (by omega) (by omega) rfl) (fun w' M => ⟨_, M.part (o := i * 38) (b := g) (by rw [List.length_take, List.length_drop, Nat.min_eq_left (by omega)])⟩) (by rw [List.length_take, List.length_drop]; omega) (fun u hu => ?_) rfl ?_
 ·rw [List.take_take, Nat.min_eq_left (by omega)] at hu
  have h5 := flat_drop rgC 38 rgC_len l i
  rw [← k2, List.drop_take, show n * 38 - i * 38 = (n - i) * 38 by omega] at h5
  rw [h5] at hu
  obtain ⟨y, _, hy⟩ := List.mem_flatMap.1 hu
  exact rgC_cell y u hy
 refine run ?_
 refine J.copyR (b := g) (o := i * 38) (n := n + 1 - i) (k := 1) (by (conv => lhs; whnf) <;> exact sl3 (by omega) (by omega) rfl) rfl (RG.cells (RG.blkO hB hne rgC_len)) (by rw [List.flatMap_cons, List.flatMap_nil, List.append_nil, rgC_len]) (fun u hu => rgC_cell x u (by simpa using List.mem_of_mem_take hu)) rfl ?_ (ho := by simp only [splice_length]; omega)
 refine run ?_
 have hz := (ins_flat (f := rgC) (sz := 38) (z := x) (cs := cur) rgC_len hlen hin hcl (by rw [← flat_take rgC 38 rgC_len, ← k2, List.take_take, Nat.min_eq_left (by omega)])).1
 refine J.ruc rgC 38 51 g (n + 1) c (l.take i ++ x :: l.drop i) rgC_len (by simp only [splice_length]; exact k1) (by
  rw [← hz]
  congr 2
  ·congr 1
   rw [List.take_take, Nat.min_eq_left (by omega), ← flat_drop rgC 38 rgC_len, ← k2, List.drop_take, show n * 38 - i * 38 = (n - i) * 38 by omega]
  rw [List.take_of_length_le (by rw [List.flatMap_cons, List.flatMap_nil, List.append_nil, rgC_len]; decide)]
  simp) (by omega) k4 hlt ?_
 exact J.finW (by (conv => lhs; whnf) <;> exact sl3 (by omega) (by omega) rfl)
end Go.Proofs.YtimdoffpnjdmmaaGreatDoor.W
namespace Go.Proofs.YtimdoffpnjdmmaaGreatDoor.S
open G
set_option linter.unusedVariables false
noncomputable def getR (l : List RgV) (k : ByteArray) : RgV := if chkR l ≠ 0 then RgV.zero else if hasK l k then rg l (spK l k) else RgV.zero
noncomputable def getRE (l : List RgV) (k : ByteArray) : Int := if chkR l ≠ 0 then chkR l else if hasK l k then 0 else 6
noncomputable def appE (l : List RgV) (o : OpV) : Int := if chkR l ≠ 0 then chkR l else if checkE o ≠ 0 then 8 else if o.k = 4 ∧ ¬ hasK l o.key ∧ l.length = 60 then 18 else 0
@[reducible] def idX (o : OpV) : List Int := if checkE o = 0 then sha (encS o) else List.replicate 32 0
def opR (o : OpV) : RgV := regO o (idX o) (idX_arr o).1
noncomputable def appL (l : List RgV) (o : OpV) : List RgV := if appE l o ≠ 0 then [] else if o.k = 4 then putR l (opR o) else l
theorem act_add {k : ByteArray} (h : KeyOk k) {t : ByteArray} (ht : t = ByteArray.empty) : actE 2 k 0 0 0 t = 0 := actE_zero.2 (.inr (.inl ⟨.inl rfl, h, rfl, rfl, rfl, ht⟩))
theorem act_key {k t : ByteArray} (h : actE 2 k 0 0 0 t = 0) : KeyOk k := by
  rcases actE_zero.1 h with h | h | h
  · exact absurd h.1 (by decide)
  · exact h.2.1
  · exact absurd h.1 (by decide)
theorem put_len (l : List RgV) (x : RgV) : (putR l x).length = if hasK l x.key then l.length else l.length + 1 := by
  unfold putR
  have := spK_le l x.key
  split
  · split <;> simp
  · simp only [List.length_append, List.length_cons, List.length_take, List.length_drop]; omega
theorem late_irr (x : RgV) : ¬ lateR x.st x.id x := by
  unfold lateR; rw [cmpS_self]; omega
/-- The one that stays. -/
def bestR (l : List RgV) (x : RgV) : RgV := if hasK l x.key ∧ ¬ lateR x.st x.id (rg l (spK l x.key)) then rg l (spK l x.key) else x
theorem sp_mem {l : List RgV} (hs : SortK l) {y : RgV} (hy : y ∈ l) : rg l (spK l y.key) = y := by
  obtain ⟨i, hi, rfl⟩ := mem_rg hy
  have h1 : spK l (rg l i).key = i := spK_eq (by omega) (fun j hj => hs.lt hj hi) fun _ => by rw [kc_self]; exact Int.le_refl _
  rw [h1]
theorem key_inj {l : List RgV} (hs : SortK l) {x y : RgV} (hx : x ∈ l) (hy : y ∈ l) (h : x.key = y.key) : x = y := by rw [← sp_mem hs hx, ← sp_mem hs hy, h]
theorem split_sp (l : List RgV) (k : ByteArray) : l = l.take (spK l k) ++ l.drop (spK l k) := (List.take_append_drop _ _).symm
theorem lo_mem {l : List RgV} {k : ByteArray} {y : RgV} (h : y ∈ l.take (spK l k)) : kc y.key k < 0 := by
  obtain ⟨i, hi, rfl⟩ := List.getElem_of_mem h
  rw [List.length_take] at hi
  rw [List.getElem_take]
  have := spK_lo (l := l) (k := k) (i := i) (by omega)
  rwa [rg_some (List.getElem?_eq_getElem (by omega : i < l.length))] at this
theorem hi_mem {l : List RgV} (hs : SortK l) {k : ByteArray} {y : RgV} (h : y ∈ l.drop (spK l k)) : 0 ≤ kc y.key k := by
  obtain ⟨i, hi, rfl⟩ := List.getElem_of_mem h
  rw [List.length_drop] at hi
  rw [List.getElem_drop]
  have := spK_hi hs (k := k) (i := spK l k + i) (by omega) (by omega)
  rwa [rg_some (List.getElem?_eq_getElem (by omega : spK l k + i < l.length))] at this
theorem best_key {l : List RgV} (hs : SortK l) (x : RgV) : (bestR l x).key = x.key := by
  unfold bestR
  split
  · rename_i h; exact ((has_spK hs).1 h.1).2
  · rfl
theorem put_set {l : List RgV} {x : RgV} (hs : SortK l) (h : hasK l x.key) : putR l x = l.set (spK l x.key) (bestR l x) := by
  unfold putR bestR
  rw [if_pos h]
  by_cases h2 : lateR x.st x.id (rg l (spK l x.key))
  · rw [if_pos h2, if_neg (fun h3 => h3.2 h2)]
  · rw [if_neg h2, if_pos ⟨h, h2⟩]
    have h3 := ((has_spK hs).1 h).1
    apply List.ext_getElem?
    intro i
    rw [List.getElem?_set]
    split
    · rename_i e; subst e; exact rg_at h3
    · rfl
theorem put_ins {l : List RgV} {x : RgV} (h : ¬ hasK l x.key) : putR l x = l.take (spK l x.key) ++ x :: l.drop (spK l x.key) := by unfold putR; rw [if_neg h]
theorem put_sort {l : List RgV} (hs : SortK l) (x : RgV) : SortK (putR l x) := by
  by_cases h : hasK l x.key
  · rw [put_set hs h]
    have h3 := (has_spK hs).1 h
    have hm : (l.set (spK l x.key) (bestR l x)).map RgV.key = l.map RgV.key := by
      rw [List.map_set, best_key hs]
      apply List.ext_getElem?
      intro i
      rw [List.getElem?_set]
      split
      · rename_i e; subst e
        rw [List.length_map, if_pos h3.1, List.getElem?_map, rg_at h3.1, Option.map_some, h3.2]
      · rfl
    have h4 : ∀ m : List RgV, SortK m ↔ (m.map RgV.key).Pairwise fun a b => kc a b < 0 := fun m => by unfold SortK; rw [List.pairwise_map]
    rw [h4, hm, ← h4]
    exact hs
  · rw [put_ins h]
    have h1 : SortK (l.take (spK l x.key) ++ l.drop (spK l x.key)) := by rw [List.take_append_drop]; exact hs
    unfold SortK at h1 ⊢
    rw [List.pairwise_append] at h1 ⊢
    refine ⟨h1.1, List.pairwise_cons.2 ⟨fun y hy => ?_, h1.2.1⟩, fun y hy z hz => ?_⟩
    · have h2 := hi_mem hs hy
      have h3 : kc y.key x.key ≠ 0 := fun e => h ⟨y, List.mem_of_mem_drop hy, kc_eq.1 e⟩
      have h4 := kc_swap y.key x.key
      omega
    · rcases List.mem_cons.1 hz with rfl | hz
      · exact lo_mem hy
      · exact h1.2.2 y hy z hz
theorem mem_put {l : List RgV} (hs : SortK l) (x y : RgV) : y ∈ putR l x ↔ (y ∈ l ∧ y.key ≠ x.key) ∨ y = bestR l x := by
  by_cases h : hasK l x.key
  · have h3 := (has_spK hs).1 h
    rw [put_set hs h]
    constructor
    · intro hy
      by_cases hk : y.key = x.key
      · right
        have hs2 := put_sort hs x
        rw [put_set hs h] at hs2
        refine key_inj hs2 hy ?_ (hk.trans (best_key hs x).symm)
        exact List.mem_iff_getElem?.2 ⟨spK l x.key, by rw [List.getElem?_set, if_pos rfl, if_pos h3.1]⟩
      · rcases List.mem_or_eq_of_mem_set hy with h1 | h1
        · exact .inl ⟨h1, hk⟩
        · exact .inr h1
    · rintro (⟨hy, hk⟩ | rfl)
      · obtain ⟨i, hi, rfl⟩ := mem_rg hy
        refine List.mem_iff_getElem?.2 ⟨i, ?_⟩
        rw [List.getElem?_set, if_neg (fun e => hk (by rw [← e]; exact h3.2)), rg_at hi]
      · exact List.mem_iff_getElem?.2 ⟨spK l x.key, by rw [List.getElem?_set, if_pos rfl, if_pos h3.1]⟩
  · have hb : bestR l x = x := by unfold bestR; rw [if_neg (fun h2 => h h2.1)]
    rw [put_ins h, hb, List.mem_append, List.mem_cons]
    constructor
    · rintro (h1 | rfl | h1)
      · have := List.mem_of_mem_take h1; exact .inl ⟨this, fun e => h ⟨y, this, e⟩⟩
      · exact .inr rfl
      · have := List.mem_of_mem_drop h1; exact .inl ⟨this, fun e => h ⟨y, this, e⟩⟩
    · rintro (⟨h1, _⟩ | rfl)
      · rw [split_sp l x.key, List.mem_append] at h1
        exact h1.elim .inl fun h2 => .inr (.inr h2)
      · exact .inr (.inl rfl)
theorem has_put {l : List RgV} (hs : SortK l) (x : RgV) (k : ByteArray) : hasK (putR l x) k ↔ hasK l k ∨ k = x.key := by
  unfold hasK
  constructor
  · rintro ⟨y, hy, rfl⟩
    rcases (mem_put hs x y).1 hy with h | rfl
    · exact .inl ⟨y, h.1, rfl⟩
    · exact .inr (best_key hs x)
  · by_cases hk : k = x.key
    · exact fun _ => ⟨bestR l x, (mem_put hs x _).2 (.inr rfl), (best_key hs x).trans hk.symm⟩
    · rintro (⟨y, hy, rfl⟩ | h)
      · exact ⟨y, (mem_put hs x y).2 (.inl ⟨hy, hk⟩), rfl⟩
      · exact absurd h hk
end Go.Proofs.YtimdoffpnjdmmaaGreatDoor.S
namespace Go.Proofs.YtimdoffpnjdmmaaGreatDoor.W
open Go.RowKit Go.Proofs.YtimdoffpnjdmmaaGreatDoor.G
set_option linter.unusedVariables false
set_option linter.unusedSimpArgs false
set_option maxRecDepth 20000
set_option maxHeartbeats 8000000
attribute [local irreducible] RS RX RY Code.wp bodyPost J Ent.blk Ent.irow Ent.iown Ent.wrow Ent.wown Ent.grow Ent.gown Ent.all Ent.emp
instance : Fld Tryz.prog 35 3 3 := ⟨_, _, 6, Tryz.underlying35, rfl, by kernel_rfl, by decide, rfl⟩
instance : Fld Tryz.prog 31 0 0 := ⟨_, _, 1, Tryz.underlying31, rfl, by kernel_rfl, by decide, rfl⟩
instance : Sca Tryz.prog 5 := ⟨_, Tryz.underlying5, rfl⟩
instance : Fld Tryz.prog 31 1 1 := ⟨_, _, 1, Tryz.underlying31, rfl, by kernel_rfl, by decide, rfl⟩
instance : Fld Tryz.prog 31 2 2 := ⟨_, _, 4, Tryz.underlying31, rfl, by kernel_rfl, by decide, rfl⟩
instance : Agg Tryz.prog 29 4 := ⟨_, Tryz.underlying29, rfl, by kernel_rfl⟩
instance : Fld Tryz.prog 35 2 2 := ⟨_, _, 1, Tryz.underlying35, rfl, by kernel_rfl, by decide, rfl⟩
instance : SInf Tryz.prog 51 [(0, 1), (1, 4), (5, 1), (6, 32)] := ⟨_, Tryz.underlying51, by kernel_rfl, by kernel_rfl⟩
instance : Ents Tryz.prog 67 := ⟨.mk Tryz.func67 (by kernel_rfl) rfl⟩
instance : Ents Tryz.prog 99 := ⟨.mk Tryz.func99 (by kernel_rfl) rfl⟩
instance : Ents Tryz.prog 100 := ⟨.mk Tryz.func100 (by kernel_rfl) rfl⟩
instance : Fld Tryz.prog 24 0 0 := ⟨_, _, 1, Tryz.underlying24, rfl, by kernel_rfl, by decide, rfl⟩
instance : Sca Tryz.prog 22 := ⟨_, Tryz.underlying22, rfl⟩
instance : SInf Tryz.prog 31 [(0, 1), (1, 1), (2, 4)] := ⟨_, Tryz.underlying31, by kernel_rfl, by kernel_rfl⟩
instance : Inf Tryz.prog 31 6 64 [.int .u8 0, .string .empty, .int .u8 0, .int .i64 0, .int .u64 0, .string .empty] := ⟨TI.of (v := .agg #[.int .u8 0, .string .empty, .int .u8 0, .int .i64 0, .int .u64 0, .string .empty]) (by kernel_rfl) rfl⟩
instance : Ents Tryz.prog 70 := ⟨.mk Tryz.func70 (by kernel_rfl) rfl⟩
instance : Fld Tryz.prog 51 1 1 := ⟨_, _, 4, Tryz.underlying51, rfl, by kernel_rfl, by decide, rfl⟩
instance : Ents Tryz.prog 71 := ⟨.mk Tryz.func71 (by kernel_rfl) rfl⟩
instance : Ents Tryz.prog 60 := ⟨.mk Tryz.func60 (by kernel_rfl) rfl⟩
instance : Ents Tryz.prog 61 := ⟨.mk Tryz.func61 (by kernel_rfl) rfl⟩
instance : Ents Tryz.prog 76 := ⟨.mk Tryz.func76 (by kernel_rfl) rfl⟩
@[reducible] def vlC (x : S.RgV) : List Value := [.int .u8 x.vk, .int .i64 x.num, .int .u64 x.bits, .string x.t]
/-- A list, and where it lies. -/
structure LsA (α : Type) where
 (a : Option Addr) (n c : Nat) (l : List α)
theorem lwwApply0 (a : Option Addr) (n c : Nat) (l : List S.RgV) (z : OpA) (id : List Int) (w : World) (hO : GOwn rgC 38 0 w 51 a n c l) (hz : z.o.ok) (hid : Arr .u8 32 id) (hok : ∀ x ∈ l, x.ok) (hs : S.SortK l) (hn : n ≤ 100) :
  Calls Tryz.prog 65 #[.slice a n c, .agg (opC z).toArray, .agg (ints .u8 id).toArray] w (Gw w rgC 38 51 a (S.applR l z.o id hid.1)) := by
 have hl := hO.len
 have hsp := S.spK_le l z.o.key
 obtain ⟨x, hx⟩ := ex (S.regO z.o id hid.1)
 have hxk : x.key = z.o.key := by rw [hx]; rfl
 have hxo : x.ok := by rw [hx]; exact ⟨⟨hz.vk, hz.num, hz.bits, hz.st, hid.2⟩, hz.key, hz.t⟩
 refine J.enterG 47 hO Tryz.func65 rfl rfl ?_
 refine run ?_
 refine J.box rfl rfl rfl fun b1 => ?_
 refine J.box rfl rfl rfl fun b2 => ?_
 refine run ?_
 refine J.ifn rfl (fun c1 => ?_) (fun c1 => ?_)
 ·refine run ?_
  have e : S.applR l z.o id hid.1 = l := if_neg c1
  rw [e]
  exact J.finW rfl
 have e : S.applR l z.o id hid.1 = S.putR l x := by rw [hx]; exact if_pos c1
 rw [e]
 refine run ?_
 refine J.bs rfl rfl ?_ (fill_rg z.o id hid.1)
 rw [← hx]
 refine J.alloc rfl fun b3 => ?_
 refine run ?_
 refine J.callp rfl rfl (fun w' M => (RG.own' (a := a) w' M).elim fun _ k1 => findReg a n c l _ w' k1 hs hn) ?_
 refine run ?_
 refine J.ifnot rfl (fun c2 => ?_) (fun c2 => ?_)
 ·have hh : ¬ S.hasK l x.key := of_decide_eq_false c2
  refine run ?_
  refine J.b1G rgC x rgC_len rfl rfl rfl fun b4 => ?_
  rw [S.put_ins hh]
  refine J.callG rfl (fun w' M hO' => insReg a n c l (S.spK l x.key) x b4 w' hO' (by rw [hxk]; omega) (by omega) (let ⟨_, _, q⟩ := M.get (GO.h (a := some ⟨b4, 0, none⟩) (some ⟨b4, 0, none⟩) 1 1 [x]).same; gown_one (gown_e q).1) (fun he => by
   obtain ⟨S1, S2, h1, h2, h3⟩ := M.two (.gown rgC 38 51 a n c l) (.gown rgC 38 51 (some ⟨b4, 0, none⟩) 1 1 [x])
   exact h1 b4 ((gown_e h2).2 _ he) ((gown_e h3).2 _ rfl))) fun a' c' => ?_
  refine run ?_
  exact J.finW rfl
 have hh := of_decide_eq_true c2
 have hp := (S.has_spK hs).1 hh
 have hq := S.rg_at hp.1
 refine run ?_
 refine J.regionX [(0, .q), (1, .q), (2, .q), (3, .q), (4, .q), (5, .e)] mixed (by kernel_rfl) ?_
 refine run ?_
 refine J.callp rfl rfl (fun w' M => later x _ hxo (hok _ (S.rg_mem hp.1)) w') ?_
 refine run ?_
 refine J.ifd rfl (fun c3 => ?_) (fun c3 => ?_)
 ·refine run ?_
  refine J.stG rfl rfl rfl ?_ (hv := LenC.c (vs := rgC x))
  refine run ?_
  have e2 : S.putR l x = l.set (S.spK l x.key) x := by unfold S.putR; rw [if_pos hh, if_pos c3]
  rw [e2]
  exact J.finW rfl
 refine run ?_
 have e2 : S.putR l x = l := by unfold S.putR; rw [if_pos hh, if_neg c3]
 rw [e2]
 exact J.finW rfl
theorem lwwCheck {S0 : Nat → Prop} (a : Option Addr) (n c : Nat) (l : List S.RgV) (w : World) (G : RsR S0 w a n c l) :
  Calls Tryz.prog 27 #[.agg ([.slice a n c] : List Value).toArray] w (Ret w fun v _ => v = .int .i64 (S.chkR l)) := by
 have D0 := G.row
 have hl := G.len
 refine J.enter 49 Tryz.func27 rfl rfl ?_
 refine run ?_
 refine J.box rfl rfl rfl fun b1 => ?_
 refine run ?_
 refine J.ifd rfl (fun c0 => ?_) (fun c0 => ?_)
 ·refine run ?_
  exact J.fin (congrArg _ (S.chkR_4 (by omega)))
 refine run ?_
 refine J.loopS (A := Int) (fun p => [(12, .int .i64 p)]) [2, 3, 4, 13, 14, 15, 16, 17, 18, 19, 20, 21, 22, 23, 24, 25, 26, 27, 28, 29, 30, 31, 32, 33, 34, 35, 36, 37, 38, 39, 40, 41, 42, 43, 44, 45, 46, 47, 48, 49] (fun p => (0 ≤ p ∧ p ≤ n) ∧ ∀ i, i < p.toNat → S.rowOk l i) (fun p => n - p.toNat) 0 (by kernel_rfl) ⟨by omega, fun i hi => by omega⟩ (fun p j hI => ?_)
 obtain ⟨h1, hI⟩ := hI
 refine run ?_
 refine J.ifd rfl (fun c3 => ?_) (fun c3 => ?_)
 ·have hq := S.rg_at (l := l) (i := p.toNat) (by omega)
  have hq1 := S.rg_at (l := l) (i := (p - 1).toNat) (by omega)
  have hok := G.okAt (i := p.toNat) (by omega)
  have h8 : ¬ S.rowOk l p.toNat → (8 : Int) = S.chkR l := S.chkR_8 (by omega) (by omega)
  unfold S.rowOk at h8
  rw [show p.toNat - 1 = (p - 1).toNat by omega] at h8
  have hnext : S.rowOk l p.toNat → ∀ i, i < (p + 1).toNat → S.rowOk l i := fun h i hi => by
   rcases Nat.lt_or_ge i p.toNat with e | e
   ·exact hI i e
   obtain rfl : i = p.toNat := by omega
   exact h
  unfold S.rowOk at hnext
  rw [show p.toNat - 1 = (p - 1).toNat by omega] at hnext
  obtain ⟨x, hx⟩ := ex (S.rg l p.toNat)
  obtain ⟨y, hy⟩ := ex (S.rg l (p - 1).toNat)
  rw [← hx] at hq hok h8 hnext
  rw [← hy] at hq1 h8 hnext
  refine run ?_
  refine J.alloc rfl fun b2 => ?_
  refine run ?_
  refine J.regionX [(0, .q), (1, .q), (2, .q), (3, .e), (4, .q), (5, .q), (6, .q), (7, .q), (8, .e), (9, .q), (10, .q), (11, .q), (12, .q), (13, .q), (14, .q), (15, .q), (16, .q), (17, .q), (18, .q), (19, .q), (20, .q), (21, .q), (22, .q), (23, .q), (24, .q), (25, .q), (26, .q), (27, .q), (28, .q), (29, .q), (30, .q), (31, .q)] mixed (by kernel_rfl) ?_
  refine run ?_
  refine J.callp rfl rfl (fun w' M => checkAct _ _ _ _ _ _ (by omega) (by omega) (by omega) (by omega) (Nat.le_trans hok.key (by decide)) (by decide) w') ?_
  refine run ?_
  refine J.spn rfl rfl rfl (fun c4 => ?_) (fun c4 => ?_)
  ·refine run ?_
   exact J.fin (congrArg _ (h8 fun h => c4 (S.act_add h.1.1 rfl)))
  refine run ?_
  refine J.callp rfl rfl (fun w' M => checkV _ _ _ _ hok.vk hok.num hok.bits w') ?_
  refine run ?_
  refine J.spn rfl rfl rfl (fun c5 => ?_) (fun c5 => ?_)
  ·refine run ?_
   exact J.fin (congrArg _ (h8 fun h => c5 (S.valE_zero.2 h.1.2.1)))
  refine run ?_
  refine J.spd rfl rfl rfl (fun c6 => ?_) (fun c6 => ?_)
  ·refine run ?_
   exact J.fin (congrArg _ (h8 fun h => by have := h.1.2.2; omega))
  have hf : x.fine := ⟨S.act_key c4, S.valE_zero.1 c5, by omega⟩
  refine run ?_
  refine J.spd rfl rfl rfl (fun c7 => ?_) (fun c7 => ?_)
  ·refine run ?_
   refine J.ifd rfl (fun c8 => ?_) (fun c8 => ?_)
   ·refine run ?_
    exact J.fin (congrArg _ (h8 fun h => by have := h.2 (by omega); omega))
   refine run ?_
   exact J.nextS (p + 1) ⟨rfl, trivial⟩ (by kernel_rfl) ⟨by omega, hnext ⟨hf, fun _ => by omega⟩⟩ (by omega)
  refine run ?_
  exact J.nextS (p + 1) ⟨rfl, trivial⟩ (by kernel_rfl) ⟨by omega, hnext ⟨hf, fun h => by omega⟩⟩ (by omega)
 refine run ?_
 exact J.fin (congrArg _ (S.chkR_0 (by omega) fun i hi => hI i (by omega)))
theorem refRCheck {S0 : Nat → Prop} (a : Option Addr) (n c : Nat) (l : List S.RgV) (w : World) (G : RsR S0 w a n c l) :
  Calls Tryz.prog 15 #[.agg ([.slice a n c] : List Value).toArray] w (Ret w fun v _ => v = .int .i64 (S.chkR l)) := by
 have D0 := G.row
 have hl := G.len
 refine J.enter 51 Tryz.func15 rfl rfl ?_
 refine run ?_
 refine J.box rfl rfl rfl fun b1 => ?_
 refine run ?_
 refine J.ifd rfl (fun c0 => ?_) (fun c0 => ?_)
 ·refine run ?_
  exact J.fin (congrArg _ (S.chkR_4 (by omega)))
 refine run ?_
 refine J.loopS (A := Int) (fun p => [(3, .int .i64 p)]) [2, 4, 9, 10, 11, 12, 13, 14, 15, 16, 17, 18, 19, 20, 21, 22, 23, 24, 25, 26, 27, 28, 29, 30, 31, 32, 33, 34, 35, 36, 37, 38, 39, 40, 41, 42, 43, 44, 45, 46, 47, 48, 49, 50, 51] (fun p => (0 ≤ p ∧ p ≤ n) ∧ ∀ i, i < p.toNat → S.rowOk l i) (fun p => n - p.toNat) 0 (by kernel_rfl) ⟨by omega, fun i hi => by omega⟩ (fun p j hI => ?_)
 obtain ⟨h1, hI⟩ := hI
 refine run ?_
 refine J.ifd rfl (fun c3 => ?_) (fun c3 => ?_)
 ·have hq := S.rg_at (l := l) (i := p.toNat) (by omega)
  have hq1 := S.rg_at (l := l) (i := (p - 1).toNat) (by omega)
  have hok := G.okAt (i := p.toNat) (by omega)
  have h8 : ¬ S.rowOk l p.toNat → (8 : Int) = S.chkR l := S.chkR_8 (by omega) (by omega)
  unfold S.rowOk at h8
  rw [show p.toNat - 1 = (p - 1).toNat by omega] at h8
  have hnext : S.rowOk l p.toNat → ∀ i, i < (p + 1).toNat → S.rowOk l i := fun h i hi => by
   rcases Nat.lt_or_ge i p.toNat with e | e
   ·exact hI i e
   obtain rfl : i = p.toNat := by omega
   exact h
  unfold S.rowOk at hnext
  rw [show p.toNat - 1 = (p - 1).toNat by omega] at hnext
  obtain ⟨x, hx⟩ := ex (S.rg l p.toNat)
  obtain ⟨y, hy⟩ := ex (S.rg l (p - 1).toNat)
  rw [← hx] at hq hok h8 hnext
  rw [← hy] at hq1 h8 hnext
  refine run ?_
  refine J.alloc rfl fun b2 => ?_
  refine run ?_
  refine J.regionX [(0, .q), (1, .q), (2, .e), (3, .q), (4, .q), (5, .q), (6, .q), (7, .e), (8, .q), (9, .q), (10, .q), (11, .q), (12, .q), (13, .q), (14, .q), (15, .q), (16, .q), (17, .q), (18, .q), (19, .q), (20, .q), (21, .q), (22, .q), (23, .q), (24, .q), (25, .q), (26, .q), (27, .q), (28, .q), (29, .q), (30, .q)] mixed (by kernel_rfl) ?_
  refine run ?_
  refine J.callp rfl rfl (fun w' M => nameR _ (Nat.le_trans hok.key (by decide)) w') ?_
  refine run ?_
  refine J.spt rfl rfl rfl (fun c4 => ?_) (fun c4 => ?_)
  ·refine run ?_
   exact J.fin (congrArg _ (h8 fun h => (absurd h.1.1 (of_decide_eq_false c4))))
  refine run ?_
  refine J.callp rfl rfl (fun w' M => checkR _ _ _ _ hok.vk hok.num hok.bits (Nat.le_trans hok.t (by decide)) w') ?_
  refine run ?_
  refine J.spn rfl rfl rfl (fun c5 => ?_) (fun c5 => ?_)
  ·refine run ?_
   exact J.fin (congrArg _ (h8 fun h => c5 (S.valE_zero.2 h.1.2.1)))
  refine run ?_
  refine J.spd rfl rfl rfl (fun c6 => ?_) (fun c6 => ?_)
  ·refine run ?_
   exact J.fin (congrArg _ (h8 fun h => by have := h.1.2.2; omega))
  have hf : x.fine := ⟨of_decide_eq_true c4, S.valE_zero.1 c5, by omega⟩
  refine run ?_
  refine J.spd rfl rfl rfl (fun c7 => ?_) (fun c7 => ?_)
  ·refine run ?_
   refine J.ifd rfl (fun c8 => ?_) (fun c8 => ?_)
   ·refine run ?_
    exact J.fin (congrArg _ (h8 fun h => by have := h.2 (by omega); omega))
   refine run ?_
   exact J.nextS (p + 1) ⟨rfl, trivial⟩ (by kernel_rfl) ⟨by omega, hnext ⟨hf, fun _ => by omega⟩⟩ (by omega)
  refine run ?_
  exact J.nextS (p + 1) ⟨rfl, trivial⟩ (by kernel_rfl) ⟨by omega, hnext ⟨hf, fun h => by omega⟩⟩ (by omega)
 refine run ?_
 exact J.fin (congrArg _ (S.chkR_0 (by omega) fun i hi => hI i (by omega)))
theorem refRAt {S0 : Nat → Prop} (a : Option Addr) (n c : Nat) (l : List S.RgV) (k : ByteArray) (w : World) (D0 : GRow rgC 38 S0 w a n l) (hn : n ≤ 1000) :
  Calls Tryz.prog 21 #[.slice a n c, .string k] w (Ret w fun v _ => v = .int .i64 (S.atK l k)) := by
 have hl := D0.len
 refine J.enter 18 Tryz.func21 rfl rfl ?_
 refine run ?_
 refine J.loopS (A := Int) (fun p => [(5, .int .i64 p)]) [4, 6, 7, 8, 9, 10, 11, 12, 13, 14, 15, 16, 17, 18, 19] (fun p => (0 ≤ p ∧ p ≤ n) ∧ ∀ i, i < p.toNat → (S.rg l i).key ≠ k) (fun p => n - p.toNat) 0 (by kernel_rfl) ⟨by omega, fun i hi => by omega⟩ (fun p j hI => ?_)
 obtain ⟨h1, hI⟩ := hI
 refine run ?_
 refine J.ifd rfl (fun c3 => ?_) (fun c3 => ?_)
 ·have hq := S.rg_at (l := l) (i := p.toNat) (by omega)
  refine run ?_
  refine J.ifS rfl (fun c4 => ?_) (fun c4 => ?_)
  ·refine run ?_
   refine J.fin (congrArg _ ?_)
   rw [← S.atK_hit (l := l) (i := p.toNat) (by omega) c4 hI]
   omega
  refine run ?_
  refine J.nextS (p + 1) ⟨rfl, trivial⟩ (by kernel_rfl) ⟨by omega, fun i hi => ?_⟩ (by omega)
  rcases Nat.lt_or_ge i p.toNat with e | e
  ·exact hI i e
  obtain rfl : i = p.toNat := by omega
  exact c4
 refine run ?_
 exact J.fin (congrArg _ (S.atK_miss fun i hi => hI i (by omega)))
theorem refLater (st : Int) (id : List Int) (y : S.RgV) (w : World) (hid : Arr .u8 32 id) (hy : y.ok) :
  Calls Tryz.prog 36 #[.int .u64 st, .agg (ints .u8 id).toArray, .agg (rgC y).toArray] w (Ret w fun v _ => v = .bool (decide (S.lateR st id y))) := by
 refine J.enter 21 Tryz.func36 rfl rfl ?_
 refine run ?_
 refine J.box rfl rfl rfl fun b1 => ?_
 refine J.box rfl rfl rfl fun b2 => ?_
 refine run ?_
 refine J.spd rfl rfl rfl (fun c1 => ?_) (fun c1 => ?_)
 ·refine run ?_
  exact J.fin (congrArg _ (decide_eq_true (.inl c1)).symm)
 refine run ?_
 refine J.spe rfl rfl rfl (fun c2 => ?_) (fun c2 => ?_)
 ·refine run ?_
  refine J.ldp rfl ?_ (hv := rgC_id y) (hn := by rw [ints_length, y.h32])
  refine run ?_
  refine J.callp rfl rfl (fun w' M => rcmp _ _ hid hy.arr w') ?_
  refine run ?_
  refine J.fin (congrArg _ (decide_eq_decide.2 ⟨fun h => .inr ⟨c2, h⟩, fun h => h.elim (fun h => absurd h c1) fun h => h.2⟩))
 refine run ?_
 exact J.fin (congrArg _ (decide_eq_false fun h => h.elim c1 fun h => c2 h.1).symm)
end Go.Proofs.YtimdoffpnjdmmaaGreatDoor.W
namespace Go.Proofs.YtimdoffpnjdmmaaGreatDoor.S
open G
set_option linter.unusedVariables false
/-! what is put -/
theorem goodR_put {l : List RgV} (h : goodR l) {x : RgV} (hx : x.fine) (hn : hasK l x.key ∨ l.length < 60) : goodR (putR l x) := by
  refine ⟨?_, fun y hy => ?_, put_sort h.2.2 x⟩
  · rw [put_len]
    have := h.1
    split
    · omega
    · rename_i h2
      rcases hn with h3 | h3
      · exact absurd h3 h2
      · omega
  · rcases (mem_put h.2.2 x y).1 hy with h1 | rfl
    · exact h.2.1 y h1.1
    · unfold bestR
      split
      · rename_i h3
        exact h.2.1 _ (rg_mem ((has_spK h.2.2).1 h3.1).1)
      · exact hx
theorem put_ok {l : List RgV} (h : ∀ x ∈ l, x.ok) (hs : SortK l) {x : RgV} (hx : x.ok) : ∀ y ∈ putR l x, y.ok := fun y hy => by
  rcases (mem_put hs x y).1 hy with h1 | rfl
  · exact h y h1.1
  · unfold bestR
    split
    · rename_i h3
      exact h _ (rg_mem ((has_spK hs).1 h3.1).1)
    · exact hx
theorem late_trans {x y z : RgV} (h : lateR x.st x.id y) (k : lateR y.st y.id z) : lateR x.st x.id z := by
  unfold lateR at *
  rcases h with h | ⟨h1, h2⟩
  · rcases k with k | ⟨k1, k2⟩
    · exact .inl (by omega)
    · exact .inl (by omega)
  · rcases k with k | ⟨k1, k2⟩
    · exact .inl (by omega)
    · refine .inr ⟨by omega, ?_⟩
      have e1 := cmpS_swap x.id y.id
      have e2 := cmpS_swap y.id z.id
      have e3 := cmpS_swap x.id z.id
      have := cmpS_trans (a := z.id) (b := y.id) (c := x.id) (by omega) (by omega)
      omega
theorem late_total {x y : RgV} (h : ¬ lateR x.st x.id y) (k : ¬ lateR y.st y.id x) : x.id = y.id := by
  unfold lateR at *
  have e1 := cmpS_swap x.id y.id
  refine (cmpS_eq _ _).1 ?_
  by_cases hs : x.st = y.st
  · have h1 : ¬ 0 < cmpS x.id y.id := fun e => h (.inr ⟨hs, e⟩)
    have h2 : ¬ 0 < cmpS y.id x.id := fun e => k (.inr ⟨hs.symm, e⟩)
    omega
  · by_cases h3 : y.st < x.st
    · exact absurd (.inl h3) h
    · exact absurd (.inl (by omega)) k
/-- Lists in order that have the same. -/
theorem sort_ext {l m : List RgV} (hl : SortK l) (hm : SortK m) (h : ∀ y, y ∈ l ↔ y ∈ m) : l = m := by
  induction l generalizing m with
  | nil =>
    cases m with
    | nil => rfl
    | cons y m => exact absurd ((h y).2 (List.mem_cons_self ..)) (by simp)
  | cons x l ih =>
    cases m with
    | nil => exact absurd ((h x).1 (List.mem_cons_self ..)) (by simp)
    | cons y m =>
      have hx := List.pairwise_cons.1 hl
      have hy := List.pairwise_cons.1 hm
      have e : x = y := by
        rcases List.mem_cons.1 ((h x).1 (List.mem_cons_self ..)) with e | e
        · exact e
        · rcases List.mem_cons.1 ((h y).2 (List.mem_cons_self ..)) with e2 | e2
          · exact e2.symm
          · have h1 := hy.1 x e
            have h2 := hx.1 y e2
            have := kc_swap x.key y.key
            omega
      subst e
      congr 1
      refine ih hx.2 hy.2 fun z => ⟨fun hz => ?_, fun hz => ?_⟩
      · rcases List.mem_cons.1 ((h z).1 (List.mem_cons_of_mem _ hz)) with e | e
        · subst e
          have := hx.1 z hz
          rw [kc_self] at this
          omega
        · exact e
      · rcases List.mem_cons.1 ((h z).2 (List.mem_cons_of_mem _ hz)) with e | e
        · subst e
          have := hy.1 z hz
          rw [kc_self] at this
          omega
        · exact e
/-! operations of a graph -/
def regI (ids : List Int) (ops : List OpV) (i : Nat) : RgV := if h : (idAt ids i).length = 32 then regO (ops.getD i OpV.zero) (idAt ids i) h else RgV.zero
def setI (ops : List OpV) (i : Nat) : Prop := (ops.getD i OpV.zero).k = 4
instance (ops : List OpV) (i : Nat) : Decidable (setI ops i) := by unfold setI; infer_instance
def stepI (ids : List Int) (ops : List OpV) (l : List RgV) (i : Nat) : List RgV := if setI ops i then putR l (regI ids ops i) else l
/-- The registers after operations, by their indices. -/
def ofL (ids : List Int) (ops : List OpV) (js : List Nat) : List RgV := js.foldl (stepI ids ops) []
theorem ofL_snoc (ids : List Int) (ops : List OpV) (js : List Nat) (i : Nat) : ofL ids ops (js ++ [i]) = stepI ids ops (ofL ids ops js) i := by simp [ofL, List.foldl_append]
/-- One that no other one is later than. -/
def topI (ids : List Int) (ops : List OpV) (js : List Nat) (i : Nat) : Prop := i ∈ js ∧ setI ops i ∧ ∀ j ∈ js, setI ops j → (regI ids ops j).key = (regI ids ops i).key → ¬ lateR (regI ids ops j).st (regI ids ops j).id (regI ids ops i)
def OneI (ids : List Int) (ops : List OpV) (js : List Nat) : Prop := ∀ i ∈ js, ∀ j ∈ js, (regI ids ops i).id = (regI ids ops j).id → i = j
theorem ofL_all (ids : List Int) (ops : List OpV) (js : List Nat) : SortK (ofL ids ops js) ∧ (∀ k, hasK (ofL ids ops js) k ↔ ∃ i ∈ js, setI ops i ∧ (regI ids ops i).key = k) ∧ (OneI ids ops js → ∀ y, y ∈ ofL ids ops js ↔ ∃ i, topI ids ops js i ∧ y = regI ids ops i) := by
  suffices H : ∀ n, n ≤ js.length → SortK (ofL ids ops (js.take n)) ∧ (∀ k, hasK (ofL ids ops (js.take n)) k ↔ ∃ i ∈ js.take n, setI ops i ∧ (regI ids ops i).key = k) ∧ (OneI ids ops (js.take n) → ∀ y, y ∈ ofL ids ops (js.take n) ↔ ∃ i, topI ids ops (js.take n) i ∧ y = regI ids ops i) by
    have := H js.length (Nat.le_refl _)
    rwa [List.take_length] at this
  intro n
  induction n with
  | zero =>
    intro _
    refine ⟨List.Pairwise.nil, fun k => ?_, fun _ y => ?_⟩
    · simp [ofL, hasK]
    · simp [ofL, topI]
  | succ n ih =>
    intro hn
    obtain ⟨h1, h2, h3⟩ := ih (by omega)
    rw [take_snoc_get _ _ (by omega : n < js.length)]
    generalize js.take n = ks at h1 h2 h3 ⊢
    generalize js.getD n 0 = i
    rw [ofL_snoc]
    by_cases hs : setI ops i
    · have e : stepI ids ops (ofL ids ops ks) i = putR (ofL ids ops ks) (regI ids ops i) := if_pos hs
      rw [e]
      refine ⟨put_sort h1 _, fun k => ?_, fun ho y => ?_⟩
      · rw [has_put h1, h2]
        constructor
        · rintro (⟨j, hj, hk⟩ | hk)
          · exact ⟨j, List.mem_append_left _ hj, hk⟩
          · exact ⟨i, by simp, hs, hk.symm⟩
        · rintro ⟨j, hj, hk⟩
          rcases List.mem_append.1 hj with hj | hj
          · exact .inl ⟨j, hj, hk⟩
          · rw [List.mem_singleton] at hj; subst hj; exact .inr hk.2.symm
      · have ho' : OneI ids ops ks := fun a ha b hb e => ho a (List.mem_append_left _ ha) b (List.mem_append_left _ hb) e
        have h4 := h3 ho'
        have hz : hasK (ofL ids ops ks) (regI ids ops i).key → ∃ j, topI ids ops ks j ∧ rg (ofL ids ops ks) (spK (ofL ids ops ks) (regI ids ops i).key) = regI ids ops j ∧ (regI ids ops j).key = (regI ids ops i).key := fun hh => by
          have h5 := (has_spK h1).1 hh
          obtain ⟨j, h6, h7⟩ := (h4 _).1 (rg_mem h5.1)
          exact ⟨j, h6, h7, by rw [← h7]; exact h5.2⟩
        rw [mem_put h1]
        constructor
        · rintro (⟨hy, hk⟩ | rfl)
          · obtain ⟨j, h6, rfl⟩ := (h4 y).1 hy
            refine ⟨j, ⟨List.mem_append_left _ h6.1, h6.2.1, fun j' hj' hs' hk' => ?_⟩, rfl⟩
            rcases List.mem_append.1 hj' with hj' | hj'
            · exact h6.2.2 j' hj' hs' hk'
            · rw [List.mem_singleton] at hj'; subst hj'; exact absurd hk'.symm hk
          · by_cases hh : hasK (ofL ids ops ks) (regI ids ops i).key
            · obtain ⟨j, h6, h7, h8⟩ := hz hh
              unfold bestR
              by_cases hl : lateR (regI ids ops i).st (regI ids ops i).id (rg (ofL ids ops ks) (spK (ofL ids ops ks) (regI ids ops i).key))
              · rw [if_neg (fun h9 => h9.2 hl)]
                refine ⟨i, ⟨by simp, hs, fun j' hj' hs' hk' hl' => ?_⟩, rfl⟩
                rcases List.mem_append.1 hj' with hj' | hj'
                · rw [h7] at hl
                  exact h6.2.2 j' hj' hs' (hk'.trans h8.symm) (late_trans hl' hl)
                · rw [List.mem_singleton] at hj'; subst hj'; exact late_irr _ hl'
              · rw [if_pos ⟨hh, hl⟩]
                refine ⟨j, ⟨List.mem_append_left _ h6.1, h6.2.1, fun j' hj' hs' hk' => ?_⟩, h7⟩
                rcases List.mem_append.1 hj' with hj' | hj'
                · exact h6.2.2 j' hj' hs' hk'
                · rw [List.mem_singleton] at hj'; subst hj'; rw [← h7]; exact hl
            · have hb : bestR (ofL ids ops ks) (regI ids ops i) = regI ids ops i := by unfold bestR; rw [if_neg (fun h9 => hh h9.1)]
              rw [hb]
              refine ⟨i, ⟨by simp, hs, fun j' hj' hs' hk' hl' => ?_⟩, rfl⟩
              rcases List.mem_append.1 hj' with hj' | hj'
              · exact hh ((h2 _).2 ⟨j', hj', hs', hk'⟩)
              · rw [List.mem_singleton] at hj'; subst hj'; exact late_irr _ hl'
        · rintro ⟨j, ht, rfl⟩
          by_cases hk : (regI ids ops j).key = (regI ids ops i).key
          · right
            by_cases hh : hasK (ofL ids ops ks) (regI ids ops i).key
            · obtain ⟨j2, h6, h7, h8⟩ := hz hh
              unfold bestR
              have hi2 : i ∈ ks ++ [i] := by simp
              have hj2 : j2 ∈ ks ++ [i] := List.mem_append_left _ h6.1
              by_cases hl : lateR (regI ids ops i).st (regI ids ops i).id (rg (ofL ids ops ks) (spK (ofL ids ops ks) (regI ids ops i).key))
              · rw [if_neg (fun h9 => h9.2 hl)]
                rw [h7] at hl
                have hx := ht.2.2 i hi2 hs hk.symm
                have hji : j = i := by
                  rcases List.mem_append.1 ht.1 with hj' | hj'
                  · have hjj : ¬ lateR (regI ids ops j2).st (regI ids ops j2).id (regI ids ops j) := ht.2.2 j2 hj2 h6.2.1 (h8.trans hk.symm)
                    have hjj2 : ¬ lateR (regI ids ops j).st (regI ids ops j).id (regI ids ops j2) := h6.2.2 j hj' ht.2.1 (hk.trans h8.symm)
                    have e2 := ho j ht.1 j2 hj2 (late_total hjj2 hjj)
                    subst e2
                    exact absurd hl hx
                  · exact List.mem_singleton.1 hj'
                rw [hji]
              · rw [if_pos ⟨hh, hl⟩, h7]
                rw [h7] at hl
                rcases List.mem_append.1 ht.1 with hj' | hj'
                · have hjj : ¬ lateR (regI ids ops j2).st (regI ids ops j2).id (regI ids ops j) := ht.2.2 j2 hj2 h6.2.1 (h8.trans hk.symm)
                  have hjj2 : ¬ lateR (regI ids ops j).st (regI ids ops j).id (regI ids ops j2) := h6.2.2 j hj' ht.2.1 (hk.trans h8.symm)
                  rw [ho j ht.1 j2 hj2 (late_total hjj2 hjj)]
                · rw [List.mem_singleton] at hj'
                  subst hj'
                  have hjj : ¬ lateR (regI ids ops j2).st (regI ids ops j2).id (regI ids ops j) := ht.2.2 j2 hj2 h6.2.1 h8
                  rw [ho j hi2 j2 hj2 (late_total hl hjj)]
            · have hb : bestR (ofL ids ops ks) (regI ids ops i) = regI ids ops i := by unfold bestR; rw [if_neg (fun h9 => hh h9.1)]
              rw [hb]
              rcases List.mem_append.1 ht.1 with hj' | hj'
              · exact absurd ((h2 _).2 ⟨j, hj', ht.2.1, hk⟩) hh
              · rw [List.mem_singleton.1 hj']
          · left
            refine ⟨(h4 _).2 ⟨j, ⟨?_, ht.2.1, fun j' hj' => ht.2.2 j' (List.mem_append_left _ hj')⟩, rfl⟩, hk⟩
            rcases List.mem_append.1 ht.1 with hj' | hj'
            · exact hj'
            · rw [List.mem_singleton] at hj'; subst hj'; exact absurd rfl hk
    · have e : stepI ids ops (ofL ids ops ks) i = ofL ids ops ks := if_neg hs
      rw [e]
      refine ⟨h1, fun k => ?_, fun ho y => ?_⟩
      · rw [h2]
        constructor
        · rintro ⟨j, hj, hk⟩
          exact ⟨j, List.mem_append_left _ hj, hk⟩
        · rintro ⟨j, hj, hk⟩
          rcases List.mem_append.1 hj with hj | hj
          · exact ⟨j, hj, hk⟩
          · rw [List.mem_singleton] at hj; subst hj; exact absurd hk.1 hs
      · rw [h3 (fun a ha b hb e => ho a (List.mem_append_left _ ha) b (List.mem_append_left _ hb) e)]
        constructor
        · rintro ⟨j, ht, rfl⟩
          refine ⟨j, ⟨List.mem_append_left _ ht.1, ht.2.1, fun j' hj' hs' => ?_⟩, rfl⟩
          rcases List.mem_append.1 hj' with hj' | hj'
          · exact ht.2.2 j' hj' hs'
          · rw [List.mem_singleton] at hj'; subst hj'; exact absurd hs' hs
        · rintro ⟨j, ht, rfl⟩
          refine ⟨j, ⟨?_, ht.2.1, fun j' hj' => ht.2.2 j' (List.mem_append_left _ hj')⟩, rfl⟩
          rcases List.mem_append.1 ht.1 with hj' | hj'
          · exact hj'
          · rw [List.mem_singleton] at hj'; subst hj'; exact absurd ht.2.1 hs
theorem ofL_sort (ids : List Int) (ops : List OpV) (js : List Nat) : SortK (ofL ids ops js) := (ofL_all ids ops js).1
theorem ofL_has (ids : List Int) (ops : List OpV) (js : List Nat) (k : ByteArray) : hasK (ofL ids ops js) k ↔ ∃ i ∈ js, setI ops i ∧ (regI ids ops i).key = k := (ofL_all ids ops js).2.1 k
theorem ofL_mem {ids : List Int} {ops : List OpV} {js : List Nat} (h : OneI ids ops js) (y : RgV) : y ∈ ofL ids ops js ↔ ∃ i, topI ids ops js i ∧ y = regI ids ops i := (ofL_all ids ops js).2.2 h y
theorem ofL_len (ids : List Int) (ops : List OpV) (js : List Nat) : (ofL ids ops js).length ≤ js.length := by
  suffices H : ∀ l : List RgV, (js.foldl (stepI ids ops) l).length ≤ l.length + js.length by
    have := H []
    simpa [ofL] using this
  induction js with
  | nil => intro l; simp
  | cons j js ih =>
    intro l
    have h1 := ih (stepI ids ops l j)
    have h2 : (stepI ids ops l j).length ≤ l.length + 1 := by
      unfold stepI
      split
      · rw [put_len]; split <;> omega
      · omega
    simp only [List.foldl_cons, List.length_cons]
    omega
/-- The order does not matter, nor how often. -/
theorem ofL_same {ids : List Int} {ops : List OpV} {js ks : List Nat} (h : OneI ids ops js) (e : ∀ i, i ∈ js ↔ i ∈ ks) : ofL ids ops js = ofL ids ops ks := by
  have h' : OneI ids ops ks := fun a ha b hb => h a ((e a).2 ha) b ((e b).2 hb)
  refine sort_ext (ofL_sort ..) (ofL_sort ..) fun y => ?_
  rw [ofL_mem h, ofL_mem h']
  have ht : ∀ i, topI ids ops js i ↔ topI ids ops ks i := fun i => by
    unfold topI
    rw [e i]
    exact ⟨fun ⟨a, b, c⟩ => ⟨a, b, fun j hj => c j ((e j).2 hj)⟩, fun ⟨a, b, c⟩ => ⟨a, b, fun j hj => c j ((e j).1 hj)⟩⟩
  simp only [ht]
theorem regI_eq {ids : List Int} {ops : List OpV} {i : Nat} (h : (idAt ids i).length = 32) : regI ids ops i = regO (ops.getD i OpV.zero) (idAt ids i) h := by unfold regI; rw [dif_pos h]
theorem one_rising {m : Nat} {ids : List Int} {ops : List OpV} {js : List Nat} (hr : Rising m ids) (hl : ids.length = 32 * m) (hj : ∀ j ∈ js, j < m) : OneI ids ops js := fun a ha b hb e => by
  rw [regI_eq (idAt_len ids a m hl (hj a ha)), regI_eq (idAt_len ids b m hl (hj b hb))] at e
  exact rising_inj hr (hj a ha) (hj b hb) e
/-! an operation that is applied -/
theorem opR_fine {o : OpV} (h : checkE o = 0) (h4 : o.k = 4) : (opR o).fine := by
  obtain ⟨_, _, c⟩ := check_zero.1 h
  have hk : KeyOk o.key := by
    rcases c.2.2.2.2 with e | e | e
    · omega
    · exact e.2.1
    · exact e.2.1
  exact ⟨hk, fine4 c.2.2.2.2 h4, c.2.1⟩
theorem appE_cases {l : List RgV} {o : OpV} (h1 : chkR l = 0) (h2 : checkE o = 0) : appE l o = if o.k = 4 ∧ ¬ hasK l o.key ∧ l.length = 60 then 18 else 0 := by
  unfold appE; rw [if_neg (not_not_intro h1), if_neg (not_not_intro h2)]
theorem appE_zero {l : List RgV} {o : OpV} : appE l o = 0 ↔ chkR l = 0 ∧ checkE o = 0 ∧ ¬ (o.k = 4 ∧ ¬ hasK l o.key ∧ l.length = 60) := by
  constructor
  · intro h
    have h1 : chkR l = 0 := by
      unfold appE at h
      split at h
      · rename_i c; exact absurd h c
      · rename_i c; exact Decidable.not_not.1 c
    have h2 : checkE o = 0 := by
      unfold appE at h
      rw [if_neg (not_not_intro h1)] at h
      split at h
      · exact absurd h (by decide)
      · rename_i c; exact Decidable.not_not.1 c
    refine ⟨h1, h2, fun c => ?_⟩
    rw [appE_cases h1 h2, if_pos c] at h
    exact absurd h (by decide)
  · rintro ⟨h1, h2, h3⟩
    rw [appE_cases h1 h2, if_neg h3]
theorem appL_zero {l : List RgV} {o : OpV} (h : appE l o = 0) : appL l o = if o.k = 4 then putR l (opR o) else l := by unfold appL; rw [if_neg (not_not_intro h)]
end Go.Proofs.YtimdoffpnjdmmaaGreatDoor.S
namespace Go.Proofs.YtimdoffpnjdmmaaGreatDoor.S
open G
set_option linter.unusedVariables false
/-! sizes of what is applied -/
theorem appl_18 {l : List RgV} {o : OpV} (h : goodR l) : 60 < (if o.k = 4 then putR l (opR o) else l).length ↔ o.k = 4 ∧ ¬ hasK l o.key ∧ l.length = 60 := by
  have h1 := h.1
  by_cases h4 : o.k = 4
  · rw [if_pos h4, put_len]
    by_cases hh : hasK l o.key
    · rw [if_pos (show hasK l (opR o).key from hh)]; constructor
      · omega
      · exact fun h2 => absurd hh h2.2.1
    · rw [if_neg (show ¬ hasK l (opR o).key from hh)]; constructor
      · exact fun h2 => ⟨h4, hh, by omega⟩
      · omega
  · rw [if_neg h4]; constructor
    · omega
    · exact fun h2 => absurd h2.1 h4
theorem appE_chk {l : List RgV} {o : OpV} (h : chkR l ≠ 0) : appE l o = chkR l ∧ appL l o = [] := by
  have e : appE l o = chkR l := by unfold appE; rw [if_pos h]
  exact ⟨e, by unfold appL; rw [if_pos (by rw [e]; exact h)]⟩
theorem appE_bad {l : List RgV} {o : OpV} (h : chkR l = 0) (h2 : checkE o ≠ 0) : appE l o = 8 ∧ appL l o = [] := by
  have e : appE l o = 8 := by unfold appE; rw [if_neg (not_not_intro h), if_pos h2]
  exact ⟨e, by unfold appL; rw [if_pos (by rw [e]; decide)]⟩
theorem appE_full {l : List RgV} {o : OpV} (h : chkR l = 0) (h2 : checkE o = 0) (h3 : o.k = 4 ∧ ¬ hasK l o.key ∧ l.length = 60) : appE l o = 18 ∧ appL l o = [] := by
  have e : appE l o = 18 := by rw [appE_cases h h2, if_pos h3]
  exact ⟨e, by unfold appL; rw [if_pos (by rw [e]; decide)]⟩
theorem appE_ok {l : List RgV} {o : OpV} (h : chkR l = 0) (h2 : checkE o = 0) (h3 : ¬ (o.k = 4 ∧ ¬ hasK l o.key ∧ l.length = 60)) : appE l o = 0 ∧ appL l o = if o.k = 4 then putR l (opR o) else l := by
  have e : appE l o = 0 := appE_zero.2 ⟨h, h2, h3⟩
  exact ⟨e, appL_zero e⟩
theorem appL_ok {l : List RgV} {o : OpV} (h : ∀ x ∈ l, x.ok) (ho : o.ok) : ∀ y ∈ appL l o, y.ok := by
  intro y hy
  unfold appL at hy
  split at hy
  · cases hy
  · rename_i h0
    have hz := appE_zero.1 (Decidable.not_not.1 h0)
    split at hy
    · refine put_ok h (chkR_good.1 hz.1).2.2 ?_ y hy
      exact ⟨⟨ho.vk, ho.num, ho.bits, ho.st, (idX_arr o).2⟩, ho.key, ho.t⟩
    · exact h y hy
end Go.Proofs.YtimdoffpnjdmmaaGreatDoor.S
namespace Go.Proofs.YtimdoffpnjdmmaaGreatDoor.W
open Go.RowKit Go.Proofs.YtimdoffpnjdmmaaGreatDoor.G
set_option linter.unusedVariables false
set_option linter.unusedSimpArgs false
set_option maxRecDepth 20000
set_option maxHeartbeats 8000000
attribute [local irreducible] RS RX RY Code.wp bodyPost J Ent.blk Ent.irow Ent.iown Ent.wrow Ent.wown Ent.grow Ent.gown Ent.all Ent.emp
instance : Inf Tryz.prog 24 1 24 [.slice none 0 0] := ⟨TI.of (v := .agg #[.slice none 0 0]) (by kernel_rfl) rfl⟩
instance : SInf Tryz.prog 24 [(0, 1)] := ⟨_, Tryz.underlying24, by kernel_rfl, by kernel_rfl⟩
instance : Siz Tryz.prog 24 1 := ⟨by kernel_rfl⟩
instance : Agg Tryz.prog 24 1 := ⟨_, Tryz.underlying24, rfl, by kernel_rfl⟩
instance : Ents Tryz.prog 27 := ⟨.mk Tryz.func27 (by kernel_rfl) rfl⟩
instance : Ents Tryz.prog 66 := ⟨.mk Tryz.func66 (by kernel_rfl) rfl⟩
instance : Ents Tryz.prog 65 := ⟨.mk Tryz.func65 (by kernel_rfl) rfl⟩
instance : Inf Tryz.prog 29 4 40 [.int .u8 0, .int .i64 0, .int .u64 0, .string .empty] := ⟨TI.of (v := .agg #[.int .u8 0, .int .i64 0, .int .u64 0, .string .empty]) (by kernel_rfl) rfl⟩
instance : SInf Tryz.prog 29 [(0, 1), (1, 1), (2, 1), (3, 1)] := ⟨_, Tryz.underlying29, by kernel_rfl, by kernel_rfl⟩
instance : Siz Tryz.prog 29 4 := ⟨by kernel_rfl⟩
instance : Ents Tryz.prog 15 := ⟨.mk Tryz.func15 (by kernel_rfl) rfl⟩
instance : Ents Tryz.prog 21 := ⟨.mk Tryz.func21 (by kernel_rfl) rfl⟩
instance : Und Tryz.prog 57 (.slice 9) := ⟨Tryz.underlying57⟩
instance : Inf Tryz.prog 9 1 16 [.string .empty] := ⟨TI.of (v := .string .empty) (by kernel_rfl) rfl⟩
instance : Siz Tryz.prog 9 1 := ⟨by kernel_rfl⟩
@[reducible] def rsC (q : LsA S.RgV × Int) : Value := .tuple #[.agg ([.slice q.1.a q.1.n q.1.c] : List Value).toArray, .int .i64 q.2]
def rsP (L : List S.RgV) (e : Int) (q : LsA S.RgV × Int) : Prop := q.1.n ≤ q.1.c ∧ q.1.n = q.1.l.length ∧ q.1.l = L ∧ q.2 = e
@[reducible] def rsE (q : LsA S.RgV × Int) : List Ent := [.gown rgC 38 51 q.1.a q.1.n q.1.c q.1.l]
theorem lwwNew (w : World) : Calls Tryz.prog 26 #[] w (Ret w fun v _ => v = .agg #[.slice none 0 0]) := by
 refine J.enter 2 Tryz.func26 rfl rfl ?_
 refine run ?_
 refine J.alloc rfl fun b1 => ?_
 refine run ?_
 exact J.fin rfl
theorem lwwApply {S0 S1 : Nat → Prop} (a : Option Addr) (n c : Nat) (l : List S.RgV) (z : OpA) (TK : TypeId) (w : World) (K0 : Kst w TK) (G : RsR S0 w a n c l) (R : OpR S1 w z) :
  Calls Tryz.prog 18 #[.agg ([.slice a n c] : List Value).toArray, .agg (opC z).toArray] w (Gv w rsC rsE (rsP (S.appL l z.o) (S.appE l z.o))) := by
 have hl := G.len
 have hn := G.n
 have hsa := S.idX_arr z.o
 refine J.enter 34 Tryz.func18 rfl rfl ?_
 refine run ?_
 refine J.box rfl rfl rfl fun b1 => ?_
 refine J.box rfl rfl rfl fun b2 => ?_
 refine J.alloc rfl fun b3 => ?_
 refine run ?_
 refine J.callp rfl rfl (fun w' M => lwwCheck a n c l w' (G.ext M.ext)) ?_
 refine run ?_
 refine J.ifn rfl (fun c1 => ?_) (fun c1 => ?_)
 ·have h8 := S.appE_chk (o := z.o) c1
  refine run ?_
  refine J.nilG rgC 38 51 rgC_len ?_
  exact J.finG (⟨none, 0, 0, []⟩, S.chkR l) rfl ⟨Nat.le_refl _, rfl, h8.2.symm, h8.1.symm⟩ (.cons_cons _ (List.nil_sublist _))
 have hg := S.chkR_good.1 c1
 refine run ?_
 refine J.callp rfl rfl (fun w' M => idO z.o R.ok _ _ _ _ (K0.ext M.ext) (R.row.ext M.ext) R.cap) ?_
 refine run ?_
 refine J.alloc rfl fun b4 => ?_
 refine run ?_
 refine J.ifn rfl (fun c2 => ?_) (fun c2 => ?_)
 ·have h8 := S.appE_bad (o := z.o) c1 c2
  refine run ?_
  refine J.nilG rgC 38 51 rgC_len ?_
  exact J.finG (⟨none, 0, 0, []⟩, 8) rfl ⟨Nat.le_refl _, rfl, h8.2.symm, h8.1.symm⟩ (.cons_cons _ (List.nil_sublist _))
 refine run ?_
 refine J.regionR [.blk b4 (ints .u8 (S.idX z.o)) 49, .blk b2 (opC z) 35, .blk b1 [.slice a n c] 24] [(0, .q), (1, .q), (3, .q), (4, .q), (2, .e), (5, .e), (6, .q)] mixed (by kernel_rfl) (by repeat (first | exact List.Sublist.refl _ | refine List.Sublist.cons_cons _ ?_ | refine List.Sublist.cons _ ?_)) ?_
 refine run ?_
 refine J.call rfl rfl (fun w' M => cloneG a n c l w' (G.row.ext M.ext) (by omega)) fun q hq => ?_
 refine run ?_
 refine J.callG rfl (fun w' M hO => lwwApply0 q.1 n q.2 l z (S.idX z.o) w' hO R.ok hsa G.ok hg.2.2 (by omega)) fun a' c' => ?_
 have e1 : S.applR l z.o (S.idX z.o) hsa.1 = if z.o.k = 4 then S.putR l (S.opR z.o) else l := rfl
 have e2 := S.appl_18 (o := z.o) hg
 rw [← e1] at e2
 have e3 : ¬ (z.o.k = 4 ∧ ¬ S.hasK l z.o.key ∧ l.length = 60) → S.appE l z.o = 0 ∧ S.appL l z.o = S.applR l z.o (S.idX z.o) hsa.1 := S.appE_ok c1 c2
 obtain ⟨l2, hl2⟩ := ex (S.applR l z.o (S.idX z.o) hsa.1)
 rw [← hl2] at e2 e3 ⊢
 refine run ?_
 refine J.ifd rfl (fun c3 => ?_) (fun c3 => ?_)
 ·have h8 := S.appE_full c1 c2 (e2.1 (by omega))
  refine run ?_
  refine J.nilG rgC 38 51 rgC_len ?_
  exact J.finG (⟨none, 0, 0, []⟩, 18) rfl ⟨Nat.le_refl _, rfl, h8.2.symm, h8.1.symm⟩ (.cons_cons _ (List.nil_sublist _))
 refine run ?_
 have h8 := e3 (fun h => c3 (by have := e2.2 h; omega))
 refine J.fact (.gown rgC 38 51 a' l2.length c' l2) (fun _ _ h => (gown_e h).1.capn) fun hcap => ?_
 exact J.finG (⟨a', l2.length, c', l2⟩, 0) rfl ⟨hcap, rfl, h8.2.symm, h8.1.symm⟩ (.cons_cons _ (List.nil_sublist _))
theorem lwwGet {S0 : Nat → Prop} (a : Option Addr) (n c : Nat) (l : List S.RgV) (k : ByteArray) (w : World) (G : RsR S0 w a n c l) :
  Calls Tryz.prog 19 #[.agg ([.slice a n c] : List Value).toArray, .string k] w (Ret w fun v _ => v = .tuple #[.agg (vlC (S.getR l k)).toArray, .int .i64 (S.getRE l k)]) := by
 have D0 := G.row
 have hl := G.len
 have hn := G.n
 refine J.enter 29 Tryz.func19 rfl rfl ?_
 refine run ?_
 refine J.box rfl rfl rfl fun b1 => ?_
 refine run ?_
 refine J.alloc rfl fun b2 => ?_
 refine run ?_
 refine J.callp rfl rfl (fun w' M => lwwCheck a n c l w' (G.ext M.ext)) ?_
 refine run ?_
 refine J.ifn rfl (fun c1 => ?_) (fun c1 => ?_)
 ·refine run ?_
  exact J.fin (by unfold S.getR S.getRE; rw [if_pos c1, if_pos c1]; rfl)
 have hg := S.chkR_good.1 c1
 have hp := S.has_spK hg.2.2 (k := k)
 refine run ?_
 refine J.callp rfl rfl (fun w' M => findReg a n c l k w' (D0.ext M.ext) hg.2.2 (by omega)) ?_
 refine run ?_
 refine J.ifnot rfl (fun c2 => ?_) (fun c2 => ?_)
 ·have hh := of_decide_eq_false c2
  refine run ?_
  exact J.fin (by unfold S.getR S.getRE; rw [if_neg (not_not_intro c1), if_neg hh, if_neg (not_not_intro c1), if_neg hh]; rfl)
 have hh := of_decide_eq_true c2
 have hlt := (hp.1 hh).1
 have hq := S.rg_at hlt
 refine run ?_
 refine J.fin ?_
 unfold S.getR S.getRE
 rw [if_neg (not_not_intro c1), if_pos hh, if_neg (not_not_intro c1), if_pos hh]
/-- Keys that are listed. -/
structure KqA where
 (n : Nat) (a : Option Addr) (c : Nat)
@[reducible] def ksC (q : LsA ByteArray × Int) : Value := .tuple #[.slice q.1.a q.1.n q.1.c, .int .i64 q.2]
theorem refRSame {S0 S1 : Nat → Prop} (a a2 : Option Addr) (n n2 c c2 : Nat) (l m : List S.RgV) (w : World) (D0 : GRow rgC 38 S0 w a n l) (D1 : GRow rgC 38 S1 w a2 n2 m) (hn : n ≤ 1000) :
  Calls Tryz.prog 20 #[.agg ([.slice a n c] : List Value).toArray, .agg ([.slice a2 n2 c2] : List Value).toArray] w (Ret w fun v _ => v = .bool (decide (l = m))) := by
 have hl := D0.len
 have hm := D1.len
 refine J.enter 29 Tryz.func20 rfl rfl ?_
 refine run ?_
 refine J.box rfl rfl rfl fun b1 => ?_
 refine J.box rfl rfl rfl fun b2 => ?_
 refine run ?_
 refine J.ifn rfl (fun c1 => ?_) (fun c1 => ?_)
 ·refine run ?_
  exact J.fin (congrArg _ (decide_eq_false fun h => c1 (by rw [← hl, ← hm, h])).symm)
 refine run ?_
 refine J.loopS (A := Int) (fun p => [(5, .int .i64 p)]) [4, 13, 14, 15, 16, 17, 18, 19, 20, 21, 22, 23, 24, 25, 26, 27, 28, 29, 30] (fun p => (0 ≤ p ∧ p ≤ n) ∧ ∀ i, i < p.toNat → S.rg l i = S.rg m i) (fun p => n - p.toNat) 0 (by kernel_rfl) ⟨by omega, fun i hi => by omega⟩ (fun p j hI => ?_)
 obtain ⟨h1, hI⟩ := hI
 refine run ?_
 refine J.ifd rfl (fun c3 => ?_) (fun c3 => ?_)
 ·have hq := S.rg_at (l := l) (i := p.toNat) (by omega)
  have hq2 := S.rg_at (l := m) (i := p.toNat) (by omega)
  refine run ?_
  refine J.regionX [(0, .q), (1, .q), (2, .q), (3, .q), (4, .q), (5, .q), (6, .q), (7, .q), (8, .q), (9, .q), (10, .q)] mixed (by kernel_rfl) ?_
  refine run ?_
  refine J.neR rfl rfl rfl (fits_rg _) (fits_rg _) (eq_rg _ _) ?_
  refine run ?_
  refine J.ifd rfl (fun c4 => ?_) (fun c4 => ?_)
  ·refine run ?_
   exact J.fin (congrArg _ (decide_eq_false fun h => c4 (by rw [h])).symm)
  refine run ?_
  refine J.nextS (p + 1) ⟨rfl, trivial⟩ (by kernel_rfl) ⟨by omega, fun i hi => ?_⟩ (by omega)
  rcases Nat.lt_or_ge i p.toNat with e | e
  ·exact hI i e
  obtain rfl : i = p.toNat := by omega
  exact Decidable.not_not.1 c4
 refine run ?_
 refine J.fin (congrArg _ (decide_eq_true ?_).symm)
 refine List.ext_getElem? fun i => ?_
 by_cases hi : i < n
 ·rw [S.rg_at (by omega), S.rg_at (by omega), hI i (by omega)]
 rw [List.getElem?_eq_none (by omega), List.getElem?_eq_none (by omega)]
/-- Registers that come in. -/
structure RsI (S0 : Nat → Prop) (w : World) (a : Option Addr) (n c : Nat) (l : List S.RgV) : Prop where
 row : GRow rgC 38 S0 w a n l
 rng : ∀ x ∈ l, x.rng
 cap : n ≤ c
theorem RsI.ext {S0 : Nat → Prop} {w w' : World} {a : Option Addr} {n c : Nat} {l : List S.RgV} (h : RsI S0 w a n c l) (x : Ext w w') : RsI S0 w' a n c l := ⟨h.row.ext x, h.rng, h.cap⟩
def RsSm (n : Nat) (l : List S.RgV) : Prop := n ≤ 100 ∧ ∀ x ∈ l, x.key.size ≤ 100 ∧ x.t.size ≤ 100
theorem RsI.rs {S0 : Nat → Prop} {w : World} {a : Option Addr} {n c : Nat} {l : List S.RgV} (h : RsI S0 w a n c l) (hs : RsSm n l) : RsR S0 w a n c l := ⟨h.row, fun x hx => ⟨h.rng x hx, (hs.2 x hx).1, (hs.2 x hx).2⟩, h.cap, hs.1⟩
end Go.Proofs.YtimdoffpnjdmmaaGreatDoor.W
namespace Go.Proofs.YtimdoffpnjdmmaaGreatDoor.W
open Go.RowKit Go.Proofs.YtimdoffpnjdmmaaGreatDoor.G
set_option linter.unusedVariables false
set_option linter.unusedSimpArgs false
set_option maxRecDepth 20000
set_option maxHeartbeats 8000000
attribute [local irreducible] RS RX RY Code.wp bodyPost J Ent.blk Ent.irow Ent.iown Ent.wrow Ent.wown Ent.grow Ent.gown Ent.all Ent.emp
instance : Ents Tryz.prog 17 := ⟨.mk Tryz.func17 (by kernel_rfl) rfl⟩
instance : Ents Tryz.prog 36 := ⟨.mk Tryz.func36 (by kernel_rfl) rfl⟩
instance : Ents Tryz.prog 69 := ⟨.mk Tryz.func69 (by kernel_rfl) rfl⟩
instance : Fld Tryz.prog 29 3 3 := ⟨_, _, 1, Tryz.underlying29, rfl, by kernel_rfl, by decide, rfl⟩
end Go.Proofs.YtimdoffpnjdmmaaGreatDoor.W
namespace Go.Proofs.YtimdoffpnjdmmaaGreatDoor.L
open Go Go.Proofs.YtimdoffpnjdmmaaGreatDoor Go.Proofs.YtimdoffpnjdmmaaGreatDoor.G Go.Proofs.YtimdoffpnjdmmaaGreatDoor.W
open Go.ChangeShapes Go.WideShapes Go.ChangeAt Go.RowKit
set_option linter.unusedVariables false
set_option maxRecDepth 100000
theorem z_int : Tryz.prog.cellsOf 3 = 1 := by kernel_rfl
section
variable {H : Type} {enc : TypeId × Value → H} {w : World} {base : Nat} {sp : Nat → Bool} {held : Bool} {fuel : Nat} {cs : List Value} {x : DataW H × List MemPlace}
theorem intsS_in (h : DataW.trod enc Tryz.prog w base sp held fuel 73 cs = some x) : ∃ a n c zs, cs = [.slice a n c] ∧ n ≤ c ∧ GRow inC 1 (fun _ => True) w a n zs := by
  obtain ⟨a, n, c, zs, h1, h2, h3, _⟩ := grow_in inC (fun _ => True) 0 (fun _ => rfl) Tryz.underlying73 z_int (by decide) (fun m ds y hd => by
    obtain ⟨q, h1, _⟩ := int_in Tryz.underlying3 hd
    exact ⟨q, h1, trivial⟩) h
  exact ⟨a, n, c, zs, h1, h2, h3⟩
end
section
variable {H : Type} {enc : TypeId × Value → H} {w : World} {base : Nat} {sp : Nat → Bool} {held : Bool} {fuel : Nat} {cs : List Value} {x : DataW H × List MemPlace}
end
end Go.Proofs.YtimdoffpnjdmmaaGreatDoor.L
namespace Go.Proofs.YtimdoffpnjdmmaaGreatDoor.S
open G
set_option linter.unusedVariables false
/-- An operation that sets k. -/
def mkO (st n : Int) : OpV := ⟨0, st, 4, 1, n, 0, 0, 0, 0, [], ⟨#[107]⟩, .empty⟩
theorem mkO_ok {st n : Int} (hs : 0 ≤ st ∧ st < 18446744073709551616) (hn : -9223372036854775808 ≤ n ∧ n ≤ 9223372036854775807) : (mkO st n).ok :=
  ⟨(by decide : (0 : Int) ≤ 0 ∧ (0 : Int) < 4294967296), hs, (by decide : (0 : Int) ≤ 4 ∧ (4 : Int) < 256), (by decide : (0 : Int) ≤ 1 ∧ (1 : Int) < 256), hn, (by decide : (0 : Int) ≤ 0 ∧ (0 : Int) < 18446744073709551616), (by decide : (0 : Int) ≤ 0 ∧ (0 : Int) < 4294967296), (by decide : (0 : Int) ≤ 0 ∧ (0 : Int) < 4294967296), (by decide : (0 : Nat) ≤ 40), (by decide : (ByteArray.mk #[107]).size ≤ 100), (by decide : ByteArray.empty.size ≤ 100)⟩
theorem key_k : KeyOk ⟨#[107]⟩ := by decide +kernel
theorem mkO_sign {st n : Int} (hs : st ≤ 1000000000000) : signE 5 (mkO st n) = 0 :=
  signE_zero.2 ⟨by decide, check_zero.2 ⟨(by decide : (0 : Nat) ≤ 4), rising_nil, isG_pub 5 (by decide), hs, (by decide : (0 : Int) < 500000003), (by decide : (0 : Int) < 500000003), .inr (.inr ⟨rfl, key_k, .inl ⟨rfl, rfl, rfl⟩⟩)⟩⟩
def mdO (st n : Int) : OpV := signS 5 (mkO st n)
theorem mdO_all {st n : Int} (h0 : 0 ≤ st) (hs : st ≤ 1000000000000) (hn : -9223372036854775808 ≤ n ∧ n ≤ 9223372036854775807) :
    (mdO st n).ok ∧ checkE (mdO st n) = 0 ∧ (mdO st n).k = 4 ∧ (mdO st n).key = ⟨#[107]⟩ ∧ (mdO st n).vk = 1 ∧ (mdO st n).num = n ∧ (mdO st n).bits = 0 ∧ (mdO st n).t = .empty ∧ (mdO st n).st = st ∧ (mdO st n).n = 0 ∧ (mdO st n).ids = [] := by
  have ho := mkO_ok (st := st) (n := n) ⟨h0, by omega⟩ hn
  have hz := mkO_sign (st := st) (n := n) hs
  have e := signS_eq hz
  refine ⟨signS_ok _ _ ho, (sign_good ho rfl hz).2.2.1, ?_⟩
  unfold mdO
  rw [e]
  exact ⟨rfl, rfl, rfl, rfl, rfl, rfl, rfl, rfl, rfl⟩
theorem put_nil (x : RgV) : putR [] x = [x] := by
  rw [put_ins (by rintro ⟨_, h, _⟩; cases h)]
  simp
theorem has_one {y : RgV} {k : ByteArray} : hasK [y] k ↔ y.key = k := ⟨fun ⟨x, h, e⟩ => by rw [List.mem_singleton] at h; subst h; exact e, fun h => ⟨y, List.mem_singleton.2 rfl, h⟩⟩
theorem sp_one (y : RgV) : spK [y] y.key = 0 := spK_eq (Nat.zero_le _) (fun i hi => by omega) fun _ => by show 0 ≤ kc y.key y.key; rw [kc_self]; exact Int.le_refl _
theorem put_one {x y : RgV} (h : y.key = x.key) : putR [y] x = if lateR x.st x.id y then [x] else [y] := by
  unfold putR
  rw [if_pos (has_one.2 h), ← h, sp_one]
  rfl
theorem get_one {y : RgV} (hg : goodR [y]) : getR [y] y.key = y ∧ getRE [y] y.key = 0 := by
  unfold getR getRE
  rw [if_neg (not_not_intro (chkR_good.2 hg)), if_pos (has_one.2 rfl), if_neg (not_not_intro (chkR_good.2 hg)), if_pos (has_one.2 rfl), sp_one]
  exact ⟨rfl, rfl⟩
theorem get_none {y : RgV} {k : ByteArray} (hg : goodR [y]) (hk : y.key ≠ k) : getRE [y] k = 6 := by
  unfold getRE
  rw [if_neg (not_not_intro (chkR_good.2 hg)), if_neg (fun h => hk (has_one.1 h))]
theorem goodR_nil : goodR [] := ⟨by decide, fun x h => (by cases h), List.Pairwise.nil⟩
theorem goodR_one {x : RgV} (h : x.fine) : goodR [x] := by
  have := goodR_put goodR_nil h (.inr (by decide))
  rwa [put_nil] at this
theorem app_nil {o : OpV} (h : checkE o = 0) (h4 : o.k = 4) : appE [] o = 0 ∧ appL [] o = [opR o] := by
  have e : appE [] o = 0 := appE_zero.2 ⟨chkR_good.2 goodR_nil, h, fun hh => absurd hh.2.2 (by decide)⟩
  exact ⟨e, by rw [appL_zero e, if_pos h4, put_nil]⟩
theorem app_one {o p : OpV} (h : checkE o = 0) (h4 : o.k = 4) (hp : checkE p = 0) (p4 : p.k = 4) (hk : p.key = o.key) : appE [opR p] o = 0 ∧ appL [opR p] o = if lateR o.st (idX o) (opR p) then [opR o] else [opR p] := by
  have e : appE [opR p] o = 0 := appE_zero.2 ⟨chkR_good.2 (goodR_one (opR_fine hp p4)), h, fun hh => absurd hh.2.2 (by simp)⟩
  exact ⟨e, by rw [appL_zero e, if_pos h4, put_one (show (opR p).key = (opR o).key from hk)]; rfl⟩
end Go.Proofs.YtimdoffpnjdmmaaGreatDoor.S
namespace Go.Proofs.YtimdoffpnjdmmaaGreatDoor.W
open Go.RowKit Go.Proofs.YtimdoffpnjdmmaaGreatDoor.G
set_option linter.unusedVariables false
section
variable {S0 : Nat → Prop} {w0 : World} {L : List Ent} {P : Program} {Q : Exit → Act → World → Prop} {c y : Code} {l : List Value} {X : World → Prop} {e1 e2 : Ent}
theorem J.joinX {A : Type} (M : A → List (Nat × Value)) (Jk : List Nat) (Lp : A → List Ent) (I : A → Prop) {l' : A → (Nat → Value) → List Value} (h : J S0 w0 L (c.wp P (Exit.then (Cut l M Jk (fun p w => Mem S0 w0 (Lp p) w ∧ I p)) Q) (fr l)))
    (k : ∀ p j, I p → J S0 w0 (Lp p) (y.wp P Q (fr (l' p j)))) (hl : ∀ p j, upd (upd l (M p)) (junk Jk j) = l' p j := by intro p j; simp only [upd, junk, List.map_cons, List.map_nil, List.set_cons_succ, List.set_cons_zero]; exact rfl) : J S0 w0 L (c.wp P (Exit.then (y.wp P Q) Q) (fr l)) := fun w Mm => by
  refine wp_mono (h w Mm) fun e a w hq => ?_
  cases e with
  | normal =>
    have hq : Cut l M Jk (fun p w => Mem S0 w0 (Lp p) w ∧ I p) a w := hq
    unfold Cut at hq
    obtain ⟨p', j', rfl, h1, h2⟩ := hq
    show y.wp P Q _ w
    rw [hl]
    exact k p' j' h2 w h1
  | _ => exact hq
theorem J.swap (h : J S0 w0 (e2 :: e1 :: L) X) : J S0 w0 (e1 :: e2 :: L) X := fun w M => h w ⟨M.pr, by
  obtain ⟨S1, T1, a1, a2, a3, a4, S2, T2, b1, b2, b3, b4, b5⟩ := M.sep
  exact ⟨S2, fun b => S1 b ∨ T2 b, fun b hb => a2 b (b1 b hb), fun b hb => hb.elim (a1 b) (fun k => a2 b (b2 b k)), fun b hb hc => hc.elim (fun k => a3 b k (b1 b hb)) (b3 b hb), b4, S1, T2, fun b hb => .inl hb, fun b hb => .inr hb, fun b hb hc => a3 b hb (b2 b hc), a4, b5⟩⟩
end
theorem GRow.nil' {α : Type} {f : α → List Value} {sz : Nat} {S : Nat → Prop} {w : World} (hf : ∀ x, (f x).length = sz) : GRow f sz S w none 0 [] := ⟨.inl rfl, rfl, hf⟩
end Go.Proofs.YtimdoffpnjdmmaaGreatDoor.W
namespace Go.Proofs.YtimdoffpnjdmmaaGreatDoor.W
open Go.RowKit Go.Proofs.YtimdoffpnjdmmaaGreatDoor.G
set_option linter.unusedVariables false
set_option linter.unusedSimpArgs false
set_option maxRecDepth 20000
set_option maxHeartbeats 8000000
attribute [local irreducible] RS RX RY Code.wp bodyPost J Ent.blk Ent.irow Ent.iown Ent.wrow Ent.wown Ent.grow Ent.gown Ent.all Ent.emp
instance : Ents Tryz.prog 47 := ⟨.mk Tryz.func47 (by kernel_rfl) rfl⟩
instance : SInf Tryz.prog 35 [(0, 1), (1, 1), (2, 1), (3, 6), (9, 2)] := ⟨_, Tryz.underlying35, by kernel_rfl, by kernel_rfl⟩
instance : Ents Tryz.prog 86 := ⟨.mk Tryz.func86 (by kernel_rfl) rfl⟩
instance : Ents Tryz.prog 48 := ⟨.mk Tryz.func48 (by kernel_rfl) rfl⟩
instance : Ents Tryz.prog 26 := ⟨.mk Tryz.func26 (by kernel_rfl) rfl⟩
instance : Ents Tryz.prog 18 := ⟨.mk Tryz.func18 (by kernel_rfl) rfl⟩
instance : Ents Tryz.prog 19 := ⟨.mk Tryz.func19 (by kernel_rfl) rfl⟩
theorem signRG (x : Int) (hx : 0 ≤ x ∧ x < 4294967296) {S0 : Nat → Prop} (z : OpA) (w : World) (R : OpR S0 w z) :
  Calls Tryz.prog 86 #[.int .u32 x, .agg (opC z).toArray] w (Gv w (fun q : OpA × Int => .tuple #[.agg (opC q.1).toArray, .int .i64 q.2]) (fun q => [.wrow .u8 32 q.1.pa q.1.o.n q.1.o.ids]) fun q => q.1.o.n ≤ q.1.pc ∧ q.1.o = S.signS x z.o ∧ q.2 = S.signE x z.o) :=
 Gv.of (signOR x hx z.o R.ok _ _ w R.row R.cap) fun v w' _ ⟨a', c', hv, hc, W⟩ => ⟨(⟨S.signS x z.o, a', c'⟩, S.signE x z.o), hv, ⟨hc, rfl, rfl⟩, sep1 (show (Ent.wrow .u8 32 a' (S.signS x z.o).n (S.signS x z.o).ids).ok _ _ by unfold Ent.wrow; exact W)⟩
theorem fits_val (a b c : Int) (t : ByteArray) : FitsT Tryz.prog 9 29 [.int .u8 a, .int .i64 b, .int .u64 c, .string t] = true := by kernel_rfl
theorem lawNumber (n : Int) (w : World) : Calls Tryz.prog 47 #[.int .i64 n] w (Ret w fun v _ => v = .agg #[.int .u8 1, .int .i64 n, .int .u64 0, .string .empty]) := by
 refine J.enter 4 Tryz.func47 rfl rfl ?_
 refine run ?_
 refine J.alloc rfl fun b1 => ?_
 refine run ?_
 exact J.fin rfl
theorem lawMade (st n : Int) (hs : 0 ≤ st ∧ st < 18446744073709551616) (hn : -9223372036854775808 ≤ n ∧ n ≤ 9223372036854775807) (w : World) :
  Calls Tryz.prog 48 #[.int .u64 st, .int .i64 n] w (Gv w (fun q : OpA => .agg (opC q).toArray) (fun q => [.wrow .u8 32 q.pa q.o.n q.o.ids]) fun q => q.o.n ≤ q.pc ∧ q.o = S.mdO st n) := by
 refine J.enter 15 Tryz.func48 rfl rfl ?_
 refine run ?_
 refine J.alloc rfl fun b1 => ?_
 refine run ?_
 refine J.callp rfl rfl (fun w' M => lawNumber n w') ?_
 refine run ?_
 refine J.call rfl rfl (fun w' M => signRG 5 (by decide) (S0 := no) ⟨S.mkO st n, none, 0⟩ w' ⟨S.mkO_ok hs hn, WRow.nil, Nat.le_refl _⟩) fun q hq => ?_
 refine run ?_
 refine J.alloc rfl fun b2 => ?_
 refine run ?_
 exact J.finG q.1 rfl ⟨hq.1, hq.2.1⟩ (by repeat (first | exact List.nil_sublist _ | refine List.Sublist.cons_cons _ ?_ | refine List.Sublist.cons _ ?_))
theorem lwwAlive (TK : TypeId) (w : World) (K0 : Kst w TK) : Calls Tryz.prog 13 #[] w (Ret w fun v _ => v = .bool true) := by
 have m1 := S.mdO_all (st := 5) (n := 1) (by decide) (by decide) (by decide)
 have m2 := S.mdO_all (st := 4) (n := 2) (by decide) (by decide) (by decide)
 refine J.enter 94 Tryz.func13 rfl rfl ?_
 refine run ?_
 refine J.call rfl rfl (fun w' M => lawMade 5 1 (by decide) (by decide) w') fun z1 hz1 => ?_
 refine J.call rfl rfl (fun w' M => lawMade 4 2 (by decide) (by decide) w') fun z2 hz2 => ?_
 refine J.alloc rfl fun b1 => ?_
 refine J.alloc rfl fun b2 => ?_
 obtain ⟨c1, e1⟩ := hz1
 obtain ⟨c2, e2⟩ := hz2
 rw [← e1] at m1
 rw [← e2] at m2
 have a1 := S.app_nil m1.2.1 m1.2.2.1
 have a2 := S.app_nil m2.2.1 m2.2.2.1
 have a3 := S.app_one m2.2.1 m2.2.2.1 m1.2.1 m1.2.2.1 (by rw [m1.2.2.2.1, m2.2.2.2.1])
 have a4 := S.app_one m1.2.1 m1.2.2.1 m2.2.1 m2.2.2.1 (by rw [m1.2.2.2.1, m2.2.2.2.1])
 rw [if_neg (fun h => by have h1 : (S.opR z1.o).st = 5 := m1.2.2.2.2.2.2.2.2.1; have h2 := m2.2.2.2.2.2.2.2.2.1; unfold S.lateR at h; omega)] at a3
 rw [if_pos (.inl (by have h1 : (S.opR z2.o).st = 4 := m2.2.2.2.2.2.2.2.2.1; have h2 := m1.2.2.2.2.2.2.2.2.1; omega))] at a4
 have hg := S.goodR_one (S.opR_fine m1.2.1 m1.2.2.1)
 have hk : (S.opR z1.o).key = ⟨#[107]⟩ := m1.2.2.2.1
 have g1 := S.get_one hg
 have g2 := S.get_none (k := ⟨#[122]⟩) hg (by rw [hk]; decide)
 rw [hk] at g1
 have hv : vlC (S.opR z1.o) = [.int .u8 1, .int .i64 1, .int .u64 0, .string .empty] := by
  show [Value.int .u8 z1.o.vk, .int .i64 z1.o.num, .int .u64 z1.o.bits, .string z1.o.t] = _
  rw [m1.2.2.2.2.1, m1.2.2.2.2.2.1, m1.2.2.2.2.2.2.1, m1.2.2.2.2.2.2.2.1]
 have hok1 : ∀ x ∈ [S.opR z1.o], x.ok := by
  have := S.appL_ok (l := []) (fun _ h => by cases h) m1.1
  rwa [a1.2] at this
 have hok2 : ∀ x ∈ [S.opR z2.o], x.ok := by
  have := S.appL_ok (l := []) (fun _ h => by cases h) m2.1
  rwa [a2.2] at this
 refine run ?_
 refine J.joinX (A := (LsA S.RgV × Int) × Nat) (fun p => [(3, .pointer (some ⟨p.2, 0, none⟩)), (4, .int .i64 p.1.2)]) [19, 20, 21, 22, 23, 24] (fun p => .blk p.2 [.slice p.1.1.a p.1.1.n p.1.1.c] 24 :: .gown rgC 38 51 p.1.1.a p.1.1.n p.1.1.c p.1.1.l :: [.blk b2 (opC z2) 35, .blk b1 (opC z1) 35, .wrow .u8 32 z2.pa z2.o.n z2.o.ids, .wrow .u8 32 z1.pa z1.o.n z1.o.ids]) (fun p => rsP (S.appL [] z1.o) (S.appE [] z1.o) p.1) ?_ (fun p j hI => ?_)
 ·refine J.regionT [.blk b1 (opC z1) 35] (.br [(1, .q)] 0 (.br [] 2 (.fin [(3, .q), (4, .q), (5, .q), (6, .e), (7, .e), (8, .q)]) 6 (.fin [(2, .e), (3, .q), (4, .q), (5, .q), (7, .e), (8, .q)])) 6 (.fin [(0, .e), (2, .e), (3, .q), (4, .q), (5, .q), (7, .e), (8, .q)])) mixed (by kernel_rfl) (by repeat (first | exact List.Sublist.refl _ | refine List.Sublist.cons_cons _ ?_ | refine List.Sublist.cons _ ?_)) ?_
  refine run ?_
  refine J.nil (J.kt ?_ ?_)
  ·refine J.callp rfl rfl (fun w' M => lwwNew w') ?_
   refine J.nil (J.kr (J.tbr (J.nil (J.kt ?_ ?_))))
   ·refine J.call rfl rfl (fun w' M => (RW.row' (a := z1.pa) w' M).elim fun _ k1 => lwwApply (S0 := no) none 0 0 [] z1 TK w' (K0.ext M.ext) ⟨GRow.nil' rgC_len, (fun _ h => by cases h), Nat.le_refl _, by decide⟩ ⟨m1.1, k1, c1⟩) fun q hq => ?_
    refine run ?_
    refine J.alloc rfl fun b => ?_
    refine run ?_
    exact J.cut (q, b) ⟨rfl, rfl, trivial⟩ (by kernel_rfl) hq
   refine J.alloc rfl fun b => ?_
   refine run ?_
   refine J.call rfl rfl (fun w' M => (RW.row' (a := z1.pa) w' M).elim fun _ k1 => lwwApply (S0 := no) none 0 0 [] z1 TK w' (K0.ext M.ext) ⟨GRow.nil' rgC_len, (fun _ h => by cases h), Nat.le_refl _, by decide⟩ ⟨m1.1, k1, c1⟩) fun q hq => ?_
   refine run ?_
   refine J.swap ?_
   exact J.cut (q, b) ⟨rfl, rfl, trivial⟩ (by kernel_rfl) hq
  refine J.alloc rfl fun b => ?_
  refine run ?_
  refine J.callp rfl rfl (fun w' M => lwwNew w') ?_
  refine J.call rfl rfl (fun w' M => (RW.row' (a := z1.pa) w' M).elim fun _ k1 => lwwApply (S0 := no) none 0 0 [] z1 TK w' (K0.ext M.ext) ⟨GRow.nil' rgC_len, (fun _ h => by cases h), Nat.le_refl _, by decide⟩ ⟨m1.1, k1, c1⟩) fun q hq => ?_
  refine run ?_
  refine J.swap ?_
  exact J.cut (q, b) ⟨rfl, rfl, trivial⟩ (by kernel_rfl) hq
 obtain ⟨⟨⟨xa, xn, xc, xl⟩, xe⟩, bx⟩ := p
 obtain ⟨hx1, hx2, hx3, hx4⟩ := hI
 dsimp only at hx1 hx2 hx3 hx4 ⊢
 obtain rfl : xl = [S.opR z1.o] := hx3.trans a1.2
 obtain rfl : xe = 0 := hx4.trans a1.1
 obtain rfl : xn = 1 := hx2
 refine run ?_
 refine J.call rfl rfl (fun w' M => (RG.own' (a := xa) w' M).elim fun _ k0 => (RW.row' (a := z2.pa) w' M).elim fun _ k1 => lwwApply _ _ _ _ z2 TK w' (K0.ext M.ext) ⟨k0, hok1, hx1, by decide⟩ ⟨m2.1, k1, c2⟩) fun q hq => ?_
 obtain ⟨⟨ya, yn, yc, yl⟩, ye⟩ := q
 obtain ⟨hy1, hy2, hy3, hy4⟩ := hq
 dsimp only at hy1 hy2 hy3 hy4 ⊢
 obtain rfl : yl = [S.opR z1.o] := hy3.trans a3.2
 obtain rfl : ye = 0 := hy4.trans a3.1
 obtain rfl : yn = 1 := hy2
 refine run ?_
 refine J.alloc rfl fun by_ => ?_
 refine run ?_
 refine J.joinX (A := (LsA S.RgV × Int) × Nat) (fun p => [(7, .pointer (some ⟨p.2, 0, none⟩)), (8, .int .i64 p.1.2)]) [31, 32, 33, 34, 35, 36] (fun p => .blk p.2 [.slice p.1.1.a p.1.1.n p.1.1.c] 24 :: .gown rgC 38 51 p.1.1.a p.1.1.n p.1.1.c p.1.1.l :: [.blk by_ [.slice ya 1 yc] 24, .gown rgC 38 51 ya 1 yc [S.opR z1.o], .blk b2 (opC z2) 35, .blk b1 (opC z1) 35, .wrow .u8 32 z2.pa z2.o.n z2.o.ids, .wrow .u8 32 z1.pa z1.o.n z1.o.ids]) (fun p => rsP (S.appL [] z2.o) (S.appE [] z2.o) p.1) ?_ (fun p j hI => ?_)
 ·refine J.regionT [.blk b2 (opC z2) 35] (.br [(1, .q)] 0 (.br [] 2 (.fin [(3, .q), (4, .q), (5, .q), (6, .e), (7, .e), (8, .q)]) 6 (.fin [(2, .e), (3, .q), (4, .q), (5, .q), (7, .e), (8, .q)])) 6 (.fin [(0, .e), (2, .e), (3, .q), (4, .q), (5, .q), (7, .e), (8, .q)])) mixed (by kernel_rfl) (by repeat (first | exact List.Sublist.refl _ | refine List.Sublist.cons_cons _ ?_ | refine List.Sublist.cons _ ?_)) ?_
  refine run ?_
  refine J.nil (J.kt ?_ ?_)
  ·refine J.callp rfl rfl (fun w' M => lwwNew w') ?_
   refine J.nil (J.kr (J.tbr (J.nil (J.kt ?_ ?_))))
   ·refine J.call rfl rfl (fun w' M => (RW.row' (a := z2.pa) w' M).elim fun _ k1 => lwwApply (S0 := no) none 0 0 [] z2 TK w' (K0.ext M.ext) ⟨GRow.nil' rgC_len, (fun _ h => by cases h), Nat.le_refl _, by decide⟩ ⟨m2.1, k1, c2⟩) fun q hq => ?_
    refine run ?_
    refine J.alloc rfl fun b => ?_
    refine run ?_
    exact J.cut (q, b) ⟨rfl, rfl, trivial⟩ (by kernel_rfl) hq
   refine J.alloc rfl fun b => ?_
   refine run ?_
   refine J.call rfl rfl (fun w' M => (RW.row' (a := z2.pa) w' M).elim fun _ k1 => lwwApply (S0 := no) none 0 0 [] z2 TK w' (K0.ext M.ext) ⟨GRow.nil' rgC_len, (fun _ h => by cases h), Nat.le_refl _, by decide⟩ ⟨m2.1, k1, c2⟩) fun q hq => ?_
   refine run ?_
   refine J.swap ?_
   exact J.cut (q, b) ⟨rfl, rfl, trivial⟩ (by kernel_rfl) hq
  refine J.alloc rfl fun b => ?_
  refine run ?_
  refine J.callp rfl rfl (fun w' M => lwwNew w') ?_
  refine J.call rfl rfl (fun w' M => (RW.row' (a := z2.pa) w' M).elim fun _ k1 => lwwApply (S0 := no) none 0 0 [] z2 TK w' (K0.ext M.ext) ⟨GRow.nil' rgC_len, (fun _ h => by cases h), Nat.le_refl _, by decide⟩ ⟨m2.1, k1, c2⟩) fun q hq => ?_
  refine run ?_
  refine J.swap ?_
  exact J.cut (q, b) ⟨rfl, rfl, trivial⟩ (by kernel_rfl) hq
 obtain ⟨⟨⟨ua, un, uc, ul⟩, ue⟩, bu⟩ := p
 obtain ⟨hu1, hu2, hu3, hu4⟩ := hI
 dsimp only at hu1 hu2 hu3 hu4 ⊢
 obtain rfl : ul = [S.opR z2.o] := hu3.trans a2.2
 obtain rfl : ue = 0 := hu4.trans a2.1
 obtain rfl : un = 1 := hu2
 refine run ?_
 refine J.call rfl rfl (fun w' M => (RG.own' (a := ua) w' M).elim fun _ k0 => (RW.row' (a := z1.pa) w' M).elim fun _ k1 => lwwApply _ _ _ _ z1 TK w' (K0.ext M.ext) ⟨k0, hok2, hu1, by decide⟩ ⟨m1.1, k1, c1⟩) fun q hq => ?_
 obtain ⟨⟨va, vn, vc, vl⟩, ve⟩ := q
 obtain ⟨hv1, hv2, hv3, hv4⟩ := hq
 dsimp only at hv1 hv2 hv3 hv4 ⊢
 obtain rfl : vl = [S.opR z1.o] := hv3.trans a4.2
 obtain rfl : ve = 0 := hv4.trans a4.1
 obtain rfl : vn = 1 := hv2
 refine run ?_
 refine J.alloc rfl fun bv => ?_
 refine run ?_
 refine J.callp rfl rfl (fun w' M => (RG.own' (a := ya) w' M).elim fun _ k0 => by have h := lwwGet ya 1 yc _ ⟨#[107]⟩ w' ⟨k0, hok1, hy1, by decide⟩; rw [g1.1, g1.2, hv] at h; exact h) ?_
 refine run ?_
 refine J.alloc rfl fun b8 => ?_
 refine run ?_
 refine J.callp rfl rfl (fun w' M => (RG.own' (a := va) w' M).elim fun _ k0 => by have h := lwwGet va 1 vc _ ⟨#[107]⟩ w' ⟨k0, hok1, hv1, by decide⟩; rw [g1.1, g1.2, hv] at h; exact h) ?_
 refine run ?_
 refine J.alloc rfl fun b9 => ?_
 refine run ?_
 refine J.callp rfl rfl (fun w' M => (RG.own' (a := va) w' M).elim fun _ k0 => by have h := lwwGet va 1 vc _ ⟨#[122]⟩ w' ⟨k0, hok1, hv1, by decide⟩; rw [g2] at h; exact h) ?_
 refine run ?_
 refine J.alloc rfl fun b10 => ?_
 refine run ?_
 refine J.regionX [(0, .q), (1, .q), (2, .q), (3, .q), (4, .q), (5, .q), (6, .q), (7, .q), (8, .q), (9, .q), (10, .q), (11, .q), (12, .q), (13, .q), (14, .q), (15, .q), (16, .q), (17, .q), (18, .q), (19, .q), (20, .q), (21, .q), (22, .q), (23, .q), (24, .q), (25, .q), (26, .q), (27, .q), (28, .e), (29, .q), (30, .q), (31, .q), (32, .q), (33, .e), (34, .q), (35, .q), (36, .q)] mixed (by kernel_rfl) ?_
 refine run ?_
 refine J.callp rfl rfl (fun w' M => lawNumber 1 w') ?_
 refine run ?_
 refine J.eqR rfl rfl rfl (fits_val _ _ _ _) (fits_val _ _ _ _) (S.eqV _ _ _ _ _ _ _ _) ?_
 refine run ?_
 refine J.callp rfl rfl (fun w' M => lawNumber 1 w') ?_
 refine run ?_
 refine J.eqR rfl rfl rfl (fits_val _ _ _ _) (fits_val _ _ _ _) (S.eqV _ _ _ _ _ _ _ _) ?_
 refine run ?_
 exact J.fin rfl
end Go.Proofs.YtimdoffpnjdmmaaGreatDoor.W
namespace Go.Proofs.YtimdoffpnjdmmaaGreatDoor.S
open G
set_option linter.unusedVariables false
noncomputable def ofG (m : Nat) (ids : List Int) (ops : List OpV) : List RgV := if chkG m ids ops ≠ 0 then [] else ofL ids ops (List.range ops.length)
theorem ofG_ok {m : Nat} {ids : List Int} {ops : List OpV} (h : chkG m ids ops = 0) : ofG m ids ops = ofL ids ops (List.range ops.length) := if_neg (not_not_intro h)
theorem ofG_bad {m : Nat} {ids : List Int} {ops : List OpV} (h : chkG m ids ops ≠ 0) : ofG m ids ops = [] := if_pos h
theorem ofL_range (ids : List Int) (ops : List OpV) (i : Nat) : ofL ids ops (List.range (i + 1)) = stepI ids ops (ofL ids ops (List.range i)) i := by rw [List.range_succ, ofL_snoc]
theorem step_app {ids : List Int} {ops : List OpV} {l : List RgV} {i : Nat} {o : OpV} (ho : ops.getD i OpV.zero = o) (h : (idAt ids i).length = 32) : applR l o (idAt ids i) h = stepI ids ops l i := by
  subst ho
  unfold applR stepI
  rw [regI_eq h]
  rfl
theorem ofL_range_len (ids : List Int) (ops : List OpV) (i : Nat) : (ofL ids ops (List.range i)).length ≤ i := by
  have := ofL_len ids ops (List.range i)
  rwa [List.length_range] at this
theorem one_range {m : Nat} {ids : List Int} {ops : List OpV} (hr : Rising m ids) (hl : ids.length = 32 * m) : OneI ids ops (List.range m) := one_rising hr hl fun j hj => List.mem_range.1 hj
open Classical in
theorem ofL_ok {ids : List Int} {ops : List OpV} {js : List Nat} (ho : ∀ i ∈ js, (regI ids ops i).ok) : ∀ x ∈ ofL ids ops js, x.ok := by
  suffices H : ∀ (js : List Nat) (l : List RgV), SortK l → (∀ i ∈ js, (regI ids ops i).ok) → (∀ x ∈ l, x.ok) → ∀ x ∈ js.foldl (stepI ids ops) l, x.ok from H js [] List.Pairwise.nil ho fun x h => by cases h
  intro js
  induction js with
  | nil => intro l _ _ h; exact h
  | cons j js ih =>
    intro l hs ho h
    refine ih _ ?_ (fun i hi => ho i (List.mem_cons_of_mem _ hi)) ?_
    · unfold stepI; split
      · exact put_sort hs _
      · exact hs
    · unfold stepI; split
      · exact put_ok h hs (ho j (List.mem_cons_self ..))
      · exact h
theorem regI_ok {ids : List Int} {ops : List OpV} {m i : Nat} (ho : (ops.getD i OpV.zero).ok) (hb : Bd .u8 ids) (hl : ids.length = 32 * m) (hi : i < m) : (regI ids ops i).ok := by
  have h := idAt_len ids i m hl hi
  rw [regI_eq h]
  exact ⟨⟨ho.vk, ho.num, ho.bits, ho.st, fun x hx => hb x (List.mem_of_mem_drop (List.mem_of_mem_take hx))⟩, ho.key, ho.t⟩
end Go.Proofs.YtimdoffpnjdmmaaGreatDoor.S
namespace Go.Proofs.YtimdoffpnjdmmaaGreatDoor.W
open Go.RowKit Go.Proofs.YtimdoffpnjdmmaaGreatDoor.G
set_option linter.unusedVariables false
set_option linter.unusedSimpArgs false
set_option maxRecDepth 20000
set_option maxHeartbeats 8000000
attribute [local irreducible] RS RX RY Code.wp bodyPost J Ent.blk Ent.irow Ent.iown Ent.wrow Ent.wown Ent.grow Ent.gown Ent.all Ent.emp
instance : Siz Tryz.prog 22 1 := ⟨by kernel_rfl⟩
instance : Ents Tryz.prog 34 := ⟨.mk Tryz.func34 (by kernel_rfl) rfl⟩
theorem GrR.zok {S0 : Nat → Prop} {w : World} {g : GrA} (h : GrR S0 w g) (i : Nat) : (g.ops.getD i S.OpV.zero).ok := by
 rw [List.getD_eq_getElem?_getD]
 cases h1 : g.ops[i]? with
 | none => constructor <;> decide
 | some o =>
  unfold GrA.ops at h1
  rw [List.getElem?_map] at h1
  obtain ⟨z, hz, rfl⟩ := Option.map_eq_some_iff.1 h1
  exact h.ok z (List.mem_of_getElem? hz)
theorem GrR.rok {S0 : Nat → Prop} {w : World} {g : GrA} (h : GrR S0 w g) {n : Nat} (hn : n ≤ g.m) : ∀ x ∈ S.ofL g.ids g.ops (List.range n), x.ok :=
 S.ofL_ok fun i hi => S.regI_ok (h.zok i) h.ids.bd h.ids.len (by have := List.mem_range.1 hi; omega)
theorem lwwOf {S0 : Nat → Prop} (g : GrA) (TK : TypeId) (w : World) (K0 : Kst w TK) (G : GrR S0 w g) :
  Calls Tryz.prog 31 #[.agg (grC g).toArray] w (Gv w rsC rsE (rsP (S.ofG g.m g.ids g.ops) (S.chkG g.m g.ids g.ops))) := by
 have D0 := G.ids
 have G0 := G.ops
 have hl := G.len
 have hcp := G.cap
 have hlen := D0.len
 refine J.enter 33 Tryz.func31 rfl rfl ?_
 refine run ?_
 refine J.box rfl rfl rfl fun b1 => ?_
 refine J.alloc rfl fun b2 => ?_
 refine run ?_
 refine J.callp rfl rfl (fun w' M => dagCheck g TK w' (K0.ext M.ext) (G.ext M.ext)) ?_
 refine run ?_
 refine J.ifn rfl (fun c1 => ?_) (fun c1 => ?_)
 ·have h8 := c1
  refine run ?_
  refine J.nilG rgC 38 51 rgC_len ?_
  exact J.finG (⟨none, 0, 0, []⟩, S.chkG g.m g.ids g.ops) rfl ⟨Nat.le_refl _, rfl, (S.ofG_bad c1).symm, rfl⟩ (.cons_cons _ (List.nil_sublist _))
 have hz := S.chkG_zero.1 c1
 refine run ?_
 refine J.alloc rfl fun b3 => ?_
 refine run ?_
 refine J.nilG rgC 38 51 rgC_len ?_
 refine J.loop (A := KqA) (fun p => [(17, .int .i64 (p.n : Nat))]) [6, 7, 18, 19, 20, 21, 22, 23, 24, 25, 26, 27, 28, 29, 30, 31, 32] (fun p => [.gown rgC 38 51 p.a (S.ofL g.ids g.ops (List.range p.n)).length p.c (S.ofL g.ids g.ops (List.range p.n)), .blk b3 [.slice p.a (S.ofL g.ids g.ops (List.range p.n)).length p.c] 24, .blk b2 [.slice none 0 0] 24, .blk b1 (grC g) 67]) (fun p => p.n ≤ g.n) (fun p => g.n - p.n) ⟨0, none, 0⟩ (by kernel_rfl) (Nat.zero_le _) (fun p j hI => ?_)
 refine run ?_
 refine J.ifd rfl (fun c3 => ?_) (fun c3 => ?_)
 ·obtain ⟨z, hzz⟩ := G0.ex (i := (p.n : Nat)) (by omega)
  have R := G.op hzz
  rw [Int.toNat_natCast] at hzz
  have hzo := GrA.opAt hzz
  have hA : Arr .u8 32 (elt 32 g.ids p.n) := D0.elt_arr (by omega)
  have e : S.applR (S.ofL g.ids g.ops (List.range p.n)) z.o (elt 32 g.ids p.n) hA.1 = S.ofL g.ids g.ops (List.range (p.n + 1)) := by rw [S.ofL_range]; exact S.step_app hzo _
  have hr := S.ofL_range_len g.ids g.ops p.n
  refine run ?_
  refine J.alloc rfl fun b4 => ?_
  refine run ?_
  refine J.regionX [(0, .q), (1, .q), (2, .q), (3, .q), (4, .q), (5, .q), (6, .q), (7, .q), (8, .g), (9, .q), (10, .g)] mixed (by kernel_rfl) ?_
  refine run ?_
  refine J.callG rfl (fun w' M hO => lwwApply0 p.a _ p.c (S.ofL g.ids g.ops (List.range p.n)) z (elt 32 g.ids p.n) w' hO R.ok hA (G.rok (by omega)) (S.ofL_sort ..) (by omega)) fun a' c' => ?_
  rw [e]
  refine run ?_
  exact J.next ⟨p.n + 1, a', c'⟩ ⟨rfl, trivial⟩ (by kernel_rfl) (by dsimp only; omega) (by dsimp only; omega)
 have hpn : p.n = g.ops.length := by omega
 refine run ?_
 refine J.fact (.gown rgC 38 51 p.a (S.ofL g.ids g.ops (List.range p.n)).length p.c (S.ofL g.ids g.ops (List.range p.n))) (fun _ _ h => (gown_e h).1.capn) fun hcap => ?_
 exact J.finG (⟨p.a, _, p.c, S.ofL g.ids g.ops (List.range p.n)⟩, 0) rfl ⟨hcap, rfl, by rw [S.ofG_ok c1, hpn], c1.symm⟩ (by repeat (first | exact List.nil_sublist _ | refine List.Sublist.cons_cons _ ?_ | refine List.Sublist.cons _ ?_))
end Go.Proofs.YtimdoffpnjdmmaaGreatDoor.W
