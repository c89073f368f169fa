/-
  Part 12 of the lemmas of these laws: DagMakes.
-/
import Derived.Test.YtakbhjagiofbgaaGreatDoorPDm11
set_option linter.unusedSimpArgs false
namespace Go.Proofs.YtakbhjagiofbgaaGreatDoor.W
open Go.RowKit Go.Proofs.YtakbhjagiofbgaaGreatDoor.G
set_option linter.unusedVariables false
set_option linter.unusedSimpArgs false
set_option maxRecDepth 20000
set_option maxHeartbeats 8000000
attribute [local irreducible] RS RX RY Code.wp bodyPost J Ent.blk Ent.irow Ent.iown Ent.wrow Ent.wown Ent.grow Ent.gown Ent.all Ent.emp
instance : Ents Tryz.prog 118 := ⟨.mk Tryz.func118 (by kernel_rfl) rfl⟩
instance : Ents Tryz.prog 189 := ⟨.mk Tryz.func189 (by kernel_rfl) rfl⟩
instance : Ents Tryz.prog 116 := ⟨.mk Tryz.func116 (by kernel_rfl) rfl⟩
instance : Ents Tryz.prog 117 := ⟨.mk Tryz.func117 (by kernel_rfl) rfl⟩
@[reducible] def GrA.P (g : GrA) : S.PG := ⟨g.m, g.ids, g.ops⟩
def GrA.nil : GrA := ⟨none, none, 0, 0, 0, 0, [], []⟩
theorem GrP.nil : GrP S.PG.nil.m S.PG.nil.ids S.PG.nil.ops GrA.nil := ⟨rfl, rfl, rfl, rfl, fun z hz => by cases hz⟩
theorem J.nilGr {S0 : Nat → Prop} {w0 : World} {L : List Ent} {X : World → Prop} (TI TO : TypeId) (k : J S0 w0 (.gown opC 11 TO none 0 0 [] :: .all [] :: .wown TI .u8 32 none 0 0 [] :: L) X) : J S0 w0 L X := J.nilWo TI .u8 32 (J.noA (J.nilG opC 11 TO opC_len k))
theorem blkC {S0 : Nat → Prop} {w0 w : World} {L : List Ent} (b : Nat) {cs : List Value} {T : TypeId} {F : List Value → List Ent} [R : RB L b cs T F] (M : Mem S0 w0 L w) : Blk w b cs T := M.blk (R.h cs).same
theorem dagAdd1 {S0 : Nat → Prop} (g : GrA) (x : List Int) (b : Nat) (T : TypeId) (w : World) (hB : Blk w b (grC g) T) (D0 : WRow .u8 32 S0 w g.ia g.m g.ids) (hx : Arr .u8 32 x) (hr : S.Rising g.m g.ids) (hm : g.m ≤ 70) :
    Calls Tryz.prog 118 #[.agg (ints .u8 x).toArray, .pointer (some ⟨b, 0, none⟩)] w (Ret w fun v _ => v = .bool (decide (¬ S.inS g.m g.ids x))) := by
  refine J.enter 12 Tryz.func118 rfl rfl ?_
  refine run ?_
  refine J.box rfl rfl rfl fun b1 => ?_
  refine run ?_
  refine J.ldOA hB (fun h => h) rfl ?_
  refine run ?_
  refine J.callp rfl rfl (fun w' M => dagFind g x w' (D0.ext M.ext) hx hr hm) ?_
  refine run ?_
  exact J.fin (congrArg _ (by simp))
theorem idxOpen {S0 S1 : Nat → Prop} (g : GrA) (a : Option Addr) (n c : Nat) (ps : List Int) (b : Nat) (T : TypeId) (w : World) (hB : Blk w b (grC g) T) (D0 : WRow .u8 32 S0 w g.ia g.m g.ids) (D1 : WRow .u8 32 S1 w a n ps) (hr : S.Rising g.m g.ids) (hm : g.m ≤ 70) (hn : n ≤ 1000) :
    Calls Tryz.prog 189 #[.slice a n c, .func (.func 118) #[] #[.pointer (some ⟨b, 0, none⟩)]] w (Gv w (fun r : Int => .int .i64 r) (fun _ => []) fun r => 0 ≤ r ↔ ¬ S.allI g.m g.ids n ps) := by
  have hl := D1.len
  refine J.enter 17 Tryz.func189 rfl rfl ?_
  refine run ?_
  refine J.loopS (A := Int) (fun p => [(8, .int .i64 p)]) [4, 5, 9, 10, 11, 12, 13, 14, 15, 16, 17, 18] (fun p => (0 ≤ p ∧ p ≤ n) ∧ ∀ i, i < p.toNat → S.inS g.m g.ids (S.idAt ps i)) (fun p => n - p.toNat) 0 (by kernel_rfl) ⟨by omega, fun i hi => by omega⟩ (fun p j hI => ?_)
  obtain ⟨h1, hI⟩ := hI
  refine run ?_
  refine J.ifd rfl (fun c1 => ?_) (fun c1 => ?_)
  · refine run ?_
    refine J.callvp rfl rfl rfl (fun w' M => dagAdd1 g _ b T w' (hB.ext M.ext) (D0.ext M.ext) (D1.elt_arr (by omega)) hr hm) ?_
    refine run ?_
    refine J.ifd rfl (fun c2 => ?_) (fun c2 => ?_)
    · refine run ?_
      exact J.finG p rfl ⟨fun _ h => c2 (h p.toNat (by omega)), fun _ => by omega⟩ (List.nil_sublist _)
    · refine run ?_
      refine J.nextS (p + 1) ⟨rfl, trivial⟩ (by kernel_rfl) ⟨by omega, fun i hi => ?_⟩ (by omega)
      rcases Nat.lt_or_ge i p.toNat with e | e
      · exact hI i e
      · obtain rfl : i = p.toNat := by omega
        exact Classical.not_not.1 c2
  refine run ?_
  exact J.finG (-1) rfl ⟨fun h => by omega, fun h => absurd (fun i hi => hI i (by omega)) h⟩ (List.nil_sublist _)
theorem hasOpen {S0 S1 : Nat → Prop} (g : GrA) (a : Option Addr) (n c : Nat) (ps : List Int) (b : Nat) (T : TypeId) (w : World) (hB : Blk w b (grC g) T) (D0 : WRow .u8 32 S0 w g.ia g.m g.ids) (D1 : WRow .u8 32 S1 w a n ps) (hr : S.Rising g.m g.ids) (hm : g.m ≤ 70) (hn : n ≤ 1000) :
    Calls Tryz.prog 117 #[.slice a n c, .func (.func 118) #[] #[.pointer (some ⟨b, 0, none⟩)]] w (Ret w fun v _ => v = .bool (decide (¬ S.allI g.m g.ids n ps))) := by
  refine J.enter 7 Tryz.func117 rfl rfl ?_
  refine run ?_
  refine J.call rfl rfl (fun w' M => idxOpen g a n c ps b T w' (hB.ext M.ext) (D0.ext M.ext) (D1.ext M.ext) hr hm hn) fun r hr2 => ?_
  refine run ?_
  exact J.fin (congrArg _ (decide_eq_decide.2 hr2))
theorem dagAdd {S0 S1 : Nat → Prop} (g : GrA) (z : OpA) (TK : TypeId) (w : World) (K0 : Kst w TK) (G : GrR S0 w g) (R : OpR S1 w z) :
    Calls Tryz.prog 31 #[.agg (grC g).toArray, .agg (opC z).toArray] w (Gv w (fun q : GrA => .tuple #[.agg (grC q).toArray, .agg (ints .u8 (S.addI g.P z.o)).toArray, .int .i64 (S.addE g.P z.o)]) (grE 43 54) (GrP (S.addP g.P z.o).m (S.addP g.P z.o).ids (S.addP g.P z.o).ops)) := by
  have D0 := G.ids
  have G0 := G.ops
  have hl := G.len
  have hcp := G.cap
  have h20 := R.ok.n
  have D1 := R.row
  have nil : S.addE g.P z.o ≠ 0 → GrP (S.addP g.P z.o).m (S.addP g.P z.o).ids (S.addP g.P z.o).ops GrA.nil ∧ S.addI g.P z.o = List.replicate 32 0 := fun h => by
    obtain ⟨h1, h2⟩ := S.addP_no h
    rw [h1]
    exact ⟨GrP.nil, h2⟩
  refine J.enter 54 Tryz.func31 rfl rfl ?_
  refine run ?_
  refine J.box rfl rfl rfl fun b1 => ?_
  refine J.box rfl rfl rfl fun b2 => ?_
  refine J.alloc rfl fun b3 => ?_
  refine J.alloc rfl fun b4 => ?_
  refine run ?_
  refine J.callp rfl rfl (fun w' M => dagCheck g _ w' (K0.ext M.ext) (G.ext M.ext)) ?_
  refine run ?_
  refine J.joinX (A := Int) (fun r => [(7, .int .i64 r)]) [16, 17] (fun _ => [.blk b4 (ints .u8 (List.replicate 32 0)) 43, .blk b3 [.slice none 0 0, .slice none 0 0] 25, .blk b2 (opC z) 54, .blk b1 (grC g) 25]) (fun r => r = if S.chkG g.m g.ids g.ops = 0 then S.verE z.o else S.chkG g.m g.ids g.ops) ?_ (fun r j1 hr => ?_)
  · refine J.ife rfl (fun c1 => ?_) (fun c1 => ?_)
    · refine run ?_
      refine J.callp rfl rfl (fun w' M => verifyO z.o R.ok _ _ _ _ (K0.ext M.ext) (R.row.ext M.ext) R.cap) ?_
      refine run ?_
      exact J.cut _ ⟨rfl, trivial⟩ (by kernel_rfl) (if_pos c1).symm
    · refine run ?_
      exact J.cut _ ⟨rfl, trivial⟩ (by kernel_rfl) (if_neg c1).symm
  refine run ?_
  refine J.ifn rfl (fun c2 => ?_) (fun c2 => ?_)
  · have he : S.addE g.P z.o = r ∧ S.addE g.P z.o ≠ 0 := by
      by_cases c : S.chkG g.m g.ids g.ops = 0
      · rw [if_pos c] at hr
        rw [hr] at c2 ⊢
        exact S.addE_2 c c2
      · rw [if_neg c] at hr
        rw [hr]
        exact S.addE_1 c
    obtain ⟨hn1, hn2⟩ := nil he.2
    refine run ?_
    refine J.bz rfl ?_
    refine run ?_
    refine J.nilGr 43 54 ?_
    refine J.finG GrA.nil ?_ hn1 ?_
    · rw [hn2, he.1]; rfl
    · unfold grE GrA.nil; repeat (first | exact List.nil_sublist _ | refine List.Sublist.cons_cons _ ?_ | refine List.Sublist.cons _ ?_)
  have hc : S.chkG g.m g.ids g.ops = 0 := Classical.byContradiction fun c => by rw [if_neg c] at hr; exact c (hr.symm.trans c2)
  have hv : S.verE z.o = 0 := by rw [if_pos hc] at hr; exact hr.symm.trans c2
  have hchk := S.verE_check hv
  have hz := S.chkG_zero.1 hc
  have hris := hz.2.2.2.1
  have hA := S.sha_arr (S.encS z.o)
  have err : ∀ e : Int, S.addE g.P z.o = e → e ≠ 0 → GrP (S.addP g.P z.o).m (S.addP g.P z.o).ids (S.addP g.P z.o).ops GrA.nil ∧ S.addI g.P z.o = List.replicate 32 0 := fun e h1 h2 => nil (h1 ▸ h2)
  refine run ?_
  refine J.callp rfl rfl (fun w' M => idO z.o R.ok _ _ _ _ (K0.ext M.ext) (R.row.ext M.ext) R.cap) ?_
  rw [if_pos hchk]
  refine run ?_
  refine J.alloc rfl fun b5 => ?_
  refine run ?_
  by_cases hin : S.inS g.m g.ids (S.idOf z.o)
  · refine J.callp rfl rfl (fun w' M => dagPutIn (S1 := S1) g _ z w' (G.ext M.ext) hA hris hin) ?_
    refine run ?_
    refine J.alloc rfl fun b6 => ?_
    refine run ?_
    have he := S.addE_3 (g := g.P) hc hv hin
    obtain ⟨hn1, hn2⟩ := err 14 he (by decide)
    refine J.bz rfl ?_
    refine run ?_
    refine J.nilGr 43 54 ?_
    refine J.finG GrA.nil ?_ hn1 ?_
    · rw [hn2, he]; rfl
    · unfold grE GrA.nil; repeat (first | exact List.nil_sublist _ | refine List.Sublist.cons_cons _ ?_ | refine List.Sublist.cons _ ?_)
  have hmn : g.n = g.m := by omega
  have hm60 : g.m ≤ 60 := by omega
  refine J.call rfl rfl (fun w' M => dagPut g _ z w' (G.ext M.ext) hA hris hin (R.ext M.ext) hmn hm60) fun q hq => ?_
  dsimp only [grE, List.cons_append, List.nil_append]
  refine run ?_
  refine J.alloc rfl fun b6 => ?_
  refine run ?_
  refine J.fn rfl rfl rfl ?_
  refine J.callp rfl rfl (fun w' M => hasOpen g _ _ _ _ b1 _ w' (blkC b1 M) (D0.ext M.ext) (D1.ext M.ext) hris hcp.2.2.1 (by omega)) ?_
  refine run ?_
  refine J.ifd rfl (fun c3 => ?_) (fun c3 => ?_)
  · refine run ?_
    have he := S.addE_4 (g := g.P) hc hv hin c3
    obtain ⟨hn1, hn2⟩ := err 40 he (by decide)
    refine J.bz rfl ?_
    refine run ?_
    refine J.nilGr 43 54 ?_
    refine J.finG GrA.nil ?_ hn1 ?_
    · rw [hn2, he]; rfl
    · unfold grE GrA.nil; repeat (first | exact List.nil_sublist _ | refine List.Sublist.cons_cons _ ?_ | refine List.Sublist.cons _ ?_)
  have c3 := Classical.not_not.1 c3
  refine run ?_
  refine J.ife rfl (fun c4 => ?_) (fun c4 => ?_)
  · refine run ?_
    have he := S.addE_5 (g := g.P) hc hv hin c3 (show g.m = 60 by omega)
    obtain ⟨hn1, hn2⟩ := err 18 he (by decide)
    refine J.bz rfl ?_
    refine run ?_
    refine J.nilGr 43 54 ?_
    refine J.finG GrA.nil ?_ hn1 ?_
    · rw [hn2, he]; rfl
    · unfold grE GrA.nil; repeat (first | exact List.nil_sublist _ | refine List.Sublist.cons_cons _ ?_ | refine List.Sublist.cons _ ?_)
  have he := S.addE_0 (g := g.P) hc hv hin c3 (show g.m ≠ 60 by omega)
  obtain ⟨hp1, hp2⟩ := S.addP_yes he
  refine run ?_
  refine J.regionR [.blk b6 (grC q) 25, .blk b5 (ints .u8 (S.sha (S.encS z.o))) 43] [(0, .q), (1, .q), (2, .e), (3, .e), (4, .q)] mixed (by kernel_rfl) (by repeat (first | exact List.Sublist.refl _ | refine List.Sublist.cons_cons _ ?_ | refine List.Sublist.cons _ ?_)) ?_
  refine run ?_
  have hq2 : GrP (S.addP g.P z.o).m (S.addP g.P z.o).ids (S.addP g.P z.o).ops q := by rw [hp1]; exact hq
  refine J.finG q ?_ hq2 ?_
  · rw [hp2, he]
  · unfold grE; repeat (first | exact List.nil_sublist _ | refine List.Sublist.cons_cons _ ?_ | refine List.Sublist.cons _ ?_)
end Go.Proofs.YtakbhjagiofbgaaGreatDoor.W
namespace Go.Proofs.YtakbhjagiofbgaaGreatDoor.W
open Go.RowKit Go.Proofs.YtakbhjagiofbgaaGreatDoor.G
set_option linter.unusedVariables false
set_option linter.unusedSimpArgs false
set_option maxRecDepth 20000
set_option maxHeartbeats 8000000
attribute [local irreducible] RS RX RY Code.wp bodyPost J Ent.blk Ent.irow Ent.iown Ent.wrow Ent.wown Ent.grow Ent.gown Ent.all Ent.emp
/-- How far a list came. -/
structure OfA where
  (i : Nat) (q : GrA) (P : S.PG)
theorem mk_ok {l : List S.OpV} (hl : ∀ o ∈ l, o.ok) {i : Nat} (hi : i ≤ l.length) {g : S.PG} (h : S.mkN l i = some g) : ∀ o ∈ g.ops, o.ok := fun o ho => by
  obtain ⟨h1, h2, h3, h4⟩ := S.mkN_good h
  obtain ⟨j, hj, rfl⟩ := List.getElem_of_mem ho
  obtain ⟨k, hk, _, e⟩ := (h4 (S.idAt g.ids j) g.ops[j]).1 ⟨j, by have := h1.2; omega, rfl, by rw [List.getD_eq_getElem?_getD, List.getElem?_eq_getElem hj]; rfl⟩
  rw [e, List.getD_eq_getElem?_getD, List.getElem?_eq_getElem (by omega)]
  exact hl _ (List.getElem_mem _)
theorem dagOf {S0 : Nat → Prop} (a : Option Addr) (n c : Nat) (zs : List OpA) (TK : TypeId) (w : World) (K0 : Kst w TK) (O : GRow opC 11 S0 w a n zs) (I0 : Inns opI S0 w zs) (hok : ∀ z ∈ zs, z.o.ok) (hn : n ≤ 100000) :
    Calls Tryz.prog 41 #[.slice a n c] w (Gv w (fun q : GrA => .tuple #[.agg (grC q).toArray, .int .i64 (S.lstE (zs.map OpA.o))]) (grE 43 54) (GrP (S.lstP (zs.map OpA.o)).m (S.lstP (zs.map OpA.o)).ids (S.lstP (zs.map OpA.o)).ops)) := by
  have hl := O.len
  obtain ⟨ops, hops⟩ := ex (zs.map OpA.o)
  have hol : ops.length = n := by rw [hops, List.length_map, hl]
  have ook : ∀ o ∈ ops, o.ok := fun o ho => by
    rw [hops] at ho
    obtain ⟨z, hz, rfl⟩ := List.mem_map.1 ho
    exact hok z hz
  have opR : ∀ {i : Nat} {z : OpA}, zs[i]? = some z → OpR S0 w z ∧ ops.getD i S.OpV.zero = z.o := fun {i z} h => by
    have hm := List.mem_of_getElem? h
    have h1 := I0 z hm ⟨.u8, 32, z.pa, z.o.n, z.pc, z.o.ids⟩ (List.mem_singleton.2 rfl)
    exact ⟨⟨hok z hm, h1.1, h1.2⟩, by rw [hops, List.getD_eq_getElem?_getD, List.getElem?_map, h]; rfl⟩
  rw [← hops]
  have nil : S.lstE ops ≠ 0 → GrP (S.lstP ops).m (S.lstP ops).ids (S.lstP ops).ops GrA.nil := fun h => by
    rw [S.lstP_no h]
    exact GrP.nil
  refine J.enter 61 Tryz.func41 rfl rfl ?_
  refine run ?_
  refine J.alloc rfl fun b1 => ?_
  refine run ?_
  refine J.ifd rfl (fun c1 => ?_) (fun c1 => ?_)
  · refine run ?_
    have he := S.lstE_4 (l := ops) (by omega)
    refine J.nilGr 43 54 ?_
    refine J.finG GrA.nil ?_ (nil (by rw [he]; decide)) ?_
    · rw [he]; rfl
    · unfold grE GrA.nil; repeat (first | exact List.nil_sublist _ | refine List.Sublist.cons_cons _ ?_ | refine List.Sublist.cons _ ?_)
  have h60 : ¬ 60 < ops.length := by omega
  refine run ?_
  refine J.loopS (A := Int) (fun p => [(21, .int .i64 p)]) [3, 5, 6, 22, 23, 24, 25, 26, 27, 28, 29, 30, 31] (fun p => (0 ≤ p ∧ p ≤ n) ∧ ∀ k, k < p.toNat → S.verE (ops.getD k S.OpV.zero) = 0) (fun p => n - p.toNat) 0 (by kernel_rfl) ⟨by omega, fun i hi => by omega⟩ (fun p j hI => ?_)
  obtain ⟨h1, hI⟩ := hI
  refine run ?_
  refine J.ifd rfl (fun c2 => ?_) (fun c2 => ?_)
  · obtain ⟨z, hz⟩ := O.ex (i := p) (by omega)
    obtain ⟨R, hzo⟩ := opR hz
    refine run ?_
    refine J.alloc rfl fun b2 => ?_
    refine run ?_
    refine J.callp rfl rfl (fun w' M => verifyO z.o R.ok _ _ _ _ (K0.ext M.ext) (R.row.ext M.ext) R.cap) ?_
    refine run ?_
    refine J.ifn rfl (fun c3 => ?_) (fun c3 => ?_)
    · refine run ?_
      have hf := S.verL_first (l := ops) (i := p.toNat) (by omega) hI (by rw [hzo]; exact c3)
      rw [hzo] at hf
      obtain ⟨he, hne⟩ := S.lstE_v h60 (by rw [hf]; exact c3)
      refine J.nilGr 43 54 ?_
      refine J.finG GrA.nil ?_ (nil hne) ?_
      · rw [he, hf]; rfl
      · unfold grE GrA.nil; repeat (first | exact List.nil_sublist _ | refine List.Sublist.cons_cons _ ?_ | refine List.Sublist.cons _ ?_)
    refine run ?_
    refine J.nextS (p + 1) ⟨rfl, trivial⟩ (by kernel_rfl) ⟨by omega, fun i hi => ?_⟩ (by omega)
    rcases Nat.lt_or_ge i p.toNat with h | h
    · exact hI i h
    · obtain rfl : i = p.toNat := by omega
      rw [hzo]
      exact c3
  have hver : S.verL ops = 0 := S.verL_all fun k hk => hI k (by omega)
  have hv0 : ∀ k, k < ops.length → S.verE (ops.getD k S.OpV.zero) = 0 := fun k hk => hI k (by omega)
  refine run ?_
  refine J.alloc rfl fun b7 => ?_
  refine run ?_
  refine J.nilGr 43 54 ?_
  refine J.front (.blk b7 [.slice none 0 0, .slice none 0 0] 25) ?_
  refine J.drop (E := [.blk b7 [.slice none 0 0, .slice none 0 0] 25, .gown opC 11 54 none 0 0 [], .all [], .wown 43 .u8 32 none 0 0 [], .blk b1 [.slice none 0 0, .slice none 0 0] 25]) (by repeat (first | exact List.nil_sublist _ | refine List.Sublist.cons_cons _ ?_ | refine List.Sublist.cons _ ?_)) ?_
  refine J.loop (A := OfA) (fun p => [(34, .int .i64 (p.i : Nat))]) [3, 9, 10, 11, 12, 13, 35, 36, 37, 38, 39, 40, 41, 42, 43, 44, 45, 46, 47, 48, 49, 50, 51, 52, 53, 54] (fun p => [.blk b7 (grC p.q) 25, .gown opC 11 54 p.q.oa p.q.n p.q.oc p.q.zs, .all (p.q.zs.map (opE 43)), .wown 43 .u8 32 p.q.ia p.q.m p.q.ic p.q.ids, .blk b1 [.slice none 0 0, .slice none 0 0] 25]) (fun p => p.i ≤ n ∧ S.mkN ops p.i = some p.P ∧ GrP p.P.m p.P.ids p.P.ops p.q) (fun p => n - p.i) ⟨0, ⟨none, none, 0, 0, 0, 0, [], []⟩, .nil⟩ (by kernel_rfl) ⟨Nat.zero_le _, rfl, GrP.nil⟩ (fun p j hI2 => ?_)
  obtain ⟨hI1, hI2, hI3⟩ := hI2
  have hmk := S.mkN_good hI2
  have hqn : p.q.n = p.q.m := by have := hI3.n; have := hI3.m; have := hmk.1.2; omega
  have hqm : p.q.m = p.i := by have := hI3.m; have := hmk.2.2.1; omega
  have hqok := hI3.ok (mk_ok ook (by omega) hI2)
  refine run ?_
  refine J.ifd rfl (fun c4 => ?_) (fun c4 => ?_)
  · obtain ⟨z, hz⟩ := O.ex (i := (p.i : Nat)) (by omega)
    rw [Int.toNat_natCast] at hz
    obtain ⟨R, hzo⟩ := opR hz
    have hchk := S.verE_check (by have := hv0 p.i (by omega); rw [hzo] at this; exact this)
    have hA := S.sha_arr (S.encS z.o)
    refine run ?_
    refine J.alloc rfl fun b9 => ?_
    refine run ?_
    refine J.callp rfl rfl (fun w' M => idO z.o R.ok _ _ _ _ (K0.ext M.ext) (R.row.ext M.ext) R.cap) ?_
    rw [if_pos hchk]
    refine run ?_
    refine J.alloc rfl fun b10 => ?_
    refine run ?_
    by_cases hin : S.inS p.P.m p.P.ids (S.idOf z.o)
    · refine J.callp rfl rfl (fun w' M => dagPutIn (S1 := S0) p.q _ z w' (GrR.own hqok hI3.cap (by omega) w' M) hA (by rw [hI3.m, hI3.ids]; exact hmk.2.1) (by rw [hI3.m, hI3.ids]; exact hin)) ?_
      refine run ?_
      refine J.alloc rfl fun b12 => ?_
      refine run ?_
      have he := S.lstE_14 h60 hver (S.mkN_none (S.mkN_twice hI2 (by rw [hzo]; exact hin)) _ (by omega))
      refine J.nilGr 43 54 ?_
      refine J.finG GrA.nil ?_ (nil (by rw [he]; decide)) ?_
      · rw [he]; rfl
      · unfold grE GrA.nil; repeat (first | exact List.nil_sublist _ | refine List.Sublist.cons_cons _ ?_ | refine List.Sublist.cons _ ?_)
    · refine J.call rfl rfl (fun w' M => dagPut p.q _ z w' (GrR.own hqok hI3.cap (by omega) w' M) hA (by rw [hI3.m, hI3.ids]; exact hmk.2.1) (by rw [hI3.m, hI3.ids]; exact hin) (R.ext M.ext) hqn (by omega)) fun q hq => ?_
      dsimp only [grE, List.cons_append, List.nil_append]
      refine run ?_
      refine J.alloc rfl fun b12 => ?_
      refine run ?_
      have hmore := S.mkN_more hI2 (by rw [hzo]; exact hin)
      rw [hzo] at hmore
      have hq2 : GrP (S.putP p.P (S.idOf z.o) z.o).m (S.putP p.P (S.idOf z.o) z.o).ids (S.putP p.P (S.idOf z.o) z.o).ops q := by
        rw [hI3.m, hI3.ids, hI3.ops] at hq
        exact hq
      refine J.front (.wown 43 .u8 32 q.ia q.m q.ic q.ids) ?_
      refine J.front (.all (q.zs.map (opE 43))) ?_
      refine J.front (.gown opC 11 54 q.oa q.n q.oc q.zs) ?_
      refine J.front (.blk b7 (grC q) 25) ?_
      exact J.next ⟨p.i + 1, q, S.putP p.P (S.idOf z.o) z.o⟩ ⟨rfl, trivial⟩ (by kernel_rfl) ⟨by dsimp only; omega, hmore, hq2⟩ (by dsimp only; omega)
  have hpi : p.i = ops.length := by omega
  rw [hpi] at hI2
  have hs := S.lstE_s h60 hver hI2
  refine run ?_
  refine J.callp rfl rfl (fun w' M => dagShape p.q w' (GrR.own hqok hI3.cap (by omega) w' M) (by omega) (by omega)) ?_
  rw [show S.shapeS p.q.m p.q.ids p.q.ops = S.lstE ops by rw [hI3.m, hI3.ids, hI3.ops, hs]]
  refine run ?_
  refine J.ifn rfl (fun c5 => ?_) (fun c5 => ?_)
  · refine run ?_
    refine J.nilGr 43 54 ?_
    refine J.finG GrA.nil rfl (nil c5) ?_
    unfold grE GrA.nil; repeat (first | exact List.nil_sublist _ | refine List.Sublist.cons_cons _ ?_ | refine List.Sublist.cons _ ?_)
  refine run ?_
  have hq2 : GrP (S.lstP ops).m (S.lstP ops).ids (S.lstP ops).ops p.q := by rw [S.lstP_yes c5 hI2]; exact hI3
  refine J.finG p.q ?_ hq2 ?_
  · show Value.tuple _ = Value.tuple _
    rw [c5]
  · unfold grE; repeat (first | exact List.nil_sublist _ | refine List.Sublist.cons_cons _ ?_ | refine List.Sublist.cons _ ?_)
end Go.Proofs.YtakbhjagiofbgaaGreatDoor.W
namespace Go.Proofs.YtakbhjagiofbgaaGreatDoor.W
open Go.RowKit Go.Proofs.YtakbhjagiofbgaaGreatDoor.G
set_option linter.unusedVariables false
set_option linter.unusedSimpArgs false
set_option maxRecDepth 20000
set_option maxHeartbeats 8000000
attribute [local irreducible] RS RX RY Code.wp bodyPost J Ent.blk Ent.irow Ent.iown Ent.wrow Ent.wown Ent.grow Ent.gown Ent.all Ent.emp
instance : Fld Tryz.prog 54 0 0 := ⟨_, _, 1, Tryz.underlying54, rfl, by kernel_rfl, by decide, rfl⟩
instance : Sca Tryz.prog 48 := ⟨_, Tryz.underlying48, rfl⟩
instance : Und Tryz.prog 48 (.int .u32) := ⟨Tryz.underlying48⟩
instance : Fld Tryz.prog 54 2 2 := ⟨_, _, 1, Tryz.underlying54, rfl, by kernel_rfl, by decide, rfl⟩
instance : Sca Tryz.prog 38 := ⟨_, Tryz.underlying38, rfl⟩
instance : Und Tryz.prog 38 (.int .u64) := ⟨Tryz.underlying38⟩
instance : Fld Tryz.prog 54 3 3 := ⟨_, _, 6, Tryz.underlying54, rfl, by kernel_rfl, by decide, rfl⟩
instance : Agg Tryz.prog 50 6 := ⟨_, Tryz.underlying50, rfl, by kernel_rfl⟩
instance : Fld Tryz.prog 54 4 9 := ⟨_, _, 2, Tryz.underlying54, rfl, by kernel_rfl, by decide, rfl⟩
instance : Agg Tryz.prog 52 2 := ⟨_, Tryz.underlying52, rfl, by kernel_rfl⟩
instance : Ents Tryz.prog 130 := ⟨.mk Tryz.func130 (by kernel_rfl) rfl⟩
instance : Ents Tryz.prog 127 := ⟨.mk Tryz.func127 (by kernel_rfl) rfl⟩
instance : Und Tryz.prog 138 (.slice 25) := ⟨Tryz.underlying138⟩
theorem eqIDs {S0 S1 : Nat → Prop} (a : Option Addr) (n c : Nat) (xs : List Int) (a2 : Option Addr) (n2 c2 : Nat) (ys : List Int) (w : World) (D0 : WRow .u8 32 S0 w a n xs) (D1 : WRow .u8 32 S1 w a2 n2 ys) (hn : n ≤ 1000) (hn2 : n2 ≤ 1000) :
    Calls Tryz.prog 130 #[.slice a n c, .slice a2 n2 c2] w (Ret w fun v _ => v = .bool (decide (xs = ys))) := by
  have hl0 := D0.len
  have hl1 := D1.len
  refine J.enter 24 Tryz.func130 rfl rfl ?_
  refine run ?_
  refine J.ifn rfl (fun c1 => ?_) (fun c1 => ?_)
  · refine run ?_
    exact J.fin (congrArg _ (decide_eq_false fun h => c1 (by have := congrArg List.length h; omega)).symm)
  obtain rfl : n2 = n := by omega
  refine run ?_
  refine J.loopS (A := Int) (fun p => [(13, .int .i64 p)]) [4, 5, 14, 15, 16, 17, 18, 19, 20, 21, 22, 23, 24, 25] (fun p => (0 ≤ p ∧ p ≤ n2) ∧ ∀ i, i < p.toNat → S.idAt xs i = S.idAt ys i) (fun p => n2 - p.toNat) 0 (by kernel_rfl) ⟨by omega, fun i hi => by omega⟩ (fun p j hI => ?_)
  obtain ⟨h1, hI⟩ := hI
  refine run ?_
  refine J.ifd rfl (fun c2 => ?_) (fun c2 => ?_)
  · refine run ?_
    refine J.regionX [(0, .q), (1, .q), (2, .q), (3, .q), (4, .q), (5, .q), (6, .q), (7, .q), (8, .q)] mixed (by kernel_rfl) ?_
    refine run ?_
    refine J.ifd rfl (fun c3 => ?_) (fun c3 => ?_)
    · refine run ?_
      exact J.fin (congrArg _ (decide_eq_false fun h => c3 (by rw [h])).symm)
    refine run ?_
    refine J.nextS (p + 1) ⟨rfl, trivial⟩ (by kernel_rfl) ⟨by omega, fun i hi => ?_⟩ (by omega)
    rcases Nat.lt_or_ge i p.toNat with h | h
    · exact hI i h
    · obtain rfl : i = p.toNat := by omega
      exact Classical.not_not.1 c3
  refine run ?_
  exact J.fin (congrArg _ (decide_eq_true (S.ids_ext hl0 hl1 fun i hi => hI i (by omega))).symm)
theorem fits_actD (a b c d : Int) (x y : ByteArray) : FitsT Tryz.prog 9 50 [.int .u8 a, .string x, .int .u8 b, .int .i64 c, .int .u64 d, .string y] = true := by kernel_rfl
theorem fits_sigD (a b : Int) : FitsT Tryz.prog 9 52 [.int .u32 a, .int .u32 b] = true := by kernel_rfl
theorem dagSame {S0 S1 : Nat → Prop} (y z : OpA) (w : World) (R : OpR S0 w y) (R1 : OpR S1 w z) :
    Calls Tryz.prog 127 #[.agg (opC y).toArray, .agg (opC z).toArray] w (Ret w fun v _ => v = .bool (decide (S.SameO y.o z.o))) := by
  have D0 := R.row
  have D1 := R1.row
  have h20 := R.ok.n
  have h21 := R1.ok.n
  refine J.enter 36 Tryz.func127 rfl rfl ?_
  refine run ?_
  refine J.box rfl rfl rfl fun b1 => ?_
  refine J.box rfl rfl rfl fun b2 => ?_
  refine run ?_
  refine J.spe rfl rfl rfl (fun c1 => ?_) (fun c1 => ?_)
  rotate_left
  · refine run ?_
    exact J.fin (congrArg _ (decide_eq_false fun h => c1 h.1).symm)
  refine run ?_
  refine J.spe rfl rfl rfl (fun c2 => ?_) (fun c2 => ?_)
  rotate_left
  · refine run ?_
    exact J.fin (congrArg _ (decide_eq_false fun h => c2 h.2.2.1).symm)
  refine run ?_
  refine J.eqR rfl rfl rfl (fits_actD _ _ _ _ _ _) (fits_actD _ _ _ _ _ _) (S.eqA6 _ _ _ _ _ _ _ _ _ _ _ _) ?_
  refine run ?_
  refine J.spd rfl rfl rfl (fun c3 => ?_) (fun c3 => ?_)
  rotate_left
  · refine run ?_
    exact J.fin (congrArg _ (decide_eq_false fun h => c3 h.2.2.2.1).symm)
  refine run ?_
  refine J.eqR rfl rfl rfl (fits_sigD _ _) (fits_sigD _ _) (S.eqS2 _ _ _ _) ?_
  refine run ?_
  refine J.spd rfl rfl rfl (fun c4 => ?_) (fun c4 => ?_)
  rotate_left
  · refine run ?_
    exact J.fin (congrArg _ (decide_eq_false fun h => c4 h.2.2.2.2).symm)
  refine run ?_
  refine J.callp rfl rfl (fun w' M => eqIDs _ _ _ _ _ _ _ _ _ (D0.ext M.ext) (D1.ext M.ext) (by omega) (by omega)) ?_
  refine run ?_
  exact J.fin (congrArg _ (decide_eq_decide.2 ⟨fun h => ⟨c1, h, c2, c3, c4⟩, fun h => h.2.1⟩))
theorem eqOps {S0 S1 : Nat → Prop} (g h : GrA) (w : World) (G : GrR S0 w g) (H : GrR S1 w h) :
    Calls Tryz.prog 131 #[.slice g.oa g.n g.oc, .slice h.oa h.n h.oc, .func (.func 127) #[] #[]] w (Ret w fun v _ => v = .bool (decide (g.ops = h.ops))) := by
  have G0 := G.ops
  have G1 := H.ops
  have hl := G.len
  have hl1 := H.len
  have hcp := G.cap
  have hcp1 := H.cap
  refine J.enter 29 Tryz.func131 rfl rfl ?_
  refine run ?_
  refine J.ifn rfl (fun c2 => ?_) (fun c2 => ?_)
  · refine run ?_
    exact J.fin (congrArg _ (decide_eq_false fun e => c2 (by rw [← hl, ← hl1, e])).symm)
  refine run ?_
  refine J.loopS (A := Int) (fun p => [(17, .int .i64 p)]) [6, 7, 8, 9, 18, 19, 20, 21, 22, 23, 24, 25, 26, 27, 28, 29, 30, 31] (fun p => (0 ≤ p ∧ p ≤ g.n) ∧ ∀ i, i < p.toNat → g.ops.getD i S.OpV.zero = h.ops.getD i S.OpV.zero) (fun p => g.n - p.toNat) 0 (by kernel_rfl) ⟨by omega, fun i hi => by omega⟩ (fun p j hI => ?_)
  obtain ⟨h1, hI⟩ := hI
  refine run ?_
  refine J.ifd rfl (fun c3 => ?_) (fun c3 => ?_)
  · obtain ⟨z, hzz⟩ := G0.ex (i := p) (by omega)
    obtain ⟨y, hyy⟩ := G1.ex (i := p) (by omega)
    have R := G.op hzz
    have R1 := H.op hyy
    have hzo := GrA.opAt hzz
    have hyo := GrA.opAt hyy
    have hse := S.sameO_eq (a := z.o) (b := y.o) R.row.len R1.row.len
    refine run ?_
    refine J.alloc rfl fun b1 => ?_
    refine run ?_
    refine J.alloc rfl fun b2 => ?_
    refine run ?_
    refine J.callvp rfl rfl rfl (fun w' M => dagSame z y w' (R.ext M.ext) (R1.ext M.ext)) ?_
    refine run ?_
    refine J.ifnot rfl (fun c4 => ?_) (fun c4 => ?_)
    · have c4 := of_decide_eq_false c4
      refine run ?_
      exact J.fin (congrArg _ (decide_eq_false fun e => c4 (hse.2 (by rw [← hzo, ← hyo, e]))).symm)
    · have c4 := hse.1 (of_decide_eq_true c4)
      refine run ?_
      refine J.nextS (p + 1) ⟨rfl, trivial⟩ (by kernel_rfl) ⟨by omega, fun i hi => ?_⟩ (by omega)
      rcases Nat.lt_or_ge i p.toNat with e | e
      · exact hI i e
      · obtain rfl : i = p.toNat := by omega
        rw [hzo, hyo, c4]
  refine run ?_
  exact J.fin (congrArg _ (decide_eq_true (S.ops_ext (by omega) fun i hi => hI i (by omega))).symm)
theorem dagChecks {S0 S1 S2 : Nat → Prop} (a : Option Addr) (g h : GrA) (TK : TypeId) (w : World) (K0 : Kst w TK) (O : GRow (fun x : GrA => grC x) 2 S2 w a 2 [g, h]) (G : GrR S0 w g) (H : GrR S1 w h) :
    Calls Tryz.prog 126 #[.slice a 2 2] w (Ret w fun v _ => v = .int .i64 (S.eqE g.P h.P)) := by
  refine J.enter 17 Tryz.func126 rfl rfl ?_
  refine run ?_
  refine J.loopS (A := Int) (fun p => [(8, .int .i64 p)]) [2, 4, 5, 9, 10, 11, 12, 13, 14, 15, 16, 17] (fun p => (0 ≤ p ∧ p ≤ 2) ∧ (0 < p → S.chkP g.P = 0) ∧ (1 < p → S.chkP h.P = 0)) (fun p => 2 - p.toNat) 0 (by kernel_rfl) ⟨by omega, fun h => by omega, fun h => by omega⟩ (fun p j hI => ?_)
  obtain ⟨h1, hI1, hI2⟩ := hI
  refine run ?_
  refine J.ifd rfl (fun c1 => ?_) (fun c1 => ?_)
  · rcases (show p = 0 ∨ p = 1 by omega) with rfl | rfl
    · have hq : [g, h][(0 : Int).toNat]? = some g := rfl
      refine run ?_
      refine J.alloc rfl fun b1 => ?_
      refine run ?_
      refine J.callp rfl rfl (fun w' M => dagCheck g _ w' (K0.ext M.ext) (G.ext M.ext)) ?_
      refine run ?_
      refine J.ifn rfl (fun c2 => ?_) (fun c2 => ?_)
      · refine run ?_
        exact J.fin (congrArg _ (S.eqE_1 (a := g.P) c2).symm)
      refine run ?_
      exact J.nextS 1 ⟨rfl, trivial⟩ (by kernel_rfl) ⟨by omega, fun _ => c2, fun h => by omega⟩ (by decide)
    · have hq : [g, h][(1 : Int).toNat]? = some h := rfl
      refine run ?_
      refine J.alloc rfl fun b1 => ?_
      refine run ?_
      refine J.callp rfl rfl (fun w' M => dagCheck h _ w' (K0.ext M.ext) (H.ext M.ext)) ?_
      refine run ?_
      refine J.ifn rfl (fun c2 => ?_) (fun c2 => ?_)
      · refine run ?_
        exact J.fin (congrArg _ (S.eqE_2 (a := g.P) (b := h.P) (hI1 (by decide))).symm)
      refine run ?_
      exact J.nextS 2 ⟨rfl, trivial⟩ (by kernel_rfl) ⟨by omega, fun _ => hI1 (by omega), fun _ => c2⟩ (by decide)
  refine run ?_
  refine J.fin (congrArg _ ?_)
  rw [S.eqE_2 (hI1 (by omega))]
  exact (hI2 (by omega)).symm
end Go.Proofs.YtakbhjagiofbgaaGreatDoor.W
namespace Go.Proofs.YtakbhjagiofbgaaGreatDoor.S
open G
set_option linter.unusedVariables false
theorem chkP_fine {g : PG} (hl : g.ids.length = 32 * g.m) : chkP g = 0 ↔ g.fine := chk_fine hl
theorem getD_at {α : Type} {l : List α} {d : α} {i : Nat} (h : i < l.length) : l.getD i d = l[i] := by rw [List.getD_eq_getElem?_getD, List.getElem?_eq_getElem h]; rfl
theorem ord_all {g : PG} {xs : List (List Int)} (h : OrdP g xs) {y : List Int} (hy : inS g.m g.ids y) : y ∈ xs := by
  obtain ⟨h1, h2, h3, h4⟩ := h
  have hall := nodup_all (l := xs.map (ixS g.m g.ids)) (N := g.m) (nodup_map_on (fun a ha b hb e => by rw [← (ix_in (h2 a ha)).2, e, (ix_in (h2 b hb)).2]) h1) (fun i hi => by
    obtain ⟨a, ha, rfl⟩ := List.mem_map.1 hi
    exact (ix_in (h2 a ha)).1) (by rw [List.length_map]; exact h3) (ix_in hy).1
  obtain ⟨a, ha, e⟩ := List.mem_map.1 hall
  have : a = y := by rw [← (ix_in (h2 a ha)).2, e, (ix_in hy).2]
  exact this ▸ ha
/-! lists -/
theorem idsP_nodup {g : PG} (hr : Rising g.m g.ids) : (idsP g).Nodup := (idsP_sorted hr).imp fun {a b} h e => by subst e; rw [cmpS_self] at h; exact absurd h (by decide)
/-! one by one -/
/-! what is added -/
theorem add_fine {g : PG} {o : OpV} (hl : g.ids.length = 32 * g.m) (h : addE g o = 0) : g.fine ∧ ¬ inS g.m g.ids (idOf o) ∧ (addP g o).fine ∧ (addP g o).m = g.m + 1 ∧ addI g o = idOf o ∧ ∀ y u, (addP g o).has y u ↔ g.has y u ∨ (y = idOf o ∧ u = o) := by
  obtain ⟨h1, h2, h3, h4, h5⟩ := addE_zero.1 h
  have hg := (chk_fine hl).1 h1
  obtain ⟨e1, e2⟩ := addP_yes h
  have := hg.le
  refine ⟨hg, h3, ?_, ?_, e2, ?_⟩
  · rw [e1]; exact fine_put hg ⟨h2, rfl⟩ (idOf_len _) h3 h4 (by omega)
  · rw [e1]; rfl
  · rw [e1]; exact putP_has hg.good (idOf_len _) o
/-! unions -/
theorem clash_no {a b : PG} (ha : Rising a.m a.ids) (hc : ¬ clash a b) {x : List Int} {o u : OpV} (h1 : a.has x o) (h2 : b.has x u) : o = u := by
  obtain ⟨i, hi, rfl, rfl⟩ := h2
  obtain ⟨j, hj, e1, e2⟩ := h1
  apply Classical.byContradiction
  intro hn
  refine hc ⟨i, hi, ⟨j, hj, e1⟩, ?_⟩
  rw [← e1, ix_eq ha hj, e2]
  exact hn
theorem uni_in {a b : PG} (ha : a.good) (hr : Rising a.m a.ids) (hb : b.ids.length = 32 * b.m) : ∀ i, i ≤ b.m → ∀ x, inS (uniN a b i).m (uniN a b i).ids x ↔ inS a.m a.ids x ∨ ∃ k, k < i ∧ idAt b.ids k = x
  | 0, _, x => ⟨.inl, fun h => h.elim id fun ⟨k, hk, _⟩ => absurd hk (Nat.not_lt_zero _)⟩
  | i + 1, hi, x => by
    have ih := uni_in ha hr hb i (by omega)
    have hg := uniN_good ha hr hb i (by omega)
    have h32 := idAt_len b.ids i b.m hb hi
    have step : inS (uniN a b (i + 1)).m (uniN a b (i + 1)).ids x ↔ inS (uniN a b i).m (uniN a b i).ids x ∨ x = idAt b.ids i := by
      by_cases h : inS (uniN a b i).m (uniN a b i).ids (idAt b.ids i)
      · rw [uniN_yes h]
        exact ⟨.inl, fun k => k.elim id fun e => e ▸ h⟩
      · rw [uniN_no h]
        exact putP_in hg.1 h32 _
    rw [step, ih]
    constructor
    · rintro ((h | ⟨k, hk, e⟩) | e)
      · exact .inl h
      · exact .inr ⟨k, by omega, e⟩
      · exact .inr ⟨i, Nat.lt_succ_self _, e.symm⟩
    · rintro (h | ⟨k, hk, e⟩)
      · exact .inl (.inl h)
      · rcases Nat.lt_or_ge k i with c | c
        · exact .inl (.inr ⟨k, c, e⟩)
        · obtain rfl : k = i := by omega
          exact .inr e.symm
theorem uni_in' {a b : PG} (ha : a.good) (hr : Rising a.m a.ids) (hb : b.ids.length = 32 * b.m) (x : List Int) : inS (uniN a b b.m).m (uniN a b b.m).ids x ↔ inS a.m a.ids x ∨ inS b.m b.ids x := uni_in ha hr hb b.m (Nat.le_refl _) x
theorem uni_has {a b : PG} (ha : a.good) (hr : Rising a.m a.ids) (hb : b.good) (hrb : Rising b.m b.ids) (hc : ¬ clash a b) : ∀ i, i ≤ b.m → ∀ x o, (uniN a b i).has x o ↔ a.has x o ∨ ∃ k, k < i ∧ idAt b.ids k = x ∧ b.ops.getD k OpV.zero = o
  | 0, _, x, o => ⟨.inl, fun h => h.elim id fun ⟨k, hk, _⟩ => absurd hk (Nat.not_lt_zero _)⟩
  | i + 1, hi, x, o => by
    have ih := uni_has ha hr hb hrb hc i (by omega)
    have hg := uniN_good ha hr hb.1 i (by omega)
    have h32 := idAt_len b.ids i b.m hb.1 hi
    have step : (uniN a b (i + 1)).has x o ↔ (uniN a b i).has x o ∨ (x = idAt b.ids i ∧ o = b.ops.getD i OpV.zero) := by
      by_cases h : inS (uniN a b i).m (uniN a b i).ids (idAt b.ids i)
      · rw [uniN_yes h]
        refine ⟨.inl, fun k => k.elim id ?_⟩
        rintro ⟨rfl, rfl⟩
        refine (ih _ _).2 (.inl ?_)
        rcases (uni_in ha hr hb.1 i (by omega) _).1 h with h1 | ⟨k, hk, e⟩
        · obtain ⟨u, hu⟩ := has_in.1 h1
          have := clash_no hr hc hu ⟨i, hi, rfl, rfl⟩
          exact this ▸ hu
        · have := rising_inj hrb (by omega) hi e
          omega
      · rw [uniN_no h]
        exact putP_has hg.1 h32 _ x o
    rw [step, ih]
    constructor
    · rintro ((h | ⟨k, hk, e⟩) | e)
      · exact .inl h
      · exact .inr ⟨k, by omega, e⟩
      · exact .inr ⟨i, Nat.lt_succ_self _, e.1.symm, e.2.symm⟩
    · rintro (h | ⟨k, hk, e⟩)
      · exact .inl (.inl h)
      · rcases Nat.lt_or_ge k i with c | c
        · exact .inl (.inr ⟨k, c, e⟩)
        · obtain rfl : k = i := by omega
          exact .inr ⟨e.1.symm, e.2.symm⟩
theorem uni_has' {a b : PG} (ha : a.good) (hr : Rising a.m a.ids) (hb : b.good) (hrb : Rising b.m b.ids) (hc : ¬ clash a b) (x : List Int) (o : OpV) : (uniN a b b.m).has x o ↔ a.has x o ∨ b.has x o := uni_has ha hr hb hrb hc b.m (Nat.le_refl _) x o
theorem uniE_zero {a b : PG} (h : uniE a b = 0) : chkP a = 0 ∧ chkP b = 0 ∧ ¬ clash a b ∧ ¬ 60 < (uniN a b b.m).m := by
  have h1 : chkP a = 0 := Classical.byContradiction fun c => (uniE_1 c).2 h
  have h2 : chkP b = 0 := Classical.byContradiction fun c => (uniE_2 h1 c).2 h
  have h3 : ¬ clash a b := fun c => by rw [uniE_3 h1 h2 c] at h; exact absurd h (by decide)
  exact ⟨h1, h2, h3, fun c => by rw [uniE_4 h1 h2 h3 c] at h; exact absurd h (by decide)⟩
theorem filter_at {α : Type} (P : α → Bool) (d : α) : ∀ (l : List α) (n : Nat), n < (l.filter P).length → ∃ k, k < l.length ∧ l.getD k d = (l.filter P).getD n d ∧ ∀ z ∈ l.take k, P z = true → z ∈ (l.filter P).take n
  | [], n, h => absurd h (Nat.not_lt_zero _)
  | y :: l, n, h => by
    by_cases hp : P y = true
    · rw [List.filter_cons_of_pos hp] at h ⊢
      cases n with
      | zero => exact ⟨0, Nat.succ_pos _, rfl, fun z hz => (by cases hz)⟩
      | succ n =>
        obtain ⟨k, h1, h2, h3⟩ := filter_at P d l n (by simpa using h)
        refine ⟨k + 1, by simpa using h1, h2, fun z hz hq => ?_⟩
        rw [List.take_succ_cons] at hz ⊢
        rcases List.mem_cons.1 hz with e | e
        · exact List.mem_cons.2 (.inl e)
        · exact List.mem_cons.2 (.inr (h3 z e hq))
    · rw [List.filter_cons_of_neg hp] at h ⊢
      obtain ⟨k, h1, h2, h3⟩ := filter_at P d l n h
      refine ⟨k + 1, by simpa using h1, h2, fun z hz hq => ?_⟩
      rw [List.take_succ_cons] at hz
      rcases List.mem_cons.1 hz with e | e
      · subst e; exact absurd hq hp
      · exact h3 z e hq
theorem uni_fine {a b : PG} (ha : a.fine) (hb : b.fine) (hc : ¬ clash a b) (h60 : ¬ 60 < (uniN a b b.m).m) : (uniN a b b.m).fine := by
  have hU := uniN_good ha.good ha.rising hb.good.1 b.m (Nat.le_refl _)
  have hin := uni_in' ha.good ha.rising hb.good.1
  have hhas := uni_has' ha.good ha.rising hb.good hb.rising hc
  obtain ⟨xs, hx⟩ := ha.ord
  obtain ⟨ys, hy⟩ := hb.ord
  refine ⟨hU.1, by omega, hU.2.1, ?_, ?_, ?_⟩
  · intro x o h
    rcases (hhas x o).1 h with h | h
    · exact ha.own x o h
    · exact hb.own x o h
  · intro x o h j hj
    rw [hin]
    rcases (hhas x o).1 h with h | h
    · exact .inl (ha.opens x o h j hj)
    · exact .inr (hb.opens x o h j hj)
  · have hz : ∀ y, y ∈ ys.filter (fun y => decide (y ∉ xs)) ↔ y ∈ ys ∧ y ∉ xs := fun y => by rw [List.mem_filter, decide_eq_true_eq]
    have hnd : (xs ++ ys.filter (fun y => decide (y ∉ xs))).Nodup := List.nodup_append.2 ⟨hx.1, List.Nodup.sublist List.filter_sublist hy.1, fun p hp q hq e => ((hz q).1 hq).2 (e ▸ hp)⟩
    have hsub : ∀ y ∈ xs ++ ys.filter (fun y => decide (y ∉ xs)), inS (uniN a b b.m).m (uniN a b b.m).ids y := fun y hm => by
      rw [hin]
      rcases List.mem_append.1 hm with h | h
      · exact .inl (hx.2.1 y h)
      · exact .inr (hy.2.1 y ((hz y).1 h).1)
    refine ⟨_, hnd, hsub, ?_, fun i hi u hu j hj => ?_⟩
    · have hall : ∀ y ∈ idsP (uniN a b b.m), y ∈ xs ++ ys.filter (fun y => decide (y ∉ xs)) := fun y hm => by
        rcases (hin y).1 (mem_idsP.1 hm) with h | h
        · exact List.mem_append.2 (.inl (ord_all hx h))
        · by_cases c : y ∈ xs
          · exact List.mem_append.2 (.inl c)
          · exact List.mem_append.2 (.inr ((hz y).2 ⟨ord_all hy h, c⟩))
      have h1 := nodup_len (l := (idsP (uniN a b b.m)).map fun y => (xs ++ ys.filter (fun y => decide (y ∉ xs))).idxOf y) (m := List.range (xs ++ ys.filter (fun y => decide (y ∉ xs))).length) (nodup_map_on (fun p hp q hq e => by
          have h1 := List.getElem_idxOf (List.idxOf_lt_length_of_mem (hall p hp))
          have h2 := List.getElem_idxOf (List.idxOf_lt_length_of_mem (hall q hq))
          rw [← h1, ← h2]
          congr 1) (idsP_nodup hU.2.1)) (fun i hi => by
          obtain ⟨y, hm, rfl⟩ := List.mem_map.1 hi
          exact List.mem_range.2 (List.idxOf_lt_length_of_mem (hall y hm)))
      rw [List.length_map, List.length_range] at h1
      simpa [idsP] using h1
    · rw [List.length_append] at hi
      by_cases e : i < xs.length
      · have eg : (xs ++ ys.filter (fun y => decide (y ∉ xs))).getD i [] = xs.getD i [] := by rw [List.getD_eq_getElem?_getD, List.getElem?_append_left e, List.getD_eq_getElem?_getD]
        rw [eg] at hu
        have hmem : xs.getD i [] ∈ xs := by rw [getD_at e]; exact List.getElem_mem e
        obtain ⟨v, hv⟩ := has_in.1 (hx.2.1 _ hmem)
        have hu : a.has (xs.getD i []) u := by
          rcases (hhas _ u).1 hu with h | h
          · exact h
          · exact clash_no ha.rising hc hv h ▸ hv
        rw [List.take_append_of_le_length (by omega)]
        exact hx.2.2.2 i e u hu j hj
      · obtain ⟨n, rfl⟩ : ∃ n, i = xs.length + n := ⟨i - xs.length, by omega⟩
        have hn : n < (ys.filter (fun y => decide (y ∉ xs))).length := by omega
        have eg : (xs ++ ys.filter (fun y => decide (y ∉ xs))).getD (xs.length + n) [] = (ys.filter (fun y => decide (y ∉ xs))).getD n [] := by rw [List.getD_eq_getElem?_getD, List.getElem?_append_right (by omega), List.getD_eq_getElem?_getD, show xs.length + n - xs.length = n by omega]
        rw [eg] at hu
        have hmem : (ys.filter (fun y => decide (y ∉ xs))).getD n [] ∈ ys.filter (fun y => decide (y ∉ xs)) := by rw [getD_at hn]; exact List.getElem_mem hn
        have hnx := ((hz _).1 hmem).2
        have hu : b.has ((ys.filter (fun y => decide (y ∉ xs))).getD n []) u := by
          rcases (hhas _ u).1 hu with h | h
          · exact absurd (ord_all hx (has_in.2 ⟨u, h⟩)) hnx
          · exact h
        obtain ⟨k, hk, e1, e2⟩ := filter_at (fun y => decide (y ∉ xs)) [] ys n hn
        rw [← e1] at hu
        have hp := hy.2.2.2 k hk u hu j hj
        rw [List.take_append, List.mem_append, List.take_of_length_le (by omega), show xs.length + n - xs.length = n by omega]
        by_cases c : idAt u.ids j ∈ xs
        · exact .inl c
        · exact .inr (e2 _ hp (decide_eq_true c))
theorem uniP_fine {a b : PG} (hla : a.ids.length = 32 * a.m) (hlb : b.ids.length = 32 * b.m) (h : uniE a b = 0) : (uniP a b).fine := by
  obtain ⟨h1, h2, h3, h4⟩ := uniE_zero h
  rw [uniP_yes h]
  exact uni_fine ((chkP_fine hla).1 h1) ((chkP_fine hlb).1 h2) h3 h4
/-! comparisons -/
def eqP (a b : PG) : Prop := a.ids = b.ids ∧ a.ops = b.ops
instance (a b : PG) : Decidable (eqP a b) := by unfold eqP; infer_instance
noncomputable def eqB (a b : PG) : Bool := if eqE a b = 0 then decide (eqP a b) else false
theorem eqB_no {a b : PG} (h : eqE a b ≠ 0) : eqB a b = false := if_neg h
theorem eqB_yes {a b : PG} (h : eqE a b = 0) : eqB a b = decide (eqP a b) := if_pos h
end Go.Proofs.YtakbhjagiofbgaaGreatDoor.S
namespace Go.Proofs.YtakbhjagiofbgaaGreatDoor.W
open Go.RowKit Go.Proofs.YtakbhjagiofbgaaGreatDoor.G
set_option linter.unusedVariables false
set_option linter.unusedSimpArgs false
set_option maxRecDepth 20000
set_option maxHeartbeats 8000000
attribute [local irreducible] RS RX RY Code.wp bodyPost J Ent.blk Ent.irow Ent.iown Ent.wrow Ent.wown Ent.grow Ent.gown Ent.all Ent.emp
instance : Ents Tryz.prog 126 := ⟨.mk Tryz.func126 (by kernel_rfl) rfl⟩
instance : Ents Tryz.prog 131 := ⟨.mk Tryz.func131 (by kernel_rfl) rfl⟩
/-- How far a union came. -/
structure UnA where
  (i : Nat) (q : GrA)
theorem uni_ok {a b : S.PG} (ha : ∀ o ∈ a.ops, o.ok) (hb : ∀ i, (b.ops.getD i S.OpV.zero).ok) : ∀ i, ∀ o ∈ (S.uniN a b i).ops, o.ok
  | 0 => ha
  | i + 1 => fun o ho => by
    by_cases h : S.inS (S.uniN a b i).m (S.uniN a b i).ids (S.idAt b.ids i)
    · rw [S.uniN_yes h] at ho
      exact uni_ok ha hb i o ho
    · rw [S.uniN_no h] at ho
      have ho : o ∈ (S.uniN a b i).ops.take _ ++ b.ops.getD i S.OpV.zero :: (S.uniN a b i).ops.drop _ := ho
      rcases List.mem_append.1 ho with k | k
      · exact uni_ok ha hb i o (List.mem_of_mem_take k)
      · rcases List.mem_cons.1 k with e | k
        · rw [e]; exact hb i
        · exact uni_ok ha hb i o (List.mem_of_mem_drop k)
theorem uniE_e {a b : S.PG} (h : S.eqE a b ≠ 0) : S.uniE a b = S.eqE a b := by
  by_cases c : S.chkP a = 0
  · rw [S.eqE_2 c] at h ⊢
    exact (S.uniE_2 c h).1
  · rw [S.eqE_1 c]
    exact (S.uniE_1 c).1
theorem eqE_both {a b : S.PG} (h : S.eqE a b = 0) : S.chkP a = 0 ∧ S.chkP b = 0 := by
  have ca : S.chkP a = 0 := Classical.byContradiction fun c => c ((S.eqE_1 c).symm.trans h)
  exact ⟨ca, (S.eqE_2 ca).symm.trans h⟩
theorem dagEqual {S0 S1 : Nat → Prop} (g h : GrA) (TK : TypeId) (w : World) (K0 : Kst w TK) (G : GrR S0 w g) (H : GrR S1 w h) :
    Calls Tryz.prog 45 #[.agg (grC g).toArray, .agg (grC h).toArray] w (Ret w fun v _ => v = .tuple #[.bool (S.eqB g.P h.P), .int .i64 (S.eqE g.P h.P)]) := by
  have D0 := G.ids
  have D1 := H.ids
  have hcp := G.cap
  have hcp1 := H.cap
  refine J.enter 24 Tryz.func45 rfl rfl ?_
  refine run ?_
  refine J.box rfl rfl rfl fun b1 => ?_
  refine J.box rfl rfl rfl fun b2 => ?_
  refine run ?_
  refine J.b2Gr g h rfl rfl rfl fun b3 => ?_
  refine J.callp rfl rfl (fun w' M => (RG.own' (a := some ⟨b3, 0, none⟩) w' M).elim fun _ k0 => dagChecks _ g h _ w' (K0.ext M.ext) k0 (G.ext M.ext) (H.ext M.ext)) ?_
  refine run ?_
  refine J.ifn rfl (fun c1 => ?_) (fun c1 => ?_)
  · refine run ?_
    refine J.fin ?_
    rw [S.eqB_no c1]
  refine run ?_
  refine J.callp rfl rfl (fun w' M => eqIDs _ _ _ _ _ _ _ _ w' (D0.ext M.ext) (D1.ext M.ext) (by omega) (by omega)) ?_
  refine run ?_
  refine J.spd rfl rfl rfl (fun c2 => ?_) (fun c2 => ?_)
  rotate_left
  · refine run ?_
    refine J.fin ?_
    rw [S.eqB_yes c1, c1, show decide (S.eqP g.P h.P) = false from decide_eq_false fun e => c2 e.1]
  refine run ?_
  refine J.callp rfl rfl (fun w' M => eqOps g h w' (G.ext M.ext) (H.ext M.ext)) ?_
  refine run ?_
  refine J.fin ?_
  rw [S.eqB_yes c1, c1, show decide (S.eqP g.P h.P) = decide (g.ops = h.ops) from decide_eq_decide.2 ⟨fun e => e.2, fun e => ⟨c2, e⟩⟩]
theorem dagUnion {S0 S1 : Nat → Prop} (g h : GrA) (TK : TypeId) (w : World) (K0 : Kst w TK) (G : GrR S0 w g) (H : GrR S1 w h) (hsz : S.chkP g.P = 0 → S.chkP h.P = 0 → ∀ i, i ≤ h.m → (S.uniN g.P h.P i).m ≤ 61) :
    Calls Tryz.prog 43 #[.agg (grC g).toArray, .agg (grC h).toArray] w (Gv w (fun q : GrA => .tuple #[.agg (grC q).toArray, .int .i64 (S.uniE g.P h.P)]) (grE 43 54) (GrP (S.uniP g.P h.P).m (S.uniP g.P h.P).ids (S.uniP g.P h.P).ops)) := by
  have D0 := G.ids
  have G0 := G.ops
  have D1 := H.ids
  have G1 := H.ops
  have hl := G.len
  have hl1 := H.len
  have hcp := G.cap
  have hcp1 := H.cap
  have hlen := D0.len
  have hlen1 := D1.len
  have nil : S.uniE g.P h.P ≠ 0 → GrP (S.uniP g.P h.P).m (S.uniP g.P h.P).ids (S.uniP g.P h.P).ops GrA.nil := fun c => by
    rw [S.uniP_no c]
    exact GrP.nil
  refine J.enter 98 Tryz.func43 rfl rfl ?_
  refine run ?_
  refine J.box rfl rfl rfl fun b1 => ?_
  refine J.box rfl rfl rfl fun b2 => ?_
  refine J.alloc rfl fun b4 => ?_
  refine run ?_
  refine J.b2Gr g h rfl rfl rfl fun b3 => ?_
  refine J.callp rfl rfl (fun w' M => (RG.own' (a := some ⟨b3, 0, none⟩) w' M).elim fun _ k0 => dagChecks _ g h _ w' (K0.ext M.ext) k0 (G.ext M.ext) (H.ext M.ext)) ?_
  refine run ?_
  refine J.ifn rfl (fun c1 => ?_) (fun c1 => ?_)
  · refine run ?_
    have he := uniE_e c1
    refine J.nilGr 43 54 ?_
    refine J.finG GrA.nil ?_ (nil (by rw [he]; exact c1)) ?_
    · rw [he]; rfl
    · unfold grE GrA.nil; repeat (first | exact List.nil_sublist _ | refine List.Sublist.cons_cons _ ?_ | refine List.Sublist.cons _ ?_)
  obtain ⟨ca, cb⟩ := eqE_both c1
  have hza := S.chkG_zero.1 (show S.chkG g.m g.ids g.ops = 0 from ca)
  have hzb := S.chkG_zero.1 (show S.chkG h.m h.ids h.ops = 0 from cb)
  have hrisa := hza.2.2.2.1
  have hrisb := hzb.2.2.2.1
  have hsz := hsz ca cb
  have hgoodg : g.P.good := ⟨hlen, hza.2.1.symm⟩
  refine run ?_
  refine J.loopS (A := Int) (fun p => [(27, .int .i64 p)]) [5, 7, 8, 9, 10, 28, 29, 30, 31, 32, 33, 34, 35, 36, 37, 38, 39, 40, 41, 42, 43, 44, 45, 46, 47, 48, 49, 50, 51, 52, 53, 54] (fun p => (0 ≤ p ∧ p ≤ h.m) ∧ ∀ i, i < p.toNat → S.inS g.m g.ids (S.idAt h.ids i) → g.ops.getD (S.ixS g.m g.ids (S.idAt h.ids i)) S.OpV.zero = h.ops.getD i S.OpV.zero) (fun p => h.m - p.toNat) 0 (by kernel_rfl) ⟨by omega, fun i hi => by omega⟩ (fun p j hI => ?_)
  obtain ⟨h1, hI⟩ := hI
  refine run ?_
  refine J.ifd rfl (fun c2 => ?_) (fun c2 => ?_)
  · have next : ∀ {i : Nat}, i < (p + 1).toNat → (S.inS g.m g.ids (S.idAt h.ids p.toNat) → g.ops.getD (S.ixS g.m g.ids (S.idAt h.ids p.toNat)) S.OpV.zero = h.ops.getD p.toNat S.OpV.zero) → S.inS g.m g.ids (S.idAt h.ids i) → g.ops.getD (S.ixS g.m g.ids (S.idAt h.ids i)) S.OpV.zero = h.ops.getD i S.OpV.zero := fun {i} hi k => by
      rcases Nat.lt_or_ge i p.toNat with e | e
      · exact hI i e
      · obtain rfl : i = p.toNat := by omega
        exact k
    refine run ?_
    refine J.alloc rfl fun b8 => ?_
    refine run ?_
    refine J.callp rfl rfl (fun w' M => dagFind g _ w' (D0.ext M.ext) (D1.elt_arr (by omega)) hrisa hcp.2.2.1) ?_
    refine run ?_
    refine J.regionX [(0, .q), (1, .q), (2, .q), (3, .q), (4, .q), (5, .q), (6, .q), (7, .q), (8, .q), (9, .q), (10, .q), (11, .q), (12, .e), (13, .q), (14, .q)] mixed (by kernel_rfl) ?_
    refine run ?_
    refine J.spd rfl rfl rfl (fun c3 => ?_) (fun c3 => ?_)
    rotate_left
    · refine run ?_
      exact J.nextS (p + 1) ⟨rfl, trivial⟩ (by kernel_rfl) ⟨by omega, fun i hi => next hi fun k => absurd k c3⟩ (by omega)
    have hsx := S.spotS_ix hrisa c3
    have hix := (S.ix_in c3).1
    rw [← hsx] at hix
    obtain ⟨z, hzz⟩ := G0.ex (i := (S.spotS g.m g.ids (elt 32 h.ids p.toNat) : Nat)) (by omega)
    obtain ⟨y, hyy⟩ := G1.ex (i := p) (by omega)
    have R := G.op hzz
    have R1 := H.op hyy
    have hzo := GrA.opAt hzz
    have hyo := GrA.opAt hyy
    rw [Int.toNat_natCast, hsx] at hzo
    have hse := S.sameO_eq (a := z.o) (b := y.o) R.row.len R1.row.len
    refine run ?_
    refine J.callp rfl rfl (fun w' M => dagSame z y w' (R.ext M.ext) (R1.ext M.ext)) ?_
    refine run ?_
    refine J.ifnot rfl (fun c4 => ?_) (fun c4 => ?_)
    · have c4 := of_decide_eq_false c4
      refine run ?_
      have he := S.uniE_3 ca cb ⟨p.toNat, show p.toNat < h.m by omega, c3, fun e => c4 (hse.2 (by rw [← hzo, ← hyo]; exact e))⟩
      refine J.nilGr 43 54 ?_
      refine J.finG GrA.nil ?_ (nil (by rw [he]; decide)) ?_
      · rw [he]; rfl
      · unfold grE GrA.nil; repeat (first | exact List.nil_sublist _ | refine List.Sublist.cons_cons _ ?_ | refine List.Sublist.cons _ ?_)
    · have c4 := hse.1 (of_decide_eq_true c4)
      refine run ?_
      exact J.nextS (p + 1) ⟨rfl, trivial⟩ (by kernel_rfl) ⟨by omega, fun i hi => next hi fun _ => by rw [hyo, ← c4]; exact hzo⟩ (by omega)
  have hnc : ¬ S.clash g.P h.P := fun ⟨i, hi, k1, k2⟩ => k2 (hI i (by have : i < h.m := hi; omega) k1)
  refine run ?_
  refine J.call rfl rfl (fun w' M => cloneW _ _ _ _ w' (D0.ext M.ext) hcp.1 (by omega)) fun q hq => ?_
  refine run ?_
  refine J.alloc rfl fun b11 => ?_
  refine run ?_
  refine J.noA (J.nilG opC 11 54 opC_len ?_)
  refine J.drop (E := [.gown opC 11 54 none 0 0 [], .all [], .blk b11 [.slice q.1 g.m q.2, .slice none 0 0] 25, .wown 43 .u8 32 q.1 g.m q.2 g.ids, .blk b4 [.slice none 0 0, .slice none 0 0] 25, .blk b2 (grC h) 25, .blk b1 (grC g) 25]) (by repeat (first | exact List.nil_sublist _ | refine List.Sublist.cons_cons _ ?_ | refine List.Sublist.cons _ ?_)) ?_
  refine J.loop (A := GtA) (fun p => [(62, .int .i64 (p.n : Nat))]) [13, 63, 64, 65, 66, 67, 68, 69, 70, 71, 72, 73] (fun p => [.gown opC 11 54 p.a p.n p.c p.zs, .all (p.zs.map (opE 43)), .blk b11 [.slice q.1 g.m q.2, .slice p.a p.n p.c] 25, .wown 43 .u8 32 q.1 g.m q.2 g.ids, .blk b4 [.slice none 0 0, .slice none 0 0] 25, .blk b2 (grC h) 25, .blk b1 (grC g) 25]) (fun p => p.n ≤ g.n ∧ p.zs.map OpA.o = g.ops.take p.n ∧ ∀ z ∈ p.zs, z.o.n ≤ z.pc) (fun p => g.n - p.n) ⟨0, none, 0, []⟩ (by kernel_rfl) ⟨Nat.zero_le _, rfl, fun z hz => (by cases hz)⟩ (fun p j2 hI => ?_)
  obtain ⟨hI1, hI2, hI3⟩ := hI
  refine run ?_
  refine J.ifd rfl (fun c5 => ?_) (fun c5 => ?_)
  · obtain ⟨z, hzz⟩ := G0.ex (i := (p.n : Nat)) (by omega)
    have R := G.op hzz
    have hzz' := hzz
    rw [Int.toNat_natCast] at hzz'
    have hzo := GrA.opAt hzz'
    refine run ?_
    refine J.alloc rfl fun b13 => ?_
    refine run ?_
    refine J.regionX [(0, .q), (1, .q), (2, .q), (3, .e), (4, .e), (5, .g), (6, .q), (7, .g)] mixed (by kernel_rfl) ?_
    refine run ?_
    refine J.call rfl rfl (fun w' M => dagTwin z w' (R.ext M.ext)) fun u hu => ?_
    refine J.b1G opC ⟨z.o, u.1, u.2⟩ opC_len rfl rfl rfl fun bb => ?_
    refine J.apG rfl rfl RG.own' opC_one fun a' c' => ?_
    refine run ?_
    refine J.snocA (p.zs.map (opE 43)) (.wown 43 .u8 32 u.1 z.o.n u.2 z.o.ids) ?_
    refine J.drop (E := [.gown opC 11 54 a' (p.n + 1) c' (p.zs ++ [(⟨z.o, u.1, u.2⟩ : OpA)]), .all (p.zs.map (opE 43) ++ [.wown 43 .u8 32 u.1 z.o.n u.2 z.o.ids]), .blk b11 [.slice q.1 g.m q.2, .slice a' (p.n + 1) c'] 25, .wown 43 .u8 32 q.1 g.m q.2 g.ids, .blk b4 [.slice none 0 0, .slice none 0 0] 25, .blk b2 (grC h) 25, .blk b1 (grC g) 25]) (by repeat (first | exact List.nil_sublist _ | refine List.Sublist.cons_cons _ ?_ | refine List.Sublist.cons _ ?_)) ?_
    refine J.re (.all (p.zs.map (opE 43) ++ [.wown 43 .u8 32 u.1 z.o.n u.2 z.o.ids])) (.all ((p.zs ++ [(⟨z.o, u.1, u.2⟩ : OpA)]).map (opE 43))) (fun _ _ h => by rw [List.map_append]; exact h) ?_
    exact J.next ⟨p.n + 1, a', c', p.zs ++ [⟨z.o, u.1, u.2⟩]⟩ ⟨rfl, trivial⟩ (by kernel_rfl) ⟨by dsimp only; omega, by dsimp only; rw [List.map_append, hI2, List.take_add_one, S.op_at (by omega), hzo]; rfl, fun y hy => by
      rcases List.mem_append.1 hy with h | h
      · exact hI3 y h
      · rw [List.mem_singleton] at h; subst h; exact hu⟩ (by dsimp only; omega)
  have hpn : p.n = g.n := by omega
  refine run ?_
  refine J.loop (A := UnA) (fun u => [(77, .int .i64 (u.i : Nat))]) [14, 15, 78, 79, 80, 81, 82, 83, 84, 85, 86, 87, 88, 89, 90, 91, 92, 93] (fun u => [.gown opC 11 54 u.q.oa u.q.n u.q.oc u.q.zs, .all (u.q.zs.map (opE 43)), .blk b11 (grC u.q) 25, .wown 43 .u8 32 u.q.ia u.q.m u.q.ic u.q.ids, .blk b4 [.slice none 0 0, .slice none 0 0] 25, .blk b2 (grC h) 25, .blk b1 (grC g) 25]) (fun u => u.i ≤ h.m ∧ GrP (S.uniN g.P h.P u.i).m (S.uniN g.P h.P u.i).ids (S.uniN g.P h.P u.i).ops u.q) (fun u => h.m - u.i) ⟨0, ⟨q.1, p.a, g.m, p.n, q.2, p.c, g.ids, p.zs⟩⟩ (by kernel_rfl) ⟨Nat.zero_le _, ⟨rfl, rfl, by dsimp only [S.uniN]; omega, by show p.zs.map OpA.o = _; rw [hI2, List.take_of_length_le (by omega)]; rfl, hI3⟩⟩ (fun u j3 hU => ?_)
  obtain ⟨hU1, hU2⟩ := hU
  have hug := S.uniN_good (a := g.P) (b := h.P) hgoodg hrisa hlen1 u.i hU1
  have hus := hsz u.i hU1
  have hun : u.q.n = u.q.m := by have := hU2.n; have := hU2.m; have := hug.1.2; omega
  have hum : u.q.m ≤ 61 := by have := hU2.m; omega
  have huok := hU2.ok (uni_ok (a := g.P) (b := h.P) G.opz H.zok u.i)
  have hur : S.Rising u.q.m u.q.ids := by rw [hU2.m, hU2.ids]; exact hug.2.1
  refine run ?_
  refine J.ifd rfl (fun c6 => ?_) (fun c6 => ?_)
  · obtain ⟨z, hz⟩ := G1.ex (i := (u.i : Nat)) (by omega)
    have R := H.op hz
    have hz' := hz
    rw [Int.toNat_natCast] at hz'
    have hzo := GrA.opAt hz'
    refine run ?_
    refine J.alloc rfl fun b15 => ?_
    refine run ?_
    refine J.regionX [(0, .q), (1, .q), (2, .q), (3, .q), (4, .q), (5, .q), (6, .q), (7, .e), (8, .q), (9, .q), (10, .c), (11, .g)] mixed (by kernel_rfl) ?_
    refine run ?_
    by_cases hin : S.inS u.q.m u.q.ids (elt 32 h.ids u.i)
    · refine J.callp rfl rfl (fun w' M => dagPutIn (S1 := S0) u.q _ z w' (GrR.own huok hU2.cap (by omega) w' M) (D1.elt_arr (by omega)) hur hin) ?_
      refine run ?_
      have hin2 : S.inS (S.uniN g.P h.P u.i).m (S.uniN g.P h.P u.i).ids (S.idAt h.P.ids u.i) := by rw [← hU2.m, ← hU2.ids]; exact hin
      exact J.next ⟨u.i + 1, u.q⟩ ⟨rfl, trivial⟩ (by kernel_rfl) ⟨by dsimp only; omega, by rw [S.uniN_yes hin2]; exact hU2⟩ (by dsimp only; omega)
    · have hin2 : ¬ S.inS (S.uniN g.P h.P u.i).m (S.uniN g.P h.P u.i).ids (S.idAt h.P.ids u.i) := by rw [← hU2.m, ← hU2.ids]; exact hin
      have hno := S.uniN_no hin2
      have hus2 := hsz (u.i + 1) (by omega)
      have hm1 : (S.uniN g.P h.P (u.i + 1)).m = (S.uniN g.P h.P u.i).m + 1 := by rw [hno]; rfl
      refine J.call rfl rfl (fun w' M => dagPut u.q _ z w' (GrR.own huok hU2.cap (by omega) w' M) (D1.elt_arr (by omega)) hur hin (R.ext M.ext) hun (by have := hU2.m; omega)) fun v hv => ?_
      dsimp only [grE, List.cons_append, List.nil_append]
      refine run ?_
      have hv2 : GrP (S.uniN g.P h.P (u.i + 1)).m (S.uniN g.P h.P (u.i + 1)).ids (S.uniN g.P h.P (u.i + 1)).ops v := by
        rw [hno]
        rw [hU2.m, hU2.ids, hU2.ops] at hv
        have e : h.P.ops.getD u.i S.OpV.zero = z.o := hzo
        rw [e]
        exact hv
      refine J.front (.wown 43 .u8 32 v.ia v.m v.ic v.ids) ?_
      refine J.front (.blk b11 (grC v) 25) ?_
      refine J.front (.all (v.zs.map (opE 43))) ?_
      refine J.front (.gown opC 11 54 v.oa v.n v.oc v.zs) ?_
      exact J.next ⟨u.i + 1, v⟩ ⟨rfl, trivial⟩ (by kernel_rfl) ⟨by dsimp only; omega, hv2⟩ (by dsimp only; omega)
  have hui : u.i = h.m := by omega
  rw [hui] at hU2
  have hum2 : u.q.m = (S.uniN g.P h.P h.P.m).m := hU2.m
  refine run ?_
  refine J.ifd rfl (fun c7 => ?_) (fun c7 => ?_)
  · refine run ?_
    have he := S.uniE_4 ca cb hnc (by omega)
    refine J.nilGr 43 54 ?_
    refine J.finG GrA.nil ?_ (nil (by rw [he]; decide)) ?_
    · rw [he]; rfl
    · unfold grE GrA.nil; repeat (first | exact List.nil_sublist _ | refine List.Sublist.cons_cons _ ?_ | refine List.Sublist.cons _ ?_)
  refine run ?_
  have he := S.uniE_0 ca cb hnc (by omega)
  have hu2 : GrP (S.uniP g.P h.P).m (S.uniP g.P h.P).ids (S.uniP g.P h.P).ops u.q := by rw [S.uniP_yes he]; exact hU2
  refine J.finG u.q ?_ hu2 ?_
  · rw [he]
  · unfold grE; repeat (first | exact List.nil_sublist _ | refine List.Sublist.cons_cons _ ?_ | refine List.Sublist.cons _ ?_)
end Go.Proofs.YtakbhjagiofbgaaGreatDoor.W
namespace Go.Proofs.YtakbhjagiofbgaaGreatDoor.W
open Go.RowKit Go.Proofs.YtakbhjagiofbgaaGreatDoor.G
set_option linter.unusedVariables false
set_option linter.unusedSimpArgs false
set_option maxRecDepth 20000
set_option maxHeartbeats 8000000
attribute [local irreducible] RS RX RY Code.wp bodyPost J Ent.blk Ent.irow Ent.iown Ent.wrow Ent.wown Ent.grow Ent.gown Ent.all Ent.emp
instance : Ents Tryz.prog 112 := ⟨.mk Tryz.func112 (by kernel_rfl) rfl⟩
instance : Ents Tryz.prog 14 := ⟨.mk Tryz.func14 (by kernel_rfl) rfl⟩
instance : Ents Tryz.prog 102 := ⟨.mk Tryz.func102 (by kernel_rfl) rfl⟩
instance : Ents Tryz.prog 124 := ⟨.mk Tryz.func124 (by kernel_rfl) rfl⟩
instance : Ents Tryz.prog 18 := ⟨.mk Tryz.func18 (by kernel_rfl) rfl⟩
instance : Ents Tryz.prog 13 := ⟨.mk Tryz.func13 (by kernel_rfl) rfl⟩
theorem wrow_grow {S0 : Nat → Prop} {w : World} {a : Option Addr} {n : Nat} {xs : List Int} {l : List IdV} (he : flatI l = xs) (hn : l.length = n) (h : WRow .u8 32 S0 w a n xs) : GRow idC 32 S0 w a n l := ⟨by rw [flatI_cells, he]; exact h.row, hn, idC_len⟩
theorem rgTake {α : Type} {S0 : Nat → Prop} {w0 : World} {L : List Ent} {f : α → List Value} {sz n : Nat} {a : Option Addr} {lst : List α} (h : RG S0 w0 L f sz a n lst) (p c : Nat) (hp : p ≤ n) (hc : p ≤ c) : RG S0 w0 L f sz (subA a 0 sz c) p (lst.take p) := by
  have := h.sub 0 p c hp (Nat.zero_le _) hc
  simpa using this
theorem rgDrop {α : Type} {S0 : Nat → Prop} {w0 : World} {L : List Ent} {f : α → List Value} {sz n : Nat} {a : Option Addr} {lst : List α} (h : RG S0 w0 L f sz a n lst) (p c : Nat) (hp : p ≤ n) (hc : n ≤ c) (hl : lst.length = n) : RG S0 w0 L f sz (subA a p sz c) (n - p) (lst.drop p) := by
  have := h.sub p n c (Nat.le_refl _) hp hc
  rwa [List.take_of_length_le (by rw [List.length_drop]; omega)] at this
theorem insO_map (zs : List OpA) (p : Nat) (z : OpA) : (zs.take p ++ z :: zs.drop p).map OpA.o = S.insO (zs.map OpA.o) p z.o := by
  unfold S.insO
  rw [List.map_append, List.map_cons, List.map_take, List.map_drop]
theorem refPut {S0 S1 : Nat → Prop} (g : GrA) (x : List Int) (z : OpA) (w : World) (G : GrR S0 w g) (hx : Arr .u8 32 x) (RZ : OpR S1 w z) (hmn : g.n = g.m) (hm : g.m ≤ 61) :
    Calls Tryz.prog 124 #[.agg (grC g).toArray, .agg (ints .u8 x).toArray, .agg (opC z).toArray] w (Gv w (fun q : GrA => .agg (grC q).toArray) (grE 43 54) (GrP (g.m + 1) (S.insW g.ids (S.spotS g.m g.ids x) x) (S.insO g.ops (S.spotS g.m g.ids x) z.o))) := by
  have D0 := G.ids
  have G0 := G.ops
  have hl := G.len
  have hcp := G.cap
  have hzl := G0.len
  obtain ⟨ids, hl1, hl2⟩ := chunks g.m g.ids D0.len
  have GI := wrow_grow hl2 hl1 D0
  refine J.enter 56 Tryz.func124 rfl rfl ?_
  refine run ?_
  refine J.box rfl rfl rfl fun b1 => ?_
  refine J.box rfl rfl rfl fun b2 => ?_
  refine J.box rfl rfl rfl fun b3 => ?_
  refine J.alloc rfl fun b4 => ?_
  refine run ?_
  refine J.alloc rfl fun b7 => ?_
  refine run ?_
  refine J.loopS (A := Int) (fun p => [(8, .int .i64 p)]) [10, 11, 12, 13, 14, 15, 16, 17, 18, 19, 20, 21, 22, 23, 24, 25, 26] (fun p => (0 ≤ p ∧ p ≤ g.m) ∧ ∀ i, i < p.toNat → S.cmpS (S.idAt g.ids i) x < 0) (fun p => g.m - p.toNat) 0 (by kernel_rfl) ⟨by omega, fun i hi => by omega⟩ (fun p j hI => ?_)
  obtain ⟨h1, hI⟩ := hI
  refine run ?_
  refine J.joinX (A := Bool) (fun u => [(24, .bool u)]) [10, 11, 12, 13, 14, 15, 16, 17, 18, 19, 20, 21, 22, 23] (fun _ => [.blk b7 [.slice none 0 0, .slice none 0 0] 25, .blk b4 [.slice none 0 0, .slice none 0 0] 25, .blk b3 (opC z) 54, .blk b2 (ints .u8 x) 43, .blk b1 (grC g) 25]) (fun u => u = decide (p < g.m ∧ S.cmpS (S.idAt g.ids p.toNat) x < 0)) ?_ (fun u j2 hu => ?_)
  · refine J.regionX [(0, .q), (1, .q), (2, .q), (3, .q), (4, .q), (5, .q), (6, .q), (7, .q), (8, .q), (9, .q), (10, .q), (11, .q), (12, .e), (13, .q), (14, .q)] mixed (by kernel_rfl) ?_
    refine run ?_
    refine J.spd rfl rfl rfl (fun c1 => ?_) (fun c1 => ?_)
    · refine run ?_
      refine J.callp rfl rfl (fun w' M => rcmp _ _ (D0.elt_arr (by omega)) hx w') ?_
      refine run ?_
      exact J.cut _ ⟨rfl, trivial⟩ (by kernel_rfl) (decide_eq_decide.2 ⟨fun h => ⟨c1, h⟩, fun h => h.2⟩)
    · refine run ?_
      exact J.cut _ ⟨rfl, trivial⟩ (by kernel_rfl) (decide_eq_false fun h => c1 h.1).symm
  subst hu
  refine run ?_
  refine J.ifd rfl (fun c2 => ?_) (fun c2 => ?_)
  · refine run ?_
    refine J.nextS (p + 1) ⟨rfl, trivial⟩ (by kernel_rfl) ⟨by omega, fun i hi => ?_⟩ (by omega)
    rcases Nat.lt_or_ge i p.toNat with e | e
    · exact hI i e
    · obtain rfl : i = p.toNat := by omega
      exact c2.2
  have hsp : S.spotS g.m g.ids x = p.toNat := S.spotC_eq (by omega) hI fun hlt => by
    have : ¬ S.cmpS (S.idAt g.ids p.toNat) x < 0 := fun e => c2 ⟨by omega, e⟩
    show 0 ≤ S.cmpS (S.idAt g.ids p.toNat) x
    omega
  rw [hsp]
  have hcv : flatI (ids.take p.toNat ++ (⟨x, hx.1⟩ : IdV) :: ids.drop p.toNat) = S.insW g.ids p.toNat x := by rw [flatI_ins, hl2]
  have hbd : Bd .u8 (S.insW g.ids p.toNat x) := ins_bd D0.bd hx.2
  have hnn : p.toNat + 1 + (g.m - p.toNat) = g.m + 1 := by omega
  have hnn2 : p.toNat + 1 + (g.n - p.toNat) = g.m + 1 := by omega
  refine run ?_
  refine J.joinX (A := Option Addr × Nat) (fun u => []) [27, 28, 29, 30, 31, 32, 33, 34, 35, 36, 37, 38, 39, 40, 41] (fun u => [.blk b7 [.slice u.1 (g.m + 1) u.2, .slice none 0 0] 25, .wown 43 .u8 32 u.1 (g.m + 1) u.2 (S.insW g.ids p.toNat x), .blk b4 [.slice none 0 0, .slice none 0 0] 25, .blk b3 (opC z) 54, .blk b2 (ints .u8 x) 43, .blk b1 (grC g) 25]) (fun _ => True) ?_ (fun u j3 _ => ?_)
  · refine J.regionW [.blk b2 (ints .u8 x) 43, .blk b1 (grC g) 25] mixed ?_
    refine J.wnode [(1, .q), (2, .q), (3, .q), (4, .q), (6, .q), (9, .q), (10, .q), (11, .q), (12, .q)] [0, 7] 6 #[false, true, true, true, true, false, true, false, false, true, true, true, true, false, false, false] (by kernel_rfl) ?_
    refine run ?_
    refine J.nil ?_
    refine J.wbr ?_ ?_
    · refine J.b0G idC idC_len rfl fun bi => ?_
      refine J.nil ?_
      refine J.wnode [] [5, 7] 5 #[true, true, true, true, true, false, true, false, false, true, true, true, true, false, false, false] (by kernel_rfl) ?_
      refine run ?_
      refine J.nil ?_
      refine J.wbr ?_ ?_
      · refine J.apG (n2 := p.toNat) rfl rfl (rgTake (RG.arg GI) p.toNat g.ic (by omega) (by omega)) idC_one fun a1 c1 => ?_
        rw [Nat.zero_add p.toNat, List.nil_append (ids.take p.toNat)]
        refine J.nil ?_
        refine J.wfin [(7, .e), (8, .e), (13, .e), (14, .q), (15, .e)] (by kernel_rfl) ?_
        refine run ?_
        refine J.b1G idC ⟨x, hx.1⟩ idC_len rfl rfl rfl fun bx => ?_
        refine run ?_
        refine J.apG rfl rfl RG.own' idC_one fun a2 c2 => ?_
        refine run ?_
        refine J.apG (n2 := g.m - p.toNat) rfl rfl (rgDrop (RG.arg GI) p.toNat g.ic (by omega) (by omega) hl1) idC_one fun a3 c3 => ?_
        rw [hnn, List.append_assoc (ids.take p.toNat) [(⟨x, hx.1⟩ : IdV)] (ids.drop p.toNat), List.singleton_append (x := (⟨x, hx.1⟩ : IdV)) (l := ids.drop p.toNat)]
        refine run ?_
        refine run ?_
        refine J.re (.gown idC 32 43 a3 (g.m + 1) c3 (ids.take p.toNat ++ (⟨x, hx.1⟩ : IdV) :: ids.drop p.toNat)) (.wown 43 .u8 32 a3 (g.m + 1) c3 (S.insW g.ids p.toNat x)) (fun _ _ h => hcv ▸ gown_wown (hcv.symm ▸ hbd) h) ?_
        refine J.front (.wown 43 .u8 32 a3 (g.m + 1) c3 (S.insW g.ids p.toNat x)) ?_
        refine J.front (.blk b7 [.slice a3 (g.m + 1) c3, .slice none 0 0] 25) ?_
        exact J.cut (a3, c3) trivial (by kernel_rfl) trivial
      refine J.wbr ?_ ?_
      · refine J.b1G idC ⟨x, hx.1⟩ idC_len rfl rfl rfl fun bx => ?_
        refine J.nil ?_
        refine J.wfin [(5, .e), (8, .e), (13, .e), (14, .q), (15, .e)] (by kernel_rfl) ?_
        refine run ?_
        refine J.apG (n2 := p.toNat) rfl rfl (rgTake (RG.arg GI) p.toNat g.ic (by omega) (by omega)) idC_one fun a1 c1 => ?_
        rw [Nat.zero_add p.toNat, List.nil_append (ids.take p.toNat)]
        refine run ?_
        refine J.apG rfl rfl RG.own' idC_one fun a2 c2 => ?_
        refine run ?_
        refine J.apG (n2 := g.m - p.toNat) rfl rfl (rgDrop (RG.arg GI) p.toNat g.ic (by omega) (by omega) hl1) idC_one fun a3 c3 => ?_
        rw [hnn, List.append_assoc (ids.take p.toNat) [(⟨x, hx.1⟩ : IdV)] (ids.drop p.toNat), List.singleton_append (x := (⟨x, hx.1⟩ : IdV)) (l := ids.drop p.toNat)]
        refine run ?_
        refine run ?_
        refine J.re (.gown idC 32 43 a3 (g.m + 1) c3 (ids.take p.toNat ++ (⟨x, hx.1⟩ : IdV) :: ids.drop p.toNat)) (.wown 43 .u8 32 a3 (g.m + 1) c3 (S.insW g.ids p.toNat x)) (fun _ _ h => hcv ▸ gown_wown (hcv.symm ▸ hbd) h) ?_
        refine J.front (.wown 43 .u8 32 a3 (g.m + 1) c3 (S.insW g.ids p.toNat x)) ?_
        refine J.front (.blk b7 [.slice a3 (g.m + 1) c3, .slice none 0 0] 25) ?_
        exact J.cut (a3, c3) trivial (by kernel_rfl) trivial
      exact J.wbr0
    refine J.wbr ?_ ?_
    · refine J.b1G idC ⟨x, hx.1⟩ idC_len rfl rfl rfl fun bx => ?_
      refine J.nil ?_
      refine J.wfin [(0, .e), (5, .e), (8, .e), (13, .e), (14, .q), (15, .e)] (by kernel_rfl) ?_
      refine run ?_
      refine J.b0G idC idC_len rfl fun bi => ?_
      refine run ?_
      refine J.apG (n2 := p.toNat) rfl rfl (rgTake (RG.arg GI) p.toNat g.ic (by omega) (by omega)) idC_one fun a1 c1 => ?_
      rw [Nat.zero_add p.toNat, List.nil_append (ids.take p.toNat)]
      refine run ?_
      refine J.apG rfl rfl RG.own' idC_one fun a2 c2 => ?_
      refine run ?_
      refine J.apG (n2 := g.m - p.toNat) rfl rfl (rgDrop (RG.arg GI) p.toNat g.ic (by omega) (by omega) hl1) idC_one fun a3 c3 => ?_
      rw [hnn, List.append_assoc (ids.take p.toNat) [(⟨x, hx.1⟩ : IdV)] (ids.drop p.toNat), List.singleton_append (x := (⟨x, hx.1⟩ : IdV)) (l := ids.drop p.toNat)]
      refine run ?_
      refine run ?_
      refine J.re (.gown idC 32 43 a3 (g.m + 1) c3 (ids.take p.toNat ++ (⟨x, hx.1⟩ : IdV) :: ids.drop p.toNat)) (.wown 43 .u8 32 a3 (g.m + 1) c3 (S.insW g.ids p.toNat x)) (fun _ _ h => hcv ▸ gown_wown (hcv.symm ▸ hbd) h) ?_
      refine J.front (.wown 43 .u8 32 a3 (g.m + 1) c3 (S.insW g.ids p.toNat x)) ?_
      refine J.front (.blk b7 [.slice a3 (g.m + 1) c3, .slice none 0 0] 25) ?_
      exact J.cut (a3, c3) trivial (by kernel_rfl) trivial
    exact J.wbr0
  obtain ⟨ia, ic⟩ := u
  dsimp only
  refine run ?_
  refine J.joinX (A := Option Addr × Nat) (fun u => []) [42, 43, 44, 45, 46, 47, 48, 49, 50, 51, 52, 53, 54, 55, 56] (fun u => [.blk b7 [.slice ia (g.m + 1) ic, .slice u.1 (g.m + 1) u.2] 25, .gown opC 11 54 u.1 (g.m + 1) u.2 (g.zs.take p.toNat ++ z :: g.zs.drop p.toNat), .wown 43 .u8 32 ia (g.m + 1) ic (S.insW g.ids p.toNat x), .blk b4 [.slice none 0 0, .slice none 0 0] 25, .blk b3 (opC z) 54, .blk b2 (ints .u8 x) 43, .blk b1 (grC g) 25]) (fun _ => True) ?_ (fun u j4 _ => ?_)
  · refine J.regionW [.blk b3 (opC z) 54, .blk b1 (grC g) 25] mixed ?_
    refine J.wnode [(1, .q), (2, .q), (3, .q), (4, .q), (6, .q), (9, .q), (10, .q), (11, .q), (12, .q)] [0, 7] 6 #[false, true, true, true, true, false, true, false, false, true, true, true, true, false, false, false] (by kernel_rfl) ?_
    refine run ?_
    refine J.nil ?_
    refine J.wbr ?_ ?_
    · refine J.b0G opC opC_len rfl fun bi => ?_
      refine J.nil ?_
      refine J.wnode [] [5, 7] 5 #[true, true, true, true, true, false, true, false, false, true, true, true, true, false, false, false] (by kernel_rfl) ?_
      refine run ?_
      refine J.nil ?_
      refine J.wbr ?_ ?_
      · refine J.apG (n2 := p.toNat) rfl rfl (rgTake (RG.arg G0) p.toNat g.oc (by omega) (by omega)) opC_one fun a1 c1 => ?_
        rw [Nat.zero_add p.toNat, List.nil_append (g.zs.take p.toNat)]
        refine J.nil ?_
        refine J.wfin [(7, .e), (8, .e), (13, .e), (14, .q), (15, .e)] (by kernel_rfl) ?_
        refine run ?_
        refine J.b1G opC z opC_len rfl rfl rfl fun bx => ?_
        refine run ?_
        refine J.apG rfl rfl RG.own' opC_one fun a2 c2 => ?_
        refine run ?_
        refine J.apG (n2 := g.n - p.toNat) rfl rfl (rgDrop (RG.arg G0) p.toNat g.oc (by omega) (by omega) hzl) opC_one fun a3 c3 => ?_
        rw [hnn2, List.append_assoc (g.zs.take p.toNat) [z] (g.zs.drop p.toNat), List.singleton_append (x := z) (l := g.zs.drop p.toNat)]
        refine run ?_
        refine run ?_
        refine J.front (.wown 43 .u8 32 ia (g.m + 1) ic (S.insW g.ids p.toNat x)) ?_
        refine J.front (.gown opC 11 54 a3 (g.m + 1) c3 (g.zs.take p.toNat ++ z :: g.zs.drop p.toNat)) ?_
        refine J.front (.blk b7 [.slice ia (g.m + 1) ic, .slice a3 (g.m + 1) c3] 25) ?_
        exact J.cut (a3, c3) trivial (by kernel_rfl) trivial
      refine J.wbr ?_ ?_
      · refine J.b1G opC z opC_len rfl rfl rfl fun bx => ?_
        refine J.nil ?_
        refine J.wfin [(5, .e), (8, .e), (13, .e), (14, .q), (15, .e)] (by kernel_rfl) ?_
        refine run ?_
        refine J.apG (n2 := p.toNat) rfl rfl (rgTake (RG.arg G0) p.toNat g.oc (by omega) (by omega)) opC_one fun a1 c1 => ?_
        rw [Nat.zero_add p.toNat, List.nil_append (g.zs.take p.toNat)]
        refine run ?_
        refine J.apG rfl rfl RG.own' opC_one fun a2 c2 => ?_
        refine run ?_
        refine J.apG (n2 := g.n - p.toNat) rfl rfl (rgDrop (RG.arg G0) p.toNat g.oc (by omega) (by omega) hzl) opC_one fun a3 c3 => ?_
        rw [hnn2, List.append_assoc (g.zs.take p.toNat) [z] (g.zs.drop p.toNat), List.singleton_append (x := z) (l := g.zs.drop p.toNat)]
        refine run ?_
        refine run ?_
        refine J.front (.wown 43 .u8 32 ia (g.m + 1) ic (S.insW g.ids p.toNat x)) ?_
        refine J.front (.gown opC 11 54 a3 (g.m + 1) c3 (g.zs.take p.toNat ++ z :: g.zs.drop p.toNat)) ?_
        refine J.front (.blk b7 [.slice ia (g.m + 1) ic, .slice a3 (g.m + 1) c3] 25) ?_
        exact J.cut (a3, c3) trivial (by kernel_rfl) trivial
      exact J.wbr0
    refine J.wbr ?_ ?_
    · refine J.b1G opC z opC_len rfl rfl rfl fun bx => ?_
      refine J.nil ?_
      refine J.wfin [(0, .e), (5, .e), (8, .e), (13, .e), (14, .q), (15, .e)] (by kernel_rfl) ?_
      refine run ?_
      refine J.b0G opC opC_len rfl fun bi => ?_
      refine run ?_
      refine J.apG (n2 := p.toNat) rfl rfl (rgTake (RG.arg G0) p.toNat g.oc (by omega) (by omega)) opC_one fun a1 c1 => ?_
      rw [Nat.zero_add p.toNat, List.nil_append (g.zs.take p.toNat)]
      refine run ?_
      refine J.apG rfl rfl RG.own' opC_one fun a2 c2 => ?_
      refine run ?_
      refine J.apG (n2 := g.n - p.toNat) rfl rfl (rgDrop (RG.arg G0) p.toNat g.oc (by omega) (by omega) hzl) opC_one fun a3 c3 => ?_
      rw [hnn2, List.append_assoc (g.zs.take p.toNat) [z] (g.zs.drop p.toNat), List.singleton_append (x := z) (l := g.zs.drop p.toNat)]
      refine run ?_
      refine run ?_
      refine J.front (.wown 43 .u8 32 ia (g.m + 1) ic (S.insW g.ids p.toNat x)) ?_
      refine J.front (.gown opC 11 54 a3 (g.m + 1) c3 (g.zs.take p.toNat ++ z :: g.zs.drop p.toNat)) ?_
      refine J.front (.blk b7 [.slice ia (g.m + 1) ic, .slice a3 (g.m + 1) c3] 25) ?_
      exact J.cut (a3, c3) trivial (by kernel_rfl) trivial
    exact J.wbr0
  obtain ⟨oa, oc⟩ := u
  dsimp only
  have hins : ∀ y, y ∈ g.zs.take p.toNat ++ z :: g.zs.drop p.toNat → y ∈ g.zs ∨ y = z := fun y hy => by
    rcases List.mem_append.1 hy with k | k
    · exact .inl (List.mem_of_mem_take k)
    · rcases List.mem_cons.1 k with e | k
      · exact .inr e
      · exact .inl (List.mem_of_mem_drop k)
  refine J.fact (.wown 43 .u8 32 ia (g.m + 1) ic (S.insW g.ids p.toNat x)) (fun _ _ h => (wown_len h).2) fun hci => ?_
  refine J.fact (.gown opC 11 54 oa (g.m + 1) oc (g.zs.take p.toNat ++ z :: g.zs.drop p.toNat)) (fun _ _ h => (gown_e h).1.capn) fun hco => ?_
  refine run ?_
  refine J.call rfl rfl (fun w' M => refGTwin (S0 := fun _ => True) ⟨ia, oa, g.m + 1, g.m + 1, ic, oc, S.insW g.ids p.toNat x, g.zs.take p.toNat ++ z :: g.zs.drop p.toNat⟩ w' ((RW.own' (a := ia) w' M).elim fun _ k0 => (RG.own' (a := oa) w' M).elim fun _ k1 => ⟨k0.weaken fun _ _ _ => trivial, k1.weaken fun _ _ _ => trivial, fun y hy i hi => by
    obtain rfl := List.mem_singleton.1 hi
    rcases hins y hy with k | rfl
    · have h1 := (G.ext M.ext).inn y k _ (List.mem_singleton.2 rfl)
      exact ⟨h1.1.weaken fun _ _ _ => trivial, h1.2⟩
    · exact ⟨(RZ.ext M.ext).row.weaken fun _ _ _ => trivial, RZ.cap⟩, fun y hy => by
    rcases hins y hy with k | rfl
    · exact G.ok y k
    · exact RZ.ok, ⟨hci, hco, by dsimp only; omega, by dsimp only; omega⟩⟩)) fun q hq => ?_
  dsimp only [grE, List.cons_append, List.nil_append]
  refine run ?_
  refine J.finG q rfl ?_ ?_
  · obtain ⟨q1, q2, q3, q4, q5⟩ := hq
    have e : (GrA.mk ia oa (g.m + 1) (g.m + 1) ic oc (S.insW g.ids p.toNat x) (g.zs.take p.toNat ++ z :: g.zs.drop p.toNat)).ops = S.insO g.ops p.toNat z.o := insO_map _ _ _
    exact ⟨q1, q2, by rw [q3, e], by rw [q4, e], q5⟩
  · unfold grE; repeat (first | exact List.nil_sublist _ | refine List.Sublist.cons_cons _ ?_ | refine List.Sublist.cons _ ?_)
theorem refAdd {S0 S1 : Nat → Prop} (g : GrA) (z : OpA) (w : World) (G : GrR S0 w g) (R : OpR S1 w z) :
    Calls Tryz.prog 40 #[.agg (grC g).toArray, .agg (opC z).toArray] w (Gv w (fun q : GrA => .tuple #[.agg (grC q).toArray, .agg (ints .u8 (S.addI g.P z.o)).toArray, .int .i64 (S.addE g.P z.o)]) (grE 43 54) (GrP (S.addP g.P z.o).m (S.addP g.P z.o).ids (S.addP g.P z.o).ops)) := by
  have D0 := G.ids
  have G0 := G.ops
  have hl := G.len
  have hcp := G.cap
  have h20 := R.ok.n
  have D1 := R.row
  have nil : S.addE g.P z.o ≠ 0 → GrP (S.addP g.P z.o).m (S.addP g.P z.o).ids (S.addP g.P z.o).ops GrA.nil ∧ S.addI g.P z.o = List.replicate 32 0 := fun h => by
    obtain ⟨h1, h2⟩ := S.addP_no h
    rw [h1]
    exact ⟨GrP.nil, h2⟩
  have err : ∀ e : Int, S.addE g.P z.o = e → e ≠ 0 → GrP (S.addP g.P z.o).m (S.addP g.P z.o).ids (S.addP g.P z.o).ops GrA.nil ∧ S.addI g.P z.o = List.replicate 32 0 := fun e h1 h2 => nil (h1 ▸ h2)
  refine J.enter 48 Tryz.func40 rfl rfl ?_
  refine run ?_
  refine J.box rfl rfl rfl fun b1 => ?_
  refine J.box rfl rfl rfl fun b2 => ?_
  refine J.alloc rfl fun b3 => ?_
  refine J.alloc rfl fun b4 => ?_
  refine run ?_
  refine J.callp rfl rfl (fun w' M => refCheck g w' (G.ext M.ext)) ?_
  refine run ?_
  refine J.ifn rfl (fun c1 => ?_) (fun c1 => ?_)
  · obtain ⟨he, hne⟩ := S.addE_1 (o := z.o) (show S.chkP g.P ≠ 0 from c1)
    obtain ⟨hn1, hn2⟩ := nil hne
    refine run ?_
    refine J.bz rfl ?_
    refine run ?_
    refine J.callp rfl rfl (fun w' M => refCheck g w' (G.ext M.ext)) ?_
    refine run ?_
    refine J.nilGr 43 54 ?_
    refine J.finG GrA.nil ?_ hn1 ?_
    · rw [hn2, he]; rfl
    · unfold grE GrA.nil; repeat (first | exact List.nil_sublist _ | refine List.Sublist.cons_cons _ ?_ | refine List.Sublist.cons _ ?_)
  refine run ?_
  refine J.callp rfl rfl (fun w' M => verifyOR z.o R.ok _ _ _ (R.row.ext M.ext) R.cap) ?_
  refine run ?_
  refine J.ifn rfl (fun c2 => ?_) (fun c2 => ?_)
  · obtain ⟨he, hne⟩ := S.addE_2 (g := g.P) c1 c2
    obtain ⟨hn1, hn2⟩ := nil hne
    refine run ?_
    refine J.bz rfl ?_
    refine run ?_
    refine J.callp rfl rfl (fun w' M => verifyOR z.o R.ok _ _ _ (R.row.ext M.ext) R.cap) ?_
    refine run ?_
    refine J.nilGr 43 54 ?_
    refine J.finG GrA.nil ?_ hn1 ?_
    · rw [hn2, he]; rfl
    · unfold grE GrA.nil; repeat (first | exact List.nil_sublist _ | refine List.Sublist.cons_cons _ ?_ | refine List.Sublist.cons _ ?_)
  have hz0 := S.check_zero.1 (S.verE_check c2)
  have hz := S.chkG_zero.1 c1
  have hris := hz.2.2.2.1
  have hA := S.sha_arr (S.encS z.o)
  refine run ?_
  refine J.callp rfl rfl (fun w' M => ofO z.o R.ok _ _ _ (R.row.ext M.ext) R.cap hz0.1 (fun hk => S.fine4 hz0.2.2.2.2.2.2 hk)) ?_
  refine run ?_
  refine J.alloc rfl fun b5 => ?_
  refine run ?_
  refine J.callp rfl rfl (fun w' M => refAt _ _ _ _ _ w' (D0.ext M.ext) hA (by omega)) ?_
  refine run ?_
  refine J.ifd rfl (fun c3 => ?_) (fun c3 => ?_)
  · have hin : S.inS g.m g.ids (S.idOf z.o) := Decidable.not_not.1 fun h => absurd (S.at_neg.2 h) (Int.not_lt.2 c3)
    have he := S.addE_3 (g := g.P) c1 c2 hin
    obtain ⟨hn1, hn2⟩ := err 14 he (by decide)
    refine run ?_
    refine J.bz rfl ?_
    refine run ?_
    refine J.nilGr 43 54 ?_
    refine J.finG GrA.nil ?_ hn1 ?_
    · rw [hn2, he]; rfl
    · unfold grE GrA.nil; repeat (first | exact List.nil_sublist _ | refine List.Sublist.cons_cons _ ?_ | refine List.Sublist.cons _ ?_)
  have hin : ¬ S.inS g.m g.ids (S.idOf z.o) := S.at_neg.1 (Int.not_le.1 c3)
  refine run ?_
  refine J.callp rfl rfl (fun w' M => refAll _ _ _ _ _ _ _ _ w' (D0.ext M.ext) (D1.ext M.ext) (by omega) (by omega)) ?_
  refine run ?_
  refine J.ifnot rfl (fun c4 => ?_) (fun c4 => ?_)
  · have he := S.addE_4 (g := g.P) c1 c2 hin (of_decide_eq_false c4)
    obtain ⟨hn1, hn2⟩ := err 40 he (by decide)
    refine run ?_
    refine J.bz rfl ?_
    refine run ?_
    refine J.nilGr 43 54 ?_
    refine J.finG GrA.nil ?_ hn1 ?_
    · rw [hn2, he]; rfl
    · unfold grE GrA.nil; repeat (first | exact List.nil_sublist _ | refine List.Sublist.cons_cons _ ?_ | refine List.Sublist.cons _ ?_)
  have c4 := of_decide_eq_true c4
  refine run ?_
  refine J.ife rfl (fun c5 => ?_) (fun c5 => ?_)
  · have he := S.addE_5 (g := g.P) c1 c2 hin c4 (show g.m = 60 by omega)
    obtain ⟨hn1, hn2⟩ := err 18 he (by decide)
    refine run ?_
    refine J.bz rfl ?_
    refine run ?_
    refine J.nilGr 43 54 ?_
    refine J.finG GrA.nil ?_ hn1 ?_
    · rw [hn2, he]; rfl
    · unfold grE GrA.nil; repeat (first | exact List.nil_sublist _ | refine List.Sublist.cons_cons _ ?_ | refine List.Sublist.cons _ ?_)
  have he := S.addE_0 (g := g.P) c1 c2 hin c4 (show g.m ≠ 60 by omega)
  obtain ⟨hp1, hp2⟩ := S.addP_yes he
  refine run ?_
  refine J.regionR [.blk b5 (ints .u8 (S.sha (S.encS z.o))) 43, .blk b2 (opC z) 54, .blk b1 (grC g) 25] [(0, .q), (1, .q), (2, .q), (4, .q), (3, .e), (5, .e), (6, .e), (7, .q)] mixed (by kernel_rfl) (by repeat (first | exact List.Sublist.refl _ | refine List.Sublist.cons_cons _ ?_ | refine List.Sublist.cons _ ?_)) ?_
  refine run ?_
  refine J.call rfl rfl (fun w' M => refPut g _ z w' (G.ext M.ext) hA (R.ext M.ext) (by omega) (by omega)) fun q hq => ?_
  dsimp only [grE, List.cons_append, List.nil_append]
  refine run ?_
  have hq2 : GrP (S.addP g.P z.o).m (S.addP g.P z.o).ids (S.addP g.P z.o).ops q := by rw [hp1]; exact hq
  refine J.finG q ?_ hq2 ?_
  · rw [hp2, he]
  · unfold grE; repeat (first | exact List.nil_sublist _ | refine List.Sublist.cons_cons _ ?_ | refine List.Sublist.cons _ ?_)
theorem refOf {S0 : Nat → Prop} (a : Option Addr) (n c : Nat) (zs : List OpA) (w : World) (O : GRow opC 11 S0 w a n zs) (I0 : Inns opI S0 w zs) (hok : ∀ z ∈ zs, z.o.ok) (hn : n ≤ 100000) :
    Calls Tryz.prog 42 #[.slice a n c] w (Gv w (fun q : GrA => .tuple #[.agg (grC q).toArray, .int .i64 (S.lstE (zs.map OpA.o))]) (grE 43 54) (GrP (S.lstP (zs.map OpA.o)).m (S.lstP (zs.map OpA.o)).ids (S.lstP (zs.map OpA.o)).ops)) := by
  have hl := O.len
  obtain ⟨ops, hops⟩ := ex (zs.map OpA.o)
  have hol : ops.length = n := by rw [hops, List.length_map, hl]
  have ook : ∀ o ∈ ops, o.ok := fun o ho => by
    rw [hops] at ho
    obtain ⟨z, hz, rfl⟩ := List.mem_map.1 ho
    exact hok z hz
  have opR : ∀ {i : Nat} {z : OpA}, zs[i]? = some z → OpR S0 w z ∧ ops.getD i S.OpV.zero = z.o := fun {i z} h => by
    have hm := List.mem_of_getElem? h
    have h1 := I0 z hm ⟨.u8, 32, z.pa, z.o.n, z.pc, z.o.ids⟩ (List.mem_singleton.2 rfl)
    exact ⟨⟨hok z hm, h1.1, h1.2⟩, by rw [hops, List.getD_eq_getElem?_getD, List.getElem?_map, h]; rfl⟩
  rw [← hops]
  have nil : S.lstE ops ≠ 0 → GrP (S.lstP ops).m (S.lstP ops).ids (S.lstP ops).ops GrA.nil := fun h => by
    rw [S.lstP_no h]
    exact GrP.nil
  refine J.enter 60 Tryz.func42 rfl rfl ?_
  refine run ?_
  refine J.alloc rfl fun b1 => ?_
  refine run ?_
  refine J.ifd rfl (fun c1 => ?_) (fun c1 => ?_)
  · refine run ?_
    have he := S.lstE_4 (l := ops) (by omega)
    refine J.nilGr 43 54 ?_
    refine J.finG GrA.nil ?_ (nil (by rw [he]; decide)) ?_
    · rw [he]; rfl
    · unfold grE GrA.nil; repeat (first | exact List.nil_sublist _ | refine List.Sublist.cons_cons _ ?_ | refine List.Sublist.cons _ ?_)
  have h60 : ¬ 60 < ops.length := by omega
  refine run ?_
  refine J.loopS (A := Int) (fun p => [(4, .int .i64 p)]) [3, 12, 13, 14, 15, 16, 17, 18, 19, 20, 21, 22, 23, 24, 25, 26, 27, 28, 29] (fun p => (0 ≤ p ∧ p ≤ n) ∧ ∀ k, k < p.toNat → S.verE (ops.getD k S.OpV.zero) = 0) (fun p => n - p.toNat) 0 (by kernel_rfl) ⟨by omega, fun i hi => by omega⟩ (fun p j hI => ?_)
  obtain ⟨h1, hI⟩ := hI
  refine run ?_
  refine J.ifd rfl (fun c2 => ?_) (fun c2 => ?_)
  · obtain ⟨z, hz⟩ := O.ex (i := p) (by omega)
    obtain ⟨R, hzo⟩ := opR hz
    refine run ?_
    refine J.callp rfl rfl (fun w' M => verifyOR z.o R.ok _ _ _ (R.row.ext M.ext) R.cap) ?_
    refine run ?_
    refine J.ifn rfl (fun c3 => ?_) (fun c3 => ?_)
    · refine run ?_
      have hf := S.verL_first (l := ops) (i := p.toNat) (by omega) hI (by rw [hzo]; exact c3)
      rw [hzo] at hf
      obtain ⟨he, hne⟩ := S.lstE_v h60 (by rw [hf]; exact c3)
      refine J.callp rfl rfl (fun w' M => verifyOR z.o R.ok _ _ _ (R.row.ext M.ext) R.cap) ?_
      refine run ?_
      refine J.nilGr 43 54 ?_
      refine J.finG GrA.nil ?_ (nil hne) ?_
      · rw [he, hf]; rfl
      · unfold grE GrA.nil; repeat (first | exact List.nil_sublist _ | refine List.Sublist.cons_cons _ ?_ | refine List.Sublist.cons _ ?_)
    refine run ?_
    refine J.nextS (p + 1) ⟨rfl, trivial⟩ (by kernel_rfl) ⟨by omega, fun i hi => ?_⟩ (by omega)
    rcases Nat.lt_or_ge i p.toNat with h | h
    · exact hI i h
    · obtain rfl : i = p.toNat := by omega
      rw [hzo]
      exact c3
  have hver : S.verL ops = 0 := S.verL_all fun k hk => hI k (by omega)
  have hv0 : ∀ k, k < ops.length → S.verE (ops.getD k S.OpV.zero) = 0 := fun k hk => hI k (by omega)
  refine run ?_
  refine J.alloc rfl fun b7 => ?_
  refine run ?_
  refine J.nilGr 43 54 ?_
  refine J.front (.blk b7 [.slice none 0 0, .slice none 0 0] 25) ?_
  refine J.drop (E := [.blk b7 [.slice none 0 0, .slice none 0 0] 25, .gown opC 11 54 none 0 0 [], .all [], .wown 43 .u8 32 none 0 0 [], .blk b1 [.slice none 0 0, .slice none 0 0] 25]) (by repeat (first | exact List.nil_sublist _ | refine List.Sublist.cons_cons _ ?_ | refine List.Sublist.cons _ ?_)) ?_
  refine J.loop (A := OfA) (fun p => [(6, .int .i64 (p.i : Nat))]) [3, 7, 30, 31, 32, 33, 34, 35, 36, 37, 38, 39, 40, 41, 42, 43, 44, 45, 46, 47, 48, 49, 50, 51, 52, 53] (fun p => [.blk b7 (grC p.q) 25, .gown opC 11 54 p.q.oa p.q.n p.q.oc p.q.zs, .all (p.q.zs.map (opE 43)), .wown 43 .u8 32 p.q.ia p.q.m p.q.ic p.q.ids, .blk b1 [.slice none 0 0, .slice none 0 0] 25]) (fun p => p.i ≤ n ∧ S.mkN ops p.i = some p.P ∧ GrP p.P.m p.P.ids p.P.ops p.q) (fun p => n - p.i) ⟨0, ⟨none, none, 0, 0, 0, 0, [], []⟩, .nil⟩ (by kernel_rfl) ⟨Nat.zero_le _, rfl, GrP.nil⟩ (fun p j hI2 => ?_)
  obtain ⟨hI1, hI2, hI3⟩ := hI2
  have hmk := S.mkN_good hI2
  have hqn : p.q.n = p.q.m := by have := hI3.n; have := hI3.m; have := hmk.1.2; omega
  have hqm : p.q.m = p.i := by have := hI3.m; have := hmk.2.2.1; omega
  have hqok := hI3.ok (mk_ok ook (by omega) hI2)
  refine run ?_
  refine J.ifd rfl (fun c4 => ?_) (fun c4 => ?_)
  · obtain ⟨z, hz⟩ := O.ex (i := (p.i : Nat)) (by omega)
    rw [Int.toNat_natCast] at hz
    obtain ⟨R, hzo⟩ := opR hz
    have hv1 := hv0 p.i (by omega)
    rw [hzo] at hv1
    have hz0 := S.check_zero.1 (S.verE_check hv1)
    have hA := S.sha_arr (S.encS z.o)
    refine run ?_
    refine J.callp rfl rfl (fun w' M => ofO z.o R.ok _ _ _ (R.row.ext M.ext) R.cap hz0.1 (fun hk => S.fine4 hz0.2.2.2.2.2.2 hk)) ?_
    refine run ?_
    refine J.alloc rfl fun b9 => ?_
    refine run ?_
    refine J.callp rfl rfl (fun w' M => (RW.own' (a := p.q.ia) w' M).elim fun _ k0 => refAt _ _ _ _ _ w' k0 hA (by omega)) ?_
    refine run ?_
    refine J.ifd rfl (fun c5 => ?_) (fun c5 => ?_)
    · have hin : S.inS p.q.m p.q.ids (S.idOf z.o) := Decidable.not_not.1 fun h => absurd (S.at_neg.2 h) (Int.not_lt.2 c5)
      rw [hI3.m, hI3.ids] at hin
      have he := S.lstE_14 h60 hver (S.mkN_none (S.mkN_twice hI2 (by rw [hzo]; exact hin)) _ (by omega))
      refine run ?_
      refine J.nilGr 43 54 ?_
      refine J.finG GrA.nil ?_ (nil (by rw [he]; decide)) ?_
      · rw [he]; rfl
      · unfold grE GrA.nil; repeat (first | exact List.nil_sublist _ | refine List.Sublist.cons_cons _ ?_ | refine List.Sublist.cons _ ?_)
    have hin : ¬ S.inS p.q.m p.q.ids (S.idOf z.o) := S.at_neg.1 (Int.not_le.1 c5)
    rw [hI3.m, hI3.ids] at hin
    refine run ?_
    refine J.regionX [(0, .q), (1, .q), (2, .q), (3, .q), (4, .q), (5, .q), (6, .e), (7, .g)] mixed (by kernel_rfl) ?_
    refine run ?_
    refine J.call rfl rfl (fun w' M => refPut p.q _ z w' (GrR.own hqok hI3.cap (by omega) w' M) hA (R.ext M.ext) hqn (by omega)) fun q hq => ?_
    dsimp only [grE, List.cons_append, List.nil_append]
    refine run ?_
    have hmore := S.mkN_more hI2 (by rw [hzo]; exact hin)
    rw [hzo] at hmore
    have hq2 : GrP (S.putP p.P (S.idOf z.o) z.o).m (S.putP p.P (S.idOf z.o) z.o).ids (S.putP p.P (S.idOf z.o) z.o).ops q := by
      rw [hI3.m, hI3.ids, hI3.ops] at hq
      exact hq
    refine J.front (.wown 43 .u8 32 q.ia q.m q.ic q.ids) ?_
    refine J.front (.all (q.zs.map (opE 43))) ?_
    refine J.front (.gown opC 11 54 q.oa q.n q.oc q.zs) ?_
    refine J.front (.blk b7 (grC q) 25) ?_
    exact J.next ⟨p.i + 1, q, S.putP p.P (S.idOf z.o) z.o⟩ ⟨rfl, trivial⟩ (by kernel_rfl) ⟨by dsimp only; omega, hmore, hq2⟩ (by dsimp only; omega)
  have hpi : p.i = ops.length := by omega
  rw [hpi] at hI2
  have hs := S.lstE_s h60 hver hI2
  have hsq : S.shapeS p.q.m p.q.ids p.q.ops = S.lstE ops := by rw [hI3.m, hI3.ids, hI3.ops, hs]
  refine run ?_
  refine J.callp rfl rfl (fun w' M => by have h := refShape p.q w' (GrR.own hqok hI3.cap (by omega) w' M) (by omega); rw [hsq] at h; exact h) ?_
  refine run ?_
  refine J.ifn rfl (fun c5 => ?_) (fun c5 => ?_)
  · refine run ?_
    refine J.callp rfl rfl (fun w' M => by have h := refShape p.q w' (GrR.own hqok hI3.cap (by omega) w' M) (by omega); rw [hsq] at h; exact h) ?_
    refine run ?_
    refine J.nilGr 43 54 ?_
    refine J.finG GrA.nil rfl (nil c5) ?_
    unfold grE GrA.nil; repeat (first | exact List.nil_sublist _ | refine List.Sublist.cons_cons _ ?_ | refine List.Sublist.cons _ ?_)
  refine run ?_
  have hq2 : GrP (S.lstP ops).m (S.lstP ops).ids (S.lstP ops).ops p.q := by rw [S.lstP_yes c5 hI2]; exact hI3
  refine J.finG p.q ?_ hq2 ?_
  · show Value.tuple _ = Value.tuple _
    rw [c5]
  · unfold grE; repeat (first | exact List.nil_sublist _ | refine List.Sublist.cons_cons _ ?_ | refine List.Sublist.cons _ ?_)
theorem refUnion {S0 S1 : Nat → Prop} (g h : GrA) (w : World) (G : GrR S0 w g) (H : GrR S1 w h) (hsz : S.chkP g.P = 0 → S.chkP h.P = 0 → ∀ i, i ≤ h.m → (S.uniN g.P h.P i).m ≤ 61) :
    Calls Tryz.prog 44 #[.agg (grC g).toArray, .agg (grC h).toArray] w (Gv w (fun q : GrA => .tuple #[.agg (grC q).toArray, .int .i64 (S.uniE g.P h.P)]) (grE 43 54) (GrP (S.uniP g.P h.P).m (S.uniP g.P h.P).ids (S.uniP g.P h.P).ops)) := by
  have D0 := G.ids
  have G0 := G.ops
  have D1 := H.ids
  have G1 := H.ops
  have hl := G.len
  have hl1 := H.len
  have hcp := G.cap
  have hcp1 := H.cap
  have hlen := D0.len
  have hlen1 := D1.len
  have nil : S.uniE g.P h.P ≠ 0 → GrP (S.uniP g.P h.P).m (S.uniP g.P h.P).ids (S.uniP g.P h.P).ops GrA.nil := fun c => by
    rw [S.uniP_no c]
    exact GrP.nil
  refine J.enter 88 Tryz.func44 rfl rfl ?_
  refine run ?_
  refine J.box rfl rfl rfl fun b1 => ?_
  refine J.box rfl rfl rfl fun b2 => ?_
  refine J.alloc rfl fun b4 => ?_
  refine run ?_
  refine J.callp rfl rfl (fun w' M => refCheck g w' (G.ext M.ext)) ?_
  refine run ?_
  refine J.ifn rfl (fun ca => ?_) (fun ca => ?_)
  · obtain ⟨he, hne⟩ := S.uniE_1 (b := h.P) (show S.chkP g.P ≠ 0 from ca)
    refine run ?_
    refine J.callp rfl rfl (fun w' M => refCheck g w' (G.ext M.ext)) ?_
    refine run ?_
    refine J.nilGr 43 54 ?_
    refine J.finG GrA.nil ?_ (nil hne) ?_
    · rw [he]; rfl
    · unfold grE GrA.nil; repeat (first | exact List.nil_sublist _ | refine List.Sublist.cons_cons _ ?_ | refine List.Sublist.cons _ ?_)
  refine run ?_
  refine J.callp rfl rfl (fun w' M => refCheck h w' (H.ext M.ext)) ?_
  refine run ?_
  refine J.ifn rfl (fun cb => ?_) (fun cb => ?_)
  · obtain ⟨he, hne⟩ := S.uniE_2 (a := g.P) (b := h.P) ca cb
    refine run ?_
    refine J.callp rfl rfl (fun w' M => refCheck h w' (H.ext M.ext)) ?_
    refine run ?_
    refine J.nilGr 43 54 ?_
    refine J.finG GrA.nil ?_ (nil hne) ?_
    · rw [he]; rfl
    · unfold grE GrA.nil; repeat (first | exact List.nil_sublist _ | refine List.Sublist.cons_cons _ ?_ | refine List.Sublist.cons _ ?_)
  have hza := S.chkG_zero.1 ca
  have hzb := S.chkG_zero.1 cb
  have hrisa := hza.2.2.2.1
  have hrisb := hzb.2.2.2.1
  have hsz := hsz ca cb
  have hgoodg : g.P.good := ⟨hlen, hza.2.1.symm⟩
  refine run ?_
  refine J.loopS (A := Int) (fun p => [(6, .int .i64 p)]) [5, 7, 22, 23, 24, 25, 26, 27, 28, 29, 30, 31, 32, 33, 34, 35, 36, 37, 38, 39, 40, 41, 42, 43, 44, 45, 46, 47, 48, 49, 50, 51, 52, 53] (fun p => (0 ≤ p ∧ p ≤ h.m) ∧ ∀ i, i < p.toNat → S.inS g.m g.ids (S.idAt h.ids i) → g.ops.getD (S.ixS g.m g.ids (S.idAt h.ids i)) S.OpV.zero = h.ops.getD i S.OpV.zero) (fun p => h.m - p.toNat) 0 (by kernel_rfl) ⟨by omega, fun i hi => by omega⟩ (fun p j hI => ?_)
  obtain ⟨h1, hI⟩ := hI
  refine run ?_
  refine J.ifd rfl (fun c2 => ?_) (fun c2 => ?_)
  · have next : ∀ {i : Nat}, i < (p + 1).toNat → (S.inS g.m g.ids (S.idAt h.ids p.toNat) → g.ops.getD (S.ixS g.m g.ids (S.idAt h.ids p.toNat)) S.OpV.zero = h.ops.getD p.toNat S.OpV.zero) → S.inS g.m g.ids (S.idAt h.ids i) → g.ops.getD (S.ixS g.m g.ids (S.idAt h.ids i)) S.OpV.zero = h.ops.getD i S.OpV.zero := fun {i} hi k => by
      rcases Nat.lt_or_ge i p.toNat with e | e
      · exact hI i e
      · obtain rfl : i = p.toNat := by omega
        exact k
    refine run ?_
    refine J.regionX [(0, .q), (1, .q), (2, .q), (3, .q), (4, .q), (5, .q), (6, .q), (7, .e), (8, .q)] mixed (by kernel_rfl) ?_
    refine run ?_
    refine J.callp rfl rfl (fun w' M => refAt _ _ _ _ _ w' (D0.ext M.ext) (D1.elt_arr (by omega)) (by omega)) ?_
    refine run ?_
    refine J.regionX [(0, .q), (1, .q), (2, .q), (3, .q), (4, .q), (5, .q), (6, .q), (7, .q), (8, .q), (9, .q), (10, .q), (11, .q), (12, .q), (13, .e), (14, .q), (15, .q)] mixed (by kernel_rfl) ?_
    refine run ?_
    refine J.spd rfl rfl rfl (fun c3 => ?_) (fun c3 => ?_)
    rotate_left
    · refine run ?_
      exact J.nextS (p + 1) ⟨rfl, trivial⟩ (by kernel_rfl) ⟨by omega, fun i hi => next hi fun k => absurd k (S.at_neg.1 (Int.not_le.1 c3))⟩ (by omega)
    have hin : S.inS g.m g.ids (elt 32 h.ids p.toNat) := Decidable.not_not.1 fun h => absurd (S.at_neg.2 h) (Int.not_lt.2 c3)
    have hat : S.atS g.m g.ids (elt 32 h.ids p.toNat) = (S.ixS g.m g.ids (elt 32 h.ids p.toNat) : Nat) := if_pos hin
    have hix := (S.ix_in hin).1
    obtain ⟨z, hzz⟩ := G0.ex (i := S.atS g.m g.ids (elt 32 h.ids p.toNat)) (by omega)
    obtain ⟨y, hyy⟩ := G1.ex (i := p) (by omega)
    have R := G.op hzz
    have R1 := H.op hyy
    have hzo := GrA.opAt hzz
    have hyo := GrA.opAt hyy
    rw [hat, Int.toNat_natCast] at hzo
    have hse := S.sameO_eq (a := z.o) (b := y.o) R.row.len R1.row.len
    refine run ?_
    refine J.callp rfl rfl (fun w' M => sameO z.o y.o R.ok R1.ok _ _ _ _ w' (R.row.ext M.ext) (R1.row.ext M.ext)) ?_
    refine run ?_
    refine J.ifnot rfl (fun c4 => ?_) (fun c4 => ?_)
    · have c4 := of_decide_eq_false c4
      refine run ?_
      have he := S.uniE_3 (a := g.P) (b := h.P) ca cb ⟨p.toNat, show p.toNat < h.m by omega, hin, fun e => c4 (hse.2 (by rw [← hzo, ← hyo]; exact e))⟩
      refine J.nilGr 43 54 ?_
      refine J.finG GrA.nil ?_ (nil (by rw [he]; decide)) ?_
      · rw [he]; rfl
      · unfold grE GrA.nil; repeat (first | exact List.nil_sublist _ | refine List.Sublist.cons_cons _ ?_ | refine List.Sublist.cons _ ?_)
    · have c4 := hse.1 (of_decide_eq_true c4)
      refine run ?_
      exact J.nextS (p + 1) ⟨rfl, trivial⟩ (by kernel_rfl) ⟨by omega, fun i hi => next hi fun _ => by rw [hyo, ← c4]; exact hzo⟩ (by omega)
  have hnc : ¬ S.clash g.P h.P := fun ⟨i, hi, k1, k2⟩ => k2 (hI i (by have : i < h.m := hi; omega) k1)
  refine run ?_
  refine J.call rfl rfl (fun w' M => refGTwin g w' (G.ext M.ext)) fun q0 hq0 => ?_
  dsimp only [grE, List.cons_append, List.nil_append]
  refine run ?_
  refine J.alloc rfl fun b8 => ?_
  refine run ?_
  refine J.loop (A := UnA) (fun u => [(9, .int .i64 (u.i : Nat))]) [56, 57, 58, 59, 60, 61, 62, 63, 64, 65, 66, 67, 68, 69, 70, 71, 72, 73, 74, 75, 76, 77, 78, 79, 80, 81, 82, 83] (fun u => [.blk b8 (grC u.q) 25, .gown opC 11 54 u.q.oa u.q.n u.q.oc u.q.zs, .all (u.q.zs.map (opE 43)), .wown 43 .u8 32 u.q.ia u.q.m u.q.ic u.q.ids, .blk b4 [.slice none 0 0, .slice none 0 0] 25, .blk b2 (grC h) 25, .blk b1 (grC g) 25]) (fun u => u.i ≤ h.m ∧ GrP (S.uniN g.P h.P u.i).m (S.uniN g.P h.P u.i).ids (S.uniN g.P h.P u.i).ops u.q) (fun u => h.m - u.i) ⟨0, q0⟩ (by kernel_rfl) ⟨Nat.zero_le _, hq0⟩ (fun u j3 hU => ?_)
  obtain ⟨hU1, hU2⟩ := hU
  have hug := S.uniN_good (a := g.P) (b := h.P) hgoodg hrisa hlen1 u.i hU1
  have hus := hsz u.i hU1
  have hun : u.q.n = u.q.m := by have := hU2.n; have := hU2.m; have := hug.1.2; omega
  have hum : u.q.m ≤ 61 := by have := hU2.m; omega
  have huok := hU2.ok (uni_ok (a := g.P) (b := h.P) G.opz H.zok u.i)
  refine run ?_
  refine J.ifd rfl (fun c6 => ?_) (fun c6 => ?_)
  · obtain ⟨z, hz⟩ := G1.ex (i := (u.i : Nat)) (by omega)
    have R := H.op hz
    have hz' := hz
    rw [Int.toNat_natCast] at hz'
    have hzo := GrA.opAt hz'
    have hA : Arr .u8 32 (elt 32 h.ids u.i) := D1.elt_arr (by omega)
    refine run ?_
    refine J.regionX [(0, .q), (1, .q), (2, .q), (3, .q), (4, .q), (5, .q), (6, .q), (7, .e), (8, .q)] mixed (by kernel_rfl) ?_
    refine run ?_
    refine J.callp rfl rfl (fun w' M => (RW.own' (a := u.q.ia) w' M).elim fun _ k0 => refAt _ _ _ _ _ w' k0 hA (by omega)) ?_
    refine run ?_
    refine J.ifd rfl (fun c7 => ?_) (fun c7 => ?_)
    rotate_left
    · refine run ?_
      have hin2 : S.inS (S.uniN g.P h.P u.i).m (S.uniN g.P h.P u.i).ids (S.idAt h.P.ids u.i) := by rw [← hU2.m, ← hU2.ids]; exact Decidable.not_not.1 fun h => c7 (S.at_neg.2 h)
      exact J.next ⟨u.i + 1, u.q⟩ ⟨rfl, trivial⟩ (by kernel_rfl) ⟨by dsimp only; omega, by rw [S.uniN_yes hin2]; exact hU2⟩ (by dsimp only; omega)
    · have hin2 : ¬ S.inS (S.uniN g.P h.P u.i).m (S.uniN g.P h.P u.i).ids (S.idAt h.P.ids u.i) := by rw [← hU2.m, ← hU2.ids]; exact S.at_neg.1 c7
      have hno := S.uniN_no hin2
      have hus2 := hsz (u.i + 1) (by omega)
      have hm1 : (S.uniN g.P h.P (u.i + 1)).m = (S.uniN g.P h.P u.i).m + 1 := by rw [hno]; rfl
      refine run ?_
      refine J.regionX [(0, .q), (1, .q), (2, .q), (3, .q), (4, .q), (5, .q), (6, .q), (7, .q), (8, .q), (9, .q), (10, .q), (11, .e), (12, .g)] mixed (by kernel_rfl) ?_
      refine run ?_
      refine J.call rfl rfl (fun w' M => refPut u.q _ z w' (GrR.own huok hU2.cap (by omega) w' M) hA (R.ext M.ext) hun (by have := hU2.m; omega)) fun v hv => ?_
      dsimp only [grE, List.cons_append, List.nil_append]
      refine run ?_
      have hv2 : GrP (S.uniN g.P h.P (u.i + 1)).m (S.uniN g.P h.P (u.i + 1)).ids (S.uniN g.P h.P (u.i + 1)).ops v := by
        rw [hno]
        rw [hU2.m, hU2.ids, hU2.ops] at hv
        have e : h.P.ops.getD u.i S.OpV.zero = z.o := hzo
        rw [e]
        exact hv
      refine J.front (.wown 43 .u8 32 v.ia v.m v.ic v.ids) ?_
      refine J.front (.all (v.zs.map (opE 43))) ?_
      refine J.front (.gown opC 11 54 v.oa v.n v.oc v.zs) ?_
      refine J.front (.blk b8 (grC v) 25) ?_
      exact J.next ⟨u.i + 1, v⟩ ⟨rfl, trivial⟩ (by kernel_rfl) ⟨by dsimp only; omega, hv2⟩ (by dsimp only; omega)
  have hui : u.i = h.m := by omega
  rw [hui] at hU2
  have hum2 : u.q.m = (S.uniN g.P h.P h.P.m).m := hU2.m
  refine run ?_
  refine J.ifd rfl (fun c7 => ?_) (fun c7 => ?_)
  · refine run ?_
    have he := S.uniE_4 (a := g.P) (b := h.P) ca cb hnc (by omega)
    refine J.nilGr 43 54 ?_
    refine J.finG GrA.nil ?_ (nil (by rw [he]; decide)) ?_
    · rw [he]; rfl
    · unfold grE GrA.nil; repeat (first | exact List.nil_sublist _ | refine List.Sublist.cons_cons _ ?_ | refine List.Sublist.cons _ ?_)
  refine run ?_
  have he := S.uniE_0 (a := g.P) (b := h.P) ca cb hnc (by omega)
  have hu2 : GrP (S.uniP g.P h.P).m (S.uniP g.P h.P).ids (S.uniP g.P h.P).ops u.q := by rw [S.uniP_yes he]; exact hU2
  refine J.finG u.q ?_ hu2 ?_
  · rw [he]
  · unfold grE; repeat (first | exact List.nil_sublist _ | refine List.Sublist.cons_cons _ ?_ | refine List.Sublist.cons _ ?_)
theorem refEqual {S0 S1 : Nat → Prop} (g h : GrA) (w : World) (G : GrR S0 w g) (H : GrR S1 w h) :
    Calls Tryz.prog 46 #[.agg (grC g).toArray, .agg (grC h).toArray] w (Ret w fun v _ => v = .tuple #[.bool (S.eqB g.P h.P), .int .i64 (S.eqE g.P h.P)]) := by
  refine J.enter 17 Tryz.func46 rfl rfl ?_
  refine run ?_
  refine J.box rfl rfl rfl fun b1 => ?_
  refine J.box rfl rfl rfl fun b2 => ?_
  refine run ?_
  refine J.callp rfl rfl (fun w' M => refCheck g w' (G.ext M.ext)) ?_
  refine run ?_
  refine J.ifn rfl (fun ca => ?_) (fun ca => ?_)
  · have he := S.eqE_1 (b := h.P) (show S.chkP g.P ≠ 0 from ca)
    refine run ?_
    refine J.callp rfl rfl (fun w' M => refCheck g w' (G.ext M.ext)) ?_
    refine run ?_
    refine J.fin ?_
    rw [S.eqB_no (by rw [he]; exact ca), he]
    rfl
  refine run ?_
  refine J.callp rfl rfl (fun w' M => refCheck h w' (H.ext M.ext)) ?_
  refine run ?_
  have he := S.eqE_2 (b := h.P) (show S.chkP g.P = 0 from ca)
  refine J.ifn rfl (fun cb => ?_) (fun cb => ?_)
  · refine run ?_
    refine J.callp rfl rfl (fun w' M => refCheck h w' (H.ext M.ext)) ?_
    refine run ?_
    refine J.fin ?_
    rw [S.eqB_no (by rw [he]; exact cb), he]
    rfl
  refine run ?_
  refine J.callp rfl rfl (fun w' M => refGSame g h w' (G.ext M.ext) (H.ext M.ext)) ?_
  refine run ?_
  refine J.fin ?_
  have cb : S.chkP h.P = 0 := cb
  rw [S.eqB_yes (by rw [he]; exact cb), he, cb]
  rfl
theorem refLarge {S0 : Nat → Prop} (a : Option Addr) (n c : Nat) (zs : List OpA) (w : World) (G : GrI S0 w ⟨none, a, 0, n, 0, c, [], zs⟩) :
    Calls Tryz.prog 39 #[.slice a n c] w (Gv w (fun q : Bool => .bool q) (fun _ => []) fun q => q = false → GrSm ⟨none, a, 0, n, 0, c, [], zs⟩) := by
  refine J.enter 5 Tryz.func39 rfl rfl ?_
  refine run ?_
  refine J.call rfl rfl (fun w' M => refGreat ⟨none, a, 0, n, 0, c, [], zs⟩ w' (G.ext M.ext)) fun q hq => ?_
  refine run ?_
  exact J.finG q rfl hq (List.nil_sublist _)
end Go.Proofs.YtakbhjagiofbgaaGreatDoor.W
namespace Go.Proofs.YtakbhjagiofbgaaGreatDoor.W
open Go.RowKit Go.Proofs.YtakbhjagiofbgaaGreatDoor.G
set_option linter.unusedVariables false
set_option linter.unusedSimpArgs false
set_option maxRecDepth 20000
set_option maxHeartbeats 8000000
attribute [local irreducible] RS RX RY Code.wp bodyPost J Ent.blk Ent.irow Ent.iown Ent.wrow Ent.wown Ent.grow Ent.gown Ent.all Ent.emp
theorem GrP.sz {P : S.PG} {q : GrA} (h : GrP P.m P.ids P.ops q) (hs : P.good ∧ P.m ≤ 60) : q.m ≤ 70 ∧ q.n ≤ 70 := by
  have := h.m
  have := h.n
  have := hs.1.2
  omega
theorem GrP.nm {P : S.PG} {q : GrA} (h : GrP P.m P.ids P.ops q) (hs : P.good) : q.n = q.m := by
  have := h.m
  have := h.n
  have := hs.2
  omega
theorem GrP.P {P : S.PG} {q : GrA} (h : GrP P.m P.ids P.ops q) : q.P = P := by
  unfold GrA.P
  rw [h.m, h.ids, h.ops]
theorem put_ok {a : S.PG} {x : List Int} {o : S.OpV} (ha : ∀ u ∈ a.ops, u.ok) (ho : o.ok) : ∀ u ∈ (S.putP a x o).ops, u.ok := fun u hu => by
  have hu : u ∈ a.ops.take _ ++ o :: a.ops.drop _ := hu
  rcases List.mem_append.1 hu with k | k
  · exact ha u (List.mem_of_mem_take k)
  · rcases List.mem_cons.1 k with e | k
    · rw [e]; exact ho
    · exact ha u (List.mem_of_mem_drop k)
theorem add_ok {a : S.PG} {o : S.OpV} (ha : ∀ u ∈ a.ops, u.ok) (ho : o.ok) : ∀ u ∈ (S.addP a o).ops, u.ok := by
  by_cases h : S.addE a o = 0
  · rw [(S.addP_yes h).1]
    exact put_ok ha ho
  · rw [(S.addP_no h).1]
    exact fun u hu => (by cases hu)
theorem nil_size : S.PG.nil.good ∧ S.PG.nil.m ≤ 60 := ⟨S.nil_good, Nat.zero_le _⟩
theorem add_size {a : S.PG} {o : S.OpV} (hl : a.ids.length = 32 * a.m) : (S.addP a o).good ∧ (S.addP a o).m ≤ 60 := by
  by_cases h : S.addE a o = 0
  · have f := (S.add_fine hl h).2.2.1
    exact ⟨f.good, f.le⟩
  · rw [(S.addP_no h).1]
    exact nil_size
theorem lst_made {l : List S.OpV} (h : S.lstE l = 0) : l.length ≤ 60 ∧ ∃ g, S.mkN l l.length = some g ∧ S.lstP l = g := by
  have h60 : ¬ 60 < l.length := fun c => by rw [S.lstE_4 c] at h; exact absurd h (by decide)
  have hv : S.verL l = 0 := Classical.byContradiction fun c => (S.lstE_v h60 c).2 h
  cases hm : S.mkN l l.length with
  | none => rw [S.lstE_14 h60 hv hm] at h; exact absurd h (by decide)
  | some g => exact ⟨by omega, g, rfl, S.lstP_yes h hm⟩
theorem lst_ok {l : List S.OpV} (hl : ∀ o ∈ l, o.ok) : ∀ u ∈ (S.lstP l).ops, u.ok := by
  by_cases h : S.lstE l = 0
  · obtain ⟨_, g, h2, h3⟩ := lst_made h
    rw [h3]
    exact mk_ok hl (Nat.le_refl _) h2
  · rw [S.lstP_no h]
    exact fun u hu => (by cases hu)
theorem lst_size (l : List S.OpV) : (S.lstP l).good ∧ (S.lstP l).m ≤ 60 := by
  by_cases h : S.lstE l = 0
  · obtain ⟨h1, g, h2, h3⟩ := lst_made h
    rw [h3]
    have := S.mkN_good h2
    exact ⟨this.1, by rw [this.2.2.1]; exact h1⟩
  · rw [S.lstP_no h]
    exact nil_size
theorem uniP_ok {a b : S.PG} (ha : ∀ o ∈ a.ops, o.ok) (hb : ∀ i, (b.ops.getD i S.OpV.zero).ok) : ∀ u ∈ (S.uniP a b).ops, u.ok := by
  by_cases h : S.uniE a b = 0
  · rw [S.uniP_yes h]
    exact uni_ok ha hb _
  · rw [S.uniP_no h]
    exact fun u hu => (by cases hu)
theorem uniP_size {a b : S.PG} (hla : a.ids.length = 32 * a.m) (hlb : b.ids.length = 32 * b.m) : (S.uniP a b).good ∧ (S.uniP a b).m ≤ 60 := by
  by_cases h : S.uniE a b = 0
  · have f := S.uniP_fine hla hlb h
    exact ⟨f.good, f.le⟩
  · rw [S.uniP_no h]
    exact nil_size
theorem uni_16 {a b : S.PG} (hla : a.ids.length = 32 * a.m) (hlb : b.ids.length = 32 * b.m) (h1 : ¬ (16 < a.ops.length ∧ a.ops.length ≤ 60)) (h2 : ¬ (16 < b.ops.length ∧ b.ops.length ≤ 60)) : S.chkP a = 0 → S.chkP b = 0 → ∀ i, i ≤ b.m → (S.uniN a b i).m ≤ 61 := fun ca cb i hi => by
  have fa := (S.chkP_fine hla).1 ca
  have fb := (S.chkP_fine hlb).1 cb
  have := (S.uniN_good fa.good fa.rising hlb i hi).2.2
  have := fa.le
  have := fb.le
  have := fa.good.2
  have := fb.good.2
  omega
end Go.Proofs.YtakbhjagiofbgaaGreatDoor.W
namespace Go.Proofs.YtakbhjagiofbgaaGreatDoor.G
open Go.RowKit
set_option linter.unusedVariables false
theorem flat_same {α : Type} {f : α → List Value} : ∀ {l : List α} {i : Nat} {x y : α}, l[i]? = some x → f y = f x → (l.set i y).flatMap f = l.flatMap f
  | [], _, _, _, h, _ => by simp at h
  | a :: l, 0, x, y, h, e => by
    simp at h
    subst h
    simp [List.set, e]
  | a :: l, i + 1, x, y, h, e => by
    simp only [List.set_cons_succ, List.flatMap_cons]
    rw [flat_same (by simpa using h) e]
section
variable {S0 : Nat → Prop} {w0 : World} {L : List Ent} {P : Program} {ops : Array Oper} {K : List Value → World → Prop} {rest : List (Oper × Kd)} {l l' : List Value} {m : Md} {d : Tmp} {ty xt e : TypeId} {pos : String} {af : Array Edge} {kd : Kd} {x y : Operand} {nn : Nat} {ki : IntKind} {a : Option Addr} {k0 : Nat}
theorem J.ix0 [U : Und P xt (.array nn e)] [Z : Siz P e 1] (hk : pureK kd = true) (ha : ∃ b, a = some ⟨b, 0, none⟩) (hx : ev l x = pt a k0) (hy : ev l y = .int ki 0) (kk : J S0 w0 L (RY S0 w0 m P ops K rest l')) (hn : 0 < nn := by decide) (hl : l.set d (pt a (k0 + 0)) = l' := by dsimp only [List.set]) :
    J S0 w0 L (RY S0 w0 m P ops K ((⟨some d, .indexAddr xt x y, ty, pos, af, none⟩, kd) :: rest) l) :=
  J.pur hk (fun w => by
    obtain ⟨b, rfl⟩ := ha
    rw [pt_some rfl]
    exact D.indexArr (i := 0) (hx.trans (pt_some rfl k0)) hy U.h Z.h (by decide) (by omega)) kk hl
end
end Go.Proofs.YtakbhjagiofbgaaGreatDoor.G
namespace Go.Proofs.YtakbhjagiofbgaaGreatDoor.W
open Go.RowKit Go.Proofs.YtakbhjagiofbgaaGreatDoor.G
set_option linter.unusedVariables false
set_option linter.unusedSimpArgs false
set_option maxRecDepth 20000
set_option maxHeartbeats 8000000
attribute [local irreducible] RS RX RY Code.wp bodyPost J Ent.blk Ent.irow Ent.iown Ent.wrow Ent.wown Ent.grow Ent.gown Ent.all Ent.emp
instance : Ents Tryz.prog 39 := ⟨.mk Tryz.func39 (by kernel_rfl) rfl⟩
instance : Ents Tryz.prog 31 := ⟨.mk Tryz.func31 (by kernel_rfl) rfl⟩
instance : Ents Tryz.prog 40 := ⟨.mk Tryz.func40 (by kernel_rfl) rfl⟩
instance : Ents Tryz.prog 41 := ⟨.mk Tryz.func41 (by kernel_rfl) rfl⟩
instance : Ents Tryz.prog 42 := ⟨.mk Tryz.func42 (by kernel_rfl) rfl⟩
instance : Sca Tryz.prog 5 := ⟨_, Tryz.underlying5, rfl⟩
instance : Ents Tryz.prog 43 := ⟨.mk Tryz.func43 (by kernel_rfl) rfl⟩
instance : Ents Tryz.prog 44 := ⟨.mk Tryz.func44 (by kernel_rfl) rfl⟩
instance : Ents Tryz.prog 45 := ⟨.mk Tryz.func45 (by kernel_rfl) rfl⟩
instance : Ents Tryz.prog 46 := ⟨.mk Tryz.func46 (by kernel_rfl) rfl⟩
theorem idC_zero (x : IdV) : (idC x).getD 0 undef = .int .u8 (x.xs.getD 0 0) := ints_getD _ _ _ (by rw [x.h]; decide)
def idInc (x : IdV) : IdV := ⟨x.xs.set 0 ((x.xs.getD 0 0 + 1) % 256), by rw [List.length_set, x.h]⟩
theorem idInc_eq (x : IdV) : idC (idInc x) = (idC x).set 0 (.int .u8 ((x.xs.getD 0 0 + 1) % 256)) := (ints_set _ _ _ _).symm
theorem inc_bd {l : List IdV} (h : Bd .u8 (flatI l)) {i : Nat} {x : IdV} (hx : l[i]? = some x) : Bd .u8 (flatI (l.set i (idInc x))) := fun y hy => by
  unfold flatI at hy
  obtain ⟨u, hu, hyu⟩ := List.mem_flatMap.1 hy
  have old : ∀ v ∈ l, y ∈ v.xs → y ∈ flatI l := fun v hv hm => by
    unfold flatI
    exact List.mem_flatMap.2 ⟨v, hv, hm⟩
  rcases List.mem_or_eq_of_mem_set hu with k | rfl
  · exact h y (old u k hyu)
  · rcases List.mem_or_eq_of_mem_set hyu with k | rfl
    · exact h y (old x (List.mem_of_getElem? hx) k)
    · simp only [lim]; omega
@[reducible] def incO (z : OpA) (l : List IdV) : OpA := ⟨{ z.o with ids := flatI l }, z.pa, z.pc⟩
theorem gown_re {T : TypeId} {a : Option Addr} {n c : Nat} {zs zs' : List OpA} {S0 : Nat → Prop} {w : World} (h1 : zs'.flatMap opC = zs.flatMap opC) (h2 : zs'.length = zs.length) (h : (Ent.gown opC 11 T a n c zs).ok S0 w) : (Ent.gown opC 11 T a n c zs').ok S0 w := by
  obtain ⟨k1, k2⟩ := gown_e h
  have k : GOwn opC 11 0 w T a n c zs' := ⟨by rw [h1]; exact k1.own, k1.szf, h2.trans k1.len⟩
  unfold Ent.gown
  exact ⟨k, k2⟩
theorem grI_ops {S0 : Nat → Prop} {w : World} {a : Option Addr} {n c : Nat} {zs : List OpA} (hR : GRow opC 11 S0 w a n zs) (hQ : ∀ z ∈ zs, z.o.rng ∧ z.o.n ≤ z.pc ∧ WRow .u8 32 S0 w z.pa z.o.n z.o.ids) (hc : n ≤ c) : GrI S0 w ⟨none, a, 0, n, 0, c, [], zs⟩ := ⟨WRow.nil, hR, fun z hz i hi => by
  obtain rfl := List.mem_singleton.1 hi
  exact ⟨(hQ z hz).2.2, (hQ z hz).2.1⟩, fun z hz => (hQ z hz).1, Nat.le_refl _, hc⟩
/-- How far the changes came. -/
structure ChA where
  (i : Nat) (zs : List OpA)
theorem dagMakes {S0 S1 S2 S3 : Nat → Prop} (g h : GrA) (z : OpA) (a : Option Addr) (n c : Nat) (zs : List OpA) (TK : TypeId) (w : World) (K0 : Kst w TK) (G : GrI S0 w g) (H : GrI S1 w h) (hr : z.o.rng) (row : WRow .u8 32 S2 w z.pa z.o.n z.o.ids) (cap : z.o.n ≤ z.pc) (Z : GrI S3 w ⟨none, a, 0, n, 0, c, [], zs⟩) :
    Calls Tryz.prog 6 #[.agg (grC g).toArray, .agg (grC h).toArray, .agg (opC z).toArray, .slice a n c] w (Ret w fun v _ => v = .bool true) := by
  refine J.enter 169 Tryz.func6 rfl rfl ?_
  refine run ?_
  refine J.box rfl rfl rfl fun b1 => ?_
  refine J.box rfl rfl rfl fun b2 => ?_
  refine J.box rfl rfl rfl fun b3 => ?_
  refine run ?_
  refine J.call rfl rfl (fun w' M => refGreat g w' (G.ext M.ext)) fun q1 hq1 => ?_
  refine run ?_
  refine J.sp rfl rfl rfl (fun c1 => ?_) (fun c1 => ?_)
  · refine run ?_
    exact J.fin rfl
  refine run ?_
  refine J.call rfl rfl (fun w' M => refGreat h w' (H.ext M.ext)) fun q2 hq2 => ?_
  refine run ?_
  refine J.sp rfl rfl rfl (fun c2 => ?_) (fun c2 => ?_)
  · refine run ?_
    exact J.fin rfl
  refine run ?_
  refine J.callp rfl rfl (fun w' M => great z.o z.pa z.pc w') ?_
  refine run ?_
  refine J.spd rfl rfl rfl (fun c3 => ?_) (fun c3 => ?_)
  · refine run ?_
    exact J.fin rfl
  refine run ?_
  refine J.call rfl rfl (fun w' M => refLarge a n c zs w' (Z.ext M.ext)) fun q4 hq4 => ?_
  refine run ?_
  refine J.ifb rfl (fun c4 => ?_) (fun c4 => ?_)
  · refine run ?_
    exact J.fin rfl
  have s1 := hq1 c1
  have s2 := hq2 c2
  have G := G.gr s1
  have H := H.gr s2
  have Z := Z.gr (hq4 c4)
  have R : OpR S2 w z := ⟨hr.ok c3, row, cap⟩
  have hlg := G.ids.len
  have hlh := H.ids.len
  have hng := G.len
  have hnh := H.len
  have hZc : n ≤ 70 := Z.cap.2.2.2
  have ai := S.addI_arr g.P z.o
  have hsz := uni_16 (a := g.P) (b := h.P) hlg hlh (by have := s1.2.2.1; rw [← hng] at this; exact this) (by have := s2.2.2.1; rw [← hnh] at this; exact this)
  refine run ?_
  refine J.call rfl rfl (fun w' M => refGTwin g w' (G.ext M.ext)) fun o1 ho1 => ?_
  dsimp only [grE, List.cons_append, List.nil_append]
  have hk1 := ho1.ok G.opz
  have hp1 : o1.P = g.P := GrP.P (P := g.P) ho1
  have hm1 : o1.m ≤ 70 ∧ o1.n ≤ 70 := by have := ho1.m; have := ho1.n; have := G.cap; omega
  refine run ?_
  refine J.alloc rfl fun b4 => ?_
  refine run ?_
  refine J.call rfl rfl (fun w' M => dagAdd o1 z TK w' (K0.ext M.ext) (GrR.own hk1 ho1.cap hm1 w' M) (R.ext M.ext)) fun qa hqa => ?_
  dsimp only [grE, List.cons_append, List.nil_append]
  rw [hp1] at hqa ⊢
  refine run ?_
  refine J.alloc rfl fun b5 => ?_
  refine J.alloc rfl fun b6 => ?_
  refine run ?_
  refine J.call rfl rfl (fun w' M => refAdd g z w' (G.ext M.ext) (R.ext M.ext)) fun qb hqb => ?_
  dsimp only [grE, List.cons_append, List.nil_append]
  refine run ?_
  refine J.alloc rfl fun b7 => ?_
  refine J.alloc rfl fun b8 => ?_
  refine run ?_
  refine J.call rfl rfl (fun w' M => dagOf a n c zs TK w' (K0.ext M.ext) (Z.ops.ext M.ext) (Z.inn.ext M.ext) Z.ok (by omega)) fun qc hqc => ?_
  dsimp only [grE, List.cons_append, List.nil_append]
  refine run ?_
  refine J.alloc rfl fun b9 => ?_
  refine run ?_
  refine J.call rfl rfl (fun w' M => refOf a n c zs w' (Z.ops.ext M.ext) (Z.inn.ext M.ext) Z.ok (by omega)) fun qd hqd => ?_
  dsimp only [grE, List.cons_append, List.nil_append]
  refine run ?_
  refine J.alloc rfl fun b10 => ?_
  have sa := add_size (a := g.P) (o := z.o) hlg
  have sc := lst_size (zs.map OpA.o)
  have ka := add_ok (a := g.P) G.opz R.ok
  have kc := lst_ok (l := zs.map OpA.o) fun o ho => by
    obtain ⟨u, hu, rfl⟩ := List.mem_map.1 ho
    exact Z.ok u hu
  refine run ?_
  refine J.callp rfl rfl (fun w' M => refGSame qa qb w' (GrR.own (hqa.ok ka) hqa.cap (hqa.sz sa) w' M) (GrR.own (hqb.ok ka) hqb.cap (hqb.sz sa) w' M)) ?_
  refine run ?_
  refine J.spt rfl rfl rfl (fun c => absurd ⟨hqa.ids.trans hqb.ids.symm, hqa.ops.trans hqb.ops.symm⟩ (of_decide_eq_false c)) (fun _ => ?_)
  refine run ?_
  refine J.spd rfl rfl rfl (fun c => absurd rfl c) (fun _ => ?_)
  refine run ?_
  refine J.spn rfl rfl rfl (fun c => absurd rfl c) (fun _ => ?_)
  refine run ?_
  refine J.callp rfl rfl (fun w' M => refGSame qc qd w' (GrR.own (hqc.ok kc) hqc.cap (hqc.sz sc) w' M) (GrR.own (hqd.ok kc) hqd.cap (hqd.sz sc) w' M)) ?_
  refine run ?_
  refine J.spt rfl rfl rfl (fun c => absurd ⟨hqc.ids.trans hqd.ids.symm, hqc.ops.trans hqd.ops.symm⟩ (of_decide_eq_false c)) (fun _ => ?_)
  refine run ?_
  refine J.ifn rfl (fun c => absurd rfl c) (fun _ => ?_)
  have hqan := hqa.sz sa
  have hqz : ∀ u ∈ qa.zs, u.o.n ≤ 40 := fun u hu => (hqa.ok ka u hu).n
  have hqzl : qa.zs.length = qa.n := by have h1 := hqa.n; have h2 := congrArg List.length hqa.ops; unfold GrA.ops at h2; rw [List.length_map] at h2; omega
  refine run ?_
  refine J.drop (E := [.blk b5 (grC qa) 25, .gown opC 11 54 qa.oa qa.n qa.oc qa.zs, .all (qa.zs.map (opE 43)), .blk b4 (grC o1) 25, .gown opC 11 54 o1.oa o1.n o1.oc o1.zs, .all (o1.zs.map (opE 43)), .wown 43 .u8 32 o1.ia o1.m o1.ic o1.ids, .blk b3 (opC z) 54, .blk b2 (grC h) 25, .blk b1 (grC g) 25]) (by repeat (first | exact List.nil_sublist _ | refine List.Sublist.cons_cons _ ?_ | refine List.Sublist.cons _ ?_)) ?_
  refine J.loop (A := ChA) (fun p => [(20, .int .i64 (p.i : Nat))]) [21, 95, 96, 97, 98, 99, 100, 101, 102, 103, 104, 105, 106, 107, 108, 109, 110, 111, 112, 113, 114, 115, 116, 117, 118, 119, 120, 121, 122, 123, 124, 125] (fun p => [.blk b5 (grC qa) 25, .gown opC 11 54 qa.oa qa.n qa.oc p.zs, .all (p.zs.map (opE 43)), .blk b4 (grC o1) 25, .gown opC 11 54 o1.oa o1.n o1.oc o1.zs, .all (o1.zs.map (opE 43)), .wown 43 .u8 32 o1.ia o1.m o1.ic o1.ids, .blk b3 (opC z) 54, .blk b2 (grC h) 25, .blk b1 (grC g) 25]) (fun p => p.i ≤ qa.n ∧ p.zs.length = qa.n ∧ ∀ u ∈ p.zs, u.o.n ≤ 40) (fun p => qa.n - p.i) ⟨0, qa.zs⟩ (by kernel_rfl) ⟨Nat.zero_le _, hqzl, hqz⟩ (fun p j hI => ?_)
  obtain ⟨hI1, hI2, hI3⟩ := hI
  refine run ?_
  refine J.ifd rfl (fun d1 => ?_) (fun d1 => ?_)
  · obtain ⟨z0, hz0⟩ : ∃ z0, p.zs[p.i]? = some z0 := ⟨_, List.getElem?_eq_getElem (by omega)⟩
    have hn0 := hI3 z0 (List.mem_of_getElem? hz0)
    refine run ?_
    refine J.loop (A := ChA) (fun u => [(21, .int .i64 (u.i : Nat))]) [102, 103, 104, 105, 106, 107, 108, 109, 110, 111, 112, 113, 114, 115, 116, 117, 118, 119, 120, 121, 122, 123, 124, 125] (fun u => [.blk b5 (grC qa) 25, .gown opC 11 54 qa.oa qa.n qa.oc u.zs, .all (u.zs.map (opE 43)), .blk b4 (grC o1) 25, .gown opC 11 54 o1.oa o1.n o1.oc o1.zs, .all (o1.zs.map (opE 43)), .wown 43 .u8 32 o1.ia o1.m o1.ic o1.ids, .blk b3 (opC z) 54, .blk b2 (grC h) 25, .blk b1 (grC g) 25]) (fun u => u.i ≤ z0.o.n ∧ u.zs.length = qa.n ∧ (∀ v ∈ u.zs, v.o.n ≤ 40) ∧ ∃ v, u.zs[p.i]? = some v ∧ v.o.n = z0.o.n) (fun u => z0.o.n - u.i) ⟨0, p.zs⟩ (by kernel_rfl) ⟨Nat.zero_le _, hI2, hI3, z0, hz0, rfl⟩ (fun u j2 hU => ?_)
    obtain ⟨hU1, hU2, hU3, v, hv, hvn⟩ := hU
    have hvv : u.zs[((p.i : Nat) : Int).toNat]? = some v := by rw [Int.toNat_natCast]; exact hv
    refine run ?_
    refine J.ifd rfl (fun d2 => ?_) (fun d2 => ?_)
    · refine J.openA (u.zs.map (opE 43)) p.i (e := opE 43 v) (by rw [List.getElem?_map, hv]; rfl) ?_
      refine J.fact (opE 43 v) (fun _ _ h => (wown_len h).1) fun hlen => ?_
      refine J.fact (opE 43 v) (fun _ _ h => (wown_e h).1.bd) fun hbd => ?_
      obtain ⟨l, hl1, hl2⟩ := chunks v.o.n v.o.ids hlen
      refine J.re (opE 43 v) (.gown idC 32 43 v.pa v.o.n v.pc l) (fun _ _ h => wown_gown hl2 hl1 h) ?_
      refine J.fact (.gown idC 32 43 v.pa v.o.n v.pc l) (fun _ _ h => (gown_e h).1.some (by omega)) fun hpa => ?_
      obtain ⟨x, hx⟩ : ∃ x, l[((u.i : Nat) : Int).toNat]? = some x := ⟨_, List.getElem?_eq_getElem (by omega)⟩
      refine run ?_
      refine J.regionX [(0, .q), (1, .q), (2, .q), (3, .q), (4, .q), (5, .q), (6, .q), (7, .q), (8, .q), (9, .q), (10, .q), (11, .q), (12, .q), (13, .g)] mixed (by kernel_rfl) ?_
      refine run ?_
      refine J.ix0 rfl hpa rfl rfl ?_
      refine J.ldGf (f := idC) (off := 0) rfl RG.own' ?_ (hq := hx) (hf := idC_zero x)
      refine J.add rfl rfl rfl ?_ (hw := W.u8m _)
      refine run ?_
      refine J.ix0 rfl hpa rfl rfl ?_
      refine J.stGf (f := idC) (o := 0) (q0 := x) (q := idInc x) rfl rfl hx (idInc_eq x) ?_
      refine run ?_
      have hx' : l[u.i]? = some x := by rw [Int.toNat_natCast] at hx; exact hx
      refine J.re (.gown idC 32 43 v.pa v.o.n v.pc (l.set ((u.i : Nat) : Int).toNat (idInc x))) (opE 43 (incO v (l.set u.i (idInc x)))) (fun _ _ h => gown_wown (inc_bd (by rw [hl2]; exact hbd) hx') (by rw [Int.toNat_natCast] at h; exact h)) ?_
      refine J.shutA (u.zs.map (opE 43)) p.i (opE 43 (incO v (l.set u.i (idInc x)))) (by rw [List.length_map]; omega) ?_
      rw [← List.map_set]
      refine J.re (.gown opC 11 54 qa.oa qa.n qa.oc u.zs) (.gown opC 11 54 qa.oa qa.n qa.oc (u.zs.set p.i (incO v (l.set u.i (idInc x))))) (fun _ _ h => gown_re (flat_same hv rfl) (by rw [List.length_set]) h) ?_
      refine J.front (.all ((u.zs.set p.i (incO v (l.set u.i (idInc x)))).map (opE 43))) ?_
      refine J.front (.gown opC 11 54 qa.oa qa.n qa.oc (u.zs.set p.i (incO v (l.set u.i (idInc x))))) ?_
      refine J.front (.blk b5 (grC qa) 25) ?_
      exact J.next ⟨u.i + 1, u.zs.set p.i (incO v (l.set u.i (idInc x)))⟩ ⟨rfl, trivial⟩ (by kernel_rfl) ⟨by dsimp only; omega, by dsimp only; rw [List.length_set]; exact hU2, fun y hy => by
        rcases List.mem_or_eq_of_mem_set hy with k | rfl
        · exact hU3 y k
        · exact hU3 v (List.mem_of_getElem? hv), incO v (l.set u.i (idInc x)), by dsimp only; rw [List.getElem?_set]; rw [if_pos rfl, if_pos (by omega)], hvn⟩ (by dsimp only; omega)
    refine run ?_
    exact J.next ⟨p.i + 1, u.zs⟩ ⟨rfl, trivial⟩ (by kernel_rfl) ⟨by dsimp only; omega, hU2, hU3⟩ (by dsimp only; omega)
  refine run ?_
  refine J.call rfl rfl (fun w' M => dagUnion o1 h TK w' (K0.ext M.ext) (GrR.own hk1 ho1.cap hm1 w' M) (H.ext M.ext) (by rw [hp1]; exact hsz)) fun qp hqp => ?_
  dsimp only [grE, List.cons_append, List.nil_append]
  rw [hp1] at hqp ⊢
  refine run ?_
  refine J.alloc rfl fun b11 => ?_
  refine run ?_
  refine J.call rfl rfl (fun w' M => refUnion g h w' (G.ext M.ext) (H.ext M.ext) hsz) fun qq hqq => ?_
  dsimp only [grE, List.cons_append, List.nil_append]
  refine run ?_
  refine J.alloc rfl fun b12 => ?_
  refine run ?_
  refine J.callp rfl rfl (fun w' M => dagEqual o1 h TK w' (K0.ext M.ext) (GrR.own hk1 ho1.cap hm1 w' M) (H.ext M.ext)) ?_
  rw [hp1]
  refine run ?_
  refine J.callp rfl rfl (fun w' M => refEqual g h w' (G.ext M.ext) (H.ext M.ext)) ?_
  have sp := uniP_size (a := g.P) (b := h.P) hlg hlh
  have kp := uniP_ok (a := g.P) (b := h.P) G.opz H.zok
  refine run ?_
  refine J.callp rfl rfl (fun w' M => refGSame qp qq w' (GrR.own (hqp.ok kp) hqp.cap (hqp.sz sp) w' M) (GrR.own (hqq.ok kp) hqq.cap (hqq.sz sp) w' M)) ?_
  refine run ?_
  refine J.spd rfl rfl rfl (fun _ => ?_) (fun c => absurd ⟨hqp.ids.trans hqq.ids.symm, hqp.ops.trans hqq.ops.symm⟩ c)
  refine run ?_
  refine J.spe rfl rfl rfl (fun _ => ?_) (fun c => absurd rfl c)
  refine run ?_
  refine J.sp rfl rfl rfl (fun _ => ?_) (fun c => by simp at c)
  refine run ?_
  refine J.spe rfl rfl rfl (fun _ => ?_) (fun c => absurd rfl c)
  refine run ?_
  refine J.callp rfl rfl (fun w' M => refGSame o1 g w' (GrR.own hk1 ho1.cap hm1 w' M) (G.ext M.ext)) ?_
  refine run ?_
  exact J.fin (congrArg _ (decide_eq_true ⟨ho1.ids, ho1.ops⟩))
end Go.Proofs.YtakbhjagiofbgaaGreatDoor.W
