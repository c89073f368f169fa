/-
  DagOrders: the graph of a list does not depend on the order, and operations that are added one by one make it. Condition: the table digest.constants is as its initialiser lays it (tied by the card).
-/
import Derived.Test.YtakbhjagiofbgaaGreatDoorPDxDagOrdersb
namespace Go.Proofs.YtakbhjagiofbgaaGreatDoor.W
open Go.RowKit Go.Proofs.YtakbhjagiofbgaaGreatDoor.G
set_option linter.unusedVariables false
set_option linter.unusedSimpArgs false
set_option maxRecDepth 20000
set_option maxHeartbeats 8000000
attribute [local irreducible] RS RX RY Code.wp bodyPost J Ent.blk Ent.irow Ent.iown Ent.wrow Ent.wown Ent.grow Ent.gown Ent.all Ent.emp
instance : Ents Tryz.prog 28 := ⟨.mk Tryz.func28 (by kernel_rfl) rfl⟩
instance : Ents Tryz.prog 30 := ⟨.mk Tryz.func30 (by kernel_rfl) rfl⟩
instance : Ents Tryz.prog 41 := ⟨.mk Tryz.func41 (by kernel_rfl) rfl⟩
theorem rot_perm (zs : List OpA) (k : Nat) : ((zs.drop k ++ zs.take k).map OpA.o).Perm (zs.map OpA.o) := by
 refine List.Perm.map _ (List.perm_append_comm.trans ?_)
 rw [List.take_append_drop]
theorem rot_mem {zs : List OpA} {k : Nat} {y : OpA} (h : y ∈ zs.drop k ++ zs.take k) : y ∈ zs := by
 rcases List.mem_append.1 h with h | h
 ·exact List.mem_of_mem_drop h
 exact List.mem_of_mem_take h
structure AdA where
 (i : Nat) (q : GrA) (P : S.PG)
theorem lawOrders {S0 : Nat → Prop} (g : GrA) (t : Int) (TK : TypeId) (w : World) (K0 : Kst w TK) (G : GrI S0 w g) :
  Calls Tryz.prog 7 #[.agg (grC g).toArray, .int .i64 t] w (Ret w fun v _ => v = .bool true) := by
 refine J.enter 111 Tryz.func7 rfl rfl ?_
 refine run ?_
 refine J.box rfl rfl rfl fun b1 => ?_
 refine run ?_
 refine J.call rfl rfl (fun w' M => lawFit g w' (G.ext M.ext)) fun q1 hq1 => ?_
 refine run ?_
 refine J.spt rfl rfl rfl (fun c1 => ?_) (fun c1 => ?_)
 ·skip
  refine run ?_
  refine J.callp rfl rfl (fun w' M => dagAlive TK w' (K0.ext M.ext)) ?_
  refine run ?_
  exact J.fin rfl
 refine run ?_
 refine J.spd rfl rfl rfl (fun c2 => ?_) (fun c2 => ?_)
 ·skip
  refine run ?_
  refine J.callp rfl rfl (fun w' M => dagAlive TK w' (K0.ext M.ext)) ?_
  refine run ?_
  exact J.fin rfl
 refine run ?_
 refine J.ifd rfl (fun c3 => ?_) (fun c3 => ?_)
 ·skip
  refine run ?_
  refine J.callp rfl rfl (fun w' M => dagAlive TK w' (K0.ext M.ext)) ?_
  refine run ?_
  exact J.fin rfl
 obtain ⟨s1, k1⟩ := hq1 c1
 have G := G.gr s1
 have G0 := G.ops
 have D0 := G.ids
 have hlg := G.ids.len
 have hcp := G.cap
 have hzl := G0.len
 have fg : g.P.fine := (S.chkP_fine hlg).1 k1
 have hgn : g.n = g.m := G.len.symm.trans fg.good.2
 have szg : g.P.good ∧ g.P.m ≤ 60 := ⟨fg.good, fg.le⟩
 obtain ⟨k, hk⟩ : ∃ k : Nat, t = k := ⟨t.toNat, by omega⟩
 subst hk
 have la := S.lst_perm fg (List.Perm.refl _)
 have lb := S.lst_perm fg (l := (g.zs.drop k ++ g.zs.take k).map OpA.o) (rot_perm _ _)
 have hnn : g.n - k + k = g.n := by omega
 refine run ?_
 refine J.call rfl rfl (fun w' M => dagOf g.oa g.n g.oc g.zs TK w' (K0.ext M.ext) (G0.ext M.ext) (G.inn.ext M.ext) G.ok (by omega)) fun qa hqa => ?_
 dsimp only [grE, List.cons_append, List.nil_append]
 rw [show S.lstP (g.zs.map OpA.o) = g.P from la.2] at hqa
 rw [show S.lstE (g.zs.map OpA.o) = 0 from la.1]
 refine run ?_
 refine J.alloc rfl fun b2 => ?_
 refine run ?_
 refine J.joinX (A := GrA × Nat) (fun u => [(7, .pointer (some ⟨u.2, 0, none⟩)), (8, .int .i64 0)]) [36, 37, 38, 39, 40, 41, 42, 43, 44, 45, 46, 47, 48, 49, 50] (fun u => [.blk u.2 (grC u.1) 25, .gown opC 11 54 u.1.oa u.1.n u.1.oc u.1.zs, .all (u.1.zs.map (opE 43)), .wown 43 .u8 32 u.1.ia u.1.m u.1.ic u.1.ids, .blk b2 (grC qa) 25, .gown opC 11 54 qa.oa qa.n qa.oc qa.zs, .all (qa.zs.map (opE 43)), .wown 43 .u8 32 qa.ia qa.m qa.ic qa.ids, .blk b1 (grC g) 25]) (fun u => GrP g.P.m g.P.ids g.P.ops u.1) ?_ (fun u j2 hu => ?_)
 ·refine J.regionW [.blk b1 (grC g) 25] mixed ?_
  refine J.wnode [(1, .q), (2, .q), (3, .q), (4, .q), (6, .q), (7, .q), (8, .q), (9, .q)] [0, 15] 9 #[false, true, true, true, true, false, true, true, true, true, false, false, false, false, false, false, false, false] (by kernel_rfl) ?_
  refine run ?_
  refine J.nil ?_
  refine J.wbr ?_ ?_
  ·refine J.b0G opC opC_len rfl fun bz => ?_
   refine J.nil ?_
   refine J.wnode [] [5, 15] 8 #[true, true, true, true, true, false, true, true, true, true, false, false, false, false, false, false, false, false] (by kernel_rfl) ?_
   refine run ?_
   refine J.nil ?_
   refine J.wbr ?_ ?_
   ·refine J.apG (n2 := g.n - k) rfl rfl (rgDrop (RG.arg G0) k g.oc (by omega) (by omega) hzl) opC_one fun a1 c1 => ?_
    rw [Nat.zero_add (g.n - k), List.nil_append (g.zs.drop k)]
    refine J.nil ?_
    refine J.wnode [] [10, 15] 7 #[true, true, true, true, true, true, true, true, true, true, false, false, false, false, false, false, false, false] (by kernel_rfl) ?_
    refine run ?_
    refine J.nil ?_
    refine J.wbr ?_ ?_
    ·refine J.apG (n2 := k) rfl rfl (rgTake (RG.arg G0) k g.oc (by omega) (by omega)) opC_one fun a2 c2 => ?_
     rw [hnn]
     refine J.nil ?_
     refine J.wnode [] [11, 15] 6 #[true, true, true, true, true, true, true, true, true, true, true, false, false, false, false, false, false, false] (by kernel_rfl) ?_
     refine run ?_
     refine J.nil ?_
     refine J.wbr ?_ ?_
     ·refine J.call rfl rfl (fun w' M => (RG.own' (a := a2) w' M).elim fun _ k0 => dagOf (S0 := fun _ => True) a2 g.n c2 (g.zs.drop k ++ g.zs.take k) TK w' (K0.ext M.ext) (k0.weaken fun _ _ _ => trivial) (fun y hy => Inns.weak (G.inn.ext M.ext) (fun _ _ => trivial) y (rot_mem hy)) (fun y hy => G.ok y (rot_mem hy)) (by omega)) fun q hq => ?_
      dsimp only [grE, List.cons_append, List.nil_append]
      rw [lb.2] at hq
      rw [lb.1]
      refine J.nil ?_
      refine J.wfin [(12, .q), (13, .q), (14, .q), (15, .e), (16, .e), (17, .q)] (by kernel_rfl) ?_
      refine run ?_
      refine J.alloc rfl fun bg => ?_
      refine run ?_
      refine run ?_
      refine J.front (.blk bg (grC q) 25) ?_
      exact J.cut (q, bg) ⟨rfl, rfl, trivial⟩ (by kernel_rfl) hq
     refine J.wbr ?_ ?_
     ·refine J.alloc rfl fun bg => ?_
      refine J.nil ?_
      refine J.wfin [(11, .e), (12, .q), (13, .q), (14, .q), (16, .e), (17, .q)] (by kernel_rfl) ?_
      refine run ?_
      refine J.call rfl rfl (fun w' M => (RG.own' (a := a2) w' M).elim fun _ k0 => dagOf (S0 := fun _ => True) a2 g.n c2 (g.zs.drop k ++ g.zs.take k) TK w' (K0.ext M.ext) (k0.weaken fun _ _ _ => trivial) (fun y hy => Inns.weak (G.inn.ext M.ext) (fun _ _ => trivial) y (rot_mem hy)) (fun y hy => G.ok y (rot_mem hy)) (by omega)) fun q hq => ?_
      dsimp only [grE, List.cons_append, List.nil_append]
      rw [lb.2] at hq
      rw [lb.1]
      refine run ?_
      refine run ?_
      refine J.front (.blk bg (grC q) 25) ?_
      exact J.cut (q, bg) ⟨rfl, rfl, trivial⟩ (by kernel_rfl) hq
     exact J.wbr0
    refine J.wbr ?_ ?_
    ·refine J.alloc rfl fun bg => ?_
     refine J.nil ?_
     refine J.wfin [(10, .e), (11, .e), (12, .q), (13, .q), (14, .q), (16, .e), (17, .q)] (by kernel_rfl) ?_
     refine run ?_
     refine J.apG (n2 := k) rfl rfl (rgTake (RG.arg G0) k g.oc (by omega) (by omega)) opC_one fun a2 c2 => ?_
     rw [hnn]
     refine run ?_
     refine J.call rfl rfl (fun w' M => (RG.own' (a := a2) w' M).elim fun _ k0 => dagOf (S0 := fun _ => True) a2 g.n c2 (g.zs.drop k ++ g.zs.take k) TK w' (K0.ext M.ext) (k0.weaken fun _ _ _ => trivial) (fun y hy => Inns.weak (G.inn.ext M.ext) (fun _ _ => trivial) y (rot_mem hy)) (fun y hy => G.ok y (rot_mem hy)) (by omega)) fun q hq => ?_
     dsimp only [grE, List.cons_append, List.nil_append]
     rw [lb.2] at hq
     rw [lb.1]
     refine run ?_
     refine run ?_
     refine J.front (.blk bg (grC q) 25) ?_
     exact J.cut (q, bg) ⟨rfl, rfl, trivial⟩ (by kernel_rfl) hq
    exact J.wbr0
   refine J.wbr ?_ ?_
   ·refine J.alloc rfl fun bg => ?_
    refine J.nil ?_
    refine J.wfin [(5, .e), (10, .e), (11, .e), (12, .q), (13, .q), (14, .q), (16, .e), (17, .q)] (by kernel_rfl) ?_
    refine run ?_
    refine J.apG (n2 := g.n - k) rfl rfl (rgDrop (RG.arg G0) k g.oc (by omega) (by omega) hzl) opC_one fun a1 c1 => ?_
    rw [Nat.zero_add (g.n - k), List.nil_append (g.zs.drop k)]
    refine run ?_
    refine J.apG (n2 := k) rfl rfl (rgTake (RG.arg G0) k g.oc (by omega) (by omega)) opC_one fun a2 c2 => ?_
    rw [hnn]
    refine run ?_
    refine J.call rfl rfl (fun w' M => (RG.own' (a := a2) w' M).elim fun _ k0 => dagOf (S0 := fun _ => True) a2 g.n c2 (g.zs.drop k ++ g.zs.take k) TK w' (K0.ext M.ext) (k0.weaken fun _ _ _ => trivial) (fun y hy => Inns.weak (G.inn.ext M.ext) (fun _ _ => trivial) y (rot_mem hy)) (fun y hy => G.ok y (rot_mem hy)) (by omega)) fun q hq => ?_
    dsimp only [grE, List.cons_append, List.nil_append]
    rw [lb.2] at hq
    rw [lb.1]
    refine run ?_
    refine run ?_
    refine J.front (.blk bg (grC q) 25) ?_
    exact J.cut (q, bg) ⟨rfl, rfl, trivial⟩ (by kernel_rfl) hq
   exact J.wbr0
  refine J.wbr ?_ ?_
  ·refine J.alloc rfl fun bg => ?_
   refine J.nil ?_
   refine J.wfin [(0, .e), (5, .e), (10, .e), (11, .e), (12, .q), (13, .q), (14, .q), (16, .e), (17, .q)] (by kernel_rfl) ?_
   refine run ?_
   refine J.b0G opC opC_len rfl fun bz => ?_
   refine run ?_
   refine J.apG (n2 := g.n - k) rfl rfl (rgDrop (RG.arg G0) k g.oc (by omega) (by omega) hzl) opC_one fun a1 c1 => ?_
   rw [Nat.zero_add (g.n - k), List.nil_append (g.zs.drop k)]
   refine run ?_
   refine J.apG (n2 := k) rfl rfl (rgTake (RG.arg G0) k g.oc (by omega) (by omega)) opC_one fun a2 c2 => ?_
   rw [hnn]
   refine run ?_
   refine J.call rfl rfl (fun w' M => (RG.own' (a := a2) w' M).elim fun _ k0 => dagOf (S0 := fun _ => True) a2 g.n c2 (g.zs.drop k ++ g.zs.take k) TK w' (K0.ext M.ext) (k0.weaken fun _ _ _ => trivial) (fun y hy => Inns.weak (G.inn.ext M.ext) (fun _ _ => trivial) y (rot_mem hy)) (fun y hy => G.ok y (rot_mem hy)) (by omega)) fun q hq => ?_
   dsimp only [grE, List.cons_append, List.nil_append]
   rw [lb.2] at hq
   rw [lb.1]
   refine run ?_
   refine run ?_
   refine J.front (.blk bg (grC q) 25) ?_
   exact J.cut (q, bg) ⟨rfl, rfl, trivial⟩ (by kernel_rfl) hq
  exact J.wbr0
 obtain ⟨qb, b3⟩ := u
 dsimp only at hu ⊢
 refine run ?_
 refine J.callp rfl rfl (fun w' M => refGSame qa g w' (GrR.own (hqa.ok G.opz) hqa.cap (hqa.sz szg) w' M) (G.ext M.ext)) ?_
 refine run ?_
 refine J.spt rfl rfl rfl (fun c => absurd ⟨hqa.ids, hqa.ops⟩ (of_decide_eq_false c)) (fun _ => ?_)
 refine run ?_
 refine J.callp rfl rfl (fun w' M => refGSame qb g w' (GrR.own (hu.ok G.opz) hu.cap (hu.sz szg) w' M) (G.ext M.ext)) ?_
 refine run ?_
 refine J.ifnot rfl (fun c => absurd ⟨hu.ids, hu.ops⟩ (of_decide_eq_false c)) (fun _ => ?_)
 refine J.drop (E := [.blk b1 (grC g) 25]) (by repeat (first | exact List.nil_sublist _ | refine List.Sublist.cons_cons _ ?_ | refine List.Sublist.cons _ ?_)) ?_
 refine run ?_
 refine J.callp rfl rfl (fun w' M => dagNew w') ?_
 refine run ?_
 refine J.alloc rfl fun b9 => ?_
 refine run ?_
 have hz := S.chkG_zero.1 k1
 refine J.call rfl rfl (fun w' M => refOrderL g w' (G.ext M.ext) hgn.symm hz.2.2.2.1 hz.2.2.2.2.1) fun l hl => ?_
 obtain ⟨l1, l2, l3⟩ := hl
 rw [hgn] at l2 l3
 have hfull := S.order_full fg l2.nd l2.lt l2.sq l3
 refine run ?_
 refine J.nilGr 43 54 ?_
 refine J.front (.blk b9 [.slice none 0 0, .slice none 0 0] 25) ?_
 refine J.drop (E := [.blk b9 [.slice none 0 0, .slice none 0 0] 25, .gown opC 11 54 none 0 0 [], .all [], .wown 43 .u8 32 none 0 0 [], .iown 3 .i64 l.1.1 l.1.2.1 l.1.2.2 (S.castL l.2), .blk b1 (grC g) 25]) (by repeat (first | exact List.nil_sublist _ | refine List.Sublist.cons_cons _ ?_ | refine List.Sublist.cons _ ?_)) ?_
 refine J.loop (A := AdA) (fun p => [(11, .int .i64 (p.i : Nat))]) [4, 12, 13, 14, 72, 73, 74, 75, 76, 77, 78, 79, 80, 81, 82, 83, 84, 85, 86, 87, 88, 89, 90, 91, 92, 93, 94, 95, 96, 97, 98, 99, 100, 101, 102, 103, 104, 105, 106] (fun p => [.blk b9 (grC p.q) 25, .gown opC 11 54 p.q.oa p.q.n p.q.oc p.q.zs, .all (p.q.zs.map (opE 43)), .wown 43 .u8 32 p.q.ia p.q.m p.q.ic p.q.ids, .iown 3 .i64 l.1.1 l.1.2.1 l.1.2.2 (S.castL l.2), .blk b1 (grC g) 25]) (fun p => p.i ≤ l.2.length ∧ S.PartG g.P l.2 p.i p.P ∧ GrP p.P.m p.P.ids p.P.ops p.q ∧ ∀ o ∈ p.P.ops, o.ok) (fun p => l.2.length - p.i) ⟨0, ⟨none, none, 0, 0, 0, 0, [], []⟩, .nil⟩ (by kernel_rfl) ⟨Nat.zero_le _, S.part_zero _ _, GrP.nil, fun o ho => (by cases ho)⟩ (fun p j hI => ?_)
 obtain ⟨hI1, hI2, hI3, hI4⟩ := hI
 have spq : p.P.good ∧ p.P.m ≤ 60 := ⟨hI2.fine.good, hI2.fine.le⟩
 refine run ?_
 refine J.ifd rfl (fun d1 => ?_) (fun d1 => ?_)
 ·have hlt : p.i < l.2.length := by omega
  obtain ⟨e1, e2, e3⟩ := S.part_add fg l2.nd l2.lt l2.sq hI2 hlt
  have hm : l.2.getD p.i 0 < g.m := l2.lt _ (S.getD_mem hlt)
  have hci : ((l.2.getD p.i 0 : Nat) : Int) = (S.castL l.2).getD ((p.i : Nat) : Int).toNat 0 := by rw [Int.toNat_natCast, S.castL_get]
  obtain ⟨z, hzz⟩ := G0.ex (i := (l.2.getD p.i 0 : Nat)) (by omega)
  have R := G.op hzz
  have hzo := GrA.opAt hzz
  rw [Int.toNat_natCast] at hzo
  have hzo : g.P.ops.getD (l.2.getD p.i 0) S.OpV.zero = z.o := hzo
  rw [hzo] at e1 e2 e3
  have hP := GrP.P hI3
  have ai : Arr .u8 32 (elt 32 g.ids (l.2.getD p.i 0)) := G.ids.elt_arr hm
  have e4 : S.addI p.P z.o = elt 32 g.ids (l.2.getD p.i 0) := e2
  refine run ?_
  refine J.joinX (A := GrA × Nat × Nat) (fun u => [(12, .pointer (some ⟨u.2.1, 0, none⟩)), (13, .pointer (some ⟨u.2.2, 0, none⟩)), (14, .int .i64 0)]) [78, 79, 80, 81, 82, 83, 84, 85, 86, 87, 88, 89, 90, 91] (fun u => [.blk u.2.2 (ints .u8 (elt 32 g.ids (l.2.getD p.i 0))) 43, .blk u.2.1 (grC u.1) 25, .gown opC 11 54 u.1.oa u.1.n u.1.oc u.1.zs, .all (u.1.zs.map (opE 43)), .wown 43 .u8 32 u.1.ia u.1.m u.1.ic u.1.ids, .blk b9 (grC p.q) 25, .iown 3 .i64 l.1.1 l.1.2.1 l.1.2.2 (S.castL l.2), .blk b1 (grC g) 25]) (fun u => GrP (S.addP p.P z.o).m (S.addP p.P z.o).ids (S.addP p.P z.o).ops u.1) ?_ (fun u j3 hu3 => ?_)
  ·refine J.regionW [.blk b9 (grC p.q) 25, .iown 3 .i64 l.1.1 l.1.2.1 l.1.2.2 (S.castL l.2), .blk b1 (grC g) 25] mixed ?_
   refine J.wnode [(0, .q), (1, .q), (2, .q), (3, .q), (4, .q), (5, .q), (6, .q), (7, .q), (8, .q)] [9, 14, 15] 9 #[true, true, true, true, true, true, true, true, true, false, false, false, false, false, false, false, false, false, false] (by kernel_rfl) ?_
   refine run ?_
   refine J.nil ?_
   refine J.wbr ?_ ?_
   ·refine J.call rfl rfl (fun w' M => dagAdd p.q z TK w' (K0.ext M.ext) (GrR.own (hI3.ok hI4) hI3.cap (hI3.sz spq) w' M) (R.ext M.ext)) fun q hq => ?_
    dsimp only [grE, List.cons_append, List.nil_append]
    rw [hP] at hq ⊢
    rw [e1, e4]
    refine J.nil ?_
    refine J.wnode [(10, .q), (11, .q), (12, .q), (13, .q)] [14, 15] 4 #[true, true, true, true, true, true, true, true, true, true, true, true, true, true, false, false, false, false, false] (by kernel_rfl) ?_
    refine run ?_
    refine J.nil ?_
    refine J.wbr ?_ ?_
    ·refine J.alloc rfl fun bg => ?_
     refine J.nil ?_
     refine J.wfin [(15, .e), (16, .e), (17, .e), (18, .q)] (by kernel_rfl) ?_
     refine run ?_
     refine J.alloc rfl fun bi => ?_
     refine run ?_
     refine run ?_
     refine run ?_
     refine J.front (.wown 43 .u8 32 q.ia q.m q.ic q.ids) ?_
     refine J.front (.all (q.zs.map (opE 43))) ?_
     refine J.front (.gown opC 11 54 q.oa q.n q.oc q.zs) ?_
     refine J.front (.blk bg (grC q) 25) ?_
     refine J.front (.blk bi (ints .u8 (elt 32 g.ids (l.2.getD p.i 0))) 43) ?_
     exact J.cut (q, bg, bi) ⟨rfl, rfl, rfl, trivial⟩ (by kernel_rfl) hq
    refine J.wbr ?_ ?_
    ·refine J.alloc rfl fun bi => ?_
     refine J.nil ?_
     refine J.wfin [(14, .e), (16, .e), (17, .e), (18, .q)] (by kernel_rfl) ?_
     refine run ?_
     refine J.alloc rfl fun bg => ?_
     refine run ?_
     refine run ?_
     refine run ?_
     refine J.front (.wown 43 .u8 32 q.ia q.m q.ic q.ids) ?_
     refine J.front (.all (q.zs.map (opE 43))) ?_
     refine J.front (.gown opC 11 54 q.oa q.n q.oc q.zs) ?_
     refine J.front (.blk bg (grC q) 25) ?_
     refine J.front (.blk bi (ints .u8 (elt 32 g.ids (l.2.getD p.i 0))) 43) ?_
     exact J.cut (q, bg, bi) ⟨rfl, rfl, rfl, trivial⟩ (by kernel_rfl) hq
    exact J.wbr0
   refine J.wbr ?_ ?_
   ·refine J.alloc rfl fun bg => ?_
    refine J.nil ?_
    refine J.wnode [] [9, 15] 8 #[true, true, true, true, true, true, true, true, true, false, false, false, false, false, true, false, false, false, false] (by kernel_rfl) ?_
    refine run ?_
    refine J.nil ?_
    refine J.wbr ?_ ?_
    ·refine J.call rfl rfl (fun w' M => dagAdd p.q z TK w' (K0.ext M.ext) (GrR.own (hI3.ok hI4) hI3.cap (hI3.sz spq) w' M) (R.ext M.ext)) fun q hq => ?_
     dsimp only [grE, List.cons_append, List.nil_append]
     rw [hP] at hq ⊢
     rw [e1, e4]
     refine J.nil ?_
     refine J.wfin [(10, .q), (11, .q), (12, .q), (13, .q), (15, .e), (16, .e), (17, .e), (18, .q)] (by kernel_rfl) ?_
     refine run ?_
     refine J.alloc rfl fun bi => ?_
     refine run ?_
     refine run ?_
     refine run ?_
     refine J.front (.wown 43 .u8 32 q.ia q.m q.ic q.ids) ?_
     refine J.front (.all (q.zs.map (opE 43))) ?_
     refine J.front (.gown opC 11 54 q.oa q.n q.oc q.zs) ?_
     refine J.front (.blk bg (grC q) 25) ?_
     refine J.front (.blk bi (ints .u8 (elt 32 g.ids (l.2.getD p.i 0))) 43) ?_
     exact J.cut (q, bg, bi) ⟨rfl, rfl, rfl, trivial⟩ (by kernel_rfl) hq
    refine J.wbr ?_ ?_
    ·refine J.alloc rfl fun bi => ?_
     refine J.nil ?_
     refine J.wfin [(9, .e), (10, .q), (11, .q), (12, .q), (13, .q), (16, .e), (17, .e), (18, .q)] (by kernel_rfl) ?_
     refine run ?_
     refine J.call rfl rfl (fun w' M => dagAdd p.q z TK w' (K0.ext M.ext) (GrR.own (hI3.ok hI4) hI3.cap (hI3.sz spq) w' M) (R.ext M.ext)) fun q hq => ?_
     dsimp only [grE, List.cons_append, List.nil_append]
     rw [hP] at hq ⊢
     rw [e1, e4]
     refine run ?_
     refine run ?_
     refine run ?_
     refine J.front (.wown 43 .u8 32 q.ia q.m q.ic q.ids) ?_
     refine J.front (.all (q.zs.map (opE 43))) ?_
     refine J.front (.gown opC 11 54 q.oa q.n q.oc q.zs) ?_
     refine J.front (.blk bg (grC q) 25) ?_
     refine J.front (.blk bi (ints .u8 (elt 32 g.ids (l.2.getD p.i 0))) 43) ?_
     exact J.cut (q, bg, bi) ⟨rfl, rfl, rfl, trivial⟩ (by kernel_rfl) hq
    exact J.wbr0
   refine J.wbr ?_ ?_
   ·refine J.alloc rfl fun bi => ?_
    refine J.nil ?_
    refine J.wnode [] [9, 14] 8 #[true, true, true, true, true, true, true, true, true, false, false, false, false, false, false, true, false, false, false] (by kernel_rfl) ?_
    refine run ?_
    refine J.nil ?_
    refine J.wbr ?_ ?_
    ·refine J.call rfl rfl (fun w' M => dagAdd p.q z TK w' (K0.ext M.ext) (GrR.own (hI3.ok hI4) hI3.cap (hI3.sz spq) w' M) (R.ext M.ext)) fun q hq => ?_
     dsimp only [grE, List.cons_append, List.nil_append]
     rw [hP] at hq ⊢
     rw [e1, e4]
     refine J.nil ?_
     refine J.wfin [(10, .q), (11, .q), (12, .q), (13, .q), (14, .e), (16, .e), (17, .e), (18, .q)] (by kernel_rfl) ?_
     refine run ?_
     refine J.alloc rfl fun bg => ?_
     refine run ?_
     refine run ?_
     refine run ?_
     refine J.front (.wown 43 .u8 32 q.ia q.m q.ic q.ids) ?_
     refine J.front (.all (q.zs.map (opE 43))) ?_
     refine J.front (.gown opC 11 54 q.oa q.n q.oc q.zs) ?_
     refine J.front (.blk bg (grC q) 25) ?_
     refine J.front (.blk bi (ints .u8 (elt 32 g.ids (l.2.getD p.i 0))) 43) ?_
     exact J.cut (q, bg, bi) ⟨rfl, rfl, rfl, trivial⟩ (by kernel_rfl) hq
    refine J.wbr ?_ ?_
    ·refine J.alloc rfl fun bg => ?_
     refine J.nil ?_
     refine J.wfin [(9, .e), (10, .q), (11, .q), (12, .q), (13, .q), (16, .e), (17, .e), (18, .q)] (by kernel_rfl) ?_
     refine run ?_
     refine J.call rfl rfl (fun w' M => dagAdd p.q z TK w' (K0.ext M.ext) (GrR.own (hI3.ok hI4) hI3.cap (hI3.sz spq) w' M) (R.ext M.ext)) fun q hq => ?_
     dsimp only [grE, List.cons_append, List.nil_append]
     rw [hP] at hq ⊢
     rw [e1, e4]
     refine run ?_
     refine run ?_
     refine run ?_
     refine J.front (.wown 43 .u8 32 q.ia q.m q.ic q.ids) ?_
     refine J.front (.all (q.zs.map (opE 43))) ?_
     refine J.front (.gown opC 11 54 q.oa q.n q.oc q.zs) ?_
     refine J.front (.blk bg (grC q) 25) ?_
     refine J.front (.blk bi (ints .u8 (elt 32 g.ids (l.2.getD p.i 0))) 43) ?_
     exact J.cut (q, bg, bi) ⟨rfl, rfl, rfl, trivial⟩ (by kernel_rfl) hq
    exact J.wbr0
   exact J.wbr0
  obtain ⟨q, b12, b13⟩ := u
  clear e2 e4
  have ai2 : Arr .u8 32 (elt 32 g.ids ((l.2.getD p.i 0 : Nat) : Int).toNat) := ai
  dsimp only at hu3 ⊢
  refine run ?_
  refine J.regionX [(0, .q), (1, .q), (2, .q), (3, .q), (4, .q), (5, .q), (6, .q), (7, .q), (8, .q), (9, .q), (10, .q), (11, .q), (12, .q), (13, .q)] mixed (by kernel_rfl) ?_
  refine run ?_
  refine J.ifd rfl (fun c => ?_) (fun _ => ?_)
  ·rw [Int.toNat_natCast] at c
   exact absurd rfl c
  refine run ?_
  refine J.front (.wown 43 .u8 32 q.ia q.m q.ic q.ids) ?_
  refine J.front (.all (q.zs.map (opE 43))) ?_
  refine J.front (.gown opC 11 54 q.oa q.n q.oc q.zs) ?_
  refine J.front (.blk b9 (grC q) 25) ?_
  exact J.next ⟨p.i + 1, q, S.addP p.P z.o⟩ ⟨rfl, trivial⟩ (by kernel_rfl) ⟨by dsimp only; omega, e3, hu3, add_ok hI4 R.ok⟩ (by dsimp only; omega)
 have hpi : p.i = l.2.length := by omega
 rw [hpi] at hI2
 have hend := S.part_all fg l2.nd l2.lt (by rw [hfull]; exact Nat.le_refl _) hI2
 rw [hend] at hI3
 refine run ?_
 refine J.callp rfl rfl (fun w' M => refGSame p.q g w' (GrR.own (hI3.ok G.opz) hI3.cap (hI3.sz szg) w' M) (G.ext M.ext)) ?_
 refine run ?_
 refine J.spd rfl rfl rfl (fun _ => ?_) (fun c => absurd ⟨hI3.ids, hI3.ops⟩ c)
 refine run ?_
 refine J.callp rfl rfl (fun w' M => dagAlive TK w' (K0.ext M.ext)) ?_
 refine run ?_
 exact J.fin rfl
end Go.Proofs.YtakbhjagiofbgaaGreatDoor.W
namespace Go.Proofs.YtakbhjagiofbgaaGreatDoor.L
open Go Go.Proofs.YtakbhjagiofbgaaGreatDoor Go.Proofs.YtakbhjagiofbgaaGreatDoor.G Go.Proofs.YtakbhjagiofbgaaGreatDoor.W
open Go.ChangeShapes Go.WideShapes Go.ChangeAt Go.RowKit
set_option linter.unusedVariables false
set_option maxRecDepth 100000
theorem dagOrders_door (os : Os) (args : Array Value) : laidMetH Tryz.prog [("braid/digest.constants", Rows.laid_braid_digest_constants)] ((World.doorLaid Tryz.prog 400 os).forCall (fun _ _ => 0) ⟨#[], args, []⟩).memory :=
  laidMetH_of_parts3 (fuel := 8) (laidMet_of_run' 8 (by kernel_rfl) (by kernel_rfl)) (by kernel_rfl) (by kernel_rfl)
theorem dagOrders_lifted (os : Os) (started : os.Started) (H : Type) (enc : TypeId × Value → H) :
    ReturnsInHanded {} Tryz.checked os 7 .any (fun w args => (Rows.dagOrdersSpec.pre enc Tryz.prog Tryz.f7 [] false w args ∧ laidMetH Tryz.prog [("braid/digest.constants", Rows.laid_braid_digest_constants)] w) ∧ sizedMet enc Tryz.prog Tryz.f7 (OpenSpec.ofChange Rows.dagOrdersSpec) false w args)
      (Rows.dagOrdersSpec.post enc Tryz.prog Tryz.f7 false true false false) := by
  refine returnsInHanded_of_change_and (C := Tryz.checked) (X := fun w _ => laidMetH Tryz.prog [("braid/digest.constants", Rows.laid_braid_digest_constants)] w) (fun _ _ _ hh h => h.of_heap hh) own started (by kernel_rfl) Tryz.func7
    (ChangeSpec.witness_shaped (enc := enc) (C := Tryz.checked) (os := os) (X := fun w _ => laidMetH Tryz.prog [("braid/digest.constants", Rows.laid_braid_digest_constants)] w) false (World.doorLaid Tryz.prog 400 os) #[.agg #[.slice none 0 0, .slice none 0 0], .int .i64 0] 8 rfl (World.shaped_of_RefB (by kernel_rfl) (by kernel_rfl)) (by kernel_rfl) (by kernel_rfl) (by kernel_rfl) (dagOrders_door os _)) ?_
  intro W base args ds gs before hval0 hW _ _ hL _
  have hval : ∀ (j : Nat) t v, Tryz.f7.params[j]? = some t → args[j]? = some v → Value.okWide Tryz.prog W .any base t v := hval0
  have hW' := hW
  obtain ⟨p, q, hA0, hV, rfl, hfz, hnd⟩ := hW
  have hA : DataW.TrodAll enc Tryz.prog W 0 (fun _ => true) true Tryz.f7.params.toList args.toList ds p := hA0
  rw [Tryz.params7] at hA hval
  obtain ⟨v0, vs0, d0, ds0, p0, q0, hargs, rfl, rfl, h0, r0⟩ := trodAll_cons hA
  obtain ⟨v1, vs1, d1, ds1, p1, q1, e1, rfl, rfl, h1, r1⟩ := trodAll_cons r0
  obtain ⟨rfl, rfl, rfl⟩ := trodAll_nil r1
  subst e1
  obtain rfl : args = #[v0, v1] := by cases args; simp_all
  obtain ⟨rfl, rfl⟩ := trodVars_none hV
  obtain ⟨cs0, rfl, _⟩ := okWide_struct Tryz.underlying25 (hval 0 25 v0 rfl rfl)
  obtain ⟨n1, rfl⟩ := okWide_int Tryz.underlying3 (hval 1 3 v1 rfl rfl)
  have k0 := h0
  have lt0 : ∀ x ∈ p0, x.block < W.heap.size := by obtain ⟨m, hm⟩ := k0; exact DataW.trod_lt m _ _ _ hm
  obtain ⟨fuel0, hf0⟩ := h0
  obtain ⟨g0, hcs0, hG0⟩ := graph_in hf0
  have hv0 : (Value.agg cs0) = .agg (grC g0).toArray := by
    congr 1
    apply Array.ext'
    exact hcs0
  have k1 := h1
  have lt1 : ∀ x ∈ p1, x.block < W.heap.size := by obtain ⟨m, hm⟩ := k1; exact DataW.trod_lt m _ _ _ hm
  obtain ⟨fuel1, hf1⟩ := h1
  obtain ⟨_, he1, hx1⟩ := int_in Tryz.underlying3 hf1
  have hl1 : IntKind.min .i64 = -9223372036854775808 ∧ IntKind.max .i64 = 9223372036854775807 := by decide
  obtain rfl := (Value.int.inj (List.cons.inj he1).1).2
  have K0 := of_laid hL
  clear hA0 hval0
  have hwalk := lawOrders g0 n1 0 W K0 hG0
  rw [← hv0] at hwalk
  refine hwalk.mono fun e W' hret => ?_
  obtain ⟨v, rfl, bel, rfl⟩ := hret
  exact ⟨_, rfl, _, _, _, [], _, [], hW', trodAll_mk1 (shut_bool Tryz.underlying4 _), (trodAll_cons_mk (Below.trod laidOut (by kernel_rfl) (of_decide_eq_true (by kernel_rfl)) k0 bel lt0) (trodAll_cons_mk (Below.trod laidOut (by kernel_rfl) (of_decide_eq_true (by kernel_rfl)) k1 bel lt1) trodAll_mk0)), rfl, bel.frame _, fun h => by cases h⟩
theorem dagOrders_closed : joinedFacts Tryz.prog 7 Tryz.f7 Rows.dagOrdersSpec Rows.dagOrdersRow = true := by
  unfold joinedFacts
  rw [dagOrders_f1, dagOrders_f2, dagOrders_f3, dagOrders_f4]
  kernel_rfl
theorem dagOrders_holds : Rows.DagOrdersSaid :=
  OpenClaim.holds_of_wide 7 Tryz.f7 rfl rfl rfl rfl rfl rfl rfl ⟨rfl, rfl, rfl, rfl, rfl⟩ rfl rfl rfl rfl rfl (by kernel_rfl) Tryz.func7 dagOrders_closed
    (of_decide_eq_true (by kernel_rfl)) (by unfold Func.isWrapper; first | (rw [if_pos (by decide +kernel)]; kernel_rfl) | (rw [if_neg (by decide +kernel)]; exact ⟨rfl, rfl⟩))
    (fun os started H enc _ => dagOrders_lifted os started H enc)
theorem dagOrders_card : Rows.DagOrdersCardSaid :=
  Claim7.holds_tied_plain_at .later [] [.data] true (true, "ce7f95693885aeedf13d7a480699d4088ff108c22b3656e8c28c17dc6f60b1c2") false
    dagOrders_holds (fun _ h => by cases h) (by kernel_rfl) (fun _ h => by cases h) dagOrders_row_tie rfl ⟨rfl, rfl⟩ (by kernel_rfl) rfl
    (fun f fn hf hfn => by
      obtain rfl : f = 7 := Option.some.inj ((show Tryz.prog.funcNamed "braid/braidlaw09.DagOrders" = some 7 by kernel_rfl).symm.trans hf) |>.symm
      obtain rfl : fn = Tryz.f7 := (Option.some.inj (Tryz.func7.symm.trans hfn)).symm
      exact ⟨by kernel_rfl, fun j t ht => by
        rw [Tryz.params7] at ht
        have hm : t ∈ [25, 3] := by simpa using Array.mem_of_getElem? ht
        have hall : ([25, 3].all fun u => !Tryz.prog.wantsStandIn u) = true := by kernel_rfl
        exact (show Tryz.prog.wantsStandIn t = false by simpa using List.all_eq_true.1 hall t hm)⟩)
    (by kernel_rfl)
end Go.Proofs.YtakbhjagiofbgaaGreatDoor.L
