/-
  Part 12 of the lemmas of these laws: JudgeFinds, JudgeLists, OpReads.
-/
import Derived.Test.YtiohpiiiapjblaaGreatDoorPJb11
namespace Go.Proofs.YtiohpiiiapjblaaGreatDoor.W
open Go.RowKit Go.Proofs.YtiohpiiiapjblaaGreatDoor.G
set_option linter.unusedVariables false
set_option maxRecDepth 20000
set_option maxHeartbeats 8000000
attribute [local irreducible] RS RX
theorem E86 : Enters Tryz.prog 86 := .mk Tryz.func86 (by kernel_rfl) rfl
theorem E87 : Enters Tryz.prog 87 := .mk Tryz.func87 (by kernel_rfl) rfl
theorem E133 : Enters Tryz.prog 133 := .mk Tryz.func133 (by kernel_rfl) rfl
theorem decodeVR {S0 : Nat → Prop} (a : Option Addr) (n c : Nat) (bs : List Int) (w : World) (R0 : IRow .u8 S0 w a n bs) (hc : n ≤ c) (hn : n ≤ 1000000) :
  Calls Tryz.prog 87 #[.slice a n c] w (Ret w fun v _ => v = .tuple #[.agg ([.int .u8 (S.vdS bs).k, .int .i64 (S.vdS bs).num, .int .u64 (S.vdS bs).bits, .string (S.vdS bs).t] : List Value).toArray, .int .i64 (S.vdS bs).u, .int .i64 (S.vdS bs).e]) := by
 replace R0 := R0.weaken (T := fun k => k < w.heap.size) (fun k hk _ => hk)
 have hbl := R0.len
 have hbd := R0.bd
 have hE := Ext.refl w
 refine enterU 81 Tryz.func87 rfl rfl ?_
 refine sq fun K1 hK1 => ?_
 refine RS.alloc T27 (fun b2 w2 e2 s2 x2 B2 => ?_)
 refine RS.nm ?_
 replace hE := Ext.tr hE x2
 replace R0 := R0.ext x2
 have zw2 := x2.size
 refine RS.asI rfl ?_
 refine RS.asI rfl ?_
 refine nl hK1 ?_
 refine wp_seq_k (fun K3 hK3 => ?_)
 refine sq fun K4 hK4 => ?_
 refine RS.mvS rfl ?_
 refine RS.o (D.len rfl Tryz.underlying22) ?_
 refine RS.o (D.eq rfl rfl) ?_
 refine nl hK4 ?_
 refine C.ife rfl (fun c5 => ?_) (fun c5 => ?_)
 ·obtain rfl : bs = [] := List.eq_nil_of_length_eq_zero (by omega)
  refine sq fun K6 hK6 => ?_
  refine RS.o (D.buildS T27 F27 (ps := []) rfl rfl) ?_
  refine RS.storeAggB rfl rfl C27 (by decide) rfl rfl B2 rfl (fun w7 y7 N7 => ?_)
  replace hE := hE.trans (y7.belo)
  replace R0 := R0.sto y7
  have zw7 := y7.size
  replace B2 := N7
  refine RS.asI rfl ?_
  refine RS.asI rfl ?_
  refine nl hK6 ?_
  refine wp_ret ?_
  refine ret (rs := [.cell 2 27, .tmp 3, .tmp 4]) (vs := [.agg _, .int _ _, .int _ _]) (v := (.tuple #[.agg _, .int _ _, .int _ _])) rfl ⟨⟨_, rfl, loadVar_agg Tryz.underlying27 rfl C27 (by decide) rfl (B2.cellsN 4 rfl)⟩, rfl, rfl, trivial⟩ rfl ?_
  rw [S.vd_nil]
  exact ⟨_, rfl, hE, rfl⟩
 obtain ⟨x, r, rfl⟩ : ∃ x r, bs = x :: r := by
  cases bs with
  | nil => simp at hbl; omega
  | cons x r => exact ⟨x, r, rfl⟩
 rw [List.length_cons] at hbl
 have hx := hbd x List.mem_cons_self
 simp only [lim] at hx
 have hrb : Bd .u8 r := fun y hy => hbd y (List.mem_cons_of_mem _ hy)
 have QR : IRow .u8 (fun k => k < w.heap.size) w2 (subA a 1 1 c) (n - 1) r := R0.rest 1 c (by omega) (by omega)
 have hrd := S.rd_bd hrb
 have hsg := S.sg_bd hrb
 have hpu := S.ptU_le (most := 30) (wd := 1) hrb (by decide)
 refine wp_skip ?_
 refine hK3 _ _ ?_
 refine sq fun K8 hK8 => ?_
 refine RS.mvS rfl ?_
 refine RS.idx R0 rfl rfl Tryz.underlying22 C5 (by omega) (fun b9 o9 v9 h9 q9 r9 => ?_)
 refine RS.nm ?_
 simp only [lim] at r9
 replace q9 : x = v9 := Eq.symm q9
 subst q9
 refine RS.o (D.load rfl Tryz.underlying5 rfl (h9)) ?_
 refine RS.o (D.buildS T27 F27 (ps := [(0, .int _ _)]) rfl rfl) ?_
 refine RS.alloc T27 (fun b10 w10 e10 s10 x10 B10 => ?_)
 refine RS.nm ?_
 replace hE := Ext.tr hE x10
 replace R0 := R0.ext x10
 replace B2 := B2.ext x10
 replace QR := QR.ext x10
 have zw10 := x10.size
 refine RS.storeAggB rfl rfl C27 (by decide) rfl rfl B10 rfl (fun w11 y11 N11 => ?_)
 replace hE := hE.trans (y11.belo)
 replace R0 := R0.sto y11
 replace B2 := B2.sto y11
 replace QR := QR.sto y11
 have zw11 := y11.size
 replace B10 := N11
 refine nl hK8 ?_
 refine sq fun K12 hK12 => ?_
 refine RS.asI rfl ?_
 refine RS.asI rfl ?_
 refine nl hK12 ?_
 refine wp_seq_k (fun K13 hK13 => ?_)
 refine sq fun K14 hK14 => ?_
 refine RS.o (D.fieldL 0 rfl Tryz.underlying27 rfl C5 (by decide) rfl) ?_
 refine RS.o (D.load rfl Tryz.underlying5 rfl (B10.cell rfl)) ?_
 refine nl hK14 ?_
 refine wp_block ?_
 refine sq fun K15 hK15 => ?_
 refine RS.o (D.eq rfl rfl) ?_
 refine RS.asB rfl ?_
 refine nl hK15 ?_
 refine C.ife rfl (fun c16 => ?_) (fun c16 => ?_)
 ·have hk := c16
  refine region ?_
  refine RS.mvS rfl ?_
  refine RS.o (D.slice (kl := .i64) (kh := .i64) rfl Tryz.underlying22 C5 (by decide) rfl rfl (by omega) (by omega)) ?_
  refine RS.call E133 (readSgR _ _ _ _ _ QR (by omega) (by omega)) rfl (fun v17 w17 x17 A17 => ?_)
  replace hE := Ext.tr hE x17
  replace R0 := R0.ext x17
  replace B2 := B2.ext x17
  replace QR := QR.ext x17
  replace B10 := B10.ext x17
  have zw17 := x17.size
  subst A17
  refine RS.nm ?_
  refine RS.move (v := .tuple _) rfl ?_
  refine RS.extract (v := .int _ _) rfl rfl ?_
  refine RS.extract (v := .int _ _) rfl rfl ?_
  refine RS.extract (v := .int _ _) rfl rfl ?_
  refine RS.o (D.fieldL 1 rfl Tryz.underlying27 rfl C2 (by decide) rfl) ?_
  refine RS.store rfl (v := .int _ _) rfl C2 rfl B10 rfl (fun w18 y18 N18 => ?_)
  replace hE := hE.trans (y18.belo)
  replace R0 := R0.sto y18
  replace B2 := B2.sto y18
  replace QR := QR.sto y18
  have zw18 := y18.size
  replace B10 := N18
  refine RS.asI rfl ?_
  refine RS.asI rfl ?_
  refine nl hK13 ?_
  refine wp_seq_k (fun K19 hK19 => ?_)
  refine sq fun K20 hK20 => ?_
  refine RS.mvI rfl ?_
  refine RS.o (D.ne rfl rfl) ?_
  refine RS.mvB rfl ?_
  refine RS.splitn 66 rfl rfl (fun c21 => ?_) (fun c21 => ?_)
  ·refine RS.nm ?_
   have hbad := c21
   refine RS.skT 66 ?_
   refine RS.skT 66 ?_
   refine RS.skT 66 ?_
   refine RS.skT 66 ?_
   refine RS.skT 66 ?_
   refine RS.pick (v := .bool true) rfl rfl ?_
   refine RS.mvB rfl ?_
   refine RS.skT 73 ?_
   refine RS.skT 73 ?_
   refine RS.skT 73 ?_
   refine RS.pick (v := .bool true) rfl rfl ?_
   refine nl hK20 ?_
   refine C.ift rfl ?_
   refine sq fun K22 hK22 => ?_
   refine RS.o (D.buildS T27 F27 (ps := []) rfl rfl) ?_
   refine RS.storeAggB rfl rfl C27 (by decide) rfl rfl B2 rfl (fun w23 y23 N23 => ?_)
   replace hE := hE.trans (y23.belo)
   replace R0 := R0.sto y23
   replace QR := QR.sto y23
   replace B10 := B10.sto y23
   have zw23 := y23.size
   replace B2 := N23
   refine RS.asI rfl ?_
   refine RS.asI rfl ?_
   refine nl hK22 ?_
   refine wp_ret ?_
   refine ret (rs := [.cell 2 27, .tmp 3, .tmp 4]) (vs := [.agg _, .int _ _, .int _ _]) (v := (.tuple #[.agg _, .int _ _, .int _ _])) rfl ⟨⟨_, rfl, loadVar_agg Tryz.underlying27 rfl C27 (by decide) rfl (B2.cellsN 4 rfl)⟩, rfl, rfl, trivial⟩ rfl ?_
   first | exact absurd rfl hbad | (rw [S.vd_fail (S.valR_oneN hk hbad)]; exact ⟨_, rfl, hE, rfl⟩) | (rw [S.vd_fail (S.valR_threeN hk hbad)]; exact ⟨_, rfl, hE, rfl⟩) | (rw [S.vd_good hv hz]; exact ⟨_, rfl, hE, rfl⟩) | (rw [S.vd_bad hv hz]; exact ⟨_, rfl, hE, rfl⟩) | (rw [S.vd_fail (S.valR_twoN hk (by omega))]; exact ⟨_, rfl, hE, rfl⟩) | (exfalso; omega)
  refine RS.nm ?_
  have hnb := c21
  refine RS.wt 66 ?_
  refine RS.mvS rfl ?_
  refine RS.wt 66 ?_
  refine RS.o (D.len rfl Tryz.underlying22) ?_
  refine RS.wt 66 ?_
  refine RS.mvI rfl ?_
  refine RS.wt 66 ?_
  refine RS.o (D.add rfl rfl (W.i64 (by omega))) ?_
  refine RS.wt 66 ?_
  refine RS.o (D.lt rfl rfl) ?_
  refine RS.pick (v := .bool _) rfl rfl ?_
  refine RS.mvB rfl ?_
  refine RS.splitd 73 rfl rfl (fun c24 => ?_) (fun c24 => ?_)
  ·refine RS.nm ?_
   have hsh := c24
   refine RS.skT 73 ?_
   refine RS.skT 73 ?_
   refine RS.skT 73 ?_
   refine RS.pick (v := .bool true) rfl rfl ?_
   refine nl hK20 ?_
   refine C.ift rfl ?_
   refine sq fun K25 hK25 => ?_
   refine RS.o (D.buildS T27 F27 (ps := []) rfl rfl) ?_
   refine RS.storeAggB rfl rfl C27 (by decide) rfl rfl B2 rfl (fun w26 y26 N26 => ?_)
   replace hE := hE.trans (y26.belo)
   replace R0 := R0.sto y26
   replace QR := QR.sto y26
   replace B10 := B10.sto y26
   have zw26 := y26.size
   replace B2 := N26
   refine RS.asI rfl ?_
   refine RS.asI rfl ?_
   refine nl hK25 ?_
   refine wp_ret ?_
   refine ret (rs := [.cell 2 27, .tmp 3, .tmp 4]) (vs := [.agg _, .int _ _, .int _ _]) (v := (.tuple #[.agg _, .int _ _, .int _ _])) rfl ⟨⟨_, rfl, loadVar_agg Tryz.underlying27 rfl C27 (by decide) rfl (B2.cellsN 4 rfl)⟩, rfl, rfl, trivial⟩ rfl ?_
   first | exact absurd rfl hbad | (rw [S.vd_fail (S.valR_oneN hk hbad)]; exact ⟨_, rfl, hE, rfl⟩) | (rw [S.vd_fail (S.valR_threeN hk hbad)]; exact ⟨_, rfl, hE, rfl⟩) | (rw [S.vd_good hv hz]; exact ⟨_, rfl, hE, rfl⟩) | (rw [S.vd_bad hv hz]; exact ⟨_, rfl, hE, rfl⟩) | (rw [S.vd_fail (S.valR_twoN hk (by omega))]; exact ⟨_, rfl, hE, rfl⟩) | (exfalso; omega)
  refine RS.nm ?_
  first | have hv := S.valR_one hk hnb | have hv := S.valR_two hk (show ¬ r.length < 8 by omega) (v := acc) (by rw [g2, show (i - 1).toNat = 8 by omega]) | have hv := S.valR_three hk hnb | have hv := S.valR_else (r := r) hk1 hk2 hk3
  refine RS.wt 73 ?_
  refine RS.o (D.loadAgg rfl Tryz.underlying27 rfl C27 (by decide) rfl (B10.cellsN 4 rfl)) ?_
  refine RS.wt 73 ?_
  refine RS.call E117 (checkR _ _ _ _ (by omega) (by omega) (by omega) (by first | exact hst | decide) _) rfl (fun v27 w27 x27 A27 => ?_)
  replace hE := Ext.tr hE x27
  replace R0 := R0.ext x27
  replace B2 := B2.ext x27
  replace QR := QR.ext x27
  replace B10 := B10.ext x27
  have zw27 := x27.size
  subst A27
  refine RS.nm ?_
  refine RS.wt 73 ?_
  refine RS.o (D.ne rfl rfl) ?_
  refine RS.pick (v := .bool _) rfl rfl ?_
  refine nl hK20 ?_
  refine C.ifn rfl (fun c28 => ?_) (fun c28 => ?_)
  ·have hz := c28
   refine sq fun K29 hK29 => ?_
   refine RS.o (D.buildS T27 F27 (ps := []) rfl rfl) ?_
   refine RS.storeAggB rfl rfl C27 (by decide) rfl rfl B2 rfl (fun w30 y30 N30 => ?_)
   replace hE := hE.trans (y30.belo)
   replace R0 := R0.sto y30
   replace QR := QR.sto y30
   replace B10 := B10.sto y30
   have zw30 := y30.size
   replace B2 := N30
   refine RS.asI rfl ?_
   refine RS.asI rfl ?_
   refine nl hK29 ?_
   refine wp_ret ?_
   refine ret (rs := [.cell 2 27, .tmp 3, .tmp 4]) (vs := [.agg _, .int _ _, .int _ _]) (v := (.tuple #[.agg _, .int _ _, .int _ _])) rfl ⟨⟨_, rfl, loadVar_agg Tryz.underlying27 rfl C27 (by decide) rfl (B2.cellsN 4 rfl)⟩, rfl, rfl, trivial⟩ rfl ?_
   first | exact absurd rfl hbad | (rw [S.vd_fail (S.valR_oneN hk hbad)]; exact ⟨_, rfl, hE, rfl⟩) | (rw [S.vd_fail (S.valR_threeN hk hbad)]; exact ⟨_, rfl, hE, rfl⟩) | (rw [S.vd_good hv hz]; exact ⟨_, rfl, hE, rfl⟩) | (rw [S.vd_bad hv hz]; exact ⟨_, rfl, hE, rfl⟩) | (rw [S.vd_fail (S.valR_twoN hk (by omega))]; exact ⟨_, rfl, hE, rfl⟩) | (exfalso; omega)
  have hz := c28
  refine wp_skip ?_
  refine hK19 _ _ ?_
  refine sq fun K31 hK31 => ?_
  refine RS.o (D.loadAgg rfl Tryz.underlying27 rfl C27 (by decide) rfl (B10.cellsN 4 rfl)) ?_
  refine RS.mvI rfl ?_
  refine RS.o (D.add rfl rfl (W.i64 (by omega))) ?_
  refine RS.storeAggB rfl rfl C27 (by decide) rfl rfl B2 rfl (fun w32 y32 N32 => ?_)
  replace hE := hE.trans (y32.belo)
  replace R0 := R0.sto y32
  replace QR := QR.sto y32
  replace B10 := B10.sto y32
  have zw32 := y32.size
  replace B2 := N32
  refine RS.asI rfl ?_
  refine RS.asI rfl ?_
  refine nl hK31 ?_
  refine wp_ret ?_
  refine ret (rs := [.cell 2 27, .tmp 3, .tmp 4]) (vs := [.agg _, .int _ _, .int _ _]) (v := (.tuple #[.agg _, .int _ _, .int _ _])) rfl ⟨⟨_, rfl, loadVar_agg Tryz.underlying27 rfl C27 (by decide) rfl (B2.cellsN 4 rfl)⟩, rfl, rfl, trivial⟩ rfl ?_
  first | exact absurd rfl hbad | (rw [S.vd_fail (S.valR_oneN hk hbad)]; exact ⟨_, rfl, hE, rfl⟩) | (rw [S.vd_fail (S.valR_threeN hk hbad)]; exact ⟨_, rfl, hE, rfl⟩) | (rw [S.vd_good hv hz]; exact ⟨_, rfl, hE, rfl⟩) | (rw [S.vd_bad hv hz]; exact ⟨_, rfl, hE, rfl⟩) | (rw [S.vd_fail (S.valR_twoN hk (by omega))]; exact ⟨_, rfl, hE, rfl⟩) | (exfalso; omega)
 have hk1 := c16
 refine sq fun K33 hK33 => ?_
 refine RS.o (D.eq rfl rfl) ?_
 refine RS.asB rfl ?_
 refine nl hK33 ?_
 refine C.ife rfl (fun c34 => ?_) (fun c34 => ?_)
 ·have hk := c34
  refine wp_seq_k (fun K35 hK35 => ?_)
  refine sq fun K36 hK36 => ?_
  refine RS.asI rfl ?_
  refine nl hK36 ?_
  refine wp_block ?_
  refine C.loop (A := Int × Int) (fun p => [(8, .int .i64 p.1)]) [32, 33, 34, 35, 36, 37, 38, 39, 40, 41, 42, 43, 44, 45, 46, 47, 48, 49, 50, 51] (fun p w' => Pr (fun k => k = b10) w11 w' ∧ (Blk w' b10 [.int .u8 x, .int .i64 0, .int .u64 p.2, .string .empty] 27 ∧ (1 ≤ p.1 ∧ p.1 ≤ 9 ∧ p.1 ≤ n) ∧ p.2 = S.be (r.take (p.1 - 1).toNat))) (fun p => (9 - p.1).toNat) (1, 0) (by kernel_rfl) ?_ ?_
  ·exact ⟨Pr.refl _ _, B10, ⟨by dsimp only; omega, by dsimp only; omega, by dsimp only; omega⟩, rfl⟩
  rintro p j w37 ⟨x37, hI⟩
  replace hE := hE.trans (x37.belo)
  replace R0 := R0.pro x37
  replace B2 := B2.pro x37
  replace QR := QR.pro x37
  have zw37 := x37.size
  obtain ⟨i, acc⟩ := p
  dsimp only at hI
  obtain ⟨B10, g1, g2⟩ := hI
  have g3 := S.be8_lt r (i - 1).toNat hrb (by omega)
  rw [← g2] at g3
  refine C.norm (by simp only [upd, junk, List.map_cons, List.map_nil, List.set_cons_succ, List.set_cons_zero]; exact rfl) ?_
  refine wp_seq_k (fun K38 hK38 => ?_)
  refine sq fun K39 hK39 => ?_
  refine RS.mvI rfl ?_
  refine RS.o (D.le rfl rfl) ?_
  refine RS.mvB rfl ?_
  refine RS.splitd 34 rfl rfl (fun c40 => ?_) (fun c40 => ?_)
  ·refine RS.nm ?_
   refine RS.wt 34 ?_
   refine RS.mvI rfl ?_
   refine RS.wt 34 ?_
   refine RS.mvS rfl ?_
   refine RS.wt 34 ?_
   refine RS.o (D.len rfl Tryz.underlying22) ?_
   refine RS.wt 34 ?_
   refine RS.o (D.lt rfl rfl) ?_
   refine RS.pick (v := .bool _) rfl rfl ?_
   refine nl hK39 ?_
   refine C.ifd rfl (fun c41 => ?_) (fun c41 => ?_)
   ·have g4 := S.be7_lt r (i - 1).toNat hrb (by omega)
    rw [← g2] at g4
    refine wp_skip ?_
    refine hK38 _ _ ?_
    refine wp_seq_k (fun K42 hK42 => ?_)
    refine wp_block ?_
    refine regionX Ext [(0, .q), (1, .q), (2, .q), (3, .q), (4, .q), (5, .q), (6, .q), (7, .q), (8, .q), (9, .q), (10, .g)] mixed Ext.refl (fun h k => h.tr k) (by kernel_rfl) (fun w43 x43 => ?_)
    replace hE := Ext.tr hE x43
    replace x37 := x37.ext x43
    replace R0 := R0.ext x43
    replace B2 := B2.ext x43
    replace QR := QR.ext x43
    replace B10 := B10.ext x43
    have zw43 := x43.size
    refine RX.o (fun w' hw => D.fieldL 2 rfl Tryz.underlying27 rfl C25 (by decide) rfl) ?_
    refine RX.o (fun w' hw => D.load rfl Tryz.underlying25 rfl ((B10.ext hw).cell rfl)) ?_
    refine RX.o (fun w' hw => D.mul rfl rfl (W.u64 (by omega))) ?_
    refine RX.mvS rfl ?_
    refine RX.mvI rfl ?_
    refine RX.idx (fun _ h => h) R0 rfl rfl Tryz.underlying22 C5 (by omega) (fun b44 o44 v44 h44 q44 r44 => ?_)
    refine RX.nm ?_
    simp only [lim] at r44
    have q6 := q44
    have hgr := S.be_grow r (i - 1).toNat (by omega)
    rw [S.cons_get x r i.toNat (by omega)] at q6
    rw [show i.toNat - 1 = (i - 1).toNat by omega] at q6
    rw [← q6, ← g2, show (i - 1).toNat + 1 = i.toNat by omega] at hgr
    have hb8 := S.be8_lt r i.toNat hrb (by omega)
    rw [← hgr] at hb8
    refine RX.o (fun w' hw => D.load rfl Tryz.underlying5 rfl (h44 w' hw)) ?_
    refine RX.o (fun w' hw => D.conv rfl Tryz.underlying5 Tryz.underlying25 (W.u64 (by omega))) ?_
    refine RX.o (fun w' hw => D.add rfl rfl (W.u64 (by omega))) ?_
    refine RX.o (fun w' hw => D.fieldL 2 rfl Tryz.underlying27 rfl C25 (by decide) rfl) ?_
    refine RX.big ?_
    refine RS.store rfl (v := .int _ _) rfl C25 rfl B10 rfl (fun w45 y45 N45 => ?_)
    replace hE := hE.trans (y45.belo)
    replace x37 := x37.stno y45
    replace R0 := R0.sto y45
    replace B2 := B2.sto y45
    replace QR := QR.sto y45
    have zw45 := y45.size
    replace B10 := N45
    refine RS.nil ?_
    refine RX.nil (hK42 _ _ ?_)
    refine region ?_
    refine RS.mvI rfl ?_
    refine RS.o (D.add rfl rfl (W.i64 (by omega))) ?_
    refine RS.asI rfl ?_
    refine RS.nil ?_
    change Nx _ _ _ _ _ _ _ _
    refine C.next (i + 1, S.be (r.take i.toNat)) ⟨rfl, trivial⟩ (by kernel_rfl) ?_ ?_
    ·refine ⟨x37, ?_, ⟨by dsimp only; omega, by dsimp only; omega, by dsimp only; omega⟩, by dsimp only; rw [show (i + 1 - 1).toNat = i.toNat by omega]⟩
     dsimp only
     rw [← hgr]
     exact B10
    dsimp only; omega
   refine wp_exit ?_
   refine hK35 _ _ ?_
   refine region ?_
   refine RS.asI rfl ?_
   refine nl hK13 ?_
   refine wp_seq_k (fun K46 hK46 => ?_)
   refine sq fun K47 hK47 => ?_
   refine RS.mvI rfl ?_
   refine RS.o (D.ne rfl rfl) ?_
   refine RS.mvB rfl ?_
   refine RS.splitn 66 rfl rfl (fun c48 => ?_) (fun c48 => ?_)
   ·refine RS.nm ?_
    have hbad := c48
    refine RS.skT 66 ?_
    refine RS.skT 66 ?_
    refine RS.skT 66 ?_
    refine RS.skT 66 ?_
    refine RS.skT 66 ?_
    refine RS.pick (v := .bool true) rfl rfl ?_
    refine RS.mvB rfl ?_
    refine RS.skT 73 ?_
    refine RS.skT 73 ?_
    refine RS.skT 73 ?_
    refine RS.pick (v := .bool true) rfl rfl ?_
    refine nl hK47 ?_
    refine C.ift rfl ?_
    refine sq fun K49 hK49 => ?_
    refine RS.o (D.buildS T27 F27 (ps := []) rfl rfl) ?_
    refine RS.storeAggB rfl rfl C27 (by decide) rfl rfl B2 rfl (fun w50 y50 N50 => ?_)
    replace hE := hE.trans (y50.belo)
    replace R0 := R0.sto y50
    replace QR := QR.sto y50
    replace B10 := B10.sto y50
    have zw50 := y50.size
    replace B2 := N50
    refine RS.asI rfl ?_
    refine RS.asI rfl ?_
    refine nl hK49 ?_
    refine wp_ret ?_
    refine ret (rs := [.cell 2 27, .tmp 3, .tmp 4]) (vs := [.agg _, .int _ _, .int _ _]) (v := (.tuple #[.agg _, .int _ _, .int _ _])) rfl ⟨⟨_, rfl, loadVar_agg Tryz.underlying27 rfl C27 (by decide) rfl (B2.cellsN 4 rfl)⟩, rfl, rfl, trivial⟩ rfl ?_
    first | exact absurd rfl hbad | (rw [S.vd_fail (S.valR_oneN hk hbad)]; exact ⟨_, rfl, hE, rfl⟩) | (rw [S.vd_fail (S.valR_threeN hk hbad)]; exact ⟨_, rfl, hE, rfl⟩) | (rw [S.vd_good hv hz]; exact ⟨_, rfl, hE, rfl⟩) | (rw [S.vd_bad hv hz]; exact ⟨_, rfl, hE, rfl⟩) | (rw [S.vd_fail (S.valR_twoN hk (by omega))]; exact ⟨_, rfl, hE, rfl⟩) | (exfalso; omega)
   refine RS.nm ?_
   have hnb := c48
   refine RS.wt 66 ?_
   refine RS.mvS rfl ?_
   refine RS.wt 66 ?_
   refine RS.o (D.len rfl Tryz.underlying22) ?_
   refine RS.wt 66 ?_
   refine RS.mvI rfl ?_
   refine RS.wt 66 ?_
   refine RS.o (D.add rfl rfl (W.i64 (by omega))) ?_
   refine RS.wt 66 ?_
   refine RS.o (D.lt rfl rfl) ?_
   refine RS.pick (v := .bool _) rfl rfl ?_
   refine RS.mvB rfl ?_
   refine RS.splitd 73 rfl rfl (fun c51 => ?_) (fun c51 => ?_)
   ·refine RS.nm ?_
    have hsh := c51
    refine RS.skT 73 ?_
    refine RS.skT 73 ?_
    refine RS.skT 73 ?_
    refine RS.pick (v := .bool true) rfl rfl ?_
    refine nl hK47 ?_
    refine C.ift rfl ?_
    refine sq fun K52 hK52 => ?_
    refine RS.o (D.buildS T27 F27 (ps := []) rfl rfl) ?_
    refine RS.storeAggB rfl rfl C27 (by decide) rfl rfl B2 rfl (fun w53 y53 N53 => ?_)
    replace hE := hE.trans (y53.belo)
    replace R0 := R0.sto y53
    replace QR := QR.sto y53
    replace B10 := B10.sto y53
    have zw53 := y53.size
    replace B2 := N53
    refine RS.asI rfl ?_
    refine RS.asI rfl ?_
    refine nl hK52 ?_
    refine wp_ret ?_
    refine ret (rs := [.cell 2 27, .tmp 3, .tmp 4]) (vs := [.agg _, .int _ _, .int _ _]) (v := (.tuple #[.agg _, .int _ _, .int _ _])) rfl ⟨⟨_, rfl, loadVar_agg Tryz.underlying27 rfl C27 (by decide) rfl (B2.cellsN 4 rfl)⟩, rfl, rfl, trivial⟩ rfl ?_
    first | exact absurd rfl hbad | (rw [S.vd_fail (S.valR_oneN hk hbad)]; exact ⟨_, rfl, hE, rfl⟩) | (rw [S.vd_fail (S.valR_threeN hk hbad)]; exact ⟨_, rfl, hE, rfl⟩) | (rw [S.vd_good hv hz]; exact ⟨_, rfl, hE, rfl⟩) | (rw [S.vd_bad hv hz]; exact ⟨_, rfl, hE, rfl⟩) | (rw [S.vd_fail (S.valR_twoN hk (by omega))]; exact ⟨_, rfl, hE, rfl⟩) | (exfalso; omega)
   refine RS.nm ?_
   first | have hv := S.valR_one hk hnb | have hv := S.valR_two hk (show ¬ r.length < 8 by omega) (v := acc) (by rw [g2, show (i - 1).toNat = 8 by omega]) | have hv := S.valR_three hk hnb | have hv := S.valR_else (r := r) hk1 hk2 hk3
   refine RS.wt 73 ?_
   refine RS.o (D.loadAgg rfl Tryz.underlying27 rfl C27 (by decide) rfl (B10.cellsN 4 rfl)) ?_
   refine RS.wt 73 ?_
   refine RS.call E117 (checkR _ _ _ _ (by omega) (by omega) (by omega) (by first | exact hst | decide) _) rfl (fun v54 w54 x54 A54 => ?_)
   replace hE := Ext.tr hE x54
   replace R0 := R0.ext x54
   replace B2 := B2.ext x54
   replace QR := QR.ext x54
   replace B10 := B10.ext x54
   have zw54 := x54.size
   subst A54
   refine RS.nm ?_
   refine RS.wt 73 ?_
   refine RS.o (D.ne rfl rfl) ?_
   refine RS.pick (v := .bool _) rfl rfl ?_
   refine nl hK47 ?_
   refine C.ifn rfl (fun c55 => ?_) (fun c55 => ?_)
   ·have hz := c55
    refine sq fun K56 hK56 => ?_
    refine RS.o (D.buildS T27 F27 (ps := []) rfl rfl) ?_
    refine RS.storeAggB rfl rfl C27 (by decide) rfl rfl B2 rfl (fun w57 y57 N57 => ?_)
    replace hE := hE.trans (y57.belo)
    replace R0 := R0.sto y57
    replace QR := QR.sto y57
    replace B10 := B10.sto y57
    have zw57 := y57.size
    replace B2 := N57
    refine RS.asI rfl ?_
    refine RS.asI rfl ?_
    refine nl hK56 ?_
    refine wp_ret ?_
    refine ret (rs := [.cell 2 27, .tmp 3, .tmp 4]) (vs := [.agg _, .int _ _, .int _ _]) (v := (.tuple #[.agg _, .int _ _, .int _ _])) rfl ⟨⟨_, rfl, loadVar_agg Tryz.underlying27 rfl C27 (by decide) rfl (B2.cellsN 4 rfl)⟩, rfl, rfl, trivial⟩ rfl ?_
    first | exact absurd rfl hbad | (rw [S.vd_fail (S.valR_oneN hk hbad)]; exact ⟨_, rfl, hE, rfl⟩) | (rw [S.vd_fail (S.valR_threeN hk hbad)]; exact ⟨_, rfl, hE, rfl⟩) | (rw [S.vd_good hv hz]; exact ⟨_, rfl, hE, rfl⟩) | (rw [S.vd_bad hv hz]; exact ⟨_, rfl, hE, rfl⟩) | (rw [S.vd_fail (S.valR_twoN hk (by omega))]; exact ⟨_, rfl, hE, rfl⟩) | (exfalso; omega)
   have hz := c55
   refine wp_skip ?_
   refine hK46 _ _ ?_
   refine sq fun K58 hK58 => ?_
   refine RS.o (D.loadAgg rfl Tryz.underlying27 rfl C27 (by decide) rfl (B10.cellsN 4 rfl)) ?_
   refine RS.mvI rfl ?_
   refine RS.o (D.add rfl rfl (W.i64 (by omega))) ?_
   refine RS.storeAggB rfl rfl C27 (by decide) rfl rfl B2 rfl (fun w59 y59 N59 => ?_)
   replace hE := hE.trans (y59.belo)
   replace R0 := R0.sto y59
   replace QR := QR.sto y59
   replace B10 := B10.sto y59
   have zw59 := y59.size
   replace B2 := N59
   refine RS.asI rfl ?_
   refine RS.asI rfl ?_
   refine nl hK58 ?_
   refine wp_ret ?_
   refine ret (rs := [.cell 2 27, .tmp 3, .tmp 4]) (vs := [.agg _, .int _ _, .int _ _]) (v := (.tuple #[.agg _, .int _ _, .int _ _])) rfl ⟨⟨_, rfl, loadVar_agg Tryz.underlying27 rfl C27 (by decide) rfl (B2.cellsN 4 rfl)⟩, rfl, rfl, trivial⟩ rfl ?_
   first | exact absurd rfl hbad | (rw [S.vd_fail (S.valR_oneN hk hbad)]; exact ⟨_, rfl, hE, rfl⟩) | (rw [S.vd_fail (S.valR_threeN hk hbad)]; exact ⟨_, rfl, hE, rfl⟩) | (rw [S.vd_good hv hz]; exact ⟨_, rfl, hE, rfl⟩) | (rw [S.vd_bad hv hz]; exact ⟨_, rfl, hE, rfl⟩) | (rw [S.vd_fail (S.valR_twoN hk (by omega))]; exact ⟨_, rfl, hE, rfl⟩) | (exfalso; omega)
  refine RS.nm ?_
  refine RS.skF 34 ?_
  refine RS.skF 34 ?_
  refine RS.skF 34 ?_
  refine RS.skF 34 ?_
  refine RS.pick (v := .bool false) rfl rfl ?_
  refine nl hK39 ?_
  refine C.iff rfl ?_
  refine wp_exit ?_
  refine hK35 _ _ ?_
  refine region ?_
  refine RS.asI rfl ?_
  refine nl hK13 ?_
  refine wp_seq_k (fun K60 hK60 => ?_)
  refine sq fun K61 hK61 => ?_
  refine RS.mvI rfl ?_
  refine RS.o (D.ne rfl rfl) ?_
  refine RS.mvB rfl ?_
  refine RS.splitn 66 rfl rfl (fun c62 => ?_) (fun c62 => ?_)
  ·refine RS.nm ?_
   have hbad := c62
   refine RS.skT 66 ?_
   refine RS.skT 66 ?_
   refine RS.skT 66 ?_
   refine RS.skT 66 ?_
   refine RS.skT 66 ?_
   refine RS.pick (v := .bool true) rfl rfl ?_
   refine RS.mvB rfl ?_
   refine RS.skT 73 ?_
   refine RS.skT 73 ?_
   refine RS.skT 73 ?_
   refine RS.pick (v := .bool true) rfl rfl ?_
   refine nl hK61 ?_
   refine C.ift rfl ?_
   refine sq fun K63 hK63 => ?_
   refine RS.o (D.buildS T27 F27 (ps := []) rfl rfl) ?_
   refine RS.storeAggB rfl rfl C27 (by decide) rfl rfl B2 rfl (fun w64 y64 N64 => ?_)
   replace hE := hE.trans (y64.belo)
   replace R0 := R0.sto y64
   replace QR := QR.sto y64
   replace B10 := B10.sto y64
   have zw64 := y64.size
   replace B2 := N64
   refine RS.asI rfl ?_
   refine RS.asI rfl ?_
   refine nl hK63 ?_
   refine wp_ret ?_
   refine ret (rs := [.cell 2 27, .tmp 3, .tmp 4]) (vs := [.agg _, .int _ _, .int _ _]) (v := (.tuple #[.agg _, .int _ _, .int _ _])) rfl ⟨⟨_, rfl, loadVar_agg Tryz.underlying27 rfl C27 (by decide) rfl (B2.cellsN 4 rfl)⟩, rfl, rfl, trivial⟩ rfl ?_
   first | exact absurd rfl hbad | (rw [S.vd_fail (S.valR_oneN hk hbad)]; exact ⟨_, rfl, hE, rfl⟩) | (rw [S.vd_fail (S.valR_threeN hk hbad)]; exact ⟨_, rfl, hE, rfl⟩) | (rw [S.vd_good hv hz]; exact ⟨_, rfl, hE, rfl⟩) | (rw [S.vd_bad hv hz]; exact ⟨_, rfl, hE, rfl⟩) | (rw [S.vd_fail (S.valR_twoN hk (by omega))]; exact ⟨_, rfl, hE, rfl⟩) | (exfalso; omega)
  refine RS.nm ?_
  have hnb := c62
  refine RS.wt 66 ?_
  refine RS.mvS rfl ?_
  refine RS.wt 66 ?_
  refine RS.o (D.len rfl Tryz.underlying22) ?_
  refine RS.wt 66 ?_
  refine RS.mvI rfl ?_
  refine RS.wt 66 ?_
  refine RS.o (D.add rfl rfl (W.i64 (by omega))) ?_
  refine RS.wt 66 ?_
  refine RS.o (D.lt rfl rfl) ?_
  refine RS.pick (v := .bool _) rfl rfl ?_
  refine RS.mvB rfl ?_
  refine RS.splitd 73 rfl rfl (fun c65 => ?_) (fun c65 => ?_)
  ·refine RS.nm ?_
   have hsh := c65
   refine RS.skT 73 ?_
   refine RS.skT 73 ?_
   refine RS.skT 73 ?_
   refine RS.pick (v := .bool true) rfl rfl ?_
   refine nl hK61 ?_
   refine C.ift rfl ?_
   refine sq fun K66 hK66 => ?_
   refine RS.o (D.buildS T27 F27 (ps := []) rfl rfl) ?_
   refine RS.storeAggB rfl rfl C27 (by decide) rfl rfl B2 rfl (fun w67 y67 N67 => ?_)
   replace hE := hE.trans (y67.belo)
   replace R0 := R0.sto y67
   replace QR := QR.sto y67
   replace B10 := B10.sto y67
   have zw67 := y67.size
   replace B2 := N67
   refine RS.asI rfl ?_
   refine RS.asI rfl ?_
   refine nl hK66 ?_
   refine wp_ret ?_
   refine ret (rs := [.cell 2 27, .tmp 3, .tmp 4]) (vs := [.agg _, .int _ _, .int _ _]) (v := (.tuple #[.agg _, .int _ _, .int _ _])) rfl ⟨⟨_, rfl, loadVar_agg Tryz.underlying27 rfl C27 (by decide) rfl (B2.cellsN 4 rfl)⟩, rfl, rfl, trivial⟩ rfl ?_
   first | exact absurd rfl hbad | (rw [S.vd_fail (S.valR_oneN hk hbad)]; exact ⟨_, rfl, hE, rfl⟩) | (rw [S.vd_fail (S.valR_threeN hk hbad)]; exact ⟨_, rfl, hE, rfl⟩) | (rw [S.vd_good hv hz]; exact ⟨_, rfl, hE, rfl⟩) | (rw [S.vd_bad hv hz]; exact ⟨_, rfl, hE, rfl⟩) | (rw [S.vd_fail (S.valR_twoN hk (by omega))]; exact ⟨_, rfl, hE, rfl⟩) | (exfalso; omega)
  refine RS.nm ?_
  first | have hv := S.valR_one hk hnb | have hv := S.valR_two hk (show ¬ r.length < 8 by omega) (v := acc) (by rw [g2, show (i - 1).toNat = 8 by omega]) | have hv := S.valR_three hk hnb | have hv := S.valR_else (r := r) hk1 hk2 hk3
  refine RS.wt 73 ?_
  refine RS.o (D.loadAgg rfl Tryz.underlying27 rfl C27 (by decide) rfl (B10.cellsN 4 rfl)) ?_
  refine RS.wt 73 ?_
  refine RS.call E117 (checkR _ _ _ _ (by omega) (by omega) (by omega) (by first | exact hst | decide) _) rfl (fun v68 w68 x68 A68 => ?_)
  replace hE := Ext.tr hE x68
  replace R0 := R0.ext x68
  replace B2 := B2.ext x68
  replace QR := QR.ext x68
  replace B10 := B10.ext x68
  have zw68 := x68.size
  subst A68
  refine RS.nm ?_
  refine RS.wt 73 ?_
  refine RS.o (D.ne rfl rfl) ?_
  refine RS.pick (v := .bool _) rfl rfl ?_
  refine nl hK61 ?_
  refine C.ifn rfl (fun c69 => ?_) (fun c69 => ?_)
  ·have hz := c69
   refine sq fun K70 hK70 => ?_
   refine RS.o (D.buildS T27 F27 (ps := []) rfl rfl) ?_
   refine RS.storeAggB rfl rfl C27 (by decide) rfl rfl B2 rfl (fun w71 y71 N71 => ?_)
   replace hE := hE.trans (y71.belo)
   replace R0 := R0.sto y71
   replace QR := QR.sto y71
   replace B10 := B10.sto y71
   have zw71 := y71.size
   replace B2 := N71
   refine RS.asI rfl ?_
   refine RS.asI rfl ?_
   refine nl hK70 ?_
   refine wp_ret ?_
   refine ret (rs := [.cell 2 27, .tmp 3, .tmp 4]) (vs := [.agg _, .int _ _, .int _ _]) (v := (.tuple #[.agg _, .int _ _, .int _ _])) rfl ⟨⟨_, rfl, loadVar_agg Tryz.underlying27 rfl C27 (by decide) rfl (B2.cellsN 4 rfl)⟩, rfl, rfl, trivial⟩ rfl ?_
   first | exact absurd rfl hbad | (rw [S.vd_fail (S.valR_oneN hk hbad)]; exact ⟨_, rfl, hE, rfl⟩) | (rw [S.vd_fail (S.valR_threeN hk hbad)]; exact ⟨_, rfl, hE, rfl⟩) | (rw [S.vd_good hv hz]; exact ⟨_, rfl, hE, rfl⟩) | (rw [S.vd_bad hv hz]; exact ⟨_, rfl, hE, rfl⟩) | (rw [S.vd_fail (S.valR_twoN hk (by omega))]; exact ⟨_, rfl, hE, rfl⟩) | (exfalso; omega)
  have hz := c69
  refine wp_skip ?_
  refine hK60 _ _ ?_
  refine sq fun K72 hK72 => ?_
  refine RS.o (D.loadAgg rfl Tryz.underlying27 rfl C27 (by decide) rfl (B10.cellsN 4 rfl)) ?_
  refine RS.mvI rfl ?_
  refine RS.o (D.add rfl rfl (W.i64 (by omega))) ?_
  refine RS.storeAggB rfl rfl C27 (by decide) rfl rfl B2 rfl (fun w73 y73 N73 => ?_)
  replace hE := hE.trans (y73.belo)
  replace R0 := R0.sto y73
  replace QR := QR.sto y73
  replace B10 := B10.sto y73
  have zw73 := y73.size
  replace B2 := N73
  refine RS.asI rfl ?_
  refine RS.asI rfl ?_
  refine nl hK72 ?_
  refine wp_ret ?_
  refine ret (rs := [.cell 2 27, .tmp 3, .tmp 4]) (vs := [.agg _, .int _ _, .int _ _]) (v := (.tuple #[.agg _, .int _ _, .int _ _])) rfl ⟨⟨_, rfl, loadVar_agg Tryz.underlying27 rfl C27 (by decide) rfl (B2.cellsN 4 rfl)⟩, rfl, rfl, trivial⟩ rfl ?_
  first | exact absurd rfl hbad | (rw [S.vd_fail (S.valR_oneN hk hbad)]; exact ⟨_, rfl, hE, rfl⟩) | (rw [S.vd_fail (S.valR_threeN hk hbad)]; exact ⟨_, rfl, hE, rfl⟩) | (rw [S.vd_good hv hz]; exact ⟨_, rfl, hE, rfl⟩) | (rw [S.vd_bad hv hz]; exact ⟨_, rfl, hE, rfl⟩) | (rw [S.vd_fail (S.valR_twoN hk (by omega))]; exact ⟨_, rfl, hE, rfl⟩) | (exfalso; omega)
 have hk2 := c34
 refine sq fun K74 hK74 => ?_
 refine RS.o (D.eq rfl rfl) ?_
 refine RS.asB rfl ?_
 refine nl hK74 ?_
 refine C.ife rfl (fun c75 => ?_) (fun c75 => ?_)
 ·have hk := c75
  refine sq fun K76 hK76 => ?_
  refine RS.asS rfl ?_
  refine nl hK76 ?_
  refine sq fun K77 hK77 => ?_
  refine RS.mvS rfl ?_
  refine RS.o (D.slice (kl := .i64) (kh := .i64) rfl Tryz.underlying22 C5 (by decide) rfl rfl (by omega) (by omega)) ?_
  refine RS.call E86 (readBR _ _ _ _ 30 (by decide) _ QR (by omega) (by omega)) rfl (fun v78 w78 x78 A78 => ?_)
  replace hE := Ext.tr hE x78
  replace R0 := R0.ext x78
  replace B2 := B2.ext x78
  replace QR := QR.ext x78
  replace B10 := B10.ext x78
  have zw78 := x78.size
  obtain ⟨aC, nC, cC, rfl, OC⟩ := A78
  have hOC := OC.lo
  have hst : (strOfNums (S.ptS 30 1 r)).size ≤ 1000000 := by rw [← bys_len, bys_strOf _ (S.ptS_bd 30 1 r hrb)]; have := S.ptS_le 30 1 r; omega
  refine RS.nm ?_
  refine RS.move (v := .tuple _) rfl ?_
  refine RS.extract (v := .slice _ _ _) rfl rfl ?_
  refine RS.extract (v := .int _ _) rfl rfl ?_
  refine RS.extract (v := .int _ _) rfl rfl ?_
  refine RS.asS rfl ?_
  refine RS.asI rfl ?_
  refine RS.asI rfl ?_
  refine nl hK77 ?_
  refine region ?_
  refine RS.mvS rfl ?_
  refine RS.o (D.convBS OC.row rfl Tryz.underlying22 Tryz.underlying5 Tryz.underlying9) ?_
  refine RS.o (D.fieldL 3 rfl Tryz.underlying27 rfl C9 (by decide) rfl) ?_
  refine RS.store rfl  rfl C9 rfl B10 rfl (fun w79 y79 N79 => ?_)
  replace hE := hE.trans (y79.belo)
  replace R0 := R0.sto y79
  replace B2 := B2.sto y79
  replace QR := QR.sto y79
  replace OC := OC.st y79 (by intros; try (first | (intro _ _) | (intro _) | skip); first | omega | (have hq := hOC _ (by assumption); first | omega | (dsimp only at *; omega)))
  have zw79 := y79.size
  replace B10 := N79
  refine nl hK13 ?_
  refine wp_seq_k (fun K80 hK80 => ?_)
  refine sq fun K81 hK81 => ?_
  refine RS.mvI rfl ?_
  refine RS.o (D.ne rfl rfl) ?_
  refine RS.mvB rfl ?_
  refine RS.splitn 66 rfl rfl (fun c82 => ?_) (fun c82 => ?_)
  ·refine RS.nm ?_
   have hbad := c82
   refine RS.skT 66 ?_
   refine RS.skT 66 ?_
   refine RS.skT 66 ?_
   refine RS.skT 66 ?_
   refine RS.skT 66 ?_
   refine RS.pick (v := .bool true) rfl rfl ?_
   refine RS.mvB rfl ?_
   refine RS.skT 73 ?_
   refine RS.skT 73 ?_
   refine RS.skT 73 ?_
   refine RS.pick (v := .bool true) rfl rfl ?_
   refine nl hK81 ?_
   refine C.ift rfl ?_
   refine sq fun K83 hK83 => ?_
   refine RS.o (D.buildS T27 F27 (ps := []) rfl rfl) ?_
   refine RS.storeAggB rfl rfl C27 (by decide) rfl rfl B2 rfl (fun w84 y84 N84 => ?_)
   replace hE := hE.trans (y84.belo)
   replace R0 := R0.sto y84
   replace QR := QR.sto y84
   replace B10 := B10.sto y84
   replace OC := OC.st y84 (by intros; try (first | (intro _ _) | (intro _) | skip); first | omega | (have hq := hOC _ (by assumption); first | omega | (dsimp only at *; omega)))
   have zw84 := y84.size
   replace B2 := N84
   refine RS.asI rfl ?_
   refine RS.asI rfl ?_
   refine nl hK83 ?_
   refine wp_ret ?_
   refine ret (rs := [.cell 2 27, .tmp 3, .tmp 4]) (vs := [.agg _, .int _ _, .int _ _]) (v := (.tuple #[.agg _, .int _ _, .int _ _])) rfl ⟨⟨_, rfl, loadVar_agg Tryz.underlying27 rfl C27 (by decide) rfl (B2.cellsN 4 rfl)⟩, rfl, rfl, trivial⟩ rfl ?_
   first | exact absurd rfl hbad | (rw [S.vd_fail (S.valR_oneN hk hbad)]; exact ⟨_, rfl, hE, rfl⟩) | (rw [S.vd_fail (S.valR_threeN hk hbad)]; exact ⟨_, rfl, hE, rfl⟩) | (rw [S.vd_good hv hz]; exact ⟨_, rfl, hE, rfl⟩) | (rw [S.vd_bad hv hz]; exact ⟨_, rfl, hE, rfl⟩) | (rw [S.vd_fail (S.valR_twoN hk (by omega))]; exact ⟨_, rfl, hE, rfl⟩) | (exfalso; omega)
  refine RS.nm ?_
  have hnb := c82
  refine RS.wt 66 ?_
  refine RS.mvS rfl ?_
  refine RS.wt 66 ?_
  refine RS.o (D.len rfl Tryz.underlying22) ?_
  refine RS.wt 66 ?_
  refine RS.mvI rfl ?_
  refine RS.wt 66 ?_
  refine RS.o (D.add rfl rfl (W.i64 (by omega))) ?_
  refine RS.wt 66 ?_
  refine RS.o (D.lt rfl rfl) ?_
  refine RS.pick (v := .bool _) rfl rfl ?_
  refine RS.mvB rfl ?_
  refine RS.splitd 73 rfl rfl (fun c85 => ?_) (fun c85 => ?_)
  ·refine RS.nm ?_
   have hsh := c85
   refine RS.skT 73 ?_
   refine RS.skT 73 ?_
   refine RS.skT 73 ?_
   refine RS.pick (v := .bool true) rfl rfl ?_
   refine nl hK81 ?_
   refine C.ift rfl ?_
   refine sq fun K86 hK86 => ?_
   refine RS.o (D.buildS T27 F27 (ps := []) rfl rfl) ?_
   refine RS.storeAggB rfl rfl C27 (by decide) rfl rfl B2 rfl (fun w87 y87 N87 => ?_)
   replace hE := hE.trans (y87.belo)
   replace R0 := R0.sto y87
   replace QR := QR.sto y87
   replace B10 := B10.sto y87
   replace OC := OC.st y87 (by intros; try (first | (intro _ _) | (intro _) | skip); first | omega | (have hq := hOC _ (by assumption); first | omega | (dsimp only at *; omega)))
   have zw87 := y87.size
   replace B2 := N87
   refine RS.asI rfl ?_
   refine RS.asI rfl ?_
   refine nl hK86 ?_
   refine wp_ret ?_
   refine ret (rs := [.cell 2 27, .tmp 3, .tmp 4]) (vs := [.agg _, .int _ _, .int _ _]) (v := (.tuple #[.agg _, .int _ _, .int _ _])) rfl ⟨⟨_, rfl, loadVar_agg Tryz.underlying27 rfl C27 (by decide) rfl (B2.cellsN 4 rfl)⟩, rfl, rfl, trivial⟩ rfl ?_
   first | exact absurd rfl hbad | (rw [S.vd_fail (S.valR_oneN hk hbad)]; exact ⟨_, rfl, hE, rfl⟩) | (rw [S.vd_fail (S.valR_threeN hk hbad)]; exact ⟨_, rfl, hE, rfl⟩) | (rw [S.vd_good hv hz]; exact ⟨_, rfl, hE, rfl⟩) | (rw [S.vd_bad hv hz]; exact ⟨_, rfl, hE, rfl⟩) | (rw [S.vd_fail (S.valR_twoN hk (by omega))]; exact ⟨_, rfl, hE, rfl⟩) | (exfalso; omega)
  refine RS.nm ?_
  first | have hv := S.valR_one hk hnb | have hv := S.valR_two hk (show ¬ r.length < 8 by omega) (v := acc) (by rw [g2, show (i - 1).toNat = 8 by omega]) | have hv := S.valR_three hk hnb | have hv := S.valR_else (r := r) hk1 hk2 hk3
  refine RS.wt 73 ?_
  refine RS.o (D.loadAgg rfl Tryz.underlying27 rfl C27 (by decide) rfl (B10.cellsN 4 rfl)) ?_
  refine RS.wt 73 ?_
  refine RS.call E117 (checkR _ _ _ _ (by omega) (by omega) (by omega) (by first | exact hst | decide) _) rfl (fun v88 w88 x88 A88 => ?_)
  replace hE := Ext.tr hE x88
  replace R0 := R0.ext x88
  replace B2 := B2.ext x88
  replace QR := QR.ext x88
  replace B10 := B10.ext x88
  replace OC := OC.ext x88
  have zw88 := x88.size
  subst A88
  refine RS.nm ?_
  refine RS.wt 73 ?_
  refine RS.o (D.ne rfl rfl) ?_
  refine RS.pick (v := .bool _) rfl rfl ?_
  refine nl hK81 ?_
  refine C.ifn rfl (fun c89 => ?_) (fun c89 => ?_)
  ·have hz := c89
   refine sq fun K90 hK90 => ?_
   refine RS.o (D.buildS T27 F27 (ps := []) rfl rfl) ?_
   refine RS.storeAggB rfl rfl C27 (by decide) rfl rfl B2 rfl (fun w91 y91 N91 => ?_)
   replace hE := hE.trans (y91.belo)
   replace R0 := R0.sto y91
   replace QR := QR.sto y91
   replace B10 := B10.sto y91
   replace OC := OC.st y91 (by intros; try (first | (intro _ _) | (intro _) | skip); first | omega | (have hq := hOC _ (by assumption); first | omega | (dsimp only at *; omega)))
   have zw91 := y91.size
   replace B2 := N91
   refine RS.asI rfl ?_
   refine RS.asI rfl ?_
   refine nl hK90 ?_
   refine wp_ret ?_
   refine ret (rs := [.cell 2 27, .tmp 3, .tmp 4]) (vs := [.agg _, .int _ _, .int _ _]) (v := (.tuple #[.agg _, .int _ _, .int _ _])) rfl ⟨⟨_, rfl, loadVar_agg Tryz.underlying27 rfl C27 (by decide) rfl (B2.cellsN 4 rfl)⟩, rfl, rfl, trivial⟩ rfl ?_
   first | exact absurd rfl hbad | (rw [S.vd_fail (S.valR_oneN hk hbad)]; exact ⟨_, rfl, hE, rfl⟩) | (rw [S.vd_fail (S.valR_threeN hk hbad)]; exact ⟨_, rfl, hE, rfl⟩) | (rw [S.vd_good hv hz]; exact ⟨_, rfl, hE, rfl⟩) | (rw [S.vd_bad hv hz]; exact ⟨_, rfl, hE, rfl⟩) | (rw [S.vd_fail (S.valR_twoN hk (by omega))]; exact ⟨_, rfl, hE, rfl⟩) | (exfalso; omega)
  have hz := c89
  refine wp_skip ?_
  refine hK80 _ _ ?_
  refine sq fun K92 hK92 => ?_
  refine RS.o (D.loadAgg rfl Tryz.underlying27 rfl C27 (by decide) rfl (B10.cellsN 4 rfl)) ?_
  refine RS.mvI rfl ?_
  refine RS.o (D.add rfl rfl (W.i64 (by omega))) ?_
  refine RS.storeAggB rfl rfl C27 (by decide) rfl rfl B2 rfl (fun w93 y93 N93 => ?_)
  replace hE := hE.trans (y93.belo)
  replace R0 := R0.sto y93
  replace QR := QR.sto y93
  replace B10 := B10.sto y93
  replace OC := OC.st y93 (by intros; try (first | (intro _ _) | (intro _) | skip); first | omega | (have hq := hOC _ (by assumption); first | omega | (dsimp only at *; omega)))
  have zw93 := y93.size
  replace B2 := N93
  refine RS.asI rfl ?_
  refine RS.asI rfl ?_
  refine nl hK92 ?_
  refine wp_ret ?_
  refine ret (rs := [.cell 2 27, .tmp 3, .tmp 4]) (vs := [.agg _, .int _ _, .int _ _]) (v := (.tuple #[.agg _, .int _ _, .int _ _])) rfl ⟨⟨_, rfl, loadVar_agg Tryz.underlying27 rfl C27 (by decide) rfl (B2.cellsN 4 rfl)⟩, rfl, rfl, trivial⟩ rfl ?_
  first | exact absurd rfl hbad | (rw [S.vd_fail (S.valR_oneN hk hbad)]; exact ⟨_, rfl, hE, rfl⟩) | (rw [S.vd_fail (S.valR_threeN hk hbad)]; exact ⟨_, rfl, hE, rfl⟩) | (rw [S.vd_good hv hz]; exact ⟨_, rfl, hE, rfl⟩) | (rw [S.vd_bad hv hz]; exact ⟨_, rfl, hE, rfl⟩) | (rw [S.vd_fail (S.valR_twoN hk (by omega))]; exact ⟨_, rfl, hE, rfl⟩) | (exfalso; omega)
 have hk3 := c75
 refine wp_skip ?_
 refine hK13 _ _ ?_
 refine wp_seq_k (fun K94 hK94 => ?_)
 refine sq fun K95 hK95 => ?_
 refine RS.mvI rfl ?_
 refine RS.o (D.ne rfl rfl) ?_
 refine RS.mvB rfl ?_
 refine RS.splitn 66 rfl rfl (fun c96 => ?_) (fun c96 => ?_)
 ·refine RS.nm ?_
  have hbad := c96
  refine RS.skT 66 ?_
  refine RS.skT 66 ?_
  refine RS.skT 66 ?_
  refine RS.skT 66 ?_
  refine RS.skT 66 ?_
  refine RS.pick (v := .bool true) rfl rfl ?_
  refine RS.mvB rfl ?_
  refine RS.skT 73 ?_
  refine RS.skT 73 ?_
  refine RS.skT 73 ?_
  refine RS.pick (v := .bool true) rfl rfl ?_
  refine nl hK95 ?_
  refine C.ift rfl ?_
  refine sq fun K97 hK97 => ?_
  refine RS.o (D.buildS T27 F27 (ps := []) rfl rfl) ?_
  refine RS.storeAggB rfl rfl C27 (by decide) rfl rfl B2 rfl (fun w98 y98 N98 => ?_)
  replace hE := hE.trans (y98.belo)
  replace R0 := R0.sto y98
  replace QR := QR.sto y98
  replace B10 := B10.sto y98
  have zw98 := y98.size
  replace B2 := N98
  refine RS.asI rfl ?_
  refine RS.asI rfl ?_
  refine nl hK97 ?_
  refine wp_ret ?_
  refine ret (rs := [.cell 2 27, .tmp 3, .tmp 4]) (vs := [.agg _, .int _ _, .int _ _]) (v := (.tuple #[.agg _, .int _ _, .int _ _])) rfl ⟨⟨_, rfl, loadVar_agg Tryz.underlying27 rfl C27 (by decide) rfl (B2.cellsN 4 rfl)⟩, rfl, rfl, trivial⟩ rfl ?_
  first | exact absurd rfl hbad | (rw [S.vd_fail (S.valR_oneN hk hbad)]; exact ⟨_, rfl, hE, rfl⟩) | (rw [S.vd_fail (S.valR_threeN hk hbad)]; exact ⟨_, rfl, hE, rfl⟩) | (rw [S.vd_good hv hz]; exact ⟨_, rfl, hE, rfl⟩) | (rw [S.vd_bad hv hz]; exact ⟨_, rfl, hE, rfl⟩) | (rw [S.vd_fail (S.valR_twoN hk (by omega))]; exact ⟨_, rfl, hE, rfl⟩) | (exfalso; omega)
 refine RS.nm ?_
 have hnb := c96
 refine RS.wt 66 ?_
 refine RS.mvS rfl ?_
 refine RS.wt 66 ?_
 refine RS.o (D.len rfl Tryz.underlying22) ?_
 refine RS.wt 66 ?_
 refine RS.mvI rfl ?_
 refine RS.wt 66 ?_
 refine RS.o (D.add rfl rfl (W.i64 (by omega))) ?_
 refine RS.wt 66 ?_
 refine RS.o (D.lt rfl rfl) ?_
 refine RS.pick (v := .bool _) rfl rfl ?_
 refine RS.mvB rfl ?_
 refine RS.splitd 73 rfl rfl (fun c99 => ?_) (fun c99 => ?_)
 ·refine RS.nm ?_
  have hsh := c99
  refine RS.skT 73 ?_
  refine RS.skT 73 ?_
  refine RS.skT 73 ?_
  refine RS.pick (v := .bool true) rfl rfl ?_
  refine nl hK95 ?_
  refine C.ift rfl ?_
  refine sq fun K100 hK100 => ?_
  refine RS.o (D.buildS T27 F27 (ps := []) rfl rfl) ?_
  refine RS.storeAggB rfl rfl C27 (by decide) rfl rfl B2 rfl (fun w101 y101 N101 => ?_)
  replace hE := hE.trans (y101.belo)
  replace R0 := R0.sto y101
  replace QR := QR.sto y101
  replace B10 := B10.sto y101
  have zw101 := y101.size
  replace B2 := N101
  refine RS.asI rfl ?_
  refine RS.asI rfl ?_
  refine nl hK100 ?_
  refine wp_ret ?_
  refine ret (rs := [.cell 2 27, .tmp 3, .tmp 4]) (vs := [.agg _, .int _ _, .int _ _]) (v := (.tuple #[.agg _, .int _ _, .int _ _])) rfl ⟨⟨_, rfl, loadVar_agg Tryz.underlying27 rfl C27 (by decide) rfl (B2.cellsN 4 rfl)⟩, rfl, rfl, trivial⟩ rfl ?_
  first | exact absurd rfl hbad | (rw [S.vd_fail (S.valR_oneN hk hbad)]; exact ⟨_, rfl, hE, rfl⟩) | (rw [S.vd_fail (S.valR_threeN hk hbad)]; exact ⟨_, rfl, hE, rfl⟩) | (rw [S.vd_good hv hz]; exact ⟨_, rfl, hE, rfl⟩) | (rw [S.vd_bad hv hz]; exact ⟨_, rfl, hE, rfl⟩) | (rw [S.vd_fail (S.valR_twoN hk (by omega))]; exact ⟨_, rfl, hE, rfl⟩) | (exfalso; omega)
 refine RS.nm ?_
 first | have hv := S.valR_one hk hnb | have hv := S.valR_two hk (show ¬ r.length < 8 by omega) (v := acc) (by rw [g2, show (i - 1).toNat = 8 by omega]) | have hv := S.valR_three hk hnb | have hv := S.valR_else (r := r) hk1 hk2 hk3
 refine RS.wt 73 ?_
 refine RS.o (D.loadAgg rfl Tryz.underlying27 rfl C27 (by decide) rfl (B10.cellsN 4 rfl)) ?_
 refine RS.wt 73 ?_
 refine RS.call E117 (checkR _ _ _ _ (by omega) (by omega) (by omega) (by first | exact hst | decide) _) rfl (fun v102 w102 x102 A102 => ?_)
 replace hE := Ext.tr hE x102
 replace R0 := R0.ext x102
 replace B2 := B2.ext x102
 replace QR := QR.ext x102
 replace B10 := B10.ext x102
 have zw102 := x102.size
 subst A102
 refine RS.nm ?_
 refine RS.wt 73 ?_
 refine RS.o (D.ne rfl rfl) ?_
 refine RS.pick (v := .bool _) rfl rfl ?_
 refine nl hK95 ?_
 refine C.ifn rfl (fun c103 => ?_) (fun c103 => ?_)
 ·have hz := c103
  refine sq fun K104 hK104 => ?_
  refine RS.o (D.buildS T27 F27 (ps := []) rfl rfl) ?_
  refine RS.storeAggB rfl rfl C27 (by decide) rfl rfl B2 rfl (fun w105 y105 N105 => ?_)
  replace hE := hE.trans (y105.belo)
  replace R0 := R0.sto y105
  replace QR := QR.sto y105
  replace B10 := B10.sto y105
  have zw105 := y105.size
  replace B2 := N105
  refine RS.asI rfl ?_
  refine RS.asI rfl ?_
  refine nl hK104 ?_
  refine wp_ret ?_
  refine ret (rs := [.cell 2 27, .tmp 3, .tmp 4]) (vs := [.agg _, .int _ _, .int _ _]) (v := (.tuple #[.agg _, .int _ _, .int _ _])) rfl ⟨⟨_, rfl, loadVar_agg Tryz.underlying27 rfl C27 (by decide) rfl (B2.cellsN 4 rfl)⟩, rfl, rfl, trivial⟩ rfl ?_
  first | exact absurd rfl hbad | (rw [S.vd_fail (S.valR_oneN hk hbad)]; exact ⟨_, rfl, hE, rfl⟩) | (rw [S.vd_fail (S.valR_threeN hk hbad)]; exact ⟨_, rfl, hE, rfl⟩) | (rw [S.vd_good hv hz]; exact ⟨_, rfl, hE, rfl⟩) | (rw [S.vd_bad hv hz]; exact ⟨_, rfl, hE, rfl⟩) | (rw [S.vd_fail (S.valR_twoN hk (by omega))]; exact ⟨_, rfl, hE, rfl⟩) | (exfalso; omega)
 have hz := c103
 refine wp_skip ?_
 refine hK94 _ _ ?_
 refine sq fun K106 hK106 => ?_
 refine RS.o (D.loadAgg rfl Tryz.underlying27 rfl C27 (by decide) rfl (B10.cellsN 4 rfl)) ?_
 refine RS.mvI rfl ?_
 refine RS.o (D.add rfl rfl (W.i64 (by omega))) ?_
 refine RS.storeAggB rfl rfl C27 (by decide) rfl rfl B2 rfl (fun w107 y107 N107 => ?_)
 replace hE := hE.trans (y107.belo)
 replace R0 := R0.sto y107
 replace QR := QR.sto y107
 replace B10 := B10.sto y107
 have zw107 := y107.size
 replace B2 := N107
 refine RS.asI rfl ?_
 refine RS.asI rfl ?_
 refine nl hK106 ?_
 refine wp_ret ?_
 refine ret (rs := [.cell 2 27, .tmp 3, .tmp 4]) (vs := [.agg _, .int _ _, .int _ _]) (v := (.tuple #[.agg _, .int _ _, .int _ _])) rfl ⟨⟨_, rfl, loadVar_agg Tryz.underlying27 rfl C27 (by decide) rfl (B2.cellsN 4 rfl)⟩, rfl, rfl, trivial⟩ rfl ?_
 first | exact absurd rfl hbad | (rw [S.vd_fail (S.valR_oneN hk hbad)]; exact ⟨_, rfl, hE, rfl⟩) | (rw [S.vd_fail (S.valR_threeN hk hbad)]; exact ⟨_, rfl, hE, rfl⟩) | (rw [S.vd_good hv hz]; exact ⟨_, rfl, hE, rfl⟩) | (rw [S.vd_bad hv hz]; exact ⟨_, rfl, hE, rfl⟩) | (rw [S.vd_fail (S.valR_twoN hk (by omega))]; exact ⟨_, rfl, hE, rfl⟩) | (exfalso; omega)
theorem shortR {S0 : Nat → Prop} (a : Option Addr) (n c : Nat) (bs : List Int) (w : World) (R0 : IRow .u8 S0 w a n bs) (hc : n ≤ c) (hn : n ≤ 1000000) :
  Calls Tryz.prog 47 #[.slice a n c] w (Ret w fun v w' => ∃ (m : Int) (a' : Option Addr) (n' c' : Nat) (ls : List Int) (b : Bool), v = .tuple #[.int .u32 m, .slice a' n' c', .bool b] ∧ n' ≤ c' ∧ n' ≤ n ∧ IRow .u8 (fun k => k < w.heap.size) w' a' n' ls ∧ (b = true → (0 ≤ m ∧ m < 4294967296) ∧ S.numR bs = some (m, ls)) ∧ (b = false → S.numR bs = none ∨ ∃ m' l', S.numR bs = some (m', l') ∧ 4294967295 < m')) := by
 replace R0 := R0.weaken (T := fun k => k < w.heap.size) (fun k hk _ => hk)
 have hbl := R0.len
 have hbd := R0.bd
 obtain ⟨hv, hu, hu9, he⟩ := S.rd_bd R0.bd
 have hE := Ext.refl w
 refine enterU 24 Tryz.func47 rfl rfl ?_
 refine sq fun K1 hK1 => ?_
 refine RS.asI rfl ?_
 refine RS.asS rfl ?_
 refine RS.asB rfl ?_
 refine nl hK1 ?_
 refine sq fun K2 hK2 => ?_
 refine RS.mvS rfl ?_
 refine RS.call E49 (readNR _ _ _ _ _ R0 hc hn) rfl (fun v3 w3 x3 A3 => ?_)
 replace hE := Ext.tr hE x3
 replace R0 := R0.ext x3
 have zw3 := x3.size
 subst A3
 refine RS.nm ?_
 refine RS.move (v := .tuple _) rfl ?_
 refine RS.extract (v := .int _ _) rfl rfl ?_
 refine RS.extract (v := .int _ _) rfl rfl ?_
 refine RS.extract (v := .int _ _) rfl rfl ?_
 refine RS.asI rfl ?_
 refine RS.asI rfl ?_
 refine RS.asI rfl ?_
 refine nl hK2 ?_
 refine wp_seq_k (fun K4 hK4 => ?_)
 refine sq fun K5 hK5 => ?_
 refine RS.mvI rfl ?_
 refine RS.o (D.ne rfl rfl) ?_
 refine RS.mvB rfl ?_
 refine RS.splitn 16 rfl rfl (fun c6 => ?_) (fun c6 => ?_)
 ·refine RS.nm ?_
  have hz := c6
  refine RS.skT 16 ?_
  refine RS.skT 16 ?_
  refine RS.pick (v := .bool true) rfl rfl ?_
  refine nl hK5 ?_
  refine C.ift rfl ?_
  refine sq fun K7 hK7 => ?_
  refine RS.asI rfl ?_
  refine RS.asS rfl ?_
  refine RS.asB rfl ?_
  refine nl hK7 ?_
  refine wp_ret ?_
  refine ret (rs := [.tmp 2, .tmp 3, .tmp 4]) (vs := [.int _ _, .slice _ _ _, .bool _]) (v := (.tuple #[.int _ _, .slice _ _ _, .bool _])) rfl ⟨rfl, rfl, rfl, trivial⟩ rfl ?_
  exact ⟨_, rfl, hE, _, _, _, _, [], _, rfl, Nat.le_refl _, Nat.zero_le _, IRow.nil, (fun h => by cases h), fun _ => .inl (S.numR_no hz)⟩
 refine RS.nm ?_
 have hz := c6
 refine RS.wt 16 ?_
 refine RS.mvI rfl ?_
 refine RS.wt 16 ?_
 refine RS.o (D.gt rfl rfl) ?_
 refine RS.pick (v := .bool _) rfl rfl ?_
 refine nl hK5 ?_
 refine C.ifd rfl (fun c8 => ?_) (fun c8 => ?_)
 ·have hb := c8
  refine sq fun K9 hK9 => ?_
  refine RS.asI rfl ?_
  refine RS.asS rfl ?_
  refine RS.asB rfl ?_
  refine nl hK9 ?_
  refine wp_ret ?_
  refine ret (rs := [.tmp 2, .tmp 3, .tmp 4]) (vs := [.int _ _, .slice _ _ _, .bool _]) (v := (.tuple #[.int _ _, .slice _ _ _, .bool _])) rfl ⟨rfl, rfl, rfl, trivial⟩ rfl ?_
  exact ⟨_, rfl, hE, _, _, _, _, [], _, rfl, Nat.le_refl _, Nat.zero_le _, IRow.nil, (fun h => by cases h), fun _ => .inr ⟨_, _, S.numR_ok hz, by omega⟩⟩
 have hb := c8
 refine wp_skip ?_
 refine hK4 _ _ ?_
 refine wp_seq_k (fun K10 hK10 => ?_)
 refine regionX Ext [(0, .q), (1, .q), (2, .q), (3, .q), (4, .q), (5, .q), (6, .q), (7, .q)] mixed Ext.refl (fun h k => h.tr k) (by kernel_rfl) (fun w11 x11 => ?_)
 replace hE := Ext.tr hE x11
 replace R0 := R0.ext x11
 have zw11 := x11.size
 refine RX.mvI rfl ?_
 refine RX.o (fun w' hw => D.conv rfl Tryz.underlying25 Tryz.underlying23 (W.u32 (by omega))) ?_
 refine RX.mvS rfl ?_
 refine RX.mvI rfl ?_
 refine RX.o (fun w' hw => D.slice (kl := .i64) (kh := .i64) rfl Tryz.underlying22 C5 (by decide) rfl rfl (by omega) (by omega)) ?_
 refine RX.assign (v := .int _ _) rfl ?_
 refine RX.assign (v := .slice _ _ _) rfl ?_
 refine RX.assign (v := .bool true) rfl ?_
 refine RX.nil (hK10 _ _ ?_)
 refine wp_ret ?_
 refine ret (rs := [.tmp 2, .tmp 3, .tmp 4]) (vs := [.int _ _, .slice _ _ _, .bool _]) (v := (.tuple #[.int _ _, .slice _ _ _, .bool _])) rfl ⟨rfl, rfl, rfl, trivial⟩ rfl ?_
 exact ⟨_, rfl, hE, _, _, _, _, _, _, rfl, by omega, by omega, R0.rest (S.rdU bs) c (by omega) (by omega), fun _ => ⟨by omega, S.numR_ok hz⟩, (fun h => by cases h)⟩
theorem actRf {S0 : Nat → Prop} (a : Option Addr) (n c : Nat) (bs : List Int) (w : World) (R0 : IRow .u8 S0 w a n bs) (hc : n ≤ c) (hn : n ≤ 1000000) :
  Calls Tryz.prog 50 #[.slice a n c] w (Ret w fun v w' => ∃ (k : Int) (x : S.ActV) (a' : Option Addr) (n' c' : Nat) (ls : List Int) (b : Bool), v = .tuple #[.agg ([.int .u8 k, .string x.key, .int .u8 x.vk, .int .i64 x.num, .int .u64 x.bits, .string x.t] : List Value).toArray, .slice a' n' c', .bool b] ∧ n' ≤ c' ∧ n' ≤ n ∧ IRow .u8 (fun k => k < w.heap.size) w' a' n' ls ∧ (b = true → ∃ r0, bs = k :: r0 ∧ S.actR k r0 = some (x, ls)) ∧ (b = false → ∀ k r0, bs = k :: r0 → S.actR k r0 = none)) := by
 replace R0 := R0.weaken (T := fun k => k < w.heap.size) (fun k hk _ => hk)
 have hbl := R0.len
 have hbd := R0.bd
 have hE := Ext.refl w
 refine enterU 60 Tryz.func50 rfl rfl ?_
 refine sq fun K1 hK1 => ?_
 refine RS.alloc T29 (fun b2 w2 e2 s2 x2 B2 => ?_)
 refine RS.nm ?_
 replace hE := Ext.tr hE x2
 replace R0 := R0.ext x2
 have zw2 := x2.size
 refine RS.asS rfl ?_
 refine RS.asB rfl ?_
 refine nl hK1 ?_
 refine wp_seq_k (fun K3 hK3 => ?_)
 refine sq fun K4 hK4 => ?_
 refine RS.mvS rfl ?_
 refine RS.o (D.len rfl Tryz.underlying22) ?_
 refine RS.o (D.eq rfl rfl) ?_
 refine nl hK4 ?_
 refine C.ife rfl (fun c5 => ?_) (fun c5 => ?_)
 ·obtain rfl : bs = [] := List.eq_nil_of_length_eq_zero (by omega)
  refine sq fun K6 hK6 => ?_
  refine RS.o (D.buildS T29 F29 (ps := []) rfl rfl) ?_
  refine RS.storeAggB rfl rfl C29 (by decide) rfl rfl B2 rfl (fun w7 y7 N7 => ?_)
  replace hE := hE.trans (y7.belo)
  replace R0 := R0.sto y7
  have zw7 := y7.size
  replace B2 := N7
  refine RS.asS rfl ?_
  refine RS.asB rfl ?_
  refine nl hK6 ?_
  refine wp_ret ?_
  refine ret (rs := [.cell 2 29, .tmp 3, .tmp 4]) (vs := [.agg _, .slice _ _ _, .bool _]) (v := (.tuple #[.agg _, .slice _ _ _, .bool _])) rfl ⟨⟨_, rfl, loadVar_agg Tryz.underlying29 rfl C29 (by decide) rfl (B2.cellsN 6 rfl)⟩, rfl, rfl, trivial⟩ rfl ?_
  exact ⟨_, rfl, hE, 0, ⟨0, 0, 0, .empty, .empty⟩, none, 0, 0, [], false, rfl, Nat.le_refl _, Nat.zero_le _, IRow.nil, (fun h => by cases h), (fun _ k0 r0 hkr => by cases hkr)⟩
 obtain ⟨k, r, rfl⟩ : ∃ k r, bs = k :: r := by
  cases bs with
  | nil => simp at hbl; omega
  | cons x r => exact ⟨x, r, rfl⟩
 rw [List.length_cons] at hbl
 have hrb : Bd .u8 r := fun y hy => hbd y (List.mem_cons_of_mem _ hy)
 have hpu := S.ptU_le (most := 20) (wd := 1) hrb (by decide)
 refine wp_skip ?_
 refine hK3 _ _ ?_
 refine sq fun K8 hK8 => ?_
 refine RS.mvS rfl ?_
 refine RS.idx R0 rfl rfl Tryz.underlying22 C5 (by omega) (fun b9 o9 v9 h9 q9 r9 => ?_)
 refine RS.nm ?_
 simp only [lim] at r9
 replace q9 : k = v9 := Eq.symm q9
 subst q9
 refine RS.o (D.load rfl Tryz.underlying5 rfl (h9)) ?_
 refine RS.o (D.buildS T29 F29 (ps := [(0, .int _ _)]) rfl rfl) ?_
 refine RS.alloc T29 (fun b10 w10 e10 s10 x10 B10 => ?_)
 refine RS.nm ?_
 replace hE := Ext.tr hE x10
 replace R0 := R0.ext x10
 replace B2 := B2.ext x10
 have zw10 := x10.size
 refine RS.storeAggB rfl rfl C29 (by decide) rfl rfl B10 rfl (fun w11 y11 N11 => ?_)
 replace hE := hE.trans (y11.belo)
 replace R0 := R0.sto y11
 replace B2 := B2.sto y11
 have zw11 := y11.size
 replace B10 := N11
 refine nl hK8 ?_
 refine sq fun K12 hK12 => ?_
 refine RS.mvS rfl ?_
 refine RS.o (D.slice (kl := .i64) (kh := .i64) rfl Tryz.underlying22 C5 (by decide) rfl rfl (by omega) (by omega)) ?_
 refine RS.asS rfl ?_
 refine nl hK12 ?_
 refine wp_seq_k (fun K13 hK13 => ?_)
 refine wp_seq_k (fun K14 hK14 => ?_)
 have QR : IRow .u8 (fun k => k < w.heap.size) w11 (subA a 1 1 c) (n - 1) r := R0.rest 1 c (by omega) (by omega)
 refine region ?_
 refine RS.o (D.fieldL 0 rfl Tryz.underlying29 rfl C5 (by decide) rfl) ?_
 refine RS.o (D.load rfl Tryz.underlying5 rfl (B10.cell rfl)) ?_
 refine RS.o (D.eq rfl rfl) ?_
 refine nl hK14 ?_
 refine C.ife rfl (fun c15 => ?_) (fun c15 => ?_)
 ·have hk := c15
  refine sq fun K16 hK16 => ?_
  refine RS.o (D.loadAgg rfl Tryz.underlying29 rfl C29 (by decide) rfl (B10.cellsN 6 rfl)) ?_
  refine RS.mvS rfl ?_
  refine RS.storeAggB rfl rfl C29 (by decide) rfl rfl B2 rfl (fun w17 y17 N17 => ?_)
  replace hE := hE.trans (y17.belo)
  replace R0 := R0.sto y17
  replace B10 := B10.sto y17
  replace QR := QR.sto y17
  have zw17 := y17.size
  replace B2 := N17
  refine RS.asS rfl ?_
  refine RS.asB rfl ?_
  refine nl hK16 ?_
  refine wp_ret ?_
  refine ret (rs := [.cell 2 29, .tmp 3, .tmp 4]) (vs := [.agg _, .slice _ _ _, .bool _]) (v := (.tuple #[.agg _, .slice _ _ _, .bool _])) rfl ⟨⟨_, rfl, loadVar_agg Tryz.underlying29 rfl C29 (by decide) rfl (B2.cellsN 6 rfl)⟩, rfl, rfl, trivial⟩ rfl ?_
  exact ⟨_, rfl, hE, k, ⟨0, 0, 0, .empty, .empty⟩, _, _, _, r, true, rfl, by omega, by omega, QR, fun _ => ⟨r, rfl, if_pos hk⟩, (fun h => by cases h)⟩
 have hk := c15
 refine wp_skip ?_
 refine hK13 _ _ ?_
 refine sq fun K18 hK18 => ?_
 refine RS.mvS rfl ?_
 refine RS.call E86 (readBR _ _ _ _ 20 (by decide) _ QR (by omega) (by omega)) rfl (fun v19 w19 x19 A19 => ?_)
 replace hE := Ext.tr hE x19
 replace R0 := R0.ext x19
 replace B2 := B2.ext x19
 replace B10 := B10.ext x19
 replace QR := QR.ext x19
 have zw19 := x19.size
 obtain ⟨aC, nC, cC, rfl, OC⟩ := A19
 have hOC := OC.lo
 refine RS.nm ?_
 refine RS.move (v := .tuple _) rfl ?_
 refine RS.extract (v := .slice _ _ _) rfl rfl ?_
 refine RS.extract (v := .int _ _) rfl rfl ?_
 refine RS.extract (v := .int _ _) rfl rfl ?_
 refine RS.asS rfl ?_
 refine RS.asI rfl ?_
 refine RS.asI rfl ?_
 refine nl hK18 ?_
 refine wp_seq_k (fun K20 hK20 => ?_)
 refine sq fun K21 hK21 => ?_
 refine RS.mvI rfl ?_
 refine RS.o (D.ne rfl rfl) ?_
 refine nl hK21 ?_
 refine C.ifn rfl (fun c22 => ?_) (fun c22 => ?_)
 ·have hz := c22
  refine sq fun K23 hK23 => ?_
  refine RS.o (D.loadAgg rfl Tryz.underlying29 rfl C29 (by decide) rfl (B10.cellsN 6 rfl)) ?_
  refine RS.storeAggB rfl rfl C29 (by decide) rfl rfl B2 rfl (fun w24 y24 N24 => ?_)
  replace hE := hE.trans (y24.belo)
  replace R0 := R0.sto y24
  replace B10 := B10.sto y24
  replace QR := QR.sto y24
  replace OC := OC.st y24 (by intros; try (first | (intro _ _) | (intro _) | skip); first | omega | (have hq := hOC _ (by assumption); first | omega | (dsimp only at *; omega)))
  have zw24 := y24.size
  replace B2 := N24
  refine RS.asS rfl ?_
  refine RS.asB rfl ?_
  refine nl hK23 ?_
  refine wp_ret ?_
  refine ret (rs := [.cell 2 29, .tmp 3, .tmp 4]) (vs := [.agg _, .slice _ _ _, .bool _]) (v := (.tuple #[.agg _, .slice _ _ _, .bool _])) rfl ⟨⟨_, rfl, loadVar_agg Tryz.underlying29 rfl C29 (by decide) rfl (B2.cellsN 6 rfl)⟩, rfl, rfl, trivial⟩ rfl ?_
  exact ⟨_, rfl, hE, _, ⟨0, 0, 0, .empty, .empty⟩, none, 0, 0, [], false, rfl, Nat.le_refl _, Nat.zero_le _, IRow.nil, (fun h => by cases h), fun _ k0 r0 hkr => by obtain ⟨rfl, rfl⟩ := List.cons.inj hkr; exact S.actR_f1 hk (S.keyR_no hz)⟩
 have hz := c22
 refine wp_skip ?_
 refine hK20 _ _ ?_
 refine sq fun K25 hK25 => ?_
 refine RS.mvS rfl ?_
 refine RS.o (D.convBS OC.row rfl Tryz.underlying22 Tryz.underlying5 Tryz.underlying9) ?_
 refine RS.o (D.fieldL 1 rfl Tryz.underlying29 rfl C9 (by decide) rfl) ?_
 refine RS.store rfl  rfl C9 rfl B10 rfl (fun w26 y26 N26 => ?_)
 replace hE := hE.trans (y26.belo)
 replace R0 := R0.sto y26
 replace B2 := B2.sto y26
 replace QR := QR.sto y26
 replace OC := OC.st y26 (by intros; try (first | (intro _ _) | (intro _) | skip); first | omega | (have hq := hOC _ (by assumption); first | omega | (dsimp only at *; omega)))
 have zw26 := y26.size
 replace B10 := N26
 refine nl hK25 ?_
 refine sq fun K27 hK27 => ?_
 refine RS.mvS rfl ?_
 refine RS.mvI rfl ?_
 refine RS.o (D.slice (kl := .i64) (kh := .i64) rfl Tryz.underlying22 C5 (by decide) rfl rfl (by omega) (by omega)) ?_
 refine RS.asS rfl ?_
 refine nl hK27 ?_
 refine wp_seq_k (fun K28 hK28 => ?_)
 refine wp_seq_k (fun K29 hK29 => ?_)
 have QK := QR.rest (S.ptU 20 1 r) (c - 1) (by omega) (by omega)
 have hvb := S.vd_bd (QK.bd)
 rw [List.length_drop] at hvb
 refine region ?_
 refine RS.o (D.fieldL 0 rfl Tryz.underlying29 rfl C5 (by decide) rfl) ?_
 refine RS.o (D.load rfl Tryz.underlying5 rfl (B10.cell rfl)) ?_
 refine RS.o (D.eq rfl rfl) ?_
 refine nl hK29 ?_
 refine C.ife rfl (fun c30 => ?_) (fun c30 => ?_)
 ·have h4 := c30
  refine sq fun K31 hK31 => ?_
  refine RS.mvS rfl ?_
  refine RS.call E87 (decodeVR _ _ _ _ _ QK (by omega) (by omega)) rfl (fun v32 w32 x32 A32 => ?_)
  replace hE := Ext.tr hE x32
  replace R0 := R0.ext x32
  replace B2 := B2.ext x32
  replace B10 := B10.ext x32
  replace QR := QR.ext x32
  replace OC := OC.ext x32
  replace QK := QK.ext x32
  have zw32 := x32.size
  subst A32
  refine RS.nm ?_
  refine RS.move (v := .tuple _) rfl ?_
  refine RS.extract (v := .agg _) rfl rfl ?_
  refine RS.extract (v := .int _ _) rfl rfl ?_
  refine RS.extract (v := .int _ _) rfl rfl ?_
  refine RS.alloc T27 (fun b33 w33 e33 s33 x33 B33 => ?_)
  refine RS.nm ?_
  replace hE := Ext.tr hE x33
  replace R0 := R0.ext x33
  replace B2 := B2.ext x33
  replace B10 := B10.ext x33
  replace QR := QR.ext x33
  replace OC := OC.ext x33
  replace QK := QK.ext x33
  have zw33 := x33.size
  refine RS.storeAggB rfl rfl C27 (by decide) rfl rfl B33 rfl (fun w34 y34 N34 => ?_)
  replace hE := hE.trans (y34.belo)
  replace R0 := R0.sto y34
  replace B2 := B2.sto y34
  replace B10 := B10.sto y34
  replace QR := QR.sto y34
  replace OC := OC.st y34 (by intros; try (first | (intro _ _) | (intro _) | skip); first | omega | (have hq := hOC _ (by assumption); first | omega | (dsimp only at *; omega)))
  replace QK := QK.sto y34
  have zw34 := y34.size
  replace B33 := N34
  refine RS.asI rfl ?_
  refine RS.asI rfl ?_
  refine nl hK31 ?_
  refine wp_seq_k (fun K35 hK35 => ?_)
  refine sq fun K36 hK36 => ?_
  refine RS.mvI rfl ?_
  refine RS.o (D.ne rfl rfl) ?_
  refine nl hK36 ?_
  refine C.ifn rfl (fun c37 => ?_) (fun c37 => ?_)
  ·have hv := c37
   refine sq fun K38 hK38 => ?_
   refine RS.o (D.loadAgg rfl Tryz.underlying29 rfl C29 (by decide) rfl (B10.cellsN 6 rfl)) ?_
   refine RS.storeAggB rfl rfl C29 (by decide) rfl rfl B2 rfl (fun w39 y39 N39 => ?_)
   replace hE := hE.trans (y39.belo)
   replace R0 := R0.sto y39
   replace B10 := B10.sto y39
   replace QR := QR.sto y39
   replace OC := OC.st y39 (by intros; try (first | (intro _ _) | (intro _) | skip); first | omega | (have hq := hOC _ (by assumption); first | omega | (dsimp only at *; omega)))
   replace QK := QK.sto y39
   replace B33 := B33.sto y39
   have zw39 := y39.size
   replace B2 := N39
   refine RS.asS rfl ?_
   refine RS.asB rfl ?_
   refine nl hK38 ?_
   refine wp_ret ?_
   refine ret (rs := [.cell 2 29, .tmp 3, .tmp 4]) (vs := [.agg _, .slice _ _ _, .bool _]) (v := (.tuple #[.agg _, .slice _ _ _, .bool _])) rfl ⟨⟨_, rfl, loadVar_agg Tryz.underlying29 rfl C29 (by decide) rfl (B2.cellsN 6 rfl)⟩, rfl, rfl, trivial⟩ rfl ?_
   exact ⟨_, rfl, hE, _, ⟨0, 0, 0, strOfNums (S.ptS 20 1 r), .empty⟩, none, 0, 0, [], false, rfl, Nat.le_refl _, Nat.zero_le _, IRow.nil, (fun h => by cases h), fun _ k0 r0 hkr => by obtain ⟨rfl, rfl⟩ := List.cons.inj hkr; exact S.actR_f2 hk (S.keyR_ok hz) h4 (S.valV_no hv)⟩
  have hv := c37
  refine wp_skip ?_
  refine hK35 _ _ ?_
  refine sq fun K40 hK40 => ?_
  refine RS.o (D.loadAgg rfl Tryz.underlying27 rfl C27 (by decide) rfl (B33.cellsN 4 rfl)) ?_
  refine RS.o (D.fieldL 2 rfl Tryz.underlying29 rfl C27 (by decide) rfl) ?_
  refine RS.storeAggB rfl rfl C27 (by decide) rfl rfl B10 rfl (fun w41 y41 N41 => ?_)
  replace hE := hE.trans (y41.belo)
  replace R0 := R0.sto y41
  replace B2 := B2.sto y41
  replace QR := QR.sto y41
  replace OC := OC.st y41 (by intros; try (first | (intro _ _) | (intro _) | skip); first | omega | (have hq := hOC _ (by assumption); first | omega | (dsimp only at *; omega)))
  replace QK := QK.sto y41
  replace B33 := B33.sto y41
  have zw41 := y41.size
  replace B10 := N41
  refine nl hK40 ?_
  refine region ?_
  refine RS.mvS rfl ?_
  refine RS.mvI rfl ?_
  refine RS.o (D.slice (kl := .i64) (kh := .i64) rfl Tryz.underlying22 C5 (by decide) rfl rfl (by omega) (by omega)) ?_
  refine RS.asS rfl ?_
  refine nl hK28 ?_
  refine sq fun K42 hK42 => ?_
  refine RS.o (D.loadAgg rfl Tryz.underlying29 rfl C29 (by decide) rfl (B10.cellsN 6 rfl)) ?_
  refine RS.mvS rfl ?_
  refine RS.storeAggB rfl rfl C29 (by decide) rfl rfl B2 rfl (fun w43 y43 N43 => ?_)
  replace hE := hE.trans (y43.belo)
  replace R0 := R0.sto y43
  replace B10 := B10.sto y43
  replace QR := QR.sto y43
  replace OC := OC.st y43 (by intros; try (first | (intro _ _) | (intro _) | skip); first | omega | (have hq := hOC _ (by assumption); first | omega | (dsimp only at *; omega)))
  replace QK := QK.sto y43
  replace B33 := B33.sto y43
  have zw43 := y43.size
  replace B2 := N43
  refine RS.asS rfl ?_
  refine RS.asB rfl ?_
  refine nl hK42 ?_
  refine wp_ret ?_
  refine ret (rs := [.cell 2 29, .tmp 3, .tmp 4]) (vs := [.agg _, .slice _ _ _, .bool _]) (v := (.tuple #[.agg _, .slice _ _ _, .bool _])) rfl ⟨⟨_, rfl, loadVar_agg Tryz.underlying29 rfl C29 (by decide) rfl (B2.cellsN 6 rfl)⟩, rfl, rfl, trivial⟩ rfl ?_
  exact ⟨_, rfl, hE, k, ⟨(S.vdS (r.drop (S.ptU 20 1 r))).k, (S.vdS (r.drop (S.ptU 20 1 r))).num, (S.vdS (r.drop (S.ptU 20 1 r))).bits, strOfNums (S.ptS 20 1 r), (S.vdS (r.drop (S.ptU 20 1 r))).t⟩, _, _, _, _, true, rfl, by omega, by omega, QK.rest (S.vdS (r.drop (S.ptU 20 1 r))).u (c - 1 - S.ptU 20 1 r) (by omega) (by omega), fun _ => ⟨r, rfl, S.actR_s2 hk (S.keyR_ok hz) h4 (S.valV_ok hv)⟩, (fun h => by cases h)⟩
 have h4 := c30
 refine wp_skip ?_
 refine hK28 _ _ ?_
 refine sq fun K44 hK44 => ?_
 refine RS.o (D.loadAgg rfl Tryz.underlying29 rfl C29 (by decide) rfl (B10.cellsN 6 rfl)) ?_
 refine RS.mvS rfl ?_
 refine RS.storeAggB rfl rfl C29 (by decide) rfl rfl B2 rfl (fun w45 y45 N45 => ?_)
 replace hE := hE.trans (y45.belo)
 replace R0 := R0.sto y45
 replace B10 := B10.sto y45
 replace QR := QR.sto y45
 replace OC := OC.st y45 (by intros; try (first | (intro _ _) | (intro _) | skip); first | omega | (have hq := hOC _ (by assumption); first | omega | (dsimp only at *; omega)))
 replace QK := QK.sto y45
 have zw45 := y45.size
 replace B2 := N45
 refine RS.asS rfl ?_
 refine RS.asB rfl ?_
 refine nl hK44 ?_
 refine wp_ret ?_
 refine ret (rs := [.cell 2 29, .tmp 3, .tmp 4]) (vs := [.agg _, .slice _ _ _, .bool _]) (v := (.tuple #[.agg _, .slice _ _ _, .bool _])) rfl ⟨⟨_, rfl, loadVar_agg Tryz.underlying29 rfl C29 (by decide) rfl (B2.cellsN 6 rfl)⟩, rfl, rfl, trivial⟩ rfl ?_
 exact ⟨_, rfl, hE, k, ⟨0, 0, 0, strOfNums (S.ptS 20 1 r), .empty⟩, _, _, _, _, true, rfl, by omega, by omega, QK, fun _ => ⟨r, rfl, S.actR_s1 hk (S.keyR_ok hz) h4⟩, (fun h => by cases h)⟩
end Go.Proofs.YtiohpiiiapjblaaGreatDoor.W
namespace Go.Proofs.YtiohpiiiapjblaaGreatDoor.W
open Go.RowKit Go.Proofs.YtiohpiiiapjblaaGreatDoor.G
set_option linter.unusedVariables false
set_option maxRecDepth 20000
set_option maxHeartbeats 8000000
attribute [local irreducible] RS RX
theorem E47 : Enters Tryz.prog 47 := .mk Tryz.func47 (by kernel_rfl) rfl
theorem E48 : Enters Tryz.prog 48 := .mk Tryz.func48 (by kernel_rfl) rfl
theorem E50 : Enters Tryz.prog 50 := .mk Tryz.func50 (by kernel_rfl) rfl
theorem decodeOR {S0 : Nat → Prop} (a : Option Addr) (n c : Nat) (bs : List Int) (w : World) (R0 : IRow .u8 S0 w a n bs) (hc : n ≤ c) (hn : n ≤ 1000000) :
  Calls Tryz.prog 22 #[.slice a n c] w (Ret w fun v w' => ∃ a' c', v = .tuple #[.agg ([.int .u32 (S.decO bs).au, .slice a' (S.decO bs).n c', .int .u64 (S.decO bs).st, .int .u8 (S.decO bs).k, .string (S.decO bs).key, .int .u8 (S.decO bs).vk, .int .i64 (S.decO bs).num, .int .u64 (S.decO bs).bits, .string (S.decO bs).t, .int .u32 (S.decO bs).e, .int .u32 (S.decO bs).s] : List Value).toArray, .int .i64 (S.decE bs)] ∧ (S.decO bs).n ≤ c' ∧ WRow .u8 32 (fun k => w.heap.size ≤ k) w' a' (S.decO bs).n (S.decO bs).ids) := by
 replace R0 := R0.weaken (T := fun k => k < w.heap.size) (fun k hk _ => hk)
 have hbl := R0.len
 have hbd := R0.bd
 have hE := Ext.refl w
 refine enterU 113 Tryz.func22 rfl rfl ?_
 refine sq fun K1 hK1 => ?_
 refine RS.alloc T33 (fun b2 w2 e2 s2 x2 B2 => ?_)
 refine RS.nm ?_
 replace hE := Ext.tr hE x2
 replace R0 := R0.ext x2
 have zw2 := x2.size
 refine RS.asI rfl ?_
 refine nl hK1 ?_
 refine sq fun K3 hK3 => ?_
 refine RS.alloc T33 (fun b4 w4 e4 s4 x4 B4 => ?_)
 refine RS.nm ?_
 replace hE := Ext.tr hE x4
 replace R0 := R0.ext x4
 replace B2 := B2.ext x4
 have zw4 := x4.size
 refine nl hK3 ?_
 refine wp_seq_k (fun K5 hK5 => ?_)
 refine sq fun K6 hK6 => ?_
 refine RS.mvS rfl ?_
 refine RS.o (D.len rfl Tryz.underlying22) ?_
 refine RS.o (D.eq rfl rfl) ?_
 refine RS.mvB rfl ?_
 refine RS.splite 21 rfl rfl (fun c7 => ?_) (fun c7 => ?_)
 ·refine RS.nm ?_
  have hz := c7
  refine RS.skT 21 ?_
  refine RS.skT 21 ?_
  refine RS.skT 21 ?_
  refine RS.skT 21 ?_
  refine RS.pick (v := .bool true) rfl rfl ?_
  refine nl hK6 ?_
  refine C.ift rfl ?_
  refine sq fun K8 hK8 => ?_
  refine RS.o (D.loadAgg rfl Tryz.underlying33 rfl C33 (by decide) rfl (B4.cellsN 11 rfl)) ?_
  refine RS.storeAggB rfl rfl C33 (by decide) rfl rfl B2 rfl (fun w9 y9 N9 => ?_)
  replace hE := hE.trans (y9.belo)
  replace R0 := R0.sto y9
  replace B4 := B4.sto y9
  have zw9 := y9.size
  replace B2 := N9
  refine RS.asI rfl ?_
  refine nl hK8 ?_
  refine wp_ret ?_
  refine ret (rs := [.cell 2 33, .tmp 3]) (vs := [.agg _, .int _ _]) (v := (.tuple #[.agg _, .int _ _])) rfl ⟨⟨_, rfl, loadVar_agg Tryz.underlying33 rfl C33 (by decide) rfl (B2.cellsN 11 rfl)⟩, rfl, trivial⟩ rfl ?_
  obtain ⟨q1, q2⟩ := S.dec_none (S.dec_f0 (b := bs) (.inl (List.eq_nil_of_length_eq_zero (by omega))))
  rw [q1, q2]
  exact ⟨_, rfl, hE, _, _, rfl, Nat.le_refl _, WRow.nil⟩
 refine RS.nm ?_
 have hz := c7
 refine RS.wt 21 ?_
 refine RS.mvS rfl ?_
 refine RS.wt 21 ?_
 refine RS.idx R0 rfl rfl Tryz.underlying22 C5 (by omega) (fun b10 o10 v10 h10 q10 r10 => ?_)
 refine RS.nm ?_
 simp only [lim] at r10
 have q1 := q10
 refine RS.wt 21 ?_
 refine RS.o (D.load rfl Tryz.underlying5 rfl (h10)) ?_
 refine RS.wt 21 ?_
 refine RS.o (D.ne rfl rfl) ?_
 refine RS.pick (v := .bool _) rfl rfl ?_
 refine nl hK6 ?_
 refine C.ifn rfl (fun c11 => ?_) (fun c11 => ?_)
 ·have hne := c11
  refine sq fun K12 hK12 => ?_
  refine RS.o (D.loadAgg rfl Tryz.underlying33 rfl C33 (by decide) rfl (B4.cellsN 11 rfl)) ?_
  refine RS.storeAggB rfl rfl C33 (by decide) rfl rfl B2 rfl (fun w13 y13 N13 => ?_)
  replace hE := hE.trans (y13.belo)
  replace R0 := R0.sto y13
  replace B4 := B4.sto y13
  have zw13 := y13.size
  replace B2 := N13
  refine RS.asI rfl ?_
  refine nl hK12 ?_
  refine wp_ret ?_
  refine ret (rs := [.cell 2 33, .tmp 3]) (vs := [.agg _, .int _ _]) (v := (.tuple #[.agg _, .int _ _])) rfl ⟨⟨_, rfl, loadVar_agg Tryz.underlying33 rfl C33 (by decide) rfl (B2.cellsN 11 rfl)⟩, rfl, trivial⟩ rfl ?_
  obtain ⟨q1, q2⟩ := S.dec_none (S.dec_f0 (b := bs) (.inr (fun e => hne (q1.trans e))))
  rw [q1, q2]
  exact ⟨_, rfl, hE, _, _, rfl, Nat.le_refl _, WRow.nil⟩
 obtain ⟨b, rfl⟩ : ∃ b, bs = 111 :: b := by
  cases bs with
  | nil => simp at hbl; omega
  | cons x r => exact ⟨r, by rw [show x = 111 from q1.symm.trans c11]⟩
 rw [List.length_cons] at hbl
 have QB : IRow .u8 (fun k => k < w.heap.size) w4 (subA a 1 1 c) (n - 1) b := R0.rest 1 c (by omega) (by omega)
 refine wp_skip ?_
 refine hK5 _ _ ?_
 refine sq fun K14 hK14 => ?_
 refine RS.mvS rfl ?_
 refine RS.o (D.slice (kl := .i64) (kh := .i64) rfl Tryz.underlying22 C5 (by decide) rfl rfl (by omega) (by omega)) ?_
 refine RS.call E47 (shortR _ _ _ _ _ QB (by omega) (by omega)) rfl (fun v15 w15 x15 A15 => ?_)
 replace hE := Ext.tr hE x15
 replace R0 := R0.ext x15
 replace B2 := B2.ext x15
 replace B4 := B4.ext x15
 replace QB := QB.ext x15
 have zw15 := x15.size
 obtain ⟨m1, a1, n1, c1, l1, f1, rfl, hc1, hn1, Q1, y1, z1⟩ := A15
 refine RS.nm ?_
 refine RS.move (v := .tuple _) rfl ?_
 refine RS.extract (v := .int _ _) rfl rfl ?_
 refine RS.extract (v := .slice _ _ _) rfl rfl ?_
 refine RS.extract (v := .bool _) rfl rfl ?_
 refine RS.asI rfl ?_
 refine RS.asS rfl ?_
 refine RS.asB rfl ?_
 refine nl hK14 ?_
 refine wp_seq_k (fun K16 hK16 => ?_)
 refine sq fun K17 hK17 => ?_
 refine RS.mvB rfl ?_
 refine RS.o (D.not rfl) ?_
 refine nl hK17 ?_
 refine C.ifnot rfl (fun c18 => ?_) (fun c18 => ?_)
 ·have hf := c18
  refine sq fun K19 hK19 => ?_
  refine RS.o (D.loadAgg rfl Tryz.underlying33 rfl C33 (by decide) rfl (B4.cellsN 11 rfl)) ?_
  refine RS.storeAggB rfl rfl C33 (by decide) rfl rfl B2 rfl (fun w20 y20 N20 => ?_)
  replace hE := hE.trans (y20.belo)
  replace R0 := R0.sto y20
  replace B4 := B4.sto y20
  have zw20 := y20.size
  replace B2 := N20
  refine RS.asI rfl ?_
  refine nl hK19 ?_
  refine wp_ret ?_
  refine ret (rs := [.cell 2 33, .tmp 3]) (vs := [.agg _, .int _ _]) (v := (.tuple #[.agg _, .int _ _])) rfl ⟨⟨_, rfl, loadVar_agg Tryz.underlying33 rfl C33 (by decide) rfl (B2.cellsN 11 rfl)⟩, rfl, trivial⟩ rfl ?_
  have hd : S.decS (111 :: b) = none := by
   rcases z1 hf with hx | ⟨m', l', hx, hy⟩
   ·exact S.dec_f1 hx
   exact S.dec_big1 hbd hx hy
  obtain ⟨q1, q2⟩ := S.dec_none (hd)
  rw [q1, q2]
  exact ⟨_, rfl, hE, _, _, rfl, Nat.le_refl _, WRow.nil⟩
 obtain ⟨hm1, h1⟩ := y1 c18
 refine wp_skip ?_
 refine hK16 _ _ ?_
 refine sq fun K21 hK21 => ?_
 refine RS.mvS rfl ?_
 refine RS.call E48 (readIdsR _ _ _ _ 4 (by decide) _ Q1 hc1 (by omega)) rfl (fun v22 w22 x22 A22 => ?_)
 replace hE := Ext.tr hE x22
 replace R0 := R0.ext x22
 replace B2 := B2.ext x22
 replace B4 := B4.ext x22
 replace QB := QB.ext x22
 replace Q1 := Q1.ext x22
 have zw22 := x22.size
 obtain ⟨aL, cL, rfl, hcL, DL⟩ := A22
 have hidl := S.id_le Q1.bd
 have lQ1 := Q1.len
 replace DL := DL.weaken (T := fun k => b4 < k ∧ k < w22.heap.size) (fun k hk h => by omega)
 refine RS.nm ?_
 refine RS.move (v := .tuple _) rfl ?_
 refine RS.extract (v := .slice _ _ _) rfl rfl ?_
 refine RS.extract (v := .int _ _) rfl rfl ?_
 refine RS.extract (v := .int _ _) rfl rfl ?_
 refine RS.asS rfl ?_
 refine RS.asI rfl ?_
 refine RS.asI rfl ?_
 refine nl hK21 ?_
 refine wp_seq_k (fun K23 hK23 => ?_)
 refine sq fun K24 hK24 => ?_
 refine RS.mvI rfl ?_
 refine RS.o (D.ne rfl rfl) ?_
 refine nl hK24 ?_
 refine C.ifn rfl (fun c25 => ?_) (fun c25 => ?_)
 ·have hz := c25
  refine sq fun K26 hK26 => ?_
  refine RS.o (D.loadAgg rfl Tryz.underlying33 rfl C33 (by decide) rfl (B4.cellsN 11 rfl)) ?_
  refine RS.storeAggB rfl rfl C33 (by decide) rfl rfl B2 rfl (fun w27 y27 N27 => ?_)
  replace hE := hE.trans (y27.belo)
  replace R0 := R0.sto y27
  replace B4 := B4.sto y27
  replace DL := DL.sto y27
  have zw27 := y27.size
  replace B2 := N27
  refine RS.asI rfl ?_
  refine nl hK26 ?_
  refine wp_ret ?_
  refine ret (rs := [.cell 2 33, .tmp 3]) (vs := [.agg _, .int _ _]) (v := (.tuple #[.agg _, .int _ _])) rfl ⟨⟨_, rfl, loadVar_agg Tryz.underlying33 rfl C33 (by decide) rfl (B2.cellsN 11 rfl)⟩, rfl, trivial⟩ rfl ?_
  obtain ⟨q1, q2⟩ := S.dec_none (S.dec_f2 h1 (S.idsR_no hz))
  rw [q1, q2]
  exact ⟨_, rfl, hE, _, _, rfl, Nat.le_refl _, WRow.nil⟩
 have h2 := S.idsR_ok c25
 refine wp_skip ?_
 refine hK23 _ _ ?_
 refine sq fun K28 hK28 => ?_
 refine RS.mvS rfl ?_
 refine RS.mvI rfl ?_
 refine RS.o (D.slice (kl := .i64) (kh := .i64) rfl Tryz.underlying22 C5 (by decide) rfl rfl (by omega) (by omega)) ?_
 refine RS.asS rfl ?_
 refine nl hK28 ?_
 refine wp_seq_k (fun K29 hK29 => ?_)
 obtain ⟨l2, hl2⟩ : ∃ l2, l2 = l1.drop (S.idU 4 l1) := ⟨_, rfl⟩
 have Q2 := Q1.rest (S.idU 4 l1) c1 (by omega) (by omega)
 rw [← hl2] at Q2 h2
 have lQ2 := Q2.len
 refine region ?_
 refine RS.mvS rfl ?_
 refine RS.call E49 (readNR _ _ _ _ _ Q2 (by omega) (by omega)) rfl (fun v30 w30 x30 A30 => ?_)
 replace hE := Ext.tr hE x30
 replace R0 := R0.ext x30
 replace B2 := B2.ext x30
 replace B4 := B4.ext x30
 replace QB := QB.ext x30
 replace Q1 := Q1.ext x30
 replace DL := DL.ext x30
 replace Q2 := Q2.ext x30
 have zw30 := x30.size
 subst A30
 have hrd := S.rd_bd Q2.bd
 refine RS.nm ?_
 refine RS.move (v := .tuple _) rfl ?_
 refine RS.extract (v := .int _ _) rfl rfl ?_
 refine RS.extract (v := .int _ _) rfl rfl ?_
 refine RS.extract (v := .int _ _) rfl rfl ?_
 refine RS.asI rfl ?_
 refine RS.asI rfl ?_
 refine RS.asI rfl ?_
 refine nl hK29 ?_
 refine wp_seq_k (fun K31 hK31 => ?_)
 refine sq fun K32 hK32 => ?_
 refine RS.mvI rfl ?_
 refine RS.o (D.ne rfl rfl) ?_
 refine nl hK32 ?_
 refine C.ifn rfl (fun c33 => ?_) (fun c33 => ?_)
 ·have hz := c33
  refine sq fun K34 hK34 => ?_
  refine RS.o (D.loadAgg rfl Tryz.underlying33 rfl C33 (by decide) rfl (B4.cellsN 11 rfl)) ?_
  refine RS.storeAggB rfl rfl C33 (by decide) rfl rfl B2 rfl (fun w35 y35 N35 => ?_)
  replace hE := hE.trans (y35.belo)
  replace R0 := R0.sto y35
  replace B4 := B4.sto y35
  replace DL := DL.sto y35
  have zw35 := y35.size
  replace B2 := N35
  refine RS.asI rfl ?_
  refine nl hK34 ?_
  refine wp_ret ?_
  refine ret (rs := [.cell 2 33, .tmp 3]) (vs := [.agg _, .int _ _]) (v := (.tuple #[.agg _, .int _ _])) rfl ⟨⟨_, rfl, loadVar_agg Tryz.underlying33 rfl C33 (by decide) rfl (B2.cellsN 11 rfl)⟩, rfl, trivial⟩ rfl ?_
  obtain ⟨q1, q2⟩ := S.dec_none (S.dec_f3 h1 h2 (S.numR_no hz))
  rw [q1, q2]
  exact ⟨_, rfl, hE, _, _, rfl, Nat.le_refl _, WRow.nil⟩
 have h3 := S.numR_ok c33
 refine wp_skip ?_
 refine hK31 _ _ ?_
 refine wp_seq_k (fun K36 hK36 => ?_)
 have Q3 := Q2.rest (S.rdU l2) (c1 - S.idU 4 l1) (by omega) (by omega)
 refine region ?_
 refine RS.mvS rfl ?_
 refine RS.mvI rfl ?_
 refine RS.o (D.slice (kl := .i64) (kh := .i64) rfl Tryz.underlying22 C5 (by decide) rfl rfl (by omega) (by omega)) ?_
 refine RS.call E50 (actRf _ _ _ _ _ Q3 (by omega) (by omega)) rfl (fun v37 w37 x37 A37 => ?_)
 replace hE := Ext.tr hE x37
 replace R0 := R0.ext x37
 replace B2 := B2.ext x37
 replace B4 := B4.ext x37
 replace QB := QB.ext x37
 replace Q1 := Q1.ext x37
 replace DL := DL.ext x37
 replace Q2 := Q2.ext x37
 replace Q3 := Q3.ext x37
 have zw37 := x37.size
 obtain ⟨k4, x4, a4, n4, c4, l4, f4, rfl, hc4, hn4, Q4, y4, z4⟩ := A37
 have bQ3 := Q3.bd
 refine RS.nm ?_
 refine RS.move (v := .tuple _) rfl ?_
 refine RS.extract (v := .agg _) rfl rfl ?_
 refine RS.extract (v := .slice _ _ _) rfl rfl ?_
 refine RS.extract (v := .bool _) rfl rfl ?_
 refine RS.alloc T29 (fun b38 w38 e38 s38 x38 B38 => ?_)
 refine RS.nm ?_
 replace hE := Ext.tr hE x38
 replace R0 := R0.ext x38
 replace B2 := B2.ext x38
 replace B4 := B4.ext x38
 replace QB := QB.ext x38
 replace Q1 := Q1.ext x38
 replace DL := DL.ext x38
 replace Q2 := Q2.ext x38
 replace Q3 := Q3.ext x38
 replace Q4 := Q4.ext x38
 have zw38 := x38.size
 refine RS.storeAggB rfl rfl C29 (by decide) rfl rfl B38 rfl (fun w39 y39 N39 => ?_)
 replace hE := hE.trans (y39.belo)
 replace R0 := R0.sto y39
 replace B2 := B2.sto y39
 replace B4 := B4.sto y39
 replace QB := QB.sto y39
 replace Q1 := Q1.sto y39
 replace DL := DL.sto y39
 replace Q2 := Q2.sto y39
 replace Q3 := Q3.sto y39
 replace Q4 := Q4.sto y39
 have zw39 := y39.size
 replace B38 := N39
 refine RS.asS rfl ?_
 refine RS.asB rfl ?_
 refine nl hK36 ?_
 refine wp_seq_k (fun K40 hK40 => ?_)
 refine sq fun K41 hK41 => ?_
 refine RS.mvB rfl ?_
 refine RS.o (D.not rfl) ?_
 refine nl hK41 ?_
 refine C.ifnot rfl (fun c42 => ?_) (fun c42 => ?_)
 ·have hf := c42
  refine sq fun K43 hK43 => ?_
  refine RS.o (D.loadAgg rfl Tryz.underlying33 rfl C33 (by decide) rfl (B4.cellsN 11 rfl)) ?_
  refine RS.storeAggB rfl rfl C33 (by decide) rfl rfl B2 rfl (fun w44 y44 N44 => ?_)
  replace hE := hE.trans (y44.belo)
  replace R0 := R0.sto y44
  replace B4 := B4.sto y44
  replace DL := DL.sto y44
  replace B38 := B38.sto y44
  have zw44 := y44.size
  replace B2 := N44
  refine RS.asI rfl ?_
  refine nl hK43 ?_
  refine wp_ret ?_
  refine ret (rs := [.cell 2 33, .tmp 3]) (vs := [.agg _, .int _ _]) (v := (.tuple #[.agg _, .int _ _])) rfl ⟨⟨_, rfl, loadVar_agg Tryz.underlying33 rfl C33 (by decide) rfl (B2.cellsN 11 rfl)⟩, rfl, trivial⟩ rfl ?_
  obtain ⟨q1, q2⟩ := S.dec_none (S.dec_f4 h1 h2 h3 (z4 hf))
  rw [q1, q2]
  exact ⟨_, rfl, hE, _, _, rfl, Nat.le_refl _, WRow.nil⟩
 obtain ⟨r4, hr4, h4⟩ := y4 c42
 rw [hr4] at h3 bQ3
 have hk4 := bQ3 k4 List.mem_cons_self
 simp only [lim] at hk4
 have hsz := S.act_sz (fun y hy => bQ3 y (List.mem_cons_of_mem _ hy)) h4
 refine wp_skip ?_
 refine hK40 _ _ ?_
 refine sq fun K45 hK45 => ?_
 refine RS.mvS rfl ?_
 refine RS.call E47 (shortR _ _ _ _ _ Q4 hc4 (by omega)) rfl (fun v46 w46 x46 A46 => ?_)
 replace hE := Ext.tr hE x46
 replace R0 := R0.ext x46
 replace B2 := B2.ext x46
 replace B4 := B4.ext x46
 replace QB := QB.ext x46
 replace Q1 := Q1.ext x46
 replace DL := DL.ext x46
 replace Q2 := Q2.ext x46
 replace Q3 := Q3.ext x46
 replace Q4 := Q4.ext x46
 replace B38 := B38.ext x46
 have zw46 := x46.size
 obtain ⟨m5, a5, n5, c5, l5, f5, rfl, hc5, hn5, Q5, y5, z5⟩ := A46
 refine RS.nm ?_
 refine RS.move (v := .tuple _) rfl ?_
 refine RS.extract (v := .int _ _) rfl rfl ?_
 refine RS.extract (v := .slice _ _ _) rfl rfl ?_
 refine RS.extract (v := .bool _) rfl rfl ?_
 refine RS.asI rfl ?_
 refine RS.asS rfl ?_
 refine RS.asB rfl ?_
 refine nl hK45 ?_
 refine wp_seq_k (fun K47 hK47 => ?_)
 refine sq fun K48 hK48 => ?_
 refine RS.mvB rfl ?_
 refine RS.o (D.not rfl) ?_
 refine nl hK48 ?_
 refine C.ifnot rfl (fun c49 => ?_) (fun c49 => ?_)
 ·have hf := c49
  refine sq fun K50 hK50 => ?_
  refine RS.o (D.loadAgg rfl Tryz.underlying33 rfl C33 (by decide) rfl (B4.cellsN 11 rfl)) ?_
  refine RS.storeAggB rfl rfl C33 (by decide) rfl rfl B2 rfl (fun w51 y51 N51 => ?_)
  replace hE := hE.trans (y51.belo)
  replace R0 := R0.sto y51
  replace B4 := B4.sto y51
  replace DL := DL.sto y51
  replace B38 := B38.sto y51
  have zw51 := y51.size
  replace B2 := N51
  refine RS.asI rfl ?_
  refine nl hK50 ?_
  refine wp_ret ?_
  refine ret (rs := [.cell 2 33, .tmp 3]) (vs := [.agg _, .int _ _]) (v := (.tuple #[.agg _, .int _ _])) rfl ⟨⟨_, rfl, loadVar_agg Tryz.underlying33 rfl C33 (by decide) rfl (B2.cellsN 11 rfl)⟩, rfl, trivial⟩ rfl ?_
  have hd : S.decS (111 :: b) = none := by
   rcases z5 hf with hx | ⟨m', l', hx, hy⟩
   ·exact S.dec_f5 h1 h2 h3 h4 hx
   exact S.dec_big5 hbd h1 h2 h3 h4 hx hy
  obtain ⟨q1, q2⟩ := S.dec_none (hd)
  rw [q1, q2]
  exact ⟨_, rfl, hE, _, _, rfl, Nat.le_refl _, WRow.nil⟩
 obtain ⟨hm5, h5⟩ := y5 c49
 refine wp_skip ?_
 refine hK47 _ _ ?_
 refine sq fun K52 hK52 => ?_
 refine RS.mvS rfl ?_
 refine RS.call E47 (shortR _ _ _ _ _ Q5 hc5 (by omega)) rfl (fun v53 w53 x53 A53 => ?_)
 replace hE := Ext.tr hE x53
 replace R0 := R0.ext x53
 replace B2 := B2.ext x53
 replace B4 := B4.ext x53
 replace QB := QB.ext x53
 replace Q1 := Q1.ext x53
 replace DL := DL.ext x53
 replace Q2 := Q2.ext x53
 replace Q3 := Q3.ext x53
 replace Q4 := Q4.ext x53
 replace B38 := B38.ext x53
 replace Q5 := Q5.ext x53
 have zw53 := x53.size
 obtain ⟨m6, a6, n6, c6, l6, f6, rfl, hc6, hn6, Q6, y6, z6⟩ := A53
 refine RS.nm ?_
 refine RS.move (v := .tuple _) rfl ?_
 refine RS.extract (v := .int _ _) rfl rfl ?_
 refine RS.extract (v := .slice _ _ _) rfl rfl ?_
 refine RS.extract (v := .bool _) rfl rfl ?_
 refine RS.asI rfl ?_
 refine RS.asS rfl ?_
 refine RS.asB rfl ?_
 refine nl hK52 ?_
 refine wp_seq_k (fun K54 hK54 => ?_)
 have lQ6 := Q6.len
 refine region ?_
 refine RS.mvI rfl ?_
 refine RS.mvS rfl ?_
 refine RS.mvI rfl ?_
 refine RS.o (D.loadAgg rfl Tryz.underlying29 rfl C29 (by decide) rfl (B38.cellsN 6 rfl)) ?_
 refine RS.mvI rfl ?_
 refine RS.mvI rfl ?_
 refine RS.o (D.buildS T31 F31 (ps := [(0, .int _ _), (1, .int _ _)]) rfl rfl) ?_
 refine RS.o (D.buildS T33 F33 (ps := [(0, .int _ _), (1, .slice _ _ _), (2, .int _ _), (3, .agg _), (4, .agg _)]) rfl rfl) ?_
 refine RS.alloc T33 (fun b55 w55 e55 s55 x55 B55 => ?_)
 refine RS.nm ?_
 replace hE := Ext.tr hE x55
 replace R0 := R0.ext x55
 replace B2 := B2.ext x55
 replace B4 := B4.ext x55
 replace QB := QB.ext x55
 replace DL := DL.ext x55
 replace B38 := B38.ext x55
 have zw55 := x55.size
 refine RS.storeAggB rfl rfl C33 (by decide) rfl rfl B55 rfl (fun w56 y56 N56 => ?_)
 replace hE := hE.trans (y56.belo)
 replace R0 := R0.sto y56
 replace B2 := B2.sto y56
 replace B4 := B4.sto y56
 replace QB := QB.sto y56
 replace DL := DL.sto y56
 replace B38 := B38.sto y56
 have zw56 := y56.size
 replace B55 := N56
 refine nl hK54 ?_
 refine wp_seq_k (fun K57 hK57 => ?_)
 refine sq fun K58 hK58 => ?_
 refine RS.mvB rfl ?_
 refine RS.o (D.not rfl) ?_
 refine RS.mvB rfl ?_
 refine RS.splitnot 95 rfl rfl (fun c59 => ?_) (fun c59 => ?_)
 ·refine RS.nm ?_
  have hf := c59
  refine RS.skT 95 ?_
  refine RS.skT 95 ?_
  refine RS.skT 95 ?_
  refine RS.pick (v := .bool true) rfl rfl ?_
  refine RS.mvB rfl ?_
  refine RS.skT 100 ?_
  refine RS.skT 100 ?_
  refine RS.skT 100 ?_
  refine RS.pick (v := .bool true) rfl rfl ?_
  refine RS.mvB rfl ?_
  refine RS.skT 105 ?_
  refine RS.skT 105 ?_
  refine RS.skT 105 ?_
  refine RS.skT 105 ?_
  refine RS.skT 105 ?_
  refine RS.pick (v := .bool true) rfl rfl ?_
  refine nl hK58 ?_
  refine C.ift rfl ?_
  refine sq fun K60 hK60 => ?_
  refine RS.o (D.loadAgg rfl Tryz.underlying33 rfl C33 (by decide) rfl (B4.cellsN 11 rfl)) ?_
  refine RS.storeAggB rfl rfl C33 (by decide) rfl rfl B2 rfl (fun w61 y61 N61 => ?_)
  replace hE := hE.trans (y61.belo)
  replace R0 := R0.sto y61
  replace B4 := B4.sto y61
  replace QB := QB.sto y61
  replace DL := DL.sto y61
  replace B38 := B38.sto y61
  replace B55 := B55.sto y61
  have zw61 := y61.size
  replace B2 := N61
  refine RS.asI rfl ?_
  refine nl hK60 ?_
  refine wp_ret ?_
  refine ret (rs := [.cell 2 33, .tmp 3]) (vs := [.agg _, .int _ _]) (v := (.tuple #[.agg _, .int _ _])) rfl ⟨⟨_, rfl, loadVar_agg Tryz.underlying33 rfl C33 (by decide) rfl (B2.cellsN 11 rfl)⟩, rfl, trivial⟩ rfl ?_
  have hd : S.decS (111 :: b) = none := by
   rcases z6 hf with hx | ⟨m', l', hx, hy⟩
   ·exact S.dec_f6 h1 h2 h3 h4 h5 hx
   exact S.dec_big6 hbd h1 h2 h3 h4 h5 hx hy
  obtain ⟨q1, q2⟩ := S.dec_none (hd)
  rw [q1, q2]
  exact ⟨_, rfl, hE, _, _, rfl, Nat.le_refl _, WRow.nil⟩
 refine RS.nm ?_
 obtain ⟨hm6, h6⟩ := y6 c59
 have hok : (⟨m1, S.rdV l2, k4, x4.vk, x4.num, x4.bits, m5, m6, S.idN 4 l1, S.idL 4 l1, x4.key, x4.t⟩ : S.OpV).ok := ⟨hm1, hrd.1, hk4, hsz.1, hsz.2.1, hsz.2.2.1, hm5, hm6, by show S.idN 4 l1 ≤ 20; omega, by show x4.key.size ≤ 100; omega, by show x4.t.size ≤ 100; omega⟩
 refine RS.wt 95 ?_
 refine RS.mvS rfl ?_
 refine RS.wt 95 ?_
 refine RS.o (D.len rfl Tryz.underlying22) ?_
 refine RS.wt 95 ?_
 refine RS.o (D.gt rfl rfl) ?_
 refine RS.pick (v := .bool _) rfl rfl ?_
 refine RS.mvB rfl ?_
 refine RS.splitd 100 rfl rfl (fun c62 => ?_) (fun c62 => ?_)
 ·refine RS.nm ?_
  have hr := c62
  refine RS.skT 100 ?_
  refine RS.skT 100 ?_
  refine RS.skT 100 ?_
  refine RS.pick (v := .bool true) rfl rfl ?_
  refine RS.mvB rfl ?_
  refine RS.skT 105 ?_
  refine RS.skT 105 ?_
  refine RS.skT 105 ?_
  refine RS.skT 105 ?_
  refine RS.skT 105 ?_
  refine RS.pick (v := .bool true) rfl rfl ?_
  refine nl hK58 ?_
  refine C.ift rfl ?_
  refine sq fun K63 hK63 => ?_
  refine RS.o (D.loadAgg rfl Tryz.underlying33 rfl C33 (by decide) rfl (B4.cellsN 11 rfl)) ?_
  refine RS.storeAggB rfl rfl C33 (by decide) rfl rfl B2 rfl (fun w64 y64 N64 => ?_)
  replace hE := hE.trans (y64.belo)
  replace R0 := R0.sto y64
  replace B4 := B4.sto y64
  replace QB := QB.sto y64
  replace DL := DL.sto y64
  replace B38 := B38.sto y64
  replace B55 := B55.sto y64
  have zw64 := y64.size
  replace B2 := N64
  refine RS.asI rfl ?_
  refine nl hK63 ?_
  refine wp_ret ?_
  refine ret (rs := [.cell 2 33, .tmp 3]) (vs := [.agg _, .int _ _]) (v := (.tuple #[.agg _, .int _ _])) rfl ⟨⟨_, rfl, loadVar_agg Tryz.underlying33 rfl C33 (by decide) rfl (B2.cellsN 11 rfl)⟩, rfl, trivial⟩ rfl ?_
  obtain ⟨q1, q2⟩ := S.dec_none (S.dec_f7 h1 h2 h3 h4 h5 h6 (fun h => by rw [h.1] at lQ6; simp at lQ6; omega))
  rw [q1, q2]
  exact ⟨_, rfl, hE, _, _, rfl, Nat.le_refl _, WRow.nil⟩
 refine RS.nm ?_
 have hl6 : l6 = [] := List.eq_nil_of_length_eq_zero (by omega)
 refine RS.wt 100 ?_
 refine RS.o (D.loadAgg rfl Tryz.underlying33 rfl C33 (by decide) rfl (B55.cellsN 11 rfl)) ?_
 refine RS.wt 100 ?_
 refine RS.call E33 (checkOR ⟨m1, S.rdV l2, k4, x4.vk, x4.num, x4.bits, m5, m6, S.idN 4 l1, S.idL 4 l1, x4.key, x4.t⟩ hok _ _ _ DL hcL) rfl (fun v65 w65 x65 A65 => ?_)
 replace hE := Ext.tr hE x65
 replace R0 := R0.ext x65
 replace B2 := B2.ext x65
 replace B4 := B4.ext x65
 replace QB := QB.ext x65
 replace DL := DL.ext x65
 replace B38 := B38.ext x65
 replace B55 := B55.ext x65
 have zw65 := x65.size
 subst A65
 refine RS.nm ?_
 refine RS.wt 100 ?_
 refine RS.o (D.ne rfl rfl) ?_
 refine RS.pick (v := .bool _) rfl rfl ?_
 refine RS.mvB rfl ?_
 refine RS.splitn 105 rfl rfl (fun c66 => ?_) (fun c66 => ?_)
 ·refine RS.nm ?_
  have hz := c66
  refine RS.skT 105 ?_
  refine RS.skT 105 ?_
  refine RS.skT 105 ?_
  refine RS.skT 105 ?_
  refine RS.skT 105 ?_
  refine RS.pick (v := .bool true) rfl rfl ?_
  refine nl hK58 ?_
  refine C.ift rfl ?_
  refine sq fun K67 hK67 => ?_
  refine RS.o (D.loadAgg rfl Tryz.underlying33 rfl C33 (by decide) rfl (B4.cellsN 11 rfl)) ?_
  refine RS.storeAggB rfl rfl C33 (by decide) rfl rfl B2 rfl (fun w68 y68 N68 => ?_)
  replace hE := hE.trans (y68.belo)
  replace R0 := R0.sto y68
  replace B4 := B4.sto y68
  replace QB := QB.sto y68
  replace DL := DL.sto y68
  replace B38 := B38.sto y68
  replace B55 := B55.sto y68
  have zw68 := y68.size
  replace B2 := N68
  refine RS.asI rfl ?_
  refine nl hK67 ?_
  refine wp_ret ?_
  refine ret (rs := [.cell 2 33, .tmp 3]) (vs := [.agg _, .int _ _]) (v := (.tuple #[.agg _, .int _ _])) rfl ⟨⟨_, rfl, loadVar_agg Tryz.underlying33 rfl C33 (by decide) rfl (B2.cellsN 11 rfl)⟩, rfl, trivial⟩ rfl ?_
  obtain ⟨q1, q2⟩ := S.dec_none (S.dec_f7 h1 h2 h3 h4 h5 h6 (fun h => hz h.2))
  rw [q1, q2]
  exact ⟨_, rfl, hE, _, _, rfl, Nat.le_refl _, WRow.nil⟩
 refine RS.nm ?_
 have hz := c66
 have hck := S.check_zero.1 hz
 have hds := S.dec_s7 h1 h2 h3 h4 h5 h6 ⟨hl6, hz⟩
 have hin := S.dec_inv hbd hds
 refine RS.wt 105 ?_
 refine RS.o (D.loadAgg rfl Tryz.underlying33 rfl C33 (by decide) rfl (B55.cellsN 11 rfl)) ?_
 refine RS.wt 105 ?_
 refine RS.call E51 (bytesOR ⟨m1, S.rdV l2, k4, x4.vk, x4.num, x4.bits, m5, m6, S.idN 4 l1, S.idL 4 l1, x4.key, x4.t⟩ hok _ _ _ DL hcL hck.1 (S.fine4 hck.2.2.2.2.2.2)) rfl (fun v69 w69 x69 A69 => ?_)
 replace hE := Ext.tr hE x69
 replace R0 := R0.ext x69
 replace B2 := B2.ext x69
 replace B4 := B4.ext x69
 replace QB := QB.ext x69
 replace DL := DL.ext x69
 replace B38 := B38.ext x69
 replace B55 := B55.ext x69
 have zw69 := x69.size
 obtain ⟨aB, nB, cB, rfl, OB⟩ := A69
 have hOB := OB.lo
 have lOB := OB.len
 refine RS.nm ?_
 refine RS.wt 105 ?_
 refine RS.mvS rfl ?_
 refine RS.wt 105 ?_
 refine RS.call E18 (sameBytes _ _ _ _ _ _ _ _ _ OB.row R0 (by rw [← lOB, ← hin.2.2.2, List.length_cons]; omega) (by omega)) rfl (fun v70 w70 x70 A70 => ?_)
 replace hE := Ext.tr hE x70
 replace R0 := R0.ext x70
 replace B2 := B2.ext x70
 replace B4 := B4.ext x70
 replace QB := QB.ext x70
 replace DL := DL.ext x70
 replace B38 := B38.ext x70
 replace B55 := B55.ext x70
 replace OB := OB.ext x70
 have zw70 := x70.size
 subst A70
 refine RS.nm ?_
 refine RS.wt 105 ?_
 refine RS.o (D.not rfl) ?_
 refine RS.pick (v := .bool _) rfl rfl ?_
 refine nl hK58 ?_
 refine C.ifnot rfl (fun c71 => ?_) (fun c71 => ?_)
 ·exact absurd hin.2.2.2.symm (of_decide_eq_false c71)
 refine wp_skip ?_
 refine hK57 _ _ ?_
 refine sq fun K72 hK72 => ?_
 refine RS.o (D.loadAgg rfl Tryz.underlying33 rfl C33 (by decide) rfl (B55.cellsN 11 rfl)) ?_
 refine RS.storeAggB rfl rfl C33 (by decide) rfl rfl B2 rfl (fun w73 y73 N73 => ?_)
 replace hE := hE.trans (y73.belo)
 replace R0 := R0.sto y73
 replace B4 := B4.sto y73
 replace QB := QB.sto y73
 replace DL := DL.sto y73
 replace B38 := B38.sto y73
 replace B55 := B55.sto y73
 replace OB := OB.st y73 (by intros; try (first | (intro _ _) | (intro _) | skip); first | omega | (have hq := hOB _ (by assumption); first | omega | (dsimp only at *; omega)))
 have zw73 := y73.size
 replace B2 := N73
 refine RS.asI rfl ?_
 refine nl hK72 ?_
 refine wp_ret ?_
 refine ret (rs := [.cell 2 33, .tmp 3]) (vs := [.agg _, .int _ _]) (v := (.tuple #[.agg _, .int _ _])) rfl ⟨⟨_, rfl, loadVar_agg Tryz.underlying33 rfl C33 (by decide) rfl (B2.cellsN 11 rfl)⟩, rfl, trivial⟩ rfl ?_
 obtain ⟨q1, q2⟩ := S.dec_some hds
 rw [q1, q2]
 exact ⟨_, rfl, hE, _, _, rfl, hcL, DL.weaken (fun k _ h => by omega)⟩
end Go.Proofs.YtiohpiiiapjblaaGreatDoor.W
namespace Go.Proofs.YtiohpiiiapjblaaGreatDoor.S
open G
theorem jdO_ok {b : List Int} (hB : Bd .u8 b) : (jdO b).ok ∧ (jdO b).ids.length = 32 * (jdO b).n := by
  unfold jdO
  split
  · exact decO_ok hB
  · exact ⟨OpV.zero_ok, rfl⟩
end Go.Proofs.YtiohpiiiapjblaaGreatDoor.S
namespace Go.Proofs.YtiohpiiiapjblaaGreatDoor.W
open Go.RowKit Go.Proofs.YtiohpiiiapjblaaGreatDoor.G
set_option linter.unusedVariables false
set_option maxRecDepth 20000
set_option maxHeartbeats 8000000
attribute [local irreducible] RS RX
theorem E9 : Enters Tryz.prog 9 := .mk Tryz.func9 (by kernel_rfl) rfl
theorem E15 : Enters Tryz.prog 15 := .mk Tryz.func15 (by kernel_rfl) rfl
theorem E22 : Enters Tryz.prog 22 := .mk Tryz.func22 (by kernel_rfl) rfl
theorem E36 : Enters Tryz.prog 36 := .mk Tryz.func36 (by kernel_rfl) rfl
theorem judgeOfR {S0 : Nat → Prop} (a : Option Addr) (n c : Nat) (bs : List Int) (w : World) (R0 : IRow .u8 S0 w a n bs) (hc : n ≤ c) (hn : n ≤ 1000000) :
  Calls Tryz.prog 9 #[.slice a n c] w (Ret w fun v w' => ∃ a' c', v = .tuple #[.agg ([.int .u32 (S.jdO bs).au, .slice a' (S.jdO bs).n c', .int .u64 (S.jdO bs).st, .int .u8 (S.jdO bs).k, .string (S.jdO bs).key, .int .u8 (S.jdO bs).vk, .int .i64 (S.jdO bs).num, .int .u64 (S.jdO bs).bits, .string (S.jdO bs).t, .int .u32 (S.jdO bs).e, .int .u32 (S.jdO bs).s] : List Value).toArray, .agg (ints .u8 (S.jdI bs)).toArray, .int .u8 (S.jdV bs)] ∧ (S.jdO bs).n ≤ c' ∧ WRow .u8 32 (fun k => w.heap.size ≤ k) w' a' (S.jdO bs).n (S.jdO bs).ids) := by
 replace R0 := R0.weaken (T := fun k => k < w.heap.size) (fun k hk _ => hk)
 have hbl := R0.len
 have hbd := R0.bd
 have hE := Ext.refl w
 refine enterU 28 Tryz.func9 rfl rfl ?_
 refine sq fun K1 hK1 => ?_
 refine RS.alloc T33 (fun b2 w2 e2 s2 x2 B2 => ?_)
 refine RS.nm ?_
 replace hE := Ext.tr hE x2
 replace R0 := R0.ext x2
 have zw2 := x2.size
 refine RS.alloc T35 (fun b3 w3 e3 s3 x3 B3 => ?_)
 refine RS.nm ?_
 replace hE := Ext.tr hE x3
 replace R0 := R0.ext x3
 replace B2 := B2.ext x3
 have zw3 := x3.size
 have A3 : IArr .u8 w3 b3 32 (List.replicate 32 0) [] 35 := IArr.zero B3
 clear B3
 refine RS.asI rfl ?_
 refine nl hK1 ?_
 refine wp_seq_k (fun K4 hK4 => ?_)
 refine sq fun K5 hK5 => ?_
 refine RS.mvS rfl ?_
 refine RS.o (D.len rfl Tryz.underlying22) ?_
 refine RS.o (D.gt rfl rfl) ?_
 refine nl hK5 ?_
 refine C.ifd rfl (fun c6 => ?_) (fun c6 => ?_)
 ·have hg := c6
  have hv := S.jd_long (b := bs) (by omega)
  refine sq fun K7 hK7 => ?_
  refine RS.o (D.buildS T33 F33 (ps := []) rfl rfl) ?_
  refine RS.o (D.build0 Tryz.underlying35 T35 C5) ?_
  refine RS.storeAggB rfl rfl C33 (by decide) rfl rfl B2 rfl (fun w8 y8 N8 => ?_)
  replace hE := hE.trans (y8.belo)
  replace R0 := R0.sto y8
  replace A3 := A3.sto y8
  have zw8 := y8.size
  replace B2 := N8
  refine RS.storeArr A3 rfl rfl C35 (by decide) (Arr.zeros .u8 32).1 (Arr.zeros .u8 32).2 (fun w9 y9 N9 => ?_)
  replace hE := hE.trans (y9.belo)
  replace R0 := R0.sto y9
  replace B2 := B2.sto y9
  have zw9 := y9.size
  replace A3 := N9
  refine RS.asI rfl ?_
  refine nl hK7 ?_
  refine wp_ret ?_
  refine ret (rs := [.cell 2 33, .cell 3 35, .tmp 4]) (vs := [.agg _, .agg _, .int _ _]) (v := (.tuple #[.agg _, .agg _, .int _ _])) rfl ⟨⟨_, rfl, loadVar_agg Tryz.underlying33 rfl C33 (by decide) rfl (B2.cellsN 11 rfl)⟩, ⟨_, rfl, loadVar_agg Tryz.underlying35 rfl C35 (by decide) (by rw [ints_length, A3.len]) A3.cells⟩, rfl, trivial⟩ rfl ?_
  obtain ⟨e1, e2⟩ := S.jd_ne (b := bs) (by rw [hv]; decide)
  rw [e1, e2, hv]
  exact ⟨_, rfl, hE, _, _, rfl, Nat.le_refl _, WRow.nil⟩
 have hg := c6
 refine wp_skip ?_
 refine hK4 _ _ ?_
 refine sq fun K10 hK10 => ?_
 refine RS.mvS rfl ?_
 refine RS.call E22 (decodeOR _ _ _ _ _ R0 hc hn) rfl (fun v11 w11 x11 A11 => ?_)
 replace hE := Ext.tr hE x11
 replace R0 := R0.ext x11
 replace B2 := B2.ext x11
 replace A3 := A3.ext x11
 have zw11 := x11.size
 obtain ⟨aD, cD, rfl, hcD, DD⟩ := A11
 obtain ⟨hok, hdl⟩ := S.decO_ok hbd
 replace DD := DD.weaken (T := fun k => b3 < k ∧ k < w11.heap.size) (fun k hk h => by omega)
 refine RS.nm ?_
 refine RS.move (v := .tuple _) rfl ?_
 refine RS.extract (v := .agg _) rfl rfl ?_
 refine RS.extract (v := .int _ _) rfl rfl ?_
 refine RS.alloc T33 (fun b12 w12 e12 s12 x12 B12 => ?_)
 refine RS.nm ?_
 replace hE := Ext.tr hE x12
 replace R0 := R0.ext x12
 replace B2 := B2.ext x12
 replace A3 := A3.ext x12
 replace DD := DD.ext x12
 have zw12 := x12.size
 refine RS.storeAggB rfl rfl C33 (by decide) rfl rfl B12 rfl (fun w13 y13 N13 => ?_)
 replace hE := hE.trans (y13.belo)
 replace R0 := R0.sto y13
 replace B2 := B2.sto y13
 replace A3 := A3.sto y13
 replace DD := DD.sto y13
 have zw13 := y13.size
 replace B12 := N13
 refine RS.asI rfl ?_
 refine nl hK10 ?_
 refine wp_seq_k (fun K14 hK14 => ?_)
 refine sq fun K15 hK15 => ?_
 refine RS.mvI rfl ?_
 refine RS.o (D.ne rfl rfl) ?_
 refine nl hK15 ?_
 refine C.ifn rfl (fun c16 => ?_) (fun c16 => ?_)
 ·have hz := c16
  have hv := S.jd_form (b := bs) (by omega) hz
  refine sq fun K17 hK17 => ?_
  refine RS.o (D.buildS T33 F33 (ps := []) rfl rfl) ?_
  refine RS.o (D.build0 Tryz.underlying35 T35 C5) ?_
  refine RS.storeAggB rfl rfl C33 (by decide) rfl rfl B2 rfl (fun w18 y18 N18 => ?_)
  replace hE := hE.trans (y18.belo)
  replace R0 := R0.sto y18
  replace A3 := A3.sto y18
  replace DD := DD.sto y18
  replace B12 := B12.sto y18
  have zw18 := y18.size
  replace B2 := N18
  refine RS.storeArr A3 rfl rfl C35 (by decide) (Arr.zeros .u8 32).1 (Arr.zeros .u8 32).2 (fun w19 y19 N19 => ?_)
  replace hE := hE.trans (y19.belo)
  replace R0 := R0.sto y19
  replace B2 := B2.sto y19
  replace DD := DD.sto y19
  replace B12 := B12.sto y19
  have zw19 := y19.size
  replace A3 := N19
  refine RS.asI rfl ?_
  refine nl hK17 ?_
  refine wp_ret ?_
  refine ret (rs := [.cell 2 33, .cell 3 35, .tmp 4]) (vs := [.agg _, .agg _, .int _ _]) (v := (.tuple #[.agg _, .agg _, .int _ _])) rfl ⟨⟨_, rfl, loadVar_agg Tryz.underlying33 rfl C33 (by decide) rfl (B2.cellsN 11 rfl)⟩, ⟨_, rfl, loadVar_agg Tryz.underlying35 rfl C35 (by decide) (by rw [ints_length, A3.len]) A3.cells⟩, rfl, trivial⟩ rfl ?_
  obtain ⟨e1, e2⟩ := S.jd_ne (b := bs) (by rw [hv]; decide)
  rw [e1, e2, hv]
  exact ⟨_, rfl, hE, _, _, rfl, Nat.le_refl _, WRow.nil⟩
 have hz := c16
 have hck := (S.dec_good hbd hz).1
 have hve : S.verE (S.decO bs) = S.verS (S.decO bs).au (S.msgS (S.decO bs)) (S.decO bs).e (S.decO bs).s := by unfold S.verE; rw [if_pos hck]
 refine wp_skip ?_
 refine hK14 _ _ ?_
 refine wp_seq_k (fun K20 hK20 => ?_)
 refine sq fun K21 hK21 => ?_
 refine RS.o (D.loadAgg rfl Tryz.underlying33 rfl C33 (by decide) rfl (B12.cellsN 11 rfl)) ?_
 refine RS.call E35 (signedOR _ hok _ _ _ DD hcD hck) rfl (fun v22 w22 x22 A22 => ?_)
 replace hE := Ext.tr hE x22
 replace R0 := R0.ext x22
 replace B2 := B2.ext x22
 replace A3 := A3.ext x22
 replace DD := DD.ext x22
 replace B12 := B12.ext x22
 have zw22 := x22.size
 subst A22
 refine RS.nm ?_
 refine RS.o (D.not rfl) ?_
 refine nl hK21 ?_
 refine C.ifnot rfl (fun c23 => ?_) (fun c23 => ?_)
 ·have hv := S.jd_sig (b := bs) (by omega) hz (by rw [hve]; exact of_decide_eq_false c23)
  refine sq fun K24 hK24 => ?_
  refine RS.o (D.buildS T33 F33 (ps := []) rfl rfl) ?_
  refine RS.o (D.build0 Tryz.underlying35 T35 C5) ?_
  refine RS.storeAggB rfl rfl C33 (by decide) rfl rfl B2 rfl (fun w25 y25 N25 => ?_)
  replace hE := hE.trans (y25.belo)
  replace R0 := R0.sto y25
  replace A3 := A3.sto y25
  replace DD := DD.sto y25
  replace B12 := B12.sto y25
  have zw25 := y25.size
  replace B2 := N25
  refine RS.storeArr A3 rfl rfl C35 (by decide) (Arr.zeros .u8 32).1 (Arr.zeros .u8 32).2 (fun w26 y26 N26 => ?_)
  replace hE := hE.trans (y26.belo)
  replace R0 := R0.sto y26
  replace B2 := B2.sto y26
  replace DD := DD.sto y26
  replace B12 := B12.sto y26
  have zw26 := y26.size
  replace A3 := N26
  refine RS.asI rfl ?_
  refine nl hK24 ?_
  refine wp_ret ?_
  refine ret (rs := [.cell 2 33, .cell 3 35, .tmp 4]) (vs := [.agg _, .agg _, .int _ _]) (v := (.tuple #[.agg _, .agg _, .int _ _])) rfl ⟨⟨_, rfl, loadVar_agg Tryz.underlying33 rfl C33 (by decide) rfl (B2.cellsN 11 rfl)⟩, ⟨_, rfl, loadVar_agg Tryz.underlying35 rfl C35 (by decide) (by rw [ints_length, A3.len]) A3.cells⟩, rfl, trivial⟩ rfl ?_
  obtain ⟨e1, e2⟩ := S.jd_ne (b := bs) (by rw [hv]; decide)
  rw [e1, e2, hv]
  exact ⟨_, rfl, hE, _, _, rfl, Nat.le_refl _, WRow.nil⟩
 have hv := S.jd_fine (b := bs) (by omega) hz (by rw [hve]; exact of_decide_eq_true c23)
 obtain ⟨e1, e2⟩ := S.jd_zero hv
 have hsh := S.sha_arr (S.encS (S.decO bs))
 refine wp_skip ?_
 refine hK20 _ _ ?_
 refine wp_seq_k (fun K27 hK27 => ?_)
 refine regionX Ext [(0, .q), (1, .q), (2, .e), (3, .g), (4, .g), (5, .q)] mixed Ext.refl (fun h k => h.tr k) (by kernel_rfl) (fun w28 x28 => ?_)
 replace hE := Ext.tr hE x28
 replace R0 := R0.ext x28
 replace B2 := B2.ext x28
 replace A3 := A3.ext x28
 replace DD := DD.ext x28
 replace B12 := B12.ext x28
 have zw28 := x28.size
 refine RX.o (fun w' hw => D.loadAgg rfl Tryz.underlying33 rfl C33 (by decide) rfl ((B12.ext hw).cellsN 11 rfl)) ?_
 refine RX.o (fun w' hw => D.loadAgg rfl Tryz.underlying33 rfl C33 (by decide) rfl ((B12.ext hw).cellsN 11 rfl)) ?_
 refine RX.eff ?_
 refine RS.call E36 (ofO _ hok _ _ _ DD hcD (S.check_zero.1 hck).1 (S.fine4 (S.check_zero.1 hck).2.2.2.2.2.2)) rfl (fun v29 w29 x29 A29 => ?_)
 replace hE := Ext.tr hE x29
 replace R0 := R0.ext x29
 replace B2 := B2.ext x29
 replace A3 := A3.ext x29
 replace DD := DD.ext x29
 replace B12 := B12.ext x29
 have zw29 := x29.size
 subst A29
 refine RS.nm ?_
 refine RS.nil ⟨x29, ?_⟩
 refine RX.big ?_
 refine RS.storeAggB rfl rfl C33 (by decide) rfl rfl B2 rfl (fun w30 y30 N30 => ?_)
 replace hE := hE.trans (y30.belo)
 replace R0 := R0.sto y30
 replace A3 := A3.sto y30
 replace DD := DD.sto y30
 replace B12 := B12.sto y30
 have zw30 := y30.size
 replace B2 := N30
 refine RS.nil ?_
 refine RX.big ?_
 refine RS.storeArr A3 rfl rfl C35 (by decide) hsh.1 hsh.2 (fun w31 y31 N31 => ?_)
 replace hE := hE.trans (y31.belo)
 replace R0 := R0.sto y31
 replace B2 := B2.sto y31
 replace DD := DD.sto y31
 replace B12 := B12.sto y31
 have zw31 := y31.size
 replace A3 := N31
 refine RS.nil ?_
 refine RX.assign (v := .int .u8 0) rfl ?_
 refine RX.nil (hK27 _ _ ?_)
 refine wp_ret ?_
 refine ret (rs := [.cell 2 33, .cell 3 35, .tmp 4]) (vs := [.agg _, .agg _, .int _ _]) (v := (.tuple #[.agg _, .agg _, .int _ _])) rfl ⟨⟨_, rfl, loadVar_agg Tryz.underlying33 rfl C33 (by decide) rfl (B2.cellsN 11 rfl)⟩, ⟨_, rfl, loadVar_agg Tryz.underlying35 rfl C35 (by decide) (by rw [ints_length, A3.len]) A3.cells⟩, rfl, trivial⟩ rfl ?_
 rw [e1, e2, hv]
 exact ⟨_, rfl, hE, _, _, rfl, hcD, DD.weaken (fun k _ h => by omega)⟩
theorem judgeManyR {S0 : Nat → Prop} (a : Option Addr) (n c : Nat) (ps : List Pc) (w : World) (P0 : PRow .u8 S0 w a n ps) (hp : ∀ p ∈ ps, p.n ≤ 1000) :
  Calls Tryz.prog 15 #[.slice a n c] w (Ret w fun v w' => ∃ a' m' c', v = .tuple #[.slice a' m' c', .int .i64 (if 60 < n then 4 else 0)] ∧ IOwn w.heap.size w' 5 .u8 a' m' c' (if 60 < n then [] else ps.map fun p => S.jdV p.xs)) := by
 replace P0 := P0.weaken (T := fun k => k < w.heap.size) (fun k hk _ => hk)
 have hpl := P0.len
 have hE := Ext.refl w
 refine enterU 31 Tryz.func15 rfl rfl ?_
 refine sq fun K1 hK1 => ?_
 refine RS.asS rfl ?_
 refine RS.asI rfl ?_
 refine nl hK1 ?_
 refine wp_seq_k (fun K2 hK2 => ?_)
 refine sq fun K3 hK3 => ?_
 refine RS.mvS rfl ?_
 refine RS.o (D.len rfl Tryz.underlying40) ?_
 refine RS.o (D.gt rfl rfl) ?_
 refine nl hK3 ?_
 refine C.ifd rfl (fun c4 => ?_) (fun c4 => ?_)
 ·have hg := c4
  refine sq fun K5 hK5 => ?_
  refine RS.asS rfl ?_
  refine RS.asI rfl ?_
  refine nl hK5 ?_
  refine wp_ret ?_
  refine ret (rs := [.tmp 2, .tmp 3]) (vs := [.slice _ _ _, .int _ _]) (v := (.tuple #[.slice _ _ _, .int _ _])) rfl ⟨rfl, rfl, trivial⟩ rfl ?_
  rw [if_pos (show 60 < n by omega), if_pos (show 60 < n by omega)]
  exact ⟨_, rfl, hE, _, _, _, rfl, IOwn.nil _ _ _ _⟩
 have hg := c4
 refine wp_skip ?_
 refine hK2 _ _ ?_
 refine sq fun K6 hK6 => ?_
 refine RS.asS rfl ?_
 refine nl hK6 ?_
 refine wp_seq_k (fun K7 hK7 => ?_)
 refine sq fun K8 hK8 => ?_
 refine RS.asI rfl ?_
 refine nl hK8 ?_
 refine wp_block ?_
 refine C.loop (A := Int × Option Addr × Nat × Nat) (fun p => [(4, .slice p.2.1 p.2.2.1 p.2.2.2), (5, .int .i64 p.1)]) [6, 7, 8, 12, 13, 14, 15, 16, 17, 18, 19, 20, 21, 22, 23, 24, 25, 26, 27, 28, 29, 30] (fun p w' => Pr (fun k => w.heap.size ≤ k) w w' ∧ ((0 ≤ p.1 ∧ p.1 ≤ n) ∧ p.2.2.1 ≤ 60 ∧ IOwn w.heap.size w' 5 .u8 p.2.1 p.2.2.1 p.2.2.2 ((ps.map fun p => S.jdV p.xs).take p.1.toNat))) (fun p => (n - p.1.toNat)) (0, none, 0, 0) (by kernel_rfl) ?_ ?_
 ·exact ⟨Pr.refl _ _, ⟨by dsimp only; omega, by dsimp only; omega⟩, by dsimp only; omega, IOwn.nil _ _ _ _⟩
 rintro p j w9 ⟨x9, hI⟩
 replace hE := hE.trans (x9.belo)
 replace P0 := P0.pro x9
 have zw9 := x9.size
 obtain ⟨i, ao, no, co⟩ := p
 dsimp only at hI
 obtain ⟨h1, h60, OV⟩ := hI
 have lOV := OV.len
 rw [List.length_take, List.length_map] at lOV
 have hOV := OV.lo
 refine C.norm (by simp only [upd, junk, List.map_cons, List.map_nil, List.set_cons_succ, List.set_cons_zero]; exact rfl) ?_
 refine wp_seq_k (fun K10 hK10 => ?_)
 refine sq fun K11 hK11 => ?_
 refine RS.mvI rfl ?_
 refine RS.mvS rfl ?_
 refine RS.o (D.len rfl Tryz.underlying40) ?_
 refine RS.o (D.lt rfl rfl) ?_
 refine nl hK11 ?_
 refine C.ifd rfl (fun c12 => ?_) (fun c12 => ?_)
 ·refine wp_skip ?_
  refine hK10 _ _ ?_
  refine wp_seq_k (fun K13 hK13 => ?_)
  refine wp_block ?_
  refine sq fun K14 hK14 => ?_
  refine RS.mvS rfl ?_
  refine RS.mvI rfl ?_
  refine RS.idxP P0 rfl rfl Tryz.underlying40 C22 (by omega) (fun b15 o15 p15 h15 q15 F15 G15 => ?_)
  refine RS.nm ?_
  have hpx : p15.n ≤ 1000 := hp _ (by rw [q15, List.getD_eq_getElem?_getD, List.getElem?_eq_getElem (show i.toNat < ps.length by omega)]; exact List.getElem_mem _)
  have q9 := q15
  refine RS.o (D.load rfl Tryz.underlying22 rfl (h15)) ?_
  refine RS.call E9 (judgeOfR _ _ _ _ _ F15 G15 (by omega)) rfl (fun v16 w16 x16 A16 => ?_)
  replace hE := Ext.tr hE x16
  replace x9 := x9.ext x16
  replace P0 := P0.ext x16
  replace OV := OV.ext x16
  replace F15 := F15.ext x16
  have zw16 := x16.size
  obtain ⟨aJ, cJ, rfl, hcJ, DJ⟩ := A16
  have hjb := S.jd_bd p15.xs
  have hjI := S.jdI_arr p15.xs
  refine RS.nm ?_
  refine RS.move (v := .tuple _) rfl ?_
  refine RS.extract (v := .agg _) rfl rfl ?_
  refine RS.extract (v := .agg _) rfl rfl ?_
  refine RS.extract (v := .int _ _) rfl rfl ?_
  refine RS.alloc T33 (fun b17 w17 e17 s17 x17 B17 => ?_)
  refine RS.nm ?_
  replace hE := Ext.tr hE x17
  replace x9 := x9.ext x17
  replace P0 := P0.ext x17
  replace OV := OV.ext x17
  replace F15 := F15.ext x17
  have zw17 := x17.size
  refine RS.alloc T35 (fun b18 w18 e18 s18 x18 B18 => ?_)
  refine RS.nm ?_
  replace hE := Ext.tr hE x18
  replace x9 := x9.ext x18
  replace P0 := P0.ext x18
  replace OV := OV.ext x18
  replace F15 := F15.ext x18
  replace B17 := B17.ext x18
  have zw18 := x18.size
  have A18 : IArr .u8 w18 b18 32 (List.replicate 32 0) [] 35 := IArr.zero B18
  clear B18
  refine RS.storeAggB rfl rfl C33 (by decide) rfl rfl B17 rfl (fun w19 y19 N19 => ?_)
  replace hE := hE.trans (y19.belo)
  replace x9 := x9.stno y19
  replace P0 := P0.sto y19
  replace OV := OV.st y19 (by intros; try (first | (intro _ _) | (intro _) | skip); first | omega | (have hq := hOV _ (by assumption); first | omega | (dsimp only at *; omega)))
  replace F15 := F15.sto y19
  replace A18 := A18.sto y19
  have zw19 := y19.size
  replace B17 := N19
  refine RS.storeArr A18 rfl rfl C35 (by decide) hjI.1 hjI.2 (fun w20 y20 N20 => ?_)
  replace hE := hE.trans (y20.belo)
  replace x9 := x9.stno y20
  replace P0 := P0.sto y20
  replace OV := OV.st y20 (by intros; try (first | (intro _ _) | (intro _) | skip); first | omega | (have hq := hOV _ (by assumption); first | omega | (dsimp only at *; omega)))
  replace F15 := F15.sto y20
  replace B17 := B17.sto y20
  have zw20 := y20.size
  replace A18 := N20
  refine RS.asI rfl ?_
  refine nl hK14 ?_
  refine region ?_
  refine RS.mvS rfl ?_
  refine RS.mvI rfl ?_
  refine RS.buildSlice (xs := [.tmp 28]) (vs := [.int _ _]) (cs := [.int _ _]) Tryz.underlying22 T5 (by decide) rfl rfl rfl rfl rfl rfl (by intro v hv; simp only [List.mem_cons, List.not_mem_nil, or_false] at hv; subst hv; rfl) rfl (fun b21 w21 e21 s21 x21 B21 => ?_)
  refine RS.nm ?_
  replace hE := Ext.tr hE x21
  replace x9 := x9.ext x21
  replace P0 := P0.ext x21
  replace OV := OV.ext x21
  replace F15 := F15.ext x21
  replace B17 := B17.ext x21
  replace A18 := A18.ext x21
  have zw21 := x21.size
  have Q1 : IRow .u8 (fun k => k = b21) w21 (some ⟨b21, 0, none⟩) 1 [_] := IRow.of_blk B21 rfl rfl rfl (.cons (by simp only [lim]; omega) (.nil _))
  refine RS.appendI OV Q1 rfl rfl Tryz.underlying22 T5 rfl (by omega) (by decide) (by omega) (fun a22 c22 w22 N22 x22 => ?_)
  refine RS.nm ?_
  replace hE := hE.trans (x22.below (by intros; try (first | (intro _ _) | (intro _) | skip); first | omega | (have hq := hOV _ (by assumption); first | omega | (dsimp only at *; omega))) (by intros; try (first | (intro _ _) | (intro _) | skip); first | omega | (dsimp only at *; omega) | (simp_all; done) | (simp at *; omega)))
  replace x9 := x9.prn x22 (by intros; try (first | (intro _ _) | (intro _) | skip); first | omega | (have hq := hOV _ (by assumption); first | omega | (dsimp only at *; omega)))
  replace P0 := P0.pr x22 (by intros; try (first | (intro _ _) | (intro _) | skip); first | omega | (have hq := hOV _ (by assumption); first | omega | (dsimp only at *; omega)))
  replace F15 := F15.pr x22 (by intros; try (first | (intro _ _) | (intro _) | skip); first | omega | (have hq := hOV _ (by assumption); first | omega | (dsimp only at *; omega)))
  replace B17 := B17.pr x22 (by intros; try (first | (intro _ _) | (intro _) | skip); first | omega | (have hq := hOV _ (by assumption); first | omega | (dsimp only at *; omega)))
  replace A18 := A18.pr x22 (by intros; try (first | (intro _ _) | (intro _) | skip); first | omega | (have hq := hOV _ (by assumption); first | omega | (dsimp only at *; omega)))
  have zw22 := x22.size
  replace OV := N22
  refine RS.asS rfl ?_
  refine nl hK13 ?_
  refine region ?_
  refine RS.mvI rfl ?_
  refine RS.o (D.add rfl rfl (W.i64 (by omega))) ?_
  refine RS.asI rfl ?_
  refine RS.nil ?_
  change Nx _ _ _ _ _ _ _ _
  refine C.next (i + 1, _, _, _) ⟨rfl, rfl, trivial⟩ (by kernel_rfl) ?_ ?_
  ·refine ⟨x9, ⟨by dsimp only; omega, by dsimp only; omega⟩, by dsimp only; omega, ?_⟩
   dsimp only
   rw [show (i + 1).toNat = i.toNat + 1 by omega, S.take_snoc (ps.map fun p => S.jdV p.xs) _ (by rw [List.length_map]; omega), S.map_getD (fun p : Pc => S.jdV p.xs) ps default i.toNat (by omega), ← q9]
   exact OV
  dsimp only; omega
 refine wp_exit ?_
 refine hK7 _ _ ?_
 refine sq fun K23 hK23 => ?_
 refine RS.mvS rfl ?_
 refine RS.asS rfl ?_
 refine RS.asI rfl ?_
 refine nl hK23 ?_
 refine wp_ret ?_
 refine ret (rs := [.tmp 2, .tmp 3]) (vs := [.slice _ _ _, .int _ _]) (v := (.tuple #[.slice _ _ _, .int _ _])) rfl ⟨rfl, rfl, trivial⟩ rfl ?_
 rw [if_neg (show ¬ 60 < n by omega), if_neg (show ¬ 60 < n by omega)]
 rw [show i.toNat = n by omega, List.take_of_length_le (by rw [List.length_map]; omega)] at OV
 exact ⟨_, rfl, hE, _, _, _, rfl, OV⟩
theorem judgeCountR {S0 : Nat → Prop} (a : Option Addr) (n c : Nat) (ps : List Pc) (w : World) (P0 : PRow .u8 S0 w a n ps) (hp : ∀ p ∈ ps, p.n ≤ 1000) :
  Calls Tryz.prog 17 #[.slice a n c] w (Ret w fun v w' => v = .tuple #[.agg (ints .i64 (S.cntS (if 60 < n then [] else ps.map fun p => S.jdV p.xs))).toArray, .int .i64 (if 60 < n then 4 else 0)]) := by
 replace P0 := P0.weaken (T := fun k => k < w.heap.size) (fun k hk _ => hk)
 have hpl := P0.len
 have hE := Ext.refl w
 refine enterU 28 Tryz.func17 rfl rfl ?_
 refine sq fun K1 hK1 => ?_
 refine RS.alloc T48 (fun b2 w2 e2 s2 x2 B2 => ?_)
 refine RS.nm ?_
 replace hE := Ext.tr hE x2
 replace P0 := P0.ext x2
 have zw2 := x2.size
 have A2 : IArr .i64 w2 b2 10 (List.replicate 10 0) [] 48 := IArr.zero B2
 clear B2
 refine RS.asI rfl ?_
 refine nl hK1 ?_
 refine sq fun K3 hK3 => ?_
 refine RS.mvS rfl ?_
 refine RS.call E15 (judgeManyR _ _ _ _ _ P0 hp) rfl (fun v4 w4 x4 A4 => ?_)
 replace hE := Ext.tr hE x4
 replace P0 := P0.ext x4
 replace A2 := A2.ext x4
 have zw4 := x4.size
 obtain ⟨aM, nM, cM, rfl, OM⟩ := A4
 have hOM := OM.lo
 have lOM := OM.len
 obtain ⟨ms, hms⟩ : ∃ ms, ms = (if 60 < n then [] else ps.map fun p => S.jdV p.xs) := ⟨_, rfl⟩
 rw [← hms] at OM lOM ⊢
 have hmb : ∀ x ∈ ms, 0 ≤ x ∧ x ≤ 4 := by
  intro x hx
  rw [hms] at hx
  split at hx
  ·cases hx
  obtain ⟨p, _, rfl⟩ := List.mem_map.1 hx
  have := S.jd_bd p.xs
  omega
 have hml : ms.length ≤ 60 := by rw [hms]; split <;> simp; omega
 have hca := S.cnt_arr ms (by omega)
 refine RS.nm ?_
 refine RS.move (v := .tuple _) rfl ?_
 refine RS.extract (v := .slice _ _ _) rfl rfl ?_
 refine RS.extract (v := .int _ _) rfl rfl ?_
 refine RS.asS rfl ?_
 refine RS.asI rfl ?_
 refine nl hK3 ?_
 refine sq fun K5 hK5 => ?_
 refine RS.alloc T48 (fun b6 w6 e6 s6 x6 B6 => ?_)
 refine RS.nm ?_
 replace hE := Ext.tr hE x6
 replace P0 := P0.ext x6
 replace A2 := A2.ext x6
 replace OM := OM.ext x6
 have zw6 := x6.size
 have A6 : IArr .i64 w6 b6 10 (List.replicate 10 0) [] 48 := IArr.zero B6
 clear B6
 refine nl hK5 ?_
 refine wp_seq_k (fun K7 hK7 => ?_)
 refine sq fun K8 hK8 => ?_
 refine RS.asI rfl ?_
 refine nl hK8 ?_
 refine wp_block ?_
 refine C.loop (A := Int) (fun p => [(7, .int .i64 p)]) [13, 14, 15, 16, 17, 18, 19, 20, 21, 22, 23, 24, 25, 26] (fun p w' => Pr (fun k => k = b6) w6 w' ∧ ((0 ≤ p ∧ p ≤ nM) ∧ IArr .i64 w' b6 10 (S.cntS (ms.take p.toNat)) [] 48)) (fun p => (nM - p.toNat)) 0 (by kernel_rfl) ?_ ?_
 ·exact ⟨Pr.refl _ _, ⟨by omega, by omega⟩, by rw [show (0 : Int).toNat = 0 from rfl, List.take_zero, S.cnt_nil]; exact A6⟩
 rintro p j w9 ⟨x9, hI⟩
 replace hE := hE.trans (x9.belo)
 replace P0 := P0.pro x9
 replace A2 := A2.pro x9
 replace OM := OM.pr x9 (by intros; try (first | (intro _ _) | (intro _) | skip); first | omega | (have hq := hOM _ (by assumption); first | omega | (dsimp only at *; omega)))
 have zw9 := x9.size
 obtain ⟨i, hi⟩ : ∃ i, i = p := ⟨p, rfl⟩
 subst hi
 obtain ⟨h1, A6⟩ := hI
 refine C.norm (by simp only [upd, junk, List.map_cons, List.map_nil, List.set_cons_succ, List.set_cons_zero]; exact rfl) ?_
 refine wp_seq_k (fun K10 hK10 => ?_)
 refine sq fun K11 hK11 => ?_
 refine RS.mvI rfl ?_
 refine RS.mvS rfl ?_
 refine RS.o (D.len rfl Tryz.underlying22) ?_
 refine RS.o (D.lt rfl rfl) ?_
 refine nl hK11 ?_
 refine C.ifd rfl (fun c12 => ?_) (fun c12 => ?_)
 ·refine wp_skip ?_
  refine hK10 _ _ ?_
  refine wp_seq_k (fun K13 hK13 => ?_)
  refine wp_block ?_
  refine region ?_
  refine RS.mvS rfl ?_
  refine RS.mvI rfl ?_
  refine RS.idx OM.row rfl rfl Tryz.underlying22 C5 (by omega) (fun b14 o14 v14 h14 q14 r14 => ?_)
  refine RS.nm ?_
  simp only [lim] at r14
  have hxb := hmb v14 (by rw [q14, List.getD_eq_getElem?_getD, List.getElem?_eq_getElem (show i.toNat < ms.length by omega)]; exact List.getElem_mem _)
  have q1 := q14
  obtain ⟨x, hx⟩ : ∃ x, x = v14 := ⟨_, rfl⟩
  refine RS.o (D.load rfl Tryz.underlying5 rfl (h14)) ?_
  refine RS.idxA A6 rfl rfl Tryz.underlying48 C3 (by omega) (fun v15 h15 q15 r15 => ?_)
  refine RS.nm ?_
  simp only [lim] at r15
  have q2 := q15
  have hcb := S.cnt_bd (ms.take i.toNat) x.toNat (by omega)
  rw [List.length_take, hx] at hcb
  refine RS.o (D.load rfl Tryz.underlying3 rfl (h15)) ?_
  refine RS.o (D.add rfl rfl (W.i64 (by omega))) ?_
  refine RS.idxA A6 rfl rfl Tryz.underlying48 C3 (by omega) (fun v16 h16 q16 r16 => ?_)
  refine RS.nm ?_
  simp only [lim] at r16
  refine RS.storeA A6 rfl rfl C3 (by omega) (by simp only [lim]; omega) (fun w17 y17 N17 => ?_)
  replace hE := hE.trans (y17.belo)
  replace x9 := x9.stno y17
  replace P0 := P0.sto y17
  replace A2 := A2.sto y17
  replace OM := OM.st y17 (by intros; try (first | (intro _ _) | (intro _) | skip); first | omega | (have hq := hOM _ (by assumption); first | omega | (dsimp only at *; omega)))
  have zw17 := y17.size
  replace A6 := N17
  refine nl hK13 ?_
  refine region ?_
  refine RS.mvI rfl ?_
  refine RS.o (D.add rfl rfl (W.i64 (by omega))) ?_
  refine RS.asI rfl ?_
  refine RS.nil ?_
  change Nx _ _ _ _ _ _ _ _
  refine C.next (i + 1) ⟨rfl, trivial⟩ (by kernel_rfl) ?_ ?_
  ·refine ⟨x9, ⟨by omega, by omega⟩, ?_⟩
   rw [show (i + 1).toNat = i.toNat + 1 by omega, S.take_snoc ms _ (by omega), ← q1, ← S.cnt_snoc _ _ (by omega), ← q2]
   exact A6
  omega
 refine wp_exit ?_
 refine hK7 _ _ ?_
 refine wp_seq_k (fun K18 hK18 => ?_)
 rw [show i.toNat = nM by omega, List.take_of_length_le (by omega)] at A6
 refine region ?_
 refine RS.o (D.loadAgg rfl Tryz.underlying48 rfl C48 (by decide) (by rw [ints_length, A6.len]) A6.cells) ?_
 refine RS.mvI rfl ?_
 refine RS.storeArr A2 rfl rfl C48 (by decide) hca.1 hca.2 (fun w19 y19 N19 => ?_)
 replace hE := hE.trans (y19.belo)
 replace P0 := P0.sto y19
 replace OM := OM.st y19 (by intros; try (first | (intro _ _) | (intro _) | skip); first | omega | (have hq := hOM _ (by assumption); first | omega | (dsimp only at *; omega)))
 replace A6 := A6.sto y19
 have zw19 := y19.size
 replace A2 := N19
 refine RS.asI rfl ?_
 refine nl hK18 ?_
 refine wp_ret ?_
 refine ret (rs := [.cell 2 48, .tmp 3]) (vs := [.agg _, .int _ _]) (v := (.tuple #[.agg _, .int _ _])) rfl ⟨⟨_, rfl, loadVar_agg Tryz.underlying48 rfl C48 (by decide) (by rw [ints_length, A2.len]) A2.cells⟩, rfl, trivial⟩ rfl ?_
 refine ⟨_, rfl, hE, ?_⟩
 rw [← hms]
theorem wholeR {S0 : Nat → Prop} (a : Option Addr) (n c : Nat) (ps : List Pc) (w : World) (P0 : PRow .u8 S0 w a n ps) (hp : ∀ p ∈ ps, p.n ≤ 1000) (hn : n ≤ 1000) :
  Calls Tryz.prog 13 #[.slice a n c] w (Ret w fun v w' => ∃ a' m' c', v = .slice a' m' c' ∧ m' ≤ 1000 * n ∧ IOwn w.heap.size w' 5 .u8 a' m' c' (cat ps)) := by
 replace P0 := P0.weaken (T := fun k => k < w.heap.size) (fun k hk _ => hk)
 have hpl := P0.len
 have hE := Ext.refl w
 refine enterU 17 Tryz.func13 rfl rfl ?_
 refine sq fun K1 hK1 => ?_
 refine RS.asS rfl ?_
 refine nl hK1 ?_
 refine sq fun K2 hK2 => ?_
 refine RS.asS rfl ?_
 refine nl hK2 ?_
 refine wp_seq_k (fun K3 hK3 => ?_)
 refine sq fun K4 hK4 => ?_
 refine RS.asI rfl ?_
 refine nl hK4 ?_
 refine wp_block ?_
 refine C.loop (A := Int × Option Addr × Nat × Nat) (fun p => [(3, .slice p.2.1 p.2.2.1 p.2.2.2), (4, .int .i64 p.1)]) [5, 6, 7, 8, 9, 10, 11, 12, 13, 14, 15, 16] (fun p w' => Pr (fun k => w.heap.size ≤ k) w w' ∧ ((0 ≤ p.1 ∧ p.1 ≤ n) ∧ p.2.2.1 ≤ 1000 * p.1.toNat ∧ IOwn w.heap.size w' 5 .u8 p.2.1 p.2.2.1 p.2.2.2 (cat (ps.take p.1.toNat)))) (fun p => (n - p.1.toNat)) (0, none, 0, 0) (by kernel_rfl) ?_ ?_
 ·exact ⟨Pr.refl _ _, ⟨by dsimp only; omega, by dsimp only; omega⟩, Nat.zero_le _, IOwn.nil _ _ _ _⟩
 rintro p j w5 ⟨x5, hI⟩
 replace hE := hE.trans (x5.belo)
 replace P0 := P0.pro x5
 have zw5 := x5.size
 obtain ⟨i, ao, no, co⟩ := p
 dsimp only at hI
 obtain ⟨h1, h60, OV⟩ := hI
 have hOV := OV.lo
 refine C.norm (by simp only [upd, junk, List.map_cons, List.map_nil, List.set_cons_succ, List.set_cons_zero]; exact rfl) ?_
 refine wp_seq_k (fun K6 hK6 => ?_)
 refine sq fun K7 hK7 => ?_
 refine RS.mvI rfl ?_
 refine RS.mvS rfl ?_
 refine RS.o (D.len rfl Tryz.underlying40) ?_
 refine RS.o (D.lt rfl rfl) ?_
 refine nl hK7 ?_
 refine C.ifd rfl (fun c8 => ?_) (fun c8 => ?_)
 ·refine wp_skip ?_
  refine hK6 _ _ ?_
  refine wp_seq_k (fun K9 hK9 => ?_)
  refine wp_block ?_
  refine region ?_
  refine RS.mvS rfl ?_
  refine RS.mvS rfl ?_
  refine RS.mvI rfl ?_
  refine RS.idxP P0 rfl rfl Tryz.underlying40 C22 (by omega) (fun b10 o10 p10 h10 q10 F10 G10 => ?_)
  refine RS.nm ?_
  have hpx : p10.n ≤ 1000 := hp _ (by rw [q10, List.getD_eq_getElem?_getD, List.getElem?_eq_getElem (show i.toNat < ps.length by omega)]; exact List.getElem_mem _)
  have q9 := q10
  refine RS.o (D.load rfl Tryz.underlying22 rfl (h10)) ?_
  refine RS.appendI OV F10 rfl rfl Tryz.underlying22 T5 rfl (by omega) (by decide) (by omega) (fun a11 c11 w11 N11 x11 => ?_)
  refine RS.nm ?_
  replace hE := hE.trans (x11.below (by intros; try (first | (intro _ _) | (intro _) | skip); first | omega | (have hq := hOV _ (by assumption); first | omega | (dsimp only at *; omega))) (by intros; try (first | (intro _ _) | (intro _) | skip); first | omega | (dsimp only at *; omega) | (simp_all; done) | (simp at *; omega)))
  replace x5 := x5.prn x11 (by intros; try (first | (intro _ _) | (intro _) | skip); first | omega | (have hq := hOV _ (by assumption); first | omega | (dsimp only at *; omega)))
  replace P0 := P0.pr x11 (by intros; try (first | (intro _ _) | (intro _) | skip); first | omega | (have hq := hOV _ (by assumption); first | omega | (dsimp only at *; omega)))
  replace F10 := F10.pr x11 (by intros; try (first | (intro _ _) | (intro _) | skip); first | omega | (have hq := hOV _ (by assumption); first | omega | (dsimp only at *; omega)))
  have zw11 := x11.size
  replace OV := N11
  refine RS.asS rfl ?_
  refine nl hK9 ?_
  refine region ?_
  refine RS.mvI rfl ?_
  refine RS.o (D.add rfl rfl (W.i64 (by omega))) ?_
  refine RS.asI rfl ?_
  refine RS.nil ?_
  change Nx _ _ _ _ _ _ _ _
  refine C.next (i + 1, _, _, _) ⟨rfl, rfl, trivial⟩ (by kernel_rfl) ?_ ?_
  ·refine ⟨x5, ⟨by dsimp only; omega, by dsimp only; omega⟩, by dsimp only; omega, ?_⟩
   dsimp only
   rw [show (i + 1).toNat = i.toNat + 1 by omega, cat_snoc ps _ (by omega), ← q9]
   exact OV
  dsimp only; omega
 refine wp_exit ?_
 refine hK3 _ _ ?_
 refine sq fun K12 hK12 => ?_
 refine RS.mvS rfl ?_
 refine RS.asS rfl ?_
 refine nl hK12 ?_
 refine wp_ret ?_
 refine ret (rs := [.tmp 2]) (vs := [.slice _ _ _]) (v := (.slice _ _ _)) rfl ⟨rfl, trivial⟩ rfl ?_
 rw [show i.toNat = n by omega, List.take_of_length_le (by omega)] at OV
 exact ⟨_, rfl, hE, _, _, _, rfl, by omega, OV⟩
end Go.Proofs.YtiohpiiiapjblaaGreatDoor.W
