/-
  Part 8 of the lemmas of these laws: OpNames, JudgeNames.
-/
import Derived.Test.YtiohpiiiapjblaaDoorPQn7
namespace Go.Proofs.YtiohpiiiapjblaaDoor.W
open Go.RowKit Go.Proofs.YtiohpiiiapjblaaDoor.G
set_option linter.unusedVariables false
set_option maxRecDepth 20000
set_option maxHeartbeats 8000000
attribute [local irreducible] RS RX
theorem C4 : Tryd.prog.cellsOf 4 = 1 := by kernel_rfl
theorem E74 : Enters Tryd.prog 74 := .mk Tryd.func74 (by kernel_rfl) rfl
theorem E75 : Enters Tryd.prog 75 := .mk Tryd.func75 (by kernel_rfl) rfl
theorem E108 : Enters Tryd.prog 108 := .mk Tryd.func108 (by kernel_rfl) rfl
theorem decodeV {S0 : Nat → Prop} (a : Option Addr) (n c : Nat) (bs : List Int) (w : World) (R0 : IRow .u8 S0 w a n bs) (hc : n ≤ c) (hn : n ≤ 1000000) :
  Calls Tryd.prog 76 #[.slice a n c] w (Ret w fun v _ => v = .tuple #[.agg ([.int .u8 (S.vdS bs).k, .int .i64 (S.vdS bs).num, .int .u64 (S.vdS bs).bits, .string (S.vdS bs).t] : List Value).toArray, .int .i64 (S.vdS bs).u, .int .i64 (S.vdS bs).e]) := by
 replace R0 := R0.weaken (T := fun k => k < w.heap.size) (fun k hk _ => hk)
 have hbl := R0.len
 have hbd := R0.bd
 have hE := Ext.refl w
 refine enterU 75 Tryd.func76 rfl rfl ?_
 refine sq fun K1 hK1 => ?_
 refine RS.alloc T26 (fun b2 w2 e2 s2 x2 B2 => ?_)
 refine RS.nm ?_
 replace hE := Ext.tr hE x2
 replace R0 := R0.ext x2
 have zw2 := x2.size
 refine RS.asI rfl ?_
 refine RS.asI rfl ?_
 refine nl hK1 ?_
 refine wp_seq_k (fun K3 hK3 => ?_)
 refine sq fun K4 hK4 => ?_
 refine RS.mvS rfl ?_
 refine RS.o (D.len rfl Tryd.underlying35) ?_
 refine RS.o (D.eq rfl rfl) ?_
 refine nl hK4 ?_
 refine C.ife rfl (fun c5 => ?_) (fun c5 => ?_)
 ·obtain rfl : bs = [] := List.eq_nil_of_length_eq_zero (by omega)
  refine sq fun K6 hK6 => ?_
  refine RS.o (D.buildS T26 F26 (ps := []) rfl rfl) ?_
  refine RS.storeAggB rfl rfl C26 (by decide) rfl rfl B2 rfl (fun w7 y7 N7 => ?_)
  replace hE := hE.trans (y7.belo)
  replace R0 := R0.sto y7
  have zw7 := y7.size
  replace B2 := N7
  refine RS.asI rfl ?_
  refine RS.asI rfl ?_
  refine nl hK6 ?_
  refine wp_ret ?_
  refine ret (rs := [.cell 2 26, .tmp 3, .tmp 4]) (vs := [.agg _, .int _ _, .int _ _]) (v := (.tuple #[.agg _, .int _ _, .int _ _])) rfl ⟨⟨_, rfl, loadVar_agg Tryd.underlying26 rfl C26 (by decide) rfl (B2.cellsN 4 rfl)⟩, rfl, rfl, trivial⟩ rfl ?_
  rw [S.vd_nil]
  exact ⟨_, rfl, hE, rfl⟩
 obtain ⟨x, r, rfl⟩ : ∃ x r, bs = x :: r := by
  cases bs with
  | nil => simp at hbl; omega
  | cons x r => exact ⟨x, r, rfl⟩
 rw [List.length_cons] at hbl
 have hx := hbd x List.mem_cons_self
 simp only [lim] at hx
 have hrb : Bd .u8 r := fun y hy => hbd y (List.mem_cons_of_mem _ hy)
 have QR : IRow .u8 (fun k => k < w.heap.size) w2 (subA a 1 1 c) (n - 1) r := R0.rest 1 c (by omega) (by omega)
 have hrd := S.rd_bd hrb
 have hsg := S.sg_bd hrb
 have hpu := S.ptU_le (most := 30) (wd := 1) hrb (by decide)
 refine wp_skip ?_
 refine hK3 _ _ ?_
 refine sq fun K8 hK8 => ?_
 refine RS.mvS rfl ?_
 refine RS.idx R0 rfl rfl Tryd.underlying35 C5 (by omega) (fun b9 o9 v9 h9 q9 r9 => ?_)
 refine RS.nm ?_
 simp only [lim] at r9
 replace q9 : x = v9 := Eq.symm q9
 subst q9
 refine RS.o (D.load rfl Tryd.underlying5 rfl (h9)) ?_
 refine RS.o (D.buildS T26 F26 (ps := [(0, .int _ _)]) rfl rfl) ?_
 refine RS.alloc T26 (fun b10 w10 e10 s10 x10 B10 => ?_)
 refine RS.nm ?_
 replace hE := Ext.tr hE x10
 replace R0 := R0.ext x10
 replace B2 := B2.ext x10
 replace QR := QR.ext x10
 have zw10 := x10.size
 refine RS.storeAggB rfl rfl C26 (by decide) rfl rfl B10 rfl (fun w11 y11 N11 => ?_)
 replace hE := hE.trans (y11.belo)
 replace R0 := R0.sto y11
 replace B2 := B2.sto y11
 replace QR := QR.sto y11
 have zw11 := y11.size
 replace B10 := N11
 refine RS.asI rfl ?_
 refine RS.asI rfl ?_
 refine nl hK8 ?_
 refine wp_seq_k (fun K12 hK12 => ?_)
 refine sq fun K13 hK13 => ?_
 refine RS.mvS rfl ?_
 refine RS.o (D.slice (kl := .i64) (kh := .i64) rfl Tryd.underlying35 C5 (by decide) rfl rfl (by omega) (by omega)) ?_
 refine RS.asS rfl ?_
 refine nl hK13 ?_
 refine sq fun K14 hK14 => ?_
 refine RS.o (D.fieldL 0 rfl Tryd.underlying26 rfl C5 (by decide) rfl) ?_
 refine RS.o (D.load rfl Tryd.underlying5 rfl (B10.cell rfl)) ?_
 refine nl hK14 ?_
 refine wp_block ?_
 refine sq fun K15 hK15 => ?_
 refine RS.o (D.eq rfl rfl) ?_
 refine RS.asB rfl ?_
 refine nl hK15 ?_
 refine C.ife rfl (fun c16 => ?_) (fun c16 => ?_)
 ·have hk := c16
  refine region ?_
  refine RS.mvS rfl ?_
  refine RS.call E108 (readSg _ _ _ _ _ QR (by omega) (by omega)) rfl (fun v17 w17 x17 A17 => ?_)
  replace hE := Ext.tr hE x17
  replace R0 := R0.ext x17
  replace B2 := B2.ext x17
  replace QR := QR.ext x17
  replace B10 := B10.ext x17
  have zw17 := x17.size
  subst A17
  refine RS.nm ?_
  refine RS.move (v := .tuple _) rfl ?_
  refine RS.extract (v := .int _ _) rfl rfl ?_
  refine RS.extract (v := .int _ _) rfl rfl ?_
  refine RS.extract (v := .int _ _) rfl rfl ?_
  refine RS.o (D.fieldL 1 rfl Tryd.underlying26 rfl C2 (by decide) rfl) ?_
  refine RS.store rfl (v := .int _ _) rfl C2 rfl B10 rfl (fun w18 y18 N18 => ?_)
  replace hE := hE.trans (y18.belo)
  replace R0 := R0.sto y18
  replace B2 := B2.sto y18
  replace QR := QR.sto y18
  have zw18 := y18.size
  replace B10 := N18
  refine RS.asI rfl ?_
  refine RS.asI rfl ?_
  refine nl hK12 ?_
  refine wp_seq_k (fun K19 hK19 => ?_)
  refine sq fun K20 hK20 => ?_
  refine RS.mvI rfl ?_
  refine RS.o (D.ne rfl rfl) ?_
  refine RS.mvB rfl ?_
  refine RS.splitn 67 rfl rfl (fun c21 => ?_) (fun c21 => ?_)
  ·refine RS.nm ?_
   have hbad := c21
   refine RS.skT 67 ?_
   refine RS.skT 67 ?_
   refine RS.skT 67 ?_
   refine RS.pick (v := .bool true) rfl rfl ?_
   refine nl hK20 ?_
   refine C.ift rfl ?_
   refine sq fun K22 hK22 => ?_
   refine RS.o (D.buildS T26 F26 (ps := []) rfl rfl) ?_
   refine RS.storeAggB rfl rfl C26 (by decide) rfl rfl B2 rfl (fun w23 y23 N23 => ?_)
   replace hE := hE.trans (y23.belo)
   replace R0 := R0.sto y23
   replace QR := QR.sto y23
   replace B10 := B10.sto y23
   have zw23 := y23.size
   replace B2 := N23
   refine RS.asI rfl ?_
   refine RS.asI rfl ?_
   refine nl hK22 ?_
   refine wp_ret ?_
   refine ret (rs := [.cell 2 26, .tmp 3, .tmp 4]) (vs := [.agg _, .int _ _, .int _ _]) (v := (.tuple #[.agg _, .int _ _, .int _ _])) rfl ⟨⟨_, rfl, loadVar_agg Tryd.underlying26 rfl C26 (by decide) rfl (B2.cellsN 4 rfl)⟩, rfl, rfl, trivial⟩ rfl ?_
   first | exact absurd rfl hbad | (rw [S.vd_fail (S.valR_oneN hk hbad)]; exact ⟨_, rfl, hE, rfl⟩) | (rw [S.vd_fail (S.valR_threeN hk hbad)]; exact ⟨_, rfl, hE, rfl⟩)
  refine RS.nm ?_
  first | have hv := S.valR_one hk c21 | have hv := S.valR_two hk hlt hacc | have hv := S.valR_three hk c21 | have hv := S.valR_else (r := r) hk1 hk2 hk3
  refine RS.wt 67 ?_
  refine RS.o (D.loadAgg rfl Tryd.underlying26 rfl C26 (by decide) rfl (B10.cellsN 4 rfl)) ?_
  refine RS.wt 67 ?_
  refine RS.call E52 (checkV _ _ _ _ (by omega) (by omega) (by omega) _) rfl (fun v24 w24 x24 A24 => ?_)
  replace hE := Ext.tr hE x24
  replace R0 := R0.ext x24
  replace B2 := B2.ext x24
  replace QR := QR.ext x24
  replace B10 := B10.ext x24
  have zw24 := x24.size
  subst A24
  refine RS.nm ?_
  refine RS.wt 67 ?_
  refine RS.o (D.ne rfl rfl) ?_
  refine RS.pick (v := .bool _) rfl rfl ?_
  refine nl hK20 ?_
  refine C.ifn rfl (fun c25 => ?_) (fun c25 => ?_)
  ·have hz := c25
   refine sq fun K26 hK26 => ?_
   refine RS.o (D.buildS T26 F26 (ps := []) rfl rfl) ?_
   refine RS.storeAggB rfl rfl C26 (by decide) rfl rfl B2 rfl (fun w27 y27 N27 => ?_)
   replace hE := hE.trans (y27.belo)
   replace R0 := R0.sto y27
   replace QR := QR.sto y27
   replace B10 := B10.sto y27
   have zw27 := y27.size
   replace B2 := N27
   refine RS.asI rfl ?_
   refine RS.asI rfl ?_
   refine nl hK26 ?_
   refine wp_ret ?_
   refine ret (rs := [.cell 2 26, .tmp 3, .tmp 4]) (vs := [.agg _, .int _ _, .int _ _]) (v := (.tuple #[.agg _, .int _ _, .int _ _])) rfl ⟨⟨_, rfl, loadVar_agg Tryd.underlying26 rfl C26 (by decide) rfl (B2.cellsN 4 rfl)⟩, rfl, rfl, trivial⟩ rfl ?_
   rw [S.vd_bad hv hz]
   exact ⟨_, rfl, hE, rfl⟩
  have hz := c25
  refine wp_skip ?_
  refine hK19 _ _ ?_
  refine sq fun K28 hK28 => ?_
  refine RS.o (D.loadAgg rfl Tryd.underlying26 rfl C26 (by decide) rfl (B10.cellsN 4 rfl)) ?_
  refine RS.mvI rfl ?_
  refine RS.o (D.add rfl rfl (W.i64 (by omega))) ?_
  refine RS.storeAggB rfl rfl C26 (by decide) rfl rfl B2 rfl (fun w29 y29 N29 => ?_)
  replace hE := hE.trans (y29.belo)
  replace R0 := R0.sto y29
  replace QR := QR.sto y29
  replace B10 := B10.sto y29
  have zw29 := y29.size
  replace B2 := N29
  refine RS.asI rfl ?_
  refine RS.asI rfl ?_
  refine nl hK28 ?_
  refine wp_ret ?_
  refine ret (rs := [.cell 2 26, .tmp 3, .tmp 4]) (vs := [.agg _, .int _ _, .int _ _]) (v := (.tuple #[.agg _, .int _ _, .int _ _])) rfl ⟨⟨_, rfl, loadVar_agg Tryd.underlying26 rfl C26 (by decide) rfl (B2.cellsN 4 rfl)⟩, rfl, rfl, trivial⟩ rfl ?_
  rw [S.vd_good hv hz]
  exact ⟨_, rfl, hE, rfl⟩
 have hk1 := c16
 refine sq fun K30 hK30 => ?_
 refine RS.o (D.eq rfl rfl) ?_
 refine RS.asB rfl ?_
 refine nl hK30 ?_
 refine C.ife rfl (fun c31 => ?_) (fun c31 => ?_)
 ·have hk := c31
  refine wp_seq_k (fun K32 hK32 => ?_)
  refine sq fun K33 hK33 => ?_
  refine RS.mvS rfl ?_
  refine RS.o (D.len rfl Tryd.underlying35) ?_
  refine RS.o (D.lt rfl rfl) ?_
  refine nl hK33 ?_
  refine C.ifd rfl (fun c34 => ?_) (fun c34 => ?_)
  ·refine wp_seq_k (fun K35 hK35 => ?_)
   refine region ?_
   refine RS.o (D.buildS T26 F26 (ps := []) rfl rfl) ?_
   refine RS.storeAggB rfl rfl C26 (by decide) rfl rfl B2 rfl (fun w36 y36 N36 => ?_)
   replace hE := hE.trans (y36.belo)
   replace R0 := R0.sto y36
   replace QR := QR.sto y36
   replace B10 := B10.sto y36
   have zw36 := y36.size
   replace B2 := N36
   refine RS.asI rfl ?_
   refine RS.asI rfl ?_
   refine nl hK35 ?_
   refine wp_ret ?_
   refine ret (rs := [.cell 2 26, .tmp 3, .tmp 4]) (vs := [.agg _, .int _ _, .int _ _]) (v := (.tuple #[.agg _, .int _ _, .int _ _])) rfl ⟨⟨_, rfl, loadVar_agg Tryd.underlying26 rfl C26 (by decide) rfl (B2.cellsN 4 rfl)⟩, rfl, rfl, trivial⟩ rfl ?_
   rw [S.vd_fail (S.valR_twoN hk (by omega))]
   exact ⟨_, rfl, hE, rfl⟩
  have hlt : ¬ r.length < 8 := by omega
  refine wp_skip ?_
  refine hK32 _ _ ?_
  refine wp_seq_k (fun K37 hK37 => ?_)
  refine wp_seq_k (fun K38 hK38 => ?_)
  have QS := QR.sub 0 8 (c - 1) (by omega) (by omega) (by omega)
  have hQb := QS.bd
  have hQl := QS.len
  rw [List.drop_zero] at hQb hQl
  have hq8 : (r.take 8).length = 8 := by rw [List.length_take]; omega
  refine region ?_
  refine RS.mvS rfl ?_
  refine RS.o (D.slice (kl := .i64) (kh := .i64) rfl Tryd.underlying35 C5 (by decide) rfl rfl (by omega) (by omega)) ?_
  refine RS.o (D.len rfl Tryd.underlying35) ?_
  refine RS.mvI rfl ?_
  refine nl hK38 ?_
  refine wp_block ?_
  refine C.loop (A := Int × Int) (fun p => [(42, .int .i64 p.1)]) [10, 43, 44, 45, 46, 47, 48, 49, 50, 51, 52, 53] (fun p w' => Pr (fun k => k = b10) w11 w' ∧ (Blk w' b10 [.int .u8 x, .int .i64 0, .int .u64 p.2, .string .empty] 26 ∧ (0 ≤ p.1 ∧ p.1 ≤ 8) ∧ p.2 = S.be ((r.take 8).take p.1.toNat))) (fun p => (8 - p.1.toNat)) (0, 0) (by kernel_rfl) ?_ ?_
  ·exact ⟨Pr.refl _ _, B10, ⟨by dsimp only; omega, by dsimp only; omega⟩, rfl⟩
  rintro p j w39 ⟨x39, hI⟩
  replace hE := hE.trans (x39.belo)
  replace R0 := R0.pro x39
  replace B2 := B2.pro x39
  replace QR := QR.pro x39
  replace QS := QS.pro x39
  have zw39 := x39.size
  obtain ⟨i, acc⟩ := p
  dsimp only at hI
  obtain ⟨B10, g1, g2⟩ := hI
  have g3 := S.be8_lt (r.take 8) i.toNat hQb (by omega)
  rw [← g2] at g3
  refine C.norm (by simp only [upd, junk, List.map_cons, List.map_nil, List.set_cons_succ, List.set_cons_zero]; exact rfl) ?_
  refine sq fun K40 hK40 => ?_
  refine RS.o (D.lt rfl rfl) ?_
  refine nl hK40 ?_
  refine wp_seq_k (fun K41 hK41 => ?_)
  refine C.ifd rfl (fun c42 => ?_) (fun c42 => ?_)
  ·refine wp_skip ?_
   refine hK41 _ _ ?_
   refine wp_seq_k (fun K43 hK43 => ?_)
   refine wp_block ?_
   refine sq fun K44 hK44 => ?_
   refine RS.idx QS rfl rfl Tryd.underlying35 C5 (by omega) (fun b45 o45 v45 h45 q45 r45 => ?_)
   refine RS.nm ?_
   simp only [lim] at r45
   have q6 := q45
   rw [List.drop_zero] at q6
   refine RS.o (D.load rfl Tryd.underlying5 rfl (h45)) ?_
   refine RS.asI rfl ?_
   refine nl hK44 ?_
   refine region ?_
   refine RS.o (D.fieldL 2 rfl Tryd.underlying26 rfl C24 (by decide) rfl) ?_
   refine RS.o (D.load rfl Tryd.underlying24 rfl (B10.cell rfl)) ?_
   refine RS.o (D.shl rfl rfl (by constructor <;> (try simp only [IntKind.bits]) <;> omega) (by first | exact W.u64 (by omega) | exact W.u64m _)) ?_
   refine RS.mvI rfl ?_
   refine RS.o (D.conv rfl Tryd.underlying5 Tryd.underlying24 (by first | exact W.u64 (by omega) | exact W.u64m _)) ?_
   refine RS.ob (D.bor_u64 rfl rfl (by omega) (by omega)) (fun z46 => ?_)
   refine RS.o (D.fieldL 2 rfl Tryd.underlying26 rfl C24 (by decide) rfl) ?_
   refine RS.store rfl (v := .int _ _) rfl C24 rfl B10 rfl (fun w47 y47 N47 => ?_)
   replace hE := hE.trans (y47.belo)
   replace x39 := x39.stno y47
   replace R0 := R0.sto y47
   replace B2 := B2.sto y47
   replace QR := QR.sto y47
   replace QS := QS.sto y47
   have zw47 := y47.size
   replace B10 := N47
   refine nl hK43 ?_
   refine region ?_
   refine RS.o (D.add rfl rfl (W.i64 (by omega))) ?_
   refine RS.mvI rfl ?_
   refine RS.nil ?_
   change Nx _ _ _ _ _ _ _ _
   refine C.next (i + 1, S.be ((r.take 8).take (i + 1).toNat)) ⟨rfl, trivial⟩ (by kernel_rfl) ?_ ?_
   ·have hnx := S.be_next (r.take 8) i.toNat hQb (by omega) (by omega)
    rw [← g2, ← q6, show i.toNat + 1 = (i + 1).toNat by omega] at hnx
    refine ⟨x39, ?_, ⟨by dsimp only; omega, by dsimp only; omega⟩, rfl⟩
    dsimp only
    rw [← hnx]
    exact B10
   dsimp only; omega
  refine wp_exit ?_
  refine hK37 _ _ ?_
  have hacc : acc = S.be (r.take 8) := by rw [g2, show i.toNat = 8 by omega, List.take_take]; rfl
  refine region ?_
  refine RS.asI rfl ?_
  refine nl hK12 ?_
  refine wp_seq_k (fun K48 hK48 => ?_)
  refine sq fun K49 hK49 => ?_
  refine RS.mvI rfl ?_
  refine RS.o (D.ne rfl rfl) ?_
  refine RS.mvB rfl ?_
  refine RS.splitn 67 rfl rfl (fun c50 => ?_) (fun c50 => ?_)
  ·refine RS.nm ?_
   have hbad := c50
   refine RS.skT 67 ?_
   refine RS.skT 67 ?_
   refine RS.skT 67 ?_
   refine RS.pick (v := .bool true) rfl rfl ?_
   refine nl hK49 ?_
   refine C.ift rfl ?_
   refine sq fun K51 hK51 => ?_
   refine RS.o (D.buildS T26 F26 (ps := []) rfl rfl) ?_
   refine RS.storeAggB rfl rfl C26 (by decide) rfl rfl B2 rfl (fun w52 y52 N52 => ?_)
   replace hE := hE.trans (y52.belo)
   replace R0 := R0.sto y52
   replace QR := QR.sto y52
   replace B10 := B10.sto y52
   replace QS := QS.sto y52
   have zw52 := y52.size
   replace B2 := N52
   refine RS.asI rfl ?_
   refine RS.asI rfl ?_
   refine nl hK51 ?_
   refine wp_ret ?_
   refine ret (rs := [.cell 2 26, .tmp 3, .tmp 4]) (vs := [.agg _, .int _ _, .int _ _]) (v := (.tuple #[.agg _, .int _ _, .int _ _])) rfl ⟨⟨_, rfl, loadVar_agg Tryd.underlying26 rfl C26 (by decide) rfl (B2.cellsN 4 rfl)⟩, rfl, rfl, trivial⟩ rfl ?_
   first | exact absurd rfl hbad | (rw [S.vd_fail (S.valR_oneN hk hbad)]; exact ⟨_, rfl, hE, rfl⟩) | (rw [S.vd_fail (S.valR_threeN hk hbad)]; exact ⟨_, rfl, hE, rfl⟩)
  refine RS.nm ?_
  first | have hv := S.valR_one hk c50 | have hv := S.valR_two hk hlt hacc | have hv := S.valR_three hk c50 | have hv := S.valR_else (r := r) hk1 hk2 hk3
  refine RS.wt 67 ?_
  refine RS.o (D.loadAgg rfl Tryd.underlying26 rfl C26 (by decide) rfl (B10.cellsN 4 rfl)) ?_
  refine RS.wt 67 ?_
  refine RS.call E52 (checkV _ _ _ _ (by omega) (by omega) (by omega) _) rfl (fun v53 w53 x53 A53 => ?_)
  replace hE := Ext.tr hE x53
  replace R0 := R0.ext x53
  replace B2 := B2.ext x53
  replace QR := QR.ext x53
  replace B10 := B10.ext x53
  replace QS := QS.ext x53
  have zw53 := x53.size
  subst A53
  refine RS.nm ?_
  refine RS.wt 67 ?_
  refine RS.o (D.ne rfl rfl) ?_
  refine RS.pick (v := .bool _) rfl rfl ?_
  refine nl hK49 ?_
  refine C.ifn rfl (fun c54 => ?_) (fun c54 => ?_)
  ·have hz := c54
   refine sq fun K55 hK55 => ?_
   refine RS.o (D.buildS T26 F26 (ps := []) rfl rfl) ?_
   refine RS.storeAggB rfl rfl C26 (by decide) rfl rfl B2 rfl (fun w56 y56 N56 => ?_)
   replace hE := hE.trans (y56.belo)
   replace R0 := R0.sto y56
   replace QR := QR.sto y56
   replace B10 := B10.sto y56
   replace QS := QS.sto y56
   have zw56 := y56.size
   replace B2 := N56
   refine RS.asI rfl ?_
   refine RS.asI rfl ?_
   refine nl hK55 ?_
   refine wp_ret ?_
   refine ret (rs := [.cell 2 26, .tmp 3, .tmp 4]) (vs := [.agg _, .int _ _, .int _ _]) (v := (.tuple #[.agg _, .int _ _, .int _ _])) rfl ⟨⟨_, rfl, loadVar_agg Tryd.underlying26 rfl C26 (by decide) rfl (B2.cellsN 4 rfl)⟩, rfl, rfl, trivial⟩ rfl ?_
   rw [S.vd_bad hv hz]
   exact ⟨_, rfl, hE, rfl⟩
  have hz := c54
  refine wp_skip ?_
  refine hK48 _ _ ?_
  refine sq fun K57 hK57 => ?_
  refine RS.o (D.loadAgg rfl Tryd.underlying26 rfl C26 (by decide) rfl (B10.cellsN 4 rfl)) ?_
  refine RS.mvI rfl ?_
  refine RS.o (D.add rfl rfl (W.i64 (by omega))) ?_
  refine RS.storeAggB rfl rfl C26 (by decide) rfl rfl B2 rfl (fun w58 y58 N58 => ?_)
  replace hE := hE.trans (y58.belo)
  replace R0 := R0.sto y58
  replace QR := QR.sto y58
  replace B10 := B10.sto y58
  replace QS := QS.sto y58
  have zw58 := y58.size
  replace B2 := N58
  refine RS.asI rfl ?_
  refine RS.asI rfl ?_
  refine nl hK57 ?_
  refine wp_ret ?_
  refine ret (rs := [.cell 2 26, .tmp 3, .tmp 4]) (vs := [.agg _, .int _ _, .int _ _]) (v := (.tuple #[.agg _, .int _ _, .int _ _])) rfl ⟨⟨_, rfl, loadVar_agg Tryd.underlying26 rfl C26 (by decide) rfl (B2.cellsN 4 rfl)⟩, rfl, rfl, trivial⟩ rfl ?_
  rw [S.vd_good hv hz]
  exact ⟨_, rfl, hE, rfl⟩
 have hk2 := c31
 refine sq fun K59 hK59 => ?_
 refine RS.o (D.eq rfl rfl) ?_
 refine RS.asB rfl ?_
 refine nl hK59 ?_
 refine C.ife rfl (fun c60 => ?_) (fun c60 => ?_)
 ·have hk := c60
  refine sq fun K61 hK61 => ?_
  refine RS.asS rfl ?_
  refine nl hK61 ?_
  refine sq fun K62 hK62 => ?_
  refine RS.mvS rfl ?_
  refine RS.call E75 (readB _ _ _ _ 30 (by decide) _ QR (by omega) (by omega)) rfl (fun v63 w63 x63 A63 => ?_)
  replace hE := Ext.tr hE x63
  replace R0 := R0.ext x63
  replace B2 := B2.ext x63
  replace QR := QR.ext x63
  replace B10 := B10.ext x63
  have zw63 := x63.size
  obtain ⟨aC, nC, cC, rfl, OC⟩ := A63
  have hOC := OC.lo
  refine RS.nm ?_
  refine RS.move (v := .tuple _) rfl ?_
  refine RS.extract (v := .slice _ _ _) rfl rfl ?_
  refine RS.extract (v := .int _ _) rfl rfl ?_
  refine RS.extract (v := .int _ _) rfl rfl ?_
  refine RS.asS rfl ?_
  refine RS.asI rfl ?_
  refine RS.asI rfl ?_
  refine nl hK62 ?_
  refine region ?_
  refine RS.mvS rfl ?_
  refine RS.o (D.convBS OC.row rfl Tryd.underlying35 Tryd.underlying5 Tryd.underlying9) ?_
  refine RS.o (D.fieldL 3 rfl Tryd.underlying26 rfl C9 (by decide) rfl) ?_
  refine RS.store rfl  rfl C9 rfl B10 rfl (fun w64 y64 N64 => ?_)
  replace hE := hE.trans (y64.belo)
  replace R0 := R0.sto y64
  replace B2 := B2.sto y64
  replace QR := QR.sto y64
  replace OC := OC.st y64 (by intros; try (first | (intro _ _) | (intro _) | skip); first | omega | (have hq := hOC _ (by assumption); first | omega | (dsimp only at *; omega)))
  have zw64 := y64.size
  replace B10 := N64
  refine nl hK12 ?_
  refine wp_seq_k (fun K65 hK65 => ?_)
  refine sq fun K66 hK66 => ?_
  refine RS.mvI rfl ?_
  refine RS.o (D.ne rfl rfl) ?_
  refine RS.mvB rfl ?_
  refine RS.splitn 67 rfl rfl (fun c67 => ?_) (fun c67 => ?_)
  ·refine RS.nm ?_
   have hbad := c67
   refine RS.skT 67 ?_
   refine RS.skT 67 ?_
   refine RS.skT 67 ?_
   refine RS.pick (v := .bool true) rfl rfl ?_
   refine nl hK66 ?_
   refine C.ift rfl ?_
   refine sq fun K68 hK68 => ?_
   refine RS.o (D.buildS T26 F26 (ps := []) rfl rfl) ?_
   refine RS.storeAggB rfl rfl C26 (by decide) rfl rfl B2 rfl (fun w69 y69 N69 => ?_)
   replace hE := hE.trans (y69.belo)
   replace R0 := R0.sto y69
   replace QR := QR.sto y69
   replace B10 := B10.sto y69
   replace OC := OC.st y69 (by intros; try (first | (intro _ _) | (intro _) | skip); first | omega | (have hq := hOC _ (by assumption); first | omega | (dsimp only at *; omega)))
   have zw69 := y69.size
   replace B2 := N69
   refine RS.asI rfl ?_
   refine RS.asI rfl ?_
   refine nl hK68 ?_
   refine wp_ret ?_
   refine ret (rs := [.cell 2 26, .tmp 3, .tmp 4]) (vs := [.agg _, .int _ _, .int _ _]) (v := (.tuple #[.agg _, .int _ _, .int _ _])) rfl ⟨⟨_, rfl, loadVar_agg Tryd.underlying26 rfl C26 (by decide) rfl (B2.cellsN 4 rfl)⟩, rfl, rfl, trivial⟩ rfl ?_
   first | exact absurd rfl hbad | (rw [S.vd_fail (S.valR_oneN hk hbad)]; exact ⟨_, rfl, hE, rfl⟩) | (rw [S.vd_fail (S.valR_threeN hk hbad)]; exact ⟨_, rfl, hE, rfl⟩)
  refine RS.nm ?_
  first | have hv := S.valR_one hk c67 | have hv := S.valR_two hk hlt hacc | have hv := S.valR_three hk c67 | have hv := S.valR_else (r := r) hk1 hk2 hk3
  refine RS.wt 67 ?_
  refine RS.o (D.loadAgg rfl Tryd.underlying26 rfl C26 (by decide) rfl (B10.cellsN 4 rfl)) ?_
  refine RS.wt 67 ?_
  refine RS.call E52 (checkV _ _ _ _ (by omega) (by omega) (by omega) _) rfl (fun v70 w70 x70 A70 => ?_)
  replace hE := Ext.tr hE x70
  replace R0 := R0.ext x70
  replace B2 := B2.ext x70
  replace QR := QR.ext x70
  replace B10 := B10.ext x70
  replace OC := OC.ext x70
  have zw70 := x70.size
  subst A70
  refine RS.nm ?_
  refine RS.wt 67 ?_
  refine RS.o (D.ne rfl rfl) ?_
  refine RS.pick (v := .bool _) rfl rfl ?_
  refine nl hK66 ?_
  refine C.ifn rfl (fun c71 => ?_) (fun c71 => ?_)
  ·have hz := c71
   refine sq fun K72 hK72 => ?_
   refine RS.o (D.buildS T26 F26 (ps := []) rfl rfl) ?_
   refine RS.storeAggB rfl rfl C26 (by decide) rfl rfl B2 rfl (fun w73 y73 N73 => ?_)
   replace hE := hE.trans (y73.belo)
   replace R0 := R0.sto y73
   replace QR := QR.sto y73
   replace B10 := B10.sto y73
   replace OC := OC.st y73 (by intros; try (first | (intro _ _) | (intro _) | skip); first | omega | (have hq := hOC _ (by assumption); first | omega | (dsimp only at *; omega)))
   have zw73 := y73.size
   replace B2 := N73
   refine RS.asI rfl ?_
   refine RS.asI rfl ?_
   refine nl hK72 ?_
   refine wp_ret ?_
   refine ret (rs := [.cell 2 26, .tmp 3, .tmp 4]) (vs := [.agg _, .int _ _, .int _ _]) (v := (.tuple #[.agg _, .int _ _, .int _ _])) rfl ⟨⟨_, rfl, loadVar_agg Tryd.underlying26 rfl C26 (by decide) rfl (B2.cellsN 4 rfl)⟩, rfl, rfl, trivial⟩ rfl ?_
   rw [S.vd_bad hv hz]
   exact ⟨_, rfl, hE, rfl⟩
  have hz := c71
  refine wp_skip ?_
  refine hK65 _ _ ?_
  refine sq fun K74 hK74 => ?_
  refine RS.o (D.loadAgg rfl Tryd.underlying26 rfl C26 (by decide) rfl (B10.cellsN 4 rfl)) ?_
  refine RS.mvI rfl ?_
  refine RS.o (D.add rfl rfl (W.i64 (by omega))) ?_
  refine RS.storeAggB rfl rfl C26 (by decide) rfl rfl B2 rfl (fun w75 y75 N75 => ?_)
  replace hE := hE.trans (y75.belo)
  replace R0 := R0.sto y75
  replace QR := QR.sto y75
  replace B10 := B10.sto y75
  replace OC := OC.st y75 (by intros; try (first | (intro _ _) | (intro _) | skip); first | omega | (have hq := hOC _ (by assumption); first | omega | (dsimp only at *; omega)))
  have zw75 := y75.size
  replace B2 := N75
  refine RS.asI rfl ?_
  refine RS.asI rfl ?_
  refine nl hK74 ?_
  refine wp_ret ?_
  refine ret (rs := [.cell 2 26, .tmp 3, .tmp 4]) (vs := [.agg _, .int _ _, .int _ _]) (v := (.tuple #[.agg _, .int _ _, .int _ _])) rfl ⟨⟨_, rfl, loadVar_agg Tryd.underlying26 rfl C26 (by decide) rfl (B2.cellsN 4 rfl)⟩, rfl, rfl, trivial⟩ rfl ?_
  rw [S.vd_good hv hz]
  exact ⟨_, rfl, hE, rfl⟩
 have hk3 := c60
 refine wp_skip ?_
 refine hK12 _ _ ?_
 refine wp_seq_k (fun K76 hK76 => ?_)
 refine sq fun K77 hK77 => ?_
 refine RS.mvI rfl ?_
 refine RS.o (D.ne rfl rfl) ?_
 refine RS.mvB rfl ?_
 refine RS.splitn 67 rfl rfl (fun c78 => ?_) (fun c78 => ?_)
 ·refine RS.nm ?_
  have hbad := c78
  refine RS.skT 67 ?_
  refine RS.skT 67 ?_
  refine RS.skT 67 ?_
  refine RS.pick (v := .bool true) rfl rfl ?_
  refine nl hK77 ?_
  refine C.ift rfl ?_
  refine sq fun K79 hK79 => ?_
  refine RS.o (D.buildS T26 F26 (ps := []) rfl rfl) ?_
  refine RS.storeAggB rfl rfl C26 (by decide) rfl rfl B2 rfl (fun w80 y80 N80 => ?_)
  replace hE := hE.trans (y80.belo)
  replace R0 := R0.sto y80
  replace QR := QR.sto y80
  replace B10 := B10.sto y80
  have zw80 := y80.size
  replace B2 := N80
  refine RS.asI rfl ?_
  refine RS.asI rfl ?_
  refine nl hK79 ?_
  refine wp_ret ?_
  refine ret (rs := [.cell 2 26, .tmp 3, .tmp 4]) (vs := [.agg _, .int _ _, .int _ _]) (v := (.tuple #[.agg _, .int _ _, .int _ _])) rfl ⟨⟨_, rfl, loadVar_agg Tryd.underlying26 rfl C26 (by decide) rfl (B2.cellsN 4 rfl)⟩, rfl, rfl, trivial⟩ rfl ?_
  first | exact absurd rfl hbad | (rw [S.vd_fail (S.valR_oneN hk hbad)]; exact ⟨_, rfl, hE, rfl⟩) | (rw [S.vd_fail (S.valR_threeN hk hbad)]; exact ⟨_, rfl, hE, rfl⟩)
 refine RS.nm ?_
 first | have hv := S.valR_one hk c78 | have hv := S.valR_two hk hlt hacc | have hv := S.valR_three hk c78 | have hv := S.valR_else (r := r) hk1 hk2 hk3
 refine RS.wt 67 ?_
 refine RS.o (D.loadAgg rfl Tryd.underlying26 rfl C26 (by decide) rfl (B10.cellsN 4 rfl)) ?_
 refine RS.wt 67 ?_
 refine RS.call E52 (checkV _ _ _ _ (by omega) (by omega) (by omega) _) rfl (fun v81 w81 x81 A81 => ?_)
 replace hE := Ext.tr hE x81
 replace R0 := R0.ext x81
 replace B2 := B2.ext x81
 replace QR := QR.ext x81
 replace B10 := B10.ext x81
 have zw81 := x81.size
 subst A81
 refine RS.nm ?_
 refine RS.wt 67 ?_
 refine RS.o (D.ne rfl rfl) ?_
 refine RS.pick (v := .bool _) rfl rfl ?_
 refine nl hK77 ?_
 refine C.ifn rfl (fun c82 => ?_) (fun c82 => ?_)
 ·have hz := c82
  refine sq fun K83 hK83 => ?_
  refine RS.o (D.buildS T26 F26 (ps := []) rfl rfl) ?_
  refine RS.storeAggB rfl rfl C26 (by decide) rfl rfl B2 rfl (fun w84 y84 N84 => ?_)
  replace hE := hE.trans (y84.belo)
  replace R0 := R0.sto y84
  replace QR := QR.sto y84
  replace B10 := B10.sto y84
  have zw84 := y84.size
  replace B2 := N84
  refine RS.asI rfl ?_
  refine RS.asI rfl ?_
  refine nl hK83 ?_
  refine wp_ret ?_
  refine ret (rs := [.cell 2 26, .tmp 3, .tmp 4]) (vs := [.agg _, .int _ _, .int _ _]) (v := (.tuple #[.agg _, .int _ _, .int _ _])) rfl ⟨⟨_, rfl, loadVar_agg Tryd.underlying26 rfl C26 (by decide) rfl (B2.cellsN 4 rfl)⟩, rfl, rfl, trivial⟩ rfl ?_
  rw [S.vd_bad hv hz]
  exact ⟨_, rfl, hE, rfl⟩
 have hz := c82
 refine wp_skip ?_
 refine hK76 _ _ ?_
 refine sq fun K85 hK85 => ?_
 refine RS.o (D.loadAgg rfl Tryd.underlying26 rfl C26 (by decide) rfl (B10.cellsN 4 rfl)) ?_
 refine RS.mvI rfl ?_
 refine RS.o (D.add rfl rfl (W.i64 (by omega))) ?_
 refine RS.storeAggB rfl rfl C26 (by decide) rfl rfl B2 rfl (fun w86 y86 N86 => ?_)
 replace hE := hE.trans (y86.belo)
 replace R0 := R0.sto y86
 replace QR := QR.sto y86
 replace B10 := B10.sto y86
 have zw86 := y86.size
 replace B2 := N86
 refine RS.asI rfl ?_
 refine RS.asI rfl ?_
 refine nl hK85 ?_
 refine wp_ret ?_
 refine ret (rs := [.cell 2 26, .tmp 3, .tmp 4]) (vs := [.agg _, .int _ _, .int _ _]) (v := (.tuple #[.agg _, .int _ _, .int _ _])) rfl ⟨⟨_, rfl, loadVar_agg Tryd.underlying26 rfl C26 (by decide) rfl (B2.cellsN 4 rfl)⟩, rfl, rfl, trivial⟩ rfl ?_
 rw [S.vd_good hv hz]
 exact ⟨_, rfl, hE, rfl⟩
theorem rNext (b N : Nat) (T : TypeId) (hN : N ≤ b) (a : Option Addr) (n c : Nat) (bs : List Int) (bad : Bool) (u : Nat) (e : Int) (hu : e = 0 → u ≤ n) (w : World) (B0 : Blk w b [.slice a n c, .bool bad] T) (R0 : IRow .u8 (fun k => k < N) w a n bs) (hc : n ≤ c) (hn : n ≤ 1000000) :
  Calls Tryd.prog 74 #[.pointer (some ⟨b, 0, none⟩), .int .i64 u, .int .i64 e] w (fun ex w' => ex = .returned (.tuple #[]) ∧ Pr (fun k => k = b) w w' ∧ ∃ a' n' c', Blk w' b [.slice a' n' c', .bool (S.nxB e bad)] T ∧ n' ≤ c' ∧ n' ≤ n ∧ IRow .u8 (fun k => k < N) w' a' n' (S.nxL e u bs)) := by
 have hbb := B0.lt
 have hbl := R0.len
 have hbd := R0.bd
 have hE := Pr.refl (fun k => k = b) w
 refine enterU 17 Tryd.func74 rfl rfl ?_
 refine wp_seq_k (fun K1 hK1 => ?_)
 refine sq fun K2 hK2 => ?_
 refine RS.mvI rfl ?_
 refine RS.o (D.ne rfl rfl) ?_
 refine nl hK2 ?_
 refine C.ifn rfl (fun c3 => ?_) (fun c3 => ?_)
 ·have he := c3
  refine sq fun K4 hK4 => ?_
  refine RS.mvP rfl ?_
  refine RS.nilCheck rfl ?_
  refine RS.o (D.fieldL 1 rfl Tryd.underlying103 rfl C4 (by decide) rfl) ?_
  refine RS.store rfl  rfl C4 rfl B0 rfl (fun w5 y5 N5 => ?_)
  replace hE := hE.stno y5
  replace R0 := R0.sto y5
  have zw5 := y5.size
  replace B0 := N5
  refine nl hK4 ?_
  refine wp_ret ?_
  change bodyPost Tryd.prog Tryd.f74 (fun ex w' => ex = .returned (.tuple #[]) ∧ Pr (fun k => k = b) w w' ∧ ∃ a' n' c', Blk w' b [.slice a' n' c', .bool (S.nxB e bad)] T ∧ n' ≤ c' ∧ n' ≤ n ∧ IRow .u8 (fun k => k < N) w' a' n' (S.nxL e u bs)) .ret _ _
  refine ret (rs := []) (vs := []) rfl trivial rfl ?_
  obtain ⟨e1, e2⟩ := S.nx_ne he u bad bs
  rw [e1, e2]
  exact ⟨rfl, hE, _, _, _, B0, hc, Nat.le_refl _, R0⟩
 have he := c3
 have hu2 := hu he
 refine wp_skip ?_
 refine hK1 _ _ ?_
 refine region ?_
 refine RS.mvP rfl ?_
 refine RS.mvP rfl ?_
 refine RS.nilCheck rfl ?_
 refine RS.o (D.fieldL 0 rfl Tryd.underlying103 rfl C35 (by decide) rfl) ?_
 refine RS.o (D.load rfl Tryd.underlying35 rfl (B0.cell rfl)) ?_
 refine RS.mvI rfl ?_
 refine RS.o (D.slice (kl := .i64) (kh := .i64) rfl Tryd.underlying35 C5 (by decide) rfl rfl (by omega) (by omega)) ?_
 refine RS.nilCheck rfl ?_
 refine RS.o (D.fieldL 0 rfl Tryd.underlying103 rfl C35 (by decide) rfl) ?_
 refine RS.store rfl  rfl C35 rfl B0 rfl (fun w6 y6 N6 => ?_)
 replace hE := hE.stno y6
 replace R0 := R0.sto y6
 have zw6 := y6.size
 replace B0 := N6
 refine RS.nil ?_
 refine retN (rs := []) (vs := []) rfl trivial rfl ?_
 obtain ⟨e1, e2⟩ := S.nx_zero he u bad bs
 rw [e1, e2]
 exact ⟨rfl, hE, _, _, _, B0, by omega, by omega, R0.rest u c (by omega) hc⟩
theorem rNumber (b N : Nat) (T : TypeId) (hN : N ≤ b) (a : Option Addr) (n c : Nat) (bs : List Int) (bad : Bool) (most : Int) (hm : 0 ≤ most ∧ most < 18446744073709551616) (w : World) (B0 : Blk w b [.slice a n c, .bool bad] T) (R0 : IRow .u8 (fun k => k < N) w a n bs) (hc : n ≤ c) (hn : n ≤ 1000000) :
  Calls Tryd.prog 72 #[.pointer (some ⟨b, 0, none⟩), .int .u64 most] w (fun ex w' => ex = .returned (.int .u64 (S.numB most bad bs).1) ∧ Pr (fun k => k = b) w w' ∧ ∃ a' n' c', Blk w' b [.slice a' n' c', .bool (S.numB most bad bs).2.1] T ∧ n' ≤ c' ∧ n' ≤ n ∧ IRow .u8 (fun k => k < N) w' a' n' (S.numB most bad bs).2.2) := by
 have hbb := B0.lt
 have hbl := R0.len
 have hbd := R0.bd
 have hrd := S.rd_bd hbd
 have hE := Pr.refl (fun k => k = b) w
 refine enterU 32 Tryd.func72 rfl rfl ?_
 refine sq fun K1 hK1 => ?_
 refine RS.asI rfl ?_
 refine nl hK1 ?_
 refine sq fun K2 hK2 => ?_
 refine RS.mvP rfl ?_
 refine RS.nilCheck rfl ?_
 refine RS.o (D.fieldL 0 rfl Tryd.underlying103 rfl C35 (by decide) rfl) ?_
 refine RS.o (D.load rfl Tryd.underlying35 rfl (B0.cell rfl)) ?_
 refine RS.call E105 (readN _ _ _ _ _ R0 hc hn) rfl (fun v3 w3 x3 A3 => ?_)
 replace hE := hE.ext x3
 replace B0 := B0.ext x3
 replace R0 := R0.ext x3
 have zw3 := x3.size
 subst A3
 refine RS.nm ?_
 refine RS.move (v := .tuple _) rfl ?_
 refine RS.extract (v := .int _ _) rfl rfl ?_
 refine RS.extract (v := .int _ _) rfl rfl ?_
 refine RS.extract (v := .int _ _) rfl rfl ?_
 refine RS.asI rfl ?_
 refine RS.asI rfl ?_
 refine RS.asI rfl ?_
 refine nl hK2 ?_
 refine sq fun K4 hK4 => ?_
 refine RS.mvP rfl ?_
 refine RS.mvI rfl ?_
 refine RS.mvI rfl ?_
 refine RS.callx E74 (rNext _ N _ hN _ _ _ _ _ (S.rdU bs) (S.rdE bs) (by omega) _ B0 R0 hc (by omega)) rfl (fun e5 w5 A5 => ?_)
 obtain ⟨rfl, X5, a5, n5, c5, N5, hc5, hn5, Q5⟩ := A5
 refine ⟨_, rfl, ?_⟩
 refine RS.nm ?_
 replace hE := hE.prno X5
 replace R0 := R0.pro X5
 have zw5 := X5.size
 replace B0 := N5
 have R1 := Q5
 refine nl hK4 ?_
 refine wp_seq_k (fun K6 hK6 => ?_)
 obtain ⟨e1, e2, e3⟩ := S.numB_rd most bad bs
 refine region ?_
 refine RS.mvP rfl ?_
 refine RS.mvP rfl ?_
 refine RS.nilCheck rfl ?_
 refine RS.o (D.fieldL 1 rfl Tryd.underlying103 rfl C4 (by decide) rfl) ?_
 refine RS.o (D.load rfl Tryd.underlying4 rfl (B0.cell rfl)) ?_
 refine RS.mvB rfl ?_
 refine RS.splitb 26 rfl rfl (fun c7 => ?_) (fun c7 => ?_)
 ·refine RS.nm ?_
  rw [c7] at e2
  refine RS.skT 26 ?_
  refine RS.skT 26 ?_
  refine RS.skT 26 ?_
  refine RS.pick (v := .bool true) rfl rfl ?_
  refine RS.nilCheck rfl ?_
  refine RS.o (D.fieldL 1 rfl Tryd.underlying103 rfl C4 (by decide) rfl) ?_
  refine RS.store rfl  rfl C4 rfl B0 rfl (fun w8 y8 N8 => ?_)
  replace hE := hE.stno y8
  replace R1 := R1.sto y8
  have zw8 := y8.size
  replace B0 := N8
  refine nl hK6 ?_
  refine sq fun K9 hK9 => ?_
  refine RS.mvI rfl ?_
  refine RS.asI rfl ?_
  refine nl hK9 ?_
  refine wp_ret ?_
  change bodyPost Tryd.prog Tryd.f72 (fun ex w' => ex = .returned (.int .u64 (S.numB most bad bs).1) ∧ Pr (fun k => k = b) w w' ∧ ∃ a' n' c', Blk w' b [.slice a' n' c', .bool (S.numB most bad bs).2.1] T ∧ n' ≤ c' ∧ n' ≤ n ∧ IRow .u8 (fun k => k < N) w' a' n' (S.numB most bad bs).2.2) .ret _ _
  refine retI rfl rfl ?_
  rw [← e1, ← e2, ← e3]
  exact ⟨rfl, hE, _, _, _, B0, by assumption, by assumption, R1⟩
 refine RS.nm ?_
 rw [c7] at e2
 refine RS.wt 26 ?_
 refine RS.mvI rfl ?_
 refine RS.wt 26 ?_
 refine RS.mvI rfl ?_
 refine RS.wt 26 ?_
 refine RS.o (D.gt rfl rfl) ?_
 refine RS.pick (v := .bool _) rfl rfl ?_
 refine RS.nilCheck rfl ?_
 refine RS.o (D.fieldL 1 rfl Tryd.underlying103 rfl C4 (by decide) rfl) ?_
 refine RS.store rfl  rfl C4 rfl B0 rfl (fun w10 y10 N10 => ?_)
 replace hE := hE.stno y10
 replace R1 := R1.sto y10
 have zw10 := y10.size
 replace B0 := N10
 refine nl hK6 ?_
 refine sq fun K11 hK11 => ?_
 refine RS.mvI rfl ?_
 refine RS.asI rfl ?_
 refine nl hK11 ?_
 refine wp_ret ?_
 change bodyPost Tryd.prog Tryd.f72 (fun ex w' => ex = .returned (.int .u64 (S.numB most bad bs).1) ∧ Pr (fun k => k = b) w w' ∧ ∃ a' n' c', Blk w' b [.slice a' n' c', .bool (S.numB most bad bs).2.1] T ∧ n' ≤ c' ∧ n' ≤ n ∧ IRow .u8 (fun k => k < N) w' a' n' (S.numB most bad bs).2.2) .ret _ _
 refine retI rfl rfl ?_
 rw [← e1, ← e2, ← e3, Bool.false_or]
 exact ⟨rfl, hE, _, _, _, B0, by assumption, by assumption, R1⟩
theorem rOne (b N : Nat) (T : TypeId) (hN : N ≤ b) (a : Option Addr) (n c : Nat) (bs : List Int) (bad : Bool) (w : World) (B0 : Blk w b [.slice a n c, .bool bad] T) (R0 : IRow .u8 (fun k => k < N) w a n bs) (hc : n ≤ c) (hn : n ≤ 1000000) :
  Calls Tryd.prog 71 #[.pointer (some ⟨b, 0, none⟩)] w (fun ex w' => ex = .returned (.int .u8 (S.oneB bad bs).1) ∧ Pr (fun k => k = b) w w' ∧ ∃ a' n' c', Blk w' b [.slice a' n' c', .bool (S.oneB bad bs).2.1] T ∧ n' ≤ c' ∧ n' ≤ n ∧ IRow .u8 (fun k => k < N) w' a' n' (S.oneB bad bs).2.2) := by
 have hbb := B0.lt
 have hbl := R0.len
 have hbd := R0.bd
 have hE := Pr.refl (fun k => k = b) w
 refine enterU 27 Tryd.func71 rfl rfl ?_
 refine sq fun K1 hK1 => ?_
 refine RS.asI rfl ?_
 refine nl hK1 ?_
 refine wp_seq_k (fun K2 hK2 => ?_)
 refine sq fun K3 hK3 => ?_
 refine RS.mvP rfl ?_
 refine RS.nilCheck rfl ?_
 refine RS.o (D.fieldL 1 rfl Tryd.underlying103 rfl C4 (by decide) rfl) ?_
 refine RS.o (D.load rfl Tryd.underlying4 rfl (B0.cell rfl)) ?_
 refine RS.mvB rfl ?_
 refine RS.splitb 8 rfl rfl (fun c4 => ?_) (fun c4 => ?_)
 ·refine RS.nm ?_
  have hb := c4
  refine RS.skT 8 ?_
  refine RS.skT 8 ?_
  refine RS.skT 8 ?_
  refine RS.skT 8 ?_
  refine RS.skT 8 ?_
  refine RS.skT 8 ?_
  refine RS.pick (v := .bool true) rfl rfl ?_
  refine nl hK3 ?_
  refine C.ift rfl ?_
  refine sq fun K5 hK5 => ?_
  refine RS.mvP rfl ?_
  refine RS.nilCheck rfl ?_
  refine RS.o (D.fieldL 1 rfl Tryd.underlying103 rfl C4 (by decide) rfl) ?_
  refine RS.store rfl  rfl C4 rfl B0 rfl (fun w6 y6 N6 => ?_)
  replace hE := hE.stno y6
  replace R0 := R0.sto y6
  have zw6 := y6.size
  replace B0 := N6
  refine nl hK5 ?_
  refine sq fun K7 hK7 => ?_
  refine RS.asI rfl ?_
  refine nl hK7 ?_
  refine wp_ret ?_
  change bodyPost Tryd.prog Tryd.f71 (fun ex w' => ex = .returned (.int .u8 (S.oneB bad bs).1) ∧ Pr (fun k => k = b) w w' ∧ ∃ a' n' c', Blk w' b [.slice a' n' c', .bool (S.oneB bad bs).2.1] T ∧ n' ≤ c' ∧ n' ≤ n ∧ IRow .u8 (fun k => k < N) w' a' n' (S.oneB bad bs).2.2) .ret _ _
  refine retI rfl rfl ?_
  subst hb
  exact ⟨rfl, hE, _, _, _, B0, hc, Nat.le_refl _, R0⟩
 refine RS.nm ?_
 have hb := c4
 refine RS.wt 8 ?_
 refine RS.mvP rfl ?_
 refine RS.wt 8 ?_
 refine RS.nilCheck rfl ?_
 refine RS.wt 8 ?_
 refine RS.o (D.fieldL 0 rfl Tryd.underlying103 rfl C35 (by decide) rfl) ?_
 refine RS.wt 8 ?_
 refine RS.o (D.load rfl Tryd.underlying35 rfl (B0.cell rfl)) ?_
 refine RS.wt 8 ?_
 refine RS.o (D.len rfl Tryd.underlying35) ?_
 refine RS.wt 8 ?_
 refine RS.o (D.eq rfl rfl) ?_
 refine RS.pick (v := .bool _) rfl rfl ?_
 refine nl hK3 ?_
 refine C.ife rfl (fun c8 => ?_) (fun c8 => ?_)
 ·have hz := c8
  refine sq fun K9 hK9 => ?_
  refine RS.mvP rfl ?_
  refine RS.nilCheck rfl ?_
  refine RS.o (D.fieldL 1 rfl Tryd.underlying103 rfl C4 (by decide) rfl) ?_
  refine RS.store rfl  rfl C4 rfl B0 rfl (fun w10 y10 N10 => ?_)
  replace hE := hE.stno y10
  replace R0 := R0.sto y10
  have zw10 := y10.size
  replace B0 := N10
  refine nl hK9 ?_
  refine sq fun K11 hK11 => ?_
  refine RS.asI rfl ?_
  refine nl hK11 ?_
  refine wp_ret ?_
  change bodyPost Tryd.prog Tryd.f71 (fun ex w' => ex = .returned (.int .u8 (S.oneB bad bs).1) ∧ Pr (fun k => k = b) w w' ∧ ∃ a' n' c', Blk w' b [.slice a' n' c', .bool (S.oneB bad bs).2.1] T ∧ n' ≤ c' ∧ n' ≤ n ∧ IRow .u8 (fun k => k < N) w' a' n' (S.oneB bad bs).2.2) .ret _ _
  refine retI rfl rfl ?_
  subst hb
  obtain rfl : bs = [] := List.eq_nil_of_length_eq_zero (by omega)
  exact ⟨rfl, hE, _, _, _, B0, hc, Nat.le_refl _, R0⟩
 have hz := c8
 refine wp_skip ?_
 refine hK2 _ _ ?_
 refine sq fun K12 hK12 => ?_
 refine RS.mvP rfl ?_
 refine RS.nilCheck rfl ?_
 refine RS.o (D.fieldL 0 rfl Tryd.underlying103 rfl C35 (by decide) rfl) ?_
 refine RS.o (D.load rfl Tryd.underlying35 rfl (B0.cell rfl)) ?_
 refine RS.idx R0 rfl rfl Tryd.underlying35 C5 (by omega) (fun b13 o13 v13 h13 q13 r13 => ?_)
 refine RS.nm ?_
 simp only [lim] at r13
 have q1 := q13
 refine RS.o (D.load rfl Tryd.underlying5 rfl (h13)) ?_
 refine RS.asI rfl ?_
 refine nl hK12 ?_
 refine sq fun K14 hK14 => ?_
 refine RS.mvP rfl ?_
 refine RS.callx E74 (rNext _ N _ hN _ _ _ _ _ 1 0 (by omega) _ B0 R0 hc (by omega)) rfl (fun e15 w15 A15 => ?_)
 obtain ⟨rfl, X15, a15, n15, c15, N15, hc15, hn15, Q15⟩ := A15
 refine ⟨_, rfl, ?_⟩
 refine RS.nm ?_
 replace hE := hE.prno X15
 replace R0 := R0.pro X15
 have zw15 := X15.size
 replace B0 := N15
 have R1 := Q15
 refine nl hK14 ?_
 refine sq fun K16 hK16 => ?_
 refine RS.mvI rfl ?_
 refine RS.asI rfl ?_
 refine nl hK16 ?_
 refine wp_ret ?_
 change bodyPost Tryd.prog Tryd.f71 (fun ex w' => ex = .returned (.int .u8 (S.oneB bad bs).1) ∧ Pr (fun k => k = b) w w' ∧ ∃ a' n' c', Blk w' b [.slice a' n' c', .bool (S.oneB bad bs).2.1] T ∧ n' ≤ c' ∧ n' ≤ n ∧ IRow .u8 (fun k => k < N) w' a' n' (S.oneB bad bs).2.2) .ret _ _
 refine retI rfl rfl ?_
 subst hb
 obtain ⟨x, r, rfl⟩ : ∃ x r, bs = x :: r := by
  cases bs with
  | nil => simp at hbl; omega
  | cons x r => exact ⟨x, r, rfl⟩
 rw [q1]
 exact ⟨rfl, hE, _, _, _, B0, by assumption, by assumption, R1⟩
end Go.Proofs.YtiohpiiiapjblaaDoor.W
namespace Go.Proofs.YtiohpiiiapjblaaDoor.W
open Go.RowKit Go.Proofs.YtiohpiiiapjblaaDoor.G
set_option linter.unusedVariables false
set_option maxRecDepth 20000
set_option maxHeartbeats 8000000
attribute [local irreducible] RS RX
theorem T103 : TI Tryd.prog 103 2 32 [.slice none 0 0, .bool false] := by
 have h : (Tryd.prog.info? 103).map (fun i => (i.size, i.bytes, i.zero)) = some (2, 32, some (.agg #[.slice none 0 0, .bool false])) := by kernel_rfl
 exact TI.of h rfl
theorem F103 : SI Tryd.prog 103 [(0, 1), (1, 1)] := ⟨_, Tryd.underlying103, by kernel_rfl, by kernel_rfl⟩
theorem E70 : Enters Tryd.prog 70 := .mk Tryd.func70 (by kernel_rfl) rfl
theorem E71 : Enters Tryd.prog 71 := .mk Tryd.func71 (by kernel_rfl) rfl
theorem E72 : Enters Tryd.prog 72 := .mk Tryd.func72 (by kernel_rfl) rfl
theorem E73 : Enters Tryd.prog 73 := .mk Tryd.func73 (by kernel_rfl) rfl
theorem E76 : Enters Tryd.prog 76 := .mk Tryd.func76 (by kernel_rfl) rfl
theorem decFail  (w : World) :
  Calls Tryd.prog 70 #[] w (Ret w fun v _ => v = .tuple #[.agg ([.int .u32 S.OpV.zero.au, .slice none S.OpV.zero.n 0, .int .u64 S.OpV.zero.st, .int .u8 S.OpV.zero.k, .string S.OpV.zero.key, .int .u8 S.OpV.zero.vk, .int .i64 S.OpV.zero.num, .int .u64 S.OpV.zero.bits, .string S.OpV.zero.t, .int .u32 S.OpV.zero.e, .int .u32 S.OpV.zero.s] : List Value).toArray, .int .i64 12]) := by
 have hE := Ext.refl w
 refine enterU 3 Tryd.func70 rfl rfl ?_
 refine sq fun K1 hK1 => ?_
 refine RS.alloc T32 (fun b2 w2 e2 s2 x2 B2 => ?_)
 refine RS.nm ?_
 replace hE := Ext.tr hE x2
 have zw2 := x2.size
 refine RS.asI rfl ?_
 refine nl hK1 ?_
 refine sq fun K3 hK3 => ?_
 refine RS.o (D.buildS T32 F32 (ps := []) rfl rfl) ?_
 refine RS.storeAggB rfl rfl C32 (by decide) rfl rfl B2 rfl (fun w4 y4 N4 => ?_)
 replace hE := hE.trans (y4.belo)
 have zw4 := y4.size
 replace B2 := N4
 refine RS.asI rfl ?_
 refine nl hK3 ?_
 refine wp_ret ?_
 refine ret (rs := [.cell 0 32, .tmp 1]) (vs := [.agg _, .int _ _]) (v := (.tuple #[.agg _, .int _ _])) rfl ⟨⟨_, rfl, loadVar_agg Tryd.underlying32 rfl C32 (by decide) rfl (B2.cellsN 11 rfl)⟩, rfl, trivial⟩ rfl ?_
 exact ⟨_, rfl, hE, rfl⟩
theorem decodeO {S0 : Nat → Prop} (a : Option Addr) (n c : Nat) (bs : List Int) (w : World) (R0 : IRow .u8 S0 w a n bs) (hc : n ≤ c) (hn : n ≤ 1000000) :
  Calls Tryd.prog 31 #[.slice a n c] w (Ret w fun v w' => ∃ a' c', v = .tuple #[.agg ([.int .u32 (S.decO bs).au, .slice a' (S.decO bs).n c', .int .u64 (S.decO bs).st, .int .u8 (S.decO bs).k, .string (S.decO bs).key, .int .u8 (S.decO bs).vk, .int .i64 (S.decO bs).num, .int .u64 (S.decO bs).bits, .string (S.decO bs).t, .int .u32 (S.decO bs).e, .int .u32 (S.decO bs).s] : List Value).toArray, .int .i64 (S.decE bs)] ∧ (S.decO bs).n ≤ c' ∧ WRow .u8 32 (fun k => w.heap.size ≤ k) w' a' (S.decO bs).n (S.decO bs).ids) := by
 replace R0 := R0.weaken (T := fun k => k < w.heap.size) (fun k hk _ => hk)
 have hbl := R0.len
 have hbd := R0.bd
 have hE := Ext.refl w
 refine enterU 124 Tryd.func31 rfl rfl ?_
 refine sq fun K1 hK1 => ?_
 refine RS.alloc T32 (fun b2 w2 e2 s2 x2 B2 => ?_)
 refine RS.nm ?_
 replace hE := Ext.tr hE x2
 replace R0 := R0.ext x2
 have zw2 := x2.size
 refine RS.asI rfl ?_
 refine nl hK1 ?_
 refine sq fun K3 hK3 => ?_
 refine RS.mvS rfl ?_
 refine RS.o (D.buildS T103 F103 (ps := [(0, .slice _ _ _)]) rfl rfl) ?_
 refine RS.box rfl rfl (fun b4 w4 e4 s4 x4 B4 => ?_)
 refine RS.nm ?_
 replace hE := Ext.tr hE x4
 replace R0 := R0.ext x4
 replace B2 := B2.ext x4
 have zw4 := x4.size
 refine RS.asP rfl ?_
 refine nl hK3 ?_
 refine sq fun K5 hK5 => ?_
 refine RS.assign  rfl ?_
 refine nl hK5 ?_
 refine wp_seq_k (fun K6 hK6 => ?_)
 refine sq fun K7 hK7 => ?_
 refine RS.mvP rfl ?_
 refine RS.callx E71 (rOne _ w.heap.size _ (by omega) _ _ _ _ _ _ B4 R0 hc (by omega)) rfl (fun e8 w8 A8 => ?_)
 obtain ⟨rfl, X8, a1, n1, c1, N8, hc1, hn1, Q1⟩ := A8
 refine ⟨_, rfl, ?_⟩
 refine RS.nm ?_
 replace hE := hE.trans (X8.belo)
 replace R0 := R0.pro X8
 replace B2 := B2.pro X8
 have zw8 := X8.size
 replace B4 := N8
 obtain ⟨zh, eh⟩ : ∃ z, z = S.oneB false bs := ⟨_, rfl⟩
 rw [← eh] at B4 Q1 ⊢
 have lQ1 := Q1.len
 have bQ1 := Q1.bd
 refine RS.o (D.ne rfl rfl) ?_
 refine nl hK7 ?_
 refine C.ifn rfl (fun c9 => ?_) (fun c9 => ?_)
 ·have hx := c9
  refine sq fun K10 hK10 => ?_
  refine RS.move (v := .func _ _ _) rfl ?_
  refine RS.callv E70 (decFail _) rfl rfl (fun e11 w11 A11 => ?_)
  obtain ⟨v11, rfl, x11, A11⟩ := A11
  refine ⟨_, rfl, ?_⟩
  replace hE := Ext.tr hE x11
  replace B2 := B2.ext x11
  replace B4 := B4.ext x11
  replace Q1 := Q1.ext x11
  have zw11 := x11.size
  subst A11
  refine RS.nm ?_
  refine RS.extract (v := .agg _) rfl rfl ?_
  refine RS.extract (v := .int _ _) rfl rfl ?_
  refine RS.storeAggB rfl rfl C32 (by decide) rfl rfl B2 rfl (fun w12 y12 N12 => ?_)
  replace hE := hE.trans (y12.belo)
  replace B4 := B4.sto y12
  replace Q1 := Q1.sto y12
  have zw12 := y12.size
  replace B2 := N12
  refine RS.asI rfl ?_
  refine nl hK10 ?_
  refine wp_ret ?_
  refine ret (rs := [.cell 2 32, .tmp 3]) (vs := [.agg _, .int _ _]) (v := (.tuple #[.agg _, .int _ _])) rfl ⟨⟨_, rfl, loadVar_agg Tryd.underlying32 rfl C32 (by decide) rfl (B2.cellsN 11 rfl)⟩, rfl, trivial⟩ rfl ?_
  obtain ⟨q1, q2⟩ := S.dec_none (S.dec_head (by rw [← eh]; exact hx))
  rw [q1, q2]
  exact ⟨_, rfl, hE, _, _, rfl, Nat.le_refl _, WRow.nil⟩
 have hx1 := c9
 refine wp_skip ?_
 refine hK6 _ _ ?_
 refine sq fun K13 hK13 => ?_
 refine RS.alloc T32 (fun b14 w14 e14 s14 x14 B14 => ?_)
 refine RS.nm ?_
 replace hE := Ext.tr hE x14
 replace B2 := B2.ext x14
 replace B4 := B4.ext x14
 replace Q1 := Q1.ext x14
 have zw14 := x14.size
 refine nl hK13 ?_
 refine sq fun K15 hK15 => ?_
 refine RS.mvP rfl ?_
 refine RS.callx E72 (rNumber _ w.heap.size _ (by omega) _ _ _ _ _ 1000000007 (by decide) _ B4 Q1 hc1 (by omega)) rfl (fun e16 w16 A16 => ?_)
 obtain ⟨rfl, X16, a2, n2, c2, N16, hc2, hn2, Q2⟩ := A16
 refine ⟨_, rfl, ?_⟩
 refine RS.nm ?_
 replace hE := hE.trans (X16.belo)
 replace B2 := B2.pro X16
 replace Q1 := Q1.pro X16
 replace B14 := B14.pro X16
 have zw16 := X16.size
 replace B4 := N16
 obtain ⟨za, ea⟩ : ∃ z, z = S.numB 1000000007 zh.2.1 zh.2.2 := ⟨_, rfl⟩
 rw [← ea] at B4 Q2 ⊢
 have lQ2 := Q2.len
 have bQ2 := Q2.bd
 refine RS.o (D.conv rfl Tryd.underlying24 Tryd.underlying22 (W.u32m _)) ?_
 refine RS.o (D.fieldL 0 rfl Tryd.underlying32 rfl C22 (by decide) rfl) ?_
 refine RS.store rfl (v := .int _ _) rfl C22 rfl B14 rfl (fun w17 y17 N17 => ?_)
 replace hE := hE.trans (y17.belo)
 replace B2 := B2.sto y17
 replace B4 := B4.sto y17
 replace Q2 := Q2.sto y17
 have zw17 := y17.size
 replace B14 := N17
 refine nl hK15 ?_
 refine sq fun K18 hK18 => ?_
 refine RS.mvP rfl ?_
 refine RS.nilCheck rfl ?_
 refine RS.o (D.fieldL 0 rfl Tryd.underlying103 rfl C35 (by decide) rfl) ?_
 refine RS.o (D.load rfl Tryd.underlying35 rfl (B4.cell rfl)) ?_
 refine RS.call E73 (readIds _ _ _ _ 4 (by decide) _ Q2 hc2 (by omega)) rfl (fun v19 w19 x19 A19 => ?_)
 replace hE := Ext.tr hE x19
 replace B2 := B2.ext x19
 replace B4 := B4.ext x19
 replace B14 := B14.ext x19
 replace Q2 := Q2.ext x19
 have zw19 := x19.size
 obtain ⟨aL, cL, rfl, hcL, DL⟩ := A19
 obtain ⟨f1, f2, f3, f4⟩ := S.idsB_rd za.2.1 za.2.2
 have hidl := S.id_le bQ2
 obtain ⟨zl, el⟩ : ∃ z, z = S.idsB za.2.1 za.2.2 := ⟨_, rfl⟩
 rw [← el] at f1 f2 f3 f4
 rw [f1] at hcL DL ⊢
 rw [f2] at DL
 replace DL := DL.weaken (T := fun k => b14 < k ∧ k < w19.heap.size) (fun k hk h => by omega)
 refine RS.nm ?_
 refine RS.move (v := .tuple _) rfl ?_
 refine RS.extract (v := .slice _ _ _) rfl rfl ?_
 refine RS.extract (v := .int _ _) rfl rfl ?_
 refine RS.extract (v := .int _ _) rfl rfl ?_
 refine RS.asS rfl ?_
 refine RS.asI rfl ?_
 refine RS.asI rfl ?_
 refine nl hK18 ?_
 refine sq fun K20 hK20 => ?_
 refine RS.mvP rfl ?_
 refine RS.mvI rfl ?_
 refine RS.mvI rfl ?_
 refine RS.callx E74 (rNext _ w.heap.size _ (by omega) _ _ _ _ _ (S.idU 4 za.2.2) (S.idE 4 za.2.2) (by omega) _ B4 Q2 hc2 (by omega)) rfl (fun e21 w21 A21 => ?_)
 obtain ⟨rfl, X21, a3, n3, c3, N21, hc3, hn3, Q3⟩ := A21
 refine ⟨_, rfl, ?_⟩
 refine RS.nm ?_
 replace hE := hE.trans (X21.belo)
 replace B2 := B2.pro X21
 replace B14 := B14.pro X21
 replace Q2 := Q2.pro X21
 replace DL := DL.pro X21
 have zw21 := X21.size
 replace B4 := N21
 rw [f3] at B4
 rw [f4] at Q3
 have lQ3 := Q3.len
 have bQ3 := Q3.bd
 refine nl hK20 ?_
 refine sq fun K22 hK22 => ?_
 refine RS.mvS rfl ?_
 refine RS.mvP rfl ?_
 refine RS.callx E72 (rNumber _ w.heap.size _ (by omega) _ _ _ _ _ 1000000000000 (by decide) _ B4 Q3 hc3 (by omega)) rfl (fun e23 w23 A23 => ?_)
 obtain ⟨rfl, X23, a4, n4, c4, N23, hc4, hn4, Q4⟩ := A23
 refine ⟨_, rfl, ?_⟩
 refine RS.nm ?_
 replace hE := hE.trans (X23.belo)
 replace B2 := B2.pro X23
 replace B14 := B14.pro X23
 replace DL := DL.pro X23
 replace Q3 := Q3.pro X23
 have zw23 := X23.size
 replace B4 := N23
 obtain ⟨zt, et⟩ : ∃ z, z = S.numB 1000000000000 zl.2.2.1 zl.2.2.2 := ⟨_, rfl⟩
 rw [← et] at B4 Q4 ⊢
 have lQ4 := Q4.len
 have bQ4 := Q4.bd
 refine RS.mvP rfl ?_
 refine RS.callx E71 (rOne _ w.heap.size _ (by omega) _ _ _ _ _ _ B4 Q4 hc4 (by omega)) rfl (fun e24 w24 A24 => ?_)
 obtain ⟨rfl, X24, a5, n5, c5, N24, hc5, hn5, Q5⟩ := A24
 refine ⟨_, rfl, ?_⟩
 refine RS.nm ?_
 replace hE := hE.trans (X24.belo)
 replace B2 := B2.pro X24
 replace B14 := B14.pro X24
 replace DL := DL.pro X24
 replace Q4 := Q4.pro X24
 have zw24 := X24.size
 replace B4 := N24
 obtain ⟨zk, ek⟩ : ∃ z, z = S.oneB zt.2.1 zt.2.2 := ⟨_, rfl⟩
 rw [← ek] at B4 Q5 ⊢
 have lQ5 := Q5.len
 have bQ5 := Q5.bd
 refine RS.o (D.fieldL 1 rfl Tryd.underlying32 rfl C23 (by decide) rfl) ?_
 refine RS.store rfl  rfl C23 rfl B14 rfl (fun w25 y25 N25 => ?_)
 replace hE := hE.trans (y25.belo)
 replace B2 := B2.sto y25
 replace B4 := B4.sto y25
 replace DL := DL.sto y25
 replace Q5 := Q5.sto y25
 have zw25 := y25.size
 replace B14 := N25
 refine RS.o (D.fieldL 2 rfl Tryd.underlying32 rfl C24 (by decide) rfl) ?_
 refine RS.store rfl (v := .int _ _) rfl C24 rfl B14 rfl (fun w26 y26 N26 => ?_)
 replace hE := hE.trans (y26.belo)
 replace B2 := B2.sto y26
 replace B4 := B4.sto y26
 replace DL := DL.sto y26
 replace Q5 := Q5.sto y26
 have zw26 := y26.size
 replace B14 := N26
 refine RS.o (D.fieldL 3 rfl Tryd.underlying32 rfl C28 (by decide) rfl) ?_
 refine RS.o (D.fieldL 3 rfl Tryd.underlying28 rfl C5 (by decide) rfl) ?_
 refine RS.store rfl (v := .int _ _) rfl C5 rfl B14 rfl (fun w27 y27 N27 => ?_)
 replace hE := hE.trans (y27.belo)
 replace B2 := B2.sto y27
 replace B4 := B4.sto y27
 replace DL := DL.sto y27
 replace Q5 := Q5.sto y27
 have zw27 := y27.size
 replace B14 := N27
 refine nl hK22 ?_
 refine wp_seq_k (fun K28 hK28 => ?_)
 refine sq fun K29 hK29 => ?_
 refine RS.o (D.fieldL 3 rfl Tryd.underlying32 rfl C28 (by decide) rfl) ?_
 refine RS.o (D.fieldL 3 rfl Tryd.underlying28 rfl C5 (by decide) rfl) ?_
 refine RS.o (D.load rfl Tryd.underlying5 rfl (B14.cell rfl)) ?_
 refine RS.o (D.ne rfl rfl) ?_
 refine nl hK29 ?_
 refine C.ifn rfl (fun c30 => ?_) (fun c30 => ?_)
 ·have hk1 := c30
  refine sq fun K31 hK31 => ?_
  refine RS.mvP rfl ?_
  refine RS.nilCheck rfl ?_
  refine RS.o (D.fieldL 0 rfl Tryd.underlying103 rfl C35 (by decide) rfl) ?_
  refine RS.o (D.load rfl Tryd.underlying35 rfl (B4.cell rfl)) ?_
  refine RS.call E75 (readB _ _ _ _ 20 (by decide) _ Q5 hc5 (by omega)) rfl (fun v32 w32 x32 A32 => ?_)
  replace hE := Ext.tr hE x32
  replace B2 := B2.ext x32
  replace B4 := B4.ext x32
  replace B14 := B14.ext x32
  replace DL := DL.ext x32
  replace Q5 := Q5.ext x32
  have zw32 := x32.size
  obtain ⟨aK, nK, cK, rfl, OKs⟩ := A32
  have hOK := OKs.lo
  obtain ⟨k1, k2, k3⟩ := S.keyB_rd zk.2.1 zk.2.2
  have hpu := S.ptU_le (most := 20) (wd := 1) bQ5 (by decide)
  obtain ⟨zq, ezq⟩ : ∃ z, z = S.keyB zk.2.1 zk.2.2 := ⟨_, rfl⟩
  rw [← ezq] at k1 k2 k3
  refine RS.nm ?_
  refine RS.move (v := .tuple _) rfl ?_
  refine RS.extract (v := .slice _ _ _) rfl rfl ?_
  refine RS.extract (v := .int _ _) rfl rfl ?_
  refine RS.extract (v := .int _ _) rfl rfl ?_
  refine RS.asS rfl ?_
  refine RS.asI rfl ?_
  refine RS.asI rfl ?_
  refine nl hK31 ?_
  refine sq fun K33 hK33 => ?_
  refine RS.mvP rfl ?_
  refine RS.mvI rfl ?_
  refine RS.mvI rfl ?_
  refine RS.callx E74 (rNext _ w.heap.size _ (by omega) _ _ _ _ _ (S.ptU 20 1 zk.2.2) (S.ptE 20 1 zk.2.2) (by omega) _ B4 Q5 hc5 (by omega)) rfl (fun e34 w34 A34 => ?_)
  obtain ⟨rfl, X34, a6, n6, c6, N34, hc6, hn6, Q6⟩ := A34
  refine ⟨_, rfl, ?_⟩
  refine RS.nm ?_
  replace hE := hE.trans (X34.belo)
  replace B2 := B2.pro X34
  replace B14 := B14.pro X34
  replace DL := DL.pro X34
  replace Q5 := Q5.pro X34
  replace OKs := OKs.pr X34 (by intros; try (first | (intro _ _) | (intro _) | skip); first | omega | (have hq := hOK _ (by assumption); first | omega | (dsimp only at *; omega)))
  have zw34 := X34.size
  replace B4 := N34
  rw [k2] at B4
  rw [k3] at Q6
  have lQ6 := Q6.len
  have bQ6 := Q6.bd
  refine nl hK33 ?_
  refine region ?_
  refine RS.mvS rfl ?_
  refine RS.o (D.convBS OKs.row rfl Tryd.underlying35 Tryd.underlying5 Tryd.underlying9) ?_
  refine RS.nm ?_
  rw [k1]
  refine RS.o (D.fieldL 3 rfl Tryd.underlying32 rfl C28 (by decide) rfl) ?_
  refine RS.o (D.fieldL 4 rfl Tryd.underlying28 rfl C9 (by decide) rfl) ?_
  refine RS.store rfl  rfl C9 rfl B14 rfl (fun w35 y35 N35 => ?_)
  replace hE := hE.trans (y35.belo)
  replace B2 := B2.sto y35
  replace B4 := B4.sto y35
  replace DL := DL.sto y35
  replace OKs := OKs.st y35 (by intros; try (first | (intro _ _) | (intro _) | skip); first | omega | (have hq := hOK _ (by assumption); first | omega | (dsimp only at *; omega)))
  replace Q6 := Q6.sto y35
  have zw35 := y35.size
  replace B14 := N35
  refine nl hK28 ?_
  refine wp_seq_k (fun K36 hK36 => ?_)
  refine sq fun K37 hK37 => ?_
  refine RS.o (D.fieldL 3 rfl Tryd.underlying32 rfl C28 (by decide) rfl) ?_
  refine RS.o (D.fieldL 3 rfl Tryd.underlying28 rfl C5 (by decide) rfl) ?_
  refine RS.o (D.load rfl Tryd.underlying5 rfl (B14.cell rfl)) ?_
  refine RS.o (D.eq rfl rfl) ?_
  refine nl hK37 ?_
  refine C.ife rfl (fun c38 => ?_) (fun c38 => ?_)
  ·have hk4 := c38
   refine sq fun K39 hK39 => ?_
   refine RS.mvP rfl ?_
   refine RS.nilCheck rfl ?_
   refine RS.o (D.fieldL 0 rfl Tryd.underlying103 rfl C35 (by decide) rfl) ?_
   refine RS.o (D.load rfl Tryd.underlying35 rfl (B4.cell rfl)) ?_
   refine RS.call E76 (decodeV _ _ _ _ _ Q6 hc6 (by omega)) rfl (fun v40 w40 x40 A40 => ?_)
   replace hE := Ext.tr hE x40
   replace B2 := B2.ext x40
   replace B4 := B4.ext x40
   replace B14 := B14.ext x40
   replace DL := DL.ext x40
   replace OKs := OKs.ext x40
   replace Q6 := Q6.ext x40
   have zw40 := x40.size
   subst A40
   have hvb := S.vd_bd bQ6
   obtain ⟨v1, v2, v3⟩ := S.valB_rd zq.1 zq.2.1 zq.2.2
   obtain ⟨zv, ez⟩ : ∃ z, z = S.valB zq.1 zq.2.1 zq.2.2 := ⟨_, rfl⟩
   rw [← ez] at v1 v2 v3
   have j1 : (S.vdS zq.2.2).k = zv.1.vk := congrArg S.ActV.vk v1
   have j2 : (S.vdS zq.2.2).num = zv.1.num := congrArg S.ActV.num v1
   have j3 : (S.vdS zq.2.2).bits = zv.1.bits := congrArg S.ActV.bits v1
   have j4 : (S.vdS zq.2.2).t = zv.1.t := congrArg S.ActV.t v1
   have j5 : zq.1 = zv.1.key := congrArg S.ActV.key v1
   rw [j1, j2, j3, j4]
   rw [j5] at B14
   refine RS.nm ?_
   refine RS.move (v := .tuple _) rfl ?_
   refine RS.extract (v := .agg _) rfl rfl ?_
   refine RS.extract (v := .int _ _) rfl rfl ?_
   refine RS.extract (v := .int _ _) rfl rfl ?_
   refine RS.alloc T26 (fun b41 w41 e41 s41 x41 B41 => ?_)
   refine RS.nm ?_
   replace hE := Ext.tr hE x41
   replace B2 := B2.ext x41
   replace B4 := B4.ext x41
   replace B14 := B14.ext x41
   replace DL := DL.ext x41
   replace OKs := OKs.ext x41
   replace Q6 := Q6.ext x41
   have zw41 := x41.size
   refine RS.storeAggB rfl rfl C26 (by decide) rfl rfl B41 rfl (fun w42 y42 N42 => ?_)
   replace hE := hE.trans (y42.belo)
   replace B2 := B2.sto y42
   replace B4 := B4.sto y42
   replace B14 := B14.sto y42
   replace DL := DL.sto y42
   replace OKs := OKs.st y42 (by intros; try (first | (intro _ _) | (intro _) | skip); first | omega | (have hq := hOK _ (by assumption); first | omega | (dsimp only at *; omega)))
   replace Q6 := Q6.sto y42
   have zw42 := y42.size
   replace B41 := N42
   refine RS.asI rfl ?_
   refine RS.asI rfl ?_
   refine nl hK39 ?_
   refine sq fun K43 hK43 => ?_
   refine RS.mvP rfl ?_
   refine RS.mvI rfl ?_
   refine RS.mvI rfl ?_
   refine RS.callx E74 (rNext _ w.heap.size _ (by omega) _ _ _ _ _ (S.vdS zq.2.2).u (S.vdS zq.2.2).e (by omega) _ B4 Q6 hc6 (by omega)) rfl (fun e44 w44 A44 => ?_)
   obtain ⟨rfl, X44, a7, n7, c7, N44, hc7, hn7, Q7⟩ := A44
   refine ⟨_, rfl, ?_⟩
   refine RS.nm ?_
   replace hE := hE.trans (X44.belo)
   replace B2 := B2.pro X44
   replace B14 := B14.pro X44
   replace DL := DL.pro X44
   replace OKs := OKs.pr X44 (by intros; try (first | (intro _ _) | (intro _) | skip); first | omega | (have hq := hOK _ (by assumption); first | omega | (dsimp only at *; omega)))
   replace Q6 := Q6.pro X44
   replace B41 := B41.pro X44
   have zw44 := X44.size
   replace B4 := N44
   rw [v2] at B4
   rw [v3] at Q7
   have lQ7 := Q7.len
   have bQ7 := Q7.bd
   refine nl hK43 ?_
   refine region ?_
   refine RS.o (D.loadAgg rfl Tryd.underlying26 rfl C26 (by decide) rfl (B41.cellsN 4 rfl)) ?_
   refine RS.o (D.fieldL 3 rfl Tryd.underlying32 rfl C28 (by decide) rfl) ?_
   refine RS.o (D.fieldL 5 rfl Tryd.underlying28 rfl C26 (by decide) rfl) ?_
   refine RS.storeAggB rfl rfl C26 (by decide) rfl rfl B14 rfl (fun w45 y45 N45 => ?_)
   replace hE := hE.trans (y45.belo)
   replace B2 := B2.sto y45
   replace B4 := B4.sto y45
   replace DL := DL.sto y45
   replace OKs := OKs.st y45 (by intros; try (first | (intro _ _) | (intro _) | skip); first | omega | (have hq := hOK _ (by assumption); first | omega | (dsimp only at *; omega)))
   replace B41 := B41.sto y45
   replace Q7 := Q7.sto y45
   have zw45 := y45.size
   replace B14 := N45
   refine nl hK36 ?_
   refine sq fun K46 hK46 => ?_
   refine RS.mvP rfl ?_
   refine RS.callx E72 (rNumber _ w.heap.size _ (by omega) _ _ _ _ _ 500000003 (by decide) _ B4 Q7 hc7 (by omega)) rfl (fun e47 w47 A47 => ?_)
   obtain ⟨rfl, X47, a8, n8, c8, N47, hc8, hn8, Q8⟩ := A47
   refine ⟨_, rfl, ?_⟩
   refine RS.nm ?_
   replace hE := hE.trans (X47.belo)
   replace B2 := B2.pro X47
   replace B14 := B14.pro X47
   replace DL := DL.pro X47
   replace OKs := OKs.pr X47 (by intros; try (first | (intro _ _) | (intro _) | skip); first | omega | (have hq := hOK _ (by assumption); first | omega | (dsimp only at *; omega)))
   replace B41 := B41.pro X47
   replace Q7 := Q7.pro X47
   have zw47 := X47.size
   replace B4 := N47
   obtain ⟨ze, ee⟩ : ∃ z, z = S.numB 500000003 zv.2.1 zv.2.2 := ⟨_, rfl⟩
   rw [← ee] at B4 Q8 ⊢
   have lQ8 := Q8.len
   have bQ8 := Q8.bd
   refine RS.o (D.conv rfl Tryd.underlying24 Tryd.underlying22 (W.u32m _)) ?_
   refine RS.mvP rfl ?_
   refine RS.callx E72 (rNumber _ w.heap.size _ (by omega) _ _ _ _ _ 500000003 (by decide) _ B4 Q8 hc8 (by omega)) rfl (fun e48 w48 A48 => ?_)
   obtain ⟨rfl, X48, a9, n9, c9, N48, hc9, hn9, Q9⟩ := A48
   refine ⟨_, rfl, ?_⟩
   refine RS.nm ?_
   replace hE := hE.trans (X48.belo)
   replace B2 := B2.pro X48
   replace B14 := B14.pro X48
   replace DL := DL.pro X48
   replace OKs := OKs.pr X48 (by intros; try (first | (intro _ _) | (intro _) | skip); first | omega | (have hq := hOK _ (by assumption); first | omega | (dsimp only at *; omega)))
   replace B41 := B41.pro X48
   replace Q8 := Q8.pro X48
   have zw48 := X48.size
   replace B4 := N48
   obtain ⟨zs, es⟩ : ∃ z, z = S.numB 500000003 ze.2.1 ze.2.2 := ⟨_, rfl⟩
   rw [← es] at B4 Q9 ⊢
   have lQ9 := Q9.len
   have bQ9 := Q9.bd
   refine RS.o (D.conv rfl Tryd.underlying24 Tryd.underlying22 (W.u32m _)) ?_
   refine RS.o (D.fieldL 9 rfl Tryd.underlying32 rfl C30 (by decide) rfl) ?_
   refine RS.o (D.fieldL 9 rfl Tryd.underlying30 rfl C22 (by decide) rfl) ?_
   refine RS.store rfl (v := .int _ _) rfl C22 rfl B14 rfl (fun w49 y49 N49 => ?_)
   replace hE := hE.trans (y49.belo)
   replace B2 := B2.sto y49
   replace B4 := B4.sto y49
   replace DL := DL.sto y49
   replace OKs := OKs.st y49 (by intros; try (first | (intro _ _) | (intro _) | skip); first | omega | (have hq := hOK _ (by assumption); first | omega | (dsimp only at *; omega)))
   replace B41 := B41.sto y49
   replace Q9 := Q9.sto y49
   have zw49 := y49.size
   replace B14 := N49
   refine RS.o (D.fieldL 9 rfl Tryd.underlying32 rfl C30 (by decide) rfl) ?_
   refine RS.o (D.fieldL 10 rfl Tryd.underlying30 rfl C22 (by decide) rfl) ?_
   refine RS.store rfl (v := .int _ _) rfl C22 rfl B14 rfl (fun w50 y50 N50 => ?_)
   replace hE := hE.trans (y50.belo)
   replace B2 := B2.sto y50
   replace B4 := B4.sto y50
   replace DL := DL.sto y50
   replace OKs := OKs.st y50 (by intros; try (first | (intro _ _) | (intro _) | skip); first | omega | (have hq := hOK _ (by assumption); first | omega | (dsimp only at *; omega)))
   replace B41 := B41.sto y50
   replace Q9 := Q9.sto y50
   have zw50 := y50.size
   replace B14 := N50
   refine nl hK46 ?_
   refine wp_seq_k (fun K51 hK51 => ?_)
   refine wp_seq_k (fun K52 hK52 => ?_)
   have hsb := S.Steps.ok hbd (⟨zh, za, zl, zt, zk, zv, ze, zs, eh, ea, el, et, ek, (by rw [ez, ezq]; exact S.actB_val zk.2.1 zk.2.2 hk4), ee, es⟩ : S.Steps bs)
   refine region ?_
   refine RS.mvP rfl ?_
   refine RS.nilCheck rfl ?_
   refine RS.o (D.fieldL 1 rfl Tryd.underlying103 rfl C4 (by decide) rfl) ?_
   refine RS.o (D.load rfl Tryd.underlying4 rfl (B4.cell rfl)) ?_
   refine RS.mvB rfl ?_
   refine RS.splitb 107 rfl rfl (fun c53 => ?_) (fun c53 => ?_)
   ·refine RS.nm ?_
    have hb1 := c53
    refine RS.skT 107 ?_
    refine RS.skT 107 ?_
    refine RS.skT 107 ?_
    refine RS.skT 107 ?_
    refine RS.skT 107 ?_
    refine RS.skT 107 ?_
    refine RS.pick (v := .bool true) rfl rfl ?_
    refine RS.mvB rfl ?_
    refine RS.skT 115 ?_
    refine RS.skT 115 ?_
    refine RS.skT 115 ?_
    refine RS.pick (v := .bool true) rfl rfl ?_
    refine nl hK52 ?_
    refine C.ift rfl ?_
    refine sq fun K54 hK54 => ?_
    refine RS.move (v := .func _ _ _) rfl ?_
    refine RS.callv E70 (decFail _) rfl rfl (fun e55 w55 A55 => ?_)
    obtain ⟨v55, rfl, x55, A55⟩ := A55
    refine ⟨_, rfl, ?_⟩
    replace hE := Ext.tr hE x55
    replace B2 := B2.ext x55
    replace B4 := B4.ext x55
    replace B14 := B14.ext x55
    replace DL := DL.ext x55
    replace OKs := OKs.ext x55
    replace B41 := B41.ext x55
    replace Q9 := Q9.ext x55
    have zw55 := x55.size
    subst A55
    refine RS.nm ?_
    refine RS.extract (v := .agg _) rfl rfl ?_
    refine RS.extract (v := .int _ _) rfl rfl ?_
    refine RS.storeAggB rfl rfl C32 (by decide) rfl rfl B2 rfl (fun w56 y56 N56 => ?_)
    replace hE := hE.trans (y56.belo)
    replace B4 := B4.sto y56
    replace B14 := B14.sto y56
    replace DL := DL.sto y56
    replace OKs := OKs.st y56 (by intros; try (first | (intro _ _) | (intro _) | skip); first | omega | (have hq := hOK _ (by assumption); first | omega | (dsimp only at *; omega)))
    replace B41 := B41.sto y56
    replace Q9 := Q9.sto y56
    have zw56 := y56.size
    replace B2 := N56
    refine RS.asI rfl ?_
    refine nl hK54 ?_
    refine wp_ret ?_
    refine ret (rs := [.cell 2 32, .tmp 3]) (vs := [.agg _, .int _ _]) (v := (.tuple #[.agg _, .int _ _])) rfl ⟨⟨_, rfl, loadVar_agg Tryd.underlying32 rfl C32 (by decide) rfl (B2.cellsN 11 rfl)⟩, rfl, trivial⟩ rfl ?_
    obtain ⟨q1, q2⟩ := S.dec_none (S.Steps.none hbd (⟨zh, za, zl, zt, zk, zv, ze, zs, eh, ea, el, et, ek, (by rw [ez, ezq]; exact S.actB_val zk.2.1 zk.2.2 hk4), ee, es⟩ : S.Steps bs) (fun ⟨_, g2, g3, g4⟩ => by first | exact Bool.noConfusion (hb1.symm.trans g2) | exact absurd g4 hz | (have g3 : zs.2.2 = [] := g3; rw [g3] at lQ9; simp at lQ9; omega)))
    rw [q1, q2]
    exact ⟨_, rfl, hE, _, _, rfl, Nat.le_refl _, WRow.nil⟩
   refine RS.nm ?_
   have hb0 := c53
   refine RS.wt 107 ?_
   refine RS.mvP rfl ?_
   refine RS.wt 107 ?_
   refine RS.nilCheck rfl ?_
   refine RS.wt 107 ?_
   refine RS.o (D.fieldL 0 rfl Tryd.underlying103 rfl C35 (by decide) rfl) ?_
   refine RS.wt 107 ?_
   refine RS.o (D.load rfl Tryd.underlying35 rfl (B4.cell rfl)) ?_
   refine RS.wt 107 ?_
   refine RS.o (D.len rfl Tryd.underlying35) ?_
   refine RS.wt 107 ?_
   refine RS.o (D.gt rfl rfl) ?_
   refine RS.pick (v := .bool _) rfl rfl ?_
   refine RS.mvB rfl ?_
   refine RS.splitd 115 rfl rfl (fun c57 => ?_) (fun c57 => ?_)
   ·refine RS.nm ?_
    have hr := c57
    refine RS.skT 115 ?_
    refine RS.skT 115 ?_
    refine RS.skT 115 ?_
    refine RS.pick (v := .bool true) rfl rfl ?_
    refine nl hK52 ?_
    refine C.ift rfl ?_
    refine sq fun K58 hK58 => ?_
    refine RS.move (v := .func _ _ _) rfl ?_
    refine RS.callv E70 (decFail _) rfl rfl (fun e59 w59 A59 => ?_)
    obtain ⟨v59, rfl, x59, A59⟩ := A59
    refine ⟨_, rfl, ?_⟩
    replace hE := Ext.tr hE x59
    replace B2 := B2.ext x59
    replace B4 := B4.ext x59
    replace B14 := B14.ext x59
    replace DL := DL.ext x59
    replace OKs := OKs.ext x59
    replace B41 := B41.ext x59
    replace Q9 := Q9.ext x59
    have zw59 := x59.size
    subst A59
    refine RS.nm ?_
    refine RS.extract (v := .agg _) rfl rfl ?_
    refine RS.extract (v := .int _ _) rfl rfl ?_
    refine RS.storeAggB rfl rfl C32 (by decide) rfl rfl B2 rfl (fun w60 y60 N60 => ?_)
    replace hE := hE.trans (y60.belo)
    replace B4 := B4.sto y60
    replace B14 := B14.sto y60
    replace DL := DL.sto y60
    replace OKs := OKs.st y60 (by intros; try (first | (intro _ _) | (intro _) | skip); first | omega | (have hq := hOK _ (by assumption); first | omega | (dsimp only at *; omega)))
    replace B41 := B41.sto y60
    replace Q9 := Q9.sto y60
    have zw60 := y60.size
    replace B2 := N60
    refine RS.asI rfl ?_
    refine nl hK58 ?_
    refine wp_ret ?_
    refine ret (rs := [.cell 2 32, .tmp 3]) (vs := [.agg _, .int _ _]) (v := (.tuple #[.agg _, .int _ _])) rfl ⟨⟨_, rfl, loadVar_agg Tryd.underlying32 rfl C32 (by decide) rfl (B2.cellsN 11 rfl)⟩, rfl, trivial⟩ rfl ?_
    obtain ⟨q1, q2⟩ := S.dec_none (S.Steps.none hbd (⟨zh, za, zl, zt, zk, zv, ze, zs, eh, ea, el, et, ek, (by rw [ez, ezq]; exact S.actB_val zk.2.1 zk.2.2 hk4), ee, es⟩ : S.Steps bs) (fun ⟨_, g2, g3, g4⟩ => by first | exact Bool.noConfusion (hb1.symm.trans g2) | exact absurd g4 hz | (have g3 : zs.2.2 = [] := g3; rw [g3] at lQ9; simp at lQ9; omega)))
    rw [q1, q2]
    exact ⟨_, rfl, hE, _, _, rfl, Nat.le_refl _, WRow.nil⟩
   refine RS.nm ?_
   have hr := c57
   refine RS.wt 115 ?_
   refine RS.o (D.loadAgg rfl Tryd.underlying32 rfl C32 (by decide) rfl (B14.cellsN 11 rfl)) ?_
   refine RS.wt 115 ?_
   refine RS.call E20 (checkO (⟨zh, za, zl, zt, zk, zv, ze, zs, eh, ea, el, et, ek, (by rw [ez, ezq]; exact S.actB_val zk.2.1 zk.2.2 hk4), ee, es⟩ : S.Steps bs).op hsb.1 _ _ _ DL hcL) rfl (fun v61 w61 x61 A61 => ?_)
   replace hE := Ext.tr hE x61
   replace B2 := B2.ext x61
   replace B4 := B4.ext x61
   replace B14 := B14.ext x61
   replace DL := DL.ext x61
   replace OKs := OKs.ext x61
   replace B41 := B41.ext x61
   replace Q9 := Q9.ext x61
   have zw61 := x61.size
   subst A61
   refine RS.nm ?_
   refine RS.wt 115 ?_
   refine RS.o (D.ne rfl rfl) ?_
   refine RS.pick (v := .bool _) rfl rfl ?_
   refine nl hK52 ?_
   refine C.ifn rfl (fun c62 => ?_) (fun c62 => ?_)
   ·have hz := c62
    refine sq fun K63 hK63 => ?_
    refine RS.move (v := .func _ _ _) rfl ?_
    refine RS.callv E70 (decFail _) rfl rfl (fun e64 w64 A64 => ?_)
    obtain ⟨v64, rfl, x64, A64⟩ := A64
    refine ⟨_, rfl, ?_⟩
    replace hE := Ext.tr hE x64
    replace B2 := B2.ext x64
    replace B4 := B4.ext x64
    replace B14 := B14.ext x64
    replace DL := DL.ext x64
    replace OKs := OKs.ext x64
    replace B41 := B41.ext x64
    replace Q9 := Q9.ext x64
    have zw64 := x64.size
    subst A64
    refine RS.nm ?_
    refine RS.extract (v := .agg _) rfl rfl ?_
    refine RS.extract (v := .int _ _) rfl rfl ?_
    refine RS.storeAggB rfl rfl C32 (by decide) rfl rfl B2 rfl (fun w65 y65 N65 => ?_)
    replace hE := hE.trans (y65.belo)
    replace B4 := B4.sto y65
    replace B14 := B14.sto y65
    replace DL := DL.sto y65
    replace OKs := OKs.st y65 (by intros; try (first | (intro _ _) | (intro _) | skip); first | omega | (have hq := hOK _ (by assumption); first | omega | (dsimp only at *; omega)))
    replace B41 := B41.sto y65
    replace Q9 := Q9.sto y65
    have zw65 := y65.size
    replace B2 := N65
    refine RS.asI rfl ?_
    refine nl hK63 ?_
    refine wp_ret ?_
    refine ret (rs := [.cell 2 32, .tmp 3]) (vs := [.agg _, .int _ _]) (v := (.tuple #[.agg _, .int _ _])) rfl ⟨⟨_, rfl, loadVar_agg Tryd.underlying32 rfl C32 (by decide) rfl (B2.cellsN 11 rfl)⟩, rfl, trivial⟩ rfl ?_
    obtain ⟨q1, q2⟩ := S.dec_none (S.Steps.none hbd (⟨zh, za, zl, zt, zk, zv, ze, zs, eh, ea, el, et, ek, (by rw [ez, ezq]; exact S.actB_val zk.2.1 zk.2.2 hk4), ee, es⟩ : S.Steps bs) (fun ⟨_, g2, g3, g4⟩ => by first | exact Bool.noConfusion (hb1.symm.trans g2) | exact absurd g4 hz | (have g3 : zs.2.2 = [] := g3; rw [g3] at lQ9; simp at lQ9; omega)))
    rw [q1, q2]
    exact ⟨_, rfl, hE, _, _, rfl, Nat.le_refl _, WRow.nil⟩
   have hz := c62
   refine wp_skip ?_
   refine hK51 _ _ ?_
   refine sq fun K66 hK66 => ?_
   refine RS.o (D.loadAgg rfl Tryd.underlying32 rfl C32 (by decide) rfl (B14.cellsN 11 rfl)) ?_
   refine RS.storeAggB rfl rfl C32 (by decide) rfl rfl B2 rfl (fun w67 y67 N67 => ?_)
   replace hE := hE.trans (y67.belo)
   replace B4 := B4.sto y67
   replace B14 := B14.sto y67
   replace DL := DL.sto y67
   replace OKs := OKs.st y67 (by intros; try (first | (intro _ _) | (intro _) | skip); first | omega | (have hq := hOK _ (by assumption); first | omega | (dsimp only at *; omega)))
   replace B41 := B41.sto y67
   replace Q9 := Q9.sto y67
   have zw67 := y67.size
   replace B2 := N67
   refine RS.asI rfl ?_
   refine nl hK66 ?_
   refine wp_ret ?_
   refine ret (rs := [.cell 2 32, .tmp 3]) (vs := [.agg _, .int _ _]) (v := (.tuple #[.agg _, .int _ _])) rfl ⟨⟨_, rfl, loadVar_agg Tryd.underlying32 rfl C32 (by decide) rfl (B2.cellsN 11 rfl)⟩, rfl, trivial⟩ rfl ?_
   obtain ⟨q1, q2⟩ := S.dec_some (S.Steps.good hbd (⟨zh, za, zl, zt, zk, zv, ze, zs, eh, ea, el, et, ek, (by rw [ez, ezq]; exact S.actB_val zk.2.1 zk.2.2 hk4), ee, es⟩ : S.Steps bs) (by show zh.1 = 111; exact hx1) hb0 (List.eq_nil_of_length_eq_zero (by show zs.2.2.length = 0; omega)) hz)
   rw [q1, q2]
   exact ⟨_, rfl, hE, _, _, rfl, hcL, DL.weaken (fun k _ h => by omega)⟩
  have hk4 := c38
  refine wp_skip ?_
  refine hK36 _ _ ?_
  refine sq fun K68 hK68 => ?_
  refine RS.mvP rfl ?_
  refine RS.callx E72 (rNumber _ w.heap.size _ (by omega) _ _ _ _ _ 500000003 (by decide) _ B4 Q6 hc6 (by omega)) rfl (fun e69 w69 A69 => ?_)
  obtain ⟨rfl, X69, a8, n8, c8, N69, hc8, hn8, Q8⟩ := A69
  refine ⟨_, rfl, ?_⟩
  refine RS.nm ?_
  replace hE := hE.trans (X69.belo)
  replace B2 := B2.pro X69
  replace B14 := B14.pro X69
  replace DL := DL.pro X69
  replace OKs := OKs.pr X69 (by intros; try (first | (intro _ _) | (intro _) | skip); first | omega | (have hq := hOK _ (by assumption); first | omega | (dsimp only at *; omega)))
  replace Q6 := Q6.pro X69
  have zw69 := X69.size
  replace B4 := N69
  obtain ⟨ze, ee⟩ : ∃ z, z = S.numB 500000003 zq.2.1 zq.2.2 := ⟨_, rfl⟩
  rw [← ee] at B4 Q8 ⊢
  have lQ8 := Q8.len
  have bQ8 := Q8.bd
  refine RS.o (D.conv rfl Tryd.underlying24 Tryd.underlying22 (W.u32m _)) ?_
  refine RS.mvP rfl ?_
  refine RS.callx E72 (rNumber _ w.heap.size _ (by omega) _ _ _ _ _ 500000003 (by decide) _ B4 Q8 hc8 (by omega)) rfl (fun e70 w70 A70 => ?_)
  obtain ⟨rfl, X70, a9, n9, c9, N70, hc9, hn9, Q9⟩ := A70
  refine ⟨_, rfl, ?_⟩
  refine RS.nm ?_
  replace hE := hE.trans (X70.belo)
  replace B2 := B2.pro X70
  replace B14 := B14.pro X70
  replace DL := DL.pro X70
  replace OKs := OKs.pr X70 (by intros; try (first | (intro _ _) | (intro _) | skip); first | omega | (have hq := hOK _ (by assumption); first | omega | (dsimp only at *; omega)))
  replace Q8 := Q8.pro X70
  have zw70 := X70.size
  replace B4 := N70
  obtain ⟨zs, es⟩ : ∃ z, z = S.numB 500000003 ze.2.1 ze.2.2 := ⟨_, rfl⟩
  rw [← es] at B4 Q9 ⊢
  have lQ9 := Q9.len
  have bQ9 := Q9.bd
  refine RS.o (D.conv rfl Tryd.underlying24 Tryd.underlying22 (W.u32m _)) ?_
  refine RS.o (D.fieldL 9 rfl Tryd.underlying32 rfl C30 (by decide) rfl) ?_
  refine RS.o (D.fieldL 9 rfl Tryd.underlying30 rfl C22 (by decide) rfl) ?_
  refine RS.store rfl (v := .int _ _) rfl C22 rfl B14 rfl (fun w71 y71 N71 => ?_)
  replace hE := hE.trans (y71.belo)
  replace B2 := B2.sto y71
  replace B4 := B4.sto y71
  replace DL := DL.sto y71
  replace OKs := OKs.st y71 (by intros; try (first | (intro _ _) | (intro _) | skip); first | omega | (have hq := hOK _ (by assumption); first | omega | (dsimp only at *; omega)))
  replace Q9 := Q9.sto y71
  have zw71 := y71.size
  replace B14 := N71
  refine RS.o (D.fieldL 9 rfl Tryd.underlying32 rfl C30 (by decide) rfl) ?_
  refine RS.o (D.fieldL 10 rfl Tryd.underlying30 rfl C22 (by decide) rfl) ?_
  refine RS.store rfl (v := .int _ _) rfl C22 rfl B14 rfl (fun w72 y72 N72 => ?_)
  replace hE := hE.trans (y72.belo)
  replace B2 := B2.sto y72
  replace B4 := B4.sto y72
  replace DL := DL.sto y72
  replace OKs := OKs.st y72 (by intros; try (first | (intro _ _) | (intro _) | skip); first | omega | (have hq := hOK _ (by assumption); first | omega | (dsimp only at *; omega)))
  replace Q9 := Q9.sto y72
  have zw72 := y72.size
  replace B14 := N72
  refine nl hK68 ?_
  refine wp_seq_k (fun K73 hK73 => ?_)
  refine wp_seq_k (fun K74 hK74 => ?_)
  have hsb := S.Steps.ok hbd (⟨zh, za, zl, zt, zk, (⟨0, 0, 0, zq.1, .empty⟩, zq.2.1, zq.2.2), ze, zs, eh, ea, el, et, ek, (by rw [ezq]; exact S.actB_key zk.2.1 zk.2.2 hk1 hk4), ee, es⟩ : S.Steps bs)
  refine region ?_
  refine RS.mvP rfl ?_
  refine RS.nilCheck rfl ?_
  refine RS.o (D.fieldL 1 rfl Tryd.underlying103 rfl C4 (by decide) rfl) ?_
  refine RS.o (D.load rfl Tryd.underlying4 rfl (B4.cell rfl)) ?_
  refine RS.mvB rfl ?_
  refine RS.splitb 107 rfl rfl (fun c75 => ?_) (fun c75 => ?_)
  ·refine RS.nm ?_
   have hb1 := c75
   refine RS.skT 107 ?_
   refine RS.skT 107 ?_
   refine RS.skT 107 ?_
   refine RS.skT 107 ?_
   refine RS.skT 107 ?_
   refine RS.skT 107 ?_
   refine RS.pick (v := .bool true) rfl rfl ?_
   refine RS.mvB rfl ?_
   refine RS.skT 115 ?_
   refine RS.skT 115 ?_
   refine RS.skT 115 ?_
   refine RS.pick (v := .bool true) rfl rfl ?_
   refine nl hK74 ?_
   refine C.ift rfl ?_
   refine sq fun K76 hK76 => ?_
   refine RS.move (v := .func _ _ _) rfl ?_
   refine RS.callv E70 (decFail _) rfl rfl (fun e77 w77 A77 => ?_)
   obtain ⟨v77, rfl, x77, A77⟩ := A77
   refine ⟨_, rfl, ?_⟩
   replace hE := Ext.tr hE x77
   replace B2 := B2.ext x77
   replace B4 := B4.ext x77
   replace B14 := B14.ext x77
   replace DL := DL.ext x77
   replace OKs := OKs.ext x77
   replace Q9 := Q9.ext x77
   have zw77 := x77.size
   subst A77
   refine RS.nm ?_
   refine RS.extract (v := .agg _) rfl rfl ?_
   refine RS.extract (v := .int _ _) rfl rfl ?_
   refine RS.storeAggB rfl rfl C32 (by decide) rfl rfl B2 rfl (fun w78 y78 N78 => ?_)
   replace hE := hE.trans (y78.belo)
   replace B4 := B4.sto y78
   replace B14 := B14.sto y78
   replace DL := DL.sto y78
   replace OKs := OKs.st y78 (by intros; try (first | (intro _ _) | (intro _) | skip); first | omega | (have hq := hOK _ (by assumption); first | omega | (dsimp only at *; omega)))
   replace Q9 := Q9.sto y78
   have zw78 := y78.size
   replace B2 := N78
   refine RS.asI rfl ?_
   refine nl hK76 ?_
   refine wp_ret ?_
   refine ret (rs := [.cell 2 32, .tmp 3]) (vs := [.agg _, .int _ _]) (v := (.tuple #[.agg _, .int _ _])) rfl ⟨⟨_, rfl, loadVar_agg Tryd.underlying32 rfl C32 (by decide) rfl (B2.cellsN 11 rfl)⟩, rfl, trivial⟩ rfl ?_
   obtain ⟨q1, q2⟩ := S.dec_none (S.Steps.none hbd (⟨zh, za, zl, zt, zk, (⟨0, 0, 0, zq.1, .empty⟩, zq.2.1, zq.2.2), ze, zs, eh, ea, el, et, ek, (by rw [ezq]; exact S.actB_key zk.2.1 zk.2.2 hk1 hk4), ee, es⟩ : S.Steps bs) (fun ⟨_, g2, g3, g4⟩ => by first | exact Bool.noConfusion (hb1.symm.trans g2) | exact absurd g4 hz | (have g3 : zs.2.2 = [] := g3; rw [g3] at lQ9; simp at lQ9; omega)))
   rw [q1, q2]
   exact ⟨_, rfl, hE, _, _, rfl, Nat.le_refl _, WRow.nil⟩
  refine RS.nm ?_
  have hb0 := c75
  refine RS.wt 107 ?_
  refine RS.mvP rfl ?_
  refine RS.wt 107 ?_
  refine RS.nilCheck rfl ?_
  refine RS.wt 107 ?_
  refine RS.o (D.fieldL 0 rfl Tryd.underlying103 rfl C35 (by decide) rfl) ?_
  refine RS.wt 107 ?_
  refine RS.o (D.load rfl Tryd.underlying35 rfl (B4.cell rfl)) ?_
  refine RS.wt 107 ?_
  refine RS.o (D.len rfl Tryd.underlying35) ?_
  refine RS.wt 107 ?_
  refine RS.o (D.gt rfl rfl) ?_
  refine RS.pick (v := .bool _) rfl rfl ?_
  refine RS.mvB rfl ?_
  refine RS.splitd 115 rfl rfl (fun c79 => ?_) (fun c79 => ?_)
  ·refine RS.nm ?_
   have hr := c79
   refine RS.skT 115 ?_
   refine RS.skT 115 ?_
   refine RS.skT 115 ?_
   refine RS.pick (v := .bool true) rfl rfl ?_
   refine nl hK74 ?_
   refine C.ift rfl ?_
   refine sq fun K80 hK80 => ?_
   refine RS.move (v := .func _ _ _) rfl ?_
   refine RS.callv E70 (decFail _) rfl rfl (fun e81 w81 A81 => ?_)
   obtain ⟨v81, rfl, x81, A81⟩ := A81
   refine ⟨_, rfl, ?_⟩
   replace hE := Ext.tr hE x81
   replace B2 := B2.ext x81
   replace B4 := B4.ext x81
   replace B14 := B14.ext x81
   replace DL := DL.ext x81
   replace OKs := OKs.ext x81
   replace Q9 := Q9.ext x81
   have zw81 := x81.size
   subst A81
   refine RS.nm ?_
   refine RS.extract (v := .agg _) rfl rfl ?_
   refine RS.extract (v := .int _ _) rfl rfl ?_
   refine RS.storeAggB rfl rfl C32 (by decide) rfl rfl B2 rfl (fun w82 y82 N82 => ?_)
   replace hE := hE.trans (y82.belo)
   replace B4 := B4.sto y82
   replace B14 := B14.sto y82
   replace DL := DL.sto y82
   replace OKs := OKs.st y82 (by intros; try (first | (intro _ _) | (intro _) | skip); first | omega | (have hq := hOK _ (by assumption); first | omega | (dsimp only at *; omega)))
   replace Q9 := Q9.sto y82
   have zw82 := y82.size
   replace B2 := N82
   refine RS.asI rfl ?_
   refine nl hK80 ?_
   refine wp_ret ?_
   refine ret (rs := [.cell 2 32, .tmp 3]) (vs := [.agg _, .int _ _]) (v := (.tuple #[.agg _, .int _ _])) rfl ⟨⟨_, rfl, loadVar_agg Tryd.underlying32 rfl C32 (by decide) rfl (B2.cellsN 11 rfl)⟩, rfl, trivial⟩ rfl ?_
   obtain ⟨q1, q2⟩ := S.dec_none (S.Steps.none hbd (⟨zh, za, zl, zt, zk, (⟨0, 0, 0, zq.1, .empty⟩, zq.2.1, zq.2.2), ze, zs, eh, ea, el, et, ek, (by rw [ezq]; exact S.actB_key zk.2.1 zk.2.2 hk1 hk4), ee, es⟩ : S.Steps bs) (fun ⟨_, g2, g3, g4⟩ => by first | exact Bool.noConfusion (hb1.symm.trans g2) | exact absurd g4 hz | (have g3 : zs.2.2 = [] := g3; rw [g3] at lQ9; simp at lQ9; omega)))
   rw [q1, q2]
   exact ⟨_, rfl, hE, _, _, rfl, Nat.le_refl _, WRow.nil⟩
  refine RS.nm ?_
  have hr := c79
  refine RS.wt 115 ?_
  refine RS.o (D.loadAgg rfl Tryd.underlying32 rfl C32 (by decide) rfl (B14.cellsN 11 rfl)) ?_
  refine RS.wt 115 ?_
  refine RS.call E20 (checkO (⟨zh, za, zl, zt, zk, (⟨0, 0, 0, zq.1, .empty⟩, zq.2.1, zq.2.2), ze, zs, eh, ea, el, et, ek, (by rw [ezq]; exact S.actB_key zk.2.1 zk.2.2 hk1 hk4), ee, es⟩ : S.Steps bs).op hsb.1 _ _ _ DL hcL) rfl (fun v83 w83 x83 A83 => ?_)
  replace hE := Ext.tr hE x83
  replace B2 := B2.ext x83
  replace B4 := B4.ext x83
  replace B14 := B14.ext x83
  replace DL := DL.ext x83
  replace OKs := OKs.ext x83
  replace Q9 := Q9.ext x83
  have zw83 := x83.size
  subst A83
  refine RS.nm ?_
  refine RS.wt 115 ?_
  refine RS.o (D.ne rfl rfl) ?_
  refine RS.pick (v := .bool _) rfl rfl ?_
  refine nl hK74 ?_
  refine C.ifn rfl (fun c84 => ?_) (fun c84 => ?_)
  ·have hz := c84
   refine sq fun K85 hK85 => ?_
   refine RS.move (v := .func _ _ _) rfl ?_
   refine RS.callv E70 (decFail _) rfl rfl (fun e86 w86 A86 => ?_)
   obtain ⟨v86, rfl, x86, A86⟩ := A86
   refine ⟨_, rfl, ?_⟩
   replace hE := Ext.tr hE x86
   replace B2 := B2.ext x86
   replace B4 := B4.ext x86
   replace B14 := B14.ext x86
   replace DL := DL.ext x86
   replace OKs := OKs.ext x86
   replace Q9 := Q9.ext x86
   have zw86 := x86.size
   subst A86
   refine RS.nm ?_
   refine RS.extract (v := .agg _) rfl rfl ?_
   refine RS.extract (v := .int _ _) rfl rfl ?_
   refine RS.storeAggB rfl rfl C32 (by decide) rfl rfl B2 rfl (fun w87 y87 N87 => ?_)
   replace hE := hE.trans (y87.belo)
   replace B4 := B4.sto y87
   replace B14 := B14.sto y87
   replace DL := DL.sto y87
   replace OKs := OKs.st y87 (by intros; try (first | (intro _ _) | (intro _) | skip); first | omega | (have hq := hOK _ (by assumption); first | omega | (dsimp only at *; omega)))
   replace Q9 := Q9.sto y87
   have zw87 := y87.size
   replace B2 := N87
   refine RS.asI rfl ?_
   refine nl hK85 ?_
   refine wp_ret ?_
   refine ret (rs := [.cell 2 32, .tmp 3]) (vs := [.agg _, .int _ _]) (v := (.tuple #[.agg _, .int _ _])) rfl ⟨⟨_, rfl, loadVar_agg Tryd.underlying32 rfl C32 (by decide) rfl (B2.cellsN 11 rfl)⟩, rfl, trivial⟩ rfl ?_
   obtain ⟨q1, q2⟩ := S.dec_none (S.Steps.none hbd (⟨zh, za, zl, zt, zk, (⟨0, 0, 0, zq.1, .empty⟩, zq.2.1, zq.2.2), ze, zs, eh, ea, el, et, ek, (by rw [ezq]; exact S.actB_key zk.2.1 zk.2.2 hk1 hk4), ee, es⟩ : S.Steps bs) (fun ⟨_, g2, g3, g4⟩ => by first | exact Bool.noConfusion (hb1.symm.trans g2) | exact absurd g4 hz | (have g3 : zs.2.2 = [] := g3; rw [g3] at lQ9; simp at lQ9; omega)))
   rw [q1, q2]
   exact ⟨_, rfl, hE, _, _, rfl, Nat.le_refl _, WRow.nil⟩
  have hz := c84
  refine wp_skip ?_
  refine hK73 _ _ ?_
  refine sq fun K88 hK88 => ?_
  refine RS.o (D.loadAgg rfl Tryd.underlying32 rfl C32 (by decide) rfl (B14.cellsN 11 rfl)) ?_
  refine RS.storeAggB rfl rfl C32 (by decide) rfl rfl B2 rfl (fun w89 y89 N89 => ?_)
  replace hE := hE.trans (y89.belo)
  replace B4 := B4.sto y89
  replace B14 := B14.sto y89
  replace DL := DL.sto y89
  replace OKs := OKs.st y89 (by intros; try (first | (intro _ _) | (intro _) | skip); first | omega | (have hq := hOK _ (by assumption); first | omega | (dsimp only at *; omega)))
  replace Q9 := Q9.sto y89
  have zw89 := y89.size
  replace B2 := N89
  refine RS.asI rfl ?_
  refine nl hK88 ?_
  refine wp_ret ?_
  refine ret (rs := [.cell 2 32, .tmp 3]) (vs := [.agg _, .int _ _]) (v := (.tuple #[.agg _, .int _ _])) rfl ⟨⟨_, rfl, loadVar_agg Tryd.underlying32 rfl C32 (by decide) rfl (B2.cellsN 11 rfl)⟩, rfl, trivial⟩ rfl ?_
  obtain ⟨q1, q2⟩ := S.dec_some (S.Steps.good hbd (⟨zh, za, zl, zt, zk, (⟨0, 0, 0, zq.1, .empty⟩, zq.2.1, zq.2.2), ze, zs, eh, ea, el, et, ek, (by rw [ezq]; exact S.actB_key zk.2.1 zk.2.2 hk1 hk4), ee, es⟩ : S.Steps bs) (by show zh.1 = 111; exact hx1) hb0 (List.eq_nil_of_length_eq_zero (by show zs.2.2.length = 0; omega)) hz)
  rw [q1, q2]
  exact ⟨_, rfl, hE, _, _, rfl, hcL, DL.weaken (fun k _ h => by omega)⟩
 have hk1 := c30
 refine wp_skip ?_
 refine hK28 _ _ ?_
 refine wp_seq_k (fun K90 hK90 => ?_)
 refine sq fun K91 hK91 => ?_
 refine RS.o (D.fieldL 3 rfl Tryd.underlying32 rfl C28 (by decide) rfl) ?_
 refine RS.o (D.fieldL 3 rfl Tryd.underlying28 rfl C5 (by decide) rfl) ?_
 refine RS.o (D.load rfl Tryd.underlying5 rfl (B14.cell rfl)) ?_
 refine RS.o (D.eq rfl rfl) ?_
 refine nl hK91 ?_
 refine C.ife rfl (fun c92 => ?_) (fun c92 => ?_)
 ·have hk4 := c92
  exfalso; omega
 have hk4 := c92
 refine wp_skip ?_
 refine hK90 _ _ ?_
 refine sq fun K93 hK93 => ?_
 refine RS.mvP rfl ?_
 refine RS.callx E72 (rNumber _ w.heap.size _ (by omega) _ _ _ _ _ 500000003 (by decide) _ B4 Q5 hc5 (by omega)) rfl (fun e94 w94 A94 => ?_)
 obtain ⟨rfl, X94, a8, n8, c8, N94, hc8, hn8, Q8⟩ := A94
 refine ⟨_, rfl, ?_⟩
 refine RS.nm ?_
 replace hE := hE.trans (X94.belo)
 replace B2 := B2.pro X94
 replace B14 := B14.pro X94
 replace DL := DL.pro X94
 replace Q5 := Q5.pro X94
 have zw94 := X94.size
 replace B4 := N94
 obtain ⟨ze, ee⟩ : ∃ z, z = S.numB 500000003 zk.2.1 zk.2.2 := ⟨_, rfl⟩
 rw [← ee] at B4 Q8 ⊢
 have lQ8 := Q8.len
 have bQ8 := Q8.bd
 refine RS.o (D.conv rfl Tryd.underlying24 Tryd.underlying22 (W.u32m _)) ?_
 refine RS.mvP rfl ?_
 refine RS.callx E72 (rNumber _ w.heap.size _ (by omega) _ _ _ _ _ 500000003 (by decide) _ B4 Q8 hc8 (by omega)) rfl (fun e95 w95 A95 => ?_)
 obtain ⟨rfl, X95, a9, n9, c9, N95, hc9, hn9, Q9⟩ := A95
 refine ⟨_, rfl, ?_⟩
 refine RS.nm ?_
 replace hE := hE.trans (X95.belo)
 replace B2 := B2.pro X95
 replace B14 := B14.pro X95
 replace DL := DL.pro X95
 replace Q8 := Q8.pro X95
 have zw95 := X95.size
 replace B4 := N95
 obtain ⟨zs, es⟩ : ∃ z, z = S.numB 500000003 ze.2.1 ze.2.2 := ⟨_, rfl⟩
 rw [← es] at B4 Q9 ⊢
 have lQ9 := Q9.len
 have bQ9 := Q9.bd
 refine RS.o (D.conv rfl Tryd.underlying24 Tryd.underlying22 (W.u32m _)) ?_
 refine RS.o (D.fieldL 9 rfl Tryd.underlying32 rfl C30 (by decide) rfl) ?_
 refine RS.o (D.fieldL 9 rfl Tryd.underlying30 rfl C22 (by decide) rfl) ?_
 refine RS.store rfl (v := .int _ _) rfl C22 rfl B14 rfl (fun w96 y96 N96 => ?_)
 replace hE := hE.trans (y96.belo)
 replace B2 := B2.sto y96
 replace B4 := B4.sto y96
 replace DL := DL.sto y96
 replace Q9 := Q9.sto y96
 have zw96 := y96.size
 replace B14 := N96
 refine RS.o (D.fieldL 9 rfl Tryd.underlying32 rfl C30 (by decide) rfl) ?_
 refine RS.o (D.fieldL 10 rfl Tryd.underlying30 rfl C22 (by decide) rfl) ?_
 refine RS.store rfl (v := .int _ _) rfl C22 rfl B14 rfl (fun w97 y97 N97 => ?_)
 replace hE := hE.trans (y97.belo)
 replace B2 := B2.sto y97
 replace B4 := B4.sto y97
 replace DL := DL.sto y97
 replace Q9 := Q9.sto y97
 have zw97 := y97.size
 replace B14 := N97
 refine nl hK93 ?_
 refine wp_seq_k (fun K98 hK98 => ?_)
 refine wp_seq_k (fun K99 hK99 => ?_)
 have hsb := S.Steps.ok hbd (⟨zh, za, zl, zt, zk, (⟨0, 0, 0, .empty, .empty⟩, zk.2.1, zk.2.2), ze, zs, eh, ea, el, et, ek, (S.actB_none zk.2.1 zk.2.2 hk1), ee, es⟩ : S.Steps bs)
 refine region ?_
 refine RS.mvP rfl ?_
 refine RS.nilCheck rfl ?_
 refine RS.o (D.fieldL 1 rfl Tryd.underlying103 rfl C4 (by decide) rfl) ?_
 refine RS.o (D.load rfl Tryd.underlying4 rfl (B4.cell rfl)) ?_
 refine RS.mvB rfl ?_
 refine RS.splitb 107 rfl rfl (fun c100 => ?_) (fun c100 => ?_)
 ·refine RS.nm ?_
  have hb1 := c100
  refine RS.skT 107 ?_
  refine RS.skT 107 ?_
  refine RS.skT 107 ?_
  refine RS.skT 107 ?_
  refine RS.skT 107 ?_
  refine RS.skT 107 ?_
  refine RS.pick (v := .bool true) rfl rfl ?_
  refine RS.mvB rfl ?_
  refine RS.skT 115 ?_
  refine RS.skT 115 ?_
  refine RS.skT 115 ?_
  refine RS.pick (v := .bool true) rfl rfl ?_
  refine nl hK99 ?_
  refine C.ift rfl ?_
  refine sq fun K101 hK101 => ?_
  refine RS.move (v := .func _ _ _) rfl ?_
  refine RS.callv E70 (decFail _) rfl rfl (fun e102 w102 A102 => ?_)
  obtain ⟨v102, rfl, x102, A102⟩ := A102
  refine ⟨_, rfl, ?_⟩
  replace hE := Ext.tr hE x102
  replace B2 := B2.ext x102
  replace B4 := B4.ext x102
  replace B14 := B14.ext x102
  replace DL := DL.ext x102
  replace Q9 := Q9.ext x102
  have zw102 := x102.size
  subst A102
  refine RS.nm ?_
  refine RS.extract (v := .agg _) rfl rfl ?_
  refine RS.extract (v := .int _ _) rfl rfl ?_
  refine RS.storeAggB rfl rfl C32 (by decide) rfl rfl B2 rfl (fun w103 y103 N103 => ?_)
  replace hE := hE.trans (y103.belo)
  replace B4 := B4.sto y103
  replace B14 := B14.sto y103
  replace DL := DL.sto y103
  replace Q9 := Q9.sto y103
  have zw103 := y103.size
  replace B2 := N103
  refine RS.asI rfl ?_
  refine nl hK101 ?_
  refine wp_ret ?_
  refine ret (rs := [.cell 2 32, .tmp 3]) (vs := [.agg _, .int _ _]) (v := (.tuple #[.agg _, .int _ _])) rfl ⟨⟨_, rfl, loadVar_agg Tryd.underlying32 rfl C32 (by decide) rfl (B2.cellsN 11 rfl)⟩, rfl, trivial⟩ rfl ?_
  obtain ⟨q1, q2⟩ := S.dec_none (S.Steps.none hbd (⟨zh, za, zl, zt, zk, (⟨0, 0, 0, .empty, .empty⟩, zk.2.1, zk.2.2), ze, zs, eh, ea, el, et, ek, (S.actB_none zk.2.1 zk.2.2 hk1), ee, es⟩ : S.Steps bs) (fun ⟨_, g2, g3, g4⟩ => by first | exact Bool.noConfusion (hb1.symm.trans g2) | exact absurd g4 hz | (have g3 : zs.2.2 = [] := g3; rw [g3] at lQ9; simp at lQ9; omega)))
  rw [q1, q2]
  exact ⟨_, rfl, hE, _, _, rfl, Nat.le_refl _, WRow.nil⟩
 refine RS.nm ?_
 have hb0 := c100
 refine RS.wt 107 ?_
 refine RS.mvP rfl ?_
 refine RS.wt 107 ?_
 refine RS.nilCheck rfl ?_
 refine RS.wt 107 ?_
 refine RS.o (D.fieldL 0 rfl Tryd.underlying103 rfl C35 (by decide) rfl) ?_
 refine RS.wt 107 ?_
 refine RS.o (D.load rfl Tryd.underlying35 rfl (B4.cell rfl)) ?_
 refine RS.wt 107 ?_
 refine RS.o (D.len rfl Tryd.underlying35) ?_
 refine RS.wt 107 ?_
 refine RS.o (D.gt rfl rfl) ?_
 refine RS.pick (v := .bool _) rfl rfl ?_
 refine RS.mvB rfl ?_
 refine RS.splitd 115 rfl rfl (fun c104 => ?_) (fun c104 => ?_)
 ·refine RS.nm ?_
  have hr := c104
  refine RS.skT 115 ?_
  refine RS.skT 115 ?_
  refine RS.skT 115 ?_
  refine RS.pick (v := .bool true) rfl rfl ?_
  refine nl hK99 ?_
  refine C.ift rfl ?_
  refine sq fun K105 hK105 => ?_
  refine RS.move (v := .func _ _ _) rfl ?_
  refine RS.callv E70 (decFail _) rfl rfl (fun e106 w106 A106 => ?_)
  obtain ⟨v106, rfl, x106, A106⟩ := A106
  refine ⟨_, rfl, ?_⟩
  replace hE := Ext.tr hE x106
  replace B2 := B2.ext x106
  replace B4 := B4.ext x106
  replace B14 := B14.ext x106
  replace DL := DL.ext x106
  replace Q9 := Q9.ext x106
  have zw106 := x106.size
  subst A106
  refine RS.nm ?_
  refine RS.extract (v := .agg _) rfl rfl ?_
  refine RS.extract (v := .int _ _) rfl rfl ?_
  refine RS.storeAggB rfl rfl C32 (by decide) rfl rfl B2 rfl (fun w107 y107 N107 => ?_)
  replace hE := hE.trans (y107.belo)
  replace B4 := B4.sto y107
  replace B14 := B14.sto y107
  replace DL := DL.sto y107
  replace Q9 := Q9.sto y107
  have zw107 := y107.size
  replace B2 := N107
  refine RS.asI rfl ?_
  refine nl hK105 ?_
  refine wp_ret ?_
  refine ret (rs := [.cell 2 32, .tmp 3]) (vs := [.agg _, .int _ _]) (v := (.tuple #[.agg _, .int _ _])) rfl ⟨⟨_, rfl, loadVar_agg Tryd.underlying32 rfl C32 (by decide) rfl (B2.cellsN 11 rfl)⟩, rfl, trivial⟩ rfl ?_
  obtain ⟨q1, q2⟩ := S.dec_none (S.Steps.none hbd (⟨zh, za, zl, zt, zk, (⟨0, 0, 0, .empty, .empty⟩, zk.2.1, zk.2.2), ze, zs, eh, ea, el, et, ek, (S.actB_none zk.2.1 zk.2.2 hk1), ee, es⟩ : S.Steps bs) (fun ⟨_, g2, g3, g4⟩ => by first | exact Bool.noConfusion (hb1.symm.trans g2) | exact absurd g4 hz | (have g3 : zs.2.2 = [] := g3; rw [g3] at lQ9; simp at lQ9; omega)))
  rw [q1, q2]
  exact ⟨_, rfl, hE, _, _, rfl, Nat.le_refl _, WRow.nil⟩
 refine RS.nm ?_
 have hr := c104
 refine RS.wt 115 ?_
 refine RS.o (D.loadAgg rfl Tryd.underlying32 rfl C32 (by decide) rfl (B14.cellsN 11 rfl)) ?_
 refine RS.wt 115 ?_
 refine RS.call E20 (checkO (⟨zh, za, zl, zt, zk, (⟨0, 0, 0, .empty, .empty⟩, zk.2.1, zk.2.2), ze, zs, eh, ea, el, et, ek, (S.actB_none zk.2.1 zk.2.2 hk1), ee, es⟩ : S.Steps bs).op hsb.1 _ _ _ DL hcL) rfl (fun v108 w108 x108 A108 => ?_)
 replace hE := Ext.tr hE x108
 replace B2 := B2.ext x108
 replace B4 := B4.ext x108
 replace B14 := B14.ext x108
 replace DL := DL.ext x108
 replace Q9 := Q9.ext x108
 have zw108 := x108.size
 subst A108
 refine RS.nm ?_
 refine RS.wt 115 ?_
 refine RS.o (D.ne rfl rfl) ?_
 refine RS.pick (v := .bool _) rfl rfl ?_
 refine nl hK99 ?_
 refine C.ifn rfl (fun c109 => ?_) (fun c109 => ?_)
 ·have hz := c109
  refine sq fun K110 hK110 => ?_
  refine RS.move (v := .func _ _ _) rfl ?_
  refine RS.callv E70 (decFail _) rfl rfl (fun e111 w111 A111 => ?_)
  obtain ⟨v111, rfl, x111, A111⟩ := A111
  refine ⟨_, rfl, ?_⟩
  replace hE := Ext.tr hE x111
  replace B2 := B2.ext x111
  replace B4 := B4.ext x111
  replace B14 := B14.ext x111
  replace DL := DL.ext x111
  replace Q9 := Q9.ext x111
  have zw111 := x111.size
  subst A111
  refine RS.nm ?_
  refine RS.extract (v := .agg _) rfl rfl ?_
  refine RS.extract (v := .int _ _) rfl rfl ?_
  refine RS.storeAggB rfl rfl C32 (by decide) rfl rfl B2 rfl (fun w112 y112 N112 => ?_)
  replace hE := hE.trans (y112.belo)
  replace B4 := B4.sto y112
  replace B14 := B14.sto y112
  replace DL := DL.sto y112
  replace Q9 := Q9.sto y112
  have zw112 := y112.size
  replace B2 := N112
  refine RS.asI rfl ?_
  refine nl hK110 ?_
  refine wp_ret ?_
  refine ret (rs := [.cell 2 32, .tmp 3]) (vs := [.agg _, .int _ _]) (v := (.tuple #[.agg _, .int _ _])) rfl ⟨⟨_, rfl, loadVar_agg Tryd.underlying32 rfl C32 (by decide) rfl (B2.cellsN 11 rfl)⟩, rfl, trivial⟩ rfl ?_
  obtain ⟨q1, q2⟩ := S.dec_none (S.Steps.none hbd (⟨zh, za, zl, zt, zk, (⟨0, 0, 0, .empty, .empty⟩, zk.2.1, zk.2.2), ze, zs, eh, ea, el, et, ek, (S.actB_none zk.2.1 zk.2.2 hk1), ee, es⟩ : S.Steps bs) (fun ⟨_, g2, g3, g4⟩ => by first | exact Bool.noConfusion (hb1.symm.trans g2) | exact absurd g4 hz | (have g3 : zs.2.2 = [] := g3; rw [g3] at lQ9; simp at lQ9; omega)))
  rw [q1, q2]
  exact ⟨_, rfl, hE, _, _, rfl, Nat.le_refl _, WRow.nil⟩
 have hz := c109
 refine wp_skip ?_
 refine hK98 _ _ ?_
 refine sq fun K113 hK113 => ?_
 refine RS.o (D.loadAgg rfl Tryd.underlying32 rfl C32 (by decide) rfl (B14.cellsN 11 rfl)) ?_
 refine RS.storeAggB rfl rfl C32 (by decide) rfl rfl B2 rfl (fun w114 y114 N114 => ?_)
 replace hE := hE.trans (y114.belo)
 replace B4 := B4.sto y114
 replace B14 := B14.sto y114
 replace DL := DL.sto y114
 replace Q9 := Q9.sto y114
 have zw114 := y114.size
 replace B2 := N114
 refine RS.asI rfl ?_
 refine nl hK113 ?_
 refine wp_ret ?_
 refine ret (rs := [.cell 2 32, .tmp 3]) (vs := [.agg _, .int _ _]) (v := (.tuple #[.agg _, .int _ _])) rfl ⟨⟨_, rfl, loadVar_agg Tryd.underlying32 rfl C32 (by decide) rfl (B2.cellsN 11 rfl)⟩, rfl, trivial⟩ rfl ?_
 obtain ⟨q1, q2⟩ := S.dec_some (S.Steps.good hbd (⟨zh, za, zl, zt, zk, (⟨0, 0, 0, .empty, .empty⟩, zk.2.1, zk.2.2), ze, zs, eh, ea, el, et, ek, (S.actB_none zk.2.1 zk.2.2 hk1), ee, es⟩ : S.Steps bs) (by show zh.1 = 111; exact hx1) hb0 (List.eq_nil_of_length_eq_zero (by show zs.2.2.length = 0; omega)) hz)
 rw [q1, q2]
 exact ⟨_, rfl, hE, _, _, rfl, hcL, DL.weaken (fun k _ h => by omega)⟩
end Go.Proofs.YtiohpiiiapjblaaDoor.W
namespace Go.Proofs.YtiohpiiiapjblaaDoor.S
open G
/-- The verdict on bytes. -/
def jdV (b : List Int) : Int := if 400 < b.length then 3 else if decE b = 0 then (if verE (decO b) = 0 then 0 else 4) else 2
def jdO (b : List Int) : OpV := if jdV b = 0 then decO b else OpV.zero
def jdI (b : List Int) : List Int := if jdV b = 0 then sha (encS (decO b)) else List.replicate 32 0
theorem jd_long {b : List Int} (h : 400 < b.length) : jdV b = 3 := by unfold jdV; rw [if_pos h]
theorem jd_form {b : List Int} (h : ¬ 400 < b.length) (hd : decE b ≠ 0) : jdV b = 2 := by unfold jdV; rw [if_neg h, if_neg hd]
theorem jd_sig {b : List Int} (h : ¬ 400 < b.length) (hd : decE b = 0) (hv : verE (decO b) ≠ 0) : jdV b = 4 := by unfold jdV; rw [if_neg h, if_pos hd, if_neg hv]
theorem jd_fine {b : List Int} (h : ¬ 400 < b.length) (hd : decE b = 0) (hv : verE (decO b) = 0) : jdV b = 0 := by unfold jdV; rw [if_neg h, if_pos hd, if_pos hv]
theorem jd_ne {b : List Int} (h : jdV b ≠ 0) : jdO b = OpV.zero ∧ jdI b = List.replicate 32 0 := by unfold jdO jdI; rw [if_neg h, if_neg h]; exact ⟨rfl, rfl⟩
theorem jd_zero {b : List Int} (h : jdV b = 0) : jdO b = decO b ∧ jdI b = sha (encS (decO b)) := by unfold jdO jdI; rw [if_pos h, if_pos h]; exact ⟨rfl, rfl⟩
theorem jdI_arr (b : List Int) : Arr .u8 32 (jdI b) := by
  unfold jdI
  split
  · exact sha_arr _
  · exact Arr.zeros .u8 32
theorem jd_bd (b : List Int) : 0 ≤ jdV b ∧ jdV b ≤ 4 ∧ jdV b ≠ 1 := by
  unfold jdV
  repeat' split
  all_goals decide
/-- What is read is an operation. -/
theorem decO_ok {b : List Int} (hB : Bd .u8 b) : (decO b).ok ∧ (decO b).ids.length = 32 * (decO b).n := by
  by_cases h : decE b = 0
  · obtain ⟨q1, q2, q3, _⟩ := dec_inv hB (dec_zero h)
    obtain ⟨c1, _, c3⟩ := check_zero.1 q3
    have hf : (decO b).key.size ≤ 100 ∧ (decO b).t.size ≤ 100 := by
      rcases c3.2.2.2.2 with ⟨_, h1, _, _, _, h2⟩ | ⟨_, hK, _, _, _, h2⟩ | ⟨_, hK, hV⟩
      · rw [h1, h2]; exact ⟨by decide, by decide⟩
      · rw [h2]; exact ⟨by have := hK.2.1; omega, by decide⟩
      · refine ⟨by have := hK.2.1; omega, ?_⟩
        rcases hV with ⟨_, _, h2⟩ | ⟨_, _, h2, _⟩ | ⟨_, _, _, h2, _⟩
        · rw [h2]; decide
        · rw [h2]; decide
        · omega
    exact ⟨q1.ok (by omega), q2⟩
  · have e := (dec_ne h).1
    have : decO b = OpV.zero := by unfold decO; rw [e]; rfl
    rw [this]
    exact ⟨OpV.zero_ok, rfl⟩
theorem dec_good {b : List Int} (hB : Bd .u8 b) (h : decE b = 0) : checkE (decO b) = 0 ∧ encS (decO b) = b := by
  obtain ⟨_, _, q3, q4⟩ := dec_inv hB (dec_zero h)
  exact ⟨q3, q4.symm⟩
/-- What is valid is read back. -/
theorem dec_back {o : OpV} (ho : o.rng) (hl : o.ids.length = 32 * o.n) (hc : checkE o = 0) : decO (encS o) = o ∧ decE (encS o) = 0 := dec_some (dec_enc ho hl hc)
theorem OpV.ok.rng {o : OpV} (h : o.ok) : o.rng := ⟨h.au, h.st, h.k, h.vk, h.num, h.bits, h.e, h.s⟩
theorem jd_nil : jdV [] = 2 := rfl
/-- An operation that nobody signed. -/
def exO : OpV := ⟨4, 7, 1, 0, 0, 0, 0, 0, 0, [], .empty, .empty⟩
theorem exO_ok : exO.ok := ⟨by decide, by decide, by decide, by decide, by decide, by decide, by decide, by decide, by decide, by decide, by decide⟩
theorem exO_check : checkE exO = 0 := check_zero.2 ⟨by decide, rising_nil, isG_four, by decide, by decide, by decide, .inl ⟨rfl, rfl, rfl, rfl, rfl, rfl⟩⟩
theorem exO_enc : encS exO = [111, 4, 0, 7, 1, 0, 0] := by decide +kernel
theorem exO_msg : msgS exO = [111, 4, 0, 7, 1] := by decide +kernel
theorem exO_hash : chalS 1 4 [111, 4, 0, 7, 1] ≠ 0 := by decide +kernel
theorem exO_ver : verE exO = 22 := by
  unfold verE
  rw [if_pos exO_check, exO_msg]
  show verS 4 [111, 4, 0, 7, 1] 0 0 = 22
  unfold verS
  rw [if_neg (by rw [isG_four]; simp), if_neg (by decide), if_neg (by decide), if_neg]
  have e1 : pubS 0 = 1 := (pub_eq 0).symm.trans (pw_zero 4 1000000007 (by decide))
  rw [e1, show (500000003 : Int) - 0 = 500000003 from rfl, gen_one, show (1 : Int) * 1 % 1000000007 = 1 from rfl]
  exact exO_hash
theorem jd_ex : jdV [111, 4, 0, 7, 1, 0, 0] = 4 := by
  obtain ⟨d1, d2⟩ := dec_back (OpV.ok.rng exO_ok) rfl exO_check
  rw [exO_enc] at d1 d2
  exact jd_sig (by decide) d2 (by rw [d1, exO_ver]; decide)
/-- The operation that the examples sign. -/
def kO : OpV := ⟨0, 1, 2, 0, 0, 0, 0, 0, 0, [], ⟨#[107]⟩, .empty⟩
theorem kO_ok : kO.ok := ⟨by decide, by decide, by decide, by decide, by decide, by decide, by decide, by decide, by decide, by decide, by decide⟩
theorem act_k : FineAct 2 ⟨#[107]⟩ 0 0 0 .empty := .inr (.inl ⟨.inl rfl, by decide +kernel, rfl, rfl, rfl, rfl⟩)
theorem kO_sign {x : Int} (hx : 0 < x ∧ x < 500000003) : signE x kO = 0 := signE_zero.2 ⟨hx, check_zero.2 ⟨(by decide : (0 : Nat) ≤ 4), rising_nil, isG_pub x (by omega), (by decide : (1 : Int) ≤ 1000000000000), (by decide : (0 : Int) < 500000003), (by decide : (0 : Int) < 500000003), act_k⟩⟩
def sgnB (x : Int) : List Int := if checkE (signS x kO) = 0 then encS (signS x kO) else []
theorem sgn_fine {x : Int} (hx : 0 < x ∧ x < 500000003) : jdV (sgnB x) = 0 ∧ (sgnB x).length ≤ 100 ∧ 1 ≤ (sgnB x).length := by
  obtain ⟨g1, g2, g3, g4, g5, g6, g7⟩ := sign_good kO_ok rfl (kO_sign hx)
  have e : sgnB x = encS (signS x kO) := by unfold sgnB; rw [if_pos g3]
  have es := signS_eq (kO_sign hx)
  have hn : (signS x kO).ids.length = 32 * (signS x kO).n := by rw [es]; rfl
  have hl : (sgnB x).length ≤ 100 ∧ 1 ≤ (sgnB x).length := by
    rw [e]
    unfold encS
    rw [g5]
    have h1 := numS_len (signS x kO).e
    have h2 := numS_len (signS x kO).s
    have h3 := numS_len (pubS x)
    have h4 : msgS (kO.wit x) = [111] ++ numS (pubS x) ++ [0, 1, 2, 1, 107] := by
      show [111] ++ numS (pubS x) ++ listS 0 [] ++ numS 1 ++ [2] ++ ((numS 1 ++ bys ⟨#[107]⟩) ++ []) = _
      simp only [List.append_assoc]
      rfl
    rw [h4]
    simp only [List.length_append, List.length_cons, List.length_nil]
    omega
  obtain ⟨d1, d2⟩ := dec_back (OpV.ok.rng (signS_ok x kO kO_ok)) hn g3
  refine ⟨?_, hl⟩
  refine jd_fine (by omega) (by rw [e]; exact d2) ?_
  rw [e, d1]
  exact g7
theorem map_getD {α : Type} (f : α → Int) (l : List α) (d : α) (i : Nat) (h : i < l.length) : (l.map f).getD i 0 = f (l.getD i d) := by
  simp [List.getD_eq_getElem?_getD, List.getElem?_eq_getElem h]
/-- How often each verdict stands in a list. -/
def cntS (vs : List Int) : List Int := (List.range 10).map fun (i : Nat) => ((vs.filter fun v => v == (i : Int)).length : Int)
theorem cnt_len (vs : List Int) : (cntS vs).length = 10 := by simp [cntS]
theorem cnt_get (vs : List Int) (i : Nat) (h : i < 10) : (cntS vs).getD i 0 = ((vs.filter fun v => v == (i : Int)).length : Int) := by
  simp only [cntS, List.getD_eq_getElem?_getD, List.getElem?_map, List.getElem?_range h, Option.map_some, Option.getD_some]
theorem cnt_bd (vs : List Int) (i : Nat) (h : i < 10) : 0 ≤ (cntS vs).getD i 0 ∧ (cntS vs).getD i 0 ≤ vs.length := by
  rw [cnt_get vs i h]
  have := List.length_filter_le (fun v => v == (i : Int)) vs
  omega
theorem cnt_arr (vs : List Int) (h : vs.length ≤ 1000000) : Arr .i64 10 (cntS vs) := by
  refine ⟨cnt_len vs, ?_⟩
  intro x hx
  obtain ⟨i, hi, rfl⟩ := List.mem_map.1 hx
  have := List.length_filter_le (fun v => v == (i : Int)) vs
  simp only [lim]
  omega
theorem cnt_nil : cntS [] = List.replicate 10 0 := rfl
theorem cnt_ext {a b : List Int} (ha : a.length = 10) (hb : b.length = 10) (h : ∀ i, i < 10 → a.getD i 0 = b.getD i 0) : a = b := by
  apply List.ext_getElem (by omega)
  intro i h1 h2
  have := h i (by omega)
  rwa [List.getD_eq_getElem?_getD, List.getElem?_eq_getElem h1, List.getD_eq_getElem?_getD, List.getElem?_eq_getElem h2] at this
theorem set_getD (l : List Int) (j : Nat) (v : Int) (i : Nat) (hj : j < l.length) : (l.set j v).getD i 0 = if i = j then v else l.getD i 0 := by
  rw [List.getD_eq_getElem?_getD, List.getElem?_set]
  by_cases h : j = i
  · subst h; simp [hj]
  · rw [if_neg h, if_neg (fun e => h e.symm), List.getD_eq_getElem?_getD]
theorem cnt_snoc (l : List Int) (x : Int) (hx : 0 ≤ x ∧ x < 10) : (cntS l).set x.toNat ((cntS l).getD x.toNat 0 + 1) = cntS (l ++ [x]) := by
  refine cnt_ext (by rw [List.length_set, cnt_len]) (cnt_len _) (fun i hi => ?_)
  rw [set_getD _ _ _ _ (by rw [cnt_len]; omega), cnt_get (l ++ [x]) i hi, List.filter_append, List.length_append, cnt_get l i hi]
  by_cases h : i = x.toNat
  · have hxi : (x == (i : Int)) = true := by simp; omega
    rw [if_pos h, ← h, cnt_get l i hi]
    simp [hxi]
  · have hxi : (x == (i : Int)) = false := by simp; omega
    rw [if_neg h]
    simp [hxi]
end Go.Proofs.YtiohpiiiapjblaaDoor.S
