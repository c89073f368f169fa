/-
  Part 9 of the lemmas of these laws: OpNames, JudgeNames.
-/
import Derived.Test.YtiohpiiiapjblaaDoorPQn8
namespace Go.Proofs.YtiohpiiiapjblaaDoor.W
open Go.RowKit Go.Proofs.YtiohpiiiapjblaaDoor.G
set_option linter.unusedVariables false
set_option maxRecDepth 20000
set_option maxHeartbeats 8000000
attribute [local irreducible] RS RX
theorem C71 : Tryd.prog.cellsOf 71 = 10 := by kernel_rfl
theorem T71 : TI Tryd.prog 71 10 80 (ints .i64 (List.replicate 10 0)) := by
 have h : (Tryd.prog.info? 71).map (fun i => (i.size, i.bytes, i.zero)) = some (10, 80, some (.agg #[.int .i64 0, .int .i64 0, .int .i64 0, .int .i64 0, .int .i64 0, .int .i64 0, .int .i64 0, .int .i64 0, .int .i64 0, .int .i64 0])) := by kernel_rfl
 exact TI.of h rfl
theorem E31 : Enters Tryd.prog 31 := .mk Tryd.func31 (by kernel_rfl) rfl
theorem E34 : Enters Tryd.prog 34 := .mk Tryd.func34 (by kernel_rfl) rfl
theorem E37 : Enters Tryd.prog 37 := .mk Tryd.func37 (by kernel_rfl) rfl
theorem E78 : Enters Tryd.prog 78 := .mk Tryd.func78 (by kernel_rfl) rfl
theorem judgeOf {S0 : Nat → Prop} (a : Option Addr) (n c : Nat) (bs : List Int) (TK : TypeId) (w : World) (K0 : Kst w TK) (R0 : IRow .u8 S0 w a n bs) (hc : n ≤ c) (hn : n ≤ 1000000) :
  Calls Tryd.prog 34 #[.slice a n c] w (Ret w fun v w' => ∃ a' c', v = .tuple #[.agg ([.int .u32 (S.jdO bs).au, .slice a' (S.jdO bs).n c', .int .u64 (S.jdO bs).st, .int .u8 (S.jdO bs).k, .string (S.jdO bs).key, .int .u8 (S.jdO bs).vk, .int .i64 (S.jdO bs).num, .int .u64 (S.jdO bs).bits, .string (S.jdO bs).t, .int .u32 (S.jdO bs).e, .int .u32 (S.jdO bs).s] : List Value).toArray, .agg (ints .u8 (S.jdI bs)).toArray, .int .u8 (S.jdV bs)] ∧ (S.jdO bs).n ≤ c' ∧ WRow .u8 32 (fun k => w.heap.size ≤ k) w' a' (S.jdO bs).n (S.jdO bs).ids) := by
 replace R0 := R0.weaken (T := fun k => k < w.heap.size) (fun k hk _ => hk)
 have hbl := R0.len
 have hbd := R0.bd
 have hKl := K0.lt
 have hE := Ext.refl w
 refine enterU 32 Tryd.func34 rfl rfl ?_
 refine sq fun K1 hK1 => ?_
 refine RS.alloc T32 (fun b2 w2 e2 s2 x2 B2 => ?_)
 refine RS.nm ?_
 replace hE := Ext.tr hE x2
 replace K0 := K0.ext x2
 replace R0 := R0.ext x2
 have zw2 := x2.size
 refine RS.alloc T42 (fun b3 w3 e3 s3 x3 B3 => ?_)
 refine RS.nm ?_
 replace hE := Ext.tr hE x3
 replace K0 := K0.ext x3
 replace R0 := R0.ext x3
 replace B2 := B2.ext x3
 have zw3 := x3.size
 have A3 : IArr .u8 w3 b3 32 (List.replicate 32 0) [] 42 := IArr.zero B3
 clear B3
 refine RS.asI rfl ?_
 refine nl hK1 ?_
 refine wp_seq_k (fun K4 hK4 => ?_)
 refine sq fun K5 hK5 => ?_
 refine RS.mvS rfl ?_
 refine RS.o (D.len rfl Tryd.underlying35) ?_
 refine RS.o (D.gt rfl rfl) ?_
 refine nl hK5 ?_
 refine C.ifd rfl (fun c6 => ?_) (fun c6 => ?_)
 ·have hg := c6
  have hv := S.jd_long (b := bs) (by omega)
  refine wp_seq_k (fun K7 hK7 => ?_)
  refine regionX (Pr (fun k => k = b2)) [(1, .q), (0, .e), (2, .e), (3, .g), (4, .q)] mixed (fun w => Pr.refl _ _) (fun h k => Pr.tr h k) (by kernel_rfl) (fun w8 x8 => ?_)
  replace hE := Ext.tr hE x8
  replace K0 := K0.ext x8
  replace R0 := R0.ext x8
  replace B2 := B2.ext x8
  replace A3 := A3.ext x8
  have zw8 := x8.size
  refine RX.o (fun w' hw => D.loadAgg rfl Tryd.underlying42 rfl C42 (by decide) (by rw [ints_length, A3.len]) (A3.pr hw (by intros; try (first | (intro _ _) | (intro _) | skip); first | omega | (dsimp only at *; omega) | (simp_all; done) | (simp at *; omega))).cells) ?_
  refine RX.eff ?_
  refine RS.o (D.loadAgg rfl Tryd.underlying32 rfl C32 (by decide) rfl (B2.cellsN 11 rfl)) ?_
  refine RS.nil ⟨(Pr.refl _ _), ?_⟩
  refine RX.eff ?_
  refine RS.storeAggB rfl rfl C32 (by decide) rfl rfl B2 rfl (fun w9 y9 N9 => ?_)
  replace hE := hE.trans (y9.belo)
  replace K0 := K0.sto y9
  replace R0 := R0.sto y9
  replace A3 := A3.sto y9
  have zw9 := y9.size
  replace B2 := N9
  refine RS.nil ⟨((Pr.refl _ _).sto y9), ?_⟩
  refine RX.big ?_
  refine RS.storeArr A3 rfl rfl C42 (by decide) (Arr.zeros .u8 32).1 (Arr.zeros .u8 32).2 (fun w10 y10 N10 => ?_)
  replace hE := hE.trans (y10.belo)
  replace K0 := K0.sto y10
  replace R0 := R0.sto y10
  replace B2 := B2.sto y10
  have zw10 := y10.size
  replace A3 := N10
  refine RS.nil ?_
  refine RX.assign (v := .int .u8 3) rfl ?_
  refine RX.nil (hK7 _ _ ?_)
  refine wp_ret ?_
  refine ret (rs := [.cell 2 32, .cell 3 42, .tmp 4]) (vs := [.agg _, .agg _, .int _ _]) (v := (.tuple #[.agg _, .agg _, .int _ _])) rfl ⟨⟨_, rfl, loadVar_agg Tryd.underlying32 rfl C32 (by decide) rfl (B2.cellsN 11 rfl)⟩, ⟨_, rfl, loadVar_agg Tryd.underlying42 rfl C42 (by decide) (by rw [ints_length, A3.len]) A3.cells⟩, rfl, trivial⟩ rfl ?_
  obtain ⟨e1, e2⟩ := S.jd_ne (b := bs) (by rw [hv]; decide)
  rw [e1, e2, hv]
  exact ⟨_, rfl, hE, _, _, rfl, Nat.le_refl _, WRow.nil⟩
 have hg := c6
 refine wp_skip ?_
 refine hK4 _ _ ?_
 refine sq fun K11 hK11 => ?_
 refine RS.mvS rfl ?_
 refine RS.call E31 (decodeO _ _ _ _ _ R0 hc hn) rfl (fun v12 w12 x12 A12 => ?_)
 replace hE := Ext.tr hE x12
 replace K0 := K0.ext x12
 replace R0 := R0.ext x12
 replace B2 := B2.ext x12
 replace A3 := A3.ext x12
 have zw12 := x12.size
 obtain ⟨aD, cD, rfl, hcD, DD⟩ := A12
 obtain ⟨hok, hdl⟩ := S.decO_ok hbd
 replace DD := DD.weaken (T := fun k => b3 < k ∧ k < w12.heap.size) (fun k hk h => by omega)
 refine RS.nm ?_
 refine RS.move (v := .tuple _) rfl ?_
 refine RS.extract (v := .agg _) rfl rfl ?_
 refine RS.extract (v := .int _ _) rfl rfl ?_
 refine RS.alloc T32 (fun b13 w13 e13 s13 x13 B13 => ?_)
 refine RS.nm ?_
 replace hE := Ext.tr hE x13
 replace K0 := K0.ext x13
 replace R0 := R0.ext x13
 replace B2 := B2.ext x13
 replace A3 := A3.ext x13
 replace DD := DD.ext x13
 have zw13 := x13.size
 refine RS.storeAggB rfl rfl C32 (by decide) rfl rfl B13 rfl (fun w14 y14 N14 => ?_)
 replace hE := hE.trans (y14.belo)
 replace K0 := K0.sto y14
 replace R0 := R0.sto y14
 replace B2 := B2.sto y14
 replace A3 := A3.sto y14
 replace DD := DD.sto y14
 have zw14 := y14.size
 replace B13 := N14
 refine RS.asI rfl ?_
 refine nl hK11 ?_
 refine wp_seq_k (fun K15 hK15 => ?_)
 refine sq fun K16 hK16 => ?_
 refine RS.mvI rfl ?_
 refine RS.o (D.ne rfl rfl) ?_
 refine nl hK16 ?_
 refine C.ifn rfl (fun c17 => ?_) (fun c17 => ?_)
 ·have hz := c17
  have hv := S.jd_form (b := bs) (by omega) hz
  refine wp_seq_k (fun K18 hK18 => ?_)
  refine regionX (Pr (fun k => k = b2)) [(1, .q), (0, .e), (2, .e), (3, .g), (4, .q)] mixed (fun w => Pr.refl _ _) (fun h k => Pr.tr h k) (by kernel_rfl) (fun w19 x19 => ?_)
  replace hE := Ext.tr hE x19
  replace K0 := K0.ext x19
  replace R0 := R0.ext x19
  replace B2 := B2.ext x19
  replace A3 := A3.ext x19
  replace DD := DD.ext x19
  replace B13 := B13.ext x19
  have zw19 := x19.size
  refine RX.o (fun w' hw => D.loadAgg rfl Tryd.underlying42 rfl C42 (by decide) (by rw [ints_length, A3.len]) (A3.pr hw (by intros; try (first | (intro _ _) | (intro _) | skip); first | omega | (dsimp only at *; omega) | (simp_all; done) | (simp at *; omega))).cells) ?_
  refine RX.eff ?_
  refine RS.o (D.loadAgg rfl Tryd.underlying32 rfl C32 (by decide) rfl (B2.cellsN 11 rfl)) ?_
  refine RS.nil ⟨(Pr.refl _ _), ?_⟩
  refine RX.eff ?_
  refine RS.storeAggB rfl rfl C32 (by decide) rfl rfl B2 rfl (fun w20 y20 N20 => ?_)
  replace hE := hE.trans (y20.belo)
  replace K0 := K0.sto y20
  replace R0 := R0.sto y20
  replace A3 := A3.sto y20
  replace DD := DD.sto y20
  replace B13 := B13.sto y20
  have zw20 := y20.size
  replace B2 := N20
  refine RS.nil ⟨((Pr.refl _ _).sto y20), ?_⟩
  refine RX.big ?_
  refine RS.storeArr A3 rfl rfl C42 (by decide) (Arr.zeros .u8 32).1 (Arr.zeros .u8 32).2 (fun w21 y21 N21 => ?_)
  replace hE := hE.trans (y21.belo)
  replace K0 := K0.sto y21
  replace R0 := R0.sto y21
  replace B2 := B2.sto y21
  replace DD := DD.sto y21
  replace B13 := B13.sto y21
  have zw21 := y21.size
  replace A3 := N21
  refine RS.nil ?_
  refine RX.assign (v := .int .u8 2) rfl ?_
  refine RX.nil (hK18 _ _ ?_)
  refine wp_ret ?_
  refine ret (rs := [.cell 2 32, .cell 3 42, .tmp 4]) (vs := [.agg _, .agg _, .int _ _]) (v := (.tuple #[.agg _, .agg _, .int _ _])) rfl ⟨⟨_, rfl, loadVar_agg Tryd.underlying32 rfl C32 (by decide) rfl (B2.cellsN 11 rfl)⟩, ⟨_, rfl, loadVar_agg Tryd.underlying42 rfl C42 (by decide) (by rw [ints_length, A3.len]) A3.cells⟩, rfl, trivial⟩ rfl ?_
  obtain ⟨e1, e2⟩ := S.jd_ne (b := bs) (by rw [hv]; decide)
  rw [e1, e2, hv]
  exact ⟨_, rfl, hE, _, _, rfl, Nat.le_refl _, WRow.nil⟩
 have hz := c17
 have hck := (S.dec_good hbd hz).1
 refine wp_skip ?_
 refine hK15 _ _ ?_
 refine wp_seq_k (fun K22 hK22 => ?_)
 refine sq fun K23 hK23 => ?_
 refine RS.o (D.loadAgg rfl Tryd.underlying32 rfl C32 (by decide) rfl (B13.cellsN 11 rfl)) ?_
 refine RS.call E27 (verifyO _ hok _ _ _ _ K0 DD hcD) rfl (fun v24 w24 x24 A24 => ?_)
 replace hE := Ext.tr hE x24
 replace K0 := K0.ext x24
 replace R0 := R0.ext x24
 replace B2 := B2.ext x24
 replace A3 := A3.ext x24
 replace DD := DD.ext x24
 replace B13 := B13.ext x24
 have zw24 := x24.size
 subst A24
 refine RS.nm ?_
 refine RS.o (D.ne rfl rfl) ?_
 refine nl hK23 ?_
 refine C.ifn rfl (fun c25 => ?_) (fun c25 => ?_)
 ·have hs := c25
  have hv := S.jd_sig (b := bs) (by omega) hz hs
  refine wp_seq_k (fun K26 hK26 => ?_)
  refine regionX (Pr (fun k => k = b2)) [(1, .q), (0, .e), (2, .e), (3, .g), (4, .q)] mixed (fun w => Pr.refl _ _) (fun h k => Pr.tr h k) (by kernel_rfl) (fun w27 x27 => ?_)
  replace hE := Ext.tr hE x27
  replace K0 := K0.ext x27
  replace R0 := R0.ext x27
  replace B2 := B2.ext x27
  replace A3 := A3.ext x27
  replace DD := DD.ext x27
  replace B13 := B13.ext x27
  have zw27 := x27.size
  refine RX.o (fun w' hw => D.loadAgg rfl Tryd.underlying42 rfl C42 (by decide) (by rw [ints_length, A3.len]) (A3.pr hw (by intros; try (first | (intro _ _) | (intro _) | skip); first | omega | (dsimp only at *; omega) | (simp_all; done) | (simp at *; omega))).cells) ?_
  refine RX.eff ?_
  refine RS.o (D.loadAgg rfl Tryd.underlying32 rfl C32 (by decide) rfl (B2.cellsN 11 rfl)) ?_
  refine RS.nil ⟨(Pr.refl _ _), ?_⟩
  refine RX.eff ?_
  refine RS.storeAggB rfl rfl C32 (by decide) rfl rfl B2 rfl (fun w28 y28 N28 => ?_)
  replace hE := hE.trans (y28.belo)
  replace K0 := K0.sto y28
  replace R0 := R0.sto y28
  replace A3 := A3.sto y28
  replace DD := DD.sto y28
  replace B13 := B13.sto y28
  have zw28 := y28.size
  replace B2 := N28
  refine RS.nil ⟨((Pr.refl _ _).sto y28), ?_⟩
  refine RX.big ?_
  refine RS.storeArr A3 rfl rfl C42 (by decide) (Arr.zeros .u8 32).1 (Arr.zeros .u8 32).2 (fun w29 y29 N29 => ?_)
  replace hE := hE.trans (y29.belo)
  replace K0 := K0.sto y29
  replace R0 := R0.sto y29
  replace B2 := B2.sto y29
  replace DD := DD.sto y29
  replace B13 := B13.sto y29
  have zw29 := y29.size
  replace A3 := N29
  refine RS.nil ?_
  refine RX.assign (v := .int .u8 4) rfl ?_
  refine RX.nil (hK26 _ _ ?_)
  refine wp_ret ?_
  refine ret (rs := [.cell 2 32, .cell 3 42, .tmp 4]) (vs := [.agg _, .agg _, .int _ _]) (v := (.tuple #[.agg _, .agg _, .int _ _])) rfl ⟨⟨_, rfl, loadVar_agg Tryd.underlying32 rfl C32 (by decide) rfl (B2.cellsN 11 rfl)⟩, ⟨_, rfl, loadVar_agg Tryd.underlying42 rfl C42 (by decide) (by rw [ints_length, A3.len]) A3.cells⟩, rfl, trivial⟩ rfl ?_
  obtain ⟨e1, e2⟩ := S.jd_ne (b := bs) (by rw [hv]; decide)
  rw [e1, e2, hv]
  exact ⟨_, rfl, hE, _, _, rfl, Nat.le_refl _, WRow.nil⟩
 have hs := c25
 have hv := S.jd_fine (b := bs) (by omega) hz hs
 obtain ⟨e1, e2⟩ := S.jd_zero hv
 have hsh := S.sha_arr (S.encS (S.decO bs))
 refine wp_skip ?_
 refine hK22 _ _ ?_
 refine sq fun K30 hK30 => ?_
 refine RS.o (D.loadAgg rfl Tryd.underlying32 rfl C32 (by decide) rfl (B13.cellsN 11 rfl)) ?_
 refine RS.call E16 (idO _ hok _ _ _ _ K0 DD hcD) rfl (fun v31 w31 x31 A31 => ?_)
 replace hE := Ext.tr hE x31
 replace K0 := K0.ext x31
 replace R0 := R0.ext x31
 replace B2 := B2.ext x31
 replace A3 := A3.ext x31
 replace DD := DD.ext x31
 replace B13 := B13.ext x31
 have zw31 := x31.size
 subst A31
 rw [if_pos hck]
 refine RS.nm ?_
 refine RS.move (v := .tuple _) rfl ?_
 refine RS.extract (v := .agg _) rfl rfl ?_
 refine RS.extract (v := .int _ _) rfl rfl ?_
 refine RS.storeArr A3 rfl rfl C42 (by decide) hsh.1 hsh.2 (fun w32 y32 N32 => ?_)
 replace hE := hE.trans (y32.belo)
 replace K0 := K0.sto y32
 replace R0 := R0.sto y32
 replace B2 := B2.sto y32
 replace DD := DD.sto y32
 replace B13 := B13.sto y32
 have zw32 := y32.size
 replace A3 := N32
 refine nl hK30 ?_
 refine wp_seq_k (fun K33 hK33 => ?_)
 refine regionX (Pr (fun k => k = b2)) [(0, .q), (1, .q), (2, .e), (3, .g), (4, .q)] mixed (fun w => Pr.refl _ _) (fun h k => Pr.tr h k) (by kernel_rfl) (fun w34 x34 => ?_)
 replace hE := Ext.tr hE x34
 replace K0 := K0.ext x34
 replace R0 := R0.ext x34
 replace B2 := B2.ext x34
 replace A3 := A3.ext x34
 replace DD := DD.ext x34
 replace B13 := B13.ext x34
 have zw34 := x34.size
 refine RX.o (fun w' hw => D.loadAgg rfl Tryd.underlying32 rfl C32 (by decide) rfl ((B13.pr hw (by intros; try (first | (intro _ _) | (intro _) | skip); first | omega | (dsimp only at *; omega) | (simp_all; done) | (simp at *; omega))).cellsN 11 rfl)) ?_
 refine RX.o (fun w' hw => D.loadAgg rfl Tryd.underlying42 rfl C42 (by decide) (by rw [ints_length, A3.len]) (A3.pr hw (by intros; try (first | (intro _ _) | (intro _) | skip); first | omega | (dsimp only at *; omega) | (simp_all; done) | (simp at *; omega))).cells) ?_
 refine RX.eff ?_
 refine RS.storeAggB rfl rfl C32 (by decide) rfl rfl B2 rfl (fun w35 y35 N35 => ?_)
 replace hE := hE.trans (y35.belo)
 replace K0 := K0.sto y35
 replace R0 := R0.sto y35
 replace A3 := A3.sto y35
 replace DD := DD.sto y35
 replace B13 := B13.sto y35
 have zw35 := y35.size
 replace B2 := N35
 refine RS.nil ⟨((Pr.refl _ _).sto y35), ?_⟩
 refine RX.big ?_
 refine RS.storeArr A3 rfl rfl C42 (by decide) hsh.1 hsh.2 (fun w36 y36 N36 => ?_)
 replace hE := hE.trans (y36.belo)
 replace K0 := K0.sto y36
 replace R0 := R0.sto y36
 replace B2 := B2.sto y36
 replace DD := DD.sto y36
 replace B13 := B13.sto y36
 have zw36 := y36.size
 replace A3 := N36
 refine RS.nil ?_
 refine RX.assign (v := .int .u8 0) rfl ?_
 refine RX.nil (hK33 _ _ ?_)
 refine wp_ret ?_
 refine ret (rs := [.cell 2 32, .cell 3 42, .tmp 4]) (vs := [.agg _, .agg _, .int _ _]) (v := (.tuple #[.agg _, .agg _, .int _ _])) rfl ⟨⟨_, rfl, loadVar_agg Tryd.underlying32 rfl C32 (by decide) rfl (B2.cellsN 11 rfl)⟩, ⟨_, rfl, loadVar_agg Tryd.underlying42 rfl C42 (by decide) (by rw [ints_length, A3.len]) A3.cells⟩, rfl, trivial⟩ rfl ?_
 rw [e1, e2, hv]
 exact ⟨_, rfl, hE, _, _, rfl, hcD, DD.weaken (fun k _ h => by omega)⟩
theorem judgeFine {S0 : Nat → Prop} (a : Option Addr) (n c : Nat) (bs : List Int) (TK : TypeId) (w : World) (K0 : Kst w TK) (R0 : IRow .u8 S0 w a n bs) (hc : n ≤ c) (hn : n ≤ 1000000) :
  Calls Tryd.prog 35 #[.slice a n c] w (Ret w fun v _ => v = .bool (S.jdV bs == 0)) := by
 replace R0 := R0.weaken (T := fun k => k < w.heap.size) (fun k hk _ => hk)
 have hbl := R0.len
 have hbd := R0.bd
 have hKl := K0.lt
 have hE := Ext.refl w
 refine enterU 13 Tryd.func35 rfl rfl ?_
 refine sq fun K1 hK1 => ?_
 refine RS.asB rfl ?_
 refine nl hK1 ?_
 refine sq fun K2 hK2 => ?_
 refine RS.mvS rfl ?_
 refine RS.call E34 (judgeOf _ _ _ _ _ _ K0 R0 hc hn) rfl (fun v3 w3 x3 A3 => ?_)
 replace hE := Ext.tr hE x3
 replace K0 := K0.ext x3
 replace R0 := R0.ext x3
 have zw3 := x3.size
 obtain ⟨aJ, cJ, rfl, hcJ, DJ⟩ := A3
 have hjI := S.jdI_arr bs
 refine RS.nm ?_
 refine RS.move (v := .tuple _) rfl ?_
 refine RS.extract (v := .agg _) rfl rfl ?_
 refine RS.extract (v := .agg _) rfl rfl ?_
 refine RS.extract (v := .int _ _) rfl rfl ?_
 refine RS.alloc T32 (fun b4 w4 e4 s4 x4 B4 => ?_)
 refine RS.nm ?_
 replace hE := Ext.tr hE x4
 replace K0 := K0.ext x4
 replace R0 := R0.ext x4
 have zw4 := x4.size
 refine RS.alloc T42 (fun b5 w5 e5 s5 x5 B5 => ?_)
 refine RS.nm ?_
 replace hE := Ext.tr hE x5
 replace K0 := K0.ext x5
 replace R0 := R0.ext x5
 replace B4 := B4.ext x5
 have zw5 := x5.size
 have A5 : IArr .u8 w5 b5 32 (List.replicate 32 0) [] 42 := IArr.zero B5
 clear B5
 refine RS.storeAggB rfl rfl C32 (by decide) rfl rfl B4 rfl (fun w6 y6 N6 => ?_)
 replace hE := hE.trans (y6.belo)
 replace K0 := K0.sto y6
 replace R0 := R0.sto y6
 replace A5 := A5.sto y6
 have zw6 := y6.size
 replace B4 := N6
 refine RS.storeArr A5 rfl rfl C42 (by decide) hjI.1 hjI.2 (fun w7 y7 N7 => ?_)
 replace hE := hE.trans (y7.belo)
 replace K0 := K0.sto y7
 replace R0 := R0.sto y7
 replace B4 := B4.sto y7
 have zw7 := y7.size
 replace A5 := N7
 refine RS.asI rfl ?_
 refine nl hK2 ?_
 refine sq fun K8 hK8 => ?_
 refine RS.mvI rfl ?_
 refine RS.o (D.eq rfl rfl) ?_
 refine RS.asB rfl ?_
 refine nl hK8 ?_
 refine wp_ret ?_
 refine retB rfl rfl ?_
 exact ⟨_, rfl, hE, rfl⟩
theorem verdictW {S0 : Nat → Prop} (a : Option Addr) (n c : Nat) (bs : List Int) (TK : TypeId) (w : World) (K0 : Kst w TK) (R0 : IRow .u8 S0 w a n bs) (hc : n ≤ c) (hn : n ≤ 1000000) :
  Calls Tryd.prog 40 #[.slice a n c] w (Ret w fun v _ => v = .int .u8 (S.jdV bs)) := by
 replace R0 := R0.weaken (T := fun k => k < w.heap.size) (fun k hk _ => hk)
 have hbl := R0.len
 have hbd := R0.bd
 have hKl := K0.lt
 have hE := Ext.refl w
 refine enterU 12 Tryd.func40 rfl rfl ?_
 refine sq fun K1 hK1 => ?_
 refine RS.asI rfl ?_
 refine nl hK1 ?_
 refine sq fun K2 hK2 => ?_
 refine RS.mvS rfl ?_
 refine RS.call E34 (judgeOf _ _ _ _ _ _ K0 R0 hc hn) rfl (fun v3 w3 x3 A3 => ?_)
 replace hE := Ext.tr hE x3
 replace K0 := K0.ext x3
 replace R0 := R0.ext x3
 have zw3 := x3.size
 obtain ⟨aJ, cJ, rfl, hcJ, DJ⟩ := A3
 have hjI := S.jdI_arr bs
 refine RS.nm ?_
 refine RS.move (v := .tuple _) rfl ?_
 refine RS.extract (v := .agg _) rfl rfl ?_
 refine RS.extract (v := .agg _) rfl rfl ?_
 refine RS.extract (v := .int _ _) rfl rfl ?_
 refine RS.alloc T32 (fun b4 w4 e4 s4 x4 B4 => ?_)
 refine RS.nm ?_
 replace hE := Ext.tr hE x4
 replace K0 := K0.ext x4
 replace R0 := R0.ext x4
 have zw4 := x4.size
 refine RS.alloc T42 (fun b5 w5 e5 s5 x5 B5 => ?_)
 refine RS.nm ?_
 replace hE := Ext.tr hE x5
 replace K0 := K0.ext x5
 replace R0 := R0.ext x5
 replace B4 := B4.ext x5
 have zw5 := x5.size
 have A5 : IArr .u8 w5 b5 32 (List.replicate 32 0) [] 42 := IArr.zero B5
 clear B5
 refine RS.storeAggB rfl rfl C32 (by decide) rfl rfl B4 rfl (fun w6 y6 N6 => ?_)
 replace hE := hE.trans (y6.belo)
 replace K0 := K0.sto y6
 replace R0 := R0.sto y6
 replace A5 := A5.sto y6
 have zw6 := y6.size
 replace B4 := N6
 refine RS.storeArr A5 rfl rfl C42 (by decide) hjI.1 hjI.2 (fun w7 y7 N7 => ?_)
 replace hE := hE.trans (y7.belo)
 replace K0 := K0.sto y7
 replace R0 := R0.sto y7
 replace B4 := B4.sto y7
 have zw7 := y7.size
 replace A5 := N7
 refine RS.asI rfl ?_
 refine nl hK2 ?_
 refine sq fun K8 hK8 => ?_
 refine RS.mvI rfl ?_
 refine RS.asI rfl ?_
 refine nl hK8 ?_
 refine wp_ret ?_
 refine retI rfl rfl ?_
 exact ⟨_, rfl, hE, rfl⟩
theorem judgeEach {S0 : Nat → Prop} (a : Option Addr) (n c : Nat) (ps : List Pc) (TK : TypeId) (w : World) (K0 : Kst w TK) (P0 : PRow .u8 S0 w a n ps) (hc : n ≤ c) (hp : ∀ p ∈ ps, p.n ≤ 1000) (hn : n ≤ 1000) :
  Calls Tryd.prog 78 #[.slice a n c] w (Ret w fun v w' => ∃ a' c', v = .slice a' n c' ∧ IOwn w.heap.size w' 5 .u8 a' n c' (ps.map fun p => S.jdV p.xs)) := by
 replace P0 := P0.weaken (T := fun k => k < w.heap.size) (fun k hk _ => hk)
 have hpl := P0.len
 have hKl := K0.lt
 have hE := Ext.refl w
 refine enterU 26 Tryd.func78 rfl rfl ?_
 refine sq fun K1 hK1 => ?_
 refine RS.asS rfl ?_
 refine nl hK1 ?_
 refine sq fun K2 hK2 => ?_
 refine RS.mvS rfl ?_
 refine RS.o (D.len rfl Tryd.underlying70) ?_
 refine RS.make rfl rfl Tryd.underlying35 T5 (by omega) (by omega) (by omega) (fun b3 w3 e3 s3 x3 B3 => ?_)
 refine RS.nm ?_
 replace hE := Ext.tr hE x3
 replace K0 := K0.ext x3
 replace P0 := P0.ext x3
 have zw3 := x3.size
 have emk : (n : Int).toNat * 1 = n := by omega
 rw [emk, S.made_ints] at B3
 have OV : IOwn w.heap.size w3 5 .u8 (some ⟨b3, 0, none⟩) n n (List.replicate n 0) := IOwn.of_blk B3 rfl (by simp) (by omega) (Bd.zeros .u8 n) (by omega)
 have hOV := OV.lo
 refine RS.asS rfl ?_
 refine nl hK2 ?_
 refine wp_seq_k (fun K4 hK4 => ?_)
 refine sq fun K5 hK5 => ?_
 refine RS.mvS rfl ?_
 refine RS.o (D.len rfl Tryd.underlying70) ?_
 refine RS.mvI rfl ?_
 refine nl hK5 ?_
 refine wp_block ?_
 refine C.loop (A := Int) (fun p => [(10, .int .i64 p)]) [4, 11, 12, 13, 14, 15, 16, 17, 18, 19, 20, 21, 22, 23, 24, 25] (fun p w' => Pr (fun k => k = b3) w3 w' ∧ ((0 ≤ p ∧ p ≤ n) ∧ IOwn w.heap.size w' 5 .u8 (some ⟨b3, 0, none⟩) n n ((ps.map fun p => S.jdV p.xs).take p.toNat ++ (List.replicate n 0).drop p.toNat))) (fun p => (n - p.toNat)) 0 (by kernel_rfl) ?_ ?_
 ·exact ⟨Pr.refl _ _, ⟨by omega, by omega⟩, by simpa using OV⟩
 rintro p j w6 ⟨x6, hI⟩
 replace hE := hE.trans (x6.belo)
 replace K0 := K0.pro x6
 replace P0 := P0.pro x6
 have zw6 := x6.size
 obtain ⟨i, hi⟩ : ∃ i, i = p := ⟨p, rfl⟩
 subst hi
 obtain ⟨h1, OV⟩ := hI
 refine C.norm (by simp only [upd, junk, List.map_cons, List.map_nil, List.set_cons_succ, List.set_cons_zero]; exact rfl) ?_
 refine sq fun K7 hK7 => ?_
 refine RS.o (D.lt rfl rfl) ?_
 refine nl hK7 ?_
 refine wp_seq_k (fun K8 hK8 => ?_)
 refine C.ifd rfl (fun c9 => ?_) (fun c9 => ?_)
 ·refine wp_skip ?_
  refine hK8 _ _ ?_
  refine wp_seq_k (fun K10 hK10 => ?_)
  refine wp_block ?_
  refine sq fun K11 hK11 => ?_
  refine RS.mvI rfl ?_
  refine RS.asI rfl ?_
  refine nl hK11 ?_
  refine region ?_
  refine RS.mvS rfl ?_
  refine RS.mvI rfl ?_
  refine RS.mvS rfl ?_
  refine RS.mvI rfl ?_
  refine RS.idxP P0 rfl rfl Tryd.underlying70 C35 (by omega) (fun b12 o12 p12 h12 q12 F12 G12 => ?_)
  refine RS.nm ?_
  have hpx : p12.n ≤ 1000 := hp _ (by rw [q12, List.getD_eq_getElem?_getD, List.getElem?_eq_getElem (show i.toNat < ps.length by omega)]; exact List.getElem_mem _)
  refine RS.o (D.load rfl Tryd.underlying35 rfl (h12)) ?_
  refine RS.call E34 (judgeOf _ _ _ _ _ _ K0 F12 G12 (by omega)) rfl (fun v13 w13 x13 A13 => ?_)
  replace hE := Ext.tr hE x13
  replace x6 := x6.ext x13
  replace K0 := K0.ext x13
  replace P0 := P0.ext x13
  replace OV := OV.ext x13
  replace F12 := F12.ext x13
  have zw13 := x13.size
  obtain ⟨aJ, cJ, rfl, hcJ, DJ⟩ := A13
  have hjb := S.jd_bd p12.xs
  refine RS.nm ?_
  refine RS.move (v := .tuple _) rfl ?_
  refine RS.extract (v := .agg _) rfl rfl ?_
  refine RS.extract (v := .agg _) rfl rfl ?_
  refine RS.extract (v := .int _ _) rfl rfl ?_
  refine RS.o (D.indexAddr rfl rfl Tryd.underlying35 C5 (by decide) rfl (by omega)) ?_
  refine RS.storeI OV rfl rfl C5 (by omega) (by simp only [lim]; omega) (fun w14 y14 N14 => ?_)
  replace hE := hE.trans (y14.belo)
  replace x6 := x6.stno y14
  replace K0 := K0.sto y14
  replace P0 := P0.sto y14
  replace F12 := F12.sto y14
  have zw14 := y14.size
  replace OV := N14
  refine nl hK10 ?_
  refine region ?_
  refine RS.o (D.add rfl rfl (W.i64 (by omega))) ?_
  refine RS.mvI rfl ?_
  refine RS.nil ?_
  change Nx _ _ _ _ _ _ _ _
  refine C.next (i + 1) ⟨rfl, trivial⟩ (by kernel_rfl) ?_ ?_
  ·refine ⟨x6, ⟨by omega, by omega⟩, ?_⟩
   have hs := S.set_step (ys := (ps.map fun p => S.jdV p.xs)) (List.replicate n 0) i.toNat rfl (by simp; omega) (by simp; omega)
   rw [S.map_getD _ ps default i.toNat (by omega), ← q12] at hs
   rw [show (i + 1).toNat = i.toNat + 1 by omega, ← hs]
   exact OV
  omega
 refine wp_exit ?_
 refine hK4 _ _ ?_
 refine sq fun K15 hK15 => ?_
 refine RS.mvS rfl ?_
 refine RS.asS rfl ?_
 refine nl hK15 ?_
 refine wp_ret ?_
 refine ret (rs := [.tmp 2]) (vs := [.slice _ _ _]) (v := (.slice _ _ _)) rfl ⟨rfl, trivial⟩ rfl ?_
 refine ⟨_, rfl, hE, _, _, rfl, ?_⟩
 rw [show i.toNat = n by omega, List.take_of_length_le (by simp; omega), List.drop_of_length_le (by simp), List.append_nil] at OV
 exact OV
theorem judgeMany {S0 : Nat → Prop} (a : Option Addr) (n c : Nat) (ps : List Pc) (TK : TypeId) (w : World) (K0 : Kst w TK) (P0 : PRow .u8 S0 w a n ps) (hc : n ≤ c) (hp : ∀ p ∈ ps, p.n ≤ 1000) :
  Calls Tryd.prog 37 #[.slice a n c] w (Ret w fun v w' => ∃ a' m' c', v = .tuple #[.slice a' m' c', .int .i64 (if 60 < n then 4 else 0)] ∧ IOwn w.heap.size w' 5 .u8 a' m' c' (if 60 < n then [] else ps.map fun p => S.jdV p.xs)) := by
 replace P0 := P0.weaken (T := fun k => k < w.heap.size) (fun k hk _ => hk)
 have hpl := P0.len
 have hKl := K0.lt
 have hE := Ext.refl w
 refine enterU 8 Tryd.func37 rfl rfl ?_
 refine sq fun K1 hK1 => ?_
 refine RS.asS rfl ?_
 refine RS.asI rfl ?_
 refine nl hK1 ?_
 refine wp_seq_k (fun K2 hK2 => ?_)
 refine sq fun K3 hK3 => ?_
 refine RS.mvS rfl ?_
 refine RS.o (D.len rfl Tryd.underlying70) ?_
 refine RS.o (D.gt rfl rfl) ?_
 refine nl hK3 ?_
 refine C.ifd rfl (fun c4 => ?_) (fun c4 => ?_)
 ·have hg := c4
  refine sq fun K5 hK5 => ?_
  refine RS.asS rfl ?_
  refine RS.asI rfl ?_
  refine nl hK5 ?_
  refine wp_ret ?_
  refine ret (rs := [.tmp 2, .tmp 3]) (vs := [.slice _ _ _, .int _ _]) (v := (.tuple #[.slice _ _ _, .int _ _])) rfl ⟨rfl, rfl, trivial⟩ rfl ?_
  rw [if_pos (show 60 < n by omega), if_pos (show 60 < n by omega)]
  exact ⟨_, rfl, hE, _, _, _, rfl, IOwn.nil _ _ _ _⟩
 have hg := c4
 refine wp_skip ?_
 refine hK2 _ _ ?_
 refine sq fun K6 hK6 => ?_
 refine RS.mvS rfl ?_
 refine RS.call E78 (judgeEach _ _ _ _ _ _ K0 P0 hc hp (by omega)) rfl (fun v7 w7 x7 A7 => ?_)
 replace hE := Ext.tr hE x7
 replace K0 := K0.ext x7
 replace P0 := P0.ext x7
 have zw7 := x7.size
 obtain ⟨aE, cE, rfl, OV⟩ := A7
 refine RS.nm ?_
 refine RS.asS rfl ?_
 refine RS.asI rfl ?_
 refine nl hK6 ?_
 refine wp_ret ?_
 refine ret (rs := [.tmp 2, .tmp 3]) (vs := [.slice _ _ _, .int _ _]) (v := (.tuple #[.slice _ _ _, .int _ _])) rfl ⟨rfl, rfl, trivial⟩ rfl ?_
 rw [if_neg (show ¬ 60 < n by omega), if_neg (show ¬ 60 < n by omega)]
 exact ⟨_, rfl, hE, _, _, _, rfl, OV⟩
theorem judgeCount {S0 : Nat → Prop} (a : Option Addr) (n c : Nat) (ps : List Pc) (TK : TypeId) (w : World) (K0 : Kst w TK) (P0 : PRow .u8 S0 w a n ps) (hc : n ≤ c) (hp : ∀ p ∈ ps, p.n ≤ 1000) :
  Calls Tryd.prog 38 #[.slice a n c] w (Ret w fun v w' => v = .tuple #[.agg (ints .i64 (S.cntS (if 60 < n then [] else ps.map fun p => S.jdV p.xs))).toArray, .int .i64 (if 60 < n then 4 else 0)]) := by
 replace P0 := P0.weaken (T := fun k => k < w.heap.size) (fun k hk _ => hk)
 have hpl := P0.len
 have hKl := K0.lt
 have hE := Ext.refl w
 refine enterU 25 Tryd.func38 rfl rfl ?_
 refine sq fun K1 hK1 => ?_
 refine RS.alloc T71 (fun b2 w2 e2 s2 x2 B2 => ?_)
 refine RS.nm ?_
 replace hE := Ext.tr hE x2
 replace K0 := K0.ext x2
 replace P0 := P0.ext x2
 have zw2 := x2.size
 have A2 : IArr .i64 w2 b2 10 (List.replicate 10 0) [] 71 := IArr.zero B2
 clear B2
 refine RS.asI rfl ?_
 refine nl hK1 ?_
 refine sq fun K3 hK3 => ?_
 refine RS.mvS rfl ?_
 refine RS.call E37 (judgeMany _ _ _ _ _ _ K0 P0 hc hp) rfl (fun v4 w4 x4 A4 => ?_)
 replace hE := Ext.tr hE x4
 replace K0 := K0.ext x4
 replace P0 := P0.ext x4
 replace A2 := A2.ext x4
 have zw4 := x4.size
 obtain ⟨aM, nM, cM, rfl, OM⟩ := A4
 have hOM := OM.lo
 have lOM := OM.len
 obtain ⟨ms, hms⟩ : ∃ ms, ms = (if 60 < n then [] else ps.map fun p => S.jdV p.xs) := ⟨_, rfl⟩
 rw [← hms] at OM lOM ⊢
 have hmb : ∀ x ∈ ms, 0 ≤ x ∧ x ≤ 4 := by
  intro x hx
  rw [hms] at hx
  split at hx
  ·cases hx
  obtain ⟨p, _, rfl⟩ := List.mem_map.1 hx
  have := S.jd_bd p.xs
  omega
 have hml : ms.length ≤ 60 := by rw [hms]; split <;> simp; omega
 have hca := S.cnt_arr ms (by omega)
 refine RS.nm ?_
 refine RS.move (v := .tuple _) rfl ?_
 refine RS.extract (v := .slice _ _ _) rfl rfl ?_
 refine RS.extract (v := .int _ _) rfl rfl ?_
 refine RS.asS rfl ?_
 refine RS.asI rfl ?_
 refine nl hK3 ?_
 refine wp_seq_k (fun K5 hK5 => ?_)
 refine sq fun K6 hK6 => ?_
 refine RS.mvS rfl ?_
 refine RS.o (D.len rfl Tryd.underlying35) ?_
 refine RS.mvI rfl ?_
 refine nl hK6 ?_
 refine wp_block ?_
 refine C.loop (A := Int) (fun p => [(14, .int .i64 p)]) [6, 15, 16, 17, 18, 19, 20, 21, 22, 23] (fun p w' => Pr (fun k => k = b2) w4 w' ∧ ((0 ≤ p ∧ p ≤ nM) ∧ IArr .i64 w' b2 10 (S.cntS (ms.take p.toNat)) [] 71)) (fun p => (nM - p.toNat)) 0 (by kernel_rfl) ?_ ?_
 ·exact ⟨Pr.refl _ _, ⟨by omega, by omega⟩, by rw [show (0 : Int).toNat = 0 from rfl, List.take_zero, S.cnt_nil]; exact A2⟩
 rintro p j w7 ⟨x7, hI⟩
 replace hE := hE.trans (x7.belo)
 replace K0 := K0.pro x7
 replace P0 := P0.pro x7
 replace OM := OM.pr x7 (by intros; try (first | (intro _ _) | (intro _) | skip); first | omega | (have hq := hOM _ (by assumption); first | omega | (dsimp only at *; omega)))
 have zw7 := x7.size
 obtain ⟨i, hi⟩ : ∃ i, i = p := ⟨p, rfl⟩
 subst hi
 obtain ⟨h1, A2⟩ := hI
 refine C.norm (by simp only [upd, junk, List.map_cons, List.map_nil, List.set_cons_succ, List.set_cons_zero]; exact rfl) ?_
 refine sq fun K8 hK8 => ?_
 refine RS.o (D.lt rfl rfl) ?_
 refine nl hK8 ?_
 refine wp_seq_k (fun K9 hK9 => ?_)
 refine C.ifd rfl (fun c10 => ?_) (fun c10 => ?_)
 ·refine wp_skip ?_
  refine hK9 _ _ ?_
  refine wp_seq_k (fun K11 hK11 => ?_)
  refine wp_block ?_
  refine sq fun K12 hK12 => ?_
  refine RS.idx OM.row rfl rfl Tryd.underlying35 C5 (by omega) (fun b13 o13 v13 h13 q13 r13 => ?_)
  refine RS.nm ?_
  simp only [lim] at r13
  have hxb := hmb v13 (by rw [q13, List.getD_eq_getElem?_getD, List.getElem?_eq_getElem (show i.toNat < ms.length by omega)]; exact List.getElem_mem _)
  have q1 := q13
  obtain ⟨x, hx⟩ : ∃ x, x = v13 := ⟨_, rfl⟩
  refine RS.o (D.load rfl Tryd.underlying5 rfl (h13)) ?_
  refine RS.asI rfl ?_
  refine nl hK12 ?_
  refine region ?_
  refine RS.mvI rfl ?_
  refine RS.idxA A2 rfl rfl Tryd.underlying71 C3 (by omega) (fun v14 h14 q14 r14 => ?_)
  refine RS.nm ?_
  simp only [lim] at r14
  have q2 := q14
  have hcb := S.cnt_bd (ms.take i.toNat) x.toNat (by omega)
  rw [List.length_take, hx] at hcb
  refine RS.o (D.load rfl Tryd.underlying3 rfl (h14)) ?_
  refine RS.o (D.add rfl rfl (W.i64 (by omega))) ?_
  refine RS.idxA A2 rfl rfl Tryd.underlying71 C3 (by omega) (fun v15 h15 q15 r15 => ?_)
  refine RS.nm ?_
  simp only [lim] at r15
  refine RS.storeA A2 rfl rfl C3 (by omega) (by simp only [lim]; omega) (fun w16 y16 N16 => ?_)
  replace hE := hE.trans (y16.belo)
  replace x7 := x7.stno y16
  replace K0 := K0.sto y16
  replace P0 := P0.sto y16
  replace OM := OM.st y16 (by intros; try (first | (intro _ _) | (intro _) | skip); first | omega | (have hq := hOM _ (by assumption); first | omega | (dsimp only at *; omega)))
  have zw16 := y16.size
  replace A2 := N16
  refine nl hK11 ?_
  refine region ?_
  refine RS.o (D.add rfl rfl (W.i64 (by omega))) ?_
  refine RS.mvI rfl ?_
  refine RS.nil ?_
  change Nx _ _ _ _ _ _ _ _
  refine C.next (i + 1) ⟨rfl, trivial⟩ (by kernel_rfl) ?_ ?_
  ·refine ⟨x7, ⟨by omega, by omega⟩, ?_⟩
   rw [show (i + 1).toNat = i.toNat + 1 by omega, S.take_snoc ms _ (by omega), ← q1, ← S.cnt_snoc _ _ (by omega), ← q2]
   exact A2
  omega
 refine wp_exit ?_
 refine hK5 _ _ ?_
 refine wp_seq_k (fun K17 hK17 => ?_)
 rw [show i.toNat = nM by omega, List.take_of_length_le (by omega)] at A2
 refine region ?_
 refine RS.o (D.loadAgg rfl Tryd.underlying71 rfl C71 (by decide) (by rw [ints_length, A2.len]) A2.cells) ?_
 refine RS.mvI rfl ?_
 refine RS.storeArr A2 rfl rfl C71 (by decide) hca.1 hca.2 (fun w18 y18 N18 => ?_)
 replace hE := hE.trans (y18.belo)
 replace K0 := K0.sto y18
 replace P0 := P0.sto y18
 replace OM := OM.st y18 (by intros; try (first | (intro _ _) | (intro _) | skip); first | omega | (have hq := hOM _ (by assumption); first | omega | (dsimp only at *; omega)))
 have zw18 := y18.size
 replace A2 := N18
 refine RS.asI rfl ?_
 refine nl hK17 ?_
 refine wp_ret ?_
 refine ret (rs := [.cell 2 71, .tmp 3]) (vs := [.agg _, .int _ _]) (v := (.tuple #[.agg _, .int _ _])) rfl ⟨⟨_, rfl, loadVar_agg Tryd.underlying71 rfl C71 (by decide) (by rw [ints_length, A2.len]) A2.cells⟩, rfl, trivial⟩ rfl ?_
 refine ⟨_, rfl, hE, ?_⟩
 rw [← hms]
end Go.Proofs.YtiohpiiiapjblaaDoor.W
namespace Go.Proofs.YtiohpiiiapjblaaDoor.W
open Go.RowKit Go.Proofs.YtiohpiiiapjblaaDoor.G
set_option linter.unusedVariables false
set_option maxRecDepth 20000
set_option maxHeartbeats 8000000
attribute [local irreducible] RS RX
theorem E35 : Enters Tryd.prog 35 := .mk Tryd.func35 (by kernel_rfl) rfl
theorem E39 : Enters Tryd.prog 39 := .mk Tryd.func39 (by kernel_rfl) rfl
theorem E40 : Enters Tryd.prog 40 := .mk Tryd.func40 (by kernel_rfl) rfl
theorem signedJ (x : Int) (hx : 0 ≤ x ∧ x < 4294967296) (TK : TypeId) (w : World) (K0 : Kst w TK) :
  Calls Tryd.prog 39 #[.int .u32 x] w (Ret w fun v w' => ∃ a' n' c', v = .slice a' n' c' ∧ IOwn w.heap.size w' 5 .u8 a' n' c' (S.sgnB x)) := by
 have hKl := K0.lt
 have hE := Ext.refl w
 refine enterU 19 Tryd.func39 rfl rfl ?_
 refine sq fun K1 hK1 => ?_
 refine RS.asS rfl ?_
 refine nl hK1 ?_
 refine sq fun K2 hK2 => ?_
 refine RS.mvI rfl ?_
 refine RS.o (D.buildS T28 F28 (ps := [(0, .int _ _), (1, .string _)]) rfl rfl) ?_
 refine RS.o (D.buildS T32 F32 (ps := [(2, .int _ _), (3, .agg _)]) rfl rfl) ?_
 refine RS.call E25 (signO _ hx S.kO S.kO_ok _ _ _ _ K0 (WRow.nil (S := fun _ => False)) (Nat.le_refl _)) rfl (fun v3 w3 x3 A3 => ?_)
 replace hE := Ext.tr hE x3
 replace K0 := K0.ext x3
 have zw3 := x3.size
 obtain ⟨aG, cG, rfl, hcG, RG⟩ := A3
 replace RG := RG.weaken (T := fun k => k < w3.heap.size) (fun k hk _ => hk)
 refine RS.nm ?_
 refine RS.move (v := .tuple _) rfl ?_
 refine RS.extract (v := .agg _) rfl rfl ?_
 refine RS.extract (v := .int _ _) rfl rfl ?_
 refine RS.alloc T32 (fun b4 w4 e4 s4 x4 B4 => ?_)
 refine RS.nm ?_
 replace hE := Ext.tr hE x4
 replace K0 := K0.ext x4
 replace RG := RG.ext x4
 have zw4 := x4.size
 refine RS.storeAggB rfl rfl C32 (by decide) rfl rfl B4 rfl (fun w5 y5 N5 => ?_)
 replace hE := hE.trans (y5.belo)
 replace K0 := K0.sto y5
 replace RG := RG.sto y5
 have zw5 := y5.size
 replace B4 := N5
 refine RS.asI rfl ?_
 refine nl hK2 ?_
 refine sq fun K6 hK6 => ?_
 refine RS.o (D.loadAgg rfl Tryd.underlying32 rfl C32 (by decide) rfl (B4.cellsN 11 rfl)) ?_
 refine RS.call E14 (encodeO (S.signS x S.kO) (S.signS_ok x S.kO S.kO_ok) _ _ _ RG hcG) rfl (fun v7 w7 x7 A7 => ?_)
 replace hE := Ext.tr hE x7
 replace K0 := K0.ext x7
 replace RG := RG.ext x7
 replace B4 := B4.ext x7
 have zw7 := x7.size
 obtain ⟨aE, nE, cE, xs, rfl, OE, hxs⟩ := A7
 replace hxs : xs = S.sgnB x := hxs
 subst hxs
 refine RS.nm ?_
 refine RS.move (v := .tuple _) rfl ?_
 refine RS.extract (v := .slice _ _ _) rfl rfl ?_
 refine RS.extract (v := .int _ _) rfl rfl ?_
 refine RS.asS rfl ?_
 refine RS.asI rfl ?_
 refine nl hK6 ?_
 refine sq fun K8 hK8 => ?_
 refine RS.mvS rfl ?_
 refine RS.asS rfl ?_
 refine nl hK8 ?_
 refine wp_ret ?_
 refine ret (rs := [.tmp 2]) (vs := [.slice _ _ _]) (v := (.slice _ _ _)) rfl ⟨rfl, trivial⟩ rfl ?_
 exact ⟨_, rfl, hE, _, _, _, rfl, OE.base (fun b hb => by have := OE.lo b hb; omega)⟩
theorem aliveJ (TK : TypeId) (w : World) (K0 : Kst w TK) :
  Calls Tryd.prog 33 #[] w (Ret w fun v _ => v = .bool true) := by
 have hKl := K0.lt
 obtain ⟨g1, g2, g3⟩ := S.sgn_fine (x := 5) (by decide)
 have hE := Ext.refl w
 refine enterU 17 Tryd.func33 rfl rfl ?_
 refine sq fun K1 hK1 => ?_
 refine RS.asB rfl ?_
 refine nl hK1 ?_
 refine sq fun K2 hK2 => ?_
 refine RS.call E40 (verdictW _ _ _ _ _ _ K0 (IRow.nil (S := fun _ => False)) (Nat.le_refl _) (by decide)) rfl (fun v3 w3 x3 A3 => ?_)
 replace hE := Ext.tr hE x3
 replace K0 := K0.ext x3
 have zw3 := x3.size
 subst A3
 rw [S.jd_nil]
 refine RS.nm ?_
 refine RS.o (D.eq rfl rfl) ?_
 refine RS.mvB rfl ?_
 refine RS.splite 3 rfl rfl (fun c4 => ?_) (fun c4 => ?_)
 ·refine RS.nm ?_
  refine RS.wt 3 ?_
  refine RS.make rfl rfl Tryd.underlying35 T5 (by omega) (by omega) (by omega) (fun b5 w5 e5 s5 x5 B5 => ?_)
  refine RS.nm ?_
  replace hE := Ext.tr hE x5
  replace K0 := K0.ext x5
  have zw5 := x5.size
  rw [show (401 : Int).toNat * 1 = 401 from rfl, S.made_ints] at B5
  refine RS.wt 3 ?_
  refine RS.call E40 (verdictW _ _ _ _ _ _ K0 (IRow.of_blk (S := fun k => k = b5) B5 rfl rfl (by simp) (Bd.zeros .u8 401)) (Nat.le_refl _) (by decide)) rfl (fun v6 w6 x6 A6 => ?_)
  replace hE := Ext.tr hE x6
  replace K0 := K0.ext x6
  replace B5 := B5.ext x6
  have zw6 := x6.size
  subst A6
  rw [S.jd_long (by simp)]
  refine RS.nm ?_
  refine RS.wt 3 ?_
  refine RS.o (D.eq rfl rfl) ?_
  refine RS.pick (v := .bool _) rfl rfl ?_
  refine RS.mvB rfl ?_
  refine RS.splite 8 rfl rfl (fun c7 => ?_) (fun c7 => ?_)
  ·refine RS.nm ?_
   refine RS.wt 8 ?_
   refine RS.buildSlice (xs := [.const (.int .u8 111), .const (.int .u8 4), .const (.int .u8 0), .const (.int .u8 7), .const (.int .u8 1), .const (.int .u8 0), .const (.int .u8 0)]) (vs := [.int _ _, .int _ _, .int _ _, .int _ _, .int _ _, .int _ _, .int _ _]) (cs := [.int _ _, .int _ _, .int _ _, .int _ _, .int _ _, .int _ _, .int _ _]) Tryd.underlying35 T5 (by decide) rfl rfl rfl rfl rfl rfl (by intro v hv; simp only [List.mem_cons, List.not_mem_nil, or_false] at hv; rcases hv with rfl | rfl | rfl | rfl | rfl | rfl | rfl <;> rfl) rfl (fun b8 w8 e8 s8 x8 B8 => ?_)
   refine RS.nm ?_
   replace hE := Ext.tr hE x8
   replace K0 := K0.ext x8
   replace B5 := B5.ext x8
   have zw8 := x8.size
   refine RS.wt 8 ?_
   refine RS.call E40 (verdictW _ _ _ _ _ _ K0 (IRow.of_blk (S := fun k => k = b8) B8 rfl rfl rfl (.cons (by decide) (.cons (by decide) (.cons (by decide) (.cons (by decide) (.cons (by decide) (.cons (by decide) (.cons (by decide) (.nil _))))))))) (Nat.le_refl _) (by decide)) rfl (fun v9 w9 x9 A9 => ?_)
   replace hE := Ext.tr hE x9
   replace K0 := K0.ext x9
   replace B5 := B5.ext x9
   replace B8 := B8.ext x9
   have zw9 := x9.size
   subst A9
   rw [S.jd_ex]
   refine RS.nm ?_
   refine RS.wt 8 ?_
   refine RS.o (D.eq rfl rfl) ?_
   refine RS.pick (v := .bool _) rfl rfl ?_
   refine RS.mvB rfl ?_
   refine RS.splite 13 rfl rfl (fun c10 => ?_) (fun c10 => ?_)
   ·refine RS.nm ?_
    refine RS.wt 13 ?_
    refine RS.call E39 (signedJ 5 (by decide) _ _ K0) rfl (fun v11 w11 x11 A11 => ?_)
    replace hE := Ext.tr hE x11
    replace K0 := K0.ext x11
    replace B5 := B5.ext x11
    replace B8 := B8.ext x11
    have zw11 := x11.size
    obtain ⟨aS, nS, cS, rfl, OS⟩ := A11
    have lOS := OS.len
    have pOS := OS.own.pre
    refine RS.nm ?_
    refine RS.wt 13 ?_
    refine RS.call E35 (judgeFine _ _ _ _ _ _ K0 OS.row pOS (by omega)) rfl (fun v12 w12 x12 A12 => ?_)
    replace hE := Ext.tr hE x12
    replace K0 := K0.ext x12
    replace B5 := B5.ext x12
    replace B8 := B8.ext x12
    replace OS := OS.ext x12
    have zw12 := x12.size
    subst A12
    rw [g1]
    refine RS.nm ?_
    refine RS.pick (v := .bool _) rfl rfl ?_
    refine RS.asB rfl ?_
    refine nl hK2 ?_
    refine wp_ret ?_
    refine retB rfl rfl ?_
    exact ⟨_, rfl, hE, rfl⟩
   refine RS.nm ?_
   exact absurd rfl c10
  refine RS.nm ?_
  exact absurd rfl c7
 refine RS.nm ?_
 exact absurd rfl c4
end Go.Proofs.YtiohpiiiapjblaaDoor.W
namespace Go.Proofs.YtiohpiiiapjblaaDoor.S
open G
/-- That one list begins with another. -/
def Starts (b h : List Int) : Prop := h.length ≤ b.length ∧ b.take h.length = h
instance (b h : List Int) : Decidable (Starts b h) := by unfold Starts; infer_instance
/-- A number of 32 bits that is read. -/
def shOk (b : List Int) : Prop := rdE b = 0 ∧ rdV b ≤ 4294967295
instance (b : List Int) : Decidable (shOk b) := by unfold shOk; infer_instance
section
variable {b : List Int} {a : Int} {l1 : List Int} {n : Nat} {ids l2 : List Int} {t : Int} {l3 : List Int} {k : Int} {l4 : List Int} {x : ActV} {l5 : List Int} {e : Int} {l6 : List Int} {s : Int} {l7 : List Int}
theorem dec_f0 (h : b = [] ∨ b.getD 0 0 ≠ 111) : decS b = none := by
  cases b with
  | nil => rfl
  | cons y r => exact if_neg (h.resolve_left (by simp))
theorem dec_f7 (h1 : numR b = some (a, l1)) (h2 : idsR l1 = some (n, ids, l2)) (h3 : numR l2 = some (t, k :: l4)) (h4 : actR k l4 = some (x, l5)) (h5 : numR l5 = some (e, l6)) (h6 : numR l6 = some (s, l7)) (h7 : ¬ (l7 = [] ∧ checkE ⟨a, t, k, x.vk, x.num, x.bits, e, s, n, ids, x.key, x.t⟩ = 0)) : decS (111 :: b) = none := by
  simp only [decS, oneR, Option.bind_some, if_true, h1, h2, h3, h4, h5, h6, if_neg h7]
end
end Go.Proofs.YtiohpiiiapjblaaDoor.S
namespace Go.Proofs.YtiohpiiiapjblaaDoor.S
open G
theorem enc_400 {o : OpV} (hl : o.ids.length = 32 * o.n) (hc : checkE o = 0) : (encS o).length ≤ 400 := by
  obtain ⟨c1, _, c3⟩ := check_zero.1 hc
  have h1 := numS_len o.au
  have h2 := numS_len (o.n : Int)
  have h3 := numS_len o.st
  have h4 := numS_len (o.key.size : Int)
  have h5 := numS_len o.e
  have h6 := numS_len o.s
  have h7 := numS_len (zig o.num)
  have h8 := numS_len (o.t.size : Int)
  have hk : o.key.size ≤ 20 ∧ o.t.size ≤ 30 := by
    rcases c3.2.2.2.2 with ⟨_, e1, _, _, _, e2⟩ | ⟨_, hK, _, _, _, e2⟩ | ⟨_, hK, hV⟩
    · rw [e1, e2]; exact ⟨by decide, by decide⟩
    · rw [e2]; exact ⟨hK.2.1, by decide⟩
    · refine ⟨hK.2.1, ?_⟩
      rcases hV with ⟨_, _, e2⟩ | ⟨_, _, e2, _⟩ | ⟨_, _, _, e2, _⟩
      · rw [e2]; decide
      · rw [e2]; decide
      · exact e2
  unfold encS msgS listS valS
  repeat' split
  all_goals simp [bys_len, be8_len]
  all_goals omega
end Go.Proofs.YtiohpiiiapjblaaDoor.S
