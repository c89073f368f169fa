/-
  Part 10 of the lemmas of these laws: JudgeFinds, JudgeLists, OpReads.
-/
import Derived.Test.YtiohpiiiapjblaaGreatDoorPJb9
namespace Go.Proofs.YtiohpiiiapjblaaGreatDoor.W
open Go.RowKit Go.Proofs.YtiohpiiiapjblaaGreatDoor.G
set_option linter.unusedVariables false
set_option maxRecDepth 20000
set_option maxHeartbeats 8000000
attribute [local irreducible] RS RX
theorem T78 : TI Tryz.prog 78 2 32 [.slice none 0 0, .bool false] := by
 have h : (Tryz.prog.info? 78).map (fun i => (i.size, i.bytes, i.zero)) = some (2, 32, some (.agg #[.slice none 0 0, .bool false])) := by kernel_rfl
 exact TI.of h rfl
theorem F78 : SI Tryz.prog 78 [(0, 1), (1, 1)] := ⟨_, Tryz.underlying78, by kernel_rfl, by kernel_rfl⟩
theorem E39 : Enters Tryz.prog 39 := .mk Tryz.func39 (by kernel_rfl) rfl
theorem E40 : Enters Tryz.prog 40 := .mk Tryz.func40 (by kernel_rfl) rfl
theorem E41 : Enters Tryz.prog 41 := .mk Tryz.func41 (by kernel_rfl) rfl
theorem E42 : Enters Tryz.prog 42 := .mk Tryz.func42 (by kernel_rfl) rfl
theorem E45 : Enters Tryz.prog 45 := .mk Tryz.func45 (by kernel_rfl) rfl
theorem decFail  (w : World) :
  Calls Tryz.prog 39 #[] w (Ret w fun v _ => v = .tuple #[.agg ([.int .u32 S.OpV.zero.au, .slice none S.OpV.zero.n 0, .int .u64 S.OpV.zero.st, .int .u8 S.OpV.zero.k, .string S.OpV.zero.key, .int .u8 S.OpV.zero.vk, .int .i64 S.OpV.zero.num, .int .u64 S.OpV.zero.bits, .string S.OpV.zero.t, .int .u32 S.OpV.zero.e, .int .u32 S.OpV.zero.s] : List Value).toArray, .int .i64 12]) := by
 have hE := Ext.refl w
 refine enterU 3 Tryz.func39 rfl rfl ?_
 refine sq fun K1 hK1 => ?_
 refine RS.alloc T33 (fun b2 w2 e2 s2 x2 B2 => ?_)
 refine RS.nm ?_
 replace hE := Ext.tr hE x2
 have zw2 := x2.size
 refine RS.asI rfl ?_
 refine nl hK1 ?_
 refine sq fun K3 hK3 => ?_
 refine RS.o (D.buildS T33 F33 (ps := []) rfl rfl) ?_
 refine RS.storeAggB rfl rfl C33 (by decide) rfl rfl B2 rfl (fun w4 y4 N4 => ?_)
 replace hE := hE.trans (y4.belo)
 have zw4 := y4.size
 replace B2 := N4
 refine RS.asI rfl ?_
 refine nl hK3 ?_
 refine wp_ret ?_
 refine ret (rs := [.cell 0 33, .tmp 1]) (vs := [.agg _, .int _ _]) (v := (.tuple #[.agg _, .int _ _])) rfl ⟨⟨_, rfl, loadVar_agg Tryz.underlying33 rfl C33 (by decide) rfl (B2.cellsN 11 rfl)⟩, rfl, trivial⟩ rfl ?_
 exact ⟨_, rfl, hE, rfl⟩
theorem decodeO {S0 : Nat → Prop} (a : Option Addr) (n c : Nat) (bs : List Int) (w : World) (R0 : IRow .u8 S0 w a n bs) (hc : n ≤ c) (hn : n ≤ 1000000) :
  Calls Tryz.prog 21 #[.slice a n c] w (Ret w fun v w' => ∃ a' c', v = .tuple #[.agg ([.int .u32 (S.decO bs).au, .slice a' (S.decO bs).n c', .int .u64 (S.decO bs).st, .int .u8 (S.decO bs).k, .string (S.decO bs).key, .int .u8 (S.decO bs).vk, .int .i64 (S.decO bs).num, .int .u64 (S.decO bs).bits, .string (S.decO bs).t, .int .u32 (S.decO bs).e, .int .u32 (S.decO bs).s] : List Value).toArray, .int .i64 (S.decE bs)] ∧ (S.decO bs).n ≤ c' ∧ WRow .u8 32 (fun k => w.heap.size ≤ k) w' a' (S.decO bs).n (S.decO bs).ids) := by
 replace R0 := R0.weaken (T := fun k => k < w.heap.size) (fun k hk _ => hk)
 have hbl := R0.len
 have hbd := R0.bd
 have hE := Ext.refl w
 refine enterU 124 Tryz.func21 rfl rfl ?_
 refine sq fun K1 hK1 => ?_
 refine RS.alloc T33 (fun b2 w2 e2 s2 x2 B2 => ?_)
 refine RS.nm ?_
 replace hE := Ext.tr hE x2
 replace R0 := R0.ext x2
 have zw2 := x2.size
 refine RS.asI rfl ?_
 refine nl hK1 ?_
 refine sq fun K3 hK3 => ?_
 refine RS.mvS rfl ?_
 refine RS.o (D.buildS T78 F78 (ps := [(0, .slice _ _ _)]) rfl rfl) ?_
 refine RS.box rfl rfl (fun b4 w4 e4 s4 x4 B4 => ?_)
 refine RS.nm ?_
 replace hE := Ext.tr hE x4
 replace R0 := R0.ext x4
 replace B2 := B2.ext x4
 have zw4 := x4.size
 refine RS.asP rfl ?_
 refine nl hK3 ?_
 refine sq fun K5 hK5 => ?_
 refine RS.assign  rfl ?_
 refine nl hK5 ?_
 refine wp_seq_k (fun K6 hK6 => ?_)
 refine sq fun K7 hK7 => ?_
 refine RS.mvP rfl ?_
 refine RS.callx E40 (rOne _ w.heap.size _ (by omega) _ _ _ _ _ _ B4 R0 hc (by omega)) rfl (fun e8 w8 A8 => ?_)
 obtain ⟨rfl, X8, a1, n1, c1, N8, hc1, hn1, Q1⟩ := A8
 refine ⟨_, rfl, ?_⟩
 refine RS.nm ?_
 replace hE := hE.trans (X8.belo)
 replace R0 := R0.pro X8
 replace B2 := B2.pro X8
 have zw8 := X8.size
 replace B4 := N8
 obtain ⟨zh, eh⟩ : ∃ z, z = S.oneB false bs := ⟨_, rfl⟩
 rw [← eh] at B4 Q1 ⊢
 have lQ1 := Q1.len
 have bQ1 := Q1.bd
 refine RS.o (D.ne rfl rfl) ?_
 refine nl hK7 ?_
 refine C.ifn rfl (fun c9 => ?_) (fun c9 => ?_)
 ·have hx := c9
  refine sq fun K10 hK10 => ?_
  refine RS.move (v := .func _ _ _) rfl ?_
  refine RS.callv E39 (decFail _) rfl rfl (fun e11 w11 A11 => ?_)
  obtain ⟨v11, rfl, x11, A11⟩ := A11
  refine ⟨_, rfl, ?_⟩
  replace hE := Ext.tr hE x11
  replace B2 := B2.ext x11
  replace B4 := B4.ext x11
  replace Q1 := Q1.ext x11
  have zw11 := x11.size
  subst A11
  refine RS.nm ?_
  refine RS.extract (v := .agg _) rfl rfl ?_
  refine RS.extract (v := .int _ _) rfl rfl ?_
  refine RS.storeAggB rfl rfl C33 (by decide) rfl rfl B2 rfl (fun w12 y12 N12 => ?_)
  replace hE := hE.trans (y12.belo)
  replace B4 := B4.sto y12
  replace Q1 := Q1.sto y12
  have zw12 := y12.size
  replace B2 := N12
  refine RS.asI rfl ?_
  refine nl hK10 ?_
  refine wp_ret ?_
  refine ret (rs := [.cell 2 33, .tmp 3]) (vs := [.agg _, .int _ _]) (v := (.tuple #[.agg _, .int _ _])) rfl ⟨⟨_, rfl, loadVar_agg Tryz.underlying33 rfl C33 (by decide) rfl (B2.cellsN 11 rfl)⟩, rfl, trivial⟩ rfl ?_
  obtain ⟨q1, q2⟩ := S.dec_none (S.dec_head (by rw [← eh]; exact hx))
  rw [q1, q2]
  exact ⟨_, rfl, hE, _, _, rfl, Nat.le_refl _, WRow.nil⟩
 have hx1 := c9
 refine wp_skip ?_
 refine hK6 _ _ ?_
 refine sq fun K13 hK13 => ?_
 refine RS.alloc T33 (fun b14 w14 e14 s14 x14 B14 => ?_)
 refine RS.nm ?_
 replace hE := Ext.tr hE x14
 replace B2 := B2.ext x14
 replace B4 := B4.ext x14
 replace Q1 := Q1.ext x14
 have zw14 := x14.size
 refine nl hK13 ?_
 refine sq fun K15 hK15 => ?_
 refine RS.mvP rfl ?_
 refine RS.callx E41 (rNumber _ w.heap.size _ (by omega) _ _ _ _ _ 1000000007 (by decide) _ B4 Q1 hc1 (by omega)) rfl (fun e16 w16 A16 => ?_)
 obtain ⟨rfl, X16, a2, n2, c2, N16, hc2, hn2, Q2⟩ := A16
 refine ⟨_, rfl, ?_⟩
 refine RS.nm ?_
 replace hE := hE.trans (X16.belo)
 replace B2 := B2.pro X16
 replace Q1 := Q1.pro X16
 replace B14 := B14.pro X16
 have zw16 := X16.size
 replace B4 := N16
 obtain ⟨za, ea⟩ : ∃ z, z = S.numB 1000000007 zh.2.1 zh.2.2 := ⟨_, rfl⟩
 rw [← ea] at B4 Q2 ⊢
 have lQ2 := Q2.len
 have bQ2 := Q2.bd
 refine RS.o (D.conv rfl Tryz.underlying25 Tryz.underlying23 (W.u32m _)) ?_
 refine RS.o (D.fieldL 0 rfl Tryz.underlying33 rfl C23 (by decide) rfl) ?_
 refine RS.store rfl (v := .int _ _) rfl C23 rfl B14 rfl (fun w17 y17 N17 => ?_)
 replace hE := hE.trans (y17.belo)
 replace B2 := B2.sto y17
 replace B4 := B4.sto y17
 replace Q2 := Q2.sto y17
 have zw17 := y17.size
 replace B14 := N17
 refine nl hK15 ?_
 refine sq fun K18 hK18 => ?_
 refine RS.mvP rfl ?_
 refine RS.nilCheck rfl ?_
 refine RS.o (D.fieldL 0 rfl Tryz.underlying78 rfl C22 (by decide) rfl) ?_
 refine RS.o (D.load rfl Tryz.underlying22 rfl (B4.cell rfl)) ?_
 refine RS.call E42 (readIds _ _ _ _ 4 (by decide) _ Q2 hc2 (by omega)) rfl (fun v19 w19 x19 A19 => ?_)
 replace hE := Ext.tr hE x19
 replace B2 := B2.ext x19
 replace B4 := B4.ext x19
 replace B14 := B14.ext x19
 replace Q2 := Q2.ext x19
 have zw19 := x19.size
 obtain ⟨aL, cL, rfl, hcL, DL⟩ := A19
 obtain ⟨f1, f2, f3, f4⟩ := S.idsB_rd za.2.1 za.2.2
 have hidl := S.id_le bQ2
 obtain ⟨zl, el⟩ : ∃ z, z = S.idsB za.2.1 za.2.2 := ⟨_, rfl⟩
 rw [← el] at f1 f2 f3 f4
 rw [f1] at hcL DL ⊢
 rw [f2] at DL
 replace DL := DL.weaken (T := fun k => b14 < k ∧ k < w19.heap.size) (fun k hk h => by omega)
 refine RS.nm ?_
 refine RS.move (v := .tuple _) rfl ?_
 refine RS.extract (v := .slice _ _ _) rfl rfl ?_
 refine RS.extract (v := .int _ _) rfl rfl ?_
 refine RS.extract (v := .int _ _) rfl rfl ?_
 refine RS.asS rfl ?_
 refine RS.asI rfl ?_
 refine RS.asI rfl ?_
 refine nl hK18 ?_
 refine sq fun K20 hK20 => ?_
 refine RS.mvP rfl ?_
 refine RS.mvI rfl ?_
 refine RS.mvI rfl ?_
 refine RS.callx E43 (rNext _ w.heap.size _ (by omega) _ _ _ _ _ (S.idU 4 za.2.2) (S.idE 4 za.2.2) (by omega) _ B4 Q2 hc2 (by omega)) rfl (fun e21 w21 A21 => ?_)
 obtain ⟨rfl, X21, a3, n3, c3, N21, hc3, hn3, Q3⟩ := A21
 refine ⟨_, rfl, ?_⟩
 refine RS.nm ?_
 replace hE := hE.trans (X21.belo)
 replace B2 := B2.pro X21
 replace B14 := B14.pro X21
 replace Q2 := Q2.pro X21
 replace DL := DL.pro X21
 have zw21 := X21.size
 replace B4 := N21
 rw [f3] at B4
 rw [f4] at Q3
 have lQ3 := Q3.len
 have bQ3 := Q3.bd
 refine nl hK20 ?_
 refine sq fun K22 hK22 => ?_
 refine RS.mvS rfl ?_
 refine RS.mvP rfl ?_
 refine RS.callx E41 (rNumber _ w.heap.size _ (by omega) _ _ _ _ _ 1000000000000 (by decide) _ B4 Q3 hc3 (by omega)) rfl (fun e23 w23 A23 => ?_)
 obtain ⟨rfl, X23, a4, n4, c4, N23, hc4, hn4, Q4⟩ := A23
 refine ⟨_, rfl, ?_⟩
 refine RS.nm ?_
 replace hE := hE.trans (X23.belo)
 replace B2 := B2.pro X23
 replace B14 := B14.pro X23
 replace DL := DL.pro X23
 replace Q3 := Q3.pro X23
 have zw23 := X23.size
 replace B4 := N23
 obtain ⟨zt, et⟩ : ∃ z, z = S.numB 1000000000000 zl.2.2.1 zl.2.2.2 := ⟨_, rfl⟩
 rw [← et] at B4 Q4 ⊢
 have lQ4 := Q4.len
 have bQ4 := Q4.bd
 refine RS.mvP rfl ?_
 refine RS.callx E40 (rOne _ w.heap.size _ (by omega) _ _ _ _ _ _ B4 Q4 hc4 (by omega)) rfl (fun e24 w24 A24 => ?_)
 obtain ⟨rfl, X24, a5, n5, c5, N24, hc5, hn5, Q5⟩ := A24
 refine ⟨_, rfl, ?_⟩
 refine RS.nm ?_
 replace hE := hE.trans (X24.belo)
 replace B2 := B2.pro X24
 replace B14 := B14.pro X24
 replace DL := DL.pro X24
 replace Q4 := Q4.pro X24
 have zw24 := X24.size
 replace B4 := N24
 obtain ⟨zk, ek⟩ : ∃ z, z = S.oneB zt.2.1 zt.2.2 := ⟨_, rfl⟩
 rw [← ek] at B4 Q5 ⊢
 have lQ5 := Q5.len
 have bQ5 := Q5.bd
 refine RS.o (D.fieldL 1 rfl Tryz.underlying33 rfl C24 (by decide) rfl) ?_
 refine RS.store rfl  rfl C24 rfl B14 rfl (fun w25 y25 N25 => ?_)
 replace hE := hE.trans (y25.belo)
 replace B2 := B2.sto y25
 replace B4 := B4.sto y25
 replace DL := DL.sto y25
 replace Q5 := Q5.sto y25
 have zw25 := y25.size
 replace B14 := N25
 refine RS.o (D.fieldL 2 rfl Tryz.underlying33 rfl C25 (by decide) rfl) ?_
 refine RS.store rfl (v := .int _ _) rfl C25 rfl B14 rfl (fun w26 y26 N26 => ?_)
 replace hE := hE.trans (y26.belo)
 replace B2 := B2.sto y26
 replace B4 := B4.sto y26
 replace DL := DL.sto y26
 replace Q5 := Q5.sto y26
 have zw26 := y26.size
 replace B14 := N26
 refine RS.o (D.fieldL 3 rfl Tryz.underlying33 rfl C29 (by decide) rfl) ?_
 refine RS.o (D.fieldL 3 rfl Tryz.underlying29 rfl C5 (by decide) rfl) ?_
 refine RS.store rfl (v := .int _ _) rfl C5 rfl B14 rfl (fun w27 y27 N27 => ?_)
 replace hE := hE.trans (y27.belo)
 replace B2 := B2.sto y27
 replace B4 := B4.sto y27
 replace DL := DL.sto y27
 replace Q5 := Q5.sto y27
 have zw27 := y27.size
 replace B14 := N27
 refine nl hK22 ?_
 refine wp_seq_k (fun K28 hK28 => ?_)
 refine sq fun K29 hK29 => ?_
 refine RS.o (D.fieldL 3 rfl Tryz.underlying33 rfl C29 (by decide) rfl) ?_
 refine RS.o (D.fieldL 3 rfl Tryz.underlying29 rfl C5 (by decide) rfl) ?_
 refine RS.o (D.load rfl Tryz.underlying5 rfl (B14.cell rfl)) ?_
 refine RS.o (D.ne rfl rfl) ?_
 refine nl hK29 ?_
 refine C.ifn rfl (fun c30 => ?_) (fun c30 => ?_)
 ·have hk1 := c30
  refine sq fun K31 hK31 => ?_
  refine RS.mvP rfl ?_
  refine RS.nilCheck rfl ?_
  refine RS.o (D.fieldL 0 rfl Tryz.underlying78 rfl C22 (by decide) rfl) ?_
  refine RS.o (D.load rfl Tryz.underlying22 rfl (B4.cell rfl)) ?_
  refine RS.call E44 (readB _ _ _ _ 20 (by decide) _ Q5 hc5 (by omega)) rfl (fun v32 w32 x32 A32 => ?_)
  replace hE := Ext.tr hE x32
  replace B2 := B2.ext x32
  replace B4 := B4.ext x32
  replace B14 := B14.ext x32
  replace DL := DL.ext x32
  replace Q5 := Q5.ext x32
  have zw32 := x32.size
  obtain ⟨aK, nK, cK, rfl, OKs⟩ := A32
  have hOK := OKs.lo
  obtain ⟨k1, k2, k3⟩ := S.keyB_rd zk.2.1 zk.2.2
  have hpu := S.ptU_le (most := 20) (wd := 1) bQ5 (by decide)
  obtain ⟨zq, ezq⟩ : ∃ z, z = S.keyB zk.2.1 zk.2.2 := ⟨_, rfl⟩
  rw [← ezq] at k1 k2 k3
  refine RS.nm ?_
  refine RS.move (v := .tuple _) rfl ?_
  refine RS.extract (v := .slice _ _ _) rfl rfl ?_
  refine RS.extract (v := .int _ _) rfl rfl ?_
  refine RS.extract (v := .int _ _) rfl rfl ?_
  refine RS.asS rfl ?_
  refine RS.asI rfl ?_
  refine RS.asI rfl ?_
  refine nl hK31 ?_
  refine sq fun K33 hK33 => ?_
  refine RS.mvP rfl ?_
  refine RS.mvI rfl ?_
  refine RS.mvI rfl ?_
  refine RS.callx E43 (rNext _ w.heap.size _ (by omega) _ _ _ _ _ (S.ptU 20 1 zk.2.2) (S.ptE 20 1 zk.2.2) (by omega) _ B4 Q5 hc5 (by omega)) rfl (fun e34 w34 A34 => ?_)
  obtain ⟨rfl, X34, a6, n6, c6, N34, hc6, hn6, Q6⟩ := A34
  refine ⟨_, rfl, ?_⟩
  refine RS.nm ?_
  replace hE := hE.trans (X34.belo)
  replace B2 := B2.pro X34
  replace B14 := B14.pro X34
  replace DL := DL.pro X34
  replace Q5 := Q5.pro X34
  replace OKs := OKs.pr X34 (by intros; try (first | (intro _ _) | (intro _) | skip); first | omega | (have hq := hOK _ (by assumption); first | omega | (dsimp only at *; omega)))
  have zw34 := X34.size
  replace B4 := N34
  rw [k2] at B4
  rw [k3] at Q6
  have lQ6 := Q6.len
  have bQ6 := Q6.bd
  refine nl hK33 ?_
  refine region ?_
  refine RS.mvS rfl ?_
  refine RS.o (D.convBS OKs.row rfl Tryz.underlying22 Tryz.underlying5 Tryz.underlying9) ?_
  refine RS.nm ?_
  rw [k1]
  refine RS.o (D.fieldL 3 rfl Tryz.underlying33 rfl C29 (by decide) rfl) ?_
  refine RS.o (D.fieldL 4 rfl Tryz.underlying29 rfl C9 (by decide) rfl) ?_
  refine RS.store rfl  rfl C9 rfl B14 rfl (fun w35 y35 N35 => ?_)
  replace hE := hE.trans (y35.belo)
  replace B2 := B2.sto y35
  replace B4 := B4.sto y35
  replace DL := DL.sto y35
  replace OKs := OKs.st y35 (by intros; try (first | (intro _ _) | (intro _) | skip); first | omega | (have hq := hOK _ (by assumption); first | omega | (dsimp only at *; omega)))
  replace Q6 := Q6.sto y35
  have zw35 := y35.size
  replace B14 := N35
  refine nl hK28 ?_
  refine wp_seq_k (fun K36 hK36 => ?_)
  refine sq fun K37 hK37 => ?_
  refine RS.o (D.fieldL 3 rfl Tryz.underlying33 rfl C29 (by decide) rfl) ?_
  refine RS.o (D.fieldL 3 rfl Tryz.underlying29 rfl C5 (by decide) rfl) ?_
  refine RS.o (D.load rfl Tryz.underlying5 rfl (B14.cell rfl)) ?_
  refine RS.o (D.eq rfl rfl) ?_
  refine nl hK37 ?_
  refine C.ife rfl (fun c38 => ?_) (fun c38 => ?_)
  ·have hk4 := c38
   refine sq fun K39 hK39 => ?_
   refine RS.mvP rfl ?_
   refine RS.nilCheck rfl ?_
   refine RS.o (D.fieldL 0 rfl Tryz.underlying78 rfl C22 (by decide) rfl) ?_
   refine RS.o (D.load rfl Tryz.underlying22 rfl (B4.cell rfl)) ?_
   refine RS.call E45 (decodeV _ _ _ _ _ Q6 hc6 (by omega)) rfl (fun v40 w40 x40 A40 => ?_)
   replace hE := Ext.tr hE x40
   replace B2 := B2.ext x40
   replace B4 := B4.ext x40
   replace B14 := B14.ext x40
   replace DL := DL.ext x40
   replace OKs := OKs.ext x40
   replace Q6 := Q6.ext x40
   have zw40 := x40.size
   subst A40
   have hvb := S.vd_bd bQ6
   obtain ⟨v1, v2, v3⟩ := S.valB_rd zq.1 zq.2.1 zq.2.2
   obtain ⟨zv, ez⟩ : ∃ z, z = S.valB zq.1 zq.2.1 zq.2.2 := ⟨_, rfl⟩
   rw [← ez] at v1 v2 v3
   have j1 : (S.vdS zq.2.2).k = zv.1.vk := congrArg S.ActV.vk v1
   have j2 : (S.vdS zq.2.2).num = zv.1.num := congrArg S.ActV.num v1
   have j3 : (S.vdS zq.2.2).bits = zv.1.bits := congrArg S.ActV.bits v1
   have j4 : (S.vdS zq.2.2).t = zv.1.t := congrArg S.ActV.t v1
   have j5 : zq.1 = zv.1.key := congrArg S.ActV.key v1
   rw [j1, j2, j3, j4]
   rw [j5] at B14
   refine RS.nm ?_
   refine RS.move (v := .tuple _) rfl ?_
   refine RS.extract (v := .agg _) rfl rfl ?_
   refine RS.extract (v := .int _ _) rfl rfl ?_
   refine RS.extract (v := .int _ _) rfl rfl ?_
   refine RS.alloc T27 (fun b41 w41 e41 s41 x41 B41 => ?_)
   refine RS.nm ?_
   replace hE := Ext.tr hE x41
   replace B2 := B2.ext x41
   replace B4 := B4.ext x41
   replace B14 := B14.ext x41
   replace DL := DL.ext x41
   replace OKs := OKs.ext x41
   replace Q6 := Q6.ext x41
   have zw41 := x41.size
   refine RS.storeAggB rfl rfl C27 (by decide) rfl rfl B41 rfl (fun w42 y42 N42 => ?_)
   replace hE := hE.trans (y42.belo)
   replace B2 := B2.sto y42
   replace B4 := B4.sto y42
   replace B14 := B14.sto y42
   replace DL := DL.sto y42
   replace OKs := OKs.st y42 (by intros; try (first | (intro _ _) | (intro _) | skip); first | omega | (have hq := hOK _ (by assumption); first | omega | (dsimp only at *; omega)))
   replace Q6 := Q6.sto y42
   have zw42 := y42.size
   replace B41 := N42
   refine RS.asI rfl ?_
   refine RS.asI rfl ?_
   refine nl hK39 ?_
   refine sq fun K43 hK43 => ?_
   refine RS.mvP rfl ?_
   refine RS.mvI rfl ?_
   refine RS.mvI rfl ?_
   refine RS.callx E43 (rNext _ w.heap.size _ (by omega) _ _ _ _ _ (S.vdS zq.2.2).u (S.vdS zq.2.2).e (by omega) _ B4 Q6 hc6 (by omega)) rfl (fun e44 w44 A44 => ?_)
   obtain ⟨rfl, X44, a7, n7, c7, N44, hc7, hn7, Q7⟩ := A44
   refine ⟨_, rfl, ?_⟩
   refine RS.nm ?_
   replace hE := hE.trans (X44.belo)
   replace B2 := B2.pro X44
   replace B14 := B14.pro X44
   replace DL := DL.pro X44
   replace OKs := OKs.pr X44 (by intros; try (first | (intro _ _) | (intro _) | skip); first | omega | (have hq := hOK _ (by assumption); first | omega | (dsimp only at *; omega)))
   replace Q6 := Q6.pro X44
   replace B41 := B41.pro X44
   have zw44 := X44.size
   replace B4 := N44
   rw [v2] at B4
   rw [v3] at Q7
   have lQ7 := Q7.len
   have bQ7 := Q7.bd
   refine nl hK43 ?_
   refine region ?_
   refine RS.o (D.loadAgg rfl Tryz.underlying27 rfl C27 (by decide) rfl (B41.cellsN 4 rfl)) ?_
   refine RS.o (D.fieldL 3 rfl Tryz.underlying33 rfl C29 (by decide) rfl) ?_
   refine RS.o (D.fieldL 5 rfl Tryz.underlying29 rfl C27 (by decide) rfl) ?_
   refine RS.storeAggB rfl rfl C27 (by decide) rfl rfl B14 rfl (fun w45 y45 N45 => ?_)
   replace hE := hE.trans (y45.belo)
   replace B2 := B2.sto y45
   replace B4 := B4.sto y45
   replace DL := DL.sto y45
   replace OKs := OKs.st y45 (by intros; try (first | (intro _ _) | (intro _) | skip); first | omega | (have hq := hOK _ (by assumption); first | omega | (dsimp only at *; omega)))
   replace B41 := B41.sto y45
   replace Q7 := Q7.sto y45
   have zw45 := y45.size
   replace B14 := N45
   refine nl hK36 ?_
   refine sq fun K46 hK46 => ?_
   refine RS.mvP rfl ?_
   refine RS.callx E41 (rNumber _ w.heap.size _ (by omega) _ _ _ _ _ 500000003 (by decide) _ B4 Q7 hc7 (by omega)) rfl (fun e47 w47 A47 => ?_)
   obtain ⟨rfl, X47, a8, n8, c8, N47, hc8, hn8, Q8⟩ := A47
   refine ⟨_, rfl, ?_⟩
   refine RS.nm ?_
   replace hE := hE.trans (X47.belo)
   replace B2 := B2.pro X47
   replace B14 := B14.pro X47
   replace DL := DL.pro X47
   replace OKs := OKs.pr X47 (by intros; try (first | (intro _ _) | (intro _) | skip); first | omega | (have hq := hOK _ (by assumption); first | omega | (dsimp only at *; omega)))
   replace B41 := B41.pro X47
   replace Q7 := Q7.pro X47
   have zw47 := X47.size
   replace B4 := N47
   obtain ⟨ze, ee⟩ : ∃ z, z = S.numB 500000003 zv.2.1 zv.2.2 := ⟨_, rfl⟩
   rw [← ee] at B4 Q8 ⊢
   have lQ8 := Q8.len
   have bQ8 := Q8.bd
   refine RS.o (D.conv rfl Tryz.underlying25 Tryz.underlying23 (W.u32m _)) ?_
   refine RS.mvP rfl ?_
   refine RS.callx E41 (rNumber _ w.heap.size _ (by omega) _ _ _ _ _ 500000003 (by decide) _ B4 Q8 hc8 (by omega)) rfl (fun e48 w48 A48 => ?_)
   obtain ⟨rfl, X48, a9, n9, c9, N48, hc9, hn9, Q9⟩ := A48
   refine ⟨_, rfl, ?_⟩
   refine RS.nm ?_
   replace hE := hE.trans (X48.belo)
   replace B2 := B2.pro X48
   replace B14 := B14.pro X48
   replace DL := DL.pro X48
   replace OKs := OKs.pr X48 (by intros; try (first | (intro _ _) | (intro _) | skip); first | omega | (have hq := hOK _ (by assumption); first | omega | (dsimp only at *; omega)))
   replace B41 := B41.pro X48
   replace Q8 := Q8.pro X48
   have zw48 := X48.size
   replace B4 := N48
   obtain ⟨zs, es⟩ : ∃ z, z = S.numB 500000003 ze.2.1 ze.2.2 := ⟨_, rfl⟩
   rw [← es] at B4 Q9 ⊢
   have lQ9 := Q9.len
   have bQ9 := Q9.bd
   refine RS.o (D.conv rfl Tryz.underlying25 Tryz.underlying23 (W.u32m _)) ?_
   refine RS.o (D.fieldL 9 rfl Tryz.underlying33 rfl C31 (by decide) rfl) ?_
   refine RS.o (D.fieldL 9 rfl Tryz.underlying31 rfl C23 (by decide) rfl) ?_
   refine RS.store rfl (v := .int _ _) rfl C23 rfl B14 rfl (fun w49 y49 N49 => ?_)
   replace hE := hE.trans (y49.belo)
   replace B2 := B2.sto y49
   replace B4 := B4.sto y49
   replace DL := DL.sto y49
   replace OKs := OKs.st y49 (by intros; try (first | (intro _ _) | (intro _) | skip); first | omega | (have hq := hOK _ (by assumption); first | omega | (dsimp only at *; omega)))
   replace B41 := B41.sto y49
   replace Q9 := Q9.sto y49
   have zw49 := y49.size
   replace B14 := N49
   refine RS.o (D.fieldL 9 rfl Tryz.underlying33 rfl C31 (by decide) rfl) ?_
   refine RS.o (D.fieldL 10 rfl Tryz.underlying31 rfl C23 (by decide) rfl) ?_
   refine RS.store rfl (v := .int _ _) rfl C23 rfl B14 rfl (fun w50 y50 N50 => ?_)
   replace hE := hE.trans (y50.belo)
   replace B2 := B2.sto y50
   replace B4 := B4.sto y50
   replace DL := DL.sto y50
   replace OKs := OKs.st y50 (by intros; try (first | (intro _ _) | (intro _) | skip); first | omega | (have hq := hOK _ (by assumption); first | omega | (dsimp only at *; omega)))
   replace B41 := B41.sto y50
   replace Q9 := Q9.sto y50
   have zw50 := y50.size
   replace B14 := N50
   refine nl hK46 ?_
   refine wp_seq_k (fun K51 hK51 => ?_)
   refine wp_seq_k (fun K52 hK52 => ?_)
   have hsb := S.Steps.ok hbd (⟨zh, za, zl, zt, zk, zv, ze, zs, eh, ea, el, et, ek, (by rw [ez, ezq]; exact S.actB_val zk.2.1 zk.2.2 hk4), ee, es⟩ : S.Steps bs)
   refine region ?_
   refine RS.mvP rfl ?_
   refine RS.nilCheck rfl ?_
   refine RS.o (D.fieldL 1 rfl Tryz.underlying78 rfl C4 (by decide) rfl) ?_
   refine RS.o (D.load rfl Tryz.underlying4 rfl (B4.cell rfl)) ?_
   refine RS.mvB rfl ?_
   refine RS.splitb 107 rfl rfl (fun c53 => ?_) (fun c53 => ?_)
   ·refine RS.nm ?_
    have hb1 := c53
    refine RS.skT 107 ?_
    refine RS.skT 107 ?_
    refine RS.skT 107 ?_
    refine RS.skT 107 ?_
    refine RS.skT 107 ?_
    refine RS.skT 107 ?_
    refine RS.pick (v := .bool true) rfl rfl ?_
    refine RS.mvB rfl ?_
    refine RS.skT 115 ?_
    refine RS.skT 115 ?_
    refine RS.skT 115 ?_
    refine RS.pick (v := .bool true) rfl rfl ?_
    refine nl hK52 ?_
    refine C.ift rfl ?_
    refine sq fun K54 hK54 => ?_
    refine RS.move (v := .func _ _ _) rfl ?_
    refine RS.callv E39 (decFail _) rfl rfl (fun e55 w55 A55 => ?_)
    obtain ⟨v55, rfl, x55, A55⟩ := A55
    refine ⟨_, rfl, ?_⟩
    replace hE := Ext.tr hE x55
    replace B2 := B2.ext x55
    replace B4 := B4.ext x55
    replace B14 := B14.ext x55
    replace DL := DL.ext x55
    replace OKs := OKs.ext x55
    replace B41 := B41.ext x55
    replace Q9 := Q9.ext x55
    have zw55 := x55.size
    subst A55
    refine RS.nm ?_
    refine RS.extract (v := .agg _) rfl rfl ?_
    refine RS.extract (v := .int _ _) rfl rfl ?_
    refine RS.storeAggB rfl rfl C33 (by decide) rfl rfl B2 rfl (fun w56 y56 N56 => ?_)
    replace hE := hE.trans (y56.belo)
    replace B4 := B4.sto y56
    replace B14 := B14.sto y56
    replace DL := DL.sto y56
    replace OKs := OKs.st y56 (by intros; try (first | (intro _ _) | (intro _) | skip); first | omega | (have hq := hOK _ (by assumption); first | omega | (dsimp only at *; omega)))
    replace B41 := B41.sto y56
    replace Q9 := Q9.sto y56
    have zw56 := y56.size
    replace B2 := N56
    refine RS.asI rfl ?_
    refine nl hK54 ?_
    refine wp_ret ?_
    refine ret (rs := [.cell 2 33, .tmp 3]) (vs := [.agg _, .int _ _]) (v := (.tuple #[.agg _, .int _ _])) rfl ⟨⟨_, rfl, loadVar_agg Tryz.underlying33 rfl C33 (by decide) rfl (B2.cellsN 11 rfl)⟩, rfl, trivial⟩ rfl ?_
    obtain ⟨q1, q2⟩ := S.dec_none (S.Steps.none hbd (⟨zh, za, zl, zt, zk, zv, ze, zs, eh, ea, el, et, ek, (by rw [ez, ezq]; exact S.actB_val zk.2.1 zk.2.2 hk4), ee, es⟩ : S.Steps bs) (fun ⟨_, g2, g3, g4⟩ => by first | exact Bool.noConfusion (hb1.symm.trans g2) | exact absurd g4 hz | (have g3 : zs.2.2 = [] := g3; rw [g3] at lQ9; simp at lQ9; omega)))
    rw [q1, q2]
    exact ⟨_, rfl, hE, _, _, rfl, Nat.le_refl _, WRow.nil⟩
   refine RS.nm ?_
   have hb0 := c53
   refine RS.wt 107 ?_
   refine RS.mvP rfl ?_
   refine RS.wt 107 ?_
   refine RS.nilCheck rfl ?_
   refine RS.wt 107 ?_
   refine RS.o (D.fieldL 0 rfl Tryz.underlying78 rfl C22 (by decide) rfl) ?_
   refine RS.wt 107 ?_
   refine RS.o (D.load rfl Tryz.underlying22 rfl (B4.cell rfl)) ?_
   refine RS.wt 107 ?_
   refine RS.o (D.len rfl Tryz.underlying22) ?_
   refine RS.wt 107 ?_
   refine RS.o (D.gt rfl rfl) ?_
   refine RS.pick (v := .bool _) rfl rfl ?_
   refine RS.mvB rfl ?_
   refine RS.splitd 115 rfl rfl (fun c57 => ?_) (fun c57 => ?_)
   ·refine RS.nm ?_
    have hr := c57
    refine RS.skT 115 ?_
    refine RS.skT 115 ?_
    refine RS.skT 115 ?_
    refine RS.pick (v := .bool true) rfl rfl ?_
    refine nl hK52 ?_
    refine C.ift rfl ?_
    refine sq fun K58 hK58 => ?_
    refine RS.move (v := .func _ _ _) rfl ?_
    refine RS.callv E39 (decFail _) rfl rfl (fun e59 w59 A59 => ?_)
    obtain ⟨v59, rfl, x59, A59⟩ := A59
    refine ⟨_, rfl, ?_⟩
    replace hE := Ext.tr hE x59
    replace B2 := B2.ext x59
    replace B4 := B4.ext x59
    replace B14 := B14.ext x59
    replace DL := DL.ext x59
    replace OKs := OKs.ext x59
    replace B41 := B41.ext x59
    replace Q9 := Q9.ext x59
    have zw59 := x59.size
    subst A59
    refine RS.nm ?_
    refine RS.extract (v := .agg _) rfl rfl ?_
    refine RS.extract (v := .int _ _) rfl rfl ?_
    refine RS.storeAggB rfl rfl C33 (by decide) rfl rfl B2 rfl (fun w60 y60 N60 => ?_)
    replace hE := hE.trans (y60.belo)
    replace B4 := B4.sto y60
    replace B14 := B14.sto y60
    replace DL := DL.sto y60
    replace OKs := OKs.st y60 (by intros; try (first | (intro _ _) | (intro _) | skip); first | omega | (have hq := hOK _ (by assumption); first | omega | (dsimp only at *; omega)))
    replace B41 := B41.sto y60
    replace Q9 := Q9.sto y60
    have zw60 := y60.size
    replace B2 := N60
    refine RS.asI rfl ?_
    refine nl hK58 ?_
    refine wp_ret ?_
    refine ret (rs := [.cell 2 33, .tmp 3]) (vs := [.agg _, .int _ _]) (v := (.tuple #[.agg _, .int _ _])) rfl ⟨⟨_, rfl, loadVar_agg Tryz.underlying33 rfl C33 (by decide) rfl (B2.cellsN 11 rfl)⟩, rfl, trivial⟩ rfl ?_
    obtain ⟨q1, q2⟩ := S.dec_none (S.Steps.none hbd (⟨zh, za, zl, zt, zk, zv, ze, zs, eh, ea, el, et, ek, (by rw [ez, ezq]; exact S.actB_val zk.2.1 zk.2.2 hk4), ee, es⟩ : S.Steps bs) (fun ⟨_, g2, g3, g4⟩ => by first | exact Bool.noConfusion (hb1.symm.trans g2) | exact absurd g4 hz | (have g3 : zs.2.2 = [] := g3; rw [g3] at lQ9; simp at lQ9; omega)))
    rw [q1, q2]
    exact ⟨_, rfl, hE, _, _, rfl, Nat.le_refl _, WRow.nil⟩
   refine RS.nm ?_
   have hr := c57
   refine RS.wt 115 ?_
   refine RS.o (D.loadAgg rfl Tryz.underlying33 rfl C33 (by decide) rfl (B14.cellsN 11 rfl)) ?_
   refine RS.wt 115 ?_
   refine RS.call E46 (checkO (⟨zh, za, zl, zt, zk, zv, ze, zs, eh, ea, el, et, ek, (by rw [ez, ezq]; exact S.actB_val zk.2.1 zk.2.2 hk4), ee, es⟩ : S.Steps bs).op hsb.1 _ _ _ DL hcL) rfl (fun v61 w61 x61 A61 => ?_)
   replace hE := Ext.tr hE x61
   replace B2 := B2.ext x61
   replace B4 := B4.ext x61
   replace B14 := B14.ext x61
   replace DL := DL.ext x61
   replace OKs := OKs.ext x61
   replace B41 := B41.ext x61
   replace Q9 := Q9.ext x61
   have zw61 := x61.size
   subst A61
   refine RS.nm ?_
   refine RS.wt 115 ?_
   refine RS.o (D.ne rfl rfl) ?_
   refine RS.pick (v := .bool _) rfl rfl ?_
   refine nl hK52 ?_
   refine C.ifn rfl (fun c62 => ?_) (fun c62 => ?_)
   ·have hz := c62
    refine sq fun K63 hK63 => ?_
    refine RS.move (v := .func _ _ _) rfl ?_
    refine RS.callv E39 (decFail _) rfl rfl (fun e64 w64 A64 => ?_)
    obtain ⟨v64, rfl, x64, A64⟩ := A64
    refine ⟨_, rfl, ?_⟩
    replace hE := Ext.tr hE x64
    replace B2 := B2.ext x64
    replace B4 := B4.ext x64
    replace B14 := B14.ext x64
    replace DL := DL.ext x64
    replace OKs := OKs.ext x64
    replace B41 := B41.ext x64
    replace Q9 := Q9.ext x64
    have zw64 := x64.size
    subst A64
    refine RS.nm ?_
    refine RS.extract (v := .agg _) rfl rfl ?_
    refine RS.extract (v := .int _ _) rfl rfl ?_
    refine RS.storeAggB rfl rfl C33 (by decide) rfl rfl B2 rfl (fun w65 y65 N65 => ?_)
    replace hE := hE.trans (y65.belo)
    replace B4 := B4.sto y65
    replace B14 := B14.sto y65
    replace DL := DL.sto y65
    replace OKs := OKs.st y65 (by intros; try (first | (intro _ _) | (intro _) | skip); first | omega | (have hq := hOK _ (by assumption); first | omega | (dsimp only at *; omega)))
    replace B41 := B41.sto y65
    replace Q9 := Q9.sto y65
    have zw65 := y65.size
    replace B2 := N65
    refine RS.asI rfl ?_
    refine nl hK63 ?_
    refine wp_ret ?_
    refine ret (rs := [.cell 2 33, .tmp 3]) (vs := [.agg _, .int _ _]) (v := (.tuple #[.agg _, .int _ _])) rfl ⟨⟨_, rfl, loadVar_agg Tryz.underlying33 rfl C33 (by decide) rfl (B2.cellsN 11 rfl)⟩, rfl, trivial⟩ rfl ?_
    obtain ⟨q1, q2⟩ := S.dec_none (S.Steps.none hbd (⟨zh, za, zl, zt, zk, zv, ze, zs, eh, ea, el, et, ek, (by rw [ez, ezq]; exact S.actB_val zk.2.1 zk.2.2 hk4), ee, es⟩ : S.Steps bs) (fun ⟨_, g2, g3, g4⟩ => by first | exact Bool.noConfusion (hb1.symm.trans g2) | exact absurd g4 hz | (have g3 : zs.2.2 = [] := g3; rw [g3] at lQ9; simp at lQ9; omega)))
    rw [q1, q2]
    exact ⟨_, rfl, hE, _, _, rfl, Nat.le_refl _, WRow.nil⟩
   have hz := c62
   refine wp_skip ?_
   refine hK51 _ _ ?_
   refine sq fun K66 hK66 => ?_
   refine RS.o (D.loadAgg rfl Tryz.underlying33 rfl C33 (by decide) rfl (B14.cellsN 11 rfl)) ?_
   refine RS.storeAggB rfl rfl C33 (by decide) rfl rfl B2 rfl (fun w67 y67 N67 => ?_)
   replace hE := hE.trans (y67.belo)
   replace B4 := B4.sto y67
   replace B14 := B14.sto y67
   replace DL := DL.sto y67
   replace OKs := OKs.st y67 (by intros; try (first | (intro _ _) | (intro _) | skip); first | omega | (have hq := hOK _ (by assumption); first | omega | (dsimp only at *; omega)))
   replace B41 := B41.sto y67
   replace Q9 := Q9.sto y67
   have zw67 := y67.size
   replace B2 := N67
   refine RS.asI rfl ?_
   refine nl hK66 ?_
   refine wp_ret ?_
   refine ret (rs := [.cell 2 33, .tmp 3]) (vs := [.agg _, .int _ _]) (v := (.tuple #[.agg _, .int _ _])) rfl ⟨⟨_, rfl, loadVar_agg Tryz.underlying33 rfl C33 (by decide) rfl (B2.cellsN 11 rfl)⟩, rfl, trivial⟩ rfl ?_
   obtain ⟨q1, q2⟩ := S.dec_some (S.Steps.good hbd (⟨zh, za, zl, zt, zk, zv, ze, zs, eh, ea, el, et, ek, (by rw [ez, ezq]; exact S.actB_val zk.2.1 zk.2.2 hk4), ee, es⟩ : S.Steps bs) (by show zh.1 = 111; exact hx1) hb0 (List.eq_nil_of_length_eq_zero (by show zs.2.2.length = 0; omega)) hz)
   rw [q1, q2]
   exact ⟨_, rfl, hE, _, _, rfl, hcL, DL.weaken (fun k _ h => by omega)⟩
  have hk4 := c38
  refine wp_skip ?_
  refine hK36 _ _ ?_
  refine sq fun K68 hK68 => ?_
  refine RS.mvP rfl ?_
  refine RS.callx E41 (rNumber _ w.heap.size _ (by omega) _ _ _ _ _ 500000003 (by decide) _ B4 Q6 hc6 (by omega)) rfl (fun e69 w69 A69 => ?_)
  obtain ⟨rfl, X69, a8, n8, c8, N69, hc8, hn8, Q8⟩ := A69
  refine ⟨_, rfl, ?_⟩
  refine RS.nm ?_
  replace hE := hE.trans (X69.belo)
  replace B2 := B2.pro X69
  replace B14 := B14.pro X69
  replace DL := DL.pro X69
  replace OKs := OKs.pr X69 (by intros; try (first | (intro _ _) | (intro _) | skip); first | omega | (have hq := hOK _ (by assumption); first | omega | (dsimp only at *; omega)))
  replace Q6 := Q6.pro X69
  have zw69 := X69.size
  replace B4 := N69
  obtain ⟨ze, ee⟩ : ∃ z, z = S.numB 500000003 zq.2.1 zq.2.2 := ⟨_, rfl⟩
  rw [← ee] at B4 Q8 ⊢
  have lQ8 := Q8.len
  have bQ8 := Q8.bd
  refine RS.o (D.conv rfl Tryz.underlying25 Tryz.underlying23 (W.u32m _)) ?_
  refine RS.mvP rfl ?_
  refine RS.callx E41 (rNumber _ w.heap.size _ (by omega) _ _ _ _ _ 500000003 (by decide) _ B4 Q8 hc8 (by omega)) rfl (fun e70 w70 A70 => ?_)
  obtain ⟨rfl, X70, a9, n9, c9, N70, hc9, hn9, Q9⟩ := A70
  refine ⟨_, rfl, ?_⟩
  refine RS.nm ?_
  replace hE := hE.trans (X70.belo)
  replace B2 := B2.pro X70
  replace B14 := B14.pro X70
  replace DL := DL.pro X70
  replace OKs := OKs.pr X70 (by intros; try (first | (intro _ _) | (intro _) | skip); first | omega | (have hq := hOK _ (by assumption); first | omega | (dsimp only at *; omega)))
  replace Q8 := Q8.pro X70
  have zw70 := X70.size
  replace B4 := N70
  obtain ⟨zs, es⟩ : ∃ z, z = S.numB 500000003 ze.2.1 ze.2.2 := ⟨_, rfl⟩
  rw [← es] at B4 Q9 ⊢
  have lQ9 := Q9.len
  have bQ9 := Q9.bd
  refine RS.o (D.conv rfl Tryz.underlying25 Tryz.underlying23 (W.u32m _)) ?_
  refine RS.o (D.fieldL 9 rfl Tryz.underlying33 rfl C31 (by decide) rfl) ?_
  refine RS.o (D.fieldL 9 rfl Tryz.underlying31 rfl C23 (by decide) rfl) ?_
  refine RS.store rfl (v := .int _ _) rfl C23 rfl B14 rfl (fun w71 y71 N71 => ?_)
  replace hE := hE.trans (y71.belo)
  replace B2 := B2.sto y71
  replace B4 := B4.sto y71
  replace DL := DL.sto y71
  replace OKs := OKs.st y71 (by intros; try (first | (intro _ _) | (intro _) | skip); first | omega | (have hq := hOK _ (by assumption); first | omega | (dsimp only at *; omega)))
  replace Q9 := Q9.sto y71
  have zw71 := y71.size
  replace B14 := N71
  refine RS.o (D.fieldL 9 rfl Tryz.underlying33 rfl C31 (by decide) rfl) ?_
  refine RS.o (D.fieldL 10 rfl Tryz.underlying31 rfl C23 (by decide) rfl) ?_
  refine RS.store rfl (v := .int _ _) rfl C23 rfl B14 rfl (fun w72 y72 N72 => ?_)
  replace hE := hE.trans (y72.belo)
  replace B2 := B2.sto y72
  replace B4 := B4.sto y72
  replace DL := DL.sto y72
  replace OKs := OKs.st y72 (by intros; try (first | (intro _ _) | (intro _) | skip); first | omega | (have hq := hOK _ (by assumption); first | omega | (dsimp only at *; omega)))
  replace Q9 := Q9.sto y72
  have zw72 := y72.size
  replace B14 := N72
  refine nl hK68 ?_
  refine wp_seq_k (fun K73 hK73 => ?_)
  refine wp_seq_k (fun K74 hK74 => ?_)
  have hsb := S.Steps.ok hbd (⟨zh, za, zl, zt, zk, (⟨0, 0, 0, zq.1, .empty⟩, zq.2.1, zq.2.2), ze, zs, eh, ea, el, et, ek, (by rw [ezq]; exact S.actB_key zk.2.1 zk.2.2 hk1 hk4), ee, es⟩ : S.Steps bs)
  refine region ?_
  refine RS.mvP rfl ?_
  refine RS.nilCheck rfl ?_
  refine RS.o (D.fieldL 1 rfl Tryz.underlying78 rfl C4 (by decide) rfl) ?_
  refine RS.o (D.load rfl Tryz.underlying4 rfl (B4.cell rfl)) ?_
  refine RS.mvB rfl ?_
  refine RS.splitb 107 rfl rfl (fun c75 => ?_) (fun c75 => ?_)
  ·refine RS.nm ?_
   have hb1 := c75
   refine RS.skT 107 ?_
   refine RS.skT 107 ?_
   refine RS.skT 107 ?_
   refine RS.skT 107 ?_
   refine RS.skT 107 ?_
   refine RS.skT 107 ?_
   refine RS.pick (v := .bool true) rfl rfl ?_
   refine RS.mvB rfl ?_
   refine RS.skT 115 ?_
   refine RS.skT 115 ?_
   refine RS.skT 115 ?_
   refine RS.pick (v := .bool true) rfl rfl ?_
   refine nl hK74 ?_
   refine C.ift rfl ?_
   refine sq fun K76 hK76 => ?_
   refine RS.move (v := .func _ _ _) rfl ?_
   refine RS.callv E39 (decFail _) rfl rfl (fun e77 w77 A77 => ?_)
   obtain ⟨v77, rfl, x77, A77⟩ := A77
   refine ⟨_, rfl, ?_⟩
   replace hE := Ext.tr hE x77
   replace B2 := B2.ext x77
   replace B4 := B4.ext x77
   replace B14 := B14.ext x77
   replace DL := DL.ext x77
   replace OKs := OKs.ext x77
   replace Q9 := Q9.ext x77
   have zw77 := x77.size
   subst A77
   refine RS.nm ?_
   refine RS.extract (v := .agg _) rfl rfl ?_
   refine RS.extract (v := .int _ _) rfl rfl ?_
   refine RS.storeAggB rfl rfl C33 (by decide) rfl rfl B2 rfl (fun w78 y78 N78 => ?_)
   replace hE := hE.trans (y78.belo)
   replace B4 := B4.sto y78
   replace B14 := B14.sto y78
   replace DL := DL.sto y78
   replace OKs := OKs.st y78 (by intros; try (first | (intro _ _) | (intro _) | skip); first | omega | (have hq := hOK _ (by assumption); first | omega | (dsimp only at *; omega)))
   replace Q9 := Q9.sto y78
   have zw78 := y78.size
   replace B2 := N78
   refine RS.asI rfl ?_
   refine nl hK76 ?_
   refine wp_ret ?_
   refine ret (rs := [.cell 2 33, .tmp 3]) (vs := [.agg _, .int _ _]) (v := (.tuple #[.agg _, .int _ _])) rfl ⟨⟨_, rfl, loadVar_agg Tryz.underlying33 rfl C33 (by decide) rfl (B2.cellsN 11 rfl)⟩, rfl, trivial⟩ rfl ?_
   obtain ⟨q1, q2⟩ := S.dec_none (S.Steps.none hbd (⟨zh, za, zl, zt, zk, (⟨0, 0, 0, zq.1, .empty⟩, zq.2.1, zq.2.2), ze, zs, eh, ea, el, et, ek, (by rw [ezq]; exact S.actB_key zk.2.1 zk.2.2 hk1 hk4), ee, es⟩ : S.Steps bs) (fun ⟨_, g2, g3, g4⟩ => by first | exact Bool.noConfusion (hb1.symm.trans g2) | exact absurd g4 hz | (have g3 : zs.2.2 = [] := g3; rw [g3] at lQ9; simp at lQ9; omega)))
   rw [q1, q2]
   exact ⟨_, rfl, hE, _, _, rfl, Nat.le_refl _, WRow.nil⟩
  refine RS.nm ?_
  have hb0 := c75
  refine RS.wt 107 ?_
  refine RS.mvP rfl ?_
  refine RS.wt 107 ?_
  refine RS.nilCheck rfl ?_
  refine RS.wt 107 ?_
  refine RS.o (D.fieldL 0 rfl Tryz.underlying78 rfl C22 (by decide) rfl) ?_
  refine RS.wt 107 ?_
  refine RS.o (D.load rfl Tryz.underlying22 rfl (B4.cell rfl)) ?_
  refine RS.wt 107 ?_
  refine RS.o (D.len rfl Tryz.underlying22) ?_
  refine RS.wt 107 ?_
  refine RS.o (D.gt rfl rfl) ?_
  refine RS.pick (v := .bool _) rfl rfl ?_
  refine RS.mvB rfl ?_
  refine RS.splitd 115 rfl rfl (fun c79 => ?_) (fun c79 => ?_)
  ·refine RS.nm ?_
   have hr := c79
   refine RS.skT 115 ?_
   refine RS.skT 115 ?_
   refine RS.skT 115 ?_
   refine RS.pick (v := .bool true) rfl rfl ?_
   refine nl hK74 ?_
   refine C.ift rfl ?_
   refine sq fun K80 hK80 => ?_
   refine RS.move (v := .func _ _ _) rfl ?_
   refine RS.callv E39 (decFail _) rfl rfl (fun e81 w81 A81 => ?_)
   obtain ⟨v81, rfl, x81, A81⟩ := A81
   refine ⟨_, rfl, ?_⟩
   replace hE := Ext.tr hE x81
   replace B2 := B2.ext x81
   replace B4 := B4.ext x81
   replace B14 := B14.ext x81
   replace DL := DL.ext x81
   replace OKs := OKs.ext x81
   replace Q9 := Q9.ext x81
   have zw81 := x81.size
   subst A81
   refine RS.nm ?_
   refine RS.extract (v := .agg _) rfl rfl ?_
   refine RS.extract (v := .int _ _) rfl rfl ?_
   refine RS.storeAggB rfl rfl C33 (by decide) rfl rfl B2 rfl (fun w82 y82 N82 => ?_)
   replace hE := hE.trans (y82.belo)
   replace B4 := B4.sto y82
   replace B14 := B14.sto y82
   replace DL := DL.sto y82
   replace OKs := OKs.st y82 (by intros; try (first | (intro _ _) | (intro _) | skip); first | omega | (have hq := hOK _ (by assumption); first | omega | (dsimp only at *; omega)))
   replace Q9 := Q9.sto y82
   have zw82 := y82.size
   replace B2 := N82
   refine RS.asI rfl ?_
   refine nl hK80 ?_
   refine wp_ret ?_
   refine ret (rs := [.cell 2 33, .tmp 3]) (vs := [.agg _, .int _ _]) (v := (.tuple #[.agg _, .int _ _])) rfl ⟨⟨_, rfl, loadVar_agg Tryz.underlying33 rfl C33 (by decide) rfl (B2.cellsN 11 rfl)⟩, rfl, trivial⟩ rfl ?_
   obtain ⟨q1, q2⟩ := S.dec_none (S.Steps.none hbd (⟨zh, za, zl, zt, zk, (⟨0, 0, 0, zq.1, .empty⟩, zq.2.1, zq.2.2), ze, zs, eh, ea, el, et, ek, (by rw [ezq]; exact S.actB_key zk.2.1 zk.2.2 hk1 hk4), ee, es⟩ : S.Steps bs) (fun ⟨_, g2, g3, g4⟩ => by first | exact Bool.noConfusion (hb1.symm.trans g2) | exact absurd g4 hz | (have g3 : zs.2.2 = [] := g3; rw [g3] at lQ9; simp at lQ9; omega)))
   rw [q1, q2]
   exact ⟨_, rfl, hE, _, _, rfl, Nat.le_refl _, WRow.nil⟩
  refine RS.nm ?_
  have hr := c79
  refine RS.wt 115 ?_
  refine RS.o (D.loadAgg rfl Tryz.underlying33 rfl C33 (by decide) rfl (B14.cellsN 11 rfl)) ?_
  refine RS.wt 115 ?_
  refine RS.call E46 (checkO (⟨zh, za, zl, zt, zk, (⟨0, 0, 0, zq.1, .empty⟩, zq.2.1, zq.2.2), ze, zs, eh, ea, el, et, ek, (by rw [ezq]; exact S.actB_key zk.2.1 zk.2.2 hk1 hk4), ee, es⟩ : S.Steps bs).op hsb.1 _ _ _ DL hcL) rfl (fun v83 w83 x83 A83 => ?_)
  replace hE := Ext.tr hE x83
  replace B2 := B2.ext x83
  replace B4 := B4.ext x83
  replace B14 := B14.ext x83
  replace DL := DL.ext x83
  replace OKs := OKs.ext x83
  replace Q9 := Q9.ext x83
  have zw83 := x83.size
  subst A83
  refine RS.nm ?_
  refine RS.wt 115 ?_
  refine RS.o (D.ne rfl rfl) ?_
  refine RS.pick (v := .bool _) rfl rfl ?_
  refine nl hK74 ?_
  refine C.ifn rfl (fun c84 => ?_) (fun c84 => ?_)
  ·have hz := c84
   refine sq fun K85 hK85 => ?_
   refine RS.move (v := .func _ _ _) rfl ?_
   refine RS.callv E39 (decFail _) rfl rfl (fun e86 w86 A86 => ?_)
   obtain ⟨v86, rfl, x86, A86⟩ := A86
   refine ⟨_, rfl, ?_⟩
   replace hE := Ext.tr hE x86
   replace B2 := B2.ext x86
   replace B4 := B4.ext x86
   replace B14 := B14.ext x86
   replace DL := DL.ext x86
   replace OKs := OKs.ext x86
   replace Q9 := Q9.ext x86
   have zw86 := x86.size
   subst A86
   refine RS.nm ?_
   refine RS.extract (v := .agg _) rfl rfl ?_
   refine RS.extract (v := .int _ _) rfl rfl ?_
   refine RS.storeAggB rfl rfl C33 (by decide) rfl rfl B2 rfl (fun w87 y87 N87 => ?_)
   replace hE := hE.trans (y87.belo)
   replace B4 := B4.sto y87
   replace B14 := B14.sto y87
   replace DL := DL.sto y87
   replace OKs := OKs.st y87 (by intros; try (first | (intro _ _) | (intro _) | skip); first | omega | (have hq := hOK _ (by assumption); first | omega | (dsimp only at *; omega)))
   replace Q9 := Q9.sto y87
   have zw87 := y87.size
   replace B2 := N87
   refine RS.asI rfl ?_
   refine nl hK85 ?_
   refine wp_ret ?_
   refine ret (rs := [.cell 2 33, .tmp 3]) (vs := [.agg _, .int _ _]) (v := (.tuple #[.agg _, .int _ _])) rfl ⟨⟨_, rfl, loadVar_agg Tryz.underlying33 rfl C33 (by decide) rfl (B2.cellsN 11 rfl)⟩, rfl, trivial⟩ rfl ?_
   obtain ⟨q1, q2⟩ := S.dec_none (S.Steps.none hbd (⟨zh, za, zl, zt, zk, (⟨0, 0, 0, zq.1, .empty⟩, zq.2.1, zq.2.2), ze, zs, eh, ea, el, et, ek, (by rw [ezq]; exact S.actB_key zk.2.1 zk.2.2 hk1 hk4), ee, es⟩ : S.Steps bs) (fun ⟨_, g2, g3, g4⟩ => by first | exact Bool.noConfusion (hb1.symm.trans g2) | exact absurd g4 hz | (have g3 : zs.2.2 = [] := g3; rw [g3] at lQ9; simp at lQ9; omega)))
   rw [q1, q2]
   exact ⟨_, rfl, hE, _, _, rfl, Nat.le_refl _, WRow.nil⟩
  have hz := c84
  refine wp_skip ?_
  refine hK73 _ _ ?_
  refine sq fun K88 hK88 => ?_
  refine RS.o (D.loadAgg rfl Tryz.underlying33 rfl C33 (by decide) rfl (B14.cellsN 11 rfl)) ?_
  refine RS.storeAggB rfl rfl C33 (by decide) rfl rfl B2 rfl (fun w89 y89 N89 => ?_)
  replace hE := hE.trans (y89.belo)
  replace B4 := B4.sto y89
  replace B14 := B14.sto y89
  replace DL := DL.sto y89
  replace OKs := OKs.st y89 (by intros; try (first | (intro _ _) | (intro _) | skip); first | omega | (have hq := hOK _ (by assumption); first | omega | (dsimp only at *; omega)))
  replace Q9 := Q9.sto y89
  have zw89 := y89.size
  replace B2 := N89
  refine RS.asI rfl ?_
  refine nl hK88 ?_
  refine wp_ret ?_
  refine ret (rs := [.cell 2 33, .tmp 3]) (vs := [.agg _, .int _ _]) (v := (.tuple #[.agg _, .int _ _])) rfl ⟨⟨_, rfl, loadVar_agg Tryz.underlying33 rfl C33 (by decide) rfl (B2.cellsN 11 rfl)⟩, rfl, trivial⟩ rfl ?_
  obtain ⟨q1, q2⟩ := S.dec_some (S.Steps.good hbd (⟨zh, za, zl, zt, zk, (⟨0, 0, 0, zq.1, .empty⟩, zq.2.1, zq.2.2), ze, zs, eh, ea, el, et, ek, (by rw [ezq]; exact S.actB_key zk.2.1 zk.2.2 hk1 hk4), ee, es⟩ : S.Steps bs) (by show zh.1 = 111; exact hx1) hb0 (List.eq_nil_of_length_eq_zero (by show zs.2.2.length = 0; omega)) hz)
  rw [q1, q2]
  exact ⟨_, rfl, hE, _, _, rfl, hcL, DL.weaken (fun k _ h => by omega)⟩
 have hk1 := c30
 refine wp_skip ?_
 refine hK28 _ _ ?_
 refine wp_seq_k (fun K90 hK90 => ?_)
 refine sq fun K91 hK91 => ?_
 refine RS.o (D.fieldL 3 rfl Tryz.underlying33 rfl C29 (by decide) rfl) ?_
 refine RS.o (D.fieldL 3 rfl Tryz.underlying29 rfl C5 (by decide) rfl) ?_
 refine RS.o (D.load rfl Tryz.underlying5 rfl (B14.cell rfl)) ?_
 refine RS.o (D.eq rfl rfl) ?_
 refine nl hK91 ?_
 refine C.ife rfl (fun c92 => ?_) (fun c92 => ?_)
 ·have hk4 := c92
  exfalso; omega
 have hk4 := c92
 refine wp_skip ?_
 refine hK90 _ _ ?_
 refine sq fun K93 hK93 => ?_
 refine RS.mvP rfl ?_
 refine RS.callx E41 (rNumber _ w.heap.size _ (by omega) _ _ _ _ _ 500000003 (by decide) _ B4 Q5 hc5 (by omega)) rfl (fun e94 w94 A94 => ?_)
 obtain ⟨rfl, X94, a8, n8, c8, N94, hc8, hn8, Q8⟩ := A94
 refine ⟨_, rfl, ?_⟩
 refine RS.nm ?_
 replace hE := hE.trans (X94.belo)
 replace B2 := B2.pro X94
 replace B14 := B14.pro X94
 replace DL := DL.pro X94
 replace Q5 := Q5.pro X94
 have zw94 := X94.size
 replace B4 := N94
 obtain ⟨ze, ee⟩ : ∃ z, z = S.numB 500000003 zk.2.1 zk.2.2 := ⟨_, rfl⟩
 rw [← ee] at B4 Q8 ⊢
 have lQ8 := Q8.len
 have bQ8 := Q8.bd
 refine RS.o (D.conv rfl Tryz.underlying25 Tryz.underlying23 (W.u32m _)) ?_
 refine RS.mvP rfl ?_
 refine RS.callx E41 (rNumber _ w.heap.size _ (by omega) _ _ _ _ _ 500000003 (by decide) _ B4 Q8 hc8 (by omega)) rfl (fun e95 w95 A95 => ?_)
 obtain ⟨rfl, X95, a9, n9, c9, N95, hc9, hn9, Q9⟩ := A95
 refine ⟨_, rfl, ?_⟩
 refine RS.nm ?_
 replace hE := hE.trans (X95.belo)
 replace B2 := B2.pro X95
 replace B14 := B14.pro X95
 replace DL := DL.pro X95
 replace Q8 := Q8.pro X95
 have zw95 := X95.size
 replace B4 := N95
 obtain ⟨zs, es⟩ : ∃ z, z = S.numB 500000003 ze.2.1 ze.2.2 := ⟨_, rfl⟩
 rw [← es] at B4 Q9 ⊢
 have lQ9 := Q9.len
 have bQ9 := Q9.bd
 refine RS.o (D.conv rfl Tryz.underlying25 Tryz.underlying23 (W.u32m _)) ?_
 refine RS.o (D.fieldL 9 rfl Tryz.underlying33 rfl C31 (by decide) rfl) ?_
 refine RS.o (D.fieldL 9 rfl Tryz.underlying31 rfl C23 (by decide) rfl) ?_
 refine RS.store rfl (v := .int _ _) rfl C23 rfl B14 rfl (fun w96 y96 N96 => ?_)
 replace hE := hE.trans (y96.belo)
 replace B2 := B2.sto y96
 replace B4 := B4.sto y96
 replace DL := DL.sto y96
 replace Q9 := Q9.sto y96
 have zw96 := y96.size
 replace B14 := N96
 refine RS.o (D.fieldL 9 rfl Tryz.underlying33 rfl C31 (by decide) rfl) ?_
 refine RS.o (D.fieldL 10 rfl Tryz.underlying31 rfl C23 (by decide) rfl) ?_
 refine RS.store rfl (v := .int _ _) rfl C23 rfl B14 rfl (fun w97 y97 N97 => ?_)
 replace hE := hE.trans (y97.belo)
 replace B2 := B2.sto y97
 replace B4 := B4.sto y97
 replace DL := DL.sto y97
 replace Q9 := Q9.sto y97
 have zw97 := y97.size
 replace B14 := N97
 refine nl hK93 ?_
 refine wp_seq_k (fun K98 hK98 => ?_)
 refine wp_seq_k (fun K99 hK99 => ?_)
 have hsb := S.Steps.ok hbd (⟨zh, za, zl, zt, zk, (⟨0, 0, 0, .empty, .empty⟩, zk.2.1, zk.2.2), ze, zs, eh, ea, el, et, ek, (S.actB_none zk.2.1 zk.2.2 hk1), ee, es⟩ : S.Steps bs)
 refine region ?_
 refine RS.mvP rfl ?_
 refine RS.nilCheck rfl ?_
 refine RS.o (D.fieldL 1 rfl Tryz.underlying78 rfl C4 (by decide) rfl) ?_
 refine RS.o (D.load rfl Tryz.underlying4 rfl (B4.cell rfl)) ?_
 refine RS.mvB rfl ?_
 refine RS.splitb 107 rfl rfl (fun c100 => ?_) (fun c100 => ?_)
 ·refine RS.nm ?_
  have hb1 := c100
  refine RS.skT 107 ?_
  refine RS.skT 107 ?_
  refine RS.skT 107 ?_
  refine RS.skT 107 ?_
  refine RS.skT 107 ?_
  refine RS.skT 107 ?_
  refine RS.pick (v := .bool true) rfl rfl ?_
  refine RS.mvB rfl ?_
  refine RS.skT 115 ?_
  refine RS.skT 115 ?_
  refine RS.skT 115 ?_
  refine RS.pick (v := .bool true) rfl rfl ?_
  refine nl hK99 ?_
  refine C.ift rfl ?_
  refine sq fun K101 hK101 => ?_
  refine RS.move (v := .func _ _ _) rfl ?_
  refine RS.callv E39 (decFail _) rfl rfl (fun e102 w102 A102 => ?_)
  obtain ⟨v102, rfl, x102, A102⟩ := A102
  refine ⟨_, rfl, ?_⟩
  replace hE := Ext.tr hE x102
  replace B2 := B2.ext x102
  replace B4 := B4.ext x102
  replace B14 := B14.ext x102
  replace DL := DL.ext x102
  replace Q9 := Q9.ext x102
  have zw102 := x102.size
  subst A102
  refine RS.nm ?_
  refine RS.extract (v := .agg _) rfl rfl ?_
  refine RS.extract (v := .int _ _) rfl rfl ?_
  refine RS.storeAggB rfl rfl C33 (by decide) rfl rfl B2 rfl (fun w103 y103 N103 => ?_)
  replace hE := hE.trans (y103.belo)
  replace B4 := B4.sto y103
  replace B14 := B14.sto y103
  replace DL := DL.sto y103
  replace Q9 := Q9.sto y103
  have zw103 := y103.size
  replace B2 := N103
  refine RS.asI rfl ?_
  refine nl hK101 ?_
  refine wp_ret ?_
  refine ret (rs := [.cell 2 33, .tmp 3]) (vs := [.agg _, .int _ _]) (v := (.tuple #[.agg _, .int _ _])) rfl ⟨⟨_, rfl, loadVar_agg Tryz.underlying33 rfl C33 (by decide) rfl (B2.cellsN 11 rfl)⟩, rfl, trivial⟩ rfl ?_
  obtain ⟨q1, q2⟩ := S.dec_none (S.Steps.none hbd (⟨zh, za, zl, zt, zk, (⟨0, 0, 0, .empty, .empty⟩, zk.2.1, zk.2.2), ze, zs, eh, ea, el, et, ek, (S.actB_none zk.2.1 zk.2.2 hk1), ee, es⟩ : S.Steps bs) (fun ⟨_, g2, g3, g4⟩ => by first | exact Bool.noConfusion (hb1.symm.trans g2) | exact absurd g4 hz | (have g3 : zs.2.2 = [] := g3; rw [g3] at lQ9; simp at lQ9; omega)))
  rw [q1, q2]
  exact ⟨_, rfl, hE, _, _, rfl, Nat.le_refl _, WRow.nil⟩
 refine RS.nm ?_
 have hb0 := c100
 refine RS.wt 107 ?_
 refine RS.mvP rfl ?_
 refine RS.wt 107 ?_
 refine RS.nilCheck rfl ?_
 refine RS.wt 107 ?_
 refine RS.o (D.fieldL 0 rfl Tryz.underlying78 rfl C22 (by decide) rfl) ?_
 refine RS.wt 107 ?_
 refine RS.o (D.load rfl Tryz.underlying22 rfl (B4.cell rfl)) ?_
 refine RS.wt 107 ?_
 refine RS.o (D.len rfl Tryz.underlying22) ?_
 refine RS.wt 107 ?_
 refine RS.o (D.gt rfl rfl) ?_
 refine RS.pick (v := .bool _) rfl rfl ?_
 refine RS.mvB rfl ?_
 refine RS.splitd 115 rfl rfl (fun c104 => ?_) (fun c104 => ?_)
 ·refine RS.nm ?_
  have hr := c104
  refine RS.skT 115 ?_
  refine RS.skT 115 ?_
  refine RS.skT 115 ?_
  refine RS.pick (v := .bool true) rfl rfl ?_
  refine nl hK99 ?_
  refine C.ift rfl ?_
  refine sq fun K105 hK105 => ?_
  refine RS.move (v := .func _ _ _) rfl ?_
  refine RS.callv E39 (decFail _) rfl rfl (fun e106 w106 A106 => ?_)
  obtain ⟨v106, rfl, x106, A106⟩ := A106
  refine ⟨_, rfl, ?_⟩
  replace hE := Ext.tr hE x106
  replace B2 := B2.ext x106
  replace B4 := B4.ext x106
  replace B14 := B14.ext x106
  replace DL := DL.ext x106
  replace Q9 := Q9.ext x106
  have zw106 := x106.size
  subst A106
  refine RS.nm ?_
  refine RS.extract (v := .agg _) rfl rfl ?_
  refine RS.extract (v := .int _ _) rfl rfl ?_
  refine RS.storeAggB rfl rfl C33 (by decide) rfl rfl B2 rfl (fun w107 y107 N107 => ?_)
  replace hE := hE.trans (y107.belo)
  replace B4 := B4.sto y107
  replace B14 := B14.sto y107
  replace DL := DL.sto y107
  replace Q9 := Q9.sto y107
  have zw107 := y107.size
  replace B2 := N107
  refine RS.asI rfl ?_
  refine nl hK105 ?_
  refine wp_ret ?_
  refine ret (rs := [.cell 2 33, .tmp 3]) (vs := [.agg _, .int _ _]) (v := (.tuple #[.agg _, .int _ _])) rfl ⟨⟨_, rfl, loadVar_agg Tryz.underlying33 rfl C33 (by decide) rfl (B2.cellsN 11 rfl)⟩, rfl, trivial⟩ rfl ?_
  obtain ⟨q1, q2⟩ := S.dec_none (S.Steps.none hbd (⟨zh, za, zl, zt, zk, (⟨0, 0, 0, .empty, .empty⟩, zk.2.1, zk.2.2), ze, zs, eh, ea, el, et, ek, (S.actB_none zk.2.1 zk.2.2 hk1), ee, es⟩ : S.Steps bs) (fun ⟨_, g2, g3, g4⟩ => by first | exact Bool.noConfusion (hb1.symm.trans g2) | exact absurd g4 hz | (have g3 : zs.2.2 = [] := g3; rw [g3] at lQ9; simp at lQ9; omega)))
  rw [q1, q2]
  exact ⟨_, rfl, hE, _, _, rfl, Nat.le_refl _, WRow.nil⟩
 refine RS.nm ?_
 have hr := c104
 refine RS.wt 115 ?_
 refine RS.o (D.loadAgg rfl Tryz.underlying33 rfl C33 (by decide) rfl (B14.cellsN 11 rfl)) ?_
 refine RS.wt 115 ?_
 refine RS.call E46 (checkO (⟨zh, za, zl, zt, zk, (⟨0, 0, 0, .empty, .empty⟩, zk.2.1, zk.2.2), ze, zs, eh, ea, el, et, ek, (S.actB_none zk.2.1 zk.2.2 hk1), ee, es⟩ : S.Steps bs).op hsb.1 _ _ _ DL hcL) rfl (fun v108 w108 x108 A108 => ?_)
 replace hE := Ext.tr hE x108
 replace B2 := B2.ext x108
 replace B4 := B4.ext x108
 replace B14 := B14.ext x108
 replace DL := DL.ext x108
 replace Q9 := Q9.ext x108
 have zw108 := x108.size
 subst A108
 refine RS.nm ?_
 refine RS.wt 115 ?_
 refine RS.o (D.ne rfl rfl) ?_
 refine RS.pick (v := .bool _) rfl rfl ?_
 refine nl hK99 ?_
 refine C.ifn rfl (fun c109 => ?_) (fun c109 => ?_)
 ·have hz := c109
  refine sq fun K110 hK110 => ?_
  refine RS.move (v := .func _ _ _) rfl ?_
  refine RS.callv E39 (decFail _) rfl rfl (fun e111 w111 A111 => ?_)
  obtain ⟨v111, rfl, x111, A111⟩ := A111
  refine ⟨_, rfl, ?_⟩
  replace hE := Ext.tr hE x111
  replace B2 := B2.ext x111
  replace B4 := B4.ext x111
  replace B14 := B14.ext x111
  replace DL := DL.ext x111
  replace Q9 := Q9.ext x111
  have zw111 := x111.size
  subst A111
  refine RS.nm ?_
  refine RS.extract (v := .agg _) rfl rfl ?_
  refine RS.extract (v := .int _ _) rfl rfl ?_
  refine RS.storeAggB rfl rfl C33 (by decide) rfl rfl B2 rfl (fun w112 y112 N112 => ?_)
  replace hE := hE.trans (y112.belo)
  replace B4 := B4.sto y112
  replace B14 := B14.sto y112
  replace DL := DL.sto y112
  replace Q9 := Q9.sto y112
  have zw112 := y112.size
  replace B2 := N112
  refine RS.asI rfl ?_
  refine nl hK110 ?_
  refine wp_ret ?_
  refine ret (rs := [.cell 2 33, .tmp 3]) (vs := [.agg _, .int _ _]) (v := (.tuple #[.agg _, .int _ _])) rfl ⟨⟨_, rfl, loadVar_agg Tryz.underlying33 rfl C33 (by decide) rfl (B2.cellsN 11 rfl)⟩, rfl, trivial⟩ rfl ?_
  obtain ⟨q1, q2⟩ := S.dec_none (S.Steps.none hbd (⟨zh, za, zl, zt, zk, (⟨0, 0, 0, .empty, .empty⟩, zk.2.1, zk.2.2), ze, zs, eh, ea, el, et, ek, (S.actB_none zk.2.1 zk.2.2 hk1), ee, es⟩ : S.Steps bs) (fun ⟨_, g2, g3, g4⟩ => by first | exact Bool.noConfusion (hb1.symm.trans g2) | exact absurd g4 hz | (have g3 : zs.2.2 = [] := g3; rw [g3] at lQ9; simp at lQ9; omega)))
  rw [q1, q2]
  exact ⟨_, rfl, hE, _, _, rfl, Nat.le_refl _, WRow.nil⟩
 have hz := c109
 refine wp_skip ?_
 refine hK98 _ _ ?_
 refine sq fun K113 hK113 => ?_
 refine RS.o (D.loadAgg rfl Tryz.underlying33 rfl C33 (by decide) rfl (B14.cellsN 11 rfl)) ?_
 refine RS.storeAggB rfl rfl C33 (by decide) rfl rfl B2 rfl (fun w114 y114 N114 => ?_)
 replace hE := hE.trans (y114.belo)
 replace B4 := B4.sto y114
 replace B14 := B14.sto y114
 replace DL := DL.sto y114
 replace Q9 := Q9.sto y114
 have zw114 := y114.size
 replace B2 := N114
 refine RS.asI rfl ?_
 refine nl hK113 ?_
 refine wp_ret ?_
 refine ret (rs := [.cell 2 33, .tmp 3]) (vs := [.agg _, .int _ _]) (v := (.tuple #[.agg _, .int _ _])) rfl ⟨⟨_, rfl, loadVar_agg Tryz.underlying33 rfl C33 (by decide) rfl (B2.cellsN 11 rfl)⟩, rfl, trivial⟩ rfl ?_
 obtain ⟨q1, q2⟩ := S.dec_some (S.Steps.good hbd (⟨zh, za, zl, zt, zk, (⟨0, 0, 0, .empty, .empty⟩, zk.2.1, zk.2.2), ze, zs, eh, ea, el, et, ek, (S.actB_none zk.2.1 zk.2.2 hk1), ee, es⟩ : S.Steps bs) (by show zh.1 = 111; exact hx1) hb0 (List.eq_nil_of_length_eq_zero (by show zs.2.2.length = 0; omega)) hz)
 rw [q1, q2]
 exact ⟨_, rfl, hE, _, _, rfl, hcL, DL.weaken (fun k _ h => by omega)⟩
end Go.Proofs.YtiohpiiiapjblaaGreatDoor.W
namespace Go.Proofs.YtiohpiiiapjblaaGreatDoor.S
open G
/-- The verdict on bytes. -/
def jdV (b : List Int) : Int := if 400 < b.length then 3 else if decE b = 0 then (if verE (decO b) = 0 then 0 else 4) else 2
def jdO (b : List Int) : OpV := if jdV b = 0 then decO b else OpV.zero
def jdI (b : List Int) : List Int := if jdV b = 0 then sha (encS (decO b)) else List.replicate 32 0
theorem jd_long {b : List Int} (h : 400 < b.length) : jdV b = 3 := by unfold jdV; rw [if_pos h]
theorem jd_form {b : List Int} (h : ¬ 400 < b.length) (hd : decE b ≠ 0) : jdV b = 2 := by unfold jdV; rw [if_neg h, if_neg hd]
theorem jd_sig {b : List Int} (h : ¬ 400 < b.length) (hd : decE b = 0) (hv : verE (decO b) ≠ 0) : jdV b = 4 := by unfold jdV; rw [if_neg h, if_pos hd, if_neg hv]
theorem jd_fine {b : List Int} (h : ¬ 400 < b.length) (hd : decE b = 0) (hv : verE (decO b) = 0) : jdV b = 0 := by unfold jdV; rw [if_neg h, if_pos hd, if_pos hv]
theorem jd_ne {b : List Int} (h : jdV b ≠ 0) : jdO b = OpV.zero ∧ jdI b = List.replicate 32 0 := by unfold jdO jdI; rw [if_neg h, if_neg h]; exact ⟨rfl, rfl⟩
theorem jd_zero {b : List Int} (h : jdV b = 0) : jdO b = decO b ∧ jdI b = sha (encS (decO b)) := by unfold jdO jdI; rw [if_pos h, if_pos h]; exact ⟨rfl, rfl⟩
theorem jdI_arr (b : List Int) : Arr .u8 32 (jdI b) := by
  unfold jdI
  split
  · exact sha_arr _
  · exact Arr.zeros .u8 32
theorem jd_bd (b : List Int) : 0 ≤ jdV b ∧ jdV b ≤ 4 ∧ jdV b ≠ 1 := by
  unfold jdV
  repeat' split
  all_goals decide
/-- What is read is an operation. -/
theorem decO_ok {b : List Int} (hB : Bd .u8 b) : (decO b).ok ∧ (decO b).ids.length = 32 * (decO b).n := by
  by_cases h : decE b = 0
  · obtain ⟨q1, q2, q3, _⟩ := dec_inv hB (dec_zero h)
    obtain ⟨c1, _, c3⟩ := check_zero.1 q3
    have hf : (decO b).key.size ≤ 100 ∧ (decO b).t.size ≤ 100 := by
      rcases c3.2.2.2.2 with ⟨_, h1, _, _, _, h2⟩ | ⟨_, hK, _, _, _, h2⟩ | ⟨_, hK, hV⟩
      · rw [h1, h2]; exact ⟨by decide, by decide⟩
      · rw [h2]; exact ⟨by have := hK.2.1; omega, by decide⟩
      · refine ⟨by have := hK.2.1; omega, ?_⟩
        rcases hV with ⟨_, _, h2⟩ | ⟨_, _, h2, _⟩ | ⟨_, _, _, h2, _⟩
        · rw [h2]; decide
        · rw [h2]; decide
        · omega
    exact ⟨q1.ok (by omega), q2⟩
  · have e := (dec_ne h).1
    have : decO b = OpV.zero := by unfold decO; rw [e]; rfl
    rw [this]
    exact ⟨OpV.zero_ok, rfl⟩
theorem dec_good {b : List Int} (hB : Bd .u8 b) (h : decE b = 0) : checkE (decO b) = 0 ∧ encS (decO b) = b := by
  obtain ⟨_, _, q3, q4⟩ := dec_inv hB (dec_zero h)
  exact ⟨q3, q4.symm⟩
theorem OpV.ok.rng {o : OpV} (h : o.ok) : o.rng := ⟨h.au, h.st, h.k, h.vk, h.num, h.bits, h.e, h.s⟩
theorem map_getD {α : Type} (f : α → Int) (l : List α) (d : α) (i : Nat) (h : i < l.length) : (l.map f).getD i 0 = f (l.getD i d) := by
  simp [List.getD_eq_getElem?_getD, List.getElem?_eq_getElem h]
/-- How often each verdict stands in a list. -/
def cntS (vs : List Int) : List Int := (List.range 10).map fun (i : Nat) => ((vs.filter fun v => v == (i : Int)).length : Int)
theorem cnt_len (vs : List Int) : (cntS vs).length = 10 := by simp [cntS]
theorem cnt_get (vs : List Int) (i : Nat) (h : i < 10) : (cntS vs).getD i 0 = ((vs.filter fun v => v == (i : Int)).length : Int) := by
  simp only [cntS, List.getD_eq_getElem?_getD, List.getElem?_map, List.getElem?_range h, Option.map_some, Option.getD_some]
theorem cnt_bd (vs : List Int) (i : Nat) (h : i < 10) : 0 ≤ (cntS vs).getD i 0 ∧ (cntS vs).getD i 0 ≤ vs.length := by
  rw [cnt_get vs i h]
  have := List.length_filter_le (fun v => v == (i : Int)) vs
  omega
theorem cnt_arr (vs : List Int) (h : vs.length ≤ 1000000) : Arr .i64 10 (cntS vs) := by
  refine ⟨cnt_len vs, ?_⟩
  intro x hx
  obtain ⟨i, hi, rfl⟩ := List.mem_map.1 hx
  have := List.length_filter_le (fun v => v == (i : Int)) vs
  simp only [lim]
  omega
theorem cnt_nil : cntS [] = List.replicate 10 0 := rfl
theorem cnt_ext {a b : List Int} (ha : a.length = 10) (hb : b.length = 10) (h : ∀ i, i < 10 → a.getD i 0 = b.getD i 0) : a = b := by
  apply List.ext_getElem (by omega)
  intro i h1 h2
  have := h i (by omega)
  rwa [List.getD_eq_getElem?_getD, List.getElem?_eq_getElem h1, List.getD_eq_getElem?_getD, List.getElem?_eq_getElem h2] at this
theorem set_getD (l : List Int) (j : Nat) (v : Int) (i : Nat) (hj : j < l.length) : (l.set j v).getD i 0 = if i = j then v else l.getD i 0 := by
  rw [List.getD_eq_getElem?_getD, List.getElem?_set]
  by_cases h : j = i
  · subst h; simp [hj]
  · rw [if_neg h, if_neg (fun e => h e.symm), List.getD_eq_getElem?_getD]
theorem cnt_snoc (l : List Int) (x : Int) (hx : 0 ≤ x ∧ x < 10) : (cntS l).set x.toNat ((cntS l).getD x.toNat 0 + 1) = cntS (l ++ [x]) := by
  refine cnt_ext (by rw [List.length_set, cnt_len]) (cnt_len _) (fun i hi => ?_)
  rw [set_getD _ _ _ _ (by rw [cnt_len]; omega), cnt_get (l ++ [x]) i hi, List.filter_append, List.length_append, cnt_get l i hi]
  by_cases h : i = x.toNat
  · have hxi : (x == (i : Int)) = true := by simp; omega
    rw [if_pos h, ← h, cnt_get l i hi]
    simp [hxi]
  · have hxi : (x == (i : Int)) = false := by simp; omega
    rw [if_neg h]
    simp [hxi]
end Go.Proofs.YtiohpiiiapjblaaGreatDoor.S
namespace Go.Proofs.YtiohpiiiapjblaaGreatDoor.W
open Go.RowKit Go.Proofs.YtiohpiiiapjblaaGreatDoor.G
set_option linter.unusedVariables false
set_option maxRecDepth 20000
set_option maxHeartbeats 8000000
attribute [local irreducible] RS RX
theorem C48 : Tryz.prog.cellsOf 48 = 10 := by kernel_rfl
theorem T48 : TI Tryz.prog 48 10 80 (ints .i64 (List.replicate 10 0)) := by
 have h : (Tryz.prog.info? 48).map (fun i => (i.size, i.bytes, i.zero)) = some (10, 80, some (.agg #[.int .i64 0, .int .i64 0, .int .i64 0, .int .i64 0, .int .i64 0, .int .i64 0, .int .i64 0, .int .i64 0, .int .i64 0, .int .i64 0])) := by kernel_rfl
 exact TI.of h rfl
theorem E8 : Enters Tryz.prog 8 := .mk Tryz.func8 (by kernel_rfl) rfl
theorem E14 : Enters Tryz.prog 14 := .mk Tryz.func14 (by kernel_rfl) rfl
theorem E21 : Enters Tryz.prog 21 := .mk Tryz.func21 (by kernel_rfl) rfl
theorem E30 : Enters Tryz.prog 30 := .mk Tryz.func30 (by kernel_rfl) rfl
theorem E38 : Enters Tryz.prog 38 := .mk Tryz.func38 (by kernel_rfl) rfl
theorem judgeOf {S0 : Nat → Prop} (a : Option Addr) (n c : Nat) (bs : List Int) (TK : TypeId) (w : World) (K0 : Kst w TK) (R0 : IRow .u8 S0 w a n bs) (hc : n ≤ c) (hn : n ≤ 1000000) :
  Calls Tryz.prog 8 #[.slice a n c] w (Ret w fun v w' => ∃ a' c', v = .tuple #[.agg ([.int .u32 (S.jdO bs).au, .slice a' (S.jdO bs).n c', .int .u64 (S.jdO bs).st, .int .u8 (S.jdO bs).k, .string (S.jdO bs).key, .int .u8 (S.jdO bs).vk, .int .i64 (S.jdO bs).num, .int .u64 (S.jdO bs).bits, .string (S.jdO bs).t, .int .u32 (S.jdO bs).e, .int .u32 (S.jdO bs).s] : List Value).toArray, .agg (ints .u8 (S.jdI bs)).toArray, .int .u8 (S.jdV bs)] ∧ (S.jdO bs).n ≤ c' ∧ WRow .u8 32 (fun k => w.heap.size ≤ k) w' a' (S.jdO bs).n (S.jdO bs).ids) := by
 replace R0 := R0.weaken (T := fun k => k < w.heap.size) (fun k hk _ => hk)
 have hbl := R0.len
 have hbd := R0.bd
 have hKl := K0.lt
 have hE := Ext.refl w
 refine enterU 32 Tryz.func8 rfl rfl ?_
 refine sq fun K1 hK1 => ?_
 refine RS.alloc T33 (fun b2 w2 e2 s2 x2 B2 => ?_)
 refine RS.nm ?_
 replace hE := Ext.tr hE x2
 replace K0 := K0.ext x2
 replace R0 := R0.ext x2
 have zw2 := x2.size
 refine RS.alloc T35 (fun b3 w3 e3 s3 x3 B3 => ?_)
 refine RS.nm ?_
 replace hE := Ext.tr hE x3
 replace K0 := K0.ext x3
 replace R0 := R0.ext x3
 replace B2 := B2.ext x3
 have zw3 := x3.size
 have A3 : IArr .u8 w3 b3 32 (List.replicate 32 0) [] 35 := IArr.zero B3
 clear B3
 refine RS.asI rfl ?_
 refine nl hK1 ?_
 refine wp_seq_k (fun K4 hK4 => ?_)
 refine sq fun K5 hK5 => ?_
 refine RS.mvS rfl ?_
 refine RS.o (D.len rfl Tryz.underlying22) ?_
 refine RS.o (D.gt rfl rfl) ?_
 refine nl hK5 ?_
 refine C.ifd rfl (fun c6 => ?_) (fun c6 => ?_)
 ·have hg := c6
  have hv := S.jd_long (b := bs) (by omega)
  refine wp_seq_k (fun K7 hK7 => ?_)
  refine regionX (Pr (fun k => k = b2)) [(1, .q), (0, .e), (2, .e), (3, .g), (4, .q)] mixed (fun w => Pr.refl _ _) (fun h k => Pr.tr h k) (by kernel_rfl) (fun w8 x8 => ?_)
  replace hE := Ext.tr hE x8
  replace K0 := K0.ext x8
  replace R0 := R0.ext x8
  replace B2 := B2.ext x8
  replace A3 := A3.ext x8
  have zw8 := x8.size
  refine RX.o (fun w' hw => D.loadAgg rfl Tryz.underlying35 rfl C35 (by decide) (by rw [ints_length, A3.len]) (A3.pr hw (by intros; try (first | (intro _ _) | (intro _) | skip); first | omega | (dsimp only at *; omega) | (simp_all; done) | (simp at *; omega))).cells) ?_
  refine RX.eff ?_
  refine RS.o (D.loadAgg rfl Tryz.underlying33 rfl C33 (by decide) rfl (B2.cellsN 11 rfl)) ?_
  refine RS.nil ⟨(Pr.refl _ _), ?_⟩
  refine RX.eff ?_
  refine RS.storeAggB rfl rfl C33 (by decide) rfl rfl B2 rfl (fun w9 y9 N9 => ?_)
  replace hE := hE.trans (y9.belo)
  replace K0 := K0.sto y9
  replace R0 := R0.sto y9
  replace A3 := A3.sto y9
  have zw9 := y9.size
  replace B2 := N9
  refine RS.nil ⟨((Pr.refl _ _).sto y9), ?_⟩
  refine RX.big ?_
  refine RS.storeArr A3 rfl rfl C35 (by decide) (Arr.zeros .u8 32).1 (Arr.zeros .u8 32).2 (fun w10 y10 N10 => ?_)
  replace hE := hE.trans (y10.belo)
  replace K0 := K0.sto y10
  replace R0 := R0.sto y10
  replace B2 := B2.sto y10
  have zw10 := y10.size
  replace A3 := N10
  refine RS.nil ?_
  refine RX.assign (v := .int .u8 3) rfl ?_
  refine RX.nil (hK7 _ _ ?_)
  refine wp_ret ?_
  refine ret (rs := [.cell 2 33, .cell 3 35, .tmp 4]) (vs := [.agg _, .agg _, .int _ _]) (v := (.tuple #[.agg _, .agg _, .int _ _])) rfl ⟨⟨_, rfl, loadVar_agg Tryz.underlying33 rfl C33 (by decide) rfl (B2.cellsN 11 rfl)⟩, ⟨_, rfl, loadVar_agg Tryz.underlying35 rfl C35 (by decide) (by rw [ints_length, A3.len]) A3.cells⟩, rfl, trivial⟩ rfl ?_
  obtain ⟨e1, e2⟩ := S.jd_ne (b := bs) (by rw [hv]; decide)
  rw [e1, e2, hv]
  exact ⟨_, rfl, hE, _, _, rfl, Nat.le_refl _, WRow.nil⟩
 have hg := c6
 refine wp_skip ?_
 refine hK4 _ _ ?_
 refine sq fun K11 hK11 => ?_
 refine RS.mvS rfl ?_
 refine RS.call E21 (decodeO _ _ _ _ _ R0 hc hn) rfl (fun v12 w12 x12 A12 => ?_)
 replace hE := Ext.tr hE x12
 replace K0 := K0.ext x12
 replace R0 := R0.ext x12
 replace B2 := B2.ext x12
 replace A3 := A3.ext x12
 have zw12 := x12.size
 obtain ⟨aD, cD, rfl, hcD, DD⟩ := A12
 obtain ⟨hok, hdl⟩ := S.decO_ok hbd
 replace DD := DD.weaken (T := fun k => b3 < k ∧ k < w12.heap.size) (fun k hk h => by omega)
 refine RS.nm ?_
 refine RS.move (v := .tuple _) rfl ?_
 refine RS.extract (v := .agg _) rfl rfl ?_
 refine RS.extract (v := .int _ _) rfl rfl ?_
 refine RS.alloc T33 (fun b13 w13 e13 s13 x13 B13 => ?_)
 refine RS.nm ?_
 replace hE := Ext.tr hE x13
 replace K0 := K0.ext x13
 replace R0 := R0.ext x13
 replace B2 := B2.ext x13
 replace A3 := A3.ext x13
 replace DD := DD.ext x13
 have zw13 := x13.size
 refine RS.storeAggB rfl rfl C33 (by decide) rfl rfl B13 rfl (fun w14 y14 N14 => ?_)
 replace hE := hE.trans (y14.belo)
 replace K0 := K0.sto y14
 replace R0 := R0.sto y14
 replace B2 := B2.sto y14
 replace A3 := A3.sto y14
 replace DD := DD.sto y14
 have zw14 := y14.size
 replace B13 := N14
 refine RS.asI rfl ?_
 refine nl hK11 ?_
 refine wp_seq_k (fun K15 hK15 => ?_)
 refine sq fun K16 hK16 => ?_
 refine RS.mvI rfl ?_
 refine RS.o (D.ne rfl rfl) ?_
 refine nl hK16 ?_
 refine C.ifn rfl (fun c17 => ?_) (fun c17 => ?_)
 ·have hz := c17
  have hv := S.jd_form (b := bs) (by omega) hz
  refine wp_seq_k (fun K18 hK18 => ?_)
  refine regionX (Pr (fun k => k = b2)) [(1, .q), (0, .e), (2, .e), (3, .g), (4, .q)] mixed (fun w => Pr.refl _ _) (fun h k => Pr.tr h k) (by kernel_rfl) (fun w19 x19 => ?_)
  replace hE := Ext.tr hE x19
  replace K0 := K0.ext x19
  replace R0 := R0.ext x19
  replace B2 := B2.ext x19
  replace A3 := A3.ext x19
  replace DD := DD.ext x19
  replace B13 := B13.ext x19
  have zw19 := x19.size
  refine RX.o (fun w' hw => D.loadAgg rfl Tryz.underlying35 rfl C35 (by decide) (by rw [ints_length, A3.len]) (A3.pr hw (by intros; try (first | (intro _ _) | (intro _) | skip); first | omega | (dsimp only at *; omega) | (simp_all; done) | (simp at *; omega))).cells) ?_
  refine RX.eff ?_
  refine RS.o (D.loadAgg rfl Tryz.underlying33 rfl C33 (by decide) rfl (B2.cellsN 11 rfl)) ?_
  refine RS.nil ⟨(Pr.refl _ _), ?_⟩
  refine RX.eff ?_
  refine RS.storeAggB rfl rfl C33 (by decide) rfl rfl B2 rfl (fun w20 y20 N20 => ?_)
  replace hE := hE.trans (y20.belo)
  replace K0 := K0.sto y20
  replace R0 := R0.sto y20
  replace A3 := A3.sto y20
  replace DD := DD.sto y20
  replace B13 := B13.sto y20
  have zw20 := y20.size
  replace B2 := N20
  refine RS.nil ⟨((Pr.refl _ _).sto y20), ?_⟩
  refine RX.big ?_
  refine RS.storeArr A3 rfl rfl C35 (by decide) (Arr.zeros .u8 32).1 (Arr.zeros .u8 32).2 (fun w21 y21 N21 => ?_)
  replace hE := hE.trans (y21.belo)
  replace K0 := K0.sto y21
  replace R0 := R0.sto y21
  replace B2 := B2.sto y21
  replace DD := DD.sto y21
  replace B13 := B13.sto y21
  have zw21 := y21.size
  replace A3 := N21
  refine RS.nil ?_
  refine RX.assign (v := .int .u8 2) rfl ?_
  refine RX.nil (hK18 _ _ ?_)
  refine wp_ret ?_
  refine ret (rs := [.cell 2 33, .cell 3 35, .tmp 4]) (vs := [.agg _, .agg _, .int _ _]) (v := (.tuple #[.agg _, .agg _, .int _ _])) rfl ⟨⟨_, rfl, loadVar_agg Tryz.underlying33 rfl C33 (by decide) rfl (B2.cellsN 11 rfl)⟩, ⟨_, rfl, loadVar_agg Tryz.underlying35 rfl C35 (by decide) (by rw [ints_length, A3.len]) A3.cells⟩, rfl, trivial⟩ rfl ?_
  obtain ⟨e1, e2⟩ := S.jd_ne (b := bs) (by rw [hv]; decide)
  rw [e1, e2, hv]
  exact ⟨_, rfl, hE, _, _, rfl, Nat.le_refl _, WRow.nil⟩
 have hz := c17
 have hck := (S.dec_good hbd hz).1
 refine wp_skip ?_
 refine hK15 _ _ ?_
 refine wp_seq_k (fun K22 hK22 => ?_)
 refine sq fun K23 hK23 => ?_
 refine RS.o (D.loadAgg rfl Tryz.underlying33 rfl C33 (by decide) rfl (B13.cellsN 11 rfl)) ?_
 refine RS.call E25 (verifyO _ hok _ _ _ _ K0 DD hcD) rfl (fun v24 w24 x24 A24 => ?_)
 replace hE := Ext.tr hE x24
 replace K0 := K0.ext x24
 replace R0 := R0.ext x24
 replace B2 := B2.ext x24
 replace A3 := A3.ext x24
 replace DD := DD.ext x24
 replace B13 := B13.ext x24
 have zw24 := x24.size
 subst A24
 refine RS.nm ?_
 refine RS.o (D.ne rfl rfl) ?_
 refine nl hK23 ?_
 refine C.ifn rfl (fun c25 => ?_) (fun c25 => ?_)
 ·have hs := c25
  have hv := S.jd_sig (b := bs) (by omega) hz hs
  refine wp_seq_k (fun K26 hK26 => ?_)
  refine regionX (Pr (fun k => k = b2)) [(1, .q), (0, .e), (2, .e), (3, .g), (4, .q)] mixed (fun w => Pr.refl _ _) (fun h k => Pr.tr h k) (by kernel_rfl) (fun w27 x27 => ?_)
  replace hE := Ext.tr hE x27
  replace K0 := K0.ext x27
  replace R0 := R0.ext x27
  replace B2 := B2.ext x27
  replace A3 := A3.ext x27
  replace DD := DD.ext x27
  replace B13 := B13.ext x27
  have zw27 := x27.size
  refine RX.o (fun w' hw => D.loadAgg rfl Tryz.underlying35 rfl C35 (by decide) (by rw [ints_length, A3.len]) (A3.pr hw (by intros; try (first | (intro _ _) | (intro _) | skip); first | omega | (dsimp only at *; omega) | (simp_all; done) | (simp at *; omega))).cells) ?_
  refine RX.eff ?_
  refine RS.o (D.loadAgg rfl Tryz.underlying33 rfl C33 (by decide) rfl (B2.cellsN 11 rfl)) ?_
  refine RS.nil ⟨(Pr.refl _ _), ?_⟩
  refine RX.eff ?_
  refine RS.storeAggB rfl rfl C33 (by decide) rfl rfl B2 rfl (fun w28 y28 N28 => ?_)
  replace hE := hE.trans (y28.belo)
  replace K0 := K0.sto y28
  replace R0 := R0.sto y28
  replace A3 := A3.sto y28
  replace DD := DD.sto y28
  replace B13 := B13.sto y28
  have zw28 := y28.size
  replace B2 := N28
  refine RS.nil ⟨((Pr.refl _ _).sto y28), ?_⟩
  refine RX.big ?_
  refine RS.storeArr A3 rfl rfl C35 (by decide) (Arr.zeros .u8 32).1 (Arr.zeros .u8 32).2 (fun w29 y29 N29 => ?_)
  replace hE := hE.trans (y29.belo)
  replace K0 := K0.sto y29
  replace R0 := R0.sto y29
  replace B2 := B2.sto y29
  replace DD := DD.sto y29
  replace B13 := B13.sto y29
  have zw29 := y29.size
  replace A3 := N29
  refine RS.nil ?_
  refine RX.assign (v := .int .u8 4) rfl ?_
  refine RX.nil (hK26 _ _ ?_)
  refine wp_ret ?_
  refine ret (rs := [.cell 2 33, .cell 3 35, .tmp 4]) (vs := [.agg _, .agg _, .int _ _]) (v := (.tuple #[.agg _, .agg _, .int _ _])) rfl ⟨⟨_, rfl, loadVar_agg Tryz.underlying33 rfl C33 (by decide) rfl (B2.cellsN 11 rfl)⟩, ⟨_, rfl, loadVar_agg Tryz.underlying35 rfl C35 (by decide) (by rw [ints_length, A3.len]) A3.cells⟩, rfl, trivial⟩ rfl ?_
  obtain ⟨e1, e2⟩ := S.jd_ne (b := bs) (by rw [hv]; decide)
  rw [e1, e2, hv]
  exact ⟨_, rfl, hE, _, _, rfl, Nat.le_refl _, WRow.nil⟩
 have hs := c25
 have hv := S.jd_fine (b := bs) (by omega) hz hs
 obtain ⟨e1, e2⟩ := S.jd_zero hv
 have hsh := S.sha_arr (S.encS (S.decO bs))
 refine wp_skip ?_
 refine hK22 _ _ ?_
 refine sq fun K30 hK30 => ?_
 refine RS.o (D.loadAgg rfl Tryz.underlying33 rfl C33 (by decide) rfl (B13.cellsN 11 rfl)) ?_
 refine RS.call E30 (idO _ hok _ _ _ _ K0 DD hcD) rfl (fun v31 w31 x31 A31 => ?_)
 replace hE := Ext.tr hE x31
 replace K0 := K0.ext x31
 replace R0 := R0.ext x31
 replace B2 := B2.ext x31
 replace A3 := A3.ext x31
 replace DD := DD.ext x31
 replace B13 := B13.ext x31
 have zw31 := x31.size
 subst A31
 rw [if_pos hck]
 refine RS.nm ?_
 refine RS.move (v := .tuple _) rfl ?_
 refine RS.extract (v := .agg _) rfl rfl ?_
 refine RS.extract (v := .int _ _) rfl rfl ?_
 refine RS.storeArr A3 rfl rfl C35 (by decide) hsh.1 hsh.2 (fun w32 y32 N32 => ?_)
 replace hE := hE.trans (y32.belo)
 replace K0 := K0.sto y32
 replace R0 := R0.sto y32
 replace B2 := B2.sto y32
 replace DD := DD.sto y32
 replace B13 := B13.sto y32
 have zw32 := y32.size
 replace A3 := N32
 refine nl hK30 ?_
 refine wp_seq_k (fun K33 hK33 => ?_)
 refine regionX (Pr (fun k => k = b2)) [(0, .q), (1, .q), (2, .e), (3, .g), (4, .q)] mixed (fun w => Pr.refl _ _) (fun h k => Pr.tr h k) (by kernel_rfl) (fun w34 x34 => ?_)
 replace hE := Ext.tr hE x34
 replace K0 := K0.ext x34
 replace R0 := R0.ext x34
 replace B2 := B2.ext x34
 replace A3 := A3.ext x34
 replace DD := DD.ext x34
 replace B13 := B13.ext x34
 have zw34 := x34.size
 refine RX.o (fun w' hw => D.loadAgg rfl Tryz.underlying33 rfl C33 (by decide) rfl ((B13.pr hw (by intros; try (first | (intro _ _) | (intro _) | skip); first | omega | (dsimp only at *; omega) | (simp_all; done) | (simp at *; omega))).cellsN 11 rfl)) ?_
 refine RX.o (fun w' hw => D.loadAgg rfl Tryz.underlying35 rfl C35 (by decide) (by rw [ints_length, A3.len]) (A3.pr hw (by intros; try (first | (intro _ _) | (intro _) | skip); first | omega | (dsimp only at *; omega) | (simp_all; done) | (simp at *; omega))).cells) ?_
 refine RX.eff ?_
 refine RS.storeAggB rfl rfl C33 (by decide) rfl rfl B2 rfl (fun w35 y35 N35 => ?_)
 replace hE := hE.trans (y35.belo)
 replace K0 := K0.sto y35
 replace R0 := R0.sto y35
 replace A3 := A3.sto y35
 replace DD := DD.sto y35
 replace B13 := B13.sto y35
 have zw35 := y35.size
 replace B2 := N35
 refine RS.nil ⟨((Pr.refl _ _).sto y35), ?_⟩
 refine RX.big ?_
 refine RS.storeArr A3 rfl rfl C35 (by decide) hsh.1 hsh.2 (fun w36 y36 N36 => ?_)
 replace hE := hE.trans (y36.belo)
 replace K0 := K0.sto y36
 replace R0 := R0.sto y36
 replace B2 := B2.sto y36
 replace DD := DD.sto y36
 replace B13 := B13.sto y36
 have zw36 := y36.size
 replace A3 := N36
 refine RS.nil ?_
 refine RX.assign (v := .int .u8 0) rfl ?_
 refine RX.nil (hK33 _ _ ?_)
 refine wp_ret ?_
 refine ret (rs := [.cell 2 33, .cell 3 35, .tmp 4]) (vs := [.agg _, .agg _, .int _ _]) (v := (.tuple #[.agg _, .agg _, .int _ _])) rfl ⟨⟨_, rfl, loadVar_agg Tryz.underlying33 rfl C33 (by decide) rfl (B2.cellsN 11 rfl)⟩, ⟨_, rfl, loadVar_agg Tryz.underlying35 rfl C35 (by decide) (by rw [ints_length, A3.len]) A3.cells⟩, rfl, trivial⟩ rfl ?_
 rw [e1, e2, hv]
 exact ⟨_, rfl, hE, _, _, rfl, hcD, DD.weaken (fun k _ h => by omega)⟩
theorem judgeFine {S0 : Nat → Prop} (a : Option Addr) (n c : Nat) (bs : List Int) (TK : TypeId) (w : World) (K0 : Kst w TK) (R0 : IRow .u8 S0 w a n bs) (hc : n ≤ c) (hn : n ≤ 1000000) :
  Calls Tryz.prog 10 #[.slice a n c] w (Ret w fun v _ => v = .bool (S.jdV bs == 0)) := by
 replace R0 := R0.weaken (T := fun k => k < w.heap.size) (fun k hk _ => hk)
 have hbl := R0.len
 have hbd := R0.bd
 have hKl := K0.lt
 have hE := Ext.refl w
 refine enterU 13 Tryz.func10 rfl rfl ?_
 refine sq fun K1 hK1 => ?_
 refine RS.asB rfl ?_
 refine nl hK1 ?_
 refine sq fun K2 hK2 => ?_
 refine RS.mvS rfl ?_
 refine RS.call E8 (judgeOf _ _ _ _ _ _ K0 R0 hc hn) rfl (fun v3 w3 x3 A3 => ?_)
 replace hE := Ext.tr hE x3
 replace K0 := K0.ext x3
 replace R0 := R0.ext x3
 have zw3 := x3.size
 obtain ⟨aJ, cJ, rfl, hcJ, DJ⟩ := A3
 have hjI := S.jdI_arr bs
 refine RS.nm ?_
 refine RS.move (v := .tuple _) rfl ?_
 refine RS.extract (v := .agg _) rfl rfl ?_
 refine RS.extract (v := .agg _) rfl rfl ?_
 refine RS.extract (v := .int _ _) rfl rfl ?_
 refine RS.alloc T33 (fun b4 w4 e4 s4 x4 B4 => ?_)
 refine RS.nm ?_
 replace hE := Ext.tr hE x4
 replace K0 := K0.ext x4
 replace R0 := R0.ext x4
 have zw4 := x4.size
 refine RS.alloc T35 (fun b5 w5 e5 s5 x5 B5 => ?_)
 refine RS.nm ?_
 replace hE := Ext.tr hE x5
 replace K0 := K0.ext x5
 replace R0 := R0.ext x5
 replace B4 := B4.ext x5
 have zw5 := x5.size
 have A5 : IArr .u8 w5 b5 32 (List.replicate 32 0) [] 35 := IArr.zero B5
 clear B5
 refine RS.storeAggB rfl rfl C33 (by decide) rfl rfl B4 rfl (fun w6 y6 N6 => ?_)
 replace hE := hE.trans (y6.belo)
 replace K0 := K0.sto y6
 replace R0 := R0.sto y6
 replace A5 := A5.sto y6
 have zw6 := y6.size
 replace B4 := N6
 refine RS.storeArr A5 rfl rfl C35 (by decide) hjI.1 hjI.2 (fun w7 y7 N7 => ?_)
 replace hE := hE.trans (y7.belo)
 replace K0 := K0.sto y7
 replace R0 := R0.sto y7
 replace B4 := B4.sto y7
 have zw7 := y7.size
 replace A5 := N7
 refine RS.asI rfl ?_
 refine nl hK2 ?_
 refine sq fun K8 hK8 => ?_
 refine RS.mvI rfl ?_
 refine RS.o (D.eq rfl rfl) ?_
 refine RS.asB rfl ?_
 refine nl hK8 ?_
 refine wp_ret ?_
 refine retB rfl rfl ?_
 exact ⟨_, rfl, hE, rfl⟩
theorem judgeEach {S0 : Nat → Prop} (a : Option Addr) (n c : Nat) (ps : List Pc) (TK : TypeId) (w : World) (K0 : Kst w TK) (P0 : PRow .u8 S0 w a n ps) (hc : n ≤ c) (hp : ∀ p ∈ ps, p.n ≤ 1000) (hn : n ≤ 1000) :
  Calls Tryz.prog 38 #[.slice a n c] w (Ret w fun v w' => ∃ a' c', v = .slice a' n c' ∧ IOwn w.heap.size w' 5 .u8 a' n c' (ps.map fun p => S.jdV p.xs)) := by
 replace P0 := P0.weaken (T := fun k => k < w.heap.size) (fun k hk _ => hk)
 have hpl := P0.len
 have hKl := K0.lt
 have hE := Ext.refl w
 refine enterU 26 Tryz.func38 rfl rfl ?_
 refine sq fun K1 hK1 => ?_
 refine RS.asS rfl ?_
 refine nl hK1 ?_
 refine sq fun K2 hK2 => ?_
 refine RS.mvS rfl ?_
 refine RS.o (D.len rfl Tryz.underlying40) ?_
 refine RS.make rfl rfl Tryz.underlying22 T5 (by omega) (by omega) (by omega) (fun b3 w3 e3 s3 x3 B3 => ?_)
 refine RS.nm ?_
 replace hE := Ext.tr hE x3
 replace K0 := K0.ext x3
 replace P0 := P0.ext x3
 have zw3 := x3.size
 have emk : (n : Int).toNat * 1 = n := by omega
 rw [emk, S.made_ints] at B3
 have OV : IOwn w.heap.size w3 5 .u8 (some ⟨b3, 0, none⟩) n n (List.replicate n 0) := IOwn.of_blk B3 rfl (by simp) (by omega) (Bd.zeros .u8 n) (by omega)
 have hOV := OV.lo
 refine RS.asS rfl ?_
 refine nl hK2 ?_
 refine wp_seq_k (fun K4 hK4 => ?_)
 refine sq fun K5 hK5 => ?_
 refine RS.mvS rfl ?_
 refine RS.o (D.len rfl Tryz.underlying40) ?_
 refine RS.mvI rfl ?_
 refine nl hK5 ?_
 refine wp_block ?_
 refine C.loop (A := Int) (fun p => [(10, .int .i64 p)]) [4, 11, 12, 13, 14, 15, 16, 17, 18, 19, 20, 21, 22, 23, 24, 25] (fun p w' => Pr (fun k => k = b3) w3 w' ∧ ((0 ≤ p ∧ p ≤ n) ∧ IOwn w.heap.size w' 5 .u8 (some ⟨b3, 0, none⟩) n n ((ps.map fun p => S.jdV p.xs).take p.toNat ++ (List.replicate n 0).drop p.toNat))) (fun p => (n - p.toNat)) 0 (by kernel_rfl) ?_ ?_
 ·exact ⟨Pr.refl _ _, ⟨by omega, by omega⟩, by simpa using OV⟩
 rintro p j w6 ⟨x6, hI⟩
 replace hE := hE.trans (x6.belo)
 replace K0 := K0.pro x6
 replace P0 := P0.pro x6
 have zw6 := x6.size
 obtain ⟨i, hi⟩ : ∃ i, i = p := ⟨p, rfl⟩
 subst hi
 obtain ⟨h1, OV⟩ := hI
 refine C.norm (by simp only [upd, junk, List.map_cons, List.map_nil, List.set_cons_succ, List.set_cons_zero]; exact rfl) ?_
 refine sq fun K7 hK7 => ?_
 refine RS.o (D.lt rfl rfl) ?_
 refine nl hK7 ?_
 refine wp_seq_k (fun K8 hK8 => ?_)
 refine C.ifd rfl (fun c9 => ?_) (fun c9 => ?_)
 ·refine wp_skip ?_
  refine hK8 _ _ ?_
  refine wp_seq_k (fun K10 hK10 => ?_)
  refine wp_block ?_
  refine sq fun K11 hK11 => ?_
  refine RS.mvI rfl ?_
  refine RS.asI rfl ?_
  refine nl hK11 ?_
  refine region ?_
  refine RS.mvS rfl ?_
  refine RS.mvI rfl ?_
  refine RS.mvS rfl ?_
  refine RS.mvI rfl ?_
  refine RS.idxP P0 rfl rfl Tryz.underlying40 C22 (by omega) (fun b12 o12 p12 h12 q12 F12 G12 => ?_)
  refine RS.nm ?_
  have hpx : p12.n ≤ 1000 := hp _ (by rw [q12, List.getD_eq_getElem?_getD, List.getElem?_eq_getElem (show i.toNat < ps.length by omega)]; exact List.getElem_mem _)
  refine RS.o (D.load rfl Tryz.underlying22 rfl (h12)) ?_
  refine RS.call E8 (judgeOf _ _ _ _ _ _ K0 F12 G12 (by omega)) rfl (fun v13 w13 x13 A13 => ?_)
  replace hE := Ext.tr hE x13
  replace x6 := x6.ext x13
  replace K0 := K0.ext x13
  replace P0 := P0.ext x13
  replace OV := OV.ext x13
  replace F12 := F12.ext x13
  have zw13 := x13.size
  obtain ⟨aJ, cJ, rfl, hcJ, DJ⟩ := A13
  have hjb := S.jd_bd p12.xs
  refine RS.nm ?_
  refine RS.move (v := .tuple _) rfl ?_
  refine RS.extract (v := .agg _) rfl rfl ?_
  refine RS.extract (v := .agg _) rfl rfl ?_
  refine RS.extract (v := .int _ _) rfl rfl ?_
  refine RS.o (D.indexAddr rfl rfl Tryz.underlying22 C5 (by decide) rfl (by omega)) ?_
  refine RS.storeI OV rfl rfl C5 (by omega) (by simp only [lim]; omega) (fun w14 y14 N14 => ?_)
  replace hE := hE.trans (y14.belo)
  replace x6 := x6.stno y14
  replace K0 := K0.sto y14
  replace P0 := P0.sto y14
  replace F12 := F12.sto y14
  have zw14 := y14.size
  replace OV := N14
  refine nl hK10 ?_
  refine region ?_
  refine RS.o (D.add rfl rfl (W.i64 (by omega))) ?_
  refine RS.mvI rfl ?_
  refine RS.nil ?_
  change Nx _ _ _ _ _ _ _ _
  refine C.next (i + 1) ⟨rfl, trivial⟩ (by kernel_rfl) ?_ ?_
  ·refine ⟨x6, ⟨by omega, by omega⟩, ?_⟩
   have hs := S.set_step (ys := (ps.map fun p => S.jdV p.xs)) (List.replicate n 0) i.toNat rfl (by simp; omega) (by simp; omega)
   rw [S.map_getD _ ps default i.toNat (by omega), ← q12] at hs
   rw [show (i + 1).toNat = i.toNat + 1 by omega, ← hs]
   exact OV
  omega
 refine wp_exit ?_
 refine hK4 _ _ ?_
 refine sq fun K15 hK15 => ?_
 refine RS.mvS rfl ?_
 refine RS.asS rfl ?_
 refine nl hK15 ?_
 refine wp_ret ?_
 refine ret (rs := [.tmp 2]) (vs := [.slice _ _ _]) (v := (.slice _ _ _)) rfl ⟨rfl, trivial⟩ rfl ?_
 refine ⟨_, rfl, hE, _, _, rfl, ?_⟩
 rw [show i.toNat = n by omega, List.take_of_length_le (by simp; omega), List.drop_of_length_le (by simp), List.append_nil] at OV
 exact OV
theorem judgeMany {S0 : Nat → Prop} (a : Option Addr) (n c : Nat) (ps : List Pc) (TK : TypeId) (w : World) (K0 : Kst w TK) (P0 : PRow .u8 S0 w a n ps) (hc : n ≤ c) (hp : ∀ p ∈ ps, p.n ≤ 1000) :
  Calls Tryz.prog 14 #[.slice a n c] w (Ret w fun v w' => ∃ a' m' c', v = .tuple #[.slice a' m' c', .int .i64 (if 60 < n then 4 else 0)] ∧ IOwn w.heap.size w' 5 .u8 a' m' c' (if 60 < n then [] else ps.map fun p => S.jdV p.xs)) := by
 replace P0 := P0.weaken (T := fun k => k < w.heap.size) (fun k hk _ => hk)
 have hpl := P0.len
 have hKl := K0.lt
 have hE := Ext.refl w
 refine enterU 8 Tryz.func14 rfl rfl ?_
 refine sq fun K1 hK1 => ?_
 refine RS.asS rfl ?_
 refine RS.asI rfl ?_
 refine nl hK1 ?_
 refine wp_seq_k (fun K2 hK2 => ?_)
 refine sq fun K3 hK3 => ?_
 refine RS.mvS rfl ?_
 refine RS.o (D.len rfl Tryz.underlying40) ?_
 refine RS.o (D.gt rfl rfl) ?_
 refine nl hK3 ?_
 refine C.ifd rfl (fun c4 => ?_) (fun c4 => ?_)
 ·have hg := c4
  refine sq fun K5 hK5 => ?_
  refine RS.asS rfl ?_
  refine RS.asI rfl ?_
  refine nl hK5 ?_
  refine wp_ret ?_
  refine ret (rs := [.tmp 2, .tmp 3]) (vs := [.slice _ _ _, .int _ _]) (v := (.tuple #[.slice _ _ _, .int _ _])) rfl ⟨rfl, rfl, trivial⟩ rfl ?_
  rw [if_pos (show 60 < n by omega), if_pos (show 60 < n by omega)]
  exact ⟨_, rfl, hE, _, _, _, rfl, IOwn.nil _ _ _ _⟩
 have hg := c4
 refine wp_skip ?_
 refine hK2 _ _ ?_
 refine sq fun K6 hK6 => ?_
 refine RS.mvS rfl ?_
 refine RS.call E38 (judgeEach _ _ _ _ _ _ K0 P0 hc hp (by omega)) rfl (fun v7 w7 x7 A7 => ?_)
 replace hE := Ext.tr hE x7
 replace K0 := K0.ext x7
 replace P0 := P0.ext x7
 have zw7 := x7.size
 obtain ⟨aE, cE, rfl, OV⟩ := A7
 refine RS.nm ?_
 refine RS.asS rfl ?_
 refine RS.asI rfl ?_
 refine nl hK6 ?_
 refine wp_ret ?_
 refine ret (rs := [.tmp 2, .tmp 3]) (vs := [.slice _ _ _, .int _ _]) (v := (.tuple #[.slice _ _ _, .int _ _])) rfl ⟨rfl, rfl, trivial⟩ rfl ?_
 rw [if_neg (show ¬ 60 < n by omega), if_neg (show ¬ 60 < n by omega)]
 exact ⟨_, rfl, hE, _, _, _, rfl, OV⟩
theorem judgeCount {S0 : Nat → Prop} (a : Option Addr) (n c : Nat) (ps : List Pc) (TK : TypeId) (w : World) (K0 : Kst w TK) (P0 : PRow .u8 S0 w a n ps) (hc : n ≤ c) (hp : ∀ p ∈ ps, p.n ≤ 1000) :
  Calls Tryz.prog 16 #[.slice a n c] w (Ret w fun v w' => v = .tuple #[.agg (ints .i64 (S.cntS (if 60 < n then [] else ps.map fun p => S.jdV p.xs))).toArray, .int .i64 (if 60 < n then 4 else 0)]) := by
 replace P0 := P0.weaken (T := fun k => k < w.heap.size) (fun k hk _ => hk)
 have hpl := P0.len
 have hKl := K0.lt
 have hE := Ext.refl w
 refine enterU 25 Tryz.func16 rfl rfl ?_
 refine sq fun K1 hK1 => ?_
 refine RS.alloc T48 (fun b2 w2 e2 s2 x2 B2 => ?_)
 refine RS.nm ?_
 replace hE := Ext.tr hE x2
 replace K0 := K0.ext x2
 replace P0 := P0.ext x2
 have zw2 := x2.size
 have A2 : IArr .i64 w2 b2 10 (List.replicate 10 0) [] 48 := IArr.zero B2
 clear B2
 refine RS.asI rfl ?_
 refine nl hK1 ?_
 refine sq fun K3 hK3 => ?_
 refine RS.mvS rfl ?_
 refine RS.call E14 (judgeMany _ _ _ _ _ _ K0 P0 hc hp) rfl (fun v4 w4 x4 A4 => ?_)
 replace hE := Ext.tr hE x4
 replace K0 := K0.ext x4
 replace P0 := P0.ext x4
 replace A2 := A2.ext x4
 have zw4 := x4.size
 obtain ⟨aM, nM, cM, rfl, OM⟩ := A4
 have hOM := OM.lo
 have lOM := OM.len
 obtain ⟨ms, hms⟩ : ∃ ms, ms = (if 60 < n then [] else ps.map fun p => S.jdV p.xs) := ⟨_, rfl⟩
 rw [← hms] at OM lOM ⊢
 have hmb : ∀ x ∈ ms, 0 ≤ x ∧ x ≤ 4 := by
  intro x hx
  rw [hms] at hx
  split at hx
  ·cases hx
  obtain ⟨p, _, rfl⟩ := List.mem_map.1 hx
  have := S.jd_bd p.xs
  omega
 have hml : ms.length ≤ 60 := by rw [hms]; split <;> simp; omega
 have hca := S.cnt_arr ms (by omega)
 refine RS.nm ?_
 refine RS.move (v := .tuple _) rfl ?_
 refine RS.extract (v := .slice _ _ _) rfl rfl ?_
 refine RS.extract (v := .int _ _) rfl rfl ?_
 refine RS.asS rfl ?_
 refine RS.asI rfl ?_
 refine nl hK3 ?_
 refine wp_seq_k (fun K5 hK5 => ?_)
 refine sq fun K6 hK6 => ?_
 refine RS.mvS rfl ?_
 refine RS.o (D.len rfl Tryz.underlying22) ?_
 refine RS.mvI rfl ?_
 refine nl hK6 ?_
 refine wp_block ?_
 refine C.loop (A := Int) (fun p => [(14, .int .i64 p)]) [6, 15, 16, 17, 18, 19, 20, 21, 22, 23] (fun p w' => Pr (fun k => k = b2) w4 w' ∧ ((0 ≤ p ∧ p ≤ nM) ∧ IArr .i64 w' b2 10 (S.cntS (ms.take p.toNat)) [] 48)) (fun p => (nM - p.toNat)) 0 (by kernel_rfl) ?_ ?_
 ·exact ⟨Pr.refl _ _, ⟨by omega, by omega⟩, by rw [show (0 : Int).toNat = 0 from rfl, List.take_zero, S.cnt_nil]; exact A2⟩
 rintro p j w7 ⟨x7, hI⟩
 replace hE := hE.trans (x7.belo)
 replace K0 := K0.pro x7
 replace P0 := P0.pro x7
 replace OM := OM.pr x7 (by intros; try (first | (intro _ _) | (intro _) | skip); first | omega | (have hq := hOM _ (by assumption); first | omega | (dsimp only at *; omega)))
 have zw7 := x7.size
 obtain ⟨i, hi⟩ : ∃ i, i = p := ⟨p, rfl⟩
 subst hi
 obtain ⟨h1, A2⟩ := hI
 refine C.norm (by simp only [upd, junk, List.map_cons, List.map_nil, List.set_cons_succ, List.set_cons_zero]; exact rfl) ?_
 refine sq fun K8 hK8 => ?_
 refine RS.o (D.lt rfl rfl) ?_
 refine nl hK8 ?_
 refine wp_seq_k (fun K9 hK9 => ?_)
 refine C.ifd rfl (fun c10 => ?_) (fun c10 => ?_)
 ·refine wp_skip ?_
  refine hK9 _ _ ?_
  refine wp_seq_k (fun K11 hK11 => ?_)
  refine wp_block ?_
  refine sq fun K12 hK12 => ?_
  refine RS.idx OM.row rfl rfl Tryz.underlying22 C5 (by omega) (fun b13 o13 v13 h13 q13 r13 => ?_)
  refine RS.nm ?_
  simp only [lim] at r13
  have hxb := hmb v13 (by rw [q13, List.getD_eq_getElem?_getD, List.getElem?_eq_getElem (show i.toNat < ms.length by omega)]; exact List.getElem_mem _)
  have q1 := q13
  obtain ⟨x, hx⟩ : ∃ x, x = v13 := ⟨_, rfl⟩
  refine RS.o (D.load rfl Tryz.underlying5 rfl (h13)) ?_
  refine RS.asI rfl ?_
  refine nl hK12 ?_
  refine region ?_
  refine RS.mvI rfl ?_
  refine RS.idxA A2 rfl rfl Tryz.underlying48 C3 (by omega) (fun v14 h14 q14 r14 => ?_)
  refine RS.nm ?_
  simp only [lim] at r14
  have q2 := q14
  have hcb := S.cnt_bd (ms.take i.toNat) x.toNat (by omega)
  rw [List.length_take, hx] at hcb
  refine RS.o (D.load rfl Tryz.underlying3 rfl (h14)) ?_
  refine RS.o (D.add rfl rfl (W.i64 (by omega))) ?_
  refine RS.idxA A2 rfl rfl Tryz.underlying48 C3 (by omega) (fun v15 h15 q15 r15 => ?_)
  refine RS.nm ?_
  simp only [lim] at r15
  refine RS.storeA A2 rfl rfl C3 (by omega) (by simp only [lim]; omega) (fun w16 y16 N16 => ?_)
  replace hE := hE.trans (y16.belo)
  replace x7 := x7.stno y16
  replace K0 := K0.sto y16
  replace P0 := P0.sto y16
  replace OM := OM.st y16 (by intros; try (first | (intro _ _) | (intro _) | skip); first | omega | (have hq := hOM _ (by assumption); first | omega | (dsimp only at *; omega)))
  have zw16 := y16.size
  replace A2 := N16
  refine nl hK11 ?_
  refine region ?_
  refine RS.o (D.add rfl rfl (W.i64 (by omega))) ?_
  refine RS.mvI rfl ?_
  refine RS.nil ?_
  change Nx _ _ _ _ _ _ _ _
  refine C.next (i + 1) ⟨rfl, trivial⟩ (by kernel_rfl) ?_ ?_
  ·refine ⟨x7, ⟨by omega, by omega⟩, ?_⟩
   rw [show (i + 1).toNat = i.toNat + 1 by omega, S.take_snoc ms _ (by omega), ← q1, ← S.cnt_snoc _ _ (by omega), ← q2]
   exact A2
  omega
 refine wp_exit ?_
 refine hK5 _ _ ?_
 refine wp_seq_k (fun K17 hK17 => ?_)
 rw [show i.toNat = nM by omega, List.take_of_length_le (by omega)] at A2
 refine region ?_
 refine RS.o (D.loadAgg rfl Tryz.underlying48 rfl C48 (by decide) (by rw [ints_length, A2.len]) A2.cells) ?_
 refine RS.mvI rfl ?_
 refine RS.storeArr A2 rfl rfl C48 (by decide) hca.1 hca.2 (fun w18 y18 N18 => ?_)
 replace hE := hE.trans (y18.belo)
 replace K0 := K0.sto y18
 replace P0 := P0.sto y18
 replace OM := OM.st y18 (by intros; try (first | (intro _ _) | (intro _) | skip); first | omega | (have hq := hOM _ (by assumption); first | omega | (dsimp only at *; omega)))
 have zw18 := y18.size
 replace A2 := N18
 refine RS.asI rfl ?_
 refine nl hK17 ?_
 refine wp_ret ?_
 refine ret (rs := [.cell 2 48, .tmp 3]) (vs := [.agg _, .int _ _]) (v := (.tuple #[.agg _, .int _ _])) rfl ⟨⟨_, rfl, loadVar_agg Tryz.underlying48 rfl C48 (by decide) (by rw [ints_length, A2.len]) A2.cells⟩, rfl, trivial⟩ rfl ?_
 refine ⟨_, rfl, hE, ?_⟩
 rw [← hms]
end Go.Proofs.YtiohpiiiapjblaaGreatDoor.W
namespace Go.Proofs.YtiohpiiiapjblaaGreatDoor.W
open Go.RowKit Go.Proofs.YtiohpiiiapjblaaGreatDoor.G
set_option linter.unusedVariables false
set_option maxRecDepth 20000
set_option maxHeartbeats 8000000
attribute [local irreducible] RS RX
theorem E10 : Enters Tryz.prog 10 := .mk Tryz.func10 (by kernel_rfl) rfl
theorem great8 {S0 : Nat → Prop} (a : Option Addr) (n c : Nat) (ps : List Pc) (w : World) (P0 : PRow .u8 S0 w a n ps) :
  Calls Tryz.prog 12 #[.slice a n c] w (Ret w fun v _ => ∃ b : Bool, v = .bool b ∧ (b = false → (∀ j, j < n → j ≤ 100 → (ps.getD j default).n ≤ 1000) ∧ ¬ (12 < n ∧ n ≤ 60) ∧ n ≤ 100)) := by
 replace P0 := P0.weaken (T := fun k => k < w.heap.size) (fun k hk _ => hk)
 have hpl := P0.len
 have hE := Ext.refl w
 refine enterU 32 Tryz.func12 rfl rfl ?_
 refine sq fun K1 hK1 => ?_
 refine RS.asB rfl ?_
 refine nl hK1 ?_
 refine wp_seq_k (fun K2 hK2 => ?_)
 refine sq fun K3 hK3 => ?_
 refine RS.asI rfl ?_
 refine nl hK3 ?_
 refine wp_block ?_
 refine C.loop (A := Int) (fun p => [(3, .int .i64 p)]) [2, 4, 5, 6, 7, 8, 9, 10, 11, 12, 13, 14, 15, 16, 17, 18, 19] (fun p w' => Ext w w' ∧ ((0 ≤ p ∧ p ≤ n) ∧ ∀ j, j < p.toNat → (ps.getD j default).n ≤ 1000)) (fun p => (n - p.toNat)) 0 (by kernel_rfl) ?_ ?_
 ·exact ⟨Ext.refl _, ⟨by omega, by omega⟩, fun j hj => by omega⟩
 rintro p j w4 ⟨x4, hI⟩
 replace hE := Ext.tr hE x4
 replace P0 := P0.ext x4
 have zw4 := x4.size
 obtain ⟨i, hi⟩ : ∃ i, i = p := ⟨p, rfl⟩
 subst hi
 obtain ⟨h1, h2⟩ := hI
 refine C.norm (by simp only [upd, junk, List.map_cons, List.map_nil, List.set_cons_succ, List.set_cons_zero]; exact rfl) ?_
 refine wp_seq_k (fun K5 hK5 => ?_)
 refine sq fun K6 hK6 => ?_
 refine RS.mvI rfl ?_
 refine RS.mvS rfl ?_
 refine RS.o (D.len rfl Tryz.underlying40) ?_
 refine RS.o (D.lt rfl rfl) ?_
 refine RS.mvB rfl ?_
 refine RS.splitd 8 rfl rfl (fun c7 => ?_) (fun c7 => ?_)
 ·refine RS.nm ?_
  refine RS.wt 8 ?_
  refine RS.mvI rfl ?_
  refine RS.wt 8 ?_
  refine RS.o (D.le rfl rfl) ?_
  refine RS.pick (v := .bool _) rfl rfl ?_
  refine nl hK6 ?_
  refine C.ifd rfl (fun c8 => ?_) (fun c8 => ?_)
  ·refine wp_skip ?_
   refine hK5 _ _ ?_
   refine wp_seq_k (fun K9 hK9 => ?_)
   refine wp_block ?_
   refine sq fun K10 hK10 => ?_
   refine RS.mvS rfl ?_
   refine RS.mvI rfl ?_
   refine RS.idxP P0 rfl rfl Tryz.underlying40 C22 (by omega) (fun b11 o11 p11 h11 q11 F11 G11 => ?_)
   refine RS.nm ?_
   have q1 := q11
   have hF := p11
   refine RS.o (D.load rfl Tryz.underlying22 rfl (h11)) ?_
   refine RS.o (D.len rfl Tryz.underlying22) ?_
   refine RS.o (D.gt rfl rfl) ?_
   refine nl hK10 ?_
   refine C.ifd rfl (fun c12 => ?_) (fun c12 => ?_)
   ·refine wp_seq_k (fun K13 hK13 => ?_)
    refine region ?_
    refine RS.asB rfl ?_
    refine nl hK13 ?_
    refine wp_ret ?_
    refine retB rfl rfl ?_
    exact ⟨_, rfl, hE, true, rfl, fun h => by cases h⟩
   refine wp_skip ?_
   refine hK9 _ _ ?_
   refine region ?_
   refine RS.mvI rfl ?_
   refine RS.o (D.add rfl rfl (W.i64 (by omega))) ?_
   refine RS.asI rfl ?_
   refine RS.nil ?_
   change Nx _ _ _ _ _ _ _ _
   refine C.next (i + 1) ⟨rfl, trivial⟩ (by kernel_rfl) ?_ ?_
   ·refine ⟨x4, ⟨by omega, by omega⟩, fun j hj => ?_⟩
    by_cases hj2 : j < i.toNat
    ·exact h2 j hj2
    rw [show j = i.toNat by omega, ← q1]; omega
   omega
  refine wp_exit ?_
  refine hK2 _ _ ?_
  refine sq fun K14 hK14 => ?_
  refine RS.mvS rfl ?_
  refine RS.o (D.len rfl Tryz.underlying40) ?_
  refine RS.o (D.gt rfl rfl) ?_
  refine RS.mvB rfl ?_
  refine RS.splitd 23 rfl rfl (fun c15 => ?_) (fun c15 => ?_)
  ·refine RS.nm ?_
   refine RS.wt 23 ?_
   refine RS.mvS rfl ?_
   refine RS.wt 23 ?_
   refine RS.o (D.len rfl Tryz.underlying40) ?_
   refine RS.wt 23 ?_
   refine RS.o (D.le rfl rfl) ?_
   refine RS.pick (v := .bool _) rfl rfl ?_
   refine RS.mvB rfl ?_
   refine RS.splitd 28 rfl rfl (fun c16 => ?_) (fun c16 => ?_)
   ·refine RS.nm ?_
    refine RS.skT 28 ?_
    refine RS.skT 28 ?_
    refine RS.skT 28 ?_
    refine RS.pick (v := .bool true) rfl rfl ?_
    refine RS.asB rfl ?_
    refine nl hK14 ?_
    refine wp_ret ?_
    refine retB rfl rfl ?_
    refine ⟨_, rfl, hE, _, rfl, fun hb => ?_⟩
    try (have hb3 := of_decide_eq_false hb)
    first | (exact absurd hb (by decide)) | exact ⟨fun j hj hj2 => h2 j (by omega), by omega, by omega⟩
   refine RS.nm ?_
   refine RS.wt 28 ?_
   refine RS.mvS rfl ?_
   refine RS.wt 28 ?_
   refine RS.o (D.len rfl Tryz.underlying40) ?_
   refine RS.wt 28 ?_
   refine RS.o (D.gt rfl rfl) ?_
   refine RS.pick (v := .bool _) rfl rfl ?_
   refine RS.asB rfl ?_
   refine nl hK14 ?_
   refine wp_ret ?_
   refine retB rfl rfl ?_
   refine ⟨_, rfl, hE, _, rfl, fun hb => ?_⟩
   try (have hb3 := of_decide_eq_false hb)
   first | (exact absurd hb (by decide)) | exact ⟨fun j hj hj2 => h2 j (by omega), by omega, by omega⟩
  refine RS.nm ?_
  refine RS.skF 23 ?_
  refine RS.skF 23 ?_
  refine RS.skF 23 ?_
  refine RS.pick (v := .bool false) rfl rfl ?_
  refine RS.mvB rfl ?_
  refine RS.wt 28 ?_
  refine RS.mvS rfl ?_
  refine RS.wt 28 ?_
  refine RS.o (D.len rfl Tryz.underlying40) ?_
  refine RS.wt 28 ?_
  refine RS.o (D.gt rfl rfl) ?_
  refine RS.pick (v := .bool _) rfl rfl ?_
  refine RS.asB rfl ?_
  refine nl hK14 ?_
  refine wp_ret ?_
  refine retB rfl rfl ?_
  refine ⟨_, rfl, hE, _, rfl, fun hb => ?_⟩
  try (have hb3 := of_decide_eq_false hb)
  first | (exact absurd hb (by decide)) | exact ⟨fun j hj hj2 => h2 j (by omega), by omega, by omega⟩
 refine RS.nm ?_
 refine RS.skF 8 ?_
 refine RS.skF 8 ?_
 refine RS.pick (v := .bool false) rfl rfl ?_
 refine nl hK6 ?_
 refine C.iff rfl ?_
 refine wp_exit ?_
 refine hK2 _ _ ?_
 refine sq fun K17 hK17 => ?_
 refine RS.mvS rfl ?_
 refine RS.o (D.len rfl Tryz.underlying40) ?_
 refine RS.o (D.gt rfl rfl) ?_
 refine RS.mvB rfl ?_
 refine RS.splitd 23 rfl rfl (fun c18 => ?_) (fun c18 => ?_)
 ·refine RS.nm ?_
  refine RS.wt 23 ?_
  refine RS.mvS rfl ?_
  refine RS.wt 23 ?_
  refine RS.o (D.len rfl Tryz.underlying40) ?_
  refine RS.wt 23 ?_
  refine RS.o (D.le rfl rfl) ?_
  refine RS.pick (v := .bool _) rfl rfl ?_
  refine RS.mvB rfl ?_
  refine RS.splitd 28 rfl rfl (fun c19 => ?_) (fun c19 => ?_)
  ·refine RS.nm ?_
   refine RS.skT 28 ?_
   refine RS.skT 28 ?_
   refine RS.skT 28 ?_
   refine RS.pick (v := .bool true) rfl rfl ?_
   refine RS.asB rfl ?_
   refine nl hK17 ?_
   refine wp_ret ?_
   refine retB rfl rfl ?_
   refine ⟨_, rfl, hE, _, rfl, fun hb => ?_⟩
   try (have hb3 := of_decide_eq_false hb)
   first | (exact absurd hb (by decide)) | exact ⟨fun j hj hj2 => h2 j (by omega), by omega, by omega⟩
  refine RS.nm ?_
  refine RS.wt 28 ?_
  refine RS.mvS rfl ?_
  refine RS.wt 28 ?_
  refine RS.o (D.len rfl Tryz.underlying40) ?_
  refine RS.wt 28 ?_
  refine RS.o (D.gt rfl rfl) ?_
  refine RS.pick (v := .bool _) rfl rfl ?_
  refine RS.asB rfl ?_
  refine nl hK17 ?_
  refine wp_ret ?_
  refine retB rfl rfl ?_
  refine ⟨_, rfl, hE, _, rfl, fun hb => ?_⟩
  try (have hb3 := of_decide_eq_false hb)
  first | (exact absurd hb (by decide)) | exact ⟨fun j hj hj2 => h2 j (by omega), by omega, by omega⟩
 refine RS.nm ?_
 refine RS.skF 23 ?_
 refine RS.skF 23 ?_
 refine RS.skF 23 ?_
 refine RS.pick (v := .bool false) rfl rfl ?_
 refine RS.mvB rfl ?_
 refine RS.wt 28 ?_
 refine RS.mvS rfl ?_
 refine RS.wt 28 ?_
 refine RS.o (D.len rfl Tryz.underlying40) ?_
 refine RS.wt 28 ?_
 refine RS.o (D.gt rfl rfl) ?_
 refine RS.pick (v := .bool _) rfl rfl ?_
 refine RS.asB rfl ?_
 refine nl hK17 ?_
 refine wp_ret ?_
 refine retB rfl rfl ?_
 refine ⟨_, rfl, hE, _, rfl, fun hb => ?_⟩
 try (have hb3 := of_decide_eq_false hb)
 first | (exact absurd hb (by decide)) | exact ⟨fun j hj hj2 => h2 j (by omega), by omega, by omega⟩
end Go.Proofs.YtiohpiiiapjblaaGreatDoor.W
namespace Go.Proofs.YtiohpiiiapjblaaGreatDoor.S
open G
theorem by4_ref (n : Int) (h : 0 ≤ n ∧ n < 4294967296) : [n / 16777216, n / 65536 % 256, n / 256 % 256, n % 256] = by4 n := by
  have h1 : (2 : Int) ^ (24 : Int).toNat = 16777216 := by decide
  have h2 : (2 : Int) ^ (16 : Int).toNat = 65536 := by decide
  have h3 : (2 : Int) ^ (8 : Int).toNat = 256 := by decide
  unfold by4
  rw [h1, h2, h3, Int.emod_eq_of_lt (a := n / 16777216) (by omega) (by omega)]
theorem head_one (k x : Int) : headS k [x] = [k] ++ by4 x := by simp [headS]
theorem head_two (k x y : Int) : headS k [x, y] = ([k] ++ by4 x) ++ by4 y := by simp [headS]
theorem be_grow (xs : List Int) (i : Nat) (hi : i < xs.length) : 256 * be (xs.take i) + xs.getD i 0 = be (xs.take (i + 1)) := by
  rw [take_snoc xs i hi, be_snoc, Int.mul_comm]
theorem be7_lt (xs : List Int) (i : Nat) (hB : Bd .u8 xs) (hi : i ≤ 7) : be (xs.take i) < 72057594037927936 := by
  have hb := be_bd _ (hB.take i)
  have hp : (256 : Int) ^ (xs.take i).length ≤ 256 ^ 7 := pow256 (by simp; omega)
  have h256 : (256 : Int) ^ 7 = 72057594037927936 := by decide
  omega
theorem inv_ref {y e : Int} (hy : isG y = true) (he : 0 ≤ e ∧ e < 500000003) : pw (pw y e 1000000007) 500000002 1000000007 = pw y (500000003 - e) 1000000007 := by
  have h1 := isG_one hy
  rw [pw_pw y e 500000002 _ he.1 (by decide), pw_mod y 500000003 _ _ (by decide) (by decide) (by omega) h1, pw_mod y 500000003 (500000003 - e) _ (by decide) (by decide) (by omega) h1]
  congr 1
  omega
theorem ver_good {y e s : Int} {m : List Int} (hy : isG y = true) (hm : m.length ≤ 9991) : verS y m e s = 0 ↔ (e < 500000003 ∧ s < 500000003) ∧ chalS (pubS s * pw y (500000003 - e) 1000000007 % 1000000007) y m = e := by
  unfold verS
  rw [if_neg (by rw [hy]; simp), if_neg (by omega)]
  by_cases h : e < 500000003 ∧ s < 500000003
  · rw [if_neg (fun hn => hn h)]
    by_cases h2 : chalS (pubS s * pw y (500000003 - e) 1000000007 % 1000000007) y m = e
    · rw [if_pos h2]; simp [h, h2]
    · rw [if_neg h2]; simp [h2]
  · rw [if_pos h]; simp [h]
theorem ver_val {y e s : Int} {m : List Int} (hy : isG y = true) (hm : m.length ≤ 9991) : verS y m e s = 0 ∨ verS y m e s = 22 := by
  unfold verS
  rw [if_neg (by rw [hy]; simp), if_neg (by omega)]
  repeat' split
  all_goals simp
theorem fine4 {k : Int} {key : ByteArray} {vk num bits : Int} {t : ByteArray} (h : FineAct k key vk num bits t) (h4 : k = 4) : FineV vk num bits t := by
  rcases h with ⟨h1, _⟩ | ⟨h1, _⟩ | ⟨_, _, h1⟩
  · omega
  · omega
  · exact h1
end Go.Proofs.YtiohpiiiapjblaaGreatDoor.S
