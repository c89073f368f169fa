/-
  Part 4 of the lemmas of these laws: OpNames, JudgeNames.
-/
import Derived.Test.YtiohpiiiapjblaaDoorPQn3
namespace Go.Proofs.YtiohpiiiapjblaaDoor.W
open Go.RowKit Go.Proofs.YtiohpiiiapjblaaDoor.G
set_option linter.unusedVariables false
set_option maxRecDepth 20000
set_option maxHeartbeats 8000000
attribute [local irreducible] RS RX
theorem T143 : TI Tryd.prog 143 8 32 (ints .u32 (List.replicate 8 0)) := by
 have h : (Tryd.prog.info? 143).map (fun i => (i.size, i.bytes, i.zero)) = some (8, 32, some (.agg #[.int .u32 0, .int .u32 0, .int .u32 0, .int .u32 0, .int .u32 0, .int .u32 0, .int .u32 0, .int .u32 0])) := by kernel_rfl
 exact TI.of h rfl
theorem E135 : Enters Tryd.prog 135 := .mk Tryd.func135 (by kernel_rfl) rfl
theorem E136 : Enters Tryd.prog 136 := .mk Tryd.func136 (by kernel_rfl) rfl
theorem grind {S0 : Nat → Prop} (b : Nat) (h : List Int) (tl : List Value) (T TK : TypeId) (a : Option Addr) (n c : Nat) (bs : List Int) (w : World) (A0 : IArr .u32 w b 8 h tl T) (K0 : Kst w TK) (R0 : IRow .u8 S0 w a n bs) (hn : 64 ≤ n) (hc : n ≤ c) (hbk : b ≠ gK) :
  Calls Tryd.prog 128 #[.pointer (some ⟨b, 0, none⟩), .slice a n c] w (fun e w' => e = .returned (.tuple #[]) ∧ Pr (fun k => k = b) w w' ∧ IArr .u32 w' b 8 (S.grind h bs) tl T) := by
 have hlt := A0.lt
 have hhl := A0.len
 have hhb := A0.bd
 have hsa := S.sch_arr bs R0.bd
 have hKl := K0.lt
 have hE := Pr.refl (fun k => k = b) w
 refine enterU 124 Tryd.func128 rfl rfl ?_
 refine sq fun K1 hK1 => ?_
 refine RS.mvS rfl ?_
 refine RS.call E135 (schedule (S0 := S0) _ _ _ _ _ R0 hn hc) rfl (fun v2 w2 x2 A2 => ?_)
 replace hE := hE.ext x2
 replace A0 := A0.ext x2
 replace K0 := K0.ext x2
 have zw2 := x2.size
 subst A2
 refine RS.nm ?_
 refine RS.alloc T162 (fun b3 w3 e3 s3 x3 B3 => ?_)
 refine RS.nm ?_
 replace hE := hE.ext x3
 replace A0 := A0.ext x3
 replace K0 := K0.ext x3
 have zw3 := x3.size
 have A3 : IArr .u32 w3 b3 64 (List.replicate 64 0) [] 162 := IArr.zero B3
 clear B3
 refine RS.storeArr A3 rfl rfl C162 (by decide) (by first | assumption | exact And.left (by assumption) | exact IArr.len (by assumption)) (by first | assumption | exact And.right (by assumption) | exact IArr.bd (by assumption)) (fun w4 y4 N4 => ?_)
 replace hE := hE.stno y4
 replace A0 := A0.sto y4
 replace K0 := K0.sto y4
 have zw4 := y4.size
 replace A3 := N4
 refine nl hK1 ?_
 refine wp_seq_k (fun K5 hK5 => ?_)
 refine regionX Ext [(0, .q), (1, .q), (2, .q), (3, .q), (4, .q), (5, .q), (6, .q), (7, .q), (8, .q), (9, .q), (10, .q), (11, .q), (12, .q), (13, .q), (14, .q), (15, .q), (16, .q), (17, .q), (18, .q), (19, .q), (20, .q), (21, .q), (22, .q), (23, .q), (24, .q), (25, .q), (26, .q), (27, .q), (28, .q), (29, .q), (30, .q), (31, .q), (32, .q), (33, .q), (34, .q), (35, .q), (36, .q), (37, .q), (38, .q), (39, .q)] mixed Ext.refl (fun h k => h.tr k) (by kernel_rfl) (fun w6 x6 => ?_)
 replace hE := hE.ext x6
 replace A0 := A0.ext x6
 replace K0 := K0.ext x6
 replace A3 := A3.ext x6
 have zw6 := x6.size
 refine RX.mvP rfl ?_
 refine RX.nilCheck rfl ?_
 refine RX.idxA (fun _ h => h) A0 rfl rfl Tryd.underlying143 C22 (by decide) (fun v7 h7 q7 r7 => ?_)
 refine RX.nm ?_
 simp only [lim] at r7
 subst q7
 refine RX.o (fun w' hw => D.load rfl Tryd.underlying22 rfl (h7 w' hw)) ?_
 refine RX.mvP rfl ?_
 refine RX.nilCheck rfl ?_
 refine RX.idxA (fun _ h => h) A0 rfl rfl Tryd.underlying143 C22 (by decide) (fun v8 h8 q8 r8 => ?_)
 refine RX.nm ?_
 simp only [lim] at r8
 subst q8
 refine RX.o (fun w' hw => D.load rfl Tryd.underlying22 rfl (h8 w' hw)) ?_
 refine RX.mvP rfl ?_
 refine RX.nilCheck rfl ?_
 refine RX.idxA (fun _ h => h) A0 rfl rfl Tryd.underlying143 C22 (by decide) (fun v9 h9 q9 r9 => ?_)
 refine RX.nm ?_
 simp only [lim] at r9
 subst q9
 refine RX.o (fun w' hw => D.load rfl Tryd.underlying22 rfl (h9 w' hw)) ?_
 refine RX.mvP rfl ?_
 refine RX.nilCheck rfl ?_
 refine RX.idxA (fun _ h => h) A0 rfl rfl Tryd.underlying143 C22 (by decide) (fun v10 h10 q10 r10 => ?_)
 refine RX.nm ?_
 simp only [lim] at r10
 subst q10
 refine RX.o (fun w' hw => D.load rfl Tryd.underlying22 rfl (h10 w' hw)) ?_
 refine RX.mvP rfl ?_
 refine RX.nilCheck rfl ?_
 refine RX.idxA (fun _ h => h) A0 rfl rfl Tryd.underlying143 C22 (by decide) (fun v11 h11 q11 r11 => ?_)
 refine RX.nm ?_
 simp only [lim] at r11
 subst q11
 refine RX.o (fun w' hw => D.load rfl Tryd.underlying22 rfl (h11 w' hw)) ?_
 refine RX.mvP rfl ?_
 refine RX.nilCheck rfl ?_
 refine RX.idxA (fun _ h => h) A0 rfl rfl Tryd.underlying143 C22 (by decide) (fun v12 h12 q12 r12 => ?_)
 refine RX.nm ?_
 simp only [lim] at r12
 subst q12
 refine RX.o (fun w' hw => D.load rfl Tryd.underlying22 rfl (h12 w' hw)) ?_
 refine RX.mvP rfl ?_
 refine RX.nilCheck rfl ?_
 refine RX.idxA (fun _ h => h) A0 rfl rfl Tryd.underlying143 C22 (by decide) (fun v13 h13 q13 r13 => ?_)
 refine RX.nm ?_
 simp only [lim] at r13
 subst q13
 refine RX.o (fun w' hw => D.load rfl Tryd.underlying22 rfl (h13 w' hw)) ?_
 refine RX.mvP rfl ?_
 refine RX.nilCheck rfl ?_
 refine RX.idxA (fun _ h => h) A0 rfl rfl Tryd.underlying143 C22 (by decide) (fun v14 h14 q14 r14 => ?_)
 refine RX.nm ?_
 simp only [lim] at r14
 subst q14
 refine RX.o (fun w' hw => D.load rfl Tryd.underlying22 rfl (h14 w' hw)) ?_
 refine RX.assign (v := .int _ _) rfl ?_
 refine RX.assign (v := .int _ _) rfl ?_
 refine RX.assign (v := .int _ _) rfl ?_
 refine RX.assign (v := .int _ _) rfl ?_
 refine RX.assign (v := .int _ _) rfl ?_
 refine RX.assign (v := .int _ _) rfl ?_
 refine RX.assign (v := .int _ _) rfl ?_
 refine RX.assign (v := .int _ _) rfl ?_
 refine RX.nil (hK5 _ _ ?_)
 refine wp_seq_k (fun K15 hK15 => ?_)
 refine sq fun K16 hK16 => ?_
 refine RS.mvI rfl ?_
 refine nl hK16 ?_
 refine wp_block ?_
 refine C.loop (A := Int × S.H8) (fun p => [(5, .int .u32 p.2.a), (6, .int .u32 p.2.b), (7, .int .u32 p.2.c), (8, .int .u32 p.2.d), (9, .int .u32 p.2.e), (10, .int .u32 p.2.f), (11, .int .u32 p.2.g), (12, .int .u32 p.2.h), (52, .int .i64 p.1)]) [13, 14, 15, 53, 54, 55, 56, 57, 58, 59, 60, 61, 62, 63, 64, 65, 66, 67, 68, 69, 70, 71, 72, 73, 74, 75, 76, 77, 78, 79, 80, 81, 82, 83, 84, 85, 86, 87, 88, 89, 90, 91, 92, 93, 94, 95, 96, 97, 98, 99, 100, 101, 102] (fun p w' => Ext w6 w' ∧ ((0 ≤ p.1 ∧ p.1 ≤ 64) ∧ p.2 = S.rounds (S.sch bs 48) (S.H8.of h) p.1.toNat)) (fun p => (64 - p.1.toNat)) (0, S.H8.of h) (by kernel_rfl) ?_ ?_
 ·exact ⟨Ext.refl _, ⟨by dsimp only; omega, by dsimp only; omega⟩, by show S.H8.of h = S.rounds _ _ (0 : Int).toNat; rw [show (0 : Int).toNat = 0 from rfl, S.rounds_zero]⟩
 rintro p j w17 ⟨x17, hI⟩
 replace hE := hE.ext x17
 replace A0 := A0.ext x17
 replace K0 := K0.ext x17
 replace A3 := A3.ext x17
 have zw17 := x17.size
 obtain ⟨i, st⟩ := p
 dsimp only at hI
 obtain ⟨h1, h2⟩ := hI
 have hok : st.ok := by rw [h2]; exact S.rounds_ok _ _ (S.H8.of_ok _ hhb) _
 have hst := S.ok_arr st hok
 obtain ⟨o1, o2, o3, o4, o5, o6, o7, o8⟩ := hok
 simp only [S.W32] at o1 o2 o3 o4 o5 o6 o7 o8
 refine C.norm (by simp only [upd, junk, List.map_cons, List.map_nil, List.set_cons_succ, List.set_cons_zero]; exact rfl) ?_
 refine sq fun K18 hK18 => ?_
 refine RS.o (D.lt rfl rfl) ?_
 refine nl hK18 ?_
 refine wp_seq_k (fun K19 hK19 => ?_)
 refine C.ifd rfl (fun c20 => ?_) (fun c20 => ?_)
 ·refine wp_skip ?_
  refine hK19 _ _ ?_
  refine wp_seq_k (fun K21 hK21 => ?_)
  refine wp_block ?_
  refine sq fun K22 hK22 => ?_
  refine RS.mvI rfl ?_
  refine RS.asI rfl ?_
  refine nl hK22 ?_
  refine wp_seq_k (fun K23 hK23 => ?_)
  refine regionX Ext [(0, .q), (1, .q), (4, .q), (5, .q), (6, .q), (7, .q), (8, .q), (9, .q), (10, .q), (11, .q), (13, .q), (14, .q), (15, .q), (17, .q), (18, .q), (19, .q), (2, .e), (3, .q), (12, .q), (16, .q), (20, .q), (21, .q)] mixed Ext.refl (fun h k => h.tr k) (by kernel_rfl) (fun w24 x24 => ?_)
  replace hE := hE.ext x24
  replace x17 := Ext.tr x17 x24
  replace A0 := A0.ext x24
  replace K0 := K0.ext x24
  replace A3 := A3.ext x24
  have zw24 := x24.size
  refine RX.mvI rfl ?_
  refine RX.mvI rfl ?_
  refine RX.mvI rfl ?_
  refine RX.mvI rfl ?_
  refine RX.ob (Ext.refl _) (fun w' hw => D.band_u32 rfl rfl (by omega) (by omega)) (fun z25 => ?_)
  refine RX.mvI rfl ?_
  refine RX.o (fun w' hw => D.inv rfl (by omega)) ?_
  refine RX.mvI rfl ?_
  refine RX.ob (Ext.refl _) (fun w' hw => D.band_u32 rfl rfl (by omega) (by omega)) (fun z26 => ?_)
  refine RX.ob (Ext.refl _) (fun w' hw => D.bxor_u32 rfl rfl (by omega) (by omega)) (fun z27 => ?_)
  refine RX.mvI rfl ?_
  refine RX.idxK (fun _ h => h) K0 rfl rfl Tryd.underlying162 C22 (by omega) (fun v28 h28 q28 r28 => ?_)
  refine RX.nm ?_
  simp only [lim] at r28
  have qk := q28
  refine RX.o (fun w' hw => D.load rfl Tryd.underlying22 rfl (h28 w' hw)) ?_
  refine RX.mvI rfl ?_
  refine RX.idxA (fun _ h => h) A3 rfl rfl Tryd.underlying162 C22 (by omega) (fun v29 h29 q29 r29 => ?_)
  refine RX.nm ?_
  simp only [lim] at r29
  have qw := q29
  refine RX.o (fun w' hw => D.load rfl Tryd.underlying22 rfl (h29 w' hw)) ?_
  refine RX.eff ?_
  refine RS.call E136 (mix st.e (by omega) _ (by omega) _ (by omega) _ (by omega) _) rfl (fun v30 w30 x30 A30 => ?_)
  replace hE := hE.ext x30
  replace x17 := Ext.tr x17 x30
  replace A0 := A0.ext x30
  replace K0 := K0.ext x30
  replace A3 := A3.ext x30
  have zw30 := x30.size
  subst A30
  have g30 := S.mix_bd st.e 6 11 25 (by omega)
  refine RS.nm ?_
  refine RS.nil ⟨x30, ?_⟩
  refine RX.o (fun w' hw => D.add rfl rfl (W.u32m _)) ?_
  refine RX.o (fun w' hw => D.add rfl rfl (W.u32m _)) ?_
  refine RX.o (fun w' hw => D.add rfl rfl (W.u32m _)) ?_
  refine RX.o (fun w' hw => D.add rfl rfl (W.u32m _)) ?_
  refine RX.assign (v := .int _ _) rfl ?_
  refine RX.nil (hK23 _ _ ?_)
  refine sq fun K31 hK31 => ?_
  refine RS.mvI rfl ?_
  refine RS.call E136 (mix st.a (by omega) _ (by omega) _ (by omega) _ (by omega) _) rfl (fun v32 w32 x32 A32 => ?_)
  replace hE := hE.ext x32
  replace x17 := Ext.tr x17 x32
  replace A0 := A0.ext x32
  replace K0 := K0.ext x32
  replace A3 := A3.ext x32
  have zw32 := x32.size
  subst A32
  have g32 := S.mix_bd st.a 2 13 22 (by omega)
  refine RS.nm ?_
  refine RS.mvI rfl ?_
  refine RS.mvI rfl ?_
  refine RS.ob (D.band_u32 rfl rfl (by omega) (by omega)) (fun z33 => ?_)
  refine RS.mvI rfl ?_
  refine RS.mvI rfl ?_
  refine RS.ob (D.band_u32 rfl rfl (by omega) (by omega)) (fun z34 => ?_)
  refine RS.ob (D.bxor_u32 rfl rfl (by omega) (by omega)) (fun z35 => ?_)
  refine RS.mvI rfl ?_
  refine RS.mvI rfl ?_
  refine RS.ob (D.band_u32 rfl rfl (by omega) (by omega)) (fun z36 => ?_)
  refine RS.ob (D.bxor_u32 rfl rfl (by omega) (by omega)) (fun z37 => ?_)
  refine RS.o (D.add rfl rfl (W.u32m _)) ?_
  refine RS.asI rfl ?_
  refine nl hK31 ?_
  refine region ?_
  refine RS.mvI rfl ?_
  refine RS.mvI rfl ?_
  refine RS.o (D.add rfl rfl (W.u32m _)) ?_
  refine RS.mvI rfl ?_
  refine RS.mvI rfl ?_
  refine RS.mvI rfl ?_
  refine RS.mvI rfl ?_
  refine RS.mvI rfl ?_
  refine RS.o (D.add rfl rfl (W.u32m _)) ?_
  refine RS.mvI rfl ?_
  refine RS.mvI rfl ?_
  refine RS.mvI rfl ?_
  refine RS.asI rfl ?_
  refine RS.asI rfl ?_
  refine RS.asI rfl ?_
  refine RS.asI rfl ?_
  refine RS.asI rfl ?_
  refine RS.asI rfl ?_
  refine RS.asI rfl ?_
  refine RS.asI rfl ?_
  refine nl hK21 ?_
  refine region ?_
  refine RS.o (D.add rfl rfl (W.i64 (by omega))) ?_
  refine RS.mvI rfl ?_
  refine RS.nil ?_
  change Nx _ _ _ _ _ _ _ _
  refine C.next (i + 1, S.rnd v28 v29 st) ⟨rfl, rfl, rfl, rfl, rfl, rfl, rfl, rfl, rfl, trivial⟩ (by kernel_rfl) ?_ ?_
  ·refine ⟨x17, ⟨by dsimp only; omega, by dsimp only; omega⟩, ?_⟩
   dsimp only
   rw [show (i + 1).toNat = i.toNat + 1 by omega, S.rounds_succ, ← h2, qk, qw]
  dsimp only; omega
 refine wp_exit ?_
 refine hK15 _ _ ?_
 refine sq fun K38 hK38 => ?_
 refine RS.mvI rfl ?_
 refine RS.mvI rfl ?_
 refine RS.mvI rfl ?_
 refine RS.mvI rfl ?_
 refine RS.mvI rfl ?_
 refine RS.mvI rfl ?_
 refine RS.mvI rfl ?_
 refine RS.mvI rfl ?_
 refine RS.o (D.buildArr (xs := [.tmp 103, .tmp 104, .tmp 105, .tmp 106, .tmp 107, .tmp 108, .tmp 109, .tmp 110]) (vs := ints .u32 [_, _, _, _, _, _, _, _]) Tryd.underlying143 T143 (by simp [ints]) C22 rfl rfl rfl (by intro v hv; obtain ⟨x, _, rfl⟩ := List.mem_map.1 hv; rfl)) ?_
 refine RS.mvI rfl ?_
 refine nl hK38 ?_
 refine wp_block ?_
 refine C.loop (A := Int × List Int) (fun p => [(112, .int .i64 p.1)]) [16, 17, 113, 114, 115, 116, 117, 118, 119, 120, 121, 122, 123, 124, 125] (fun p w' => Pr (fun k => k = b) w17 w' ∧ (IArr .u32 w' b 8 p.2 tl T ∧ (0 ≤ p.1 ∧ p.1 ≤ 8) ∧ p.2 = (S.addW h st.toL).take p.1.toNat ++ h.drop p.1.toNat)) (fun p => (8 - p.1.toNat)) (0, h) (by kernel_rfl) ?_ ?_
 ·exact ⟨Pr.refl _ _, A0, ⟨by dsimp only; omega, by dsimp only; omega⟩, rfl⟩
 rintro p j w39 ⟨x39, hI⟩
 replace hE := hE.prno x39
 replace K0 := K0.pro x39
 replace A3 := A3.pro x39
 have zw39 := x39.size
 obtain ⟨j, xs⟩ := p
 dsimp only at hI
 obtain ⟨A0, g1, g2⟩ := hI
 have hxl := A0.len
 refine C.norm (by simp only [upd, junk, List.map_cons, List.map_nil, List.set_cons_succ, List.set_cons_zero]; exact rfl) ?_
 refine sq fun K40 hK40 => ?_
 refine RS.o (D.lt rfl rfl) ?_
 refine nl hK40 ?_
 refine wp_seq_k (fun K41 hK41 => ?_)
 refine C.ifd rfl (fun c42 => ?_) (fun c42 => ?_)
 ·refine wp_skip ?_
  refine hK41 _ _ ?_
  refine wp_seq_k (fun K43 hK43 => ?_)
  refine wp_block ?_
  refine sq fun K44 hK44 => ?_
  refine RS.mvI rfl ?_
  refine RS.idxV rfl rfl Tryd.underlying143 Tryd.underlying22 rfl C22 (by omega) hst.1 hst.2 (fun v45 q45 r45 => ?_)
  refine RS.nm ?_
  simp only [lim] at r45
  have qy := q45
  refine RS.asI rfl ?_
  refine RS.asI rfl ?_
  refine nl hK44 ?_
  refine regionX Ext [(0, .q), (1, .q), (2, .q), (3, .q), (4, .q), (5, .q), (6, .q), (7, .q), (8, .q), (9, .g)] mixed Ext.refl (fun h k => h.tr k) (by kernel_rfl) (fun w46 x46 => ?_)
  replace hE := hE.ext x46
  replace x39 := x39.ext x46
  replace A0 := A0.ext x46
  replace K0 := K0.ext x46
  replace A3 := A3.ext x46
  have zw46 := x46.size
  refine RX.mvP rfl ?_
  refine RX.mvI rfl ?_
  refine RX.nilCheck rfl ?_
  refine RX.idxA (fun _ h => h) A0 rfl rfl Tryd.underlying143 C22 (by omega) (fun v47 h47 q47 r47 => ?_)
  refine RX.nm ?_
  simp only [lim] at r47
  have qz := q47
  refine RX.o (fun w' hw => D.load rfl Tryd.underlying22 rfl (h47 w' hw)) ?_
  refine RX.mvI rfl ?_
  refine RX.o (fun w' hw => D.add rfl rfl (W.u32m _)) ?_
  refine RX.nilCheck rfl ?_
  refine RX.idxA (fun _ h => h) A0 rfl rfl Tryd.underlying143 C22 (by omega) (fun v48 h48 q48 r48 => ?_)
  refine RX.nm ?_
  simp only [lim] at r48
  refine RX.big ?_
  refine RS.storeA A0 rfl rfl C22 (by omega) (by simp only [lim]; omega) (fun w49 y49 N49 => ?_)
  replace hE := hE.stno y49
  replace x39 := x39.stno y49
  replace K0 := K0.sto y49
  replace A3 := A3.sto y49
  have zw49 := y49.size
  replace A0 := N49
  refine RS.nil ?_
  refine RX.nil (hK43 _ _ ?_)
  refine region ?_
  refine RS.o (D.add rfl rfl (W.i64 (by omega))) ?_
  refine RS.mvI rfl ?_
  refine RS.nil ?_
  change Nx _ _ _ _ _ _ _ _
  refine C.next (j + 1, xs.set j.toNat ((v47 + v45) % 4294967296)) ⟨rfl, trivial⟩ (by kernel_rfl) ?_ ?_
  ·refine ⟨x39, A0, ⟨by dsimp only; omega, by dsimp only; omega⟩, ?_⟩
   dsimp only
   have e := S.add_step h st.toL xs j (by omega) hxl g2 hhl
   rw [qz, qy]
   exact e
  dsimp only; omega
 refine wp_exit ?_
 change bodyPost Tryd.prog Tryd.f128 (fun e w' => e = .returned (.tuple #[]) ∧ Pr (fun k => k = b) w w' ∧ IArr .u32 w' b 8 (S.grind h bs) tl T) .normal _ _
 refine retN (rs := []) (vs := []) rfl trivial rfl ?_
 refine ⟨rfl, hE, ?_⟩
 have e9 : xs = S.grind h bs := by rw [g2, show j.toNat = 8 by omega, List.take_of_length_le (by rw [S.addW_len]; omega), List.drop_eq_nil_of_le (by omega), List.append_nil, S.grind_eq, show (64 : Nat) = i.toNat by omega, ← h2]
 rw [← e9]
 exact A0
end Go.Proofs.YtiohpiiiapjblaaDoor.W
namespace Go.Proofs.YtiohpiiiapjblaaDoor.W
open Go.RowKit Go.Proofs.YtiohpiiiapjblaaDoor.G
set_option linter.unusedVariables false
set_option maxRecDepth 20000
set_option maxHeartbeats 8000000
attribute [local irreducible] RS RX
theorem C3 : Tryd.prog.cellsOf 3 = 1 := by kernel_rfl
theorem C35 : Tryd.prog.cellsOf 35 = 1 := by kernel_rfl
theorem C42 : Tryd.prog.cellsOf 42 = 32 := by kernel_rfl
theorem C143 : Tryd.prog.cellsOf 143 = 8 := by kernel_rfl
theorem C145 : Tryd.prog.cellsOf 145 = 10 := by kernel_rfl
theorem T5 : TI Tryd.prog 5 1 1 [.int .u8 0] := by
 have h : (Tryd.prog.info? 5).map (fun i => (i.size, i.bytes, i.zero)) = some (1, 1, some (.int .u8 0)) := by kernel_rfl
 exact TI.of h rfl
theorem T35 : TI Tryd.prog 35 1 24 [.slice none 0 0] := by
 have h : (Tryd.prog.info? 35).map (fun i => (i.size, i.bytes, i.zero)) = some (1, 24, some (.slice none 0 0)) := by kernel_rfl
 exact TI.of h rfl
theorem T42 : TI Tryd.prog 42 32 32 (ints .u8 (List.replicate 32 0)) := by
 have h : (Tryd.prog.info? 42).map (fun i => (i.size, i.bytes, i.zero)) = some (32, 32, some (.agg #[.int .u8 0, .int .u8 0, .int .u8 0, .int .u8 0, .int .u8 0, .int .u8 0, .int .u8 0, .int .u8 0, .int .u8 0, .int .u8 0, .int .u8 0, .int .u8 0, .int .u8 0, .int .u8 0, .int .u8 0, .int .u8 0, .int .u8 0, .int .u8 0, .int .u8 0, .int .u8 0, .int .u8 0, .int .u8 0, .int .u8 0, .int .u8 0, .int .u8 0, .int .u8 0, .int .u8 0, .int .u8 0, .int .u8 0, .int .u8 0, .int .u8 0, .int .u8 0])) := by kernel_rfl
 exact TI.of h rfl
theorem T145 : TI Tryd.prog 145 10 64 (ints .u32 (List.replicate 8 0) ++ [.slice none 0 0, .int .i64 0]) := by
 have h : (Tryd.prog.info? 145).map (fun i => (i.size, i.bytes, i.zero)) = some (10, 64, some (.agg #[.int .u32 0, .int .u32 0, .int .u32 0, .int .u32 0, .int .u32 0, .int .u32 0, .int .u32 0, .int .u32 0, .slice none 0 0, .int .i64 0])) := by kernel_rfl
 exact TI.of h rfl
theorem F145 : SI Tryd.prog 145 [(0, 8), (8, 1), (9, 1)] := ⟨_, Tryd.underlying145, by kernel_rfl, by kernel_rfl⟩
theorem E43 : Enters Tryd.prog 43 := .mk Tryd.func43 (by kernel_rfl) rfl
theorem E80 : Enters Tryd.prog 80 := .mk Tryd.func80 (by kernel_rfl) rfl
theorem E110 : Enters Tryd.prog 110 := .mk Tryd.func110 (by kernel_rfl) rfl
theorem E112 : Enters Tryd.prog 112 := .mk Tryd.func112 (by kernel_rfl) rfl
theorem E127 : Enters Tryd.prog 127 := .mk Tryd.func127 (by kernel_rfl) rfl
theorem E128 : Enters Tryd.prog 128 := .mk Tryd.func128 (by kernel_rfl) rfl
theorem E129 : Enters Tryd.prog 129 := .mk Tryd.func129 (by kernel_rfl) rfl
theorem start  (w : World) :
  Calls Tryd.prog 111 #[] w (Ret w fun v _ => v = .agg (ints .u32 S.IV ++ ([.slice none 0 0, .int .i64 0] : List Value)).toArray) := by
 have hIV := S.IV_arr
 have hE := Ext.refl w
 refine enterU 3 Tryd.func111 rfl rfl ?_
 refine sq fun K1 hK1 => ?_
 refine RS.alloc T145 (fun b2 w2 e2 s2 x2 B2 => ?_)
 refine RS.nm ?_
 replace hE := Ext.tr hE x2
 have zw2 := x2.size
 have A2 : IArr .u32 w2 b2 8 (List.replicate 8 0) [.slice none 0 0, .int .i64 0] 145 := ⟨B2, by simp, Bd.zeros _ _⟩
 clear B2
 refine nl hK1 ?_
 refine sq fun K3 hK3 => ?_
 refine RS.o (D.buildArr (xs := [.const (.int .u32 1779033703), .const (.int .u32 3144134277), .const (.int .u32 1013904242), .const (.int .u32 2773480762), .const (.int .u32 1359893119), .const (.int .u32 2600822924), .const (.int .u32 528734635), .const (.int .u32 1541459225)]) (vs := ints .u32 [_, _, _, _, _, _, _, _]) Tryd.underlying143 T143 (by simp [ints]) C22 rfl rfl rfl (by intro v hv; obtain ⟨x, _, rfl⟩ := List.mem_map.1 hv; rfl)) ?_
 refine RS.o (D.buildS T145 F145 (ps := [(0, .agg _)]) rfl (show G.fillL _ _ _ = some (ints .u32 S.IV ++ ([.slice none 0 0, .int .i64 0] : List Value)) from rfl)) ?_
 refine RS.storeRec A2 rfl rfl C145 (by decide) (by assumption) rfl rfl (by intro v hv; simp at hv; rcases hv with rfl | rfl <;> rfl) (fun w4 y4 N4 => ?_)
 replace hE := hE.trans (y4.belo)
 have zw4 := y4.size
 replace A2 := N4
 refine nl hK3 ?_
 refine wp_ret ?_
 refine ret (rs := [.cell 0 145]) (vs := [.agg _]) (v := (.agg _)) rfl ⟨⟨_, rfl, loadVar_agg Tryd.underlying145 rfl C145 (by decide) (A2.allLen rfl) A2.all⟩, trivial⟩ rfl ?_
 exact ⟨_, rfl, hE, rfl⟩
theorem first  (w : World) :
  Calls Tryd.prog 119 #[] w (Ret w fun v _ => v = .agg (ints .u32 S.IV).toArray) := by
 have hE := Ext.refl w
 refine enterU 2 Tryd.func119 rfl rfl ?_
 refine sq fun K1 hK1 => ?_
 refine RS.alloc T143 (fun b2 w2 e2 s2 x2 B2 => ?_)
 refine RS.nm ?_
 replace hE := Ext.tr hE x2
 have zw2 := x2.size
 have A2 : IArr .u32 w2 b2 8 (List.replicate 8 0) [] 143 := IArr.zero B2
 clear B2
 refine nl hK1 ?_
 refine sq fun K3 hK3 => ?_
 refine RS.o (D.buildArr (xs := [.const (.int .u32 1779033703), .const (.int .u32 3144134277), .const (.int .u32 1013904242), .const (.int .u32 2773480762), .const (.int .u32 1359893119), .const (.int .u32 2600822924), .const (.int .u32 528734635), .const (.int .u32 1541459225)]) (vs := ints .u32 [_, _, _, _, _, _, _, _]) Tryd.underlying143 T143 (by simp [ints]) C22 rfl rfl rfl (by intro v hv; obtain ⟨x, _, rfl⟩ := List.mem_map.1 hv; rfl)) ?_
 refine RS.storeArr A2 rfl rfl C143 (by decide) S.IV_arr.1 S.IV_arr.2 (fun w4 y4 N4 => ?_)
 replace hE := hE.trans (y4.belo)
 have zw4 := y4.size
 replace A2 := N4
 refine nl hK3 ?_
 refine wp_ret ?_
 refine ret (rs := [.cell 0 143]) (vs := [.agg _]) (v := (.agg _)) rfl ⟨⟨_, rfl, loadVar_agg Tryd.underlying143 rfl C143 (by decide) (by rw [ints_length, A2.len]) A2.cells⟩, trivial⟩ rfl ?_
 exact ⟨_, rfl, hE, rfl⟩
theorem piece1 (a : Option Addr) (n c : Nat) (hn : n ≤ 10000) (w : World) :
  Calls Tryd.prog 110 #[.slice a n c] w (Ret w fun v _ => v = .bool false) := by
 have hE := Ext.refl w
 refine enterU 5 Tryd.func110 rfl rfl ?_
 refine sq fun K1 hK1 => ?_
 refine RS.asB rfl ?_
 refine nl hK1 ?_
 refine sq fun K2 hK2 => ?_
 refine RS.mvS rfl ?_
 refine RS.o (D.len rfl Tryd.underlying35) ?_
 refine RS.o (D.gt rfl rfl) ?_
 refine RS.asB rfl ?_
 refine nl hK2 ?_
 refine wp_ret ?_
 refine retB rfl rfl ?_
 refine ⟨_, rfl, hE, ?_⟩
 exact congrArg Value.bool (decide_eq_false (by omega))
theorem cloneB {S0 : Nat → Prop} (a : Option Addr) (n c : Nat) (xs : List Int) (w : World) (R0 : IRow .u8 S0 w a n xs) (hn : n ≤ 1000000) :
  Calls Tryd.prog 129 #[.slice a n c] w (Ret w fun v w' => ∃ a' n' c', v = .slice a' n' c' ∧ IOwn w.heap.size w' 5 .u8 a' n' c' xs) := by
 replace R0 := R0.weaken (T := fun k => k < w.heap.size) (fun k hk _ => hk)
 have hE := Ext.refl w
 refine enterU 7 Tryd.func129 rfl rfl ?_
 refine sq fun K1 hK1 => ?_
 refine RS.asS rfl ?_
 refine nl hK1 ?_
 refine wp_seq_k (fun K2 hK2 => ?_)
 refine sq fun K3 hK3 => ?_
 refine RS.mvS rfl ?_
 refine RS.o (D.nilS rfl rfl Tryd.underlying35) ?_
 refine nl hK3 ?_
 refine C.ifb rfl (fun c4 => ?_) (fun c4 => ?_)
 ·have hc := c4
  refine sq fun K5 hK5 => ?_
  refine RS.asS rfl ?_
  refine nl hK5 ?_
  refine wp_ret ?_
  refine ret (rs := [.tmp 2]) (vs := [.slice _ _ _]) (v := (.slice _ _ _)) rfl ⟨rfl, trivial⟩ rfl ?_
  obtain ⟨rfl, rfl⟩ := R0.none hc
  exact ⟨_, rfl, hE, _, _, _, rfl, IOwn.nil _ _ _ _⟩
 refine wp_skip ?_
 refine hK2 _ _ ?_
 refine sq fun K6 hK6 => ?_
 refine RS.buildNone Tryd.underlying35 T5 (fun b7 w7 e7 s7 x7 B7 => ?_)
 refine RS.nm ?_
 replace hE := Ext.tr hE x7
 replace R0 := R0.ext x7
 have zw7 := x7.size
 have O1 : IOwn w.heap.size w7 5 .u8 (some ⟨b7, 0, none⟩) 0 0 [] := IOwn.of_blk B7 rfl rfl (by omega) (Bd.nil _) (by decide)
 refine RS.mvS rfl ?_
 refine RS.appendI O1 R0 rfl rfl Tryd.underlying35 T5 rfl (by omega) (by decide) (by omega) (fun a8 c8 w8 N8 x8 => ?_)
 refine RS.nm ?_
 replace hE := hE.trans (x8.below (by intros; try (first | (intro _ _) | (intro _) | skip); first | omega | (have hq := O1.lo _ (by assumption); first | omega | (dsimp only at *; omega))) (by intros; try (first | (intro _ _) | (intro _) | skip); first | omega | (dsimp only at *; omega) | (simp_all; done) | (simp at *; omega)))
 replace R0 := R0.pr x8 (by intros; try (first | (intro _ _) | (intro _) | skip); first | omega | (have hq := O1.lo _ (by assumption); first | omega | (dsimp only at *; omega)))
 have zw8 := x8.size
 replace O1 := N8
 refine RS.asS rfl ?_
 refine nl hK6 ?_
 refine wp_ret ?_
 refine ret (rs := [.tmp 2]) (vs := [.slice _ _ _]) (v := (.slice _ _ _)) rfl ⟨rfl, trivial⟩ rfl ?_
 exact ⟨_, rfl, hE, _, _, _, rfl, O1⟩
theorem cloneB2 {S0 : Nat → Prop} (a : Option Addr) (n c : Nat) (xs : List Int) (w : World) (R0 : IRow .u8 S0 w a n xs) (hn : n ≤ 1000000) :
  Calls Tryd.prog 107 #[.slice a n c] w (Ret w fun v w' => ∃ a' n' c', v = .slice a' n' c' ∧ IOwn w.heap.size w' 5 .u8 a' n' c' xs) := by
 replace R0 := R0.weaken (T := fun k => k < w.heap.size) (fun k hk _ => hk)
 have hE := Ext.refl w
 refine enterU 7 Tryd.func107 rfl rfl ?_
 refine sq fun K1 hK1 => ?_
 refine RS.asS rfl ?_
 refine nl hK1 ?_
 refine wp_seq_k (fun K2 hK2 => ?_)
 refine sq fun K3 hK3 => ?_
 refine RS.mvS rfl ?_
 refine RS.o (D.nilS rfl rfl Tryd.underlying35) ?_
 refine nl hK3 ?_
 refine C.ifb rfl (fun c4 => ?_) (fun c4 => ?_)
 ·have hc := c4
  refine sq fun K5 hK5 => ?_
  refine RS.asS rfl ?_
  refine nl hK5 ?_
  refine wp_ret ?_
  refine ret (rs := [.tmp 2]) (vs := [.slice _ _ _]) (v := (.slice _ _ _)) rfl ⟨rfl, trivial⟩ rfl ?_
  obtain ⟨rfl, rfl⟩ := R0.none hc
  exact ⟨_, rfl, hE, _, _, _, rfl, IOwn.nil _ _ _ _⟩
 refine wp_skip ?_
 refine hK2 _ _ ?_
 refine sq fun K6 hK6 => ?_
 refine RS.buildNone Tryd.underlying35 T5 (fun b7 w7 e7 s7 x7 B7 => ?_)
 refine RS.nm ?_
 replace hE := Ext.tr hE x7
 replace R0 := R0.ext x7
 have zw7 := x7.size
 have O1 : IOwn w.heap.size w7 5 .u8 (some ⟨b7, 0, none⟩) 0 0 [] := IOwn.of_blk B7 rfl rfl (by omega) (Bd.nil _) (by decide)
 refine RS.mvS rfl ?_
 refine RS.appendI O1 R0 rfl rfl Tryd.underlying35 T5 rfl (by omega) (by decide) (by omega) (fun a8 c8 w8 N8 x8 => ?_)
 refine RS.nm ?_
 replace hE := hE.trans (x8.below (by intros; try (first | (intro _ _) | (intro _) | skip); first | omega | (have hq := O1.lo _ (by assumption); first | omega | (dsimp only at *; omega))) (by intros; try (first | (intro _ _) | (intro _) | skip); first | omega | (dsimp only at *; omega) | (simp_all; done) | (simp at *; omega)))
 replace R0 := R0.pr x8 (by intros; try (first | (intro _ _) | (intro _) | skip); first | omega | (have hq := O1.lo _ (by assumption); first | omega | (dsimp only at *; omega)))
 have zw8 := x8.size
 replace O1 := N8
 refine RS.asS rfl ?_
 refine nl hK6 ?_
 refine wp_ret ?_
 refine ret (rs := [.tmp 2]) (vs := [.slice _ _ _]) (v := (.slice _ _ _)) rfl ⟨rfl, trivial⟩ rfl ?_
 exact ⟨_, rfl, hE, _, _, _, rfl, O1⟩
theorem grow (m : Int) (hm : 0 ≤ m ∧ m ≤ 1000000) (w : World) :
  Calls Tryd.prog 80 #[.slice none 0 0, .int .i64 m] w (Ret w fun v w' => ∃ a' c', v = .slice a' 0 c' ∧ IOwn w.heap.size w' 5 .u8 a' 0 c' []) := by
 have O1 := IOwn.nil w.heap.size w 5 .u8
 have hE := Ext.refl w
 refine enterU 25 Tryd.func80 rfl rfl ?_
 refine sq fun K1 hK1 => ?_
 refine RS.asS rfl ?_
 refine nl hK1 ?_
 refine wp_seq_k (fun K2 hK2 => ?_)
 refine sq fun K3 hK3 => ?_
 refine RS.mvI rfl ?_
 refine RS.o (D.lt rfl rfl) ?_
 refine nl hK3 ?_
 refine C.ifd rfl (fun c4 => ?_) (fun c4 => ?_)
 ·exact absurd c4 (by omega)
 refine wp_skip ?_
 refine hK2 _ _ ?_
 refine wp_seq_k (fun K5 hK5 => ?_)
 refine sq fun K6 hK6 => ?_
 refine RS.mvI rfl ?_
 refine RS.mvS rfl ?_
 refine RS.o (D.cap rfl Tryd.underlying35) ?_
 refine RS.mvS rfl ?_
 refine RS.o (D.len rfl Tryd.underlying35) ?_
 refine RS.o (D.sub rfl rfl (W.i64 (by omega))) ?_
 refine RS.o (D.sub rfl rfl (W.i64 (by omega))) ?_
 refine RS.asI rfl ?_
 refine nl hK6 ?_
 refine sq fun K7 hK7 => ?_
 refine RS.mvI rfl ?_
 refine RS.o (D.gt rfl rfl) ?_
 refine nl hK7 ?_
 refine C.ifd rfl (fun c8 => ?_) (fun c8 => ?_)
 ·refine region ?_
  refine RS.mvS rfl ?_
  refine RS.mvS rfl ?_
  refine RS.o (D.cap rfl Tryd.underlying35) ?_
  refine RS.o (D.slice (kl := .i64) (kh := .i64) rfl Tryd.underlying35 C5 (by decide) rfl rfl (by omega) (by omega)) ?_
  refine RS.mvI rfl ?_
  refine RS.appendZ O1 rfl rfl (by omega) Tryd.underlying35 Tryd.underlying3 T5 (by omega) (by decide) (by omega) (fun a9 c9 w9 N9 x9 => ?_)
  refine RS.nm ?_
  replace hE := hE.trans (x9.below (by intros; try (first | (intro _ _) | (intro _) | skip); first | omega | (have hq := O1.lo _ (by assumption); first | omega | (dsimp only at *; omega))) (by intros; try (first | (intro _ _) | (intro _) | skip); first | omega | (dsimp only at *; omega) | (simp_all; done) | (simp at *; omega)))
  have zw9 := x9.size
  replace O1 := N9
  refine RS.nm ?_
  have hcap := O1.own.cap
  refine RS.mvS rfl ?_
  refine RS.o (D.len rfl Tryd.underlying35) ?_
  refine RS.o (D.slice (kl := .i64) (kh := .i64) rfl Tryd.underlying35 C5 (by decide) rfl rfl (by omega) (by omega)) ?_
  refine RS.asS rfl ?_
  refine nl hK5 ?_
  refine sq fun K10 hK10 => ?_
  refine RS.mvS rfl ?_
  refine RS.asS rfl ?_
  refine nl hK10 ?_
  refine wp_ret ?_
  refine ret (rs := [.tmp 4]) (vs := [.slice _ _ _]) (v := (.slice _ _ _)) rfl ⟨rfl, trivial⟩ rfl ?_
  refine ⟨_, rfl, hE, _, _, ?_, O1.pre (Nat.zero_le _)⟩
  refine Eq.trans (congrArg (fun a => Value.slice a 0 _) (subA_zero _ _ _)) ?_
  rfl
 refine wp_skip ?_
 refine hK5 _ _ ?_
 refine sq fun K11 hK11 => ?_
 refine RS.mvS rfl ?_
 refine RS.asS rfl ?_
 refine nl hK11 ?_
 refine wp_ret ?_
 refine ret (rs := [.tmp 4]) (vs := [.slice _ _ _]) (v := (.slice _ _ _)) rfl ⟨rfl, trivial⟩ rfl ?_
 exact ⟨_, rfl, hE, _, _, rfl, O1⟩
theorem concat {S0 : Nat → Prop} (ps : List Pc) (a : Option Addr) (n c : Nat) (w : World) (P0 : PRow .u8 S0 w a n ps) (hn : n ≤ 1000) (hT : (cat ps).length ≤ 1000000) :
  Calls Tryd.prog 43 #[.slice a n c] w (Ret w fun v w' => ∃ a' n' c', v = .slice a' n' c' ∧ IOwn w.heap.size w' 5 .u8 a' n' c' (cat ps)) := by
 replace P0 := P0.weaken (T := fun k => k < w.heap.size) (fun k hk _ => hk)
 have hPl := P0.len
 have hE := Ext.refl w
 refine enterU 35 Tryd.func43 rfl rfl ?_
 refine sq fun K1 hK1 => ?_
 refine RS.asS rfl ?_
 refine nl hK1 ?_
 refine sq fun K2 hK2 => ?_
 refine RS.asI rfl ?_
 refine nl hK2 ?_
 refine wp_seq_k (fun K3 hK3 => ?_)
 refine sq fun K4 hK4 => ?_
 refine RS.mvS rfl ?_
 refine RS.o (D.len rfl Tryd.underlying70) ?_
 refine RS.mvI rfl ?_
 refine nl hK4 ?_
 refine wp_block ?_
 refine C.loop (A := Int × Int) (fun p => [(3, .int .i64 p.2), (11, .int .i64 p.1)]) [5, 12, 13, 14, 15, 16, 17, 18, 19, 20, 21, 22] (fun p w' => Ext w w' ∧ ((0 ≤ p.1 ∧ p.1 ≤ n) ∧ p.2 = ((cat (ps.take p.1.toNat)).length : Int))) (fun p => (n - p.1.toNat)) (0, 0) (by kernel_rfl) ?_ ?_
 ·exact ⟨Ext.refl _, ⟨by decide, by dsimp only; omega⟩, rfl⟩
 rintro p j w5 ⟨x5, hI⟩
 replace hE := Ext.tr hE x5
 replace P0 := P0.ext x5
 have zw5 := x5.size
 obtain ⟨i, s⟩ := p
 dsimp only at hI
 obtain ⟨h1, h2⟩ := hI
 have h3 := cat_le ps i.toNat
 refine C.norm (by simp only [upd, junk, List.map_cons, List.map_nil, List.set_cons_succ, List.set_cons_zero]; exact rfl) ?_
 refine sq fun K6 hK6 => ?_
 refine RS.o (D.lt rfl rfl) ?_
 refine nl hK6 ?_
 refine wp_seq_k (fun K7 hK7 => ?_)
 refine C.ifd rfl (fun c8 => ?_) (fun c8 => ?_)
 ·refine wp_skip ?_
  refine hK7 _ _ ?_
  refine wp_seq_k (fun K9 hK9 => ?_)
  refine wp_block ?_
  refine sq fun K10 hK10 => ?_
  refine RS.idxP P0 rfl rfl Tryd.underlying70 C35 (by omega) (fun b11 o11 p11 h11 q11 F11 G11 => ?_)
  refine RS.nm ?_
  have k1 := cat_snoc ps i.toNat (by omega)
  rw [← q11] at k1
  have k2 := cat_le ps (i.toNat + 1)
  have k3 := congrArg List.length k1
  rw [List.length_append, F11.len] at k3
  refine RS.o (D.load rfl Tryd.underlying35 rfl (h11)) ?_
  refine RS.asS rfl ?_
  refine nl hK10 ?_
  refine sq fun K12 hK12 => ?_
  refine RS.mvI rfl ?_
  refine RS.mvS rfl ?_
  refine RS.o (D.len rfl Tryd.underlying35) ?_
  refine RS.o (D.add rfl rfl (W.i64 (by omega))) ?_
  refine RS.asI rfl ?_
  refine nl hK12 ?_
  refine sq fun K13 hK13 => ?_
  refine RS.mvI rfl ?_
  refine RS.o (D.lt rfl rfl) ?_
  refine nl hK13 ?_
  refine C.ifd rfl (fun c14 => ?_) (fun c14 => ?_)
  ·exact absurd c14 (by omega)
  refine wp_skip ?_
  refine hK9 _ _ ?_
  refine region ?_
  refine RS.o (D.add rfl rfl (W.i64 (by omega))) ?_
  refine RS.mvI rfl ?_
  refine RS.nil ?_
  change Nx _ _ _ _ _ _ _ _
  refine C.next (_, _) ⟨rfl, rfl, trivial⟩ (by kernel_rfl) ?_ ?_
  ·refine ⟨x5, ⟨by dsimp only; omega, by dsimp only; omega⟩, ?_⟩
   dsimp only
   rw [show (i + 1).toNat = i.toNat + 1 by omega]
   omega
  dsimp only; omega
 have e0 : ps.take i.toNat = ps := List.take_of_length_le (by omega)
 rw [e0] at h2
 refine wp_exit ?_
 refine hK3 _ _ ?_
 refine sq fun K15 hK15 => ?_
 refine RS.mvI rfl ?_
 refine RS.call E80 (grow _ (by omega) _) rfl (fun v16 w16 x16 A16 => ?_)
 replace hE := Ext.tr hE x16
 replace P0 := P0.ext x16
 have zw16 := x16.size
 obtain ⟨a16, c16, rfl, O1⟩ := A16
 replace O1 := O1.base (lo' := w.heap.size) (fun k hk => by have := O1.lo k hk; omega)
 refine RS.nm ?_
 refine RS.asS rfl ?_
 refine nl hK15 ?_
 refine wp_seq_k (fun K17 hK17 => ?_)
 refine sq fun K18 hK18 => ?_
 refine RS.mvS rfl ?_
 refine RS.o (D.len rfl Tryd.underlying70) ?_
 refine RS.mvI rfl ?_
 refine nl hK18 ?_
 refine wp_block ?_
 refine C.loop (A := Int × Option Addr × Nat × Nat) (fun p => [(6, .slice p.2.1 p.2.2.1 p.2.2.2), (27, .int .i64 p.1)]) [8, 28, 29, 30, 31, 32, 33, 34] (fun p w' => Pr (fun k => w.heap.size ≤ k) w16 w' ∧ ((0 ≤ p.1 ∧ p.1 ≤ n) ∧ IOwn w.heap.size w' 5 .u8 p.2.1 p.2.2.1 p.2.2.2 (cat (ps.take p.1.toNat)))) (fun p => (n - p.1.toNat)) (0, a16, 0, c16) (by kernel_rfl) ?_ ?_
 ·exact ⟨Pr.refl _ _, ⟨by dsimp only; omega, by dsimp only; omega⟩, O1⟩
 rintro p j w19 ⟨x19, hI⟩
 replace hE := hE.trans (x19.belo)
 replace P0 := P0.pro x19
 have zw19 := x19.size
 obtain ⟨j, a1, n1, c1⟩ := p
 dsimp only at hI
 obtain ⟨g1, O1⟩ := hI
 refine C.norm (by simp only [upd, junk, List.map_cons, List.map_nil, List.set_cons_succ, List.set_cons_zero]; exact rfl) ?_
 refine sq fun K20 hK20 => ?_
 refine RS.o (D.lt rfl rfl) ?_
 refine nl hK20 ?_
 refine wp_seq_k (fun K21 hK21 => ?_)
 refine C.ifd rfl (fun c22 => ?_) (fun c22 => ?_)
 ·refine wp_skip ?_
  refine hK21 _ _ ?_
  refine wp_seq_k (fun K23 hK23 => ?_)
  refine wp_block ?_
  refine sq fun K24 hK24 => ?_
  refine RS.idxP P0 rfl rfl Tryd.underlying70 C35 (by omega) (fun b25 o25 p25 h25 q25 F25 G25 => ?_)
  refine RS.nm ?_
  have m1 := cat_snoc ps j.toNat (by omega)
  rw [← q25] at m1
  have m2 := cat_le ps (j.toNat + 1)
  have m3 := congrArg List.length m1
  rw [List.length_append, F25.len] at m3
  have hol := O1.len
  refine RS.o (D.load rfl Tryd.underlying35 rfl (h25)) ?_
  refine RS.asS rfl ?_
  refine nl hK24 ?_
  refine region ?_
  refine RS.mvS rfl ?_
  refine RS.mvS rfl ?_
  refine RS.appendI O1 F25 rfl rfl Tryd.underlying35 T5 rfl (by omega) (by decide) (by omega) (fun a26 c26 w26 N26 x26 => ?_)
  refine RS.nm ?_
  replace hE := hE.trans (x26.below (by intros; try (first | (intro _ _) | (intro _) | skip); first | omega | (have hq := O1.lo _ (by assumption); first | omega | (dsimp only at *; omega))) (by intros; try (first | (intro _ _) | (intro _) | skip); first | omega | (dsimp only at *; omega) | (simp_all; done) | (simp at *; omega)))
  replace x19 := x19.prn x26 (by intros; try (first | (intro _ _) | (intro _) | skip); first | omega | (have hq := O1.lo _ (by assumption); first | omega | (dsimp only at *; omega)))
  replace P0 := P0.pr x26 (by intros; try (first | (intro _ _) | (intro _) | skip); first | omega | (have hq := O1.lo _ (by assumption); first | omega | (dsimp only at *; omega)))
  replace F25 := F25.pr x26 (by intros; try (first | (intro _ _) | (intro _) | skip); first | omega | (have hq := O1.lo _ (by assumption); first | omega | (dsimp only at *; omega)))
  have zw26 := x26.size
  replace O1 := N26
  refine RS.asS rfl ?_
  refine nl hK23 ?_
  refine region ?_
  refine RS.o (D.add rfl rfl (W.i64 (by omega))) ?_
  refine RS.mvI rfl ?_
  refine RS.nil ?_
  change Nx _ _ _ _ _ _ _ _
  refine C.next (_, _, _, _) ⟨rfl, rfl, trivial⟩ (by kernel_rfl) ?_ ?_
  ·refine ⟨x19, ⟨by dsimp only; omega, by dsimp only; omega⟩, ?_⟩
   dsimp only
   rw [show (j + 1).toNat = j.toNat + 1 by omega, m1]
   exact O1
  dsimp only; omega
 refine wp_exit ?_
 refine hK17 _ _ ?_
 refine sq fun K27 hK27 => ?_
 refine RS.mvS rfl ?_
 refine RS.asS rfl ?_
 refine nl hK27 ?_
 refine wp_ret ?_
 refine ret (rs := [.tmp 2]) (vs := [.slice _ _ _]) (v := (.slice _ _ _)) rfl ⟨rfl, trivial⟩ rfl ?_
 have e1 : ps.take j.toNat = ps := List.take_of_length_le (by omega)
 rw [e1] at O1
 exact ⟨_, rfl, hE, _, _, _, rfl, O1⟩
theorem feed {S0 S1 : Nat → Prop} (h : List Int) (a : Option Addr) (n c : Nat) (xs : List Int) (N : Int) (a2 : Option Addr) (n2 c2 : Nat) (ys : List Int) (TK : TypeId) (w : World) (H : Arr .u32 8 h) (K0 : Kst w TK) (R0 : IRow .u8 S0 w a n xs) (R1 : IRow .u8 S1 w a2 n2 ys) (hc : n ≤ c) (hc2 : n2 ≤ c2) (hN : 0 ≤ N ∧ N ≤ 1000000) (hn : n + n2 ≤ 1000000) :
  Calls Tryd.prog 112 #[.agg (ints .u32 h ++ ([.slice a n c, .int .i64 N] : List Value)).toArray, .slice a2 n2 c2] w (Ret w fun v w' => ∃ a' n' c', v = .agg (ints .u32 (S.blocksS h (xs ++ ys)) ++ ([.slice a' n' c', .int .i64 (N + n2)] : List Value)).toArray ∧ IOwn w.heap.size w' 5 .u8 a' n' c' (S.restS (xs ++ ys))) := by
 replace R0 := R0.weaken (T := fun k => k < w.heap.size) (fun k hk _ => hk)
 replace R1 := R1.weaken (T := fun k => k < w.heap.size) (fun k hk _ => hk)
 have hKl := K0.lt
 have hl0 := R0.len
 have hl1 := R1.len
 have hE := Ext.refl w
 refine enterU 27 Tryd.func112 rfl rfl ?_
 refine sq fun K1 hK1 => ?_
 refine RS.box rfl rfl (fun b2 w2 e2 s2 x2 B2 => ?_)
 refine RS.nm ?_
 replace hE := Ext.tr hE x2
 replace K0 := K0.ext x2
 replace R0 := R0.ext x2
 replace R1 := R1.ext x2
 have zw2 := x2.size
 have A2 := IArr.ofT (n := 8) B2 H
 clear B2
 refine RS.alloc T145 (fun b3 w3 e3 s3 x3 B3 => ?_)
 refine RS.nm ?_
 replace hE := Ext.tr hE x3
 replace K0 := K0.ext x3
 replace R0 := R0.ext x3
 replace R1 := R1.ext x3
 replace A2 := A2.ext x3
 have zw3 := x3.size
 have A3 : IArr .u32 w3 b3 8 (List.replicate 8 0) [.slice none 0 0, .int .i64 0] 145 := ⟨B3, by simp, Bd.zeros _ _⟩
 clear B3
 refine nl hK1 ?_
 refine sq fun K4 hK4 => ?_
 refine RS.o (D.fieldL 8 rfl Tryd.underlying145 rfl C35 (by decide) rfl) ?_
 refine RS.o (D.load rfl Tryd.underlying35 rfl (A2.tail 0 rfl)) ?_
 refine RS.mvS rfl ?_
 refine RS.buildSlice (xs := [.tmp 7, .tmp 8]) (vs := [.slice _ _ _, .slice _ _ _]) (cs := [.slice _ _ _, .slice _ _ _]) Tryd.underlying70 T35 (by decide) rfl rfl rfl rfl rfl rfl (by intro v hv; simp only [List.mem_cons, List.not_mem_nil, or_false] at hv; rcases hv with rfl | rfl <;> rfl) rfl (fun b5 w5 e5 s5 x5 B5 => ?_)
 refine RS.nm ?_
 replace hE := Ext.tr hE x5
 replace K0 := K0.ext x5
 replace R0 := R0.ext x5
 replace R1 := R1.ext x5
 replace A2 := A2.ext x5
 replace A3 := A3.ext x5
 have zw5 := x5.size
 refine RS.call E43 (concat [⟨a, n, c, xs⟩, ⟨a2, n2, c2, ys⟩] _ _ _ _ (PRow.of_blkE B5 rfl rfl ⟨⟨_, R0, hc⟩, ⟨_, R1, hc2⟩, trivial⟩) (show (2 : Nat) ≤ 1000 by decide) (by simp [cat]; omega)) rfl (fun v6 w6 x6 A6 => ?_)
 replace hE := Ext.tr hE x6
 replace K0 := K0.ext x6
 replace R0 := R0.ext x6
 replace R1 := R1.ext x6
 replace A2 := A2.ext x6
 replace A3 := A3.ext x6
 replace B5 := B5.ext x6
 have zw6 := x6.size
 obtain ⟨a6, n6, c6, rfl, O1⟩ := A6
 have ecat : cat [⟨a, n, c, xs⟩, ⟨a2, n2, c2, ys⟩] = xs ++ ys := by simp [cat]
 rw [ecat] at O1
 have hol := O1.len
 rw [List.length_append] at hol
 have hoc := O1.own.cap
 have R2 := O1.row.weaken (T := fun k => b3 < k) (fun k _ hk => by omega)
 refine RS.nm ?_
 refine RS.asS rfl ?_
 refine nl hK4 ?_
 refine wp_seq_k (fun K7 hK7 => ?_)
 refine wp_block ?_
 refine C.loop (A := List Int × Option Addr × Nat × Nat × List Int) (fun p => [(5, .slice p.2.1 p.2.2.1 p.2.2.2.1)]) [11, 12, 13, 14, 15, 16, 17, 18] (fun p w' => Pr (fun k => k = b2) w6 w' ∧ (IArr .u32 w' b2 8 p.1 [.slice a n c, .int .i64 N] 145 ∧ IRow .u8 (fun k => b3 < k) w' p.2.1 p.2.2.1 p.2.2.2.2 ∧ p.2.2.1 ≤ p.2.2.2.1 ∧ p.2.2.1 ≤ n + n2 ∧ S.blocksS p.1 p.2.2.2.2 = S.blocksS h (xs ++ ys) ∧ S.restS p.2.2.2.2 = S.restS (xs ++ ys))) (fun p => p.2.2.1) (h, a6, n6, c6, xs ++ ys) (by kernel_rfl) ?_ ?_
 ·exact ⟨Pr.refl _ _, A2, R2, by dsimp only; omega, by dsimp only; omega, rfl, rfl⟩
 rintro p j w8 ⟨x8, hI⟩
 replace hE := hE.trans (x8.belo)
 replace K0 := K0.pro x8
 replace R0 := R0.pro x8
 replace R1 := R1.pro x8
 replace A3 := A3.pro x8
 replace B5 := B5.pro x8
 have zw8 := x8.size
 obtain ⟨hh, ar, nr, cr, rr⟩ := p
 dsimp only at hI
 obtain ⟨A2, R2, h1, h2, h3, h4⟩ := hI
 have hrl := R2.len
 have hal := A2.lt
 refine C.norm (by simp only [upd, junk, List.map_cons, List.map_nil, List.set_cons_succ, List.set_cons_zero]; exact rfl) ?_
 refine wp_seq_k (fun K9 hK9 => ?_)
 refine sq fun K10 hK10 => ?_
 refine RS.mvS rfl ?_
 refine RS.o (D.len rfl Tryd.underlying35) ?_
 refine RS.o (D.ge rfl rfl) ?_
 refine nl hK10 ?_
 refine C.ifd rfl (fun c11 => ?_) (fun c11 => ?_)
 ·refine wp_skip ?_
  refine hK9 _ _ ?_
  refine wp_block ?_
  refine sq fun K12 hK12 => ?_
  refine RS.o (D.fieldL 0 rfl Tryd.underlying145 rfl C143 (by decide) rfl) ?_
  refine RS.mvS rfl ?_
  refine RS.callx E128 (grind _ _ _ _ _ _ _ _ _ _ A2 K0 R2 (by omega) (by omega) (by omega)) rfl (fun e13 w13 A13 => ?_)
  obtain ⟨rfl, X13, N13⟩ := A13
  refine ⟨_, rfl, ?_⟩
  refine RS.nm ?_
  replace hE := hE.trans (X13.belo)
  replace x8 := x8.prno X13
  replace K0 := K0.pro X13
  replace R0 := R0.pro X13
  replace R1 := R1.pro X13
  replace A3 := A3.pro X13
  replace B5 := B5.pro X13
  replace R2 := R2.pro X13
  have zw13 := X13.size
  replace A2 := N13
  refine nl hK12 ?_
  refine region ?_
  refine RS.mvS rfl ?_
  refine RS.o (D.slice (kl := .i64) (kh := .i64) rfl Tryd.underlying35 C5 (by decide) rfl rfl (by omega) (by omega)) ?_
  refine RS.asS rfl ?_
  refine RS.nil ?_
  change Nx _ _ _ _ _ _ _ _
  refine C.next (S.grind hh rr, subA ar 64 1 cr, nr - 64, cr - 64, rr.drop 64) ⟨rfl, trivial⟩ (by kernel_rfl) ?_ ?_
  ·refine ⟨x8, A2, R2.rest 64 cr (by omega) (by omega), by dsimp only; omega, by dsimp only; omega, ?_, ?_⟩
   ·dsimp only; rw [S.blocks_ge _ _ (by omega)]; exact h3
   dsimp only; rw [S.rest_ge _ (by omega)]; exact h4
  dsimp only; omega
 have hlt := c11
 refine wp_exit ?_
 refine hK7 _ _ ?_
 refine wp_seq_k (fun K14 hK14 => ?_)
 refine regionX Ext [(0, .q), (1, .q), (2, .q), (3, .q), (4, .q), (5, .q), (6, .e), (7, .q), (8, .g), (9, .q), (10, .g)] mixed Ext.refl (fun h k => h.tr k) (by kernel_rfl) (fun w15 x15 => ?_)
 replace hE := Ext.tr hE x15
 replace K0 := K0.ext x15
 replace R0 := R0.ext x15
 replace R1 := R1.ext x15
 replace A2 := A2.ext x15
 replace A3 := A3.ext x15
 replace B5 := B5.ext x15
 replace R2 := R2.ext x15
 have zw15 := x15.size
 refine RX.o (fun w' hw => D.fieldL 9 rfl Tryd.underlying145 rfl C3 (by decide) rfl) ?_
 refine RX.o (fun w' hw => D.load rfl Tryd.underlying3 rfl ((A2.ext hw).tail 1 rfl)) ?_
 refine RX.mvS rfl ?_
 refine RX.o (fun w' hw => D.len rfl Tryd.underlying35) ?_
 refine RX.o (fun w' hw => D.add rfl rfl (W.i64 (by omega))) ?_
 refine RX.mvS rfl ?_
 refine RX.eff ?_
 refine RS.call E129 (cloneB _ _ _ _ _ R2 (by omega)) rfl (fun v16 w16 x16 A16 => ?_)
 replace hE := Ext.tr hE x16
 replace K0 := K0.ext x16
 replace R0 := R0.ext x16
 replace R1 := R1.ext x16
 replace A2 := A2.ext x16
 replace A3 := A3.ext x16
 replace B5 := B5.ext x16
 replace R2 := R2.ext x16
 have zw16 := x16.size
 obtain ⟨a16, n16, c16, rfl, O2⟩ := A16
 refine RS.nm ?_
 refine RS.nil ⟨x16, ?_⟩
 refine RX.o (fun w' hw => D.fieldL 9 rfl Tryd.underlying145 rfl C3 (by decide) rfl) ?_
 refine RX.big ?_
 refine RS.storeT A2 1 rfl rfl C3 rfl rfl (fun w17 y17 N17 => ?_)
 replace hE := hE.trans (y17.belo)
 replace K0 := K0.sto y17
 replace R0 := R0.sto y17
 replace R1 := R1.sto y17
 replace A3 := A3.sto y17
 replace B5 := B5.sto y17
 replace R2 := R2.sto y17
 replace O2 := O2.st y17 (by intros; try (first | (intro _ _) | (intro _) | skip); first | omega | (have hq := O2.own.lo _ (by assumption); first | omega | (dsimp only at *; omega)))
 have zw17 := y17.size
 replace A2 := N17
 refine RS.nil ?_
 refine RX.o (fun w' hw => D.fieldL 8 rfl Tryd.underlying145 rfl C35 (by decide) rfl) ?_
 refine RX.big ?_
 refine RS.storeT A2 0 rfl rfl C35 rfl rfl (fun w18 y18 N18 => ?_)
 replace hE := hE.trans (y18.belo)
 replace K0 := K0.sto y18
 replace R0 := R0.sto y18
 replace R1 := R1.sto y18
 replace A3 := A3.sto y18
 replace B5 := B5.sto y18
 replace R2 := R2.sto y18
 replace O2 := O2.st y18 (by intros; try (first | (intro _ _) | (intro _) | skip); first | omega | (have hq := O2.own.lo _ (by assumption); first | omega | (dsimp only at *; omega)))
 have zw18 := y18.size
 replace A2 := N18
 refine RS.nil ?_
 refine RX.nil (hK14 _ _ ?_)
 refine wp_seq_k (fun K19 hK19 => ?_)
 have harr := A2.arr
 refine region ?_
 refine RS.o (D.loadAgg rfl Tryd.underlying145 rfl C145 (by decide) (A2.allLen rfl) A2.all) ?_
 refine RS.storeRec A3 rfl rfl C145 (by decide) (by assumption) rfl rfl (by intro v hv; simp at hv; rcases hv with rfl | rfl <;> rfl) (fun w20 y20 N20 => ?_)
 replace hE := hE.trans (y20.belo)
 replace K0 := K0.sto y20
 replace R0 := R0.sto y20
 replace R1 := R1.sto y20
 replace A2 := A2.sto y20
 replace B5 := B5.sto y20
 replace R2 := R2.sto y20
 replace O2 := O2.st y20 (by intros; try (first | (intro _ _) | (intro _) | skip); first | omega | (have hq := O2.own.lo _ (by assumption); first | omega | (dsimp only at *; omega)))
 have zw20 := y20.size
 replace A3 := N20
 refine nl hK19 ?_
 refine wp_ret ?_
 refine ret (rs := [.cell 4 145]) (vs := [.agg _]) (v := (.agg _)) rfl ⟨⟨_, rfl, loadVar_agg Tryd.underlying145 rfl C145 (by decide) (A3.allLen rfl) A3.all⟩, trivial⟩ rfl ?_
 rw [S.blocks_lt _ _ (by omega)] at h3
 rw [S.rest_lt _ (by omega)] at h4
 rw [← h3, ← h4]
 exact ⟨_, rfl, hE, _, _, _, rfl, O2.base (fun k hk => by have := O2.lo k hk; omega)⟩
theorem endd {S0 : Nat → Prop} (h : List Int) (a : Option Addr) (n c : Nat) (xs : List Int) (N : Int) (TK : TypeId) (w : World) (H : Arr .u32 8 h) (K0 : Kst w TK) (R0 : IRow .u8 S0 w a n xs) (hc : n ≤ c) (hN : 0 ≤ N ∧ N ≤ 200000) (hn : n ≤ 200000) :
  Calls Tryd.prog 113 #[.agg (ints .u32 h ++ ([.slice a n c, .int .i64 N] : List Value)).toArray] w (Ret w fun v _ => v = .agg (ints .u8 (S.outS (S.blocksS h (xs ++ S.padS N)))).toArray) := by
 replace R0 := R0.weaken (T := fun k => k < w.heap.size) (fun k hk _ => hk)
 have hKl := K0.lt
 have hl0 := R0.len
 have hE := Ext.refl w
 refine enterU 65 Tryd.func113 rfl rfl ?_
 refine sq fun K1 hK1 => ?_
 refine RS.box rfl rfl (fun b2 w2 e2 s2 x2 B2 => ?_)
 refine RS.nm ?_
 replace hE := Ext.tr hE x2
 replace K0 := K0.ext x2
 replace R0 := R0.ext x2
 have zw2 := x2.size
 have A2 := IArr.ofT (n := 8) B2 H
 clear B2
 refine RS.alloc T42 (fun b3 w3 e3 s3 x3 B3 => ?_)
 refine RS.nm ?_
 replace hE := Ext.tr hE x3
 replace K0 := K0.ext x3
 replace R0 := R0.ext x3
 replace A2 := A2.ext x3
 have zw3 := x3.size
 have A3 : IArr .u8 w3 b3 32 (List.replicate 32 0) [] 42 := IArr.zero B3
 clear B3
 refine nl hK1 ?_
 refine sq fun K4 hK4 => ?_
 refine RS.o (D.fieldL 9 rfl Tryd.underlying145 rfl C3 (by decide) rfl) ?_
 refine RS.o (D.load rfl Tryd.underlying3 rfl (A2.tail 1 rfl)) ?_
 refine RS.o (D.conv rfl Tryd.underlying3 Tryd.underlying24 (W.u64 (by omega))) ?_
 refine RS.o (D.mul rfl rfl (W.u64 (by omega))) ?_
 refine RS.asI rfl ?_
 refine nl hK4 ?_
 refine sq fun K5 hK5 => ?_
 refine RS.buildSlice (xs := [.const (.int .u8 128)]) (vs := [.int _ _]) (cs := [.int _ _]) Tryd.underlying35 T5 (by decide) rfl rfl rfl rfl rfl rfl (by intro v hv; simp only [List.mem_cons, List.not_mem_nil, or_false] at hv; subst hv; rfl) rfl (fun b6 w6 e6 s6 x6 B6 => ?_)
 refine RS.nm ?_
 replace hE := Ext.tr hE x6
 replace K0 := K0.ext x6
 replace R0 := R0.ext x6
 replace A2 := A2.ext x6
 replace A3 := A3.ext x6
 have zw6 := x6.size
 have O1 : IOwn w3.heap.size w6 5 .u8 (some ⟨b6, 0, none⟩) 1 1 [_] := IOwn.of_blk B6 rfl rfl (by omega) (.cons (by simp only [lim]; omega) (.nil _)) (by decide)
 refine RS.o (D.fieldL 9 rfl Tryd.underlying145 rfl C3 (by decide) rfl) ?_
 refine RS.o (D.load rfl Tryd.underlying3 rfl (A2.tail 1 rfl)) ?_
 refine RS.o (D.rem rfl rfl (by omega) (by omega)) ?_
 refine RS.o (D.sub rfl rfl (W.i64 (by omega))) ?_
 refine RS.o (D.rem rfl rfl (by omega) (by omega)) ?_
 refine RS.appendZ O1 rfl rfl (by omega) Tryd.underlying35 Tryd.underlying3 T5 (by omega) (by decide) (by omega) (fun a7 c7 w7 N7 x7 => ?_)
 refine RS.nm ?_
 replace hE := hE.trans (x7.below (by intros; try (first | (intro _ _) | (intro _) | skip); first | omega | (have hq := O1.lo _ (by assumption); first | omega | (dsimp only at *; omega))) (by intros; try (first | (intro _ _) | (intro _) | skip); first | omega | (dsimp only at *; omega) | (simp_all; done) | (simp at *; omega)))
 replace K0 := K0.pr x7 (by intros; try (first | (intro _ _) | (intro _) | skip); first | omega | (have hq := O1.lo _ (by assumption); first | omega | (dsimp only at *; omega)))
 replace R0 := R0.pr x7 (by intros; try (first | (intro _ _) | (intro _) | skip); first | omega | (have hq := O1.lo _ (by assumption); first | omega | (dsimp only at *; omega)))
 replace A2 := A2.pr x7 (by intros; try (first | (intro _ _) | (intro _) | skip); first | omega | (have hq := O1.lo _ (by assumption); first | omega | (dsimp only at *; omega)))
 replace A3 := A3.pr x7 (by intros; try (first | (intro _ _) | (intro _) | skip); first | omega | (have hq := O1.lo _ (by assumption); first | omega | (dsimp only at *; omega)))
 have zw7 := x7.size
 replace O1 := N7
 refine RS.asS rfl ?_
 refine nl hK5 ?_
 refine wp_seq_k (fun K8 hK8 => ?_)
 refine sq fun K9 hK9 => ?_
 refine RS.asI rfl ?_
 refine nl hK9 ?_
 refine wp_block ?_
 refine C.loop (A := Int × Option Addr × Nat × Nat) (fun p => [(4, .slice p.2.1 p.2.2.1 p.2.2.2), (5, .int .i64 p.1)]) [19, 20, 21, 22, 23, 24, 25, 26, 27, 28, 29] (fun p w' => Pr (fun k => w3.heap.size ≤ k) w7 w' ∧ ((-8 ≤ p.1 ∧ p.1 ≤ 56) ∧ p.1 % 8 = 0 ∧ IOwn w3.heap.size w' 5 .u8 p.2.1 p.2.2.1 p.2.2.2 (([128] ++ List.replicate ((119 - N % 64) % 64).toNat 0) ++ (S.be8 (N * 8)).take ((56 - p.1) / 8).toNat))) (fun p => (p.1 + 8).toNat) (56, a7, 1 + ((119 - N % 64) % 64).toNat, c7) (by kernel_rfl) ?_ ?_
 ·exact ⟨Pr.refl _ _, ⟨by dsimp only; omega, by dsimp only; omega⟩, by dsimp only; omega, by simpa using O1⟩
 rintro p j w10 ⟨x10, hI⟩
 replace hE := hE.trans (x10.belo)
 replace K0 := K0.pro x10
 replace R0 := R0.pro x10
 replace A2 := A2.pro x10
 replace A3 := A3.pro x10
 have zw10 := x10.size
 obtain ⟨i, ao, no, co⟩ := p
 dsimp only at hI
 obtain ⟨h1, h2, O1⟩ := hI
 have hol := O1.len
 simp only [List.length_append, List.length_singleton, List.length_replicate, List.length_take, S.be8_len] at hol
 refine C.norm (by simp only [upd, junk, List.map_cons, List.map_nil, List.set_cons_succ, List.set_cons_zero]; exact rfl) ?_
 refine wp_seq_k (fun K11 hK11 => ?_)
 refine sq fun K12 hK12 => ?_
 refine RS.mvI rfl ?_
 refine RS.o (D.ge rfl rfl) ?_
 refine nl hK12 ?_
 refine C.ifd rfl (fun c13 => ?_) (fun c13 => ?_)
 ·refine wp_skip ?_
  refine hK11 _ _ ?_
  refine wp_seq_k (fun K14 hK14 => ?_)
  refine wp_block ?_
  refine region ?_
  refine RS.mvS rfl ?_
  refine RS.mvI rfl ?_
  refine RS.mvI rfl ?_
  refine RS.ob (D.shr_u64 rfl rfl (by omega) (by constructor <;> omega)) (fun z15 => ?_)
  refine RS.o (D.conv rfl Tryd.underlying24 Tryd.underlying5 (W.u8m _)) ?_
  refine RS.buildSlice (xs := [.tmp 27]) (vs := [.int _ _]) (cs := [.int _ _]) Tryd.underlying35 T5 (by decide) rfl rfl rfl rfl rfl rfl (by intro v hv; simp only [List.mem_cons, List.not_mem_nil, or_false] at hv; subst hv; rfl) rfl (fun b16 w16 e16 s16 x16 B16 => ?_)
  refine RS.nm ?_
  replace hE := Ext.tr hE x16
  replace x10 := x10.ext x16
  replace K0 := K0.ext x16
  replace R0 := R0.ext x16
  replace A2 := A2.ext x16
  replace A3 := A3.ext x16
  replace O1 := O1.ext x16
  have zw16 := x16.size
  have Q1 : IRow .u8 (fun k => k = b16) w16 (some ⟨b16, 0, none⟩) 1 [_] := IRow.of_blk B16 rfl rfl rfl (.cons (by simp only [lim]; omega) (.nil _))
  refine RS.appendI O1 Q1 rfl rfl Tryd.underlying35 T5 rfl (by omega) (by decide) (by omega) (fun a17 c17 w17 N17 x17 => ?_)
  refine RS.nm ?_
  replace hE := hE.trans (x17.below (by intros; try (first | (intro _ _) | (intro _) | skip); first | omega | (have hq := O1.lo _ (by assumption); first | omega | (dsimp only at *; omega))) (by intros; try (first | (intro _ _) | (intro _) | skip); first | omega | (dsimp only at *; omega) | (simp_all; done) | (simp at *; omega)))
  replace x10 := x10.prn x17 (by intros; try (first | (intro _ _) | (intro _) | skip); first | omega | (have hq := O1.lo _ (by assumption); first | omega | (dsimp only at *; omega)))
  replace K0 := K0.pr x17 (by intros; try (first | (intro _ _) | (intro _) | skip); first | omega | (have hq := O1.lo _ (by assumption); first | omega | (dsimp only at *; omega)))
  replace R0 := R0.pr x17 (by intros; try (first | (intro _ _) | (intro _) | skip); first | omega | (have hq := O1.lo _ (by assumption); first | omega | (dsimp only at *; omega)))
  replace A2 := A2.pr x17 (by intros; try (first | (intro _ _) | (intro _) | skip); first | omega | (have hq := O1.lo _ (by assumption); first | omega | (dsimp only at *; omega)))
  replace A3 := A3.pr x17 (by intros; try (first | (intro _ _) | (intro _) | skip); first | omega | (have hq := O1.lo _ (by assumption); first | omega | (dsimp only at *; omega)))
  have zw17 := x17.size
  replace O1 := N17
  refine RS.asS rfl ?_
  refine nl hK14 ?_
  refine region ?_
  refine RS.mvI rfl ?_
  refine RS.o (D.sub rfl rfl (W.i64 (by omega))) ?_
  refine RS.asI rfl ?_
  refine RS.nil ?_
  change Nx _ _ _ _ _ _ _ _
  refine C.next (i - 8, _, _, _) ⟨rfl, rfl, trivial⟩ (by kernel_rfl) ?_ ?_
  ·refine ⟨x10, ⟨by dsimp only; omega, by dsimp only; omega⟩, by dsimp only; omega, ?_⟩
   dsimp only
   rw [S.be8_snoc _ _ (by omega) h2, ← List.append_assoc]
   exact O1
  dsimp only; omega
 refine wp_exit ?_
 refine hK8 _ _ ?_
 refine wp_seq_k (fun K18 hK18 => ?_)
 refine sq fun K19 hK19 => ?_
 refine RS.o (D.loadAgg rfl Tryd.underlying145 rfl C145 (by decide) (A2.allLen rfl) A2.all) ?_
 refine RS.mvS rfl ?_
 have e0 : i = -8 := by omega
 rw [e0, show ((56 - (-8 : Int)) / 8).toNat = 8 from rfl, List.take_of_length_le (by rw [S.be8_len]; exact Nat.le_refl _), Int.mul_comm N 8, S.pad_eq N _ rfl] at O1
 have hoc := O1.own.cap
 have RP := O1.row
 refine RS.call E112 (feed _ _ _ _ xs _ _ _ _ (S.padS N) _ _ H K0 R0 RP hc (by omega) (by omega) (by omega)) rfl (fun v20 w20 x20 A20 => ?_)
 replace hE := Ext.tr hE x20
 replace K0 := K0.ext x20
 replace R0 := R0.ext x20
 replace A2 := A2.ext x20
 replace A3 := A3.ext x20
 replace O1 := O1.ext x20
 have zw20 := x20.size
 obtain ⟨a20, n20, c20, rfl, O2⟩ := A20
 have hfa := S.blocks_arr h (xs ++ S.padS N) H
 refine RS.nm ?_
 refine RS.o (D.field rfl Tryd.underlying145 rfl Tryd.underlying143 (fieldI C143 hfa.1) (by intro h; cases h) rfl) ?_
 refine RS.mvI rfl ?_
 refine nl hK19 ?_
 refine wp_block ?_
 refine C.loop (A := Int × List Int) (fun p => [(34, .int .i64 p.1)]) [6, 7, 35, 36, 37, 38, 39, 40, 41, 42, 43, 44, 45, 46, 47, 48, 49, 50, 51, 52, 53, 54, 55, 56, 57, 58, 59, 60, 61, 62, 63, 64] (fun p w' => Pr (fun k => k = b3) w20 w' ∧ (IArr .u8 w' b3 32 p.2 [] 42 ∧ (0 ≤ p.1 ∧ p.1 ≤ 8) ∧ p.2 = (S.outS (S.blocksS h (xs ++ S.padS N))).take (4 * p.1).toNat ++ (List.replicate 32 0).drop (4 * p.1).toNat)) (fun p => (8 - p.1.toNat)) (0, List.replicate 32 0) (by kernel_rfl) ?_ ?_
 ·exact ⟨Pr.refl _ _, A3, ⟨by dsimp only; omega, by dsimp only; omega⟩, by simp⟩
 rintro p j w21 ⟨x21, hI⟩
 replace hE := hE.trans (x21.belo)
 replace K0 := K0.pro x21
 replace R0 := R0.pro x21
 replace A2 := A2.pro x21
 replace O1 := O1.pr x21 (by intros; try (first | (intro _ _) | (intro _) | skip); first | omega | (have hq := O1.own.lo _ (by assumption); first | omega | (dsimp only at *; omega)))
 have zw21 := x21.size
 obtain ⟨j, ids⟩ := p
 dsimp only at hI
 obtain ⟨A3, g1, g2⟩ := hI
 have hil := A3.len
 refine C.norm (by simp only [upd, junk, List.map_cons, List.map_nil, List.set_cons_succ, List.set_cons_zero]; exact rfl) ?_
 refine sq fun K22 hK22 => ?_
 refine RS.o (D.lt rfl rfl) ?_
 refine nl hK22 ?_
 refine wp_seq_k (fun K23 hK23 => ?_)
 refine C.ifd rfl (fun c24 => ?_) (fun c24 => ?_)
 ·refine wp_skip ?_
  refine hK23 _ _ ?_
  refine wp_seq_k (fun K25 hK25 => ?_)
  refine wp_block ?_
  refine sq fun K26 hK26 => ?_
  refine RS.mvI rfl ?_
  refine RS.idxV rfl rfl Tryd.underlying143 Tryd.underlying22 rfl C22 (by omega) hfa.1 hfa.2 (fun v27 q27 r27 => ?_)
  refine RS.nm ?_
  simp only [lim] at r27
  have qw := q27
  refine RS.asI rfl ?_
  refine RS.asI rfl ?_
  refine nl hK26 ?_
  refine region ?_
  refine RS.mvI rfl ?_
  refine RS.o (D.mul rfl rfl (W.i64 (by omega))) ?_
  refine RS.mvI rfl ?_
  refine RS.o (D.mul rfl rfl (W.i64 (by omega))) ?_
  refine RS.o (D.add rfl rfl (W.i64 (by omega))) ?_
  refine RS.mvI rfl ?_
  refine RS.o (D.mul rfl rfl (W.i64 (by omega))) ?_
  refine RS.o (D.add rfl rfl (W.i64 (by omega))) ?_
  refine RS.mvI rfl ?_
  refine RS.o (D.mul rfl rfl (W.i64 (by omega))) ?_
  refine RS.o (D.add rfl rfl (W.i64 (by omega))) ?_
  refine RS.mvI rfl ?_
  refine RS.ob (D.shr_u32 rfl rfl (by omega) (by constructor <;> omega)) (fun z28 => ?_)
  refine RS.o (D.conv rfl Tryd.underlying22 Tryd.underlying5 (W.u8m _)) ?_
  refine RS.mvI rfl ?_
  refine RS.ob (D.shr_u32 rfl rfl (by omega) (by constructor <;> omega)) (fun z29 => ?_)
  refine RS.o (D.conv rfl Tryd.underlying22 Tryd.underlying5 (W.u8m _)) ?_
  refine RS.mvI rfl ?_
  refine RS.ob (D.shr_u32 rfl rfl (by omega) (by constructor <;> omega)) (fun z30 => ?_)
  refine RS.o (D.conv rfl Tryd.underlying22 Tryd.underlying5 (W.u8m _)) ?_
  refine RS.mvI rfl ?_
  refine RS.o (D.conv rfl Tryd.underlying22 Tryd.underlying5 (W.u8m _)) ?_
  refine RS.idxA A3 rfl rfl Tryd.underlying42 C5 (by omega) (fun v31 h31 q31 r31 => ?_)
  refine RS.nm ?_
  simp only [lim] at r31
  refine RS.storeA A3 rfl rfl C5 (by omega) (by simp only [lim]; omega) (fun w32 y32 N32 => ?_)
  replace hE := hE.trans (y32.belo)
  replace x21 := x21.stno y32
  replace K0 := K0.sto y32
  replace R0 := R0.sto y32
  replace A2 := A2.sto y32
  replace O1 := O1.st y32 (by intros; try (first | (intro _ _) | (intro _) | skip); first | omega | (have hq := O1.own.lo _ (by assumption); first | omega | (dsimp only at *; omega)))
  have zw32 := y32.size
  replace A3 := N32
  refine RS.idxA A3 rfl rfl Tryd.underlying42 C5 (by omega) (fun v33 h33 q33 r33 => ?_)
  refine RS.nm ?_
  simp only [lim] at r33
  refine RS.storeA A3 rfl rfl C5 (by omega) (by simp only [lim]; omega) (fun w34 y34 N34 => ?_)
  replace hE := hE.trans (y34.belo)
  replace x21 := x21.stno y34
  replace K0 := K0.sto y34
  replace R0 := R0.sto y34
  replace A2 := A2.sto y34
  replace O1 := O1.st y34 (by intros; try (first | (intro _ _) | (intro _) | skip); first | omega | (have hq := O1.own.lo _ (by assumption); first | omega | (dsimp only at *; omega)))
  have zw34 := y34.size
  replace A3 := N34
  refine RS.idxA A3 rfl rfl Tryd.underlying42 C5 (by omega) (fun v35 h35 q35 r35 => ?_)
  refine RS.nm ?_
  simp only [lim] at r35
  refine RS.storeA A3 rfl rfl C5 (by omega) (by simp only [lim]; omega) (fun w36 y36 N36 => ?_)
  replace hE := hE.trans (y36.belo)
  replace x21 := x21.stno y36
  replace K0 := K0.sto y36
  replace R0 := R0.sto y36
  replace A2 := A2.sto y36
  replace O1 := O1.st y36 (by intros; try (first | (intro _ _) | (intro _) | skip); first | omega | (have hq := O1.own.lo _ (by assumption); first | omega | (dsimp only at *; omega)))
  have zw36 := y36.size
  replace A3 := N36
  refine RS.idxA A3 rfl rfl Tryd.underlying42 C5 (by omega) (fun v37 h37 q37 r37 => ?_)
  refine RS.nm ?_
  simp only [lim] at r37
  refine RS.storeA A3 rfl rfl C5 (by omega) (by simp only [lim]; omega) (fun w38 y38 N38 => ?_)
  replace hE := hE.trans (y38.belo)
  replace x21 := x21.stno y38
  replace K0 := K0.sto y38
  replace R0 := R0.sto y38
  replace A2 := A2.sto y38
  replace O1 := O1.st y38 (by intros; try (first | (intro _ _) | (intro _) | skip); first | omega | (have hq := O1.own.lo _ (by assumption); first | omega | (dsimp only at *; omega)))
  have zw38 := y38.size
  replace A3 := N38
  refine nl hK25 ?_
  refine region ?_
  refine RS.o (D.add rfl rfl (W.i64 (by omega))) ?_
  refine RS.mvI rfl ?_
  refine RS.nil ?_
  change Nx _ _ _ _ _ _ _ _
  refine C.next (j + 1, (((ids.set (4 * j).toNat (v27 / 2 ^ (24 : Int).toNat % 256)).set (4 * j + 1).toNat (v27 / 2 ^ (16 : Int).toNat % 256)).set (4 * j + 2).toNat (v27 / 2 ^ (8 : Int).toNat % 256)).set (4 * j + 3).toNat (v27 % 256)) ⟨rfl, trivial⟩ (by kernel_rfl) ?_ ?_
  ·refine ⟨x21, A3, ⟨by dsimp only; omega, by dsimp only; omega⟩, ?_⟩
   dsimp only
   exact S.out_step _ _ j _ ⟨by omega, by omega⟩ qw g2
  dsimp only; omega
 refine wp_exit ?_
 refine hK18 _ _ ?_
 refine sq fun K39 hK39 => ?_
 refine RS.o (D.loadAgg rfl Tryd.underlying42 rfl C42 (by decide) (by rw [ints_length, A3.len]) A3.cells) ?_
 refine RS.storeArr A3 rfl rfl C42 (by decide) (by first | assumption | exact And.left (by assumption) | exact IArr.len (by assumption)) (by first | assumption | exact And.right (by assumption) | exact IArr.bd (by assumption)) (fun w40 y40 N40 => ?_)
 replace hE := hE.trans (y40.belo)
 replace K0 := K0.sto y40
 replace R0 := R0.sto y40
 replace A2 := A2.sto y40
 replace O1 := O1.st y40 (by intros; try (first | (intro _ _) | (intro _) | skip); first | omega | (have hq := O1.own.lo _ (by assumption); first | omega | (dsimp only at *; omega)))
 have zw40 := y40.size
 replace A3 := N40
 refine nl hK39 ?_
 refine wp_ret ?_
 refine ret (rs := [.cell 2 42]) (vs := [.agg _]) (v := (.agg _)) rfl ⟨⟨_, rfl, loadVar_agg Tryd.underlying42 rfl C42 (by decide) (by rw [ints_length, A3.len]) A3.cells⟩, trivial⟩ rfl ?_
 refine ⟨_, rfl, hE, ?_⟩
 rw [g2, show (4 * j).toNat = 32 by omega, List.take_of_length_le (by rw [(S.out_arr _).1]; exact Nat.le_refl _), List.drop_eq_nil_of_le (by simp), List.append_nil]
theorem indexP {S0 : Nat → Prop} (ps : List Pc) (a : Option Addr) (n c : Nat) (w : World) (P0 : PRow .u8 S0 w a n ps) (hn : n ≤ 1000) (hx : ∀ p ∈ ps, p.xs.length ≤ 10000) :
  Calls Tryd.prog 127 #[.slice a n c, .func (.func 110) #[] #[]] w (Ret w fun v _ => v = .int .i64 (-1)) := by
 replace P0 := P0.weaken (T := fun k => k < w.heap.size) (fun k hk _ => hk)
 have hPl := P0.len
 have hE := Ext.refl w
 refine enterU 17 Tryd.func127 rfl rfl ?_
 refine sq fun K1 hK1 => ?_
 refine RS.asI rfl ?_
 refine nl hK1 ?_
 refine wp_seq_k (fun K2 hK2 => ?_)
 refine sq fun K3 hK3 => ?_
 refine RS.mvS rfl ?_
 refine RS.o (D.len rfl Tryd.underlying70) ?_
 refine RS.mvI rfl ?_
 refine nl hK3 ?_
 refine wp_block ?_
 refine C.loop (A := Int) (fun p => [(8, .int .i64 p)]) [4, 5, 9, 10, 11, 12, 13, 14, 15, 16, 17, 18] (fun p w' => Ext w w' ∧ (0 ≤ p ∧ p ≤ n)) (fun p => (n - p.toNat)) 0 (by kernel_rfl) ?_ ?_
 ·exact ⟨Ext.refl _, by omega, by omega⟩
 rintro p j w4 ⟨x4, hI⟩
 replace hE := Ext.tr hE x4
 replace P0 := P0.ext x4
 have zw4 := x4.size
 obtain ⟨h1, h2⟩ := hI
 refine C.norm (by simp only [upd, junk, List.map_cons, List.map_nil, List.set_cons_succ, List.set_cons_zero]; exact rfl) ?_
 refine sq fun K5 hK5 => ?_
 refine RS.o (D.lt rfl rfl) ?_
 refine nl hK5 ?_
 refine wp_seq_k (fun K6 hK6 => ?_)
 refine C.ifd rfl (fun c7 => ?_) (fun c7 => ?_)
 ·refine wp_skip ?_
  refine hK6 _ _ ?_
  refine wp_seq_k (fun K8 hK8 => ?_)
  refine wp_block ?_
  refine sq fun K9 hK9 => ?_
  refine RS.mvI rfl ?_
  refine RS.asI rfl ?_
  refine nl hK9 ?_
  refine sq fun K10 hK10 => ?_
  refine RS.move (v := .func _ _ _) rfl ?_
  refine RS.mvS rfl ?_
  refine RS.mvI rfl ?_
  refine RS.idxP P0 rfl rfl Tryd.underlying70 C35 (by omega) (fun b11 o11 p11 h11 q11 F11 G11 => ?_)
  refine RS.nm ?_
  have k1 : p11.n ≤ 10000 := by rw [← F11.len]; exact hx _ (by rw [q11, List.getD_eq_getElem?_getD, List.getElem?_eq_getElem (show p.toNat < ps.length by omega)]; exact List.getElem_mem _)
  refine RS.o (D.load rfl Tryd.underlying35 rfl (h11)) ?_
  refine RS.callv E110 (piece1 _ _ _ k1 _) rfl rfl (fun e12 w12 A12 => ?_)
  obtain ⟨v12, rfl, x12, A12⟩ := A12
  refine ⟨_, rfl, ?_⟩
  replace hE := Ext.tr hE x12
  replace x4 := Ext.tr x4 x12
  replace P0 := P0.ext x12
  replace F11 := F11.ext x12
  have zw12 := x12.size
  subst A12
  refine RS.nm ?_
  refine nl hK10 ?_
  refine C.ifb rfl (fun c13 => ?_) (fun c13 => ?_)
  ·exact absurd c13 (by decide)
  refine wp_skip ?_
  refine hK8 _ _ ?_
  refine region ?_
  refine RS.o (D.add rfl rfl (W.i64 (by omega))) ?_
  refine RS.mvI rfl ?_
  refine RS.nil ?_
  change Nx _ _ _ _ _ _ _ _
  refine C.next (p + 1) ⟨rfl, trivial⟩ (by kernel_rfl) ?_ ?_
  ·exact ⟨x4, by omega, by omega⟩
  omega
 refine wp_exit ?_
 refine hK2 _ _ ?_
 refine sq fun K14 hK14 => ?_
 refine RS.asI rfl ?_
 refine nl hK14 ?_
 refine wp_ret ?_
 refine retI rfl rfl ?_
 exact ⟨_, rfl, hE, rfl⟩
theorem containsP {S0 : Nat → Prop} (ps : List Pc) (a : Option Addr) (n c : Nat) (w : World) (P0 : PRow .u8 S0 w a n ps) (hn : n ≤ 1000) (hx : ∀ p ∈ ps, p.xs.length ≤ 10000) :
  Calls Tryd.prog 109 #[.slice a n c, .func (.func 110) #[] #[]] w (Ret w fun v _ => v = .bool false) := by
 have hE := Ext.refl w
 refine enterU 7 Tryd.func109 rfl rfl ?_
 refine sq fun K1 hK1 => ?_
 refine RS.asB rfl ?_
 refine nl hK1 ?_
 refine sq fun K2 hK2 => ?_
 refine RS.mvS rfl ?_
 refine RS.move (v := .func _ _ _) rfl ?_
 refine RS.call E127 (indexP _ _ _ _ _ P0 hn hx) rfl (fun v3 w3 x3 A3 => ?_)
 replace hE := Ext.tr hE x3
 replace P0 := P0.ext x3
 have zw3 := x3.size
 subst A3
 refine RS.nm ?_
 refine RS.o (D.ge rfl rfl) ?_
 refine RS.asB rfl ?_
 refine nl hK2 ?_
 refine wp_ret ?_
 refine retB rfl rfl ?_
 exact ⟨_, rfl, hE, rfl⟩
end Go.Proofs.YtiohpiiiapjblaaDoor.W
namespace Go.Proofs.YtiohpiiiapjblaaDoor.W
open Go.RowKit Go.Proofs.YtiohpiiiapjblaaDoor.G
set_option linter.unusedVariables false
set_option maxRecDepth 20000
set_option maxHeartbeats 8000000
attribute [local irreducible] RS RX
theorem E77 : Enters Tryd.prog 77 := .mk Tryd.func77 (by kernel_rfl) rfl
theorem E95 : Enters Tryd.prog 95 := .mk Tryd.func95 (by kernel_rfl) rfl
theorem E109 : Enters Tryd.prog 109 := .mk Tryd.func109 (by kernel_rfl) rfl
theorem E111 : Enters Tryd.prog 111 := .mk Tryd.func111 (by kernel_rfl) rfl
theorem E113 : Enters Tryd.prog 113 := .mk Tryd.func113 (by kernel_rfl) rfl
theorem pieces {S0 : Nat → Prop} (ps : List Pc) (a : Option Addr) (n c : Nat) (TK : TypeId) (w : World) (K0 : Kst w TK) (P0 : PRow .u8 S0 w a n ps) (hn : n ≤ 20) (hx : ∀ p ∈ ps, p.xs.length ≤ 10000) (hT : (cat ps).length ≤ 200000) :
  Calls Tryd.prog 77 #[.slice a n c] w (Ret w fun v _ => v = .tuple #[.agg (ints .u8 (S.sha (cat ps))).toArray, .int .i64 0]) := by
 replace P0 := P0.weaken (T := fun k => k < w.heap.size) (fun k hk _ => hk)
 have hPl := P0.len
 have hKl := K0.lt
 have hE := Ext.refl w
 refine enterU 27 Tryd.func77 rfl rfl ?_
 refine sq fun K1 hK1 => ?_
 refine RS.alloc T42 (fun b2 w2 e2 s2 x2 B2 => ?_)
 refine RS.nm ?_
 replace hE := Ext.tr hE x2
 replace K0 := K0.ext x2
 replace P0 := P0.ext x2
 have zw2 := x2.size
 have A2 : IArr .u8 w2 b2 32 (List.replicate 32 0) [] 42 := IArr.zero B2
 clear B2
 refine RS.asI rfl ?_
 refine nl hK1 ?_
 refine wp_seq_k (fun K3 hK3 => ?_)
 refine sq fun K4 hK4 => ?_
 refine RS.mvS rfl ?_
 refine RS.o (D.len rfl Tryd.underlying70) ?_
 refine RS.o (D.gt rfl rfl) ?_
 refine RS.mvB rfl ?_
 refine RS.splitd 10 rfl rfl (fun c5 => ?_) (fun c5 => ?_)
 ·refine RS.nm ?_
  exact absurd c5 (by omega)
 refine RS.nm ?_
 refine RS.wt 10 ?_
 refine RS.mvS rfl ?_
 refine RS.wt 10 ?_
 refine RS.call E109 (containsP _ _ _ _ _ P0 (by omega) hx) rfl (fun v6 w6 x6 A6 => ?_)
 replace hE := Ext.tr hE x6
 replace K0 := K0.ext x6
 replace P0 := P0.ext x6
 replace A2 := A2.ext x6
 have zw6 := x6.size
 subst A6
 refine RS.nm ?_
 refine RS.pick (v := .bool _) rfl rfl ?_
 refine nl hK4 ?_
 refine C.ifb rfl (fun c7 => ?_) (fun c7 => ?_)
 ·cases c7
 refine wp_skip ?_
 refine hK3 _ _ ?_
 refine sq fun K8 hK8 => ?_
 refine RS.call E111 (start _) rfl (fun v9 w9 x9 A9 => ?_)
 replace hE := Ext.tr hE x9
 replace K0 := K0.ext x9
 replace P0 := P0.ext x9
 replace A2 := A2.ext x9
 have zw9 := x9.size
 subst A9
 have hIV := S.IV_arr
 refine RS.nm ?_
 refine RS.alloc T145 (fun b10 w10 e10 s10 x10 B10 => ?_)
 refine RS.nm ?_
 replace hE := Ext.tr hE x10
 replace K0 := K0.ext x10
 replace P0 := P0.ext x10
 replace A2 := A2.ext x10
 have zw10 := x10.size
 have A10 : IArr .u32 w10 b10 8 (List.replicate 8 0) [.slice none 0 0, .int .i64 0] 145 := ⟨B10, by simp, Bd.zeros _ _⟩
 clear B10
 refine RS.storeRec A10 rfl rfl C145 (by decide) (by assumption) rfl rfl (by intro v hv; simp at hv; rcases hv with rfl | rfl <;> rfl) (fun w11 y11 N11 => ?_)
 replace hE := hE.trans (y11.belo)
 replace K0 := K0.sto y11
 replace P0 := P0.sto y11
 replace A2 := A2.sto y11
 have zw11 := y11.size
 replace A10 := N11
 refine nl hK8 ?_
 refine wp_seq_k (fun K12 hK12 => ?_)
 refine sq fun K13 hK13 => ?_
 refine RS.mvS rfl ?_
 refine RS.o (D.len rfl Tryd.underlying70) ?_
 refine RS.mvI rfl ?_
 refine nl hK13 ?_
 refine wp_block ?_
 refine C.loop (A := Int × Option Addr × Nat × Nat) (fun p => [(18, .int .i64 p.1)]) [6, 19, 20, 21, 22, 23, 24, 25] (fun p w' => Pr (fun k => k = b10) w11 w' ∧ (IArr .u32 w' b10 8 (S.blocksS S.IV (cat (ps.take p.1.toNat))) [.slice p.2.1 p.2.2.1 p.2.2.2, .int .i64 (cat (ps.take p.1.toNat)).length] 145 ∧ IRow .u8 (fun k => b10 < k) w' p.2.1 p.2.2.1 (S.restS (cat (ps.take p.1.toNat))) ∧ p.2.2.1 ≤ p.2.2.2 ∧ (0 ≤ p.1 ∧ p.1 ≤ n))) (fun p => (n - p.1.toNat)) (0, none, 0, 0) (by kernel_rfl) ?_ ?_
 ·have e9 : cat (ps.take (0 : Int).toNat) = [] := by simp [cat]
  refine ⟨Pr.refl _ _, ?_⟩
  dsimp only
  rw [e9, S.blocks_lt _ _ (by decide), S.rest_lt _ (by decide)]
  exact ⟨A10, IRow.nil, by omega, by omega, by omega⟩
 rintro p j w14 ⟨x14, hI⟩
 replace hE := hE.trans (x14.belo)
 replace K0 := K0.pro x14
 replace P0 := P0.pro x14
 replace A2 := A2.pro x14
 have zw14 := x14.size
 obtain ⟨i, ar, nr, cr⟩ := p
 dsimp only at hI
 obtain ⟨A10, R1, hc, h1⟩ := hI
 have hh := S.blocks_arr S.IV (cat (ps.take i.toNat)) S.IV_arr
 have hal := A10.lt
 have hrl := R1.len
 have hrl2 := S.rest_le (cat (ps.take i.toNat))
 have hrl3 := cat_le ps i.toNat
 refine C.norm (by simp only [upd, junk, List.map_cons, List.map_nil, List.set_cons_succ, List.set_cons_zero]; exact rfl) ?_
 refine sq fun K15 hK15 => ?_
 refine RS.o (D.lt rfl rfl) ?_
 refine nl hK15 ?_
 refine wp_seq_k (fun K16 hK16 => ?_)
 refine C.ifd rfl (fun c17 => ?_) (fun c17 => ?_)
 ·refine wp_skip ?_
  refine hK16 _ _ ?_
  refine wp_seq_k (fun K18 hK18 => ?_)
  refine wp_block ?_
  refine sq fun K19 hK19 => ?_
  refine RS.idxP P0 rfl rfl Tryd.underlying70 C35 (by omega) (fun b20 o20 p20 h20 q20 F20 G20 => ?_)
  refine RS.nm ?_
  have k1 := cat_snoc ps i.toNat (by omega)
  rw [← q20] at k1
  have k2 := cat_le ps (i.toNat + 1)
  have k3 := congrArg List.length k1
  rw [List.length_append, F20.len] at k3
  refine RS.o (D.load rfl Tryd.underlying35 rfl (h20)) ?_
  refine RS.asS rfl ?_
  refine nl hK19 ?_
  refine region ?_
  refine RS.o (D.loadAgg rfl Tryd.underlying145 rfl C145 (by decide) (A10.allLen rfl) A10.all) ?_
  refine RS.mvS rfl ?_
  refine RS.call E112 (feed _ _ _ _ _ _ _ _ _ _ _ _ hh K0 R1 F20 hc G20 (by omega) (by omega)) rfl (fun v21 w21 x21 A21 => ?_)
  replace hE := Ext.tr hE x21
  replace x14 := x14.ext x21
  replace K0 := K0.ext x21
  replace P0 := P0.ext x21
  replace A2 := A2.ext x21
  replace A10 := A10.ext x21
  replace R1 := R1.ext x21
  replace F20 := F20.ext x21
  have zw21 := x21.size
  obtain ⟨a21, n21, c21, rfl, O2⟩ := A21
  rw [← S.blocks_append _ _ _ _ rfl, ← S.rest_append _ _ _ rfl, ← k1] at *
  have hoc := O2.own.cap
  have hfa := S.blocks_arr S.IV (cat (ps.take (i.toNat + 1))) S.IV_arr
  refine RS.nm ?_
  refine RS.storeRec A10 rfl rfl C145 (by decide) (by assumption) rfl rfl (by intro v hv; simp at hv; rcases hv with rfl | rfl <;> rfl) (fun w22 y22 N22 => ?_)
  replace hE := hE.trans (y22.belo)
  replace x14 := x14.stno y22
  replace K0 := K0.sto y22
  replace P0 := P0.sto y22
  replace A2 := A2.sto y22
  replace F20 := F20.sto y22
  replace O2 := O2.st y22 (by intros; try (first | (intro _ _) | (intro _) | skip); first | omega | (have hq := O2.own.lo _ (by assumption); first | omega | (dsimp only at *; omega)))
  have zw22 := y22.size
  replace A10 := N22
  refine nl hK18 ?_
  refine region ?_
  refine RS.o (D.add rfl rfl (W.i64 (by omega))) ?_
  refine RS.mvI rfl ?_
  refine RS.nil ?_
  change Nx _ _ _ _ _ _ _ _
  refine C.next (i + 1, a21, n21, c21) ⟨rfl, trivial⟩ (by kernel_rfl) ?_ ?_
  ·have e9 : ((cat (ps.take i.toNat)).length : Int) + (p20.n : Int) = (((cat (ps.take (i.toNat + 1))).length : Nat) : Int) := by omega
   rw [e9] at A10
   rw [show (i + 1).toNat = i.toNat + 1 by omega]
   refine ⟨x14, A10, O2.row.weaken (T := fun k => b10 < k) (fun k _ hk => by omega), by dsimp only; omega, by dsimp only; omega, by dsimp only; omega⟩
  dsimp only; omega
 have e0 : ps.take i.toNat = ps := List.take_of_length_le (by omega)
 refine wp_exit ?_
 refine hK12 _ _ ?_
 refine sq fun K23 hK23 => ?_
 refine RS.o (D.loadAgg rfl Tryd.underlying145 rfl C145 (by decide) (A10.allLen rfl) A10.all) ?_
 refine RS.call E113 (endd _ _ _ _ _ _ _ _ hh K0 R1 hc (by omega) (by omega)) rfl (fun v24 w24 x24 A24 => ?_)
 replace hE := Ext.tr hE x24
 replace K0 := K0.ext x24
 replace P0 := P0.ext x24
 replace A2 := A2.ext x24
 replace A10 := A10.ext x24
 replace R1 := R1.ext x24
 have zw24 := x24.size
 subst A24
 rw [e0, S.sha_eq _ _ rfl]
 have hsa := S.sha_arr (cat ps)
 refine RS.nm ?_
 refine RS.storeArr A2 rfl rfl C42 (by decide) (by first | assumption | exact And.left (by assumption) | exact IArr.len (by assumption)) (by first | assumption | exact And.right (by assumption) | exact IArr.bd (by assumption)) (fun w25 y25 N25 => ?_)
 replace hE := hE.trans (y25.belo)
 replace K0 := K0.sto y25
 replace P0 := P0.sto y25
 replace A10 := A10.sto y25
 replace R1 := R1.sto y25
 have zw25 := y25.size
 replace A2 := N25
 refine RS.asI rfl ?_
 refine nl hK23 ?_
 refine wp_ret ?_
 refine ret (rs := [.cell 2 42, .tmp 3]) (vs := [.agg _, .int _ _]) (v := (.tuple #[.agg _, .int _ _])) rfl ⟨⟨_, rfl, loadVar_agg Tryd.underlying42 rfl C42 (by decide) (by rw [ints_length, A2.len]) A2.cells⟩, rfl, trivial⟩ rfl ?_
 exact ⟨_, rfl, hE, rfl⟩
theorem sum {S0 : Nat → Prop} (a : Option Addr) (n c : Nat) (xs : List Int) (TK : TypeId) (w : World) (K0 : Kst w TK) (R0 : IRow .u8 S0 w a n xs) (hc : n ≤ c) (hn : n ≤ 10000) :
  Calls Tryd.prog 36 #[.slice a n c] w (Ret w fun v _ => v = .tuple #[.agg (ints .u8 (S.sha xs)).toArray, .int .i64 0]) := by
 replace R0 := R0.weaken (T := fun k => k < w.heap.size) (fun k hk _ => hk)
 have hKl := K0.lt
 have hl0 := R0.len
 have hE := Ext.refl w
 refine enterU 8 Tryd.func36 rfl rfl ?_
 refine sq fun K1 hK1 => ?_
 refine RS.alloc T42 (fun b2 w2 e2 s2 x2 B2 => ?_)
 refine RS.nm ?_
 replace hE := Ext.tr hE x2
 replace K0 := K0.ext x2
 replace R0 := R0.ext x2
 have zw2 := x2.size
 have A2 : IArr .u8 w2 b2 32 (List.replicate 32 0) [] 42 := IArr.zero B2
 clear B2
 refine RS.asI rfl ?_
 refine nl hK1 ?_
 refine sq fun K3 hK3 => ?_
 refine RS.mvS rfl ?_
 refine RS.buildSlice (xs := [.tmp 4]) (vs := [.slice _ _ _]) (cs := [.slice _ _ _]) Tryd.underlying70 T35 (by decide) rfl rfl rfl rfl rfl rfl (by intro v hv; simp only [List.mem_cons, List.not_mem_nil, or_false] at hv; subst hv; rfl) rfl (fun b4 w4 e4 s4 x4 B4 => ?_)
 refine RS.nm ?_
 replace hE := Ext.tr hE x4
 replace K0 := K0.ext x4
 replace R0 := R0.ext x4
 replace A2 := A2.ext x4
 have zw4 := x4.size
 refine RS.call E77 (pieces [⟨a, n, c, xs⟩] _ _ _ _ _ K0 (PRow.of_blkE B4 rfl rfl ⟨⟨_, R0, hc⟩, trivial⟩) (show (1 : Nat) ≤ 20 by decide) (by intro p hp; obtain rfl := List.mem_singleton.1 hp; dsimp only; omega) (by simp [cat]; omega)) rfl (fun v5 w5 x5 A5 => ?_)
 replace hE := Ext.tr hE x5
 replace K0 := K0.ext x5
 replace R0 := R0.ext x5
 replace A2 := A2.ext x5
 replace B4 := B4.ext x5
 have zw5 := x5.size
 subst A5
 have ecat : cat [⟨a, n, c, xs⟩] = xs := by simp [cat]
 rw [ecat]
 have hsa := S.sha_arr xs
 refine RS.nm ?_
 refine RS.extract (v := .agg _) rfl rfl ?_
 refine RS.extract (v := .int _ _) rfl rfl ?_
 refine RS.storeArr A2 rfl rfl C42 (by decide) (by first | assumption | exact And.left (by assumption) | exact IArr.len (by assumption)) (by first | assumption | exact And.right (by assumption) | exact IArr.bd (by assumption)) (fun w6 y6 N6 => ?_)
 replace hE := hE.trans (y6.belo)
 replace K0 := K0.sto y6
 replace R0 := R0.sto y6
 replace B4 := B4.sto y6
 have zw6 := y6.size
 replace A2 := N6
 refine RS.asI rfl ?_
 refine nl hK3 ?_
 refine wp_ret ?_
 refine ret (rs := [.cell 2 42, .tmp 3]) (vs := [.agg _, .int _ _]) (v := (.tuple #[.agg _, .int _ _])) rfl ⟨⟨_, rfl, loadVar_agg Tryd.underlying42 rfl C42 (by decide) (by rw [ints_length, A2.len]) A2.cells⟩, rfl, trivial⟩ rfl ?_
 exact ⟨_, rfl, hE, rfl⟩
theorem bcompare {S0 S1 : Nat → Prop} (a : Option Addr) (n c : Nat) (xs : List Int) (a2 : Option Addr) (n2 c2 : Nat) (ys : List Int) (w : World) (R0 : IRow .u8 S0 w a n xs) (R1 : IRow .u8 S1 w a2 n2 ys) :
  Calls Tryd.prog 95 #[.slice a n c, .slice a2 n2 c2] w (Ret w fun v _ => v = .int .i64 (S.cmpS xs ys)) := by
 have hE := Ext.refl w
 refine enterU 6 Tryd.func95 rfl rfl ?_
 refine sq fun K1 hK1 => ?_
 refine RS.asI rfl ?_
 refine nl hK1 ?_
 refine sq fun K2 hK2 => ?_
 refine RS.mvS rfl ?_
 refine RS.mvS rfl ?_
 refine RS.o (D.ext (av := [_, _]) Tryd.func125 (by kernel_rfl) (by kernel_rfl) (by kernel_rfl) (by kernel_rfl) rfl (S.cmp_run R0 R1)) ?_
 refine RS.asI rfl ?_
 refine nl hK2 ?_
 refine wp_ret ?_
 refine retI rfl rfl ?_
 exact ⟨_, rfl, hE, rfl⟩
theorem dcmp (xs ys : List Int) (hx : Arr .u8 32 xs) (hy : Arr .u8 32 ys) (w : World) :
  Calls Tryd.prog 56 #[.agg (ints .u8 xs).toArray, .agg (ints .u8 ys).toArray] w (Ret w fun v _ => v = .int .i64 (S.cmpS xs ys)) := by
 have hE := Ext.refl w
 refine enterU 6 Tryd.func56 rfl rfl ?_
 refine sq fun K1 hK1 => ?_
 refine RS.box rfl rfl (fun b2 w2 e2 s2 x2 B2 => ?_)
 refine RS.nm ?_
 replace hE := Ext.tr hE x2
 have zw2 := x2.size
 have A2 := IArr.ofA (n := 32) B2 hx
 clear B2
 refine RS.box rfl rfl (fun b3 w3 e3 s3 x3 B3 => ?_)
 refine RS.nm ?_
 replace hE := Ext.tr hE x3
 replace A2 := A2.ext x3
 have zw3 := x3.size
 have A3 := IArr.ofA (n := 32) B3 hy
 clear B3
 refine RS.asI rfl ?_
 refine nl hK1 ?_
 refine wp_seq_k (fun K4 hK4 => ?_)
 refine regionX Ext [(0, .q), (1, .q), (2, .e), (3, .q)] mixed Ext.refl (fun h k => h.tr k) (by kernel_rfl) (fun w5 x5 => ?_)
 replace hE := Ext.tr hE x5
 replace A2 := A2.ext x5
 replace A3 := A3.ext x5
 have zw5 := x5.size
 refine RX.o (fun w' hw => D.sliceArr (kl := .i64) (kh := .i64) rfl Tryd.underlying42 C5 rfl rfl (by omega)) ?_
 refine RX.o (fun w' hw => D.sliceArr (kl := .i64) (kh := .i64) rfl Tryd.underlying42 C5 rfl rfl (by omega)) ?_
 refine RX.eff ?_
 refine RS.call E95 (bcompare _ _ _ _ _ _ _ _ _ (A2.row (S := fun _ => True) trivial) (A3.row (S := fun _ => True) trivial)) rfl (fun v6 w6 x6 A6 => ?_)
 replace hE := Ext.tr hE x6
 replace A2 := A2.ext x6
 replace A3 := A3.ext x6
 have zw6 := x6.size
 subst A6
 refine RS.nm ?_
 refine RS.nil ⟨x6, ?_⟩
 refine RX.assign (v := .int _ _) rfl ?_
 refine RX.nil (hK4 _ _ ?_)
 refine wp_ret ?_
 refine retI rfl rfl ?_
 exact ⟨_, rfl, hE, rfl⟩
theorem sameBytes {S0 S1 : Nat → Prop} (a : Option Addr) (n c : Nat) (xs : List Int) (a2 : Option Addr) (n2 c2 : Nat) (ys : List Int) (w : World) (R0 : IRow .u8 S0 w a n xs) (R1 : IRow .u8 S1 w a2 n2 ys) (hn : n ≤ 1000000) (hn2 : n2 ≤ 1000000) :
  Calls Tryd.prog 22 #[.slice a n c, .slice a2 n2 c2] w (Ret w fun v _ => v = .bool (decide (xs = ys))) := by
 have hl0 := R0.len
 have hl1 := R1.len
 have hE := Ext.refl w
 refine enterU 24 Tryd.func22 rfl rfl ?_
 refine sq fun K1 hK1 => ?_
 refine RS.asB rfl ?_
 refine nl hK1 ?_
 refine wp_seq_k (fun K2 hK2 => ?_)
 refine sq fun K3 hK3 => ?_
 refine RS.mvS rfl ?_
 refine RS.o (D.len rfl Tryd.underlying35) ?_
 refine RS.mvS rfl ?_
 refine RS.o (D.len rfl Tryd.underlying35) ?_
 refine RS.o (D.ne rfl rfl) ?_
 refine nl hK3 ?_
 refine C.ifn rfl (fun c4 => ?_) (fun c4 => ?_)
 ·have hne := c4
  refine sq fun K5 hK5 => ?_
  refine RS.asB rfl ?_
  refine nl hK5 ?_
  refine wp_ret ?_
  refine retB rfl rfl ?_
  refine ⟨_, rfl, hE, congrArg Value.bool (decide_eq_false ?_).symm⟩
  intro e
  rw [e] at hl0
  omega
 have hne := c4
 refine wp_skip ?_
 refine hK2 _ _ ?_
 refine wp_seq_k (fun K6 hK6 => ?_)
 refine sq fun K7 hK7 => ?_
 refine RS.asI rfl ?_
 refine nl hK7 ?_
 refine wp_block ?_
 refine C.loop (A := Int) (fun p => [(5, .int .i64 p)]) [4, 11, 12, 13, 14, 15, 16, 17, 18, 19, 20, 21, 22, 23, 24, 25] (fun p w' => Ext w w' ∧ ((0 ≤ p ∧ p ≤ n) ∧ xs.take p.toNat = ys.take p.toNat)) (fun p => (n - p.toNat)) 0 (by kernel_rfl) ?_ ?_
 ·exact ⟨Ext.refl _, ⟨by omega, by omega⟩, rfl⟩
 rintro p j w8 ⟨x8, hI⟩
 replace hE := Ext.tr hE x8
 replace R0 := R0.ext x8
 replace R1 := R1.ext x8
 have zw8 := x8.size
 obtain ⟨h1, h2⟩ := hI
 refine C.norm (by simp only [upd, junk, List.map_cons, List.map_nil, List.set_cons_succ, List.set_cons_zero]; exact rfl) ?_
 refine wp_seq_k (fun K9 hK9 => ?_)
 refine sq fun K10 hK10 => ?_
 refine RS.mvI rfl ?_
 refine RS.mvS rfl ?_
 refine RS.o (D.len rfl Tryd.underlying35) ?_
 refine RS.o (D.lt rfl rfl) ?_
 refine nl hK10 ?_
 refine C.ifd rfl (fun c11 => ?_) (fun c11 => ?_)
 ·refine wp_skip ?_
  refine hK9 _ _ ?_
  refine wp_seq_k (fun K12 hK12 => ?_)
  refine wp_block ?_
  refine wp_seq_k (fun K13 hK13 => ?_)
  refine regionX Ext [(0, .q), (1, .q), (2, .q), (3, .q), (4, .q), (5, .q), (6, .q), (7, .q), (8, .q)] mixed Ext.refl (fun h k => h.tr k) (by kernel_rfl) (fun w14 x14 => ?_)
  replace hE := Ext.tr hE x14
  replace x8 := Ext.tr x8 x14
  replace R0 := R0.ext x14
  replace R1 := R1.ext x14
  have zw14 := x14.size
  refine RX.mvS rfl ?_
  refine RX.mvI rfl ?_
  refine RX.idx (fun _ h => h) R0 rfl rfl Tryd.underlying35 C5 (by omega) (fun b15 o15 v15 h15 q15 r15 => ?_)
  refine RX.nm ?_
  simp only [lim] at r15
  have q1 := q15
  refine RX.o (fun w' hw => D.load rfl Tryd.underlying5 rfl (h15 w' hw)) ?_
  refine RX.mvS rfl ?_
  refine RX.mvI rfl ?_
  refine RX.idx (fun _ h => h) R1 rfl rfl Tryd.underlying35 C5 (by omega) (fun b16 o16 v16 h16 q16 r16 => ?_)
  refine RX.nm ?_
  simp only [lim] at r16
  have q2 := q16
  refine RX.o (fun w' hw => D.load rfl Tryd.underlying5 rfl (h16 w' hw)) ?_
  refine RX.o (fun w' hw => D.ne rfl rfl) ?_
  refine RX.nil (hK13 _ _ ?_)
  refine C.ifn rfl (fun c17 => ?_) (fun c17 => ?_)
  ·have hd := c17
   refine sq fun K18 hK18 => ?_
   refine RS.asB rfl ?_
   refine nl hK18 ?_
   refine wp_ret ?_
   refine retB rfl rfl ?_
   refine ⟨_, rfl, hE, congrArg Value.bool (decide_eq_false ?_).symm⟩
   intro e
   rw [e] at q1
   omega
  refine wp_skip ?_
  refine hK12 _ _ ?_
  refine region ?_
  refine RS.mvI rfl ?_
  refine RS.o (D.add rfl rfl (W.i64 (by omega))) ?_
  refine RS.asI rfl ?_
  refine RS.nil ?_
  change Nx _ _ _ _ _ _ _ _
  refine C.next (p + 1) ⟨rfl, trivial⟩ (by kernel_rfl) ?_ ?_
  ·refine ⟨x8, ⟨by omega, by omega⟩, ?_⟩
   rw [show (p + 1).toNat = p.toNat + 1 by omega, S.take_snoc _ _ (by omega), S.take_snoc _ _ (by omega), h2, ← q1, ← q2]
   congr 2
  omega
 have hlt := c11
 refine wp_exit ?_
 refine hK6 _ _ ?_
 refine sq fun K19 hK19 => ?_
 refine RS.asB rfl ?_
 refine nl hK19 ?_
 refine wp_ret ?_
 refine retB rfl rfl ?_
 refine ⟨_, rfl, hE, congrArg Value.bool (decide_eq_true ?_).symm⟩
 rw [List.take_of_length_le (by omega), List.take_of_length_le (by omega)] at h2
 exact h2
end Go.Proofs.YtiohpiiiapjblaaDoor.W
namespace Go.Proofs.YtiohpiiiapjblaaDoor.W
open Go.RowKit Go.Proofs.YtiohpiiiapjblaaDoor.G
set_option linter.unusedVariables false
set_option maxRecDepth 20000
set_option maxHeartbeats 8000000
attribute [local irreducible] RS RX
theorem E44 : Enters Tryd.prog 44 := .mk Tryd.func44 (by kernel_rfl) rfl
theorem E81 : Enters Tryd.prog 81 := .mk Tryd.func81 (by kernel_rfl) rfl
theorem len64 (n : Int) (hn : 247 < n ∧ n < 18446744073709551616) (w : World) :
  Calls Tryd.prog 81 #[.int .u64 n] w (Ret w fun v _ => ∃ L, v = .int .i64 L ∧ (L + 7) / 8 = ((S.blen n : Nat) : Int) ∧ 0 ≤ L ∧ L ≤ 64) := by
 have e32 : (2 : Int) ^ (32 : Int).toNat = 4294967296 := by decide
 have e16 : (2 : Int) ^ (16 : Int).toNat = 65536 := by decide
 have e8 : (2 : Int) ^ (8 : Int).toNat = 256 := by decide
 have hE := Ext.refl w
 refine enterU 24 Tryd.func81 rfl rfl ?_
 refine sq fun K1 hK1 => ?_
 refine RS.asI rfl ?_
 refine nl hK1 ?_
 refine wp_seq_k (fun K2 hK2 => ?_)
 refine sq fun K3 hK3 => ?_
 refine RS.mvI rfl ?_
 refine RS.o (D.ge rfl rfl) ?_
 refine nl hK3 ?_
 refine C.ifd rfl (fun c4 => ?_) (fun c4 => ?_)
 ·refine wp_seq_k (fun K5 hK5 => ?_)
  refine region ?_
  refine RS.mvI rfl ?_
  refine RS.ob (D.shr_u64 rfl rfl (by omega) (by constructor <;> omega)) (fun z6 => ?_)
  refine RS.asI rfl ?_
  refine nl hK5 ?_
  simp only [e32]
  refine region ?_
  refine RS.asI rfl ?_
  refine nl hK2 ?_
  refine wp_seq_k (fun K7 hK7 => ?_)
  refine sq fun K8 hK8 => ?_
  refine RS.mvI rfl ?_
  refine RS.o (D.ge rfl rfl) ?_
  refine nl hK8 ?_
  refine C.ifd rfl (fun c9 => ?_) (fun c9 => ?_)
  ·refine wp_seq_k (fun K10 hK10 => ?_)
   refine region ?_
   refine RS.mvI rfl ?_
   refine RS.ob (D.shr_u64 rfl rfl (by omega) (by constructor <;> omega)) (fun z11 => ?_)
   refine RS.asI rfl ?_
   refine nl hK10 ?_
   simp only [e16]
   refine region ?_
   refine RS.mvI rfl ?_
   refine RS.o (D.add rfl rfl (W.i64 (by omega))) ?_
   refine RS.asI rfl ?_
   refine nl hK7 ?_
   refine wp_seq_k (fun K12 hK12 => ?_)
   refine sq fun K13 hK13 => ?_
   refine RS.mvI rfl ?_
   refine RS.o (D.ge rfl rfl) ?_
   refine nl hK13 ?_
   refine C.ifd rfl (fun c14 => ?_) (fun c14 => ?_)
   ·refine wp_seq_k (fun K15 hK15 => ?_)
    refine region ?_
    refine RS.mvI rfl ?_
    refine RS.ob (D.shr_u64 rfl rfl (by omega) (by constructor <;> omega)) (fun z16 => ?_)
    refine RS.asI rfl ?_
    refine nl hK15 ?_
    simp only [e8]
    refine region ?_
    refine RS.mvI rfl ?_
    refine RS.o (D.add rfl rfl (W.i64 (by omega))) ?_
    refine RS.asI rfl ?_
    refine nl hK12 ?_
    refine sq fun K17 hK17 => ?_
    refine RS.mvI rfl ?_
    refine RS.mvI rfl ?_
    refine RS.o (D.conv rfl Tryd.underlying24 Tryd.underlying5 (W.u8 (by omega))) ?_
    refine RS.indexStr rfl rfl Tryd.underlying9 (by refine ⟨by omega, ?_⟩; show _ < ((256 : Nat) : Int); omega) (fun v18 q18 r18 => ?_)
    refine RS.nm ?_
    simp only [lim] at r18
    have ht := S.tab_of q18 (by kernel_rfl) (by omega)
    refine RS.o (D.conv rfl Tryd.underlying5 Tryd.underlying3 (W.i64 (by omega))) ?_
    refine RS.o (D.add rfl rfl (W.i64 (by omega))) ?_
    refine RS.asI rfl ?_
    refine nl hK17 ?_
    refine wp_ret ?_
    refine retI rfl rfl ?_
    refine ⟨_, rfl, hE, _, rfl, S.len_big n _ 7 (n / 4294967296 / 65536 / 256) v18 (by show n / 4294967296 / 65536 / 256 = n / 72057594037927936; omega) (by omega) (by omega) (by omega) (by omega) (by omega), by omega, by omega⟩
   refine wp_skip ?_
   refine hK12 _ _ ?_
   refine sq fun K19 hK19 => ?_
   refine RS.mvI rfl ?_
   refine RS.mvI rfl ?_
   refine RS.o (D.conv rfl Tryd.underlying24 Tryd.underlying5 (W.u8 (by omega))) ?_
   refine RS.indexStr rfl rfl Tryd.underlying9 (by refine ⟨by omega, ?_⟩; show _ < ((256 : Nat) : Int); omega) (fun v20 q20 r20 => ?_)
   refine RS.nm ?_
   simp only [lim] at r20
   have ht := S.tab_of q20 (by kernel_rfl) (by omega)
   refine RS.o (D.conv rfl Tryd.underlying5 Tryd.underlying3 (W.i64 (by omega))) ?_
   refine RS.o (D.add rfl rfl (W.i64 (by omega))) ?_
   refine RS.asI rfl ?_
   refine nl hK19 ?_
   refine wp_ret ?_
   refine retI rfl rfl ?_
   refine ⟨_, rfl, hE, _, rfl, S.len_big n _ 6 (n / 4294967296 / 65536) v20 (by show n / 4294967296 / 65536 = n / 281474976710656; omega) (by omega) (by omega) (by omega) (by omega) (by omega), by omega, by omega⟩
  refine wp_skip ?_
  refine hK7 _ _ ?_
  refine wp_seq_k (fun K21 hK21 => ?_)
  refine sq fun K22 hK22 => ?_
  refine RS.mvI rfl ?_
  refine RS.o (D.ge rfl rfl) ?_
  refine nl hK22 ?_
  refine C.ifd rfl (fun c23 => ?_) (fun c23 => ?_)
  ·refine wp_seq_k (fun K24 hK24 => ?_)
   refine region ?_
   refine RS.mvI rfl ?_
   refine RS.ob (D.shr_u64 rfl rfl (by omega) (by constructor <;> omega)) (fun z25 => ?_)
   refine RS.asI rfl ?_
   refine nl hK24 ?_
   simp only [e8]
   refine region ?_
   refine RS.mvI rfl ?_
   refine RS.o (D.add rfl rfl (W.i64 (by omega))) ?_
   refine RS.asI rfl ?_
   refine nl hK21 ?_
   refine sq fun K26 hK26 => ?_
   refine RS.mvI rfl ?_
   refine RS.mvI rfl ?_
   refine RS.o (D.conv rfl Tryd.underlying24 Tryd.underlying5 (W.u8 (by omega))) ?_
   refine RS.indexStr rfl rfl Tryd.underlying9 (by refine ⟨by omega, ?_⟩; show _ < ((256 : Nat) : Int); omega) (fun v27 q27 r27 => ?_)
   refine RS.nm ?_
   simp only [lim] at r27
   have ht := S.tab_of q27 (by kernel_rfl) (by omega)
   refine RS.o (D.conv rfl Tryd.underlying5 Tryd.underlying3 (W.i64 (by omega))) ?_
   refine RS.o (D.add rfl rfl (W.i64 (by omega))) ?_
   refine RS.asI rfl ?_
   refine nl hK26 ?_
   refine wp_ret ?_
   refine retI rfl rfl ?_
   refine ⟨_, rfl, hE, _, rfl, S.len_big n _ 5 (n / 4294967296 / 256) v27 (by show n / 4294967296 / 256 = n / 1099511627776; omega) (by omega) (by omega) (by omega) (by omega) (by omega), by omega, by omega⟩
  refine wp_skip ?_
  refine hK21 _ _ ?_
  refine sq fun K28 hK28 => ?_
  refine RS.mvI rfl ?_
  refine RS.mvI rfl ?_
  refine RS.o (D.conv rfl Tryd.underlying24 Tryd.underlying5 (W.u8 (by omega))) ?_
  refine RS.indexStr rfl rfl Tryd.underlying9 (by refine ⟨by omega, ?_⟩; show _ < ((256 : Nat) : Int); omega) (fun v29 q29 r29 => ?_)
  refine RS.nm ?_
  simp only [lim] at r29
  have ht := S.tab_of q29 (by kernel_rfl) (by omega)
  refine RS.o (D.conv rfl Tryd.underlying5 Tryd.underlying3 (W.i64 (by omega))) ?_
  refine RS.o (D.add rfl rfl (W.i64 (by omega))) ?_
  refine RS.asI rfl ?_
  refine nl hK28 ?_
  refine wp_ret ?_
  refine retI rfl rfl ?_
  refine ⟨_, rfl, hE, _, rfl, S.len_big n _ 4 (n / 4294967296) v29 (by show n / 4294967296 = n / 4294967296; omega) (by omega) (by omega) (by omega) (by omega) (by omega), by omega, by omega⟩
 refine wp_skip ?_
 refine hK2 _ _ ?_
 refine wp_seq_k (fun K30 hK30 => ?_)
 refine sq fun K31 hK31 => ?_
 refine RS.mvI rfl ?_
 refine RS.o (D.ge rfl rfl) ?_
 refine nl hK31 ?_
 refine C.ifd rfl (fun c32 => ?_) (fun c32 => ?_)
 ·refine wp_seq_k (fun K33 hK33 => ?_)
  refine region ?_
  refine RS.mvI rfl ?_
  refine RS.ob (D.shr_u64 rfl rfl (by omega) (by constructor <;> omega)) (fun z34 => ?_)
  refine RS.asI rfl ?_
  refine nl hK33 ?_
  simp only [e16]
  refine region ?_
  refine RS.mvI rfl ?_
  refine RS.o (D.add rfl rfl (W.i64 (by omega))) ?_
  refine RS.asI rfl ?_
  refine nl hK30 ?_
  refine wp_seq_k (fun K35 hK35 => ?_)
  refine sq fun K36 hK36 => ?_
  refine RS.mvI rfl ?_
  refine RS.o (D.ge rfl rfl) ?_
  refine nl hK36 ?_
  refine C.ifd rfl (fun c37 => ?_) (fun c37 => ?_)
  ·refine wp_seq_k (fun K38 hK38 => ?_)
   refine region ?_
   refine RS.mvI rfl ?_
   refine RS.ob (D.shr_u64 rfl rfl (by omega) (by constructor <;> omega)) (fun z39 => ?_)
   refine RS.asI rfl ?_
   refine nl hK38 ?_
   simp only [e8]
   refine region ?_
   refine RS.mvI rfl ?_
   refine RS.o (D.add rfl rfl (W.i64 (by omega))) ?_
   refine RS.asI rfl ?_
   refine nl hK35 ?_
   refine sq fun K40 hK40 => ?_
   refine RS.mvI rfl ?_
   refine RS.mvI rfl ?_
   refine RS.o (D.conv rfl Tryd.underlying24 Tryd.underlying5 (W.u8 (by omega))) ?_
   refine RS.indexStr rfl rfl Tryd.underlying9 (by refine ⟨by omega, ?_⟩; show _ < ((256 : Nat) : Int); omega) (fun v41 q41 r41 => ?_)
   refine RS.nm ?_
   simp only [lim] at r41
   have ht := S.tab_of q41 (by kernel_rfl) (by omega)
   refine RS.o (D.conv rfl Tryd.underlying5 Tryd.underlying3 (W.i64 (by omega))) ?_
   refine RS.o (D.add rfl rfl (W.i64 (by omega))) ?_
   refine RS.asI rfl ?_
   refine nl hK40 ?_
   refine wp_ret ?_
   refine retI rfl rfl ?_
   refine ⟨_, rfl, hE, _, rfl, S.len_big n _ 3 (n / 65536 / 256) v41 (by show n / 65536 / 256 = n / 16777216; omega) (by omega) (by omega) (by omega) (by omega) (by omega), by omega, by omega⟩
  refine wp_skip ?_
  refine hK35 _ _ ?_
  refine sq fun K42 hK42 => ?_
  refine RS.mvI rfl ?_
  refine RS.mvI rfl ?_
  refine RS.o (D.conv rfl Tryd.underlying24 Tryd.underlying5 (W.u8 (by omega))) ?_
  refine RS.indexStr rfl rfl Tryd.underlying9 (by refine ⟨by omega, ?_⟩; show _ < ((256 : Nat) : Int); omega) (fun v43 q43 r43 => ?_)
  refine RS.nm ?_
  simp only [lim] at r43
  have ht := S.tab_of q43 (by kernel_rfl) (by omega)
  refine RS.o (D.conv rfl Tryd.underlying5 Tryd.underlying3 (W.i64 (by omega))) ?_
  refine RS.o (D.add rfl rfl (W.i64 (by omega))) ?_
  refine RS.asI rfl ?_
  refine nl hK42 ?_
  refine wp_ret ?_
  refine retI rfl rfl ?_
  refine ⟨_, rfl, hE, _, rfl, S.len_big n _ 2 (n / 65536) v43 (by show n / 65536 = n / 65536; omega) (by omega) (by omega) (by omega) (by omega) (by omega), by omega, by omega⟩
 refine wp_skip ?_
 refine hK30 _ _ ?_
 refine wp_seq_k (fun K44 hK44 => ?_)
 refine sq fun K45 hK45 => ?_
 refine RS.mvI rfl ?_
 refine RS.o (D.ge rfl rfl) ?_
 refine nl hK45 ?_
 refine C.ifd rfl (fun c46 => ?_) (fun c46 => ?_)
 ·refine wp_seq_k (fun K47 hK47 => ?_)
  refine region ?_
  refine RS.mvI rfl ?_
  refine RS.ob (D.shr_u64 rfl rfl (by omega) (by constructor <;> omega)) (fun z48 => ?_)
  refine RS.asI rfl ?_
  refine nl hK47 ?_
  simp only [e8]
  refine region ?_
  refine RS.mvI rfl ?_
  refine RS.o (D.add rfl rfl (W.i64 (by omega))) ?_
  refine RS.asI rfl ?_
  refine nl hK44 ?_
  refine sq fun K49 hK49 => ?_
  refine RS.mvI rfl ?_
  refine RS.mvI rfl ?_
  refine RS.o (D.conv rfl Tryd.underlying24 Tryd.underlying5 (W.u8 (by omega))) ?_
  refine RS.indexStr rfl rfl Tryd.underlying9 (by refine ⟨by omega, ?_⟩; show _ < ((256 : Nat) : Int); omega) (fun v50 q50 r50 => ?_)
  refine RS.nm ?_
  simp only [lim] at r50
  have ht := S.tab_of q50 (by kernel_rfl) (by omega)
  refine RS.o (D.conv rfl Tryd.underlying5 Tryd.underlying3 (W.i64 (by omega))) ?_
  refine RS.o (D.add rfl rfl (W.i64 (by omega))) ?_
  refine RS.asI rfl ?_
  refine nl hK49 ?_
  refine wp_ret ?_
  refine retI rfl rfl ?_
  refine ⟨_, rfl, hE, _, rfl, S.len_big n _ 1 (n / 256) v50 (by show n / 256 = n / 256; omega) (by omega) (by omega) (by omega) (by omega) (by omega), by omega, by omega⟩
 refine wp_skip ?_
 refine hK44 _ _ ?_
 refine sq fun K51 hK51 => ?_
 refine RS.mvI rfl ?_
 refine RS.mvI rfl ?_
 refine RS.o (D.conv rfl Tryd.underlying24 Tryd.underlying5 (W.u8 (by omega))) ?_
 refine RS.indexStr rfl rfl Tryd.underlying9 (by refine ⟨by omega, ?_⟩; show _ < ((256 : Nat) : Int); omega) (fun v52 q52 r52 => ?_)
 refine RS.nm ?_
 simp only [lim] at r52
 have ht := S.tab_of q52 (by kernel_rfl) (by omega)
 refine RS.o (D.conv rfl Tryd.underlying5 Tryd.underlying3 (W.i64 (by omega))) ?_
 refine RS.o (D.add rfl rfl (W.i64 (by omega))) ?_
 refine RS.asI rfl ?_
 refine nl hK51 ?_
 refine wp_ret ?_
 refine retI rfl rfl ?_
 refine ⟨_, rfl, hE, _, rfl, S.len_big n _ 0 (n) v52 (by show n = n / 1; omega) (by omega) (by omega) (by omega) (by omega) (by omega), by omega, by omega⟩
theorem numW (n : Int) (hn : 0 ≤ n ∧ n < 18446744073709551616) (w : World) :
  Calls Tryd.prog 44 #[.int .u64 n] w (Ret w fun v w' => ∃ a' n' c', v = .slice a' n' c' ∧ IOwn w.heap.size w' 5 .u8 a' n' c' (S.numS n)) := by
 have hE := Ext.refl w
 refine enterU 38 Tryd.func44 rfl rfl ?_
 refine sq fun K1 hK1 => ?_
 refine RS.asS rfl ?_
 refine nl hK1 ?_
 refine wp_seq_k (fun K2 hK2 => ?_)
 refine sq fun K3 hK3 => ?_
 refine RS.mvI rfl ?_
 refine RS.o (D.le rfl rfl) ?_
 refine nl hK3 ?_
 refine C.ifd rfl (fun c4 => ?_) (fun c4 => ?_)
 ·have hs := c4
  refine sq fun K5 hK5 => ?_
  refine RS.mvI rfl ?_
  refine RS.o (D.conv rfl Tryd.underlying24 Tryd.underlying5 (W.u8 (by omega))) ?_
  refine RS.buildSlice (xs := [.tmp 9]) (vs := [.int _ _]) (cs := [.int _ _]) Tryd.underlying35 T5 (by decide) rfl rfl rfl rfl rfl rfl (by intro v hv; simp only [List.mem_cons, List.not_mem_nil, or_false] at hv; subst hv; rfl) rfl (fun b6 w6 e6 s6 x6 B6 => ?_)
  refine RS.nm ?_
  replace hE := Ext.tr hE x6
  have zw6 := x6.size
  have O1 : IOwn w.heap.size w6 5 .u8 (some ⟨b6, 0, none⟩) 1 1 [_] := IOwn.of_blk B6 rfl rfl (by omega) (.cons (by simp only [lim]; omega) (.nil _)) (by decide)
  refine RS.asS rfl ?_
  refine nl hK5 ?_
  refine wp_ret ?_
  refine ret (rs := [.tmp 2]) (vs := [.slice _ _ _]) (v := (.slice _ _ _)) rfl ⟨rfl, trivial⟩ rfl ?_
  rw [S.numS_small n (by omega)]
  exact ⟨_, rfl, hE, _, _, _, rfl, O1⟩
 have hs := c4
 refine wp_skip ?_
 refine hK2 _ _ ?_
 refine sq fun K7 hK7 => ?_
 refine RS.mvI rfl ?_
 refine RS.call E81 (len64 _ (by omega) _) rfl (fun v8 w8 x8 A8 => ?_)
 replace hE := Ext.tr hE x8
 have zw8 := x8.size
 obtain ⟨L, rfl, hL, hL1⟩ := A8
 have hbl := S.blen_le n
 refine RS.nm ?_
 refine RS.o (D.add rfl rfl (W.i64 (by omega))) ?_
 refine RS.o (D.quo rfl rfl (by omega) (by omega) (W.i64 (by omega))) ?_
 refine RS.asI rfl ?_
 refine nl hK7 ?_
 refine wp_seq_k (fun K9 hK9 => ?_)
 rw [hL]
 refine region ?_
 refine RS.mvI rfl ?_
 refine RS.o (D.add rfl rfl (W.i64 (by omega))) ?_
 refine RS.make rfl rfl Tryd.underlying35 T5 (by omega) (by omega) (by omega) (fun b10 w10 e10 s10 x10 B10 => ?_)
 refine RS.nm ?_
 replace hE := Ext.tr hE x10
 have zw10 := x10.size
 have emk : ((S.blen n : Int) + 1).toNat * 1 = S.blen n + 1 := by omega
 rw [emk, S.made_ints] at B10
 have O1 : IOwn w.heap.size w10 5 .u8 (some ⟨b10, 0, none⟩) ((S.blen n : Int) + 1).toNat ((S.blen n : Int) + 1).toNat (List.replicate (S.blen n + 1) 0) := IOwn.of_blk B10 rfl (by rw [List.length_replicate]; omega) (by omega) (Bd.zeros _ _) (by omega)
 refine RS.asS rfl ?_
 refine nl hK9 ?_
 refine sq fun K11 hK11 => ?_
 refine RS.mvS rfl ?_
 refine RS.mvI rfl ?_
 refine RS.o (D.add rfl rfl (W.i64 (by omega))) ?_
 refine RS.o (D.conv rfl Tryd.underlying3 Tryd.underlying5 (W.u8 (by omega))) ?_
 refine RS.o (D.indexAddr rfl rfl Tryd.underlying35 C5 (by decide) rfl (by omega)) ?_
 refine RS.storeI O1 rfl rfl C5 (by omega) (by simp only [lim]; omega) (fun w12 y12 N12 => ?_)
 replace hE := hE.trans (y12.belo)
 have zw12 := y12.size
 replace O1 := N12
 refine nl hK11 ?_
 refine wp_seq_k (fun K13 hK13 => ?_)
 refine sq fun K14 hK14 => ?_
 refine RS.mvI rfl ?_
 refine RS.mvI rfl ?_
 refine nl hK14 ?_
 refine wp_block ?_
 refine C.loop (A := Int) (fun p => [(24, .int .i64 p)]) [5, 25, 26, 27, 28, 29, 30, 31, 32, 33, 34, 35, 36, 37] (fun p w' => Pr (fun k => k = b10) w12 w' ∧ ((0 ≤ p ∧ p ≤ (S.blen n : Int)) ∧ IOwn w.heap.size w' 5 .u8 (some ⟨b10, 0, none⟩) ((S.blen n : Int) + 1).toNat ((S.blen n : Int) + 1).toNat (S.numP n p.toNat))) (fun p => (S.blen n - p.toNat)) 0 (by kernel_rfl) ?_ ?_
 ·refine ⟨Pr.refl _ _, ⟨by omega, by omega⟩, ?_⟩
  rw [show (0 : Int).toNat = 0 from rfl, ← S.numP_first]
  exact O1
 rintro p j w15 ⟨x15, hI⟩
 replace hE := hE.trans (x15.belo)
 have zw15 := x15.size
 obtain ⟨h1, O1⟩ := hI
 refine C.norm (by simp only [upd, junk, List.map_cons, List.map_nil, List.set_cons_succ, List.set_cons_zero]; exact rfl) ?_
 refine sq fun K16 hK16 => ?_
 refine RS.o (D.lt rfl rfl) ?_
 refine nl hK16 ?_
 refine wp_seq_k (fun K17 hK17 => ?_)
 refine C.ifd rfl (fun c18 => ?_) (fun c18 => ?_)
 ·refine wp_skip ?_
  refine hK17 _ _ ?_
  refine wp_seq_k (fun K19 hK19 => ?_)
  refine wp_block ?_
  refine sq fun K20 hK20 => ?_
  refine RS.mvI rfl ?_
  refine RS.asI rfl ?_
  refine nl hK20 ?_
  refine region ?_
  refine RS.mvS rfl ?_
  refine RS.mvI rfl ?_
  refine RS.mvI rfl ?_
  refine RS.o (D.sub rfl rfl (W.i64 (by omega))) ?_
  refine RS.mvI rfl ?_
  refine RS.mvI rfl ?_
  refine RS.o (D.mul rfl rfl (W.i64 (by omega))) ?_
  refine RS.ob (D.shr_u64 rfl rfl (by omega) (by constructor <;> omega)) (fun z21 => ?_)
  refine RS.o (D.conv rfl Tryd.underlying24 Tryd.underlying5 (W.u8m _)) ?_
  refine RS.o (D.indexAddr rfl rfl Tryd.underlying35 C5 (by decide) rfl (by omega)) ?_
  refine RS.storeI O1 rfl rfl C5 (by omega) (by simp only [lim]; omega) (fun w22 y22 N22 => ?_)
  replace hE := hE.trans (y22.belo)
  replace x15 := x15.stno y22
  have zw22 := y22.size
  replace O1 := N22
  refine nl hK19 ?_
  refine region ?_
  refine RS.o (D.add rfl rfl (W.i64 (by omega))) ?_
  refine RS.mvI rfl ?_
  refine RS.nil ?_
  change Nx _ _ _ _ _ _ _ _
  refine C.next (p + 1) ⟨rfl, trivial⟩ (by kernel_rfl) ?_ ?_
  ·refine ⟨x15, ⟨by omega, by omega⟩, ?_⟩
   rw [show (p + 1).toNat = p.toNat + 1 by omega, ← S.numP_step n p.toNat (by omega)]
   rw [show S.blen n - p.toNat = ((S.blen n : Int) - p).toNat by omega, show 8 * p.toNat = (8 * p).toNat by omega]
   exact O1
  omega
 refine wp_exit ?_
 refine hK13 _ _ ?_
 refine sq fun K23 hK23 => ?_
 refine RS.mvS rfl ?_
 refine RS.asS rfl ?_
 refine nl hK23 ?_
 refine wp_ret ?_
 refine ret (rs := [.tmp 2]) (vs := [.slice _ _ _]) (v := (.slice _ _ _)) rfl ⟨rfl, trivial⟩ rfl ?_
 rw [show p.toNat = S.blen n by omega, S.numP_all n (by omega)] at O1
 exact ⟨_, rfl, hE, _, _, _, rfl, O1⟩
theorem numR (n : Int) (hn : 0 ≤ n ∧ n < 18446744073709551616) (w : World) :
  Calls Tryd.prog 83 #[.int .u64 n] w (Ret w fun v w' => ∃ a' n' c', v = .slice a' n' c' ∧ IOwn w.heap.size w' 5 .u8 a' n' c' (S.numS n)) := by
 have hE := Ext.refl w
 refine enterU 40 Tryd.func83 rfl rfl ?_
 refine sq fun K1 hK1 => ?_
 refine RS.asS rfl ?_
 refine nl hK1 ?_
 refine wp_seq_k (fun K2 hK2 => ?_)
 refine sq fun K3 hK3 => ?_
 refine RS.mvI rfl ?_
 refine RS.o (D.le rfl rfl) ?_
 refine nl hK3 ?_
 refine C.ifd rfl (fun c4 => ?_) (fun c4 => ?_)
 ·have hs := c4
  refine sq fun K5 hK5 => ?_
  refine RS.mvI rfl ?_
  refine RS.o (D.conv rfl Tryd.underlying24 Tryd.underlying5 (W.u8 (by omega))) ?_
  refine RS.buildSlice (xs := [.tmp 9]) (vs := [.int _ _]) (cs := [.int _ _]) Tryd.underlying35 T5 (by decide) rfl rfl rfl rfl rfl rfl (by intro v hv; simp only [List.mem_cons, List.not_mem_nil, or_false] at hv; subst hv; rfl) rfl (fun b6 w6 e6 s6 x6 B6 => ?_)
  refine RS.nm ?_
  replace hE := Ext.tr hE x6
  have zw6 := x6.size
  have O1 : IOwn w.heap.size w6 5 .u8 (some ⟨b6, 0, none⟩) 1 1 [_] := IOwn.of_blk B6 rfl rfl (by omega) (.cons (by simp only [lim]; omega) (.nil _)) (by decide)
  refine RS.asS rfl ?_
  refine nl hK5 ?_
  refine wp_ret ?_
  refine ret (rs := [.tmp 2]) (vs := [.slice _ _ _]) (v := (.slice _ _ _)) rfl ⟨rfl, trivial⟩ rfl ?_
  rw [S.numS_small n (by omega)]
  exact ⟨_, rfl, hE, _, _, _, rfl, O1⟩
 have hs := c4
 refine wp_skip ?_
 refine hK2 _ _ ?_
 refine sq fun K7 hK7 => ?_
 refine RS.asS rfl ?_
 refine nl hK7 ?_
 refine wp_seq_k (fun K8 hK8 => ?_)
 refine wp_block ?_
 refine C.loop (A := Int × Option Addr × Nat × Nat × List Int) (fun p => [(0, .int .u64 p.1), (3, .slice p.2.1 p.2.2.1 p.2.2.2.1)]) [11, 12, 13, 14, 15, 16, 17, 18, 19, 20] (fun p w' => Pr (fun k => w.heap.size ≤ k) w w' ∧ ((0 ≤ p.1 ∧ p.1 < 18446744073709551616) ∧ p.2.2.1 ≤ 8 ∧ p.2.2.2.2 ++ S.leK (S.blen p.1) p.1 = S.leK (S.blen n) n ∧ IOwn w.heap.size w' 5 .u8 p.2.1 p.2.2.1 p.2.2.2.1 p.2.2.2.2)) (fun p => p.1.toNat) (n, none, 0, 0, []) (by kernel_rfl) ?_ ?_
 ·exact ⟨Pr.refl _ _, hn, by dsimp only; omega, rfl, IOwn.nil _ _ _ _⟩
 rintro p j w9 ⟨x9, hI⟩
 replace hE := hE.trans (x9.belo)
 have zw9 := x9.size
 obtain ⟨m, ao, no, co, ds⟩ := p
 dsimp only at hI
 obtain ⟨h1, hn8, h2, O1⟩ := hI
 have hdl := O1.len
 refine C.norm (by simp only [upd, junk, List.map_cons, List.map_nil, List.set_cons_succ, List.set_cons_zero]; exact rfl) ?_
 refine wp_seq_k (fun K10 hK10 => ?_)
 refine sq fun K11 hK11 => ?_
 refine RS.mvI rfl ?_
 refine RS.o (D.gt rfl rfl) ?_
 refine nl hK11 ?_
 refine C.ifd rfl (fun c12 => ?_) (fun c12 => ?_)
 ·refine wp_skip ?_
  refine hK10 _ _ ?_
  refine wp_block ?_
  refine sq fun K13 hK13 => ?_
  refine RS.mvS rfl ?_
  refine RS.mvI rfl ?_
  refine RS.o (D.rem rfl rfl (by omega) (by omega)) ?_
  refine RS.o (D.conv rfl Tryd.underlying24 Tryd.underlying5 (W.u8 (by omega))) ?_
  refine RS.buildSlice (xs := [.tmp 16]) (vs := [.int _ _]) (cs := [.int _ _]) Tryd.underlying35 T5 (by decide) rfl rfl rfl rfl rfl rfl (by intro v hv; simp only [List.mem_cons, List.not_mem_nil, or_false] at hv; subst hv; rfl) rfl (fun b14 w14 e14 s14 x14 B14 => ?_)
  refine RS.nm ?_
  replace hE := Ext.tr hE x14
  replace x9 := x9.ext x14
  replace O1 := O1.ext x14
  have zw14 := x14.size
  have Q1 : IRow .u8 (fun k => k = b14) w14 (some ⟨b14, 0, none⟩) 1 [_] := IRow.of_blk B14 rfl rfl rfl (.cons (by simp only [lim]; omega) (.nil _))
  refine RS.appendI O1 Q1 rfl rfl Tryd.underlying35 T5 rfl (by omega) (by decide) (by omega) (fun a15 c15 w15 N15 x15 => ?_)
  refine RS.nm ?_
  replace hE := hE.trans (x15.below (by intros; try (first | (intro _ _) | (intro _) | skip); first | omega | (have hq := O1.lo _ (by assumption); first | omega | (dsimp only at *; omega))) (by intros; try (first | (intro _ _) | (intro _) | skip); first | omega | (dsimp only at *; omega) | (simp_all; done) | (simp at *; omega)))
  replace x9 := x9.prn x15 (by intros; try (first | (intro _ _) | (intro _) | skip); first | omega | (have hq := O1.lo _ (by assumption); first | omega | (dsimp only at *; omega)))
  have zw15 := x15.size
  replace O1 := N15
  refine RS.asS rfl ?_
  refine nl hK13 ?_
  refine region ?_
  refine RS.mvI rfl ?_
  refine RS.o (D.quo rfl rfl (by omega) (by omega) (by first | exact W.u64 (by omega) | exact W.u64m _)) ?_
  refine RS.asI rfl ?_
  refine RS.nil ?_
  change Nx _ _ _ _ _ _ _ _
  refine C.next (m / 256, a15, no + 1, c15, ds ++ [m % 256]) ⟨rfl, rfl, trivial⟩ (by kernel_rfl) ?_ ?_
  ·have h2b := congrArg List.length h2
   rw [S.leK_step m (by omega) (by omega)] at h2 h2b
   rw [List.length_append, List.length_cons, S.leK_len, S.leK_len] at h2b
   have hb8 := S.blen_le n
   refine ⟨x9, ⟨by dsimp only; omega, by dsimp only; omega⟩, by dsimp only; omega, ?_, O1⟩
   dsimp only
   rw [List.append_assoc]
   exact h2
  dsimp only; omega
 have hz : m = 0 := by omega
 rw [hz, S.blen_zero] at h2
 have h3 : ds = S.leK (S.blen n) n := by rw [← h2]; exact (List.append_nil ds).symm
 rw [h3] at O1
 have hol := O1.len
 rw [S.leK_len] at hol
 have hbl := S.blen_le n
 refine wp_exit ?_
 refine hK8 _ _ ?_
 refine wp_seq_k (fun K16 hK16 => ?_)
 have R1 := O1.row.weaken (T := fun k => k < w9.heap.size) (fun k hk _ => hk)
 subst hol
 refine region ?_
 refine RS.mvS rfl ?_
 refine RS.o (D.len rfl Tryd.underlying35) ?_
 refine RS.o (D.add rfl rfl (W.i64 (by omega))) ?_
 refine RS.o (D.conv rfl Tryd.underlying3 Tryd.underlying5 (W.u8 (by omega))) ?_
 refine RS.buildSlice (xs := [.tmp 24]) (vs := [.int _ _]) (cs := [.int _ _]) Tryd.underlying35 T5 (by decide) rfl rfl rfl rfl rfl rfl (by intro v hv; simp only [List.mem_cons, List.not_mem_nil, or_false] at hv; subst hv; rfl) rfl (fun b17 w17 e17 s17 x17 B17 => ?_)
 refine RS.nm ?_
 replace hE := Ext.tr hE x17
 replace R1 := R1.ext x17
 have zw17 := x17.size
 have O2 : IOwn w9.heap.size w17 5 .u8 (some ⟨b17, 0, none⟩) 1 1 [_] := IOwn.of_blk B17 rfl rfl (by omega) (.cons (by simp only [lim]; omega) (.nil _)) (by decide)
 refine RS.asS rfl ?_
 refine nl hK16 ?_
 refine wp_seq_k (fun K18 hK18 => ?_)
 refine sq fun K19 hK19 => ?_
 refine RS.mvS rfl ?_
 refine RS.o (D.len rfl Tryd.underlying35) ?_
 refine RS.o (D.sub rfl rfl (W.i64 (by omega))) ?_
 refine RS.asI rfl ?_
 refine nl hK19 ?_
 refine wp_block ?_
 refine C.loop (A := Int × Option Addr × Nat × Nat) (fun p => [(4, .slice p.2.1 p.2.2.1 p.2.2.2), (5, .int .i64 p.1)]) [29, 30, 31, 32, 33, 34, 35, 36, 37, 38, 39] (fun p w' => Pr (fun k => w9.heap.size ≤ k) w17 w' ∧ ((-1 ≤ p.1 ∧ p.1 < (S.blen n : Int)) ∧ IOwn w9.heap.size w' 5 .u8 p.2.1 p.2.2.1 p.2.2.2 ((247 + (S.blen n : Int)) :: ((S.leK (S.blen n) n).drop (p.1 + 1).toNat).reverse))) (fun p => (p.1 + 1).toNat) ((S.blen n : Int) - 1, some ⟨b17, 0, none⟩, 1, 1) (by kernel_rfl) ?_ ?_
 ·refine ⟨Pr.refl _ _, ⟨by dsimp only; omega, by dsimp only; omega⟩, ?_⟩
  dsimp only
  rw [List.drop_eq_nil_of_le (by rw [S.leK_len]; omega)]
  exact O2
 rintro p j w20 ⟨x20, hI⟩
 replace hE := hE.trans (x20.belo)
 replace R1 := R1.pro x20
 have zw20 := x20.size
 obtain ⟨i, a2, n2, c2⟩ := p
 dsimp only at hI
 obtain ⟨g1, O2⟩ := hI
 have hol2 := O2.len
 rw [List.length_cons, List.length_reverse, List.length_drop, S.leK_len] at hol2
 refine C.norm (by simp only [upd, junk, List.map_cons, List.map_nil, List.set_cons_succ, List.set_cons_zero]; exact rfl) ?_
 refine wp_seq_k (fun K21 hK21 => ?_)
 refine sq fun K22 hK22 => ?_
 refine RS.mvI rfl ?_
 refine RS.o (D.ge rfl rfl) ?_
 refine nl hK22 ?_
 refine C.ifd rfl (fun c23 => ?_) (fun c23 => ?_)
 ·refine wp_skip ?_
  refine hK21 _ _ ?_
  refine wp_seq_k (fun K24 hK24 => ?_)
  refine wp_block ?_
  refine region ?_
  refine RS.mvS rfl ?_
  refine RS.mvS rfl ?_
  refine RS.mvI rfl ?_
  refine RS.idx R1 rfl rfl Tryd.underlying35 C5 (by omega) (fun b25 o25 v25 h25 q25 r25 => ?_)
  refine RS.nm ?_
  simp only [lim] at r25
  have qd := q25
  refine RS.o (D.load rfl Tryd.underlying5 rfl (h25)) ?_
  refine RS.buildSlice (xs := [.tmp 37]) (vs := [.int _ _]) (cs := [.int _ _]) Tryd.underlying35 T5 (by decide) rfl rfl rfl rfl rfl rfl (by intro v hv; simp only [List.mem_cons, List.not_mem_nil, or_false] at hv; subst hv; rfl) rfl (fun b26 w26 e26 s26 x26 B26 => ?_)
  refine RS.nm ?_
  replace hE := Ext.tr hE x26
  replace x20 := x20.ext x26
  replace R1 := R1.ext x26
  replace O2 := O2.ext x26
  have zw26 := x26.size
  have Q1 : IRow .u8 (fun k => k = b26) w26 (some ⟨b26, 0, none⟩) 1 [_] := IRow.of_blk B26 rfl rfl rfl (.cons (by simp only [lim]; omega) (.nil _))
  refine RS.appendI O2 Q1 rfl rfl Tryd.underlying35 T5 rfl (by omega) (by decide) (by omega) (fun a27 c27 w27 N27 x27 => ?_)
  refine RS.nm ?_
  replace hE := hE.trans (x27.below (by intros; try (first | (intro _ _) | (intro _) | skip); first | omega | (have hq := O2.lo _ (by assumption); first | omega | (dsimp only at *; omega))) (by intros; try (first | (intro _ _) | (intro _) | skip); first | omega | (dsimp only at *; omega) | (simp_all; done) | (simp at *; omega)))
  replace x20 := x20.prn x27 (by intros; try (first | (intro _ _) | (intro _) | skip); first | omega | (have hq := O2.lo _ (by assumption); first | omega | (dsimp only at *; omega)))
  replace R1 := R1.pr x27 (by intros; try (first | (intro _ _) | (intro _) | skip); first | omega | (have hq := O2.lo _ (by assumption); first | omega | (dsimp only at *; omega)))
  have zw27 := x27.size
  replace O2 := N27
  refine RS.asS rfl ?_
  refine nl hK24 ?_
  refine region ?_
  refine RS.mvI rfl ?_
  refine RS.o (D.sub rfl rfl (W.i64 (by omega))) ?_
  refine RS.asI rfl ?_
  refine RS.nil ?_
  change Nx _ _ _ _ _ _ _ _
  refine C.next (i - 1, _, _, _) ⟨rfl, rfl, trivial⟩ (by kernel_rfl) ?_ ?_
  ·refine ⟨x20, ⟨by dsimp only; omega, by dsimp only; omega⟩, ?_⟩
   dsimp only
   have ed : (S.leK (S.blen n) n).drop (i - 1 + 1).toNat = v25 :: (S.leK (S.blen n) n).drop (i + 1).toNat := by rw [show (i - 1 + 1).toNat = i.toNat by omega, List.drop_eq_getElem_cons (by rw [S.leK_len]; omega), show i.toNat + 1 = (i + 1).toNat by omega, qd, List.getD_eq_getElem?_getD, List.getElem?_eq_getElem (by rw [S.leK_len]; omega)]; rfl
   rw [ed, List.reverse_cons]
   exact O2
  dsimp only; omega
 refine wp_exit ?_
 refine hK18 _ _ ?_
 refine sq fun K28 hK28 => ?_
 refine RS.mvS rfl ?_
 refine RS.asS rfl ?_
 refine nl hK28 ?_
 refine wp_ret ?_
 refine ret (rs := [.tmp 2]) (vs := [.slice _ _ _]) (v := (.slice _ _ _)) rfl ⟨rfl, trivial⟩ rfl ?_
 rw [show i = -1 by omega, show ((-1 : Int) + 1).toNat = 0 from rfl, List.drop_zero, ← S.numS_large n (by omega)] at O2
 exact ⟨_, rfl, hE, _, _, _, rfl, O2.base (fun k hk => by have := O2.lo k hk; omega)⟩
theorem bytesW {S0 : Nat → Prop} (a : Option Addr) (n c : Nat) (xs : List Int) (w : World) (R0 : IRow .u8 S0 w a n xs) (hn : n ≤ 10000) :
  Calls Tryd.prog 45 #[.slice a n c] w (Ret w fun v w' => ∃ a' n' c', v = .tuple #[.slice a' n' c', .int .i64 0] ∧ IOwn w.heap.size w' 5 .u8 a' n' c' (S.numS n ++ xs)) := by
 replace R0 := R0.weaken (T := fun k => k < w.heap.size) (fun k hk _ => hk)
 have hE := Ext.refl w
 refine enterU 12 Tryd.func45 rfl rfl ?_
 refine sq fun K1 hK1 => ?_
 refine RS.asS rfl ?_
 refine RS.asI rfl ?_
 refine nl hK1 ?_
 refine wp_seq_k (fun K2 hK2 => ?_)
 refine sq fun K3 hK3 => ?_
 refine RS.mvS rfl ?_
 refine RS.o (D.len rfl Tryd.underlying35) ?_
 refine RS.o (D.gt rfl rfl) ?_
 refine nl hK3 ?_
 refine C.ifd rfl (fun c4 => ?_) (fun c4 => ?_)
 ·exact absurd c4 (by omega)
 refine wp_skip ?_
 refine hK2 _ _ ?_
 refine sq fun K5 hK5 => ?_
 refine RS.mvS rfl ?_
 refine RS.o (D.len rfl Tryd.underlying35) ?_
 refine RS.o (D.conv rfl Tryd.underlying3 Tryd.underlying24 (W.u64 (by omega))) ?_
 refine RS.call E44 (numW _ (by omega) _) rfl (fun v6 w6 x6 A6 => ?_)
 replace hE := Ext.tr hE x6
 replace R0 := R0.ext x6
 have zw6 := x6.size
 obtain ⟨a6, n6, c6, rfl, O1⟩ := A6
 have hnl := S.numS_len (n : Int)
 have hol := O1.len
 refine RS.nm ?_
 refine RS.mvS rfl ?_
 refine RS.appendI O1 R0 rfl rfl Tryd.underlying35 T5 rfl (by omega) (by decide) (by omega) (fun a7 c7 w7 N7 x7 => ?_)
 refine RS.nm ?_
 replace hE := hE.trans (x7.below (by intros; try (first | (intro _ _) | (intro _) | skip); first | omega | (have hq := O1.lo _ (by assumption); first | omega | (dsimp only at *; omega))) (by intros; try (first | (intro _ _) | (intro _) | skip); first | omega | (dsimp only at *; omega) | (simp_all; done) | (simp at *; omega)))
 replace R0 := R0.pr x7 (by intros; try (first | (intro _ _) | (intro _) | skip); first | omega | (have hq := O1.lo _ (by assumption); first | omega | (dsimp only at *; omega)))
 have zw7 := x7.size
 replace O1 := N7
 refine RS.asS rfl ?_
 refine RS.asI rfl ?_
 refine nl hK5 ?_
 refine wp_ret ?_
 refine ret (rs := [.tmp 2, .tmp 3]) (vs := [.slice _ _ _, .int _ _]) (v := (.tuple #[.slice _ _ _, .int _ _])) rfl ⟨rfl, rfl, trivial⟩ rfl ?_
 exact ⟨_, rfl, hE, _, _, _, rfl, O1⟩
theorem signedW (n : Int) (hn : -9223372036854775808 ≤ n ∧ n ≤ 9223372036854775807) (w : World) :
  Calls Tryd.prog 82 #[.int .i64 n] w (Ret w fun v w' => ∃ a' n' c', v = .slice a' n' c' ∧ IOwn w.heap.size w' 5 .u8 a' n' c' (S.numS (S.zig n))) := by
 have hz := S.zig_bd n hn
 have hze := S.zig_eq n hn
 have hE := Ext.refl w
 refine enterU 10 Tryd.func82 rfl rfl ?_
 refine sq fun K1 hK1 => ?_
 refine RS.asS rfl ?_
 refine nl hK1 ?_
 refine sq fun K2 hK2 => ?_
 refine RS.mvI rfl ?_
 refine RS.o (D.conv rfl Tryd.underlying2 Tryd.underlying24 (W.u64m _)) ?_
 refine RS.o (D.shl rfl rfl (by constructor <;> (try simp only [IntKind.bits]) <;> omega) (W.u64m _)) ?_
 refine RS.mvI rfl ?_
 refine RS.o (D.shr rfl rfl (by constructor <;> (try simp only [IntKind.bits]) <;> omega)) ?_
 refine RS.o (D.conv rfl Tryd.underlying2 Tryd.underlying24 (W.u64m _)) ?_
 refine RS.ob (D.bxor_u64 rfl rfl (by omega) (by omega)) (fun z3 => ?_)
 rw [hze]
 refine RS.call E44 (numW _ (by omega) _) rfl (fun v4 w4 x4 A4 => ?_)
 replace hE := Ext.tr hE x4
 have zw4 := x4.size
 obtain ⟨a4, n4, c4, rfl, O1⟩ := A4
 refine RS.nm ?_
 refine RS.asS rfl ?_
 refine nl hK2 ?_
 refine wp_ret ?_
 refine ret (rs := [.tmp 2]) (vs := [.slice _ _ _]) (v := (.slice _ _ _)) rfl ⟨rfl, trivial⟩ rfl ?_
 exact ⟨_, rfl, hE, _, _, _, rfl, O1⟩
end Go.Proofs.YtiohpiiiapjblaaDoor.W
namespace Go.Proofs.YtiohpiiiapjblaaDoor.W
open Go.RowKit Go.Proofs.YtiohpiiiapjblaaDoor.G
set_option linter.unusedVariables false
set_option maxRecDepth 20000
set_option maxHeartbeats 8000000
attribute [local irreducible] RS RX
theorem T3 : TI Tryd.prog 3 1 8 [.int .i64 0] := by
 have h : (Tryd.prog.info? 3).map (fun i => (i.size, i.bytes, i.zero)) = some (1, 8, some (.int .i64 0)) := by kernel_rfl
 exact TI.of h rfl
theorem E56 : Enters Tryd.prog 56 := .mk Tryd.func56 (by kernel_rfl) rfl
theorem E114 : Enters Tryd.prog 114 := .mk Tryd.func114 (by kernel_rfl) rfl
theorem E115 : Enters Tryd.prog 115 := .mk Tryd.func115 (by kernel_rfl) rfl
theorem E130 : Enters Tryd.prog 130 := .mk Tryd.func130 (by kernel_rfl) rfl
theorem risingC (xs : List Int) (X : Arr .u8 32 xs) (v : Int) (a : Option Addr) (n c : Nat) (ids : List Int) (bA bB : Nat) (TA TB : TypeId) (w : World) (BA : Blk w bA [.int .i64 v] TA) (BB : Blk w bB [.slice a n c] TB) (D0 : WRow .u8 32 (fun k => k < bA) w a n ids) (hne : bB < bA) (hc : n ≤ c) (hn : n ≤ 1000) (hv : 0 ≤ v ∧ v < n) :
  Calls Tryd.prog 115 #[.agg (ints .u8 xs).toArray, .pointer (some ⟨bA, 0, none⟩), .pointer (some ⟨bB, 0, none⟩)] w (fun e w' => ∃ r, e = .returned (.bool r) ∧ Pr (fun k => k = bA) w w' ∧ Blk w' bA [.int .i64 (v + 1)] TA ∧ (r = true ↔ (v + 1 < n ∧ 0 ≤ S.cmpS (S.idAt ids v.toNat) (S.idAt ids (v + 1).toNat)))) := by
 have hlt := BA.lt
 have hlt2 := BB.lt
 have hE := Pr.refl (fun k => k = bA) w
 refine enterU 21 Tryd.func115 rfl rfl ?_
 refine sq fun K1 hK1 => ?_
 refine RS.box rfl rfl (fun b2 w2 e2 s2 x2 B2 => ?_)
 refine RS.nm ?_
 replace hE := hE.ext x2
 replace BA := BA.ext x2
 replace BB := BB.ext x2
 replace D0 := D0.ext x2
 have zw2 := x2.size
 have A2 := IArr.ofA (n := 32) B2 X
 clear B2
 refine RS.asB rfl ?_
 refine nl hK1 ?_
 refine sq fun K3 hK3 => ?_
 refine RS.o (D.load rfl Tryd.underlying3 rfl (BA.cell rfl)) ?_
 refine RS.o (D.add rfl rfl (W.i64 (by omega))) ?_
 refine RS.store rfl (v := .int _ _) rfl C3 rfl BA rfl (fun w4 y4 N4 => ?_)
 replace hE := hE.stno y4
 replace BB := BB.sto y4
 replace D0 := D0.sto y4
 replace A2 := A2.sto y4
 have zw4 := y4.size
 replace BA := N4
 refine nl hK3 ?_
 refine wp_seq_k (fun K5 hK5 => ?_)
 refine regionX Ext [(0, .q), (1, .q), (2, .q), (3, .q), (4, .q), (5, .q), (6, .q), (7, .q), (8, .q), (9, .q), (10, .q), (11, .q), (12, .q), (13, .q), (14, .e), (15, .q), (16, .q), (17, .q)] mixed Ext.refl (fun h k => h.tr k) (by kernel_rfl) (fun w6 x6 => ?_)
 replace hE := hE.ext x6
 replace BA := BA.ext x6
 replace BB := BB.ext x6
 replace D0 := D0.ext x6
 replace A2 := A2.ext x6
 have zw6 := x6.size
 refine RX.o (fun w' hw => D.load rfl Tryd.underlying3 rfl ((BA.ext hw).cell rfl)) ?_
 refine RX.o (fun w' hw => D.load rfl Tryd.underlying23 rfl ((BB.ext hw).cell rfl)) ?_
 refine RX.o (fun w' hw => D.len rfl Tryd.underlying23) ?_
 refine RX.o (fun w' hw => D.lt rfl rfl) ?_
 refine RX.mvB rfl ?_
 refine RX.splitd 11 rfl rfl (fun c7 => ?_) (fun c7 => ?_)
 ·refine RX.nm ?_
  refine RX.wt 11 ?_
  refine RX.o (fun w' hw => D.load rfl Tryd.underlying23 rfl ((BB.ext hw).cell rfl)) ?_
  refine RX.wt 11 ?_
  refine RX.o (fun w' hw => D.load rfl Tryd.underlying3 rfl ((BA.ext hw).cell rfl)) ?_
  refine RX.wt 11 ?_
  refine RX.o (fun w' hw => D.sub rfl rfl (W.i64 (by omega))) ?_
  refine RX.wt 11 ?_
  refine RX.idxW (fun _ h => h) D0 rfl rfl Tryd.underlying23 C42 (by decide) (by omega) (fun b8 o8 h8 q8 r8 => ?_)
  refine RX.nm ?_
  have r1 := r8
  refine RX.wt 11 ?_
  refine RX.o (fun w' hw => D.loadW rfl Tryd.underlying42 rfl C42 (by decide) r8 (h8 w' hw)) ?_
  refine RX.wt 11 ?_
  refine RX.o (fun w' hw => D.load rfl Tryd.underlying23 rfl ((BB.ext hw).cell rfl)) ?_
  refine RX.wt 11 ?_
  refine RX.o (fun w' hw => D.load rfl Tryd.underlying3 rfl ((BA.ext hw).cell rfl)) ?_
  refine RX.wt 11 ?_
  refine RX.idxW (fun _ h => h) D0 rfl rfl Tryd.underlying23 C42 (by decide) (by omega) (fun b9 o9 h9 q9 r9 => ?_)
  refine RX.nm ?_
  have r2 := r9
  refine RX.wt 11 ?_
  refine RX.o (fun w' hw => D.loadW rfl Tryd.underlying42 rfl C42 (by decide) r9 (h9 w' hw)) ?_
  refine RX.wt 11 ?_
  refine RX.eff ?_
  refine RS.call E56 (dcmp _ _ r1 r2 _) rfl (fun v10 w10 x10 A10 => ?_)
  replace hE := hE.ext x10
  replace BA := BA.ext x10
  replace BB := BB.ext x10
  replace D0 := D0.ext x10
  replace A2 := A2.ext x10
  have zw10 := x10.size
  subst A10
  refine RS.nm ?_
  refine RS.nil ⟨x10, ?_⟩
  refine RX.wt 11 ?_
  refine RX.o (fun w' hw => D.ge rfl rfl) ?_
  refine RX.pick (v := .bool _) rfl rfl ?_
  refine RX.assign (v := .bool _) rfl ?_
  refine RX.nil (hK5 _ _ ?_)
  refine wp_ret ?_
  change bodyPost Tryd.prog Tryd.f115 (fun e w' => ∃ r, e = .returned (.bool r) ∧ Pr (fun k => k = bA) w w' ∧ Blk w' bA [.int .i64 (v + 1)] TA ∧ (r = true ↔ (v + 1 < n ∧ 0 ≤ S.cmpS (S.idAt ids v.toNat) (S.idAt ids (v + 1).toNat)))) .ret _ _
  refine retB rfl rfl ?_
  refine ⟨_, rfl, hE, BA, ?_⟩
  rw [decide_eq_true_iff, show v + 1 - 1 = v by omega]
  exact ⟨fun h => ⟨by omega, h⟩, fun h => h.2⟩
 refine RX.nm ?_
 refine RX.skF 11 ?_
 refine RX.skF 11 ?_
 refine RX.skF 11 ?_
 refine RX.skF 11 ?_
 refine RX.skF 11 ?_
 refine RX.skF 11 ?_
 refine RX.skF 11 ?_
 refine RX.skF 11 ?_
 refine RX.skF 11 ?_
 refine RX.skF 11 ?_
 refine RX.skF 11 ?_
 refine RX.pick (v := .bool false) rfl rfl ?_
 refine RX.assign (v := .bool _) rfl ?_
 refine RX.nil (hK5 _ _ ?_)
 refine wp_ret ?_
 change bodyPost Tryd.prog Tryd.f115 (fun e w' => ∃ r, e = .returned (.bool r) ∧ Pr (fun k => k = bA) w w' ∧ Blk w' bA [.int .i64 (v + 1)] TA ∧ (r = true ↔ (v + 1 < n ∧ 0 ≤ S.cmpS (S.idAt ids v.toNat) (S.idAt ids (v + 1).toNat)))) .ret _ _
 refine retB rfl rfl ?_
 refine ⟨_, rfl, hE, BA, ?_⟩
 constructor
 ·intro h; cases h
 intro h; omega
theorem indexID (a : Option Addr) (n c : Nat) (ids : List Int) (bA bB : Nat) (TA TB : TypeId) (w : World) (BA : Blk w bA [.int .i64 0] TA) (BB : Blk w bB [.slice a n c] TB) (D0 : WRow .u8 32 (fun k => k < bA) w a n ids) (hne : bB < bA) (hc : n ≤ c) (hn : n ≤ 1000) :
  Calls Tryd.prog 130 #[.slice a n c, .func (.func 115) #[] #[.pointer (some ⟨bA, 0, none⟩), .pointer (some ⟨bB, 0, none⟩)]] w (fun e w' => ∃ j, e = .returned (.int .i64 j) ∧ Pr (fun k => k = bA) w w' ∧ (j < 0 ↔ S.Rising n ids)) := by
 have hlt := BA.lt
 have hlt2 := BB.lt
 have hE := Pr.refl (fun k => k = bA) w
 refine enterU 17 Tryd.func130 rfl rfl ?_
 refine sq fun K1 hK1 => ?_
 refine RS.asI rfl ?_
 refine nl hK1 ?_
 refine wp_seq_k (fun K2 hK2 => ?_)
 refine sq fun K3 hK3 => ?_
 refine RS.mvS rfl ?_
 refine RS.o (D.len rfl Tryd.underlying23) ?_
 refine RS.mvI rfl ?_
 refine nl hK3 ?_
 refine wp_block ?_
 refine C.loop (A := Int) (fun p => [(8, .int .i64 p)]) [4, 5, 9, 10, 11, 12, 13, 14, 15, 16, 17, 18] (fun p w' => Pr (fun k => k = bA) w w' ∧ ((0 ≤ p ∧ p ≤ n) ∧ Blk w' bA [.int .i64 p] TA ∧ (∀ j, j < p.toNat → j < n - 1 → S.cmpS (S.idAt ids j) (S.idAt ids (j + 1)) < 0))) (fun p => (n - p.toNat)) 0 (by kernel_rfl) ?_ ?_
 ·exact ⟨Pr.refl _ _, ⟨by omega, by omega⟩, BA, fun j hj => by omega⟩
 rintro p j w4 ⟨x4, hI⟩
 replace hE := hE.prno x4
 replace BB := BB.pro x4
 replace D0 := D0.pro x4
 have zw4 := x4.size
 obtain ⟨h1, BA, h2⟩ := hI
 refine C.norm (by simp only [upd, junk, List.map_cons, List.map_nil, List.set_cons_succ, List.set_cons_zero]; exact rfl) ?_
 refine sq fun K5 hK5 => ?_
 refine RS.o (D.lt rfl rfl) ?_
 refine nl hK5 ?_
 refine wp_seq_k (fun K6 hK6 => ?_)
 refine C.ifd rfl (fun c7 => ?_) (fun c7 => ?_)
 ·refine wp_skip ?_
  refine hK6 _ _ ?_
  refine wp_seq_k (fun K8 hK8 => ?_)
  refine wp_block ?_
  refine sq fun K9 hK9 => ?_
  refine RS.mvI rfl ?_
  refine RS.asI rfl ?_
  refine nl hK9 ?_
  refine sq fun K10 hK10 => ?_
  refine RS.move (v := .func _ _ _) rfl ?_
  refine RS.mvS rfl ?_
  refine RS.mvI rfl ?_
  refine RS.idxW D0 rfl rfl Tryd.underlying23 C42 (by decide) (by omega) (fun b11 o11 h11 q11 r11 => ?_)
  refine RS.nm ?_
  have r1 := r11
  refine RS.o (D.loadW rfl Tryd.underlying42 rfl C42 (by decide) r11 h11) ?_
  refine RS.callv E115 (risingC _ r1 _ _ _ _ _ _ _ _ _ _ BA BB D0 hne hc hn (by omega)) rfl rfl (fun e12 w12 A12 => ?_)
  obtain ⟨r12, rfl, X12, N12, hr⟩ := A12
  refine ⟨_, rfl, ?_⟩
  refine RS.nm ?_
  replace hE := hE.prno X12
  replace x4 := x4.prno X12
  replace BB := BB.pro X12
  replace D0 := D0.pro X12
  have zw12 := X12.size
  replace BA := N12
  refine nl hK10 ?_
  refine C.ifb rfl (fun c13 => ?_) (fun c13 => ?_)
  ·have hrt := c13
   refine sq fun K14 hK14 => ?_
   refine RS.mvI rfl ?_
   refine RS.asI rfl ?_
   refine nl hK14 ?_
   refine wp_ret ?_
   change bodyPost Tryd.prog Tryd.f130 (fun e w' => ∃ j, e = .returned (.int .i64 j) ∧ Pr (fun k => k = bA) w w' ∧ (j < 0 ↔ S.Rising n ids)) .ret _ _
   refine retI rfl rfl ?_
   have h3 := hr.1 hrt
   refine ⟨_, rfl, hE, ⟨fun h => by omega, fun h => ?_⟩⟩
   have := h p.toNat (by omega)
   rw [show (p + 1).toNat = p.toNat + 1 by omega] at h3
   omega
  have hrf := c13
  refine wp_skip ?_
  refine hK8 _ _ ?_
  refine region ?_
  refine RS.o (D.add rfl rfl (W.i64 (by omega))) ?_
  refine RS.mvI rfl ?_
  refine RS.nil ?_
  change Nx _ _ _ _ _ _ _ _
  refine C.next (p + 1) ⟨rfl, trivial⟩ (by kernel_rfl) ?_ ?_
  ·refine ⟨x4, ⟨by omega, by omega⟩, BA, fun j hj hj2 => ?_⟩
   by_cases hjp : j < p.toNat
   ·exact h2 j hjp hj2
   have ej : j = p.toNat := by omega
   subst ej
   by_cases hb : S.cmpS (S.idAt ids p.toNat) (S.idAt ids (p.toNat + 1)) < 0
   ·exact hb
   have := hr.2 ⟨by omega, by rw [show (p + 1).toNat = p.toNat + 1 by omega]; omega⟩
   rw [hrf] at this; cases this
  omega
 have hlast := c7
 refine wp_exit ?_
 refine hK2 _ _ ?_
 refine sq fun K15 hK15 => ?_
 refine RS.asI rfl ?_
 refine nl hK15 ?_
 refine wp_ret ?_
 change bodyPost Tryd.prog Tryd.f130 (fun e w' => ∃ j, e = .returned (.int .i64 j) ∧ Pr (fun k => k = bA) w w' ∧ (j < 0 ↔ S.Rising n ids)) .ret _ _
 refine retI rfl rfl ?_
 refine ⟨_, rfl, hE, ⟨fun _ j hj => h2 j (by omega) hj, fun _ => by decide⟩⟩
theorem containsID (a : Option Addr) (n c : Nat) (ids : List Int) (bA bB : Nat) (TA TB : TypeId) (w : World) (BA : Blk w bA [.int .i64 0] TA) (BB : Blk w bB [.slice a n c] TB) (D0 : WRow .u8 32 (fun k => k < bA) w a n ids) (hne : bB < bA) (hc : n ≤ c) (hn : n ≤ 1000) :
  Calls Tryd.prog 114 #[.slice a n c, .func (.func 115) #[] #[.pointer (some ⟨bA, 0, none⟩), .pointer (some ⟨bB, 0, none⟩)]] w (fun e w' => ∃ r, e = .returned (.bool r) ∧ Pr (fun k => k = bA) w w' ∧ (r = true ↔ ¬ S.Rising n ids)) := by
 have hlt := BA.lt
 have hlt2 := BB.lt
 have hE := Pr.refl (fun k => k = bA) w
 refine enterU 7 Tryd.func114 rfl rfl ?_
 refine sq fun K1 hK1 => ?_
 refine RS.asB rfl ?_
 refine nl hK1 ?_
 refine sq fun K2 hK2 => ?_
 refine RS.mvS rfl ?_
 refine RS.move (v := .func _ _ _) rfl ?_
 refine RS.callx E130 (indexID _ _ _ _ _ _ _ _ _ BA BB D0 hne hc hn) rfl (fun e3 w3 A3 => ?_)
 obtain ⟨jr, rfl, X3, hr⟩ := A3
 refine ⟨_, rfl, ?_⟩
 refine RS.nm ?_
 replace hE := hE.prno X3
 replace BB := BB.pro X3
 replace D0 := D0.pro X3
 have zw3 := X3.size
 refine RS.o (D.ge rfl rfl) ?_
 refine RS.asB rfl ?_
 refine nl hK2 ?_
 refine wp_ret ?_
 change bodyPost Tryd.prog Tryd.f114 (fun e w' => ∃ r, e = .returned (.bool r) ∧ Pr (fun k => k = bA) w w' ∧ (r = true ↔ ¬ S.Rising n ids)) .ret _ _
 refine retB rfl rfl ?_
 refine ⟨_, rfl, hE, ?_⟩
 rw [decide_eq_true_iff]
 have hj := hr
 constructor
 ·intro h h2; have := hj.2 h2; omega
 intro h; by_cases h0 : 0 ≤ jr
 ·exact h0
 exact (h (hj.1 (by omega))).elim
theorem risingW {S0 : Nat → Prop} (a : Option Addr) (n c : Nat) (ids : List Int) (w : World) (D0 : WRow .u8 32 S0 w a n ids) (hc : n ≤ c) (hn : n ≤ 1000) :
  Calls Tryd.prog 79 #[.slice a n c] w (Ret w fun v _ => v = .bool (decide (S.Rising n ids))) := by
 replace D0 := D0.weaken (T := fun k => k < w.heap.size) (fun k hk _ => hk)
 have hE := Ext.refl w
 refine enterU 7 Tryd.func79 rfl rfl ?_
 refine sq fun K1 hK1 => ?_
 refine RS.box rfl rfl (fun b2 w2 e2 s2 x2 B2 => ?_)
 refine RS.nm ?_
 replace hE := Ext.tr hE x2
 replace D0 := D0.ext x2
 have zw2 := x2.size
 refine RS.asB rfl ?_
 refine nl hK1 ?_
 refine sq fun K3 hK3 => ?_
 refine RS.alloc T3 (fun b4 w4 e4 s4 x4 B4 => ?_)
 refine RS.nm ?_
 replace hE := Ext.tr hE x4
 replace D0 := D0.ext x4
 replace B2 := B2.ext x4
 have zw4 := x4.size
 refine RS.store rfl (v := .int _ _) rfl C3 rfl B4 rfl (fun w5 y5 N5 => ?_)
 replace hE := hE.trans (y5.belo)
 replace D0 := D0.sto y5
 replace B2 := B2.sto y5
 have zw5 := y5.size
 replace B4 := N5
 refine nl hK3 ?_
 refine sq fun K6 hK6 => ?_
 refine RS.o (D.load rfl Tryd.underlying23 rfl (B2.cell rfl)) ?_
 refine RS.o (D.func (fs := []) (cs := [.pointer _, .pointer _]) rfl rfl) ?_
 refine RS.callx E114 (containsID _ _ _ _ _ _ _ _ _ B4 B2 (D0.weaken (T := fun k => k < b4) (fun k _ h => by omega)) (by omega) hc hn) rfl (fun e7 w7 A7 => ?_)
 obtain ⟨r, rfl, X7, hr⟩ := A7
 refine ⟨_, rfl, ?_⟩
 refine RS.nm ?_
 replace hE := hE.trans (X7.belo)
 replace D0 := D0.pro X7
 replace B2 := B2.pro X7
 have zw7 := X7.size
 refine RS.o (D.not rfl) ?_
 refine RS.asB rfl ?_
 refine nl hK6 ?_
 refine wp_ret ?_
 refine retB rfl rfl ?_
 refine ⟨_, rfl, hE, congrArg Value.bool ?_⟩
 by_cases h : S.Rising n ids
 ·rw [decide_eq_true h]; cases hb : r
  ·rfl
  exact (hr.1 hb h).elim
 rw [decide_eq_false h, hr.2 h]; rfl
end Go.Proofs.YtiohpiiiapjblaaDoor.W
