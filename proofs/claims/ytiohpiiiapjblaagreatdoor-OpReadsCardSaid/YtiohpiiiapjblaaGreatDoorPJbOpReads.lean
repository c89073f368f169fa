/-
  OpReads: Decode, Sign and Verify return the results and errors of the reference for any bytes, secret and operation, and share no memory with them. Condition: the table digest.constants is as its initialiser lays it (tied by the card).
-/
import Derived.Test.YtiohpiiiapjblaaGreatDoorPJb12
namespace Go.Proofs.YtiohpiiiapjblaaGreatDoor.W
open Go.RowKit Go.Proofs.YtiohpiiiapjblaaGreatDoor.G
set_option linter.unusedVariables false
set_option maxRecDepth 20000
set_option maxHeartbeats 8000000
attribute [local irreducible] RS RX
theorem E11 : Enters Tryz.prog 11 := .mk Tryz.func11 (by kernel_rfl) rfl
theorem E12 : Enters Tryz.prog 12 := .mk Tryz.func12 (by kernel_rfl) rfl
theorem E13 : Enters Tryz.prog 13 := .mk Tryz.func13 (by kernel_rfl) rfl
theorem E16 : Enters Tryz.prog 16 := .mk Tryz.func16 (by kernel_rfl) rfl
theorem E17 : Enters Tryz.prog 17 := .mk Tryz.func17 (by kernel_rfl) rfl
theorem E24 : Enters Tryz.prog 24 := .mk Tryz.func24 (by kernel_rfl) rfl
theorem E26 : Enters Tryz.prog 26 := .mk Tryz.func26 (by kernel_rfl) rfl
theorem opReads {S0 S1 : Nat → Prop} (a : Option Addr) (n c : Nat) (bs : List Int) (x : Int) (hx : 0 ≤ x ∧ x < 4294967296) (o : S.OpV) (hr : o.rng) (pa : Option Addr) (pc : Nat) (TK : TypeId) (w : World) (K0 : Kst w TK) (R0 : IRow .u8 S1 w a n bs) (hcb : n ≤ c) (D0 : WRow .u8 32 S0 w pa o.n o.ids) (hc : o.n ≤ pc) :
  Calls Tryz.prog 5 #[.slice a n c, .int .u32 x, .agg ([.int .u32 o.au, .slice pa o.n pc, .int .u64 o.st, .int .u8 o.k, .string o.key, .int .u8 o.vk, .int .i64 o.num, .int .u64 o.bits, .string o.t, .int .u32 o.e, .int .u32 o.s] : List Value).toArray] w (Ret w fun v _ => v = .bool true) := by
 replace D0 := D0.weaken (T := fun k => k < w.heap.size) (fun k hk _ => hk)
 replace R0 := R0.weaken (T := fun k => k < w.heap.size) (fun k hk _ => hk)
 have el := D0.len
 have hbl := R0.len
 have hbd := R0.bd
 have hKl := K0.lt
 have hok := S.decO_ok hbd
 have hE := Ext.refl w
 refine enterU 105 Tryz.func5 rfl rfl ?_
 refine sq fun K1 hK1 => ?_
 refine RS.box rfl rfl (fun b2 w2 e2 s2 x2 B2 => ?_)
 refine RS.nm ?_
 replace hE := Ext.tr hE x2
 replace K0 := K0.ext x2
 replace D0 := D0.ext x2
 replace R0 := R0.ext x2
 have zw2 := x2.size
 refine RS.asB rfl ?_
 refine nl hK1 ?_
 refine wp_seq_k (fun K3 hK3 => ?_)
 refine sq fun K4 hK4 => ?_
 refine RS.o (D.loadAgg rfl Tryz.underlying33 rfl C33 (by decide) rfl (B2.cellsN 11 rfl)) ?_
 refine RS.call E19 (great o _ _ _) rfl (fun v5 w5 x5 A5 => ?_)
 replace hE := Ext.tr hE x5
 replace K0 := K0.ext x5
 replace D0 := D0.ext x5
 replace R0 := R0.ext x5
 replace B2 := B2.ext x5
 have zw5 := x5.size
 subst A5
 refine RS.nm ?_
 refine RS.mvB rfl ?_
 refine RS.splitb 22 rfl rfl (fun c6 => ?_) (fun c6 => ?_)
 ·refine RS.nm ?_
  have hG := c6
  refine RS.skT 22 ?_
  refine RS.skT 22 ?_
  refine RS.skT 22 ?_
  refine RS.pick (v := .bool true) rfl rfl ?_
  refine nl hK4 ?_
  refine C.ift rfl ?_
  refine sq fun K7 hK7 => ?_
  refine RS.asB rfl ?_
  refine nl hK7 ?_
  refine wp_ret ?_
  refine retB rfl rfl ?_
  first | exact ⟨_, rfl, hE, rfl⟩ | exact ⟨_, rfl, hE, congrArg Value.bool (beq_self_eq_true _)⟩
 refine RS.nm ?_
 have hG := of_decide_eq_false c6
 have ho : o.ok := hr.ok hG
 have hso := S.signS_ok x o ho
 refine RS.wt 22 ?_
 refine RS.mvS rfl ?_
 refine RS.wt 22 ?_
 refine RS.o (D.len rfl Tryz.underlying22) ?_
 refine RS.wt 22 ?_
 refine RS.o (D.gt rfl rfl) ?_
 refine RS.pick (v := .bool _) rfl rfl ?_
 refine nl hK4 ?_
 refine C.ifd rfl (fun c8 => ?_) (fun c8 => ?_)
 ·refine wp_seq_k (fun K9 hK9 => ?_)
  refine region ?_
  refine RS.asB rfl ?_
  refine nl hK9 ?_
  refine wp_ret ?_
  refine retB rfl rfl ?_
  first | exact ⟨_, rfl, hE, rfl⟩ | exact ⟨_, rfl, hE, congrArg Value.bool (beq_self_eq_true _)⟩
 refine wp_skip ?_
 refine hK3 _ _ ?_
 refine sq fun K10 hK10 => ?_
 refine RS.o (D.loadAgg rfl Tryz.underlying33 rfl C33 (by decide) rfl (B2.cellsN 11 rfl)) ?_
 refine RS.call E20 (twin o ho _ _ _ D0 hc) rfl (fun v11 w11 x11 A11 => ?_)
 replace hE := Ext.tr hE x11
 replace K0 := K0.ext x11
 replace D0 := D0.ext x11
 replace R0 := R0.ext x11
 replace B2 := B2.ext x11
 have zw11 := x11.size
 obtain ⟨aT, cT, rfl, hcT, OT⟩ := A11
 obtain ⟨bT, hT1, UT, hT2⟩ := OT.ubo
 have DT := OT.row.weaken (T := fun k => w.heap.size ≤ k ∧ k < w11.heap.size) (fun k hk h => by omega)
 refine RS.nm ?_
 refine RS.buildNone Tryz.underlying22 T5 (fun b12 w12 e12 s12 x12 B12 => ?_)
 refine RS.nm ?_
 replace hE := Ext.tr hE x12
 replace K0 := K0.ext x12
 replace D0 := D0.ext x12
 replace R0 := R0.ext x12
 replace B2 := B2.ext x12
 replace UT := UT.ext x12
 replace DT := DT.ext x12
 have zw12 := x12.size
 have OU : IOwn w11.heap.size w12 5 .u8 (some ⟨b12, 0, none⟩) 0 0 [] := IOwn.of_blk B12 rfl rfl (by omega) (Bd.nil _) (by decide)
 refine RS.mvS rfl ?_
 refine RS.appendI OU R0 rfl rfl Tryz.underlying22 T5 rfl (by omega) (by decide) (by omega) (fun a13 c13 w13 N13 x13 => ?_)
 refine RS.nm ?_
 replace hE := hE.trans (x13.below (by intros; try (first | (intro _ _) | (intro _) | skip); first | omega | (have hq := OU.lo _ (by assumption); first | omega | (dsimp only at *; omega))) (by intros; try (first | (intro _ _) | (intro _) | skip); first | omega | (dsimp only at *; omega) | (simp_all; done) | (simp at *; omega)))
 replace K0 := K0.pr x13 (by intros; try (first | (intro _ _) | (intro _) | skip); first | omega | (have hq := OU.lo _ (by assumption); first | omega | (dsimp only at *; omega)))
 replace D0 := D0.pr x13 (by intros; try (first | (intro _ _) | (intro _) | skip); first | omega | (have hq := OU.lo _ (by assumption); first | omega | (dsimp only at *; omega)))
 replace R0 := R0.pr x13 (by intros; try (first | (intro _ _) | (intro _) | skip); first | omega | (have hq := OU.lo _ (by assumption); first | omega | (dsimp only at *; omega)))
 replace B2 := B2.pr x13 (by intros; try (first | (intro _ _) | (intro _) | skip); first | omega | (have hq := OU.lo _ (by assumption); first | omega | (dsimp only at *; omega)))
 replace UT := UT.pr x13 (by intros; try (first | (intro _ _) | (intro _) | skip); first | omega | (have hq := OU.lo _ (by assumption); first | omega | (dsimp only at *; omega)))
 replace DT := DT.pr x13 (by intros; try (first | (intro _ _) | (intro _) | skip); first | omega | (have hq := OU.lo _ (by assumption); first | omega | (dsimp only at *; omega)))
 have zw13 := x13.size
 replace OU := N13
 refine RS.nm ?_
 rw [List.nil_append] at OU
 have lOU := OU.len
 have pOU := OU.own.pre
 have hOU := OU.lo
 obtain ⟨bU, hU1, hU2⟩ : ∃ bU, (n = 0 ∨ a13 = some ⟨bU, 0, none⟩) ∧ w11.heap.size ≤ bU ∧ bU < w13.heap.size := by
  by_cases h0 : n = 0
  ·exact ⟨b12, .inl h0, by omega, by omega⟩
  obtain ⟨g, hg⟩ := OU.some (by omega)
  have := OU.lo g (by rw [hg]; rfl)
  exact ⟨g, .inr hg, by omega, by omega⟩
 refine RS.alloc T33 (fun b14 w14 e14 s14 x14 B14 => ?_)
 refine RS.nm ?_
 replace hE := Ext.tr hE x14
 replace K0 := K0.ext x14
 replace D0 := D0.ext x14
 replace R0 := R0.ext x14
 replace B2 := B2.ext x14
 replace UT := UT.ext x14
 replace DT := DT.ext x14
 replace OU := OU.ext x14
 have zw14 := x14.size
 refine RS.storeAggB rfl rfl C33 (by decide) rfl rfl B14 rfl (fun w15 y15 N15 => ?_)
 replace hE := hE.trans (y15.belo)
 replace K0 := K0.sto y15
 replace D0 := D0.sto y15
 replace R0 := R0.sto y15
 replace B2 := B2.sto y15
 replace UT := UT.sto y15
 replace DT := DT.sto y15
 replace OU := OU.st y15 (by intros; try (first | (intro _ _) | (intro _) | skip); first | omega | (have hq := hOU _ (by assumption); first | omega | (dsimp only at *; omega)))
 have zw15 := y15.size
 replace B14 := N15
 refine RS.asS rfl ?_
 refine nl hK10 ?_
 refine sq fun K16 hK16 => ?_
 refine RS.mvS rfl ?_
 refine RS.call E21 (decodeO _ _ _ _ _ OU.row pOU (by omega)) rfl (fun v17 w17 x17 A17 => ?_)
 replace hE := Ext.tr hE x17
 replace K0 := K0.ext x17
 replace D0 := D0.ext x17
 replace R0 := R0.ext x17
 replace B2 := B2.ext x17
 replace UT := UT.ext x17
 replace DT := DT.ext x17
 replace OU := OU.ext x17
 replace B14 := B14.ext x17
 have zw17 := x17.size
 obtain ⟨aA, cA, rfl, hcA, DA⟩ := A17
 replace DA := DA.weaken (T := fun k => b14 < k ∧ k < w17.heap.size) (fun k hk h => by omega)
 refine RS.nm ?_
 refine RS.move (v := .tuple _) rfl ?_
 refine RS.extract (v := .agg _) rfl rfl ?_
 refine RS.extract (v := .int _ _) rfl rfl ?_
 refine RS.alloc T33 (fun b18 w18 e18 s18 x18 B18 => ?_)
 refine RS.nm ?_
 replace hE := Ext.tr hE x18
 replace K0 := K0.ext x18
 replace D0 := D0.ext x18
 replace R0 := R0.ext x18
 replace B2 := B2.ext x18
 replace UT := UT.ext x18
 replace DT := DT.ext x18
 replace OU := OU.ext x18
 replace B14 := B14.ext x18
 replace DA := DA.ext x18
 have zw18 := x18.size
 refine RS.storeAggB rfl rfl C33 (by decide) rfl rfl B18 rfl (fun w19 y19 N19 => ?_)
 replace hE := hE.trans (y19.belo)
 replace K0 := K0.sto y19
 replace D0 := D0.sto y19
 replace R0 := R0.sto y19
 replace B2 := B2.sto y19
 replace UT := UT.sto y19
 replace DT := DT.sto y19
 replace OU := OU.st y19 (by intros; try (first | (intro _ _) | (intro _) | skip); first | omega | (have hq := hOU _ (by assumption); first | omega | (dsimp only at *; omega)))
 replace B14 := B14.sto y19
 replace DA := DA.sto y19
 have zw19 := y19.size
 replace B18 := N19
 refine RS.asI rfl ?_
 refine nl hK16 ?_
 refine sq fun K20 hK20 => ?_
 refine RS.mvS rfl ?_
 refine RS.call E22 (decodeOR _ _ _ _ _ R0 hcb (by omega)) rfl (fun v21 w21 x21 A21 => ?_)
 replace hE := Ext.tr hE x21
 replace K0 := K0.ext x21
 replace D0 := D0.ext x21
 replace R0 := R0.ext x21
 replace B2 := B2.ext x21
 replace UT := UT.ext x21
 replace DT := DT.ext x21
 replace OU := OU.ext x21
 replace B14 := B14.ext x21
 replace DA := DA.ext x21
 replace B18 := B18.ext x21
 have zw21 := x21.size
 obtain ⟨aC, cC, rfl, hcC, DC⟩ := A21
 replace DC := DC.weaken (T := fun k => b14 < k ∧ k < w21.heap.size) (fun k hk h => by omega)
 refine RS.nm ?_
 refine RS.move (v := .tuple _) rfl ?_
 refine RS.extract (v := .agg _) rfl rfl ?_
 refine RS.extract (v := .int _ _) rfl rfl ?_
 refine RS.alloc T33 (fun b22 w22 e22 s22 x22 B22 => ?_)
 refine RS.nm ?_
 replace hE := Ext.tr hE x22
 replace K0 := K0.ext x22
 replace D0 := D0.ext x22
 replace R0 := R0.ext x22
 replace B2 := B2.ext x22
 replace UT := UT.ext x22
 replace DT := DT.ext x22
 replace OU := OU.ext x22
 replace B14 := B14.ext x22
 replace DA := DA.ext x22
 replace B18 := B18.ext x22
 replace DC := DC.ext x22
 have zw22 := x22.size
 refine RS.storeAggB rfl rfl C33 (by decide) rfl rfl B22 rfl (fun w23 y23 N23 => ?_)
 replace hE := hE.trans (y23.belo)
 replace K0 := K0.sto y23
 replace D0 := D0.sto y23
 replace R0 := R0.sto y23
 replace B2 := B2.sto y23
 replace UT := UT.sto y23
 replace DT := DT.sto y23
 replace OU := OU.st y23 (by intros; try (first | (intro _ _) | (intro _) | skip); first | omega | (have hq := hOU _ (by assumption); first | omega | (dsimp only at *; omega)))
 replace B14 := B14.sto y23
 replace DA := DA.sto y23
 replace B18 := B18.sto y23
 replace DC := DC.sto y23
 have zw23 := y23.size
 replace B22 := N23
 refine RS.asI rfl ?_
 refine nl hK20 ?_
 refine sq fun K24 hK24 => ?_
 refine RS.mvI rfl ?_
 refine RS.o (D.loadAgg rfl Tryz.underlying33 rfl C33 (by decide) rfl (B14.cellsN 11 rfl)) ?_
 refine RS.call E23 (signO _ hx o ho _ _ _ _ K0 DT hcT) rfl (fun v25 w25 x25 A25 => ?_)
 replace hE := Ext.tr hE x25
 replace K0 := K0.ext x25
 replace D0 := D0.ext x25
 replace R0 := R0.ext x25
 replace B2 := B2.ext x25
 replace UT := UT.ext x25
 replace DT := DT.ext x25
 replace OU := OU.ext x25
 replace B14 := B14.ext x25
 replace DA := DA.ext x25
 replace B18 := B18.ext x25
 replace DC := DC.ext x25
 replace B22 := B22.ext x25
 have zw25 := x25.size
 obtain ⟨aS, cS, rfl, hcS, DS⟩ := A25
 replace DS := DS.weaken (T := fun k => b14 < k ∧ k < w25.heap.size) (fun k hk h => by omega)
 refine RS.nm ?_
 refine RS.move (v := .tuple _) rfl ?_
 refine RS.extract (v := .agg _) rfl rfl ?_
 refine RS.extract (v := .int _ _) rfl rfl ?_
 refine RS.alloc T33 (fun b26 w26 e26 s26 x26 B26 => ?_)
 refine RS.nm ?_
 replace hE := Ext.tr hE x26
 replace K0 := K0.ext x26
 replace D0 := D0.ext x26
 replace R0 := R0.ext x26
 replace B2 := B2.ext x26
 replace UT := UT.ext x26
 replace DT := DT.ext x26
 replace OU := OU.ext x26
 replace B14 := B14.ext x26
 replace DA := DA.ext x26
 replace B18 := B18.ext x26
 replace DC := DC.ext x26
 replace B22 := B22.ext x26
 replace DS := DS.ext x26
 have zw26 := x26.size
 refine RS.storeAggB rfl rfl C33 (by decide) rfl rfl B26 rfl (fun w27 y27 N27 => ?_)
 replace hE := hE.trans (y27.belo)
 replace K0 := K0.sto y27
 replace D0 := D0.sto y27
 replace R0 := R0.sto y27
 replace B2 := B2.sto y27
 replace UT := UT.sto y27
 replace DT := DT.sto y27
 replace OU := OU.st y27 (by intros; try (first | (intro _ _) | (intro _) | skip); first | omega | (have hq := hOU _ (by assumption); first | omega | (dsimp only at *; omega)))
 replace B14 := B14.sto y27
 replace DA := DA.sto y27
 replace B18 := B18.sto y27
 replace DC := DC.sto y27
 replace B22 := B22.sto y27
 replace DS := DS.sto y27
 have zw27 := y27.size
 replace B26 := N27
 refine RS.asI rfl ?_
 refine nl hK24 ?_
 refine sq fun K28 hK28 => ?_
 refine RS.mvI rfl ?_
 refine RS.o (D.loadAgg rfl Tryz.underlying33 rfl C33 (by decide) rfl (B2.cellsN 11 rfl)) ?_
 refine RS.call E24 (signOR x hx o ho _ _ _ D0 hc) rfl (fun v29 w29 x29 A29 => ?_)
 replace hE := Ext.tr hE x29
 replace K0 := K0.ext x29
 replace D0 := D0.ext x29
 replace R0 := R0.ext x29
 replace B2 := B2.ext x29
 replace UT := UT.ext x29
 replace DT := DT.ext x29
 replace OU := OU.ext x29
 replace B14 := B14.ext x29
 replace DA := DA.ext x29
 replace B18 := B18.ext x29
 replace DC := DC.ext x29
 replace B22 := B22.ext x29
 replace DS := DS.ext x29
 replace B26 := B26.ext x29
 have zw29 := x29.size
 obtain ⟨aH, cH, rfl, hcH, DH⟩ := A29
 replace DH := DH.weaken (T := fun k => b14 < k ∧ k < w29.heap.size) (fun k hk h => by omega)
 refine RS.nm ?_
 refine RS.move (v := .tuple _) rfl ?_
 refine RS.extract (v := .agg _) rfl rfl ?_
 refine RS.extract (v := .int _ _) rfl rfl ?_
 refine RS.alloc T33 (fun b30 w30 e30 s30 x30 B30 => ?_)
 refine RS.nm ?_
 replace hE := Ext.tr hE x30
 replace K0 := K0.ext x30
 replace D0 := D0.ext x30
 replace R0 := R0.ext x30
 replace B2 := B2.ext x30
 replace UT := UT.ext x30
 replace DT := DT.ext x30
 replace OU := OU.ext x30
 replace B14 := B14.ext x30
 replace DA := DA.ext x30
 replace B18 := B18.ext x30
 replace DC := DC.ext x30
 replace B22 := B22.ext x30
 replace DS := DS.ext x30
 replace B26 := B26.ext x30
 replace DH := DH.ext x30
 have zw30 := x30.size
 refine RS.storeAggB rfl rfl C33 (by decide) rfl rfl B30 rfl (fun w31 y31 N31 => ?_)
 replace hE := hE.trans (y31.belo)
 replace K0 := K0.sto y31
 replace D0 := D0.sto y31
 replace R0 := R0.sto y31
 replace B2 := B2.sto y31
 replace UT := UT.sto y31
 replace DT := DT.sto y31
 replace OU := OU.st y31 (by intros; try (first | (intro _ _) | (intro _) | skip); first | omega | (have hq := hOU _ (by assumption); first | omega | (dsimp only at *; omega)))
 replace B14 := B14.sto y31
 replace DA := DA.sto y31
 replace B18 := B18.sto y31
 replace DC := DC.sto y31
 replace B22 := B22.sto y31
 replace DS := DS.sto y31
 replace B26 := B26.sto y31
 replace DH := DH.sto y31
 have zw31 := y31.size
 replace B30 := N31
 refine RS.asI rfl ?_
 refine nl hK28 ?_
 refine sq fun K32 hK32 => ?_
 refine RS.o (D.loadAgg rfl Tryz.underlying33 rfl C33 (by decide) rfl (B14.cellsN 11 rfl)) ?_
 refine RS.call E25 (verifyO o ho _ _ _ _ K0 DT hcT) rfl (fun v33 w33 x33 A33 => ?_)
 replace hE := Ext.tr hE x33
 replace K0 := K0.ext x33
 replace D0 := D0.ext x33
 replace R0 := R0.ext x33
 replace B2 := B2.ext x33
 replace UT := UT.ext x33
 replace DT := DT.ext x33
 replace OU := OU.ext x33
 replace B14 := B14.ext x33
 replace DA := DA.ext x33
 replace B18 := B18.ext x33
 replace DC := DC.ext x33
 replace B22 := B22.ext x33
 replace DS := DS.ext x33
 replace B26 := B26.ext x33
 replace DH := DH.ext x33
 replace B30 := B30.ext x33
 have zw33 := x33.size
 subst A33
 refine RS.nm ?_
 refine RS.asI rfl ?_
 refine nl hK32 ?_
 refine wp_seq_k (fun K34 hK34 => ?_)
 refine sq fun K35 hK35 => ?_
 refine RS.asI rfl ?_
 refine nl hK35 ?_
 refine wp_block ?_
 refine C.loop (A := Int) (fun p => [(18, .int .i64 p)]) [56, 57, 58, 59, 60, 61, 62, 63, 64, 65, 66, 67] (fun p w' => Pr (fun k => k = bU) w33 w' ∧ ((0 ≤ p ∧ p ≤ n) ∧ ∃ ys, IOwn w11.heap.size w' 5 .u8 a13 (0 + n) c13 ys)) (fun p => (n - p.toNat)) 0 (by kernel_rfl) ?_ ?_
 ·exact ⟨Pr.refl _ _, ⟨by omega, by omega⟩, _, OU⟩
 rintro p j w36 ⟨x36, hI⟩
 replace hE := hE.trans (x36.belo)
 replace K0 := K0.pro x36
 replace D0 := D0.pro x36
 replace R0 := R0.pro x36
 replace B2 := B2.pro x36
 replace UT := UT.pro x36
 replace DT := DT.pro x36
 replace B14 := B14.pro x36
 replace DA := DA.pro x36
 replace B18 := B18.pro x36
 replace DC := DC.pro x36
 replace B22 := B22.pro x36
 replace DS := DS.pro x36
 replace B26 := B26.pro x36
 replace DH := DH.pro x36
 replace B30 := B30.pro x36
 have zw36 := x36.size
 obtain ⟨h1, ys, OU⟩ := hI
 have lOU := OU.len
 refine C.norm (by simp only [upd, junk, List.map_cons, List.map_nil, List.set_cons_succ, List.set_cons_zero]; exact rfl) ?_
 refine wp_seq_k (fun K37 hK37 => ?_)
 refine sq fun K38 hK38 => ?_
 refine RS.mvI rfl ?_
 refine RS.mvS rfl ?_
 refine RS.o (D.len rfl Tryz.underlying22) ?_
 refine RS.o (D.lt rfl rfl) ?_
 refine nl hK38 ?_
 refine C.ifd rfl (fun c39 => ?_) (fun c39 => ?_)
 ·refine wp_skip ?_
  refine hK37 _ _ ?_
  refine wp_seq_k (fun K40 hK40 => ?_)
  refine wp_block ?_
  obtain rfl : a13 = some ⟨bU, 0, none⟩ := hU1.resolve_left (by omega)
  refine region ?_
  refine RS.mvS rfl ?_
  refine RS.mvI rfl ?_
  refine RS.idx OU.row rfl rfl Tryz.underlying22 C5 (by omega) (fun b41 o41 v41 h41 q41 r41 => ?_)
  refine RS.nm ?_
  simp only [lim] at r41
  refine RS.o (D.load rfl Tryz.underlying5 rfl (h41)) ?_
  refine RS.o (D.add rfl rfl (W.u8m _)) ?_
  refine RS.o (D.indexAddr rfl rfl Tryz.underlying22 C5 (by decide) rfl (by omega)) ?_
  refine RS.storeI OU rfl rfl C5 (by omega) (by simp only [lim]; omega) (fun w42 y42 N42 => ?_)
  replace hE := hE.trans (y42.belo)
  replace x36 := x36.stno y42
  replace K0 := K0.sto y42
  replace D0 := D0.sto y42
  replace R0 := R0.sto y42
  replace B2 := B2.sto y42
  replace UT := UT.sto y42
  replace DT := DT.sto y42
  replace B14 := B14.sto y42
  replace DA := DA.sto y42
  replace B18 := B18.sto y42
  replace DC := DC.sto y42
  replace B22 := B22.sto y42
  replace DS := DS.sto y42
  replace B26 := B26.sto y42
  replace DH := DH.sto y42
  replace B30 := B30.sto y42
  have zw42 := y42.size
  replace OU := N42
  refine nl hK40 ?_
  refine region ?_
  refine RS.mvI rfl ?_
  refine RS.o (D.add rfl rfl (W.i64 (by omega))) ?_
  refine RS.asI rfl ?_
  refine RS.nil ?_
  change Nx _ _ _ _ _ _ _ _
  refine C.next (p + 1) ⟨rfl, trivial⟩ (by kernel_rfl) ?_ ?_
  ·exact ⟨x36, ⟨by omega, by omega⟩, _, OU⟩
  omega
 refine wp_exit ?_
 refine hK34 _ _ ?_
 refine wp_seq_k (fun K43 hK43 => ?_)
 refine sq fun K44 hK44 => ?_
 refine RS.asI rfl ?_
 refine nl hK44 ?_
 refine wp_block ?_
 refine C.loop (A := Int) (fun p => [(19, .int .i64 p)]) [68, 69, 70, 71, 72, 73, 74, 75, 76, 77, 78, 79, 80, 81, 82, 83] (fun p w' => Pr (fun k => o.n ≠ 0 ∧ k = bT) w36 w' ∧ ((0 ≤ p ∧ p ≤ o.n) ∧ UBo w' bT (32 * o.n) 35)) (fun p => (o.n - p.toNat)) 0 (by kernel_rfl) ?_ ?_
 ·exact ⟨Pr.refl _ _, ⟨by omega, by omega⟩, UT⟩
 rintro p j w45 ⟨x45, hI⟩
 replace hE := hE.trans (x45.belo)
 replace K0 := K0.pro x45
 replace D0 := D0.pro x45
 replace R0 := R0.pro x45
 replace B2 := B2.pro x45
 replace B14 := B14.pro x45
 replace DA := DA.pro x45
 replace B18 := B18.pro x45
 replace DC := DC.pro x45
 replace B22 := B22.pro x45
 replace DS := DS.pro x45
 replace B26 := B26.pro x45
 replace DH := DH.pro x45
 replace B30 := B30.pro x45
 have zw45 := x45.size
 obtain ⟨h1, UT⟩ := hI
 refine C.norm (by simp only [upd, junk, List.map_cons, List.map_nil, List.set_cons_succ, List.set_cons_zero]; exact rfl) ?_
 refine wp_seq_k (fun K46 hK46 => ?_)
 refine sq fun K47 hK47 => ?_
 refine RS.mvI rfl ?_
 refine RS.o (D.fieldL 1 rfl Tryz.underlying33 rfl C24 (by decide) rfl) ?_
 refine RS.o (D.load rfl Tryz.underlying24 rfl (B14.cell rfl)) ?_
 refine RS.o (D.len rfl Tryz.underlying24) ?_
 refine RS.o (D.lt rfl rfl) ?_
 refine nl hK47 ?_
 refine C.ifd rfl (fun c48 => ?_) (fun c48 => ?_)
 ·refine wp_skip ?_
  refine hK46 _ _ ?_
  refine wp_seq_k (fun K49 hK49 => ?_)
  refine wp_block ?_
  have hA := hT1.resolve_left (by omega)
  have UV := UT.resolve_left (by omega)
  refine regionX Ext [(0, .q), (1, .q), (2, .q), (3, .q), (4, .q), (5, .q), (6, .q), (7, .q), (8, .q), (9, .g)] mixed Ext.refl (fun h k => h.tr k) (by kernel_rfl) (fun w50 x50 => ?_)
  replace hE := Ext.tr hE x50
  replace x45 := x45.ext x50
  replace K0 := K0.ext x50
  replace D0 := D0.ext x50
  replace R0 := R0.ext x50
  replace B2 := B2.ext x50
  replace B14 := B14.ext x50
  replace DA := DA.ext x50
  replace B18 := B18.ext x50
  replace DC := DC.ext x50
  replace B22 := B22.ext x50
  replace DS := DS.ext x50
  replace B26 := B26.ext x50
  replace DH := DH.ext x50
  replace B30 := B30.ext x50
  replace UV := UV.ext x50
  have zw50 := x50.size
  refine RX.o (fun w' hw => D.fieldL 1 rfl Tryz.underlying33 rfl C24 (by decide) rfl) ?_
  refine RX.o (fun w' hw => D.load rfl Tryz.underlying24 rfl ((B14.ext hw).cell rfl)) ?_
  refine RX.mvI rfl ?_
  refine RX.idxU (fun _ h => h) UV hA rfl rfl Tryz.underlying24 C35 (by decide) (by omega) (by omega) (fun u51 o51 g51 h51 r51 => ?_)
  refine RX.nm ?_
  refine RX.subU h51 r51 rfl rfl Tryz.underlying35 C5 (by decide) (fun v52 q52 e52 h52 r52 => ?_)
  refine RX.nm ?_
  simp only [lim] at r52
  refine RX.o (fun w' hw => D.load rfl Tryz.underlying5 rfl (h52 w' hw)) ?_
  refine RX.o (fun w' hw => D.add rfl rfl (W.u8m _)) ?_
  refine RX.idxU (fun _ h => h) UV hA rfl rfl Tryz.underlying24 C35 (by decide) (by omega) (by omega) (fun u53 o53 g53 h53 r53 => ?_)
  refine RX.nm ?_
  refine RX.subU h53 r53 rfl rfl Tryz.underlying35 C5 (by decide) (fun v54 q54 e54 h54 r54 => ?_)
  refine RX.nm ?_
  simp only [lim] at r54
  refine RX.big ?_
  refine RS.storeU1 UV rfl rfl C5 (by omega) (by omega) (fun w55 y55 N55 => ?_)
  replace hE := hE.trans (y55.belo)
  replace x45 := x45.stno y55
  replace K0 := K0.sto y55
  replace D0 := D0.sto y55
  replace R0 := R0.sto y55
  replace B2 := B2.sto y55
  replace B14 := B14.sto y55
  replace DA := DA.sto y55
  replace B18 := B18.sto y55
  replace DC := DC.sto y55
  replace B22 := B22.sto y55
  replace DS := DS.sto y55
  replace B26 := B26.sto y55
  replace DH := DH.sto y55
  replace B30 := B30.sto y55
  have zw55 := y55.size
  replace UV := N55
  refine RS.nil ?_
  refine RX.nil (hK49 _ _ ?_)
  refine region ?_
  refine RS.mvI rfl ?_
  refine RS.o (D.add rfl rfl (W.i64 (by omega))) ?_
  refine RS.asI rfl ?_
  refine RS.nil ?_
  change Nx _ _ _ _ _ _ _ _
  refine C.next (p + 1) ⟨rfl, trivial⟩ (by kernel_rfl) ?_ ?_
  ·exact ⟨x45, ⟨by omega, by omega⟩, .inr UV⟩
  omega
 refine wp_exit ?_
 refine hK43 _ _ ?_
 refine sq fun K56 hK56 => ?_
 refine RS.o (D.loadAgg rfl Tryz.underlying33 rfl C33 (by decide) rfl (B18.cellsN 11 rfl)) ?_
 refine RS.o (D.loadAgg rfl Tryz.underlying33 rfl C33 (by decide) rfl (B22.cellsN 11 rfl)) ?_
 refine RS.call E11 (sameO (S.decO bs) (S.decO bs) hok.1 hok.1 _ _ _ _ _ DA DC) rfl (fun v57 w57 x57 A57 => ?_)
 replace hE := Ext.tr hE x57
 replace K0 := K0.ext x57
 replace D0 := D0.ext x57
 replace R0 := R0.ext x57
 replace B2 := B2.ext x57
 replace UT := UT.ext x57
 replace B14 := B14.ext x57
 replace DA := DA.ext x57
 replace B18 := B18.ext x57
 replace DC := DC.ext x57
 replace B22 := B22.ext x57
 replace DS := DS.ext x57
 replace B26 := B26.ext x57
 replace DH := DH.ext x57
 replace B30 := B30.ext x57
 have zw57 := x57.size
 subst A57
 refine RS.nm ?_
 refine RS.mvB rfl ?_
 refine RS.splitb 87 rfl rfl (fun c58 => ?_) (fun c58 => ?_)
 ·refine RS.nm ?_
  refine RS.wt 87 ?_
  refine RS.mvI rfl ?_
  refine RS.wt 87 ?_
  refine RS.mvI rfl ?_
  refine RS.wt 87 ?_
  refine RS.o (D.eq rfl rfl) ?_
  refine RS.pick (v := .bool _) rfl rfl ?_
  refine RS.mvB rfl ?_
  refine RS.splite 92 rfl rfl (fun c59 => ?_) (fun c59 => ?_)
  ·refine RS.nm ?_
   refine RS.wt 92 ?_
   refine RS.o (D.loadAgg rfl Tryz.underlying33 rfl C33 (by decide) rfl (B26.cellsN 11 rfl)) ?_
   refine RS.wt 92 ?_
   refine RS.o (D.loadAgg rfl Tryz.underlying33 rfl C33 (by decide) rfl (B30.cellsN 11 rfl)) ?_
   refine RS.wt 92 ?_
   refine RS.call E11 (sameO (S.signS x o) (S.signS x o) hso hso _ _ _ _ _ DS DH) rfl (fun v60 w60 x60 A60 => ?_)
   replace hE := Ext.tr hE x60
   replace K0 := K0.ext x60
   replace D0 := D0.ext x60
   replace R0 := R0.ext x60
   replace B2 := B2.ext x60
   replace UT := UT.ext x60
   replace B14 := B14.ext x60
   replace DA := DA.ext x60
   replace B18 := B18.ext x60
   replace DC := DC.ext x60
   replace B22 := B22.ext x60
   replace DS := DS.ext x60
   replace B26 := B26.ext x60
   replace DH := DH.ext x60
   replace B30 := B30.ext x60
   have zw60 := x60.size
   subst A60
   refine RS.nm ?_
   refine RS.pick (v := .bool _) rfl rfl ?_
   refine RS.mvB rfl ?_
   refine RS.splitb 97 rfl rfl (fun c61 => ?_) (fun c61 => ?_)
   ·refine RS.nm ?_
    refine RS.wt 97 ?_
    refine RS.mvI rfl ?_
    refine RS.wt 97 ?_
    refine RS.mvI rfl ?_
    refine RS.wt 97 ?_
    refine RS.o (D.eq rfl rfl) ?_
    refine RS.pick (v := .bool _) rfl rfl ?_
    refine RS.mvB rfl ?_
    refine RS.splite 102 rfl rfl (fun c62 => ?_) (fun c62 => ?_)
    ·refine RS.nm ?_
     refine RS.wt 102 ?_
     refine RS.mvI rfl ?_
     refine RS.wt 102 ?_
     refine RS.o (D.loadAgg rfl Tryz.underlying33 rfl C33 (by decide) rfl (B2.cellsN 11 rfl)) ?_
     refine RS.wt 102 ?_
     refine RS.call E26 (verifyOR o ho _ _ _ D0 hc) rfl (fun v63 w63 x63 A63 => ?_)
     replace hE := Ext.tr hE x63
     replace K0 := K0.ext x63
     replace D0 := D0.ext x63
     replace R0 := R0.ext x63
     replace B2 := B2.ext x63
     replace UT := UT.ext x63
     replace B14 := B14.ext x63
     replace DA := DA.ext x63
     replace B18 := B18.ext x63
     replace DC := DC.ext x63
     replace B22 := B22.ext x63
     replace DS := DS.ext x63
     replace B26 := B26.ext x63
     replace DH := DH.ext x63
     replace B30 := B30.ext x63
     have zw63 := x63.size
     subst A63
     refine RS.nm ?_
     refine RS.wt 102 ?_
     refine RS.o (D.eq rfl rfl) ?_
     refine RS.pick (v := .bool _) rfl rfl ?_
     refine RS.asB rfl ?_
     refine nl hK56 ?_
     refine wp_ret ?_
     refine retB rfl rfl ?_
     first | exact ⟨_, rfl, hE, rfl⟩ | exact ⟨_, rfl, hE, congrArg Value.bool (beq_self_eq_true _)⟩
    refine RS.nm ?_
    exact absurd rfl c62
   refine RS.nm ?_
   exact Bool.noConfusion ((decide_eq_true (S.sameO_refl _)).symm.trans c61)
  refine RS.nm ?_
  exact absurd rfl c59
 refine RS.nm ?_
 exact Bool.noConfusion ((decide_eq_true (S.sameO_refl _)).symm.trans c58)
end Go.Proofs.YtiohpiiiapjblaaGreatDoor.W
namespace Go.Proofs.YtiohpiiiapjblaaGreatDoor.L
open Go Go.Proofs.YtiohpiiiapjblaaGreatDoor Go.Proofs.YtiohpiiiapjblaaGreatDoor.G Go.Proofs.YtiohpiiiapjblaaGreatDoor.W
open Go.ChangeShapes Go.WideShapes Go.ChangeAt Go.RowKit
set_option linter.unusedVariables false
set_option maxRecDepth 100000
theorem opReads_door (os : Os) (args : Array Value) : laidMetH Tryz.prog [("braid/digest.constants", Rows.laid_braid_digest_constants)] ((World.doorLaid Tryz.prog 400 os).forCall (fun _ _ => 0) ⟨#[], args, []⟩).memory :=
  laidMetH_of_parts3 (fuel := 8) (laidMet_of_run' 8 (by kernel_rfl) (by kernel_rfl)) (by kernel_rfl) (by kernel_rfl)
theorem opReads_lifted (os : Os) (started : os.Started) (H : Type) (enc : TypeId × Value → H) :
    ReturnsInHanded {} Tryz.checked os 5 .any (fun w args => (Rows.opReadsSpec.pre enc Tryz.prog Tryz.f5 [] false w args ∧ laidMetH Tryz.prog [("braid/digest.constants", Rows.laid_braid_digest_constants)] w) ∧ sizedMet enc Tryz.prog Tryz.f5 (OpenSpec.ofChange Rows.opReadsSpec) false w args)
      (Rows.opReadsSpec.post enc Tryz.prog Tryz.f5 false true false false) := by
  refine returnsInHanded_of_change_and (C := Tryz.checked) (X := fun w _ => laidMetH Tryz.prog [("braid/digest.constants", Rows.laid_braid_digest_constants)] w) (fun _ _ _ hh h => h.of_heap hh) own started (by kernel_rfl) Tryz.func5
    (ChangeSpec.witness_shaped (enc := enc) (C := Tryz.checked) (os := os) (X := fun w _ => laidMetH Tryz.prog [("braid/digest.constants", Rows.laid_braid_digest_constants)] w) false (World.doorLaid Tryz.prog 400 os) #[.slice none 0 0, .int .u32 0, .agg #[.int .u32 0, .slice none 0 0, .int .u64 0, .int .u8 0, .string .empty, .int .u8 0, .int .i64 0, .int .u64 0, .string .empty, .int .u32 0, .int .u32 0]] 8 rfl (World.shaped_of_RefB (by kernel_rfl) (by kernel_rfl)) (by kernel_rfl) (by kernel_rfl) (by kernel_rfl) (opReads_door os _)) ?_
  intro W base args ds gs before hval0 hW _ _ hL _
  have hval : ∀ (j : Nat) t v, Tryz.f5.params[j]? = some t → args[j]? = some v → Value.okWide Tryz.prog W .any base t v := hval0
  have hW' := hW
  obtain ⟨p, q, hA0, hV, rfl, hfz, hnd⟩ := hW
  have hA : DataW.TrodAll enc Tryz.prog W 0 (fun _ => true) true Tryz.f5.params.toList args.toList ds p := hA0
  rw [Tryz.params5] at hA hval
  obtain ⟨v0, vs0, d0, ds0, p0, q0, hargs, rfl, rfl, h0, r0⟩ := trodAll_cons hA
  obtain ⟨v1, vs1, d1, ds1, p1, q1, e1, rfl, rfl, h1, r1⟩ := trodAll_cons r0
  obtain ⟨v2, vs2, d2, ds2, p2, q2, e2, rfl, rfl, h2, r2⟩ := trodAll_cons r1
  obtain ⟨rfl, rfl, rfl⟩ := trodAll_nil r2
  subst e2
  subst e1
  obtain rfl : args = #[v0, v1, v2] := by cases args; simp_all
  obtain ⟨rfl, rfl⟩ := trodVars_none hV
  obtain ⟨a0, m0, c0, rfl⟩ := okWide_slice Tryz.underlying22 (hval 0 22 v0 rfl rfl)
  obtain ⟨n1, rfl⟩ := okWide_int Tryz.underlying23 (hval 1 23 v1 rfl rfl)
  obtain ⟨cs2, rfl, _⟩ := okWide_struct Tryz.underlying33 (hval 2 33 v2 rfl rfl)
  have k0 := h0
  have lt0 : ∀ x ∈ p0, x.block < W.heap.size := by obtain ⟨m, hm⟩ := k0; exact DataW.trod_lt m _ _ _ hm
  obtain ⟨fuel0, hf0⟩ := h0
  obtain ⟨_, _, _, xs0, he0, hc0, hR0⟩ := bytesS_in hf0
  obtain ⟨rfl, rfl, rfl⟩ := Value.slice.inj (List.cons.inj he0).1
  have k1 := h1
  have lt1 : ∀ x ∈ p1, x.block < W.heap.size := by obtain ⟨m, hm⟩ := k1; exact DataW.trod_lt m _ _ _ hm
  obtain ⟨fuel1, hf1⟩ := h1
  obtain ⟨_, he1, hx1⟩ := int_in Tryz.underlying23 hf1
  have hl1 : IntKind.min .u32 = 0 ∧ IntKind.max .u32 = 4294967295 := by decide
  obtain rfl := (Value.int.inj (List.cons.inj he1).1).2
  have k2 := h2
  have lt2 : ∀ x ∈ p2, x.block < W.heap.size := by obtain ⟨m, hm⟩ := k2; exact DataW.trod_lt m _ _ _ hm
  obtain ⟨fuel2, hf2⟩ := h2
  obtain ⟨o2, pa2, pc2, hcs2, hr2, hc2, hR2⟩ := op_in hf2
  have hv2 : (Value.agg cs2) = .agg ([.int .u32 o2.au, .slice pa2 o2.n pc2, .int .u64 o2.st, .int .u8 o2.k, .string o2.key, .int .u8 o2.vk, .int .i64 o2.num, .int .u64 o2.bits, .string o2.t, .int .u32 o2.e, .int .u32 o2.s] : List Value).toArray := by
    congr 1
    apply Array.ext'
    exact hcs2
  have K0 := of_laid hL
  clear hA0 hval0
  have hwalk := opReads a0 m0 c0 xs0 n1 (by omega) o2 hr2 pa2 pc2 0 W K0 hR0 hc0 hR2 hc2
  rw [← hv2] at hwalk
  refine hwalk.mono fun e W' hret => ?_
  obtain ⟨v, rfl, bel, rfl⟩ := hret
  exact ⟨_, rfl, _, _, _, [], _, [], hW', trodAll_mk1 (shut_bool Tryz.underlying4 _), (trodAll_cons_mk (Below.trod laidOut (by kernel_rfl) (of_decide_eq_true (by kernel_rfl)) k0 bel lt0) (trodAll_cons_mk (Below.trod laidOut (by kernel_rfl) (of_decide_eq_true (by kernel_rfl)) k1 bel lt1) (trodAll_cons_mk (Below.trod laidOut (by kernel_rfl) (of_decide_eq_true (by kernel_rfl)) k2 bel lt2) trodAll_mk0))), rfl, bel.frame _, fun h => by cases h⟩
theorem opReads_holds : Rows.OpReadsSaid :=
  OpenClaim.holds_of_wide 5 Tryz.f5 rfl rfl rfl rfl rfl rfl rfl ⟨rfl, rfl, rfl, rfl, rfl⟩ rfl rfl rfl rfl rfl (by kernel_rfl) Tryz.func5 (by kernel_rfl)
    (of_decide_eq_true (by kernel_rfl)) (by unfold Func.isWrapper; first | (rw [if_pos (by decide +kernel)]; kernel_rfl) | (rw [if_neg (by decide +kernel)]; exact ⟨rfl, rfl⟩))
    (fun os started H enc _ => opReads_lifted os started H enc)
theorem opReads_card : Rows.OpReadsCardSaid :=
  Claim7.holds_tied_plain_at .later [] [.data] true (true, "5f1a454c20384897b10aae27f0fb7605c8ace21901f8afa9a203fa82d3013071") false
    opReads_holds (fun _ h => by cases h) (by kernel_rfl) (fun _ h => by cases h) opReads_row_tie rfl ⟨rfl, rfl⟩ (by kernel_rfl) rfl
    (fun f fn hf hfn => by
      obtain rfl : f = 5 := Option.some.inj ((show Tryz.prog.funcNamed "braid/braidlaw06.OpReads" = some 5 by kernel_rfl).symm.trans hf) |>.symm
      obtain rfl : fn = Tryz.f5 := (Option.some.inj (Tryz.func5.symm.trans hfn)).symm
      exact ⟨by kernel_rfl, fun j t ht => by
        rw [Tryz.params5] at ht
        have hm : t ∈ [22, 23, 33] := by simpa using Array.mem_of_getElem? ht
        have hall : ([22, 23, 33].all fun u => !Tryz.prog.wantsStandIn u) = true := by kernel_rfl
        exact (show Tryz.prog.wantsStandIn t = false by simpa using List.all_eq_true.1 hall t hm)⟩)
    (by kernel_rfl)
end Go.Proofs.YtiohpiiiapjblaaGreatDoor.L
