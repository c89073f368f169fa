/-
  Part 7 of the lemmas of these laws: PoolDoes.
-/
import Derived.Test.YtkmaenmhcgohbaaGreatDoorPPd6
set_option linter.unusedSimpArgs false
namespace Go.Proofs.YtkmaenmhcgohbaaGreatDoor.W
open Go.RowKit Go.Proofs.YtkmaenmhcgohbaaGreatDoor.G
set_option linter.unusedVariables false
set_option maxRecDepth 20000
set_option maxHeartbeats 8000000
attribute [local irreducible] RS RX
theorem C40 : Tryz.prog.cellsOf 40 = 6 := by kernel_rfl
theorem T40 : TI Tryz.prog 40 6 64 [.int .u8 0, .string .empty, .int .u8 0, .int .i64 0, .int .u64 0, .string .empty] := by
 have h : (Tryz.prog.info? 40).map (fun i => (i.size, i.bytes, i.zero)) = some (6, 64, some (.agg #[.int .u8 0, .string .empty, .int .u8 0, .int .i64 0, .int .u64 0, .string .empty])) := by kernel_rfl
 exact TI.of h rfl
theorem F40 : SI Tryz.prog 40 [(0, 1), (1, 1), (2, 4)] := ⟨_, V40, by kernel_rfl, by kernel_rfl⟩
theorem E157 : Enters Tryz.prog 157 := .mk Tryz.func157 (by kernel_rfl) rfl
theorem E264 : Enters Tryz.prog 264 := .mk Tryz.func264 (by kernel_rfl) rfl
theorem E265 : Enters Tryz.prog 265 := .mk Tryz.func265 (by kernel_rfl) rfl
theorem checkAct (k vk num bits : Int) (ky t : ByteArray) (hk : 0 ≤ k ∧ k < 256) (hvk : 0 ≤ vk ∧ vk < 256) (hnum : -9223372036854775808 ≤ num ∧ num ≤ 9223372036854775807) (hb : 0 ≤ bits ∧ bits < 18446744073709551616) (hkey : ky.size ≤ 100000) (ht : t.size ≤ 100000) (w : World) :
  Calls Tryz.prog 85 #[.agg ([.int .u8 k, .string ky, .int .u8 vk, .int .i64 num, .int .u64 bits, .string t] : List Value).toArray] w (Ret w fun v _ => v = .int .i64 (S.actE k ky vk num bits t)) := by
 have hE := Ext.refl w
 refine enterU 35 Tryz.func85 rfl rfl ?_
 refine sq fun _ J1 => ?_
 refine RS.box rfl rfl (fun b2 w2 e2 s2 x2 B2 => ?_)
 refine RS.nm ?_
 replace hE := Ext.tr hE x2
 have zw2 := x2.size
 refine RS.asI rfl ?_
 refine nl J1 (sq fun _ J3 => ?_)
 refine RS.asB rfl ?_
 refine nl J3 ?_
 refine wx fun _ J4 => ?_
 refine sq fun _ J5 => ?_
 refine RS.fl 0 V40 rfl C5 ?_
 refine RS.ld V5 B2 ?_
 refine nl J5 ?_
 refine wp_block ?_
 refine sq fun _ J6 => ?_
 refine RS.o (D.eq rfl rfl) ?_
 refine RS.asB rfl ?_
 refine nl J6 ?_
 refine C.ife rfl (fun c7 => ?_) (fun c7 => ?_)
 ·refine region ?_
  refine RS.la V40 C40 B2 6 ?_
  refine RS.o (D.buildS T40 F40 (ps := [(0, .int _ _)]) rfl rfl) ?_
  refine RS.o (D.eqA rfl rfl V40 rfl (by kernel_rfl) (by kernel_rfl) (by kernel_rfl)) ?_
  refine RS.asB rfl ?_
  refine nl J4 ?_
  refine wx fun _ J8 => ?_
  refine sq fun _ J9 => ?_
  refine RS.mvB rfl ?_
  refine RS.o (D.not rfl) ?_
  refine nl J9 ?_
  refine C.ifnot rfl (fun c10 => ?_) (fun c10 => ?_)
  ·first | (have hqa := of_decide_eq_false ((S.eqA6 _ _ _ _ _ _ _ _ _ _ _ _).symm.trans c10)) | (have hqa := of_decide_eq_false ((S.eqV _ _ _ _ _ _ _ _).symm.trans c10)) | (have hqa := of_decide_eq_false ((strEq _ _).symm.trans c10)) | (have hqa := of_decide_eq_false c10) | (have hqa := c10)
   refine sq fun _ J11 => ?_
   refine RS.asI rfl ?_
   refine nl J11 ?_
   refine wp_ret ?_
   refine retI rfl rfl ?_
   refine ⟨_, rfl, hE, congrArg (Value.int .i64) ?_⟩
   first | (refine S.actE_pos ?_; grind [S.FineAct, S.valE_zero]) | (refine S.actE_neg ?_; grind [S.FineAct, S.valE_zero])
  first | (have hqa := of_decide_eq_true ((S.eqA6 _ _ _ _ _ _ _ _ _ _ _ _).symm.trans c10)) | (have hqa := of_decide_eq_true ((S.eqV _ _ _ _ _ _ _ _).symm.trans c10)) | (have hqa := of_decide_eq_true ((strEq _ _).symm.trans c10)) | (have hqa := of_decide_eq_true c10) | (have hqa := c10)
  refine wp_skip ?_
  refine J8 _ _ ?_
  refine sq fun _ J12 => ?_
  refine RS.asI rfl ?_
  refine nl J12 ?_
  refine wp_ret ?_
  refine retI rfl rfl ?_
  refine ⟨_, rfl, hE, congrArg (Value.int .i64) ?_⟩
  first | (refine S.actE_pos ?_; grind [S.FineAct, S.valE_zero]) | (refine S.actE_neg ?_; grind [S.FineAct, S.valE_zero])
 refine wx fun _ J13 => ?_
 refine sq fun _ J14 => ?_
 refine RS.o (D.eq rfl rfl) ?_
 refine RS.asB rfl ?_
 refine nl J14 ?_
 refine C.ife rfl (fun c15 => ?_) (fun c15 => ?_)
 ·refine wp_skip ?_
  refine J13 _ _ ?_
  refine C.ifb rfl (fun z16 => ?_) (fun z16 => ?_)
  ·refine region ?_
   refine RS.fl 1 V40 rfl C9 ?_
   refine RS.ld V9 B2 ?_
   refine RS.call E157 (key _ _) rfl (fun v17 w17 x17 A17 => ?_)
   replace hE := Ext.tr hE x17
   replace B2 := B2.ext x17
   have zw17 := x17.size
   subst A17
   refine RS.nm ?_
   refine RS.mvB rfl ?_
   refine RS.splitb 17 rfl rfl (fun c18 => ?_) (fun c18 => ?_)
   ·refine RS.nm ?_
    have hkt := of_decide_eq_true c18
    refine RS.wt 17 ?_
    refine RS.fl 2 V40 rfl C24 ?_
    refine RS.wt 17 ?_
    refine RS.la V24 C24 B2 4 ?_
    refine RS.wt 17 ?_
    refine RS.o (D.buildS T24 F24 (ps := []) rfl rfl) ?_
    refine RS.wt 17 ?_
    refine RS.o (D.eqA rfl rfl V24 rfl (by kernel_rfl) (by kernel_rfl) (by kernel_rfl)) ?_
    refine RS.pk ?_
    refine RS.asB rfl ?_
    refine nl J4 ?_
    refine wx fun _ J19 => ?_
    refine sq fun _ J20 => ?_
    refine RS.mvB rfl ?_
    refine RS.o (D.not rfl) ?_
    refine nl J20 ?_
    refine C.ifnot rfl (fun c21 => ?_) (fun c21 => ?_)
    ·first | (have hqa := of_decide_eq_false ((S.eqA6 _ _ _ _ _ _ _ _ _ _ _ _).symm.trans c21)) | (have hqa := of_decide_eq_false ((S.eqV _ _ _ _ _ _ _ _).symm.trans c21)) | (have hqa := of_decide_eq_false ((strEq _ _).symm.trans c21)) | (have hqa := of_decide_eq_false c21) | (have hqa := c21)
     refine sq fun _ J22 => ?_
     refine RS.asI rfl ?_
     refine nl J22 ?_
     refine wp_ret ?_
     refine retI rfl rfl ?_
     refine ⟨_, rfl, hE, congrArg (Value.int .i64) ?_⟩
     first | (refine S.actE_pos ?_; grind [S.FineAct, S.valE_zero]) | (refine S.actE_neg ?_; grind [S.FineAct, S.valE_zero])
    first | (have hqa := of_decide_eq_true ((S.eqA6 _ _ _ _ _ _ _ _ _ _ _ _).symm.trans c21)) | (have hqa := of_decide_eq_true ((S.eqV _ _ _ _ _ _ _ _).symm.trans c21)) | (have hqa := of_decide_eq_true ((strEq _ _).symm.trans c21)) | (have hqa := of_decide_eq_true c21) | (have hqa := c21)
    refine wp_skip ?_
    refine J19 _ _ ?_
    refine sq fun _ J23 => ?_
    refine RS.asI rfl ?_
    refine nl J23 ?_
    refine wp_ret ?_
    refine retI rfl rfl ?_
    refine ⟨_, rfl, hE, congrArg (Value.int .i64) ?_⟩
    first | (refine S.actE_pos ?_; grind [S.FineAct, S.valE_zero]) | (refine S.actE_neg ?_; grind [S.FineAct, S.valE_zero])
   refine RS.nm ?_
   have hkf := of_decide_eq_false c18
   refine RS.skF 17 ?_
   refine RS.skF 17 ?_
   refine RS.skF 17 ?_
   refine RS.skF 17 ?_
   refine RS.pkf ?_
   refine RS.asB rfl ?_
   refine nl J4 ?_
   refine wx fun _ J24 => ?_
   refine sq fun _ J25 => ?_
   refine RS.mvB rfl ?_
   refine RS.o (D.not rfl) ?_
   refine nl J25 ?_
   refine C.ifnot rfl (fun c26 => ?_) (fun c26 => ?_)
   ·first | (have hqa := of_decide_eq_false ((S.eqA6 _ _ _ _ _ _ _ _ _ _ _ _).symm.trans c26)) | (have hqa := of_decide_eq_false ((S.eqV _ _ _ _ _ _ _ _).symm.trans c26)) | (have hqa := of_decide_eq_false ((strEq _ _).symm.trans c26)) | (have hqa := of_decide_eq_false c26) | (have hqa := c26)
    refine sq fun _ J27 => ?_
    refine RS.asI rfl ?_
    refine nl J27 ?_
    refine wp_ret ?_
    refine retI rfl rfl ?_
    refine ⟨_, rfl, hE, congrArg (Value.int .i64) ?_⟩
    first | (refine S.actE_pos ?_; grind [S.FineAct, S.valE_zero]) | (refine S.actE_neg ?_; grind [S.FineAct, S.valE_zero])
   first | (have hqa := of_decide_eq_true ((S.eqA6 _ _ _ _ _ _ _ _ _ _ _ _).symm.trans c26)) | (have hqa := of_decide_eq_true ((S.eqV _ _ _ _ _ _ _ _).symm.trans c26)) | (have hqa := of_decide_eq_true ((strEq _ _).symm.trans c26)) | (have hqa := of_decide_eq_true c26) | (have hqa := c26)
   refine wp_skip ?_
   refine J24 _ _ ?_
   refine sq fun _ J28 => ?_
   refine RS.asI rfl ?_
   refine nl J28 ?_
   refine wp_ret ?_
   refine retI rfl rfl ?_
   refine ⟨_, rfl, hE, congrArg (Value.int .i64) ?_⟩
   first | (refine S.actE_pos ?_; grind [S.FineAct, S.valE_zero]) | (refine S.actE_neg ?_; grind [S.FineAct, S.valE_zero])
  exact absurd z16 (by first | (simp [c15]; done) | (simp_all; done) | omega)
 refine region ?_
 refine RS.o (D.eq rfl rfl) ?_
 refine RS.asB rfl ?_
 refine nl J13 ?_
 refine C.ife rfl (fun c29 => ?_) (fun c29 => ?_)
 ·refine region ?_
  refine RS.fl 1 V40 rfl C9 ?_
  refine RS.ld V9 B2 ?_
  refine RS.call E157 (key _ _) rfl (fun v30 w30 x30 A30 => ?_)
  replace hE := Ext.tr hE x30
  replace B2 := B2.ext x30
  have zw30 := x30.size
  subst A30
  refine RS.nm ?_
  refine RS.mvB rfl ?_
  refine RS.splitb 17 rfl rfl (fun c31 => ?_) (fun c31 => ?_)
  ·refine RS.nm ?_
   have hkt := of_decide_eq_true c31
   refine RS.wt 17 ?_
   refine RS.fl 2 V40 rfl C24 ?_
   refine RS.wt 17 ?_
   refine RS.la V24 C24 B2 4 ?_
   refine RS.wt 17 ?_
   refine RS.o (D.buildS T24 F24 (ps := []) rfl rfl) ?_
   refine RS.wt 17 ?_
   refine RS.o (D.eqA rfl rfl V24 rfl (by kernel_rfl) (by kernel_rfl) (by kernel_rfl)) ?_
   refine RS.pk ?_
   refine RS.asB rfl ?_
   refine nl J4 ?_
   refine wx fun _ J32 => ?_
   refine sq fun _ J33 => ?_
   refine RS.mvB rfl ?_
   refine RS.o (D.not rfl) ?_
   refine nl J33 ?_
   refine C.ifnot rfl (fun c34 => ?_) (fun c34 => ?_)
   ·first | (have hqa := of_decide_eq_false ((S.eqA6 _ _ _ _ _ _ _ _ _ _ _ _).symm.trans c34)) | (have hqa := of_decide_eq_false ((S.eqV _ _ _ _ _ _ _ _).symm.trans c34)) | (have hqa := of_decide_eq_false ((strEq _ _).symm.trans c34)) | (have hqa := of_decide_eq_false c34) | (have hqa := c34)
    refine sq fun _ J35 => ?_
    refine RS.asI rfl ?_
    refine nl J35 ?_
    refine wp_ret ?_
    refine retI rfl rfl ?_
    refine ⟨_, rfl, hE, congrArg (Value.int .i64) ?_⟩
    first | (refine S.actE_pos ?_; grind [S.FineAct, S.valE_zero]) | (refine S.actE_neg ?_; grind [S.FineAct, S.valE_zero])
   first | (have hqa := of_decide_eq_true ((S.eqA6 _ _ _ _ _ _ _ _ _ _ _ _).symm.trans c34)) | (have hqa := of_decide_eq_true ((S.eqV _ _ _ _ _ _ _ _).symm.trans c34)) | (have hqa := of_decide_eq_true ((strEq _ _).symm.trans c34)) | (have hqa := of_decide_eq_true c34) | (have hqa := c34)
   refine wp_skip ?_
   refine J32 _ _ ?_
   refine sq fun _ J36 => ?_
   refine RS.asI rfl ?_
   refine nl J36 ?_
   refine wp_ret ?_
   refine retI rfl rfl ?_
   refine ⟨_, rfl, hE, congrArg (Value.int .i64) ?_⟩
   first | (refine S.actE_pos ?_; grind [S.FineAct, S.valE_zero]) | (refine S.actE_neg ?_; grind [S.FineAct, S.valE_zero])
  refine RS.nm ?_
  have hkf := of_decide_eq_false c31
  refine RS.skF 17 ?_
  refine RS.skF 17 ?_
  refine RS.skF 17 ?_
  refine RS.skF 17 ?_
  refine RS.pkf ?_
  refine RS.asB rfl ?_
  refine nl J4 ?_
  refine wx fun _ J37 => ?_
  refine sq fun _ J38 => ?_
  refine RS.mvB rfl ?_
  refine RS.o (D.not rfl) ?_
  refine nl J38 ?_
  refine C.ifnot rfl (fun c39 => ?_) (fun c39 => ?_)
  ·first | (have hqa := of_decide_eq_false ((S.eqA6 _ _ _ _ _ _ _ _ _ _ _ _).symm.trans c39)) | (have hqa := of_decide_eq_false ((S.eqV _ _ _ _ _ _ _ _).symm.trans c39)) | (have hqa := of_decide_eq_false ((strEq _ _).symm.trans c39)) | (have hqa := of_decide_eq_false c39) | (have hqa := c39)
   refine sq fun _ J40 => ?_
   refine RS.asI rfl ?_
   refine nl J40 ?_
   refine wp_ret ?_
   refine retI rfl rfl ?_
   refine ⟨_, rfl, hE, congrArg (Value.int .i64) ?_⟩
   first | (refine S.actE_pos ?_; grind [S.FineAct, S.valE_zero]) | (refine S.actE_neg ?_; grind [S.FineAct, S.valE_zero])
  first | (have hqa := of_decide_eq_true ((S.eqA6 _ _ _ _ _ _ _ _ _ _ _ _).symm.trans c39)) | (have hqa := of_decide_eq_true ((S.eqV _ _ _ _ _ _ _ _).symm.trans c39)) | (have hqa := of_decide_eq_true ((strEq _ _).symm.trans c39)) | (have hqa := of_decide_eq_true c39) | (have hqa := c39)
  refine wp_skip ?_
  refine J37 _ _ ?_
  refine sq fun _ J41 => ?_
  refine RS.asI rfl ?_
  refine nl J41 ?_
  refine wp_ret ?_
  refine retI rfl rfl ?_
  refine ⟨_, rfl, hE, congrArg (Value.int .i64) ?_⟩
  first | (refine S.actE_pos ?_; grind [S.FineAct, S.valE_zero]) | (refine S.actE_neg ?_; grind [S.FineAct, S.valE_zero])
 refine wx fun _ J42 => ?_
 refine region ?_
 refine RS.o (D.eq rfl rfl) ?_
 refine RS.asB rfl ?_
 refine nl J42 ?_
 refine C.ife rfl (fun c43 => ?_) (fun c43 => ?_)
 ·refine region ?_
  refine RS.fl 1 V40 rfl C9 ?_
  refine RS.ld V9 B2 ?_
  refine RS.call E157 (key _ _) rfl (fun v44 w44 x44 A44 => ?_)
  replace hE := Ext.tr hE x44
  replace B2 := B2.ext x44
  have zw44 := x44.size
  subst A44
  refine RS.nm ?_
  refine RS.mvB rfl ?_
  refine RS.splitb 28 rfl rfl (fun c45 => ?_) (fun c45 => ?_)
  ·refine RS.nm ?_
   have hkt := of_decide_eq_true c45
   refine RS.wt 28 ?_
   refine RS.fl 2 V40 rfl C24 ?_
   refine RS.wt 28 ?_
   refine RS.la V24 C24 B2 4 ?_
   refine RS.wt 28 ?_
   refine RS.call E86 (checkV _ _ _ _ hvk hnum hb _) rfl (fun v46 w46 x46 A46 => ?_)
   replace hE := Ext.tr hE x46
   replace B2 := B2.ext x46
   have zw46 := x46.size
   subst A46
   refine RS.nm ?_
   refine RS.wt 28 ?_
   refine RS.o (D.eq rfl rfl) ?_
   refine RS.pk ?_
   refine RS.asB rfl ?_
   refine nl J4 ?_
   refine wx fun _ J47 => ?_
   refine sq fun _ J48 => ?_
   refine RS.mvB rfl ?_
   refine RS.o (D.not rfl) ?_
   refine nl J48 ?_
   refine C.ifnot rfl (fun c49 => ?_) (fun c49 => ?_)
   ·first | (have hqa := of_decide_eq_false ((S.eqA6 _ _ _ _ _ _ _ _ _ _ _ _).symm.trans c49)) | (have hqa := of_decide_eq_false ((S.eqV _ _ _ _ _ _ _ _).symm.trans c49)) | (have hqa := of_decide_eq_false ((strEq _ _).symm.trans c49)) | (have hqa := of_decide_eq_false c49) | (have hqa := c49)
    refine sq fun _ J50 => ?_
    refine RS.asI rfl ?_
    refine nl J50 ?_
    refine wp_ret ?_
    refine retI rfl rfl ?_
    refine ⟨_, rfl, hE, congrArg (Value.int .i64) ?_⟩
    first | (refine S.actE_pos ?_; grind [S.FineAct, S.valE_zero]) | (refine S.actE_neg ?_; grind [S.FineAct, S.valE_zero])
   first | (have hqa := of_decide_eq_true ((S.eqA6 _ _ _ _ _ _ _ _ _ _ _ _).symm.trans c49)) | (have hqa := of_decide_eq_true ((S.eqV _ _ _ _ _ _ _ _).symm.trans c49)) | (have hqa := of_decide_eq_true ((strEq _ _).symm.trans c49)) | (have hqa := of_decide_eq_true c49) | (have hqa := c49)
   refine wp_skip ?_
   refine J47 _ _ ?_
   refine sq fun _ J51 => ?_
   refine RS.asI rfl ?_
   refine nl J51 ?_
   refine wp_ret ?_
   refine retI rfl rfl ?_
   refine ⟨_, rfl, hE, congrArg (Value.int .i64) ?_⟩
   first | (refine S.actE_pos ?_; grind [S.FineAct, S.valE_zero]) | (refine S.actE_neg ?_; grind [S.FineAct, S.valE_zero])
  refine RS.nm ?_
  have hkf := of_decide_eq_false c45
  refine RS.skF 28 ?_
  refine RS.skF 28 ?_
  refine RS.skF 28 ?_
  refine RS.skF 28 ?_
  refine RS.pkf ?_
  refine RS.asB rfl ?_
  refine nl J4 ?_
  refine wx fun _ J52 => ?_
  refine sq fun _ J53 => ?_
  refine RS.mvB rfl ?_
  refine RS.o (D.not rfl) ?_
  refine nl J53 ?_
  refine C.ifnot rfl (fun c54 => ?_) (fun c54 => ?_)
  ·first | (have hqa := of_decide_eq_false ((S.eqA6 _ _ _ _ _ _ _ _ _ _ _ _).symm.trans c54)) | (have hqa := of_decide_eq_false ((S.eqV _ _ _ _ _ _ _ _).symm.trans c54)) | (have hqa := of_decide_eq_false ((strEq _ _).symm.trans c54)) | (have hqa := of_decide_eq_false c54) | (have hqa := c54)
   refine sq fun _ J55 => ?_
   refine RS.asI rfl ?_
   refine nl J55 ?_
   refine wp_ret ?_
   refine retI rfl rfl ?_
   refine ⟨_, rfl, hE, congrArg (Value.int .i64) ?_⟩
   first | (refine S.actE_pos ?_; grind [S.FineAct, S.valE_zero]) | (refine S.actE_neg ?_; grind [S.FineAct, S.valE_zero])
  first | (have hqa := of_decide_eq_true ((S.eqA6 _ _ _ _ _ _ _ _ _ _ _ _).symm.trans c54)) | (have hqa := of_decide_eq_true ((S.eqV _ _ _ _ _ _ _ _).symm.trans c54)) | (have hqa := of_decide_eq_true ((strEq _ _).symm.trans c54)) | (have hqa := of_decide_eq_true c54) | (have hqa := c54)
  refine wp_skip ?_
  refine J52 _ _ ?_
  refine sq fun _ J56 => ?_
  refine RS.asI rfl ?_
  refine nl J56 ?_
  refine wp_ret ?_
  refine retI rfl rfl ?_
  refine ⟨_, rfl, hE, congrArg (Value.int .i64) ?_⟩
  first | (refine S.actE_pos ?_; grind [S.FineAct, S.valE_zero]) | (refine S.actE_neg ?_; grind [S.FineAct, S.valE_zero])
 refine wp_skip ?_
 refine J4 _ _ ?_
 refine wx fun _ J57 => ?_
 refine sq fun _ J58 => ?_
 refine RS.mvB rfl ?_
 refine RS.o (D.not rfl) ?_
 refine nl J58 ?_
 refine C.ifnot rfl (fun c59 => ?_) (fun c59 => ?_)
 ·first | (have hqa := of_decide_eq_false ((S.eqA6 _ _ _ _ _ _ _ _ _ _ _ _).symm.trans c59)) | (have hqa := of_decide_eq_false ((S.eqV _ _ _ _ _ _ _ _).symm.trans c59)) | (have hqa := of_decide_eq_false ((strEq _ _).symm.trans c59)) | (have hqa := of_decide_eq_false c59) | (have hqa := c59)
  refine sq fun _ J60 => ?_
  refine RS.asI rfl ?_
  refine nl J60 ?_
  refine wp_ret ?_
  refine retI rfl rfl ?_
  refine ⟨_, rfl, hE, congrArg (Value.int .i64) ?_⟩
  first | (refine S.actE_pos ?_; grind [S.FineAct, S.valE_zero]) | (refine S.actE_neg ?_; grind [S.FineAct, S.valE_zero])
 first | (have hqa := of_decide_eq_true ((S.eqA6 _ _ _ _ _ _ _ _ _ _ _ _).symm.trans c59)) | (have hqa := of_decide_eq_true ((S.eqV _ _ _ _ _ _ _ _).symm.trans c59)) | (have hqa := of_decide_eq_true ((strEq _ _).symm.trans c59)) | (have hqa := of_decide_eq_true c59) | (have hqa := c59)
 refine wp_skip ?_
 refine J57 _ _ ?_
 refine sq fun _ J61 => ?_
 refine RS.asI rfl ?_
 refine nl J61 ?_
 refine wp_ret ?_
 refine retI rfl rfl ?_
 refine ⟨_, rfl, hE, congrArg (Value.int .i64) ?_⟩
 first | (refine S.actE_pos ?_; grind [S.FineAct, S.valE_zero]) | (refine S.actE_neg ?_; grind [S.FineAct, S.valE_zero])
theorem checkActR (k vk num bits : Int) (ky t : ByteArray) (hk : 0 ≤ k ∧ k < 256) (hvk : 0 ≤ vk ∧ vk < 256) (hnum : -9223372036854775808 ≤ num ∧ num ≤ 9223372036854775807) (hb : 0 ≤ bits ∧ bits < 18446744073709551616) (hkey : ky.size ≤ 100000) (ht : t.size ≤ 100000) (w : World) :
  Calls Tryz.prog 221 #[.agg ([.int .u8 k, .string ky, .int .u8 vk, .int .i64 num, .int .u64 bits, .string t] : List Value).toArray] w (Ret w fun v _ => v = .int .i64 (S.actE k ky vk num bits t)) := by
 have hE := Ext.refl w
 refine enterU 37 Tryz.func221 rfl rfl ?_
 refine sq fun _ J1 => ?_
 refine RS.box rfl rfl (fun b2 w2 e2 s2 x2 B2 => ?_)
 refine RS.nm ?_
 replace hE := Ext.tr hE x2
 have zw2 := x2.size
 refine RS.asI rfl ?_
 refine nl J1 (sq fun _ J3 => ?_)
 refine RS.fl 2 V40 rfl C24 ?_
 refine RS.la V24 C24 B2 4 ?_
 refine RS.o (D.buildS T24 F24 (ps := []) rfl rfl) ?_
 refine RS.o (D.eqA rfl rfl V24 rfl (by kernel_rfl) (by kernel_rfl) (by kernel_rfl)) ?_
 refine RS.asB rfl ?_
 refine nl J3 ?_
 refine wx fun _ J4 => ?_
 refine sq fun _ J5 => ?_
 refine RS.fl 0 V40 rfl C5 ?_
 refine RS.ld V5 B2 ?_
 refine nl J5 ?_
 refine wp_block ?_
 refine sq fun _ J6 => ?_
 refine RS.o (D.eq rfl rfl) ?_
 refine RS.asB rfl ?_
 refine nl J6 ?_
 refine C.ife rfl (fun c7 => ?_) (fun c7 => ?_)
 ·refine wx fun _ J8 => ?_
  refine region ?_
  refine RS.fl 1 V40 rfl C9 ?_
  refine RS.ld V9 B2 ?_
  refine RS.o (D.seq rfl rfl) ?_
  refine RS.mvB rfl ?_
  refine RS.splitb 15 rfl rfl (fun c9 => ?_) (fun c9 => ?_)
  ·refine RS.nm ?_
   have hs0 : ky = ByteArray.empty := of_decide_eq_true ((strEq _ _).symm.trans c9)
   refine RS.wt 15 ?_
   refine RS.mvB rfl ?_
   refine RS.pk ?_
   refine nl J8 ?_
   refine C.ifb rfl (fun c10 => ?_) (fun c10 => ?_)
   ·first | (have hqa := of_decide_eq_true ((S.eqA6 _ _ _ _ _ _ _ _ _ _ _ _).symm.trans c10)) | (have hqa := of_decide_eq_true ((S.eqV _ _ _ _ _ _ _ _).symm.trans c10)) | (have hqa := of_decide_eq_true ((strEq _ _).symm.trans c10)) | (have hqa := of_decide_eq_true c10) | (have hqa := c10)
    refine sq fun _ J11 => ?_
    refine RS.asI rfl ?_
    refine nl J11 ?_
    refine wp_ret ?_
    refine retI rfl rfl ?_
    refine ⟨_, rfl, hE, congrArg (Value.int .i64) ?_⟩
    first | (refine S.actE_pos ?_; grind [S.FineAct, S.valE_zero]) | (refine S.actE_neg ?_; grind [S.FineAct, S.valE_zero])
   first | (have hqa := of_decide_eq_false ((S.eqA6 _ _ _ _ _ _ _ _ _ _ _ _).symm.trans c10)) | (have hqa := of_decide_eq_false ((S.eqV _ _ _ _ _ _ _ _).symm.trans c10)) | (have hqa := of_decide_eq_false ((strEq _ _).symm.trans c10)) | (have hqa := of_decide_eq_false c10) | (have hqa := c10)
   refine wp_skip ?_
   refine J4 _ _ ?_
   refine sq fun _ J12 => ?_
   refine RS.asI rfl ?_
   refine nl J12 ?_
   refine wp_ret ?_
   refine retI rfl rfl ?_
   refine ⟨_, rfl, hE, congrArg (Value.int .i64) ?_⟩
   first | (refine S.actE_pos ?_; grind [S.FineAct, S.valE_zero]) | (refine S.actE_neg ?_; grind [S.FineAct, S.valE_zero])
  refine RS.nm ?_
  have hs0 : ky ≠ ByteArray.empty := of_decide_eq_false ((strEq _ _).symm.trans c9)
  refine RS.skF 15 ?_
  refine RS.pkf ?_
  refine nl J8 ?_
  refine C.iff rfl ?_
  refine wp_skip ?_
  refine J4 _ _ ?_
  refine sq fun _ J13 => ?_
  refine RS.asI rfl ?_
  refine nl J13 ?_
  refine wp_ret ?_
  refine retI rfl rfl ?_
  refine ⟨_, rfl, hE, congrArg (Value.int .i64) ?_⟩
  first | (refine S.actE_pos ?_; grind [S.FineAct, S.valE_zero]) | (refine S.actE_neg ?_; grind [S.FineAct, S.valE_zero])
 refine wx fun _ J14 => ?_
 refine sq fun _ J15 => ?_
 refine RS.o (D.eq rfl rfl) ?_
 refine RS.asB rfl ?_
 refine nl J15 ?_
 refine C.ife rfl (fun c16 => ?_) (fun c16 => ?_)
 ·refine wp_skip ?_
  refine J14 _ _ ?_
  refine C.ifb rfl (fun z17 => ?_) (fun z17 => ?_)
  ·refine wx fun _ J18 => ?_
   refine region ?_
   refine RS.fl 1 V40 rfl C9 ?_
   refine RS.ld V9 B2 ?_
   refine RS.call E264 (nameR _ (by omega) _) rfl (fun v19 w19 x19 A19 => ?_)
   replace hE := Ext.tr hE x19
   replace B2 := B2.ext x19
   have zw19 := x19.size
   subst A19
   refine RS.nm ?_
   refine RS.mvB rfl ?_
   refine RS.splitb 24 rfl rfl (fun c20 => ?_) (fun c20 => ?_)
   ·refine RS.nm ?_
    have hkt := of_decide_eq_true c20
    refine RS.wt 24 ?_
    refine RS.mvB rfl ?_
    refine RS.pk ?_
    refine nl J18 ?_
    refine C.ifb rfl (fun c21 => ?_) (fun c21 => ?_)
    ·first | (have hqa := of_decide_eq_true ((S.eqA6 _ _ _ _ _ _ _ _ _ _ _ _).symm.trans c21)) | (have hqa := of_decide_eq_true ((S.eqV _ _ _ _ _ _ _ _).symm.trans c21)) | (have hqa := of_decide_eq_true ((strEq _ _).symm.trans c21)) | (have hqa := of_decide_eq_true c21) | (have hqa := c21)
     refine sq fun _ J22 => ?_
     refine RS.asI rfl ?_
     refine nl J22 ?_
     refine wp_ret ?_
     refine retI rfl rfl ?_
     refine ⟨_, rfl, hE, congrArg (Value.int .i64) ?_⟩
     first | (refine S.actE_pos ?_; grind [S.FineAct, S.valE_zero]) | (refine S.actE_neg ?_; grind [S.FineAct, S.valE_zero])
    first | (have hqa := of_decide_eq_false ((S.eqA6 _ _ _ _ _ _ _ _ _ _ _ _).symm.trans c21)) | (have hqa := of_decide_eq_false ((S.eqV _ _ _ _ _ _ _ _).symm.trans c21)) | (have hqa := of_decide_eq_false ((strEq _ _).symm.trans c21)) | (have hqa := of_decide_eq_false c21) | (have hqa := c21)
    refine wp_skip ?_
    refine J4 _ _ ?_
    refine sq fun _ J23 => ?_
    refine RS.asI rfl ?_
    refine nl J23 ?_
    refine wp_ret ?_
    refine retI rfl rfl ?_
    refine ⟨_, rfl, hE, congrArg (Value.int .i64) ?_⟩
    first | (refine S.actE_pos ?_; grind [S.FineAct, S.valE_zero]) | (refine S.actE_neg ?_; grind [S.FineAct, S.valE_zero])
   refine RS.nm ?_
   have hkf := of_decide_eq_false c20
   refine RS.skF 24 ?_
   refine RS.pkf ?_
   refine nl J18 ?_
   refine C.iff rfl ?_
   refine wp_skip ?_
   refine J4 _ _ ?_
   refine sq fun _ J24 => ?_
   refine RS.asI rfl ?_
   refine nl J24 ?_
   refine wp_ret ?_
   refine retI rfl rfl ?_
   refine ⟨_, rfl, hE, congrArg (Value.int .i64) ?_⟩
   first | (refine S.actE_pos ?_; grind [S.FineAct, S.valE_zero]) | (refine S.actE_neg ?_; grind [S.FineAct, S.valE_zero])
  exact absurd z17 (by first | (simp [c16]; done) | (simp_all; done) | omega)
 refine region ?_
 refine RS.o (D.eq rfl rfl) ?_
 refine RS.asB rfl ?_
 refine nl J14 ?_
 refine C.ife rfl (fun c25 => ?_) (fun c25 => ?_)
 ·refine wx fun _ J26 => ?_
  refine region ?_
  refine RS.fl 1 V40 rfl C9 ?_
  refine RS.ld V9 B2 ?_
  refine RS.call E264 (nameR _ (by omega) _) rfl (fun v27 w27 x27 A27 => ?_)
  replace hE := Ext.tr hE x27
  replace B2 := B2.ext x27
  have zw27 := x27.size
  subst A27
  refine RS.nm ?_
  refine RS.mvB rfl ?_
  refine RS.splitb 24 rfl rfl (fun c28 => ?_) (fun c28 => ?_)
  ·refine RS.nm ?_
   have hkt := of_decide_eq_true c28
   refine RS.wt 24 ?_
   refine RS.mvB rfl ?_
   refine RS.pk ?_
   refine nl J26 ?_
   refine C.ifb rfl (fun c29 => ?_) (fun c29 => ?_)
   ·first | (have hqa := of_decide_eq_true ((S.eqA6 _ _ _ _ _ _ _ _ _ _ _ _).symm.trans c29)) | (have hqa := of_decide_eq_true ((S.eqV _ _ _ _ _ _ _ _).symm.trans c29)) | (have hqa := of_decide_eq_true ((strEq _ _).symm.trans c29)) | (have hqa := of_decide_eq_true c29) | (have hqa := c29)
    refine sq fun _ J30 => ?_
    refine RS.asI rfl ?_
    refine nl J30 ?_
    refine wp_ret ?_
    refine retI rfl rfl ?_
    refine ⟨_, rfl, hE, congrArg (Value.int .i64) ?_⟩
    first | (refine S.actE_pos ?_; grind [S.FineAct, S.valE_zero]) | (refine S.actE_neg ?_; grind [S.FineAct, S.valE_zero])
   first | (have hqa := of_decide_eq_false ((S.eqA6 _ _ _ _ _ _ _ _ _ _ _ _).symm.trans c29)) | (have hqa := of_decide_eq_false ((S.eqV _ _ _ _ _ _ _ _).symm.trans c29)) | (have hqa := of_decide_eq_false ((strEq _ _).symm.trans c29)) | (have hqa := of_decide_eq_false c29) | (have hqa := c29)
   refine wp_skip ?_
   refine J4 _ _ ?_
   refine sq fun _ J31 => ?_
   refine RS.asI rfl ?_
   refine nl J31 ?_
   refine wp_ret ?_
   refine retI rfl rfl ?_
   refine ⟨_, rfl, hE, congrArg (Value.int .i64) ?_⟩
   first | (refine S.actE_pos ?_; grind [S.FineAct, S.valE_zero]) | (refine S.actE_neg ?_; grind [S.FineAct, S.valE_zero])
  refine RS.nm ?_
  have hkf := of_decide_eq_false c28
  refine RS.skF 24 ?_
  refine RS.pkf ?_
  refine nl J26 ?_
  refine C.iff rfl ?_
  refine wp_skip ?_
  refine J4 _ _ ?_
  refine sq fun _ J32 => ?_
  refine RS.asI rfl ?_
  refine nl J32 ?_
  refine wp_ret ?_
  refine retI rfl rfl ?_
  refine ⟨_, rfl, hE, congrArg (Value.int .i64) ?_⟩
  first | (refine S.actE_pos ?_; grind [S.FineAct, S.valE_zero]) | (refine S.actE_neg ?_; grind [S.FineAct, S.valE_zero])
 refine wx fun _ J33 => ?_
 refine region ?_
 refine RS.o (D.eq rfl rfl) ?_
 refine RS.asB rfl ?_
 refine nl J33 ?_
 refine C.ife rfl (fun c34 => ?_) (fun c34 => ?_)
 ·refine wx fun _ J35 => ?_
  refine region ?_
  refine RS.fl 1 V40 rfl C9 ?_
  refine RS.ld V9 B2 ?_
  refine RS.call E264 (nameR _ (by omega) _) rfl (fun v36 w36 x36 A36 => ?_)
  replace hE := Ext.tr hE x36
  replace B2 := B2.ext x36
  have zw36 := x36.size
  subst A36
  refine RS.nm ?_
  refine RS.mvB rfl ?_
  refine RS.splitb 32 rfl rfl (fun c37 => ?_) (fun c37 => ?_)
  ·refine RS.nm ?_
   have hkt := of_decide_eq_true c37
   refine RS.wt 32 ?_
   refine RS.fl 2 V40 rfl C24 ?_
   refine RS.wt 32 ?_
   refine RS.la V24 C24 B2 4 ?_
   refine RS.wt 32 ?_
   refine RS.call E265 (checkR _ _ _ _ hvk hnum hb (by omega) _) rfl (fun v38 w38 x38 A38 => ?_)
   replace hE := Ext.tr hE x38
   replace B2 := B2.ext x38
   have zw38 := x38.size
   subst A38
   refine RS.nm ?_
   refine RS.wt 32 ?_
   refine RS.o (D.eq rfl rfl) ?_
   refine RS.pk ?_
   refine nl J35 ?_
   refine C.ife rfl (fun c39 => ?_) (fun c39 => ?_)
   ·refine wx fun _ J40 => ?_
    refine region ?_
    refine RS.asI rfl ?_
    refine nl J40 ?_
    refine wp_ret ?_
    refine retI rfl rfl ?_
    refine ⟨_, rfl, hE, congrArg (Value.int .i64) ?_⟩
    first | (refine S.actE_pos ?_; grind [S.FineAct, S.valE_zero]) | (refine S.actE_neg ?_; grind [S.FineAct, S.valE_zero])
   refine wp_skip ?_
   refine J4 _ _ ?_
   refine sq fun _ J41 => ?_
   refine RS.asI rfl ?_
   refine nl J41 ?_
   refine wp_ret ?_
   refine retI rfl rfl ?_
   refine ⟨_, rfl, hE, congrArg (Value.int .i64) ?_⟩
   first | (refine S.actE_pos ?_; grind [S.FineAct, S.valE_zero]) | (refine S.actE_neg ?_; grind [S.FineAct, S.valE_zero])
  refine RS.nm ?_
  have hkf := of_decide_eq_false c37
  refine RS.skF 32 ?_
  refine RS.skF 32 ?_
  refine RS.skF 32 ?_
  refine RS.skF 32 ?_
  refine RS.pkf ?_
  refine nl J35 ?_
  refine C.iff rfl ?_
  refine wp_skip ?_
  refine J4 _ _ ?_
  refine sq fun _ J42 => ?_
  refine RS.asI rfl ?_
  refine nl J42 ?_
  refine wp_ret ?_
  refine retI rfl rfl ?_
  refine ⟨_, rfl, hE, congrArg (Value.int .i64) ?_⟩
  first | (refine S.actE_pos ?_; grind [S.FineAct, S.valE_zero]) | (refine S.actE_neg ?_; grind [S.FineAct, S.valE_zero])
 refine wp_skip ?_
 refine J4 _ _ ?_
 refine sq fun _ J43 => ?_
 refine RS.asI rfl ?_
 refine nl J43 ?_
 refine wp_ret ?_
 refine retI rfl rfl ?_
 refine ⟨_, rfl, hE, congrArg (Value.int .i64) ?_⟩
 first | (refine S.actE_pos ?_; grind [S.FineAct, S.valE_zero]) | (refine S.actE_neg ?_; grind [S.FineAct, S.valE_zero])
theorem C38 : Tryz.prog.cellsOf 38 = 1 := by kernel_rfl
theorem C42 : Tryz.prog.cellsOf 42 = 2 := by kernel_rfl
theorem E85 : Enters Tryz.prog 85 := .mk Tryz.func85 (by kernel_rfl) rfl
theorem E101 : Enters Tryz.prog 101 := .mk Tryz.func101 (by kernel_rfl) rfl
theorem E237 : Enters Tryz.prog 237 := .mk Tryz.func237 (by kernel_rfl) rfl
theorem E238 : Enters Tryz.prog 238 := .mk Tryz.func238 (by kernel_rfl) rfl
theorem checkO {S0 : Nat → Prop} (o : S.OpV) (ho : o.ok) (pa : Option Addr) (pc : Nat) (w : World) (D0 : WRow .u8 32 S0 w pa o.n o.ids) (hc : o.n ≤ pc) :
  Calls Tryz.prog 188 #[.agg ([.int .u32 o.au, .slice pa o.n pc, .int .u64 o.st, .int .u8 o.k, .string o.key, .int .u8 o.vk, .int .i64 o.num, .int .u64 o.bits, .string o.t, .int .u32 o.e, .int .u32 o.s] : List Value).toArray] w (Ret w fun v _ => v = .int .i64 (S.checkE o)) := by
 replace D0 := D0.weaken (T := fun k => k < w.heap.size) (fun k hk _ => hk)
 have o1 := ho.au
 have o2 := ho.st
 have o3 := ho.k
 have o4 := ho.vk
 have o5 := ho.num
 have o6 := ho.bits
 have o7 := ho.e
 have o8 := ho.s
 have o9 := ho.n
 have o10 := ho.key
 have o11 := ho.t
 have hE := Ext.refl w
 refine enterU 46 Tryz.func188 rfl rfl ?_
 refine sq fun _ J1 => ?_
 refine RS.box rfl rfl (fun b2 w2 e2 s2 x2 B2 => ?_)
 refine RS.nm ?_
 replace hE := Ext.tr hE x2
 replace D0 := D0.ext x2
 have zw2 := x2.size
 refine RS.asI rfl ?_
 refine nl J1 ?_
 refine wx fun _ J3 => ?_
 refine wp_block ?_
 refine sq fun _ J4 => ?_
 refine RS.fl 1 V44 rfl C38 ?_
 refine RS.ld V38 B2 ?_
 refine RS.ln V38 ?_
 refine RS.o (D.gt rfl rfl) ?_
 refine RS.asB rfl ?_
 refine nl J4 ?_
 refine C.ifd rfl (fun c5 => ?_) (fun c5 => ?_)
 ·have h4 := c5
  refine sq fun _ J6 => ?_
  refine RS.asI rfl ?_
  refine nl J6 ?_
  refine wp_ret ?_
  refine retI rfl rfl ?_
  refine ⟨_, rfl, hE, congrArg (Value.int .i64) ?_⟩
  exact S.check4 (by omega)
 have h4 := c5
 refine wx fun _ J7 => ?_
 refine regionX (Below w2.heap.size) [(0, .q), (1, .q), (2, .e), (3, .q), (4, .q), (5, .q), (6, .q), (10, .q), (11, .q), (12, .q), (7, .e), (8, .e), (9, .q), (13, .q), (14, .q), (15, .q)] mixed (fun w => Below.refl _ _) (fun h k => Below.trans h k) (by kernel_rfl) (fun w8 x8 => ?_)
 replace hE := Ext.tr hE x8
 replace D0 := D0.ext x8
 replace B2 := B2.ext x8
 have zw8 := x8.size
 refine RX.fl 1 V44 rfl C38 ?_
 refine RX.o (fun w' hw => D.load rfl V38 rfl ((B2.bel hw (by omega)).cell rfl)) ?_
 refine RX.eff ?_
 refine RS.call E237 (isSorted _ _ _ _ _ D0 hc (by omega)) rfl (fun v9 w9 x9 A9 => ?_)
 replace hE := Ext.tr hE x9
 replace D0 := D0.ext x9
 replace B2 := B2.ext x9
 have zw9 := x9.size
 subst A9
 refine RS.nm ?_
 refine RS.nil ⟨(x9.mono (by omega)), ?_⟩
 refine RX.o (fun w' hw => D.not rfl) ?_
 refine RX.mvB rfl ?_
 refine RX.splitnot 13 rfl rfl (fun c10 => ?_) (fun c10 => ?_)
 ·refine RX.nm ?_
  have hso := of_decide_eq_false c10
  refine RX.skT 13 ?_
  refine RX.skT 13 ?_
  refine RX.skT 13 ?_
  refine RX.skT 13 ?_
  refine RX.skT 13 ?_
  refine RX.skT 13 ?_
  refine RX.skT 13 ?_
  refine RX.skT 13 ?_
  refine RX.skT 13 ?_
  refine RX.pick (v := .bool true) rfl rfl ?_
  refine RX.assign (v := .bool _) rfl ?_
  refine RX.nil (J7 _ _ ?_)
  refine C.ift rfl ?_
  refine sq fun _ J11 => ?_
  refine RS.asI rfl ?_
  refine nl J11 ?_
  refine wp_ret ?_
  refine retI rfl rfl ?_
  refine ⟨_, rfl, hE, congrArg (Value.int .i64) ?_⟩
  exact S.check32 (by omega) (fun h => hso ((S.rising_iff _ _).1 h).1)
 refine RX.nm ?_
 have hso := of_decide_eq_true c10
 refine RX.wt 13 ?_
 refine RX.fl 1 V44 rfl C38 ?_
 refine RX.wt 13 ?_
 refine RX.o (fun w' hw => D.load rfl V38 rfl ((B2.bel hw (by omega)).cell rfl)) ?_
 refine RX.wt 13 ?_
 refine RX.fl 1 V44 rfl C38 ?_
 refine RX.wt 13 ?_
 refine RX.o (fun w' hw => D.load rfl V38 rfl ((B2.bel hw (by omega)).cell rfl)) ?_
 refine RX.wt 13 ?_
 refine RX.o (fun w' hw => D.len rfl V38) ?_
 refine RX.wt 13 ?_
 refine RX.eff ?_
 refine RS.call E101 (cloneID _ _ _ _ _ D0 hc (by omega)) rfl (fun v12 w12 x12 A12 => ?_)
 replace hE := Ext.tr hE x12
 replace D0 := D0.ext x12
 replace B2 := B2.ext x12
 have zw12 := x12.size
 obtain ⟨a12, n12, c12, rfl, hnn, O1⟩ := A12
 obtain ⟨g0, hg, hgl⟩ : ∃ g0, (n12 < 2 ∨ a12 = some ⟨g0, 0, none⟩) ∧ w2.heap.size ≤ g0 := by
  by_cases h2 : n12 < 2
  ·exact ⟨w12.heap.size, .inl h2, by omega⟩
  obtain ⟨g, hg⟩ := O1.some (by omega)
  exact ⟨g, .inr hg, by have := O1.los g (by rw [hg]; rfl); omega⟩
 refine RS.nm ?_
 refine RS.nil ⟨(x12.mono (by omega)), ?_⟩
 refine RX.wt 13 ?_
 refine RX.eff ?_
 refine RS.callx E238 (compact _ _ _ _ _ _ _ O1 hg (by omega)) rfl (fun e13 w13 A13 => ?_)
 obtain ⟨a13, n13, c13, rfl, X13, hap⟩ := A13
 refine ⟨_, rfl, ?_⟩
 refine RS.nm ?_
 replace hE := hE.trans (X13.belo)
 replace D0 := D0.pro X13
 replace B2 := B2.pro X13
 have zw13 := X13.size
 have hnz := hnn
 refine RS.nil ⟨(X13.belo), ?_⟩
 refine RX.wt 13 ?_
 refine RX.o (fun w' hw => D.len rfl V38) ?_
 refine RX.wt 13 ?_
 refine RX.o (fun w' hw => D.ne rfl rfl) ?_
 refine RX.pick (v := .bool _) rfl rfl ?_
 refine RX.assign (v := .bool _) rfl ?_
 refine RX.nil (J7 _ _ ?_)
 refine C.ifn rfl (fun c14 => ?_) (fun c14 => ?_)
 ·try have hne := c14
  refine sq fun _ J15 => ?_
  refine RS.asI rfl ?_
  refine nl J15 ?_
  refine wp_ret ?_
  refine retI rfl rfl ?_
  refine ⟨_, rfl, hE, congrArg (Value.int .i64) ?_⟩
  exact S.check32 (by omega) (fun h => hne (by have := hap.2; rw [hnz] at this; exact congrArg Nat.cast (this ((S.rising_iff _ _).1 h).2)))
 try have hne := c14
 refine sq fun _ J16 => ?_
 refine RS.fl 0 V44 rfl C37 ?_
 refine RS.ld V37 B2 ?_
 refine RS.call E239 (group_Is _ (by omega) _) rfl (fun v17 w17 x17 A17 => ?_)
 replace hE := Ext.tr hE x17
 replace D0 := D0.ext x17
 replace B2 := B2.ext x17
 have zw17 := x17.size
 subst A17
 refine RS.nm ?_
 refine RS.o (D.not rfl) ?_
 refine RS.mvB rfl ?_
 refine RS.splitnot 29 rfl rfl (fun c18 => ?_) (fun c18 => ?_)
 ·refine RS.nm ?_
  have hG := c18
  refine RS.skT 29 ?_
  refine RS.skT 29 ?_
  refine RS.skT 29 ?_
  refine RS.pkt ?_
  refine RS.mvB rfl ?_
  refine RS.skT 34 ?_
  refine RS.skT 34 ?_
  refine RS.skT 34 ?_
  refine RS.skT 34 ?_
  refine RS.skT 34 ?_
  refine RS.skT 34 ?_
  refine RS.skT 34 ?_
  refine RS.skT 34 ?_
  refine RS.pkt ?_
  refine RS.asB rfl ?_
  refine nl J16 ?_
  refine C.ift rfl ?_
  refine sq fun _ J19 => ?_
  refine RS.asI rfl ?_
  refine nl J19 ?_
  refine wp_ret ?_
  refine retI rfl rfl ?_
  refine ⟨_, rfl, hE, congrArg (Value.int .i64) ?_⟩
  have hri : S.Rising o.n o.ids := (S.rising_iff _ _).2 ⟨hso, by have h7 := hap.1; rw [hnz] at h7; exact h7 (by omega)⟩
  refine S.check8 (by omega) hri (fun h => ?_)
  have := h.1
  simp_all
 refine RS.nm ?_
 have hG := c18
 refine RS.wt 29 ?_
 refine RS.fl 2 V44 rfl C22 ?_
 refine RS.wt 29 ?_
 refine RS.ld V22 B2 ?_
 refine RS.wt 29 ?_
 refine RS.o (D.gt rfl rfl) ?_
 refine RS.pk ?_
 refine RS.mvB rfl ?_
 refine RS.splitd 34 rfl rfl (fun c20 => ?_) (fun c20 => ?_)
 ·refine RS.nm ?_
  have hS := c20
  refine RS.skT 34 ?_
  refine RS.skT 34 ?_
  refine RS.skT 34 ?_
  refine RS.skT 34 ?_
  refine RS.skT 34 ?_
  refine RS.skT 34 ?_
  refine RS.skT 34 ?_
  refine RS.skT 34 ?_
  refine RS.pkt ?_
  refine RS.asB rfl ?_
  refine nl J16 ?_
  refine C.ift rfl ?_
  refine sq fun _ J21 => ?_
  refine RS.asI rfl ?_
  refine nl J21 ?_
  refine wp_ret ?_
  refine retI rfl rfl ?_
  refine ⟨_, rfl, hE, congrArg (Value.int .i64) ?_⟩
  have hri : S.Rising o.n o.ids := (S.rising_iff _ _).2 ⟨hso, by have h7 := hap.1; rw [hnz] at h7; exact h7 (by omega)⟩
  refine S.check8 (by omega) hri (fun h => ?_)
  have := h.2.1
  omega
 refine RS.nm ?_
 have hS := c20
 refine RS.wt 34 ?_
 refine RS.fl 9 V44 rfl C42 ?_
 refine RS.wt 34 ?_
 refine RS.fl 9 V42 rfl C37 ?_
 refine RS.wt 34 ?_
 refine RS.ld V37 B2 ?_
 refine RS.wt 34 ?_
 refine RS.fl 9 V44 rfl C42 ?_
 refine RS.wt 34 ?_
 refine RS.fl 10 V42 rfl C37 ?_
 refine RS.wt 34 ?_
 refine RS.ld V37 B2 ?_
 refine RS.wt 34 ?_
 refine RS.o (D.max2 rfl rfl) ?_
 refine RS.wt 34 ?_
 refine RS.o (D.ge rfl rfl) ?_
 refine RS.pk ?_
 refine RS.asB rfl ?_
 refine nl J16 ?_
 refine C.ifd rfl (fun c22 => ?_) (fun c22 => ?_)
 ·try have hQ := c22
  refine sq fun _ J23 => ?_
  refine RS.asI rfl ?_
  refine nl J23 ?_
  refine wp_ret ?_
  refine retI rfl rfl ?_
  refine ⟨_, rfl, hE, congrArg (Value.int .i64) ?_⟩
  have hri : S.Rising o.n o.ids := (S.rising_iff _ _).2 ⟨hso, by have h7 := hap.1; rw [hnz] at h7; exact h7 (by omega)⟩
  refine S.check8 (by omega) hri (fun h => ?_)
  have h1 := h.2.2.1
  have h2 := h.2.2.2.1
  split at hQ <;> omega
 try have hQ := c22
 refine wp_skip ?_
 refine J3 _ _ ?_
 refine sq fun _ J24 => ?_
 refine RS.fl 3 V44 rfl C40 ?_
 refine RS.la V40 C40 B2 6 ?_
 refine RS.call E85 (checkAct _ _ _ _ _ _ o3 o4 o5 o6 (by omega) (by omega) _) rfl (fun v25 w25 x25 A25 => ?_)
 replace hE := Ext.tr hE x25
 replace D0 := D0.ext x25
 replace B2 := B2.ext x25
 have zw25 := x25.size
 subst A25
 refine RS.nm ?_
 refine RS.asI rfl ?_
 refine nl J24 ?_
 refine wp_ret ?_
 refine retI rfl rfl ?_
 refine ⟨_, rfl, hE, congrArg (Value.int .i64) ?_⟩
 have hri : S.Rising o.n o.ids := (S.rising_iff _ _).2 ⟨hso, by have h7 := hap.1; rw [hnz] at h7; exact h7 (by omega)⟩
 refine S.checkA (by omega) hri (by simpa using hG) (by omega) ?_ ?_ <;> (split at hQ <;> omega)
theorem C44 : Tryz.prog.cellsOf 44 = 11 := by kernel_rfl
theorem T42 : TI Tryz.prog 42 2 8 [.int .u32 0, .int .u32 0] := by
 have h : (Tryz.prog.info? 42).map (fun i => (i.size, i.bytes, i.zero)) = some (2, 8, some (.agg #[.int .u32 0, .int .u32 0])) := by kernel_rfl
 exact TI.of h rfl
theorem F42 : SI Tryz.prog 42 [(0, 1), (1, 1)] := ⟨_, V42, by kernel_rfl, by kernel_rfl⟩
theorem E39 : Enters Tryz.prog 39 := .mk Tryz.func39 (by kernel_rfl) rfl
theorem E219 : Enters Tryz.prog 219 := .mk Tryz.func219 (by kernel_rfl) rfl
theorem E220 : Enters Tryz.prog 220 := .mk Tryz.func220 (by kernel_rfl) rfl
theorem E221 : Enters Tryz.prog 221 := .mk Tryz.func221 (by kernel_rfl) rfl
theorem E222 : Enters Tryz.prog 222 := .mk Tryz.func222 (by kernel_rfl) rfl
theorem checkOR {S0 : Nat → Prop} (o : S.OpV) (ho : o.ok) (pa : Option Addr) (pc : Nat) (w : World) (D0 : WRow .u8 32 S0 w pa o.n o.ids) (hc : o.n ≤ pc) :
  Calls Tryz.prog 165 #[.agg ([.int .u32 o.au, .slice pa o.n pc, .int .u64 o.st, .int .u8 o.k, .string o.key, .int .u8 o.vk, .int .i64 o.num, .int .u64 o.bits, .string o.t, .int .u32 o.e, .int .u32 o.s] : List Value).toArray] w (Ret w fun v _ => v = .int .i64 (S.checkE o)) := by
 replace D0 := D0.weaken (T := fun k => k < w.heap.size) (fun k hk _ => hk)
 have o1 := ho.au
 have o2 := ho.st
 have o3 := ho.k
 have o4 := ho.vk
 have o5 := ho.num
 have o6 := ho.bits
 have o7 := ho.e
 have o8 := ho.s
 have o9 := ho.n
 have o10 := ho.key
 have o11 := ho.t
 have hE := Ext.refl w
 refine enterU 39 Tryz.func165 rfl rfl ?_
 refine sq fun _ J1 => ?_
 refine RS.box rfl rfl (fun b2 w2 e2 s2 x2 B2 => ?_)
 refine RS.nm ?_
 replace hE := Ext.tr hE x2
 replace D0 := D0.ext x2
 have zw2 := x2.size
 refine RS.asI rfl ?_
 refine nl J1 ?_
 refine wx fun _ J3 => ?_
 refine sq fun _ J4 => ?_
 refine RS.fl 1 V44 rfl C38 ?_
 refine RS.ld V38 B2 ?_
 refine RS.ln V38 ?_
 refine RS.o (D.gt rfl rfl) ?_
 refine nl J4 ?_
 refine C.ifd rfl (fun c5 => ?_) (fun c5 => ?_)
 ·have h4 := c5
  refine sq fun _ J6 => ?_
  refine RS.asI rfl ?_
  refine nl J6 ?_
  refine wp_ret ?_
  refine retI rfl rfl ?_
  refine ⟨_, rfl, hE, congrArg (Value.int .i64) ?_⟩
  exact S.check4 (by omega)
 have h4 := c5
 refine wp_skip ?_
 refine J3 _ _ ?_
 refine wx fun _ J7 => ?_
 refine sq fun _ J8 => ?_
 refine RS.fl 1 V44 rfl C38 ?_
 refine RS.ld V38 B2 ?_
 refine RS.call E219 (risingR _ _ _ _ _ D0 hc (by omega)) rfl (fun v9 w9 x9 A9 => ?_)
 replace hE := Ext.tr hE x9
 replace D0 := D0.ext x9
 replace B2 := B2.ext x9
 have zw9 := x9.size
 subst A9
 refine RS.nm ?_
 refine RS.o (D.not rfl) ?_
 refine nl J8 ?_
 refine C.ifnot rfl (fun c10 => ?_) (fun c10 => ?_)
 ·have hri := of_decide_eq_false c10
  refine sq fun _ J11 => ?_
  refine RS.asI rfl ?_
  refine nl J11 ?_
  refine wp_ret ?_
  refine retI rfl rfl ?_
  refine ⟨_, rfl, hE, congrArg (Value.int .i64) ?_⟩
  exact S.check32 (by omega) hri
 have hri := of_decide_eq_true c10
 refine wp_skip ?_
 refine J7 _ _ ?_
 refine wx fun _ J12 => ?_
 refine sq fun _ J13 => ?_
 refine RS.fl 0 V44 rfl C37 ?_
 refine RS.ld V37 B2 ?_
 refine RS.call E220 (ref_Is _ (by omega) _) rfl (fun v14 w14 x14 A14 => ?_)
 replace hE := Ext.tr hE x14
 replace D0 := D0.ext x14
 replace B2 := B2.ext x14
 have zw14 := x14.size
 subst A14
 refine RS.nm ?_
 refine RS.o (D.not rfl) ?_
 refine RS.mvB rfl ?_
 refine RS.splitnot 15 rfl rfl (fun c15 => ?_) (fun c15 => ?_)
 ·refine RS.nm ?_
  have hG := c15
  refine RS.skT 15 ?_
  refine RS.skT 15 ?_
  refine RS.skT 15 ?_
  refine RS.pkt ?_
  refine RS.mvB rfl ?_
  refine RS.skT 20 ?_
  refine RS.skT 20 ?_
  refine RS.skT 20 ?_
  refine RS.skT 20 ?_
  refine RS.pkt ?_
  refine RS.mvB rfl ?_
  refine RS.skT 26 ?_
  refine RS.skT 26 ?_
  refine RS.skT 26 ?_
  refine RS.skT 26 ?_
  refine RS.skT 26 ?_
  refine RS.pkt ?_
  refine RS.mvB rfl ?_
  refine RS.skT 33 ?_
  refine RS.skT 33 ?_
  refine RS.skT 33 ?_
  refine RS.skT 33 ?_
  refine RS.skT 33 ?_
  refine RS.pkt ?_
  refine nl J13 ?_
  refine C.ift rfl ?_
  refine sq fun _ J16 => ?_
  refine RS.asI rfl ?_
  refine nl J16 ?_
  refine wp_ret ?_
  refine retI rfl rfl ?_
  refine ⟨_, rfl, hE, congrArg (Value.int .i64) ?_⟩
  refine S.check8 (by omega) hri (fun h => ?_)
  have := h.1
  simp_all
 refine RS.nm ?_
 have hG := c15
 refine RS.wt 15 ?_
 refine RS.fl 2 V44 rfl C22 ?_
 refine RS.wt 15 ?_
 refine RS.ld V22 B2 ?_
 refine RS.wt 15 ?_
 refine RS.o (D.gt rfl rfl) ?_
 refine RS.pk ?_
 refine RS.mvB rfl ?_
 refine RS.splitd 20 rfl rfl (fun c17 => ?_) (fun c17 => ?_)
 ·refine RS.nm ?_
  have hS := c17
  refine RS.skT 20 ?_
  refine RS.skT 20 ?_
  refine RS.skT 20 ?_
  refine RS.skT 20 ?_
  refine RS.pkt ?_
  refine RS.mvB rfl ?_
  refine RS.skT 26 ?_
  refine RS.skT 26 ?_
  refine RS.skT 26 ?_
  refine RS.skT 26 ?_
  refine RS.skT 26 ?_
  refine RS.pkt ?_
  refine RS.mvB rfl ?_
  refine RS.skT 33 ?_
  refine RS.skT 33 ?_
  refine RS.skT 33 ?_
  refine RS.skT 33 ?_
  refine RS.skT 33 ?_
  refine RS.pkt ?_
  refine nl J13 ?_
  refine C.ift rfl ?_
  refine sq fun _ J18 => ?_
  refine RS.asI rfl ?_
  refine nl J18 ?_
  refine wp_ret ?_
  refine retI rfl rfl ?_
  refine ⟨_, rfl, hE, congrArg (Value.int .i64) ?_⟩
  refine S.check8 (by omega) hri (fun h => ?_)
  have := h.2.1
  omega
 refine RS.nm ?_
 have hS := c17
 refine RS.wt 20 ?_
 refine RS.fl 3 V44 rfl C40 ?_
 refine RS.wt 20 ?_
 refine RS.la V40 C40 B2 6 ?_
 refine RS.wt 20 ?_
 refine RS.call E221 (checkActR _ _ _ _ _ _ o3 o4 o5 o6 (by omega) (by omega) _) rfl (fun v19 w19 x19 A19 => ?_)
 replace hE := Ext.tr hE x19
 replace D0 := D0.ext x19
 replace B2 := B2.ext x19
 have zw19 := x19.size
 subst A19
 refine RS.nm ?_
 refine RS.wt 20 ?_
 refine RS.o (D.ne rfl rfl) ?_
 refine RS.pk ?_
 refine RS.mvB rfl ?_
 refine RS.splitn 26 rfl rfl (fun c20 => ?_) (fun c20 => ?_)
 ·refine RS.nm ?_
  have hA := c20
  refine RS.skT 26 ?_
  refine RS.skT 26 ?_
  refine RS.skT 26 ?_
  refine RS.skT 26 ?_
  refine RS.skT 26 ?_
  refine RS.pkt ?_
  refine RS.mvB rfl ?_
  refine RS.skT 33 ?_
  refine RS.skT 33 ?_
  refine RS.skT 33 ?_
  refine RS.skT 33 ?_
  refine RS.skT 33 ?_
  refine RS.pkt ?_
  refine nl J13 ?_
  refine C.ift rfl ?_
  refine sq fun _ J21 => ?_
  refine RS.asI rfl ?_
  refine nl J21 ?_
  refine wp_ret ?_
  refine retI rfl rfl ?_
  refine ⟨_, rfl, hE, congrArg (Value.int .i64) ?_⟩
  refine S.check8 (by omega) hri (fun h => ?_)
  exact hA (S.actE_zero.2 h.2.2.2.2)
 refine RS.nm ?_
 have hA := c20
 refine RS.wt 26 ?_
 refine RS.fl 9 V44 rfl C42 ?_
 refine RS.wt 26 ?_
 refine RS.fl 9 V42 rfl C37 ?_
 refine RS.wt 26 ?_
 refine RS.ld V37 B2 ?_
 refine RS.wt 26 ?_
 refine RS.call E222 (ref_Exponent _ (by omega) _) rfl (fun v22 w22 x22 A22 => ?_)
 replace hE := Ext.tr hE x22
 replace D0 := D0.ext x22
 replace B2 := B2.ext x22
 have zw22 := x22.size
 subst A22
 refine RS.nm ?_
 refine RS.wt 26 ?_
 refine RS.o (D.not rfl) ?_
 refine RS.pk ?_
 refine RS.mvB rfl ?_
 refine RS.splitnot 33 rfl rfl (fun c23 => ?_) (fun c23 => ?_)
 ·refine RS.nm ?_
  have hQ := of_decide_eq_false c23
  refine RS.skT 33 ?_
  refine RS.skT 33 ?_
  refine RS.skT 33 ?_
  refine RS.skT 33 ?_
  refine RS.skT 33 ?_
  refine RS.pkt ?_
  refine nl J13 ?_
  refine C.ift rfl ?_
  refine sq fun _ J24 => ?_
  refine RS.asI rfl ?_
  refine nl J24 ?_
  refine wp_ret ?_
  refine retI rfl rfl ?_
  refine ⟨_, rfl, hE, congrArg (Value.int .i64) ?_⟩
  refine S.check8 (by omega) hri (fun h => ?_)
  have := h.2.2.1
  omega
 refine RS.nm ?_
 have hQ := of_decide_eq_true c23
 refine RS.wt 33 ?_
 refine RS.fl 9 V44 rfl C42 ?_
 refine RS.wt 33 ?_
 refine RS.fl 10 V42 rfl C37 ?_
 refine RS.wt 33 ?_
 refine RS.ld V37 B2 ?_
 refine RS.wt 33 ?_
 refine RS.call E222 (ref_Exponent _ (by omega) _) rfl (fun v25 w25 x25 A25 => ?_)
 replace hE := Ext.tr hE x25
 replace D0 := D0.ext x25
 replace B2 := B2.ext x25
 have zw25 := x25.size
 subst A25
 refine RS.nm ?_
 refine RS.wt 33 ?_
 refine RS.o (D.not rfl) ?_
 refine RS.pk ?_
 refine nl J13 ?_
 refine C.ifnot rfl (fun c26 => ?_) (fun c26 => ?_)
 ·try have hZ := of_decide_eq_false c26
  refine sq fun _ J27 => ?_
  refine RS.asI rfl ?_
  refine nl J27 ?_
  refine wp_ret ?_
  refine retI rfl rfl ?_
  refine ⟨_, rfl, hE, congrArg (Value.int .i64) ?_⟩
  refine S.check8 (by omega) hri (fun h => ?_)
  have := h.2.2.2.1
  omega
 try have hZ := of_decide_eq_true c26
 refine wp_skip ?_
 refine J12 _ _ ?_
 refine sq fun _ J28 => ?_
 refine RS.asI rfl ?_
 refine nl J28 ?_
 refine wp_ret ?_
 refine retI rfl rfl ?_
 refine ⟨_, rfl, hE, congrArg (Value.int .i64) ?_⟩
 exact S.check0 (by omega) hri ⟨by simpa using hG, by omega, hQ, hZ, S.actE_zero.1 hA⟩
theorem sameO {S0 S1 : Nat → Prop} (o u : S.OpV) (ho : o.ok) (hu : u.ok) (pa qa : Option Addr) (pc qc : Nat) (w : World) (D0 : WRow .u8 32 S0 w pa o.n o.ids) (D1 : WRow .u8 32 S1 w qa u.n u.ids) :
  Calls Tryz.prog 37 #[.agg ([.int .u32 o.au, .slice pa o.n pc, .int .u64 o.st, .int .u8 o.k, .string o.key, .int .u8 o.vk, .int .i64 o.num, .int .u64 o.bits, .string o.t, .int .u32 o.e, .int .u32 o.s] : List Value).toArray, .agg ([.int .u32 u.au, .slice qa u.n qc, .int .u64 u.st, .int .u8 u.k, .string u.key, .int .u8 u.vk, .int .i64 u.num, .int .u64 u.bits, .string u.t, .int .u32 u.e, .int .u32 u.s] : List Value).toArray] w (Ret w fun v _ => v = .bool (decide (S.SameO o u))) := by
 have h1 := ho.n
 have h2 := hu.n
 have hE := Ext.refl w
 refine enterU 36 Tryz.func37 rfl rfl ?_
 refine sq fun _ J1 => ?_
 refine RS.box rfl rfl (fun b2 w2 e2 s2 x2 B2 => ?_)
 refine RS.nm ?_
 replace hE := Ext.tr hE x2
 replace D0 := D0.ext x2
 replace D1 := D1.ext x2
 have zw2 := x2.size
 refine RS.box rfl rfl (fun b3 w3 e3 s3 x3 B3 => ?_)
 refine RS.nm ?_
 replace hE := Ext.tr hE x3
 replace D0 := D0.ext x3
 replace D1 := D1.ext x3
 replace B2 := B2.ext x3
 have zw3 := x3.size
 refine RS.asB rfl ?_
 refine nl J1 (sq fun _ J4 => ?_)
 refine RS.fl 0 V44 rfl C37 ?_
 refine RS.ld V37 B2 ?_
 refine RS.fl 0 V44 rfl C37 ?_
 refine RS.ld V37 B3 ?_
 refine RS.o (D.eq rfl rfl) ?_
 refine RS.mvB rfl ?_
 refine RS.splite 10 rfl rfl (fun c5 => ?_) (fun c5 => ?_)
 ·refine RS.nm ?_
  have e1 := c5
  refine RS.wt 10 ?_
  refine RS.fl 1 V44 rfl C38 ?_
  refine RS.wt 10 ?_
  refine RS.ld V38 B2 ?_
  refine RS.wt 10 ?_
  refine RS.fl 1 V44 rfl C38 ?_
  refine RS.wt 10 ?_
  refine RS.ld V38 B3 ?_
  refine RS.wt 10 ?_
  refine RS.call E39 (sameIDs _ _ _ _ _ _ _ _ _ D0 D1 (by omega) (by omega)) rfl (fun v6 w6 x6 A6 => ?_)
  replace hE := Ext.tr hE x6
  replace D0 := D0.ext x6
  replace D1 := D1.ext x6
  replace B2 := B2.ext x6
  replace B3 := B3.ext x6
  have zw6 := x6.size
  subst A6
  refine RS.nm ?_
  refine RS.pk ?_
  refine RS.mvB rfl ?_
  refine RS.splitb 17 rfl rfl (fun c7 => ?_) (fun c7 => ?_)
  ·refine RS.nm ?_
   have e2 := of_decide_eq_true c7
   refine RS.wt 17 ?_
   refine RS.fl 2 V44 rfl C22 ?_
   refine RS.wt 17 ?_
   refine RS.ld V22 B2 ?_
   refine RS.wt 17 ?_
   refine RS.fl 2 V44 rfl C22 ?_
   refine RS.wt 17 ?_
   refine RS.ld V22 B3 ?_
   refine RS.wt 17 ?_
   refine RS.o (D.eq rfl rfl) ?_
   refine RS.pk ?_
   refine RS.mvB rfl ?_
   refine RS.splite 24 rfl rfl (fun c8 => ?_) (fun c8 => ?_)
   ·refine RS.nm ?_
    have e3 := c8
    refine RS.wt 24 ?_
    refine RS.fl 3 V44 rfl C40 ?_
    refine RS.wt 24 ?_
    refine RS.la V40 C40 B2 6 ?_
    refine RS.wt 24 ?_
    refine RS.fl 3 V44 rfl C40 ?_
    refine RS.wt 24 ?_
    refine RS.la V40 C40 B3 6 ?_
    refine RS.wt 24 ?_
    refine RS.o (D.eqA rfl rfl V40 rfl (by kernel_rfl) (by kernel_rfl) (by kernel_rfl)) ?_
    refine RS.pk ?_
    refine RS.mvB rfl ?_
    refine RS.splitb 31 rfl rfl (fun c9 => ?_) (fun c9 => ?_)
    ·refine RS.nm ?_
     have e4 := of_decide_eq_true ((S.eqA6 _ _ _ _ _ _ _ _ _ _ _ _).symm.trans c9)
     refine RS.wt 31 ?_
     refine RS.fl 9 V44 rfl C42 ?_
     refine RS.wt 31 ?_
     refine RS.la V42 C42 B2 2 ?_
     refine RS.wt 31 ?_
     refine RS.fl 9 V44 rfl C42 ?_
     refine RS.wt 31 ?_
     refine RS.la V42 C42 B3 2 ?_
     refine RS.wt 31 ?_
     refine RS.o (D.eqA rfl rfl V42 rfl (by kernel_rfl) (by kernel_rfl) (by kernel_rfl)) ?_
     refine RS.pk ?_
     refine RS.asB rfl ?_
     refine nl J4 ?_
     refine wp_ret ?_
     refine retB rfl rfl ?_
     refine ⟨_, rfl, hE, congrArg Value.bool ?_⟩
     refine Eq.trans (S.eqS2 _ _ _ _) (decide_eq_decide.2 ?_)
     exact ⟨fun h => ⟨e1, e2, e3, e4, h⟩, fun h => h.2.2.2.2⟩
    refine RS.nm ?_
    have e4 := of_decide_eq_false ((S.eqA6 _ _ _ _ _ _ _ _ _ _ _ _).symm.trans c9)
    refine RS.skF 31 ?_
    refine RS.skF 31 ?_
    refine RS.skF 31 ?_
    refine RS.skF 31 ?_
    refine RS.skF 31 ?_
    refine RS.pkf ?_
    refine RS.asB rfl ?_
    refine nl J4 ?_
    refine wp_ret ?_
    refine retB rfl rfl ?_
    refine ⟨_, rfl, hE, congrArg Value.bool ?_⟩
    refine (decide_eq_false (fun h => ?_)).symm
    exact absurd h.2.2.2.1 e4
   refine RS.nm ?_
   have e3 := c8
   refine RS.skF 24 ?_
   refine RS.skF 24 ?_
   refine RS.skF 24 ?_
   refine RS.skF 24 ?_
   refine RS.skF 24 ?_
   refine RS.pkf ?_
   refine RS.mvB rfl ?_
   refine RS.skF 31 ?_
   refine RS.skF 31 ?_
   refine RS.skF 31 ?_
   refine RS.skF 31 ?_
   refine RS.skF 31 ?_
   refine RS.pkf ?_
   refine RS.asB rfl ?_
   refine nl J4 ?_
   refine wp_ret ?_
   refine retB rfl rfl ?_
   refine ⟨_, rfl, hE, congrArg Value.bool ?_⟩
   refine (decide_eq_false (fun h => ?_)).symm
   exact absurd h.2.2.1 e3
  refine RS.nm ?_
  have e2 := of_decide_eq_false c7
  refine RS.skF 17 ?_
  refine RS.skF 17 ?_
  refine RS.skF 17 ?_
  refine RS.skF 17 ?_
  refine RS.skF 17 ?_
  refine RS.pkf ?_
  refine RS.mvB rfl ?_
  refine RS.skF 24 ?_
  refine RS.skF 24 ?_
  refine RS.skF 24 ?_
  refine RS.skF 24 ?_
  refine RS.skF 24 ?_
  refine RS.pkf ?_
  refine RS.mvB rfl ?_
  refine RS.skF 31 ?_
  refine RS.skF 31 ?_
  refine RS.skF 31 ?_
  refine RS.skF 31 ?_
  refine RS.skF 31 ?_
  refine RS.pkf ?_
  refine RS.asB rfl ?_
  refine nl J4 ?_
  refine wp_ret ?_
  refine retB rfl rfl ?_
  refine ⟨_, rfl, hE, congrArg Value.bool ?_⟩
  refine (decide_eq_false (fun h => ?_)).symm
  exact absurd h.2.1 e2
 refine RS.nm ?_
 have e1 := c5
 refine RS.skF 10 ?_
 refine RS.skF 10 ?_
 refine RS.skF 10 ?_
 refine RS.skF 10 ?_
 refine RS.skF 10 ?_
 refine RS.pkf ?_
 refine RS.mvB rfl ?_
 refine RS.skF 17 ?_
 refine RS.skF 17 ?_
 refine RS.skF 17 ?_
 refine RS.skF 17 ?_
 refine RS.skF 17 ?_
 refine RS.pkf ?_
 refine RS.mvB rfl ?_
 refine RS.skF 24 ?_
 refine RS.skF 24 ?_
 refine RS.skF 24 ?_
 refine RS.skF 24 ?_
 refine RS.skF 24 ?_
 refine RS.pkf ?_
 refine RS.mvB rfl ?_
 refine RS.skF 31 ?_
 refine RS.skF 31 ?_
 refine RS.skF 31 ?_
 refine RS.skF 31 ?_
 refine RS.skF 31 ?_
 refine RS.pkf ?_
 refine RS.asB rfl ?_
 refine nl J4 ?_
 refine wp_ret ?_
 refine retB rfl rfl ?_
 refine ⟨_, rfl, hE, congrArg Value.bool ?_⟩
 refine (decide_eq_false (fun h => ?_)).symm
 exact absurd h.1 e1
theorem E188 : Enters Tryz.prog 188 := .mk Tryz.func188 (by kernel_rfl) rfl
theorem E227 : Enters Tryz.prog 227 := .mk Tryz.func227 (by kernel_rfl) rfl
theorem E229 : Enters Tryz.prog 229 := .mk Tryz.func229 (by kernel_rfl) rfl
theorem E240 : Enters Tryz.prog 240 := .mk Tryz.func240 (by kernel_rfl) rfl
theorem E242 : Enters Tryz.prog 242 := .mk Tryz.func242 (by kernel_rfl) rfl
theorem messageO {S0 : Nat → Prop} (o : S.OpV) (ho : o.ok) (pa : Option Addr) (pc : Nat) (w : World) (D0 : WRow .u8 32 S0 w pa o.n o.ids) (hc : o.n ≤ pc) :
  Calls Tryz.prog 189 #[.agg ([.int .u32 o.au, .slice pa o.n pc, .int .u64 o.st, .int .u8 o.k, .string o.key, .int .u8 o.vk, .int .i64 o.num, .int .u64 o.bits, .string o.t, .int .u32 o.e, .int .u32 o.s] : List Value).toArray] w (Ret w fun v w' => ∃ a' n' c' xs, v = .tuple #[.slice a' n' c', .int .i64 (S.checkE o.bare)] ∧ IOwn w.heap.size w' 5 .u8 a' n' c' xs ∧ xs = if S.checkE o.bare = 0 then S.msgS o else []) := by
 replace D0 := D0.weaken (T := fun k => k < w.heap.size) (fun k hk _ => hk)
 have o1 := ho.au
 have o2 := ho.st
 have o3 := ho.k
 have o4 := ho.vk
 have o5 := ho.num
 have o6 := ho.bits
 have o7 := ho.e
 have o8 := ho.s
 have o9 := ho.n
 have o10 := ho.key
 have o11 := ho.t
 have e1 := S.numS_len o.au
 have e2 := S.numS_len o.st
 have e3 := S.numS_len (o.n : Int)
 have e4 := D0.len
 have e5 := S.numS_len (o.key.size : Int)
 have e6 := S.valS_len o.vk o.num o.bits o.t o11
 have e7 := S.numS_len o.e
 have e8 := S.numS_len o.s
 have hE := Ext.refl w
 refine enterU 70 Tryz.func189 rfl rfl ?_
 refine sq fun _ J1 => ?_
 refine RS.box rfl rfl (fun b2 w2 e2 s2 x2 B2 => ?_)
 refine RS.nm ?_
 replace hE := Ext.tr hE x2
 replace D0 := D0.ext x2
 have zw2 := x2.size
 refine RS.asS rfl ?_
 refine RS.asI rfl ?_
 refine nl J1 (sq fun _ J3 => ?_)
 refine RS.o (D.buildS T42 F42 (ps := []) rfl rfl) ?_
 refine RS.fl 9 V44 rfl C42 ?_
 refine RS.sa C42 B2 (fun w4 y4 N4 => ?_)
 replace hE := hE.trans (y4.belo)
 replace D0 := D0.sto y4
 have zw4 := y4.size
 replace B2 := N4
 refine nl J3 ?_
 refine wx fun _ J5 => ?_
 refine sq fun _ J6 => ?_
 refine RS.la V44 C44 B2 11 ?_
 refine RS.call E188 (checkO o.bare (S.OpV.bare_ok ho) _ _ _ D0 hc) rfl (fun v7 w7 x7 A7 => ?_)
 replace hE := Ext.tr hE x7
 replace D0 := D0.ext x7
 replace B2 := B2.ext x7
 have zw7 := x7.size
 subst A7
 refine RS.nm ?_
 refine RS.asI rfl ?_
 refine nl J6 (sq fun _ J8 => ?_)
 refine RS.mvI rfl ?_
 refine RS.o (D.ne rfl rfl) ?_
 refine nl J8 ?_
 refine C.ifn rfl (fun c9 => ?_) (fun c9 => ?_)
 ·have hnz := c9
  refine sq fun _ J10 => ?_
  refine RS.mvI rfl ?_
  refine RS.asS rfl ?_
  refine RS.asI rfl ?_
  refine nl J10 ?_
  refine wp_ret ?_
  refine retSI ?_
  exact ⟨_, rfl, hE, none, 0, 0, [], rfl, IOwn.nil _ _ _ _, (if_neg hnz).symm⟩
 have hz := c9
 obtain ⟨q1, q2, q3⟩ := S.check_zero.1 hz
 have hfa := q3.2.2.2.2
 have q4 : o.n ≤ 4 := q1
 refine wp_skip ?_
 refine J5 _ _ ?_
 refine sq fun _ J11 => ?_
 refine RS.fl 1 V44 rfl C38 ?_
 refine RS.ld V38 B2 ?_
 refine RS.call E240 (idsW _ _ _ _ _ D0 hc (by have : o.n ≤ 4 := q1; omega) q2) rfl (fun v12 w12 x12 A12 => ?_)
 replace hE := Ext.tr hE x12
 replace D0 := D0.ext x12
 replace B2 := B2.ext x12
 have zw12 := x12.size
 obtain ⟨a12, n12, c12, rfl, OP⟩ := A12
 have hpc := OP.own.pre
 refine RS.nm ?_
 refine RS.move (v := .tuple _) rfl ?_
 refine RS.exS ?_
 refine RS.exI ?_
 refine RS.asS rfl ?_
 refine RS.asI rfl ?_
 refine nl J11 ?_
 refine wx fun _ J13 => ?_
 refine regionM 13 [25, 26, 27, 28, 29, 30, 31, 32, 33, 34, 35, 36, 37] (fun i v w => match i with | 0 => ∃ a n c, v = .slice a n c ∧ IRow .u8 (fun _ => True) w a n [111] ∧ n ≤ c | 1 => v = .pointer (some ⟨b2, 0, none⟩) | 2 => v = .int .u32 o.au | 3 => v = .int .u64 o.au | 4 => ∃ a n c, v = .slice a n c ∧ IRow .u8 (fun _ => True) w a n (S.numS o.au) ∧ n ≤ c | 5 => v = .slice a12 n12 c12 | 6 => v = .pointer (some ⟨b2, 2, none⟩) | 7 => v = .int .u64 o.st | 8 => ∃ a n c, v = .slice a n c ∧ IRow .u8 (fun _ => True) w a n (S.numS o.st) ∧ n ≤ c | 9 => v = .pointer (some ⟨b2, 3, none⟩) | 10 => v = .pointer (some ⟨b2, 3, none⟩) | 11 => v = .int .u8 o.k | 12 => ∃ a n c, v = .slice a n c ∧ IRow .u8 (fun _ => True) w a n [o.k] ∧ n ≤ c | _ => True) [(13, .e), (14, .e), (15, .q)] mixed (by kernel_rfl) ?_ (fun w14 x14 => ?_) (fun f w15 x15 hF => ?_)
 ·intro i v w w2 h x
  match i, h with
  | 0, h => (obtain ⟨a, n, c, h1, h2, h3⟩ := h; exact ⟨a, n, c, h1, h2.ext x, h3⟩)
  | 1, h => exact h
  | 2, h => exact h
  | 3, h => exact h
  | 4, h => (obtain ⟨a, n, c, h1, h2, h3⟩ := h; exact ⟨a, n, c, h1, h2.ext x, h3⟩)
  | 5, h => exact h
  | 6, h => exact h
  | 7, h => exact h
  | 8, h => (obtain ⟨a, n, c, h1, h2, h3⟩ := h; exact ⟨a, n, c, h1, h2.ext x, h3⟩)
  | 9, h => exact h
  | 10, h => exact h
  | 11, h => exact h
  | 12, h => (obtain ⟨a, n, c, h1, h2, h3⟩ := h; exact ⟨a, n, c, h1, h2.ext x, h3⟩)
  | _ + 13, h => trivial
 ·replace hE := Ext.tr hE x14
  replace D0 := D0.ext x14
  replace B2 := B2.ext x14
  replace OP := OP.ext x14
  have zw14 := x14.size
  refine ⟨?_, ?_, ?_, ?_, ?_, ?_, ?_, ?_, ?_, ?_, ?_, ?_, ?_, trivial⟩
  ·intro f w16 x16 hd
   replace hE := Ext.tr hE x16
   replace D0 := D0.ext x16
   replace B2 := B2.ext x16
   replace OP := OP.ext x16
   have zw16 := x16.size
   refine RS.nmF ?_
   dsimp only [nth]
   refine RS.buildSlice (xs := [.const (.int .u8 111)]) (vs := [.int _ _]) (cs := [.int _ _]) V51 T5 (by decide) rfl rfl rfl rfl rfl rfl (by intro v hv; simp only [List.mem_cons, List.not_mem_nil, or_false] at hv; subst hv; rfl) rfl (fun b17 w17 e17 s17 x17 B17 => ?_)
   refine RS.nm ?_
   replace hE := Ext.tr hE x17
   replace D0 := D0.ext x17
   replace B2 := B2.ext x17
   replace OP := OP.ext x17
   have zw17 := x17.size
   have Q1 : IRow .u8 (fun k => k = b17) w17 (some ⟨b17, 0, none⟩) 1 [_] := IRow.of_blk B17 rfl rfl rfl (.cons (by simp only [lim]; omega) (.nil _))
   refine RS.nil ?_
   refine ⟨.slice (some ⟨b17, 0, none⟩) 1 1, ?_, x17, ?_⟩
   ·first | (simp only [FF, upd, List.map_cons, List.map_nil, List.set_cons_succ, List.set_cons_zero, List.getD_cons_zero, List.getD_cons_succ]; done) | (simp only [FF, upd, List.map_cons, List.map_nil, List.set_cons_succ, List.set_cons_zero, List.getD_cons_zero, List.getD_cons_succ]; rfl)
   exact ⟨_, _, _, rfl, Q1.weaken (fun _ _ _ => trivial), Nat.le_refl _⟩
  ·intro f w18 x18 hd
   replace hE := Ext.tr hE x18
   replace D0 := D0.ext x18
   replace B2 := B2.ext x18
   replace OP := OP.ext x18
   have zw18 := x18.size
   refine RS.nmF ?_
   dsimp only [nth]
   refine RS.fl 0 V44 rfl C37 ?_
   refine RS.nil ?_
   refine ⟨.pointer (some ⟨b2, 0, none⟩), ?_, (Ext.refl _), ?_⟩
   ·first | (simp only [FF, upd, List.map_cons, List.map_nil, List.set_cons_succ, List.set_cons_zero, List.getD_cons_zero, List.getD_cons_succ]; done) | (simp only [FF, upd, List.map_cons, List.map_nil, List.set_cons_succ, List.set_cons_zero, List.getD_cons_zero, List.getD_cons_succ]; rfl)
   rfl
  ·intro f w19 x19 hd
   replace hE := Ext.tr hE x19
   replace D0 := D0.ext x19
   replace B2 := B2.ext x19
   replace OP := OP.ext x19
   have zw19 := x19.size
   have h19_1 : (f 26) = .pointer (some ⟨b2, 0, none⟩) := hd 1 (by decide +kernel)
   refine RS.nmF ?_
   rw [h19_1]
   dsimp only [nth]
   refine RS.ld V37 B2 ?_
   refine RS.nil ?_
   refine ⟨.int .u32 o.au, ?_, (Ext.refl _), ?_⟩
   ·first | (simp only [FF, upd, List.map_cons, List.map_nil, List.set_cons_succ, List.set_cons_zero, List.getD_cons_zero, List.getD_cons_succ, h19_1]; done) | (simp only [FF, upd, List.map_cons, List.map_nil, List.set_cons_succ, List.set_cons_zero, List.getD_cons_zero, List.getD_cons_succ, h19_1]; rfl)
   rfl
  ·intro f w20 x20 hd
   replace hE := Ext.tr hE x20
   replace D0 := D0.ext x20
   replace B2 := B2.ext x20
   replace OP := OP.ext x20
   have zw20 := x20.size
   have h20_2 : (f 27) = .int .u32 o.au := hd 2 (by decide +kernel)
   refine RS.nmF ?_
   rw [h20_2]
   dsimp only [nth]
   refine RS.o (D.conv rfl V37 V22 (W.u64 (by omega))) ?_
   refine RS.nil ?_
   refine ⟨.int .u64 o.au, ?_, (Ext.refl _), ?_⟩
   ·first | (simp only [FF, upd, List.map_cons, List.map_nil, List.set_cons_succ, List.set_cons_zero, List.getD_cons_zero, List.getD_cons_succ, h20_2]; done) | (simp only [FF, upd, List.map_cons, List.map_nil, List.set_cons_succ, List.set_cons_zero, List.getD_cons_zero, List.getD_cons_succ, h20_2]; rfl)
   rfl
  ·intro f w21 x21 hd
   replace hE := Ext.tr hE x21
   replace D0 := D0.ext x21
   replace B2 := B2.ext x21
   replace OP := OP.ext x21
   have zw21 := x21.size
   have h21_3 : (f 28) = .int .u64 o.au := hd 3 (by decide +kernel)
   refine RS.nmF ?_
   rw [h21_3]
   dsimp only [nth]
   refine RS.call E207 (numW _ (by omega) _) rfl (fun v22 w22 x22 A22 => ?_)
   replace hE := Ext.tr hE x22
   replace D0 := D0.ext x22
   replace B2 := B2.ext x22
   replace OP := OP.ext x22
   have zw22 := x22.size
   obtain ⟨a22, n22, c22, rfl, O1⟩ := A22
   refine RS.nm ?_
   refine RS.nil ?_
   refine ⟨.slice a22 n22 c22, ?_, x22, ?_⟩
   ·first | (simp only [FF, upd, List.map_cons, List.map_nil, List.set_cons_succ, List.set_cons_zero, List.getD_cons_zero, List.getD_cons_succ, h21_3]; done) | (simp only [FF, upd, List.map_cons, List.map_nil, List.set_cons_succ, List.set_cons_zero, List.getD_cons_zero, List.getD_cons_succ, h21_3]; rfl)
   exact ⟨_, _, _, rfl, O1.row.weaken (fun _ _ _ => trivial), O1.own.pre⟩
  ·intro f w23 x23 hd
   replace hE := Ext.tr hE x23
   replace D0 := D0.ext x23
   replace B2 := B2.ext x23
   replace OP := OP.ext x23
   have zw23 := x23.size
   refine RS.nmF ?_
   dsimp only [nth]
   refine RS.mvS rfl ?_
   refine RS.nil ?_
   refine ⟨.slice a12 n12 c12, ?_, (Ext.refl _), ?_⟩
   ·first | (simp only [FF, upd, List.map_cons, List.map_nil, List.set_cons_succ, List.set_cons_zero, List.getD_cons_zero, List.getD_cons_succ]; done) | (simp only [FF, upd, List.map_cons, List.map_nil, List.set_cons_succ, List.set_cons_zero, List.getD_cons_zero, List.getD_cons_succ]; rfl)
   rfl
  ·intro f w24 x24 hd
   replace hE := Ext.tr hE x24
   replace D0 := D0.ext x24
   replace B2 := B2.ext x24
   replace OP := OP.ext x24
   have zw24 := x24.size
   refine RS.nmF ?_
   dsimp only [nth]
   refine RS.fl 2 V44 rfl C22 ?_
   refine RS.nil ?_
   refine ⟨.pointer (some ⟨b2, 2, none⟩), ?_, (Ext.refl _), ?_⟩
   ·first | (simp only [FF, upd, List.map_cons, List.map_nil, List.set_cons_succ, List.set_cons_zero, List.getD_cons_zero, List.getD_cons_succ]; done) | (simp only [FF, upd, List.map_cons, List.map_nil, List.set_cons_succ, List.set_cons_zero, List.getD_cons_zero, List.getD_cons_succ]; rfl)
   rfl
  ·intro f w25 x25 hd
   replace hE := Ext.tr hE x25
   replace D0 := D0.ext x25
   replace B2 := B2.ext x25
   replace OP := OP.ext x25
   have zw25 := x25.size
   have h25_6 : (f 31) = .pointer (some ⟨b2, 2, none⟩) := hd 6 (by decide +kernel)
   refine RS.nmF ?_
   rw [h25_6]
   dsimp only [nth]
   refine RS.ld V22 B2 ?_
   refine RS.nil ?_
   refine ⟨.int .u64 o.st, ?_, (Ext.refl _), ?_⟩
   ·first | (simp only [FF, upd, List.map_cons, List.map_nil, List.set_cons_succ, List.set_cons_zero, List.getD_cons_zero, List.getD_cons_succ, h25_6]; done) | (simp only [FF, upd, List.map_cons, List.map_nil, List.set_cons_succ, List.set_cons_zero, List.getD_cons_zero, List.getD_cons_succ, h25_6]; rfl)
   rfl
  ·intro f w26 x26 hd
   replace hE := Ext.tr hE x26
   replace D0 := D0.ext x26
   replace B2 := B2.ext x26
   replace OP := OP.ext x26
   have zw26 := x26.size
   have h26_4 : ∃ a n c, (f 29) = .slice a n c ∧ IRow .u8 (fun _ => True) w26 a n (S.numS o.au) ∧ n ≤ c := hd 4 (by decide +kernel)
   have h26_7 : (f 32) = .int .u64 o.st := hd 7 (by decide +kernel)
   refine RS.nmF ?_
   rw [h26_7]
   dsimp only [nth]
   refine RS.call E207 (numW _ (by omega) _) rfl (fun v27 w27 x27 A27 => ?_)
   replace hE := Ext.tr hE x27
   replace D0 := D0.ext x27
   replace B2 := B2.ext x27
   replace OP := OP.ext x27
   have zw27 := x27.size
   obtain ⟨a27, n27, c27, rfl, O1⟩ := A27
   refine RS.nm ?_
   refine RS.nil ?_
   refine ⟨.slice a27 n27 c27, ?_, x27, ?_⟩
   ·first | (simp only [FF, upd, List.map_cons, List.map_nil, List.set_cons_succ, List.set_cons_zero, List.getD_cons_zero, List.getD_cons_succ, h26_7]; done) | (simp only [FF, upd, List.map_cons, List.map_nil, List.set_cons_succ, List.set_cons_zero, List.getD_cons_zero, List.getD_cons_succ, h26_7]; rfl)
   exact ⟨_, _, _, rfl, O1.row.weaken (fun _ _ _ => trivial), O1.own.pre⟩
  ·intro f w28 x28 hd
   replace hE := Ext.tr hE x28
   replace D0 := D0.ext x28
   replace B2 := B2.ext x28
   replace OP := OP.ext x28
   have zw28 := x28.size
   refine RS.nmF ?_
   dsimp only [nth]
   refine RS.fl 3 V44 rfl C40 ?_
   refine RS.nil ?_
   refine ⟨.pointer (some ⟨b2, 3, none⟩), ?_, (Ext.refl _), ?_⟩
   ·first | (simp only [FF, upd, List.map_cons, List.map_nil, List.set_cons_succ, List.set_cons_zero, List.getD_cons_zero, List.getD_cons_succ]; done) | (simp only [FF, upd, List.map_cons, List.map_nil, List.set_cons_succ, List.set_cons_zero, List.getD_cons_zero, List.getD_cons_succ]; rfl)
   rfl
  ·intro f w29 x29 hd
   replace hE := Ext.tr hE x29
   replace D0 := D0.ext x29
   replace B2 := B2.ext x29
   replace OP := OP.ext x29
   have zw29 := x29.size
   have h29_9 : (f 34) = .pointer (some ⟨b2, 3, none⟩) := hd 9 (by decide +kernel)
   refine RS.nmF ?_
   rw [h29_9]
   dsimp only [nth]
   refine RS.fl 3 V40 rfl C5 ?_
   refine RS.nil ?_
   refine ⟨.pointer (some ⟨b2, 3, none⟩), ?_, (Ext.refl _), ?_⟩
   ·first | (simp only [FF, upd, List.map_cons, List.map_nil, List.set_cons_succ, List.set_cons_zero, List.getD_cons_zero, List.getD_cons_succ, h29_9]; done) | (simp only [FF, upd, List.map_cons, List.map_nil, List.set_cons_succ, List.set_cons_zero, List.getD_cons_zero, List.getD_cons_succ, h29_9]; rfl)
   rfl
  ·intro f w30 x30 hd
   replace hE := Ext.tr hE x30
   replace D0 := D0.ext x30
   replace B2 := B2.ext x30
   replace OP := OP.ext x30
   have zw30 := x30.size
   have h30_10 : (f 35) = .pointer (some ⟨b2, 3, none⟩) := hd 10 (by decide +kernel)
   refine RS.nmF ?_
   rw [h30_10]
   dsimp only [nth]
   refine RS.ld V5 B2 ?_
   refine RS.nil ?_
   refine ⟨.int .u8 o.k, ?_, (Ext.refl _), ?_⟩
   ·first | (simp only [FF, upd, List.map_cons, List.map_nil, List.set_cons_succ, List.set_cons_zero, List.getD_cons_zero, List.getD_cons_succ, h30_10]; done) | (simp only [FF, upd, List.map_cons, List.map_nil, List.set_cons_succ, List.set_cons_zero, List.getD_cons_zero, List.getD_cons_succ, h30_10]; rfl)
   rfl
  intro f w31 x31 hd
  replace hE := Ext.tr hE x31
  replace D0 := D0.ext x31
  replace B2 := B2.ext x31
  replace OP := OP.ext x31
  have zw31 := x31.size
  have h31_11 : (f 36) = .int .u8 o.k := hd 11 (by decide +kernel)
  refine RS.nmF ?_
  rw [h31_11]
  dsimp only [nth]
  refine RS.buildSlice (xs := [.tmp 36]) (vs := [.int _ _]) (cs := [.int _ _]) V51 T5 (by decide) rfl rfl rfl rfl rfl rfl (by intro v hv; simp only [List.mem_cons, List.not_mem_nil, or_false] at hv; subst hv; rfl) rfl (fun b32 w32 e32 s32 x32 B32 => ?_)
  refine RS.nm ?_
  replace hE := Ext.tr hE x32
  replace D0 := D0.ext x32
  replace B2 := B2.ext x32
  replace OP := OP.ext x32
  have zw32 := x32.size
  have Q1 : IRow .u8 (fun k => k = b32) w32 (some ⟨b32, 0, none⟩) 1 [_] := IRow.of_blk B32 rfl rfl rfl (.cons (by simp only [lim]; omega) (.nil _))
  refine RS.nil ?_
  refine ⟨.slice (some ⟨b32, 0, none⟩) 1 1, ?_, x32, ?_⟩
  ·first | (simp only [FF, upd, List.map_cons, List.map_nil, List.set_cons_succ, List.set_cons_zero, List.getD_cons_zero, List.getD_cons_succ, h31_11]; done) | (simp only [FF, upd, List.map_cons, List.map_nil, List.set_cons_succ, List.set_cons_zero, List.getD_cons_zero, List.getD_cons_succ, h31_11]; rfl)
  exact ⟨_, _, _, rfl, Q1.weaken (fun _ _ _ => trivial), Nat.le_refl _⟩
 replace hE := Ext.tr hE x15
 replace D0 := D0.ext x15
 replace B2 := B2.ext x15
 replace OP := OP.ext x15
 have zw15 := x15.size
 obtain ⟨g0, g1, g2, g3, g4, g5, g6, g7, g8, g9, g10, g11, g12, _⟩ := hF
 replace g0 : ∃ a n c, (f 25) = .slice a n c ∧ IRow .u8 (fun _ => True) w15 a n [111] ∧ n ≤ c := g0
 replace g1 : (f 26) = .pointer (some ⟨b2, 0, none⟩) := g1
 replace g2 : (f 27) = .int .u32 o.au := g2
 replace g3 : (f 28) = .int .u64 o.au := g3
 replace g4 : ∃ a n c, (f 29) = .slice a n c ∧ IRow .u8 (fun _ => True) w15 a n (S.numS o.au) ∧ n ≤ c := g4
 replace g5 : (f 30) = .slice a12 n12 c12 := g5
 replace g6 : (f 31) = .pointer (some ⟨b2, 2, none⟩) := g6
 replace g7 : (f 32) = .int .u64 o.st := g7
 replace g8 : ∃ a n c, (f 33) = .slice a n c ∧ IRow .u8 (fun _ => True) w15 a n (S.numS o.st) ∧ n ≤ c := g8
 replace g9 : (f 34) = .pointer (some ⟨b2, 3, none⟩) := g9
 replace g10 : (f 35) = .pointer (some ⟨b2, 3, none⟩) := g10
 replace g11 : (f 36) = .int .u8 o.k := g11
 replace g12 : ∃ a n c, (f 37) = .slice a n c ∧ IRow .u8 (fun _ => True) w15 a n [o.k] ∧ n ≤ c := g12
 obtain ⟨a25, n25, c25, g0, Q25, l25⟩ := g0
 obtain ⟨a29, n29, c29, g4, Q29, l29⟩ := g4
 obtain ⟨a33, n33, c33, g8, Q33, l33⟩ := g8
 obtain ⟨a37, n37, c37, g12, Q37, l37⟩ := g12
 refine RX.norm (by simp only [FF, upd, List.map_cons, List.map_nil, List.set_cons_succ, List.set_cons_zero]; exact rfl) ?_
 rw [g0, g1, g2, g3, g4, g5, g6, g7, g8, g9, g10, g11, g12]
 refine RX.eff ?_
 refine RS.buildSlice (xs := [.tmp 25, .tmp 29, .tmp 30, .tmp 33, .tmp 37]) (vs := [.slice _ _ _, .slice _ _ _, .slice _ _ _, .slice _ _ _, .slice _ _ _]) (cs := [.slice _ _ _, .slice _ _ _, .slice _ _ _, .slice _ _ _, .slice _ _ _]) V284 T51 (by decide) rfl rfl rfl rfl rfl rfl (by intro v hv; simp only [List.mem_cons, List.not_mem_nil, or_false] at hv; rcases hv with rfl | rfl | rfl | rfl | rfl <;> rfl) rfl (fun b33 w33 e33 s33 x33 B33 => ?_)
 refine RS.nm ?_
 replace hE := Ext.tr hE x33
 replace D0 := D0.ext x33
 replace B2 := B2.ext x33
 replace OP := OP.ext x33
 replace Q25 := Q25.ext x33
 replace Q29 := Q29.ext x33
 replace Q33 := Q33.ext x33
 replace Q37 := Q37.ext x33
 have zw33 := x33.size
 refine RS.nil ⟨x33, ?_⟩
 refine RX.eff ?_
 refine RS.call E206 (concat [⟨a25, n25, c25, [111]⟩, ⟨a29, n29, c29, S.numS o.au⟩, ⟨a12, n12, c12, S.listS o.n o.ids⟩, ⟨a33, n33, c33, S.numS o.st⟩, ⟨a37, n37, c37, [o.k]⟩] _ _ _ _ (PRow.of_blkE B33 rfl rfl ⟨⟨_, Q25, l25⟩, ⟨_, Q29, l29⟩, ⟨_, OP.row, hpc⟩, ⟨_, Q33, l33⟩, ⟨_, Q37, l37⟩, trivial⟩) (show (5 : Nat) ≤ 1000 by decide) (by simp [cat, S.listS]; omega)) rfl (fun v34 w34 x34 A34 => ?_)
 replace hE := Ext.tr hE x34
 replace D0 := D0.ext x34
 replace B2 := B2.ext x34
 replace OP := OP.ext x34
 replace Q25 := Q25.ext x34
 replace Q29 := Q29.ext x34
 replace Q33 := Q33.ext x34
 replace Q37 := Q37.ext x34
 replace B33 := B33.ext x34
 have zw34 := x34.size
 obtain ⟨a34, n34, c34, rfl, O1⟩ := A34
 have ecat : cat [⟨a25, n25, c25, [111]⟩, ⟨a29, n29, c29, S.numS o.au⟩, ⟨a12, n12, c12, S.listS o.n o.ids⟩, ⟨a33, n33, c33, S.numS o.st⟩, ⟨a37, n37, c37, [o.k]⟩] = ([111] ++ S.numS o.au ++ S.listS o.n o.ids ++ S.numS o.st ++ [o.k]) := by simp [cat]
 rw [ecat] at O1
 replace O1 := O1.base (lo' := w2.heap.size) (fun k hk => by have := O1.lo k hk; omega)
 have hol0 := O1.len
 simp only [List.length_append, List.length_singleton, S.listS] at hol0
 refine RS.nm ?_
 refine RS.nil ⟨x34, ?_⟩
 refine RX.assign (v := .slice _ _ _) rfl ?_
 refine RX.nil (J13 _ _ ?_)
 refine wx fun _ J35 => ?_
 refine sq fun _ J36 => ?_
 refine RS.fl 3 V44 rfl C40 ?_
 refine RS.fl 3 V40 rfl C5 ?_
 refine RS.ld V5 B2 ?_
 refine RS.o (D.eq rfl rfl) ?_
 refine nl J36 ?_
 refine C.ife rfl (fun c37 => ?_) (fun c37 => ?_)
 ·have hk := c37
  refine sq fun _ J38 => ?_
  refine RS.mvS rfl ?_
  refine RS.asS rfl ?_
  refine RS.asI rfl ?_
  refine nl J38 ?_
  refine wp_ret ?_
  refine retSI ?_
  have em : S.msgS o = ([111] ++ S.numS o.au ++ S.listS o.n o.ids ++ S.numS o.st ++ [o.k]) := by unfold S.msgS; rw [if_pos hk, List.append_nil]
  exact ⟨_, rfl, hE, _, _, _, _, by rw [hz], O1.base (fun k hk => by have := O1.lo k hk; omega), by rw [if_pos hz, em]⟩
 have hk := c37
 refine wp_skip ?_
 refine J35 _ _ ?_
 refine sq fun _ J39 => ?_
 refine RS.fl 3 V44 rfl C40 ?_
 refine RS.fl 4 V40 rfl C9 ?_
 refine RS.ld V9 B2 ?_
 refine RS.convSB rfl V9 V51 V5 (fun a40 c40 w40 x40 g40 s40 R40 => ?_)
 refine RS.nm ?_
 replace hE := Ext.tr hE x40
 replace D0 := D0.ext x40
 replace B2 := B2.ext x40
 replace O1 := O1.ext x40
 have zw40 := x40.size
 have RT := R40
 refine RS.call E241 (bytesW _ _ _ _ _ RT (by omega)) rfl (fun v41 w41 x41 A41 => ?_)
 replace hE := Ext.tr hE x41
 replace D0 := D0.ext x41
 replace B2 := B2.ext x41
 replace O1 := O1.ext x41
 replace RT := RT.ext x41
 have zw41 := x41.size
 obtain ⟨a41, n41, c41, rfl, O2⟩ := A41
 have hnl := O2.len
 rw [List.length_append, bys_len] at hnl
 refine RS.nm ?_
 refine RS.move (v := .tuple _) rfl ?_
 refine RS.exS ?_
 refine RS.exI ?_
 refine RS.asS rfl ?_
 refine RS.asI rfl ?_
 refine nl J39 (sq fun _ J42 => ?_)
 refine RS.mvS rfl ?_
 refine RS.mvS rfl ?_
 refine RS.appendI O1 O2.row rfl rfl V51 T5 rfl (by omega) (by decide) (by omega) (fun a43 c43 w43 N43 x43 => ?_)
 refine RS.nm ?_
 replace hE := hE.trans (x43.belQ (fun _ h => (O1.lo _ h).1))
 replace D0 := D0.prQ x43 (fun _ h => (O1.lo _ h).1)
 replace B2 := B2.prQ x43 (fun _ h => (O1.lo _ h).1)
 have zw43 := x43.size
 replace O1 := N43
 refine RS.nm ?_
 have hol := O1.len
 refine RS.asS rfl ?_
 refine nl J42 ?_
 refine wx fun _ J44 => ?_
 refine sq fun _ J45 => ?_
 refine RS.fl 3 V44 rfl C40 ?_
 refine RS.fl 3 V40 rfl C5 ?_
 refine RS.ld V5 B2 ?_
 refine RS.o (D.eq rfl rfl) ?_
 refine nl J45 ?_
 refine C.ife rfl (fun c46 => ?_) (fun c46 => ?_)
 ·have hk4 := c46
  refine sq fun _ J47 => ?_
  refine RS.fl 3 V44 rfl C40 ?_
  refine RS.fl 5 V40 rfl C24 ?_
  refine RS.la V24 C24 B2 4 ?_
  have hfv : S.FineV o.vk o.num o.bits o.t := by rcases hfa with h | h | h; exact absurd h.1 (by show o.bare.k ≠ 1; show o.k ≠ 1; omega); exact absurd h.1 (by show ¬ (o.k = 2 ∨ o.k = 3); omega); exact h.2.2
  refine RS.call E242 (encV _ _ _ _ o4 o5 o6 hfv (by omega) _) rfl (fun v48 w48 x48 A48 => ?_)
  replace hE := Ext.tr hE x48
  replace D0 := D0.ext x48
  replace B2 := B2.ext x48
  replace O1 := O1.ext x48
  have zw48 := x48.size
  obtain ⟨a48, n48, c48, rfl, O3⟩ := A48
  have hvl := O3.len
  refine RS.nm ?_
  refine RS.move (v := .tuple _) rfl ?_
  refine RS.exS ?_
  refine RS.exI ?_
  refine RS.asS rfl ?_
  refine RS.asI rfl ?_
  refine nl J47 ?_
  refine region ?_
  refine RS.mvS rfl ?_
  refine RS.mvS rfl ?_
  refine RS.appendI O1 O3.row rfl rfl V51 T5 rfl (by omega) (by decide) (by omega) (fun a49 c49 w49 N49 x49 => ?_)
  refine RS.nm ?_
  replace hE := hE.trans (x49.belQ (fun _ h => (O1.lo _ h).1))
  replace D0 := D0.prQ x49 (fun _ h => (O1.lo _ h).1)
  replace B2 := B2.prQ x49 (fun _ h => (O1.lo _ h).1)
  have zw49 := x49.size
  replace O1 := N49
  refine RS.asS rfl ?_
  refine nl J44 (sq fun _ J50 => ?_)
  refine RS.mvS rfl ?_
  refine RS.asS rfl ?_
  refine RS.asI rfl ?_
  refine nl J50 ?_
  refine wp_ret ?_
  refine retSI ?_
  have em : S.msgS o = ([111] ++ S.numS o.au ++ S.listS o.n o.ids ++ S.numS o.st ++ [o.k]) ++ (S.numS o.key.size ++ bys o.key) ++ S.valS o.vk o.num o.bits o.t := by unfold S.msgS; rw [if_neg hk, if_pos hk4, ← List.append_assoc]
  exact ⟨_, rfl, hE, _, _, _, _, by rw [hz], O1.base (fun k hk => by have := O1.lo k hk; omega), by rw [if_pos hz, em]⟩
 have hk4 := c46
 refine wp_skip ?_
 refine J44 _ _ ?_
 refine sq fun _ J51 => ?_
 refine RS.mvS rfl ?_
 refine RS.asS rfl ?_
 refine RS.asI rfl ?_
 refine nl J51 ?_
 refine wp_ret ?_
 refine retSI ?_
 have em : S.msgS o = ([111] ++ S.numS o.au ++ S.listS o.n o.ids ++ S.numS o.st ++ [o.k]) ++ (S.numS o.key.size ++ bys o.key) := by unfold S.msgS; rw [if_neg hk, if_neg hk4, List.append_nil]
 exact ⟨_, rfl, hE, _, _, _, _, by rw [hz], O1.base (fun k hk => by have := O1.lo k hk; omega), by rw [if_pos hz, em]⟩
theorem textOR {S0 : Nat → Prop} (o : S.OpV) (ho : o.ok) (pa : Option Addr) (pc : Nat) (w : World) (D0 : WRow .u8 32 S0 w pa o.n o.ids) (hc : o.n ≤ pc) (h4 : o.n ≤ 4) (hF : o.k = 4 → S.FineV o.vk o.num o.bits o.t) :
  Calls Tryz.prog 167 #[.agg ([.int .u32 o.au, .slice pa o.n pc, .int .u64 o.st, .int .u8 o.k, .string o.key, .int .u8 o.vk, .int .i64 o.num, .int .u64 o.bits, .string o.t, .int .u32 o.e, .int .u32 o.s] : List Value).toArray] w (Ret w fun v w' => ∃ a' n' c', v = .slice a' n' c' ∧ IOwn w.heap.size w' 5 .u8 a' n' c' (S.msgS o)) := by
 replace D0 := D0.weaken (T := fun k => k < w.heap.size) (fun k hk _ => hk)
 have o1 := ho.au
 have o2 := ho.st
 have o3 := ho.k
 have o4 := ho.vk
 have o5 := ho.num
 have o6 := ho.bits
 have o7 := ho.e
 have o8 := ho.s
 have o9 := ho.n
 have o10 := ho.key
 have o11 := ho.t
 have e1 := S.numS_len o.au
 have e2 := S.numS_len o.st
 have e3 := S.numS_len (o.n : Int)
 have e4 := D0.len
 have e5 := S.numS_len (o.key.size : Int)
 have e6 := S.valS_len o.vk o.num o.bits o.t o11
 have e7 := S.numS_len o.e
 have e8 := S.numS_len o.s
 have hE := Ext.refl w
 refine enterU 46 Tryz.func167 rfl rfl ?_
 refine sq fun _ J1 => ?_
 refine RS.box rfl rfl (fun b2 w2 e2 s2 x2 B2 => ?_)
 refine RS.nm ?_
 replace hE := Ext.tr hE x2
 replace D0 := D0.ext x2
 have zw2 := x2.size
 refine RS.asS rfl ?_
 refine nl J1 (sq fun _ J3 => ?_)
 refine RS.buildSlice (xs := [.const (.int .u8 111)]) (vs := [.int _ _]) (cs := [.int _ _]) V51 T5 (by decide) rfl rfl rfl rfl rfl rfl (by intro v hv; simp only [List.mem_cons, List.not_mem_nil, or_false] at hv; subst hv; rfl) rfl (fun b4 w4 e4 s4 x4 B4 => ?_)
 refine RS.nm ?_
 replace hE := Ext.tr hE x4
 replace D0 := D0.ext x4
 replace B2 := B2.ext x4
 have zw4 := x4.size
 have O1 : IOwn w2.heap.size w4 5 .u8 (some ⟨b4, 0, none⟩) 1 1 [_] := IOwn.of_blk B4 rfl rfl (by omega) (.cons (by simp only [lim]; omega) (.nil _)) (by decide)
 refine RS.fl 0 V44 rfl C37 ?_
 refine RS.ld V37 B2 ?_
 refine RS.o (D.conv rfl V37 V22 (W.u64 (by omega))) ?_
 refine RS.call E173 (numR _ (by omega) _) rfl (fun v5 w5 x5 A5 => ?_)
 replace hE := Ext.tr hE x5
 replace D0 := D0.ext x5
 replace B2 := B2.ext x5
 replace O1 := O1.ext x5
 have zw5 := x5.size
 obtain ⟨a5, n5, c5, rfl, O2⟩ := A5
 have h2l := O2.len
 refine RS.nm ?_
 refine RS.appendI O1 O2.row rfl rfl V51 T5 rfl (by omega) (by decide) (by omega) (fun a6 c6 w6 N6 x6 => ?_)
 refine RS.nm ?_
 replace hE := hE.trans (x6.belQ (fun _ h => (O1.lo _ h).1))
 replace D0 := D0.prQ x6 (fun _ h => (O1.lo _ h).1)
 replace B2 := B2.prQ x6 (fun _ h => (O1.lo _ h).1)
 have zw6 := x6.size
 replace O1 := N6
 refine RS.nm ?_
 have hl1 := O1.len
 refine RS.asS rfl ?_
 refine nl J3 ?_
 refine wx fun _ J7 => ?_
 refine regionX (Below w2.heap.size) [(0, .q), (1, .q), (2, .q), (5, .q), (6, .q), (3, .e), (4, .e), (7, .e), (8, .g), (9, .q)] mixed (fun w => Below.refl _ _) (fun h k => Below.trans h k) (by kernel_rfl) (fun w8 x8 => ?_)
 replace hE := Ext.tr hE x8
 replace D0 := D0.ext x8
 replace B2 := B2.ext x8
 replace O1 := O1.ext x8
 have zw8 := x8.size
 refine RX.mvS rfl ?_
 refine RX.fl 1 V44 rfl C38 ?_
 refine RX.o (fun w' hw => D.load rfl V38 rfl ((B2.bel hw (by omega)).cell rfl)) ?_
 refine RX.fl 2 V44 rfl C22 ?_
 refine RX.o (fun w' hw => D.load rfl V22 rfl ((B2.bel hw (by omega)).cell rfl)) ?_
 refine RX.eff ?_
 refine RS.call E227 (listR _ _ _ _ _ D0 hc (by omega)) rfl (fun v9 w9 x9 A9 => ?_)
 replace hE := Ext.tr hE x9
 replace D0 := D0.ext x9
 replace B2 := B2.ext x9
 replace O1 := O1.ext x9
 have zw9 := x9.size
 obtain ⟨a9, n9, c9, rfl, O2⟩ := A9
 have h2l := O2.len
 rw [S.listS, List.length_append] at h2l
 refine RS.nm ?_
 refine RS.nil ⟨(x9.mono (by omega)), ?_⟩
 refine RX.eff ?_
 refine RS.appendI O1 O2.row rfl rfl V51 T5 rfl (by omega) (by decide) (by omega) (fun a10 c10 w10 N10 x10 => ?_)
 refine RS.nm ?_
 replace hE := hE.trans (x10.belQ (fun _ h => (O1.lo _ h).1))
 replace D0 := D0.prQ x10 (fun _ h => (O1.lo _ h).1)
 replace B2 := B2.prQ x10 (fun _ h => (O1.lo _ h).1)
 have zw10 := x10.size
 have lr10 : Below w2.heap.size w9 w10 := x10.belQ (fun _ h => (O1.own.lo _ h).1)
 replace O1 := N10
 refine RS.nm ?_
 have hl2 := O1.len
 refine RS.nil ⟨(lr10), ?_⟩
 refine RX.eff ?_
 refine RS.call E173 (numR _ (by omega) _) rfl (fun v11 w11 x11 A11 => ?_)
 replace hE := Ext.tr hE x11
 replace D0 := D0.ext x11
 replace B2 := B2.ext x11
 replace O1 := O1.ext x11
 have zw11 := x11.size
 obtain ⟨a11, n11, c11, rfl, O2⟩ := A11
 have h2l := O2.len
 refine RS.nm ?_
 refine RS.nil ⟨(x11.mono (by omega)), ?_⟩
 refine RX.big ?_
 refine RS.appendI O1 O2.row rfl rfl V51 T5 rfl (by omega) (by decide) (by omega) (fun a12 c12 w12 N12 x12 => ?_)
 refine RS.nm ?_
 replace hE := hE.trans (x12.belQ (fun _ h => (O1.lo _ h).1))
 replace D0 := D0.prQ x12 (fun _ h => (O1.lo _ h).1)
 replace B2 := B2.prQ x12 (fun _ h => (O1.lo _ h).1)
 have zw12 := x12.size
 have lr12 : Below w2.heap.size w11 w12 := x12.belQ (fun _ h => (O1.own.lo _ h).1)
 replace O1 := N12
 refine RS.nm ?_
 have hl3 := O1.len
 refine RS.nil ?_
 refine RX.assign (v := .slice _ _ _) rfl ?_
 refine RX.nil (J7 _ _ ?_)
 refine sq fun _ J13 => ?_
 refine RS.mvS rfl ?_
 refine RS.fl 3 V44 rfl C40 ?_
 refine RS.fl 3 V40 rfl C5 ?_
 refine RS.ld V5 B2 ?_
 refine RS.buildSlice (xs := [.tmp 22]) (vs := [.int _ _]) (cs := [.int _ _]) V51 T5 (by decide) rfl rfl rfl rfl rfl rfl (by intro v hv; simp only [List.mem_cons, List.not_mem_nil, or_false] at hv; subst hv; rfl) rfl (fun b14 w14 e14 s14 x14 B14 => ?_)
 refine RS.nm ?_
 replace hE := Ext.tr hE x14
 replace D0 := D0.ext x14
 replace B2 := B2.ext x14
 replace O1 := O1.ext x14
 have zw14 := x14.size
 have Q1 : IRow .u8 (fun k => k = b14) w14 (some ⟨b14, 0, none⟩) 1 [_] := IRow.of_blk B14 rfl rfl rfl (.cons (by simp only [lim]; omega) (.nil _))
 refine RS.appendI O1 Q1 rfl rfl V51 T5 rfl (by omega) (by decide) (by omega) (fun a15 c15 w15 N15 x15 => ?_)
 refine RS.nm ?_
 replace hE := hE.trans (x15.belQ (fun _ h => (O1.lo _ h).1))
 replace D0 := D0.prQ x15 (fun _ h => (O1.lo _ h).1)
 replace B2 := B2.prQ x15 (fun _ h => (O1.lo _ h).1)
 have zw15 := x15.size
 have lr15 : Below w2.heap.size w14 w15 := x15.belQ (fun _ h => (O1.own.lo _ h).1)
 replace O1 := N15
 refine RS.nm ?_
 have hl4 := O1.len
 refine RS.asS rfl ?_
 refine nl J13 ?_
 refine wx fun _ J16 => ?_
 refine sq fun _ J17 => ?_
 refine RS.fl 3 V44 rfl C40 ?_
 refine RS.fl 3 V40 rfl C5 ?_
 refine RS.ld V5 B2 ?_
 refine RS.o (D.ne rfl rfl) ?_
 refine nl J17 ?_
 refine C.ifn rfl (fun c18 => ?_) (fun c18 => ?_)
 ·have hk := c18
  refine region ?_
  refine RS.mvS rfl ?_
  refine RS.fl 3 V44 rfl C40 ?_
  refine RS.fl 4 V40 rfl C9 ?_
  refine RS.ld V9 B2 ?_
  refine RS.convSB rfl V9 V51 V5 (fun a19 c19 w19 x19 g19 s19 R19 => ?_)
  refine RS.nm ?_
  replace hE := Ext.tr hE x19
  replace D0 := D0.ext x19
  replace B2 := B2.ext x19
  replace O1 := O1.ext x19
  have zw19 := x19.size
  have RT := R19
  refine RS.call E228 (textR _ _ _ _ _ RT (by omega)) rfl (fun v20 w20 x20 A20 => ?_)
  replace hE := Ext.tr hE x20
  replace D0 := D0.ext x20
  replace B2 := B2.ext x20
  replace O1 := O1.ext x20
  replace RT := RT.ext x20
  have zw20 := x20.size
  obtain ⟨a20, n20, c20, rfl, O2⟩ := A20
  have h2l := O2.len
  rw [List.length_append, bys_len] at h2l
  refine RS.nm ?_
  refine RS.appendI O1 O2.row rfl rfl V51 T5 rfl (by omega) (by decide) (by omega) (fun a21 c21 w21 N21 x21 => ?_)
  refine RS.nm ?_
  replace hE := hE.trans (x21.belQ (fun _ h => (O1.lo _ h).1))
  replace D0 := D0.prQ x21 (fun _ h => (O1.lo _ h).1)
  replace B2 := B2.prQ x21 (fun _ h => (O1.lo _ h).1)
  have zw21 := x21.size
  have lr21 : Below w2.heap.size w20 w21 := x21.belQ (fun _ h => (O1.own.lo _ h).1)
  replace O1 := N21
  refine RS.nm ?_
  have hl5 := O1.len
  refine RS.asS rfl ?_
  refine nl J16 ?_
  refine wx fun _ J22 => ?_
  refine sq fun _ J23 => ?_
  refine RS.fl 3 V44 rfl C40 ?_
  refine RS.fl 3 V40 rfl C5 ?_
  refine RS.ld V5 B2 ?_
  refine RS.o (D.eq rfl rfl) ?_
  refine nl J23 ?_
  refine C.ife rfl (fun c24 => ?_) (fun c24 => ?_)
  ·have hk4 := c24
   refine region ?_
   refine RS.mvS rfl ?_
   refine RS.fl 3 V44 rfl C40 ?_
   refine RS.fl 5 V40 rfl C24 ?_
   refine RS.la V24 C24 B2 4 ?_
   refine RS.call E229 (valBytesR _ _ _ _ o4 o5 o6 (hF hk4) (by omega) _) rfl (fun v25 w25 x25 A25 => ?_)
   replace hE := Ext.tr hE x25
   replace D0 := D0.ext x25
   replace B2 := B2.ext x25
   replace O1 := O1.ext x25
   have zw25 := x25.size
   obtain ⟨a25, n25, c25, rfl, O2⟩ := A25
   have h2l := O2.len
   refine RS.nm ?_
   refine RS.appendI O1 O2.row rfl rfl V51 T5 rfl (by omega) (by decide) (by omega) (fun a26 c26 w26 N26 x26 => ?_)
   refine RS.nm ?_
   replace hE := hE.trans (x26.belQ (fun _ h => (O1.lo _ h).1))
   replace D0 := D0.prQ x26 (fun _ h => (O1.lo _ h).1)
   replace B2 := B2.prQ x26 (fun _ h => (O1.lo _ h).1)
   have zw26 := x26.size
   have lr26 : Below w2.heap.size w25 w26 := x26.belQ (fun _ h => (O1.own.lo _ h).1)
   replace O1 := N26
   refine RS.asS rfl ?_
   refine nl J22 (sq fun _ J27 => ?_)
   refine RS.mvS rfl ?_
   refine RS.asS rfl ?_
   refine nl J27 ?_
   refine wp_ret ?_
   refine retS ?_
   have em : S.msgS o = ([111] ++ S.numS o.au ++ S.listS o.n o.ids ++ S.numS o.st ++ [o.k]) ++ (S.numS o.key.size ++ bys o.key) ++ S.valS o.vk o.num o.bits o.t := by unfold S.msgS; rw [if_neg hk, if_pos hk4, ← List.append_assoc]
   rw [em]
   exact ⟨_, rfl, hE, _, _, _, rfl, O1.base (fun k hk => by have := O1.lo k hk; omega)⟩
  have hk4 := c24
  refine wp_skip ?_
  refine J22 _ _ ?_
  refine sq fun _ J28 => ?_
  refine RS.mvS rfl ?_
  refine RS.asS rfl ?_
  refine nl J28 ?_
  refine wp_ret ?_
  refine retS ?_
  have em : S.msgS o = ([111] ++ S.numS o.au ++ S.listS o.n o.ids ++ S.numS o.st ++ [o.k]) ++ (S.numS o.key.size ++ bys o.key) := by unfold S.msgS; rw [if_neg hk, if_neg hk4, List.append_nil]
  rw [em]
  exact ⟨_, rfl, hE, _, _, _, rfl, O1.base (fun k hk => by have := O1.lo k hk; omega)⟩
 have hk := c18
 refine wp_skip ?_
 refine J16 _ _ ?_
 refine wx fun _ J29 => ?_
 refine sq fun _ J30 => ?_
 refine RS.fl 3 V44 rfl C40 ?_
 refine RS.fl 3 V40 rfl C5 ?_
 refine RS.ld V5 B2 ?_
 refine RS.o (D.eq rfl rfl) ?_
 refine nl J30 ?_
 refine C.ife rfl (fun c31 => ?_) (fun c31 => ?_)
 ·have hk4 := c31
  refine region ?_
  refine RS.mvS rfl ?_
  refine RS.fl 3 V44 rfl C40 ?_
  refine RS.fl 5 V40 rfl C24 ?_
  refine RS.la V24 C24 B2 4 ?_
  refine RS.call E229 (valBytesR _ _ _ _ o4 o5 o6 (hF hk4) (by omega) _) rfl (fun v32 w32 x32 A32 => ?_)
  replace hE := Ext.tr hE x32
  replace D0 := D0.ext x32
  replace B2 := B2.ext x32
  replace O1 := O1.ext x32
  have zw32 := x32.size
  obtain ⟨a32, n32, c32, rfl, O2⟩ := A32
  have h2l := O2.len
  refine RS.nm ?_
  refine RS.appendI O1 O2.row rfl rfl V51 T5 rfl (by omega) (by decide) (by omega) (fun a33 c33 w33 N33 x33 => ?_)
  refine RS.nm ?_
  replace hE := hE.trans (x33.belQ (fun _ h => (O1.lo _ h).1))
  replace D0 := D0.prQ x33 (fun _ h => (O1.lo _ h).1)
  replace B2 := B2.prQ x33 (fun _ h => (O1.lo _ h).1)
  have zw33 := x33.size
  have lr33 : Below w2.heap.size w32 w33 := x33.belQ (fun _ h => (O1.own.lo _ h).1)
  replace O1 := N33
  refine RS.asS rfl ?_
  refine nl J29 (sq fun _ J34 => ?_)
  refine RS.mvS rfl ?_
  refine RS.asS rfl ?_
  refine nl J34 ?_
  refine wp_ret ?_
  refine retS ?_
  exfalso; omega
 have hk4 := c31
 refine wp_skip ?_
 refine J29 _ _ ?_
 refine sq fun _ J35 => ?_
 refine RS.mvS rfl ?_
 refine RS.asS rfl ?_
 refine nl J35 ?_
 refine wp_ret ?_
 refine retS ?_
 have em : S.msgS o = ([111] ++ S.numS o.au ++ S.listS o.n o.ids ++ S.numS o.st ++ [o.k]) := by unfold S.msgS; rw [if_pos hk, List.append_nil]
 rw [em]
 exact ⟨_, rfl, hE, _, _, _, rfl, O1.base (fun k hk => by have := O1.lo k hk; omega)⟩
theorem E17 : Enters Tryz.prog 17 := .mk Tryz.func17 (by kernel_rfl) rfl
theorem E89 : Enters Tryz.prog 89 := .mk Tryz.func89 (by kernel_rfl) rfl
theorem E90 : Enters Tryz.prog 90 := .mk Tryz.func90 (by kernel_rfl) rfl
theorem E150 : Enters Tryz.prog 150 := .mk Tryz.func150 (by kernel_rfl) rfl
theorem E151 : Enters Tryz.prog 151 := .mk Tryz.func151 (by kernel_rfl) rfl
theorem E165 : Enters Tryz.prog 165 := .mk Tryz.func165 (by kernel_rfl) rfl
theorem E167 : Enters Tryz.prog 167 := .mk Tryz.func167 (by kernel_rfl) rfl
theorem E189 : Enters Tryz.prog 189 := .mk Tryz.func189 (by kernel_rfl) rfl
theorem encodeO {S0 : Nat → Prop} (o : S.OpV) (ho : o.ok) (pa : Option Addr) (pc : Nat) (w : World) (D0 : WRow .u8 32 S0 w pa o.n o.ids) (hc : o.n ≤ pc) :
  Calls Tryz.prog 150 #[.agg ([.int .u32 o.au, .slice pa o.n pc, .int .u64 o.st, .int .u8 o.k, .string o.key, .int .u8 o.vk, .int .i64 o.num, .int .u64 o.bits, .string o.t, .int .u32 o.e, .int .u32 o.s] : List Value).toArray] w (Ret w fun v w' => ∃ a' n' c' xs, v = .tuple #[.slice a' n' c', .int .i64 (S.checkE o)] ∧ IOwn w.heap.size w' 5 .u8 a' n' c' xs ∧ xs = if S.checkE o = 0 then S.encS o else []) := by
 replace D0 := D0.weaken (T := fun k => k < w.heap.size) (fun k hk _ => hk)
 have o1 := ho.au
 have o2 := ho.st
 have o3 := ho.k
 have o4 := ho.vk
 have o5 := ho.num
 have o6 := ho.bits
 have o7 := ho.e
 have o8 := ho.s
 have o9 := ho.n
 have o10 := ho.key
 have o11 := ho.t
 have e4 := D0.len
 have e7 := S.numS_len o.e
 have e8 := S.numS_len o.s
 have hE := Ext.refl w
 refine enterU 29 Tryz.func150 rfl rfl ?_
 refine sq fun _ J1 => ?_
 refine RS.box rfl rfl (fun b2 w2 e2 s2 x2 B2 => ?_)
 refine RS.nm ?_
 replace hE := Ext.tr hE x2
 replace D0 := D0.ext x2
 have zw2 := x2.size
 refine RS.asS rfl ?_
 refine RS.asI rfl ?_
 refine nl J1 ?_
 refine wx fun _ J3 => ?_
 refine sq fun _ J4 => ?_
 refine RS.la V44 C44 B2 11 ?_
 refine RS.call E188 (checkO o ho _ _ _ D0 hc) rfl (fun v5 w5 x5 A5 => ?_)
 replace hE := Ext.tr hE x5
 replace D0 := D0.ext x5
 replace B2 := B2.ext x5
 have zw5 := x5.size
 subst A5
 refine RS.nm ?_
 refine RS.asI rfl ?_
 refine nl J4 (sq fun _ J6 => ?_)
 refine RS.mvI rfl ?_
 refine RS.o (D.ne rfl rfl) ?_
 refine nl J6 ?_
 refine C.ifn rfl (fun c7 => ?_) (fun c7 => ?_)
 ·have hnz := c7
  refine sq fun _ J8 => ?_
  refine RS.mvI rfl ?_
  refine RS.asS rfl ?_
  refine RS.asI rfl ?_
  refine nl J8 ?_
  refine wp_ret ?_
  refine retSI ?_
  exact ⟨_, rfl, hE, none, 0, 0, [], rfl, IOwn.nil _ _ _ _, (if_neg hnz).symm⟩
 have hz := c7
 obtain ⟨q1, q2, q3⟩ := S.check_zero.1 hz
 have hml := S.msg_len o ho q1 e4
 have hzb : S.checkE o.bare = 0 := S.check_zero.2 ⟨q1, q2, q3.1, q3.2.1, (by show (0 : Int) < 500000003; decide), (by show (0 : Int) < 500000003; decide), q3.2.2.2.2⟩
 refine wp_skip ?_
 refine J3 _ _ ?_
 refine sq fun _ J9 => ?_
 refine RS.la V44 C44 B2 11 ?_
 refine RS.call E189 (messageO o ho _ _ _ D0 hc) rfl (fun v10 w10 x10 A10 => ?_)
 replace hE := Ext.tr hE x10
 replace D0 := D0.ext x10
 replace B2 := B2.ext x10
 have zw10 := x10.size
 obtain ⟨a10, n10, c10, xs, rfl, OM, hxs⟩ := A10
 rw [if_pos hzb] at hxs
 subst hxs
 have hOM := OM.len
 have pOM := OM.own.pre
 refine RS.nm ?_
 refine RS.move (v := .tuple _) rfl ?_
 refine RS.exS ?_
 refine RS.exI ?_
 refine RS.asS rfl ?_
 refine RS.asI rfl ?_
 refine nl J9 ?_
 refine wx fun _ J11 => ?_
 refine regionX Ext [(0, .q), (1, .q), (2, .q), (3, .q), (4, .q), (6, .q), (7, .q), (8, .q), (9, .q), (5, .e), (10, .e), (11, .e), (12, .e), (13, .q), (14, .q)] mixed Ext.refl (fun h k => h.tr k) (by kernel_rfl) (fun w12 x12 => ?_)
 replace hE := Ext.tr hE x12
 replace D0 := D0.ext x12
 replace B2 := B2.ext x12
 replace OM := OM.ext x12
 have zw12 := x12.size
 refine RX.mvS rfl ?_
 refine RX.fl 9 V44 rfl C42 ?_
 refine RX.fl 9 V42 rfl C37 ?_
 refine RX.o (fun w' hw => D.load rfl V37 rfl ((B2.ext hw).cell rfl)) ?_
 refine RX.o (fun w' hw => D.conv rfl V37 V22 (W.u64 (by omega))) ?_
 refine RX.fl 9 V44 rfl C42 ?_
 refine RX.fl 10 V42 rfl C37 ?_
 refine RX.o (fun w' hw => D.load rfl V37 rfl ((B2.ext hw).cell rfl)) ?_
 refine RX.o (fun w' hw => D.conv rfl V37 V22 (W.u64 (by omega))) ?_
 refine RX.eff ?_
 refine RS.call E207 (numW _ (by omega) _) rfl (fun v13 w13 x13 A13 => ?_)
 replace hE := Ext.tr hE x13
 replace D0 := D0.ext x13
 replace B2 := B2.ext x13
 replace OM := OM.ext x13
 have zw13 := x13.size
 obtain ⟨a13, n13, c13, rfl, OA⟩ := A13
 have hOA := OA.len
 have pOA := OA.own.pre
 refine RS.nm ?_
 refine RS.nil ⟨x13, ?_⟩
 refine RX.eff ?_
 refine RS.call E207 (numW _ (by omega) _) rfl (fun v14 w14 x14 A14 => ?_)
 replace hE := Ext.tr hE x14
 replace D0 := D0.ext x14
 replace B2 := B2.ext x14
 replace OM := OM.ext x14
 replace OA := OA.ext x14
 have zw14 := x14.size
 obtain ⟨a14, n14, c14, rfl, OB⟩ := A14
 have hOB := OB.len
 have pOB := OB.own.pre
 refine RS.nm ?_
 refine RS.nil ⟨x14, ?_⟩
 refine RX.eff ?_
 refine RS.buildSlice (xs := [.tmp 17, .tmp 22, .tmp 27]) (vs := [.slice _ _ _, .slice _ _ _, .slice _ _ _]) (cs := [.slice _ _ _, .slice _ _ _, .slice _ _ _]) V284 T51 (by decide) rfl rfl rfl rfl rfl rfl (by intro v hv; simp only [List.mem_cons, List.not_mem_nil, or_false] at hv; rcases hv with rfl | rfl | rfl <;> rfl) rfl (fun b15 w15 e15 s15 x15 B15 => ?_)
 refine RS.nm ?_
 replace hE := Ext.tr hE x15
 replace D0 := D0.ext x15
 replace B2 := B2.ext x15
 replace OM := OM.ext x15
 replace OA := OA.ext x15
 replace OB := OB.ext x15
 have zw15 := x15.size
 refine RS.nil ⟨x15, ?_⟩
 refine RX.eff ?_
 refine RS.call E206 (concat [⟨a10, n10, c10, S.msgS o⟩, ⟨a13, n13, c13, S.numS o.e⟩, ⟨a14, n14, c14, S.numS o.s⟩] _ _ _ _ (PRow.of_blkE B15 rfl rfl ⟨⟨_, OM.row, pOM⟩, ⟨_, OA.row, pOA⟩, ⟨_, OB.row, pOB⟩, trivial⟩) (show (3 : Nat) ≤ 1000 by decide) (by simp [cat]; omega)) rfl (fun v16 w16 x16 A16 => ?_)
 replace hE := Ext.tr hE x16
 replace D0 := D0.ext x16
 replace B2 := B2.ext x16
 replace OM := OM.ext x16
 replace OA := OA.ext x16
 replace OB := OB.ext x16
 replace B15 := B15.ext x16
 have zw16 := x16.size
 obtain ⟨a16, n16, c16, rfl, O1⟩ := A16
 have ecat : cat [⟨a10, n10, c10, S.msgS o⟩, ⟨a13, n13, c13, S.numS o.e⟩, ⟨a14, n14, c14, S.numS o.s⟩] = S.encS o := by simp [cat, S.encS]
 rw [ecat] at O1
 refine RS.nm ?_
 refine RS.nil ⟨x16, ?_⟩
 refine RX.assign (v := .slice _ _ _) rfl ?_
 refine RX.assign (v := .int .i64 0) rfl ?_
 refine RX.nil (J11 _ _ ?_)
 refine wp_ret ?_
 refine retSI ?_
 exact ⟨_, rfl, hE, _, _, _, _, by rw [hz], O1.base (fun k hk => by have := O1.lo k hk; omega), (if_pos hz).symm⟩
theorem bytesOR {S0 : Nat → Prop} (o : S.OpV) (ho : o.ok) (pa : Option Addr) (pc : Nat) (w : World) (D0 : WRow .u8 32 S0 w pa o.n o.ids) (hc : o.n ≤ pc) (h4 : o.n ≤ 4) (hF : o.k = 4 → S.FineV o.vk o.num o.bits o.t) :
  Calls Tryz.prog 90 #[.agg ([.int .u32 o.au, .slice pa o.n pc, .int .u64 o.st, .int .u8 o.k, .string o.key, .int .u8 o.vk, .int .i64 o.num, .int .u64 o.bits, .string o.t, .int .u32 o.e, .int .u32 o.s] : List Value).toArray] w (Ret w fun v w' => ∃ a' n' c', v = .slice a' n' c' ∧ IOwn w.heap.size w' 5 .u8 a' n' c' (S.encS o)) := by
 replace D0 := D0.weaken (T := fun k => k < w.heap.size) (fun k hk _ => hk)
 have o1 := ho.au
 have o2 := ho.st
 have o3 := ho.k
 have o4 := ho.vk
 have o5 := ho.num
 have o6 := ho.bits
 have o7 := ho.e
 have o8 := ho.s
 have o9 := ho.n
 have o10 := ho.key
 have o11 := ho.t
 have e4 := D0.len
 have e7 := S.numS_len o.e
 have e8 := S.numS_len o.s
 have hml := S.msg_len o ho h4 e4
 have hE := Ext.refl w
 refine enterU 16 Tryz.func90 rfl rfl ?_
 refine sq fun _ J1 => ?_
 refine RS.box rfl rfl (fun b2 w2 e2 s2 x2 B2 => ?_)
 refine RS.nm ?_
 replace hE := Ext.tr hE x2
 replace D0 := D0.ext x2
 have zw2 := x2.size
 refine RS.asS rfl ?_
 refine nl J1 ?_
 refine wx fun _ J3 => ?_
 refine regionX (Below w2.heap.size) [(0, .q), (2, .q), (3, .q), (4, .q), (5, .q), (8, .q), (9, .q), (10, .q), (11, .q), (1, .e), (6, .e), (7, .e), (12, .e), (13, .g), (14, .q)] mixed (fun w => Below.refl _ _) (fun h k => Below.trans h k) (by kernel_rfl) (fun w4 x4 => ?_)
 replace hE := Ext.tr hE x4
 replace D0 := D0.ext x4
 replace B2 := B2.ext x4
 have zw4 := x4.size
 refine RX.o (fun w' hw => D.loadAgg rfl V44 rfl C44 (by decide) rfl ((B2.bel hw (by omega)).cellsN 11 rfl)) ?_
 refine RX.fl 9 V44 rfl C42 ?_
 refine RX.fl 9 V42 rfl C37 ?_
 refine RX.o (fun w' hw => D.load rfl V37 rfl ((B2.bel hw (by omega)).cell rfl)) ?_
 refine RX.o (fun w' hw => D.conv rfl V37 V22 (W.u64 (by omega))) ?_
 refine RX.fl 9 V44 rfl C42 ?_
 refine RX.fl 10 V42 rfl C37 ?_
 refine RX.o (fun w' hw => D.load rfl V37 rfl ((B2.bel hw (by omega)).cell rfl)) ?_
 refine RX.o (fun w' hw => D.conv rfl V37 V22 (W.u64 (by omega))) ?_
 refine RX.eff ?_
 refine RS.call E167 (textOR o ho _ _ _ D0 hc h4 hF) rfl (fun v5 w5 x5 A5 => ?_)
 replace hE := Ext.tr hE x5
 replace D0 := D0.ext x5
 replace B2 := B2.ext x5
 have zw5 := x5.size
 obtain ⟨a5, n5, c5, rfl, O1⟩ := A5
 have hO1 := O1.len
 refine RS.nm ?_
 refine RS.nil ⟨(x5.mono (by omega)), ?_⟩
 refine RX.eff ?_
 refine RS.call E173 (numR _ (by omega) _) rfl (fun v6 w6 x6 A6 => ?_)
 replace hE := Ext.tr hE x6
 replace D0 := D0.ext x6
 replace B2 := B2.ext x6
 replace O1 := O1.ext x6
 have zw6 := x6.size
 obtain ⟨a6, n6, c6, rfl, O2⟩ := A6
 have hO2 := O2.len
 have pO2 := O2.own.pre
 refine RS.nm ?_
 refine RS.nil ⟨(x6.mono (by omega)), ?_⟩
 refine RX.eff ?_
 refine RS.appendI O1 O2.row rfl rfl V51 T5 rfl (by omega) (by decide) (by omega) (fun a7 c7 w7 N7 x7 => ?_)
 refine RS.nm ?_
 replace hE := hE.trans (x7.belQ (fun _ h => (O1.lo _ h).1))
 replace D0 := D0.prQ x7 (fun _ h => (O1.lo _ h).1)
 replace B2 := B2.prQ x7 (fun _ h => (O1.lo _ h).1)
 have zw7 := x7.size
 have lr7 : Below w2.heap.size w6 w7 := x7.belQ (fun _ h => (O1.own.lo _ h).1)
 replace O1 := N7
 refine RS.nm ?_
 have hO3 := O1.len
 refine RS.nil ⟨(lr7), ?_⟩
 refine RX.eff ?_
 refine RS.call E173 (numR _ (by omega) _) rfl (fun v8 w8 x8 A8 => ?_)
 replace hE := Ext.tr hE x8
 replace D0 := D0.ext x8
 replace B2 := B2.ext x8
 replace O1 := O1.ext x8
 have zw8 := x8.size
 obtain ⟨a8, n8, c8, rfl, O2⟩ := A8
 have hO2 := O2.len
 have pO2 := O2.own.pre
 refine RS.nm ?_
 refine RS.nil ⟨(x8.mono (by omega)), ?_⟩
 refine RX.big ?_
 refine RS.appendI O1 O2.row rfl rfl V51 T5 rfl (by omega) (by decide) (by omega) (fun a9 c9 w9 N9 x9 => ?_)
 refine RS.nm ?_
 replace hE := hE.trans (x9.belQ (fun _ h => (O1.lo _ h).1))
 replace D0 := D0.prQ x9 (fun _ h => (O1.lo _ h).1)
 replace B2 := B2.prQ x9 (fun _ h => (O1.lo _ h).1)
 have zw9 := x9.size
 have lr9 : Below w2.heap.size w8 w9 := x9.belQ (fun _ h => (O1.own.lo _ h).1)
 replace O1 := N9
 refine RS.nil ?_
 refine RX.assign (v := .slice _ _ _) rfl ?_
 refine RX.nil (J3 _ _ ?_)
 refine wp_ret ?_
 refine retS ?_
 exact ⟨_, rfl, hE, _, _, _, rfl, O1.base (fun k hk => by have := O1.lo k hk; omega)⟩
theorem ofO {S0 : Nat → Prop} (o : S.OpV) (ho : o.ok) (pa : Option Addr) (pc : Nat) (w : World) (D0 : WRow .u8 32 S0 w pa o.n o.ids) (hc : o.n ≤ pc) (h4 : o.n ≤ 4) (hF : o.k = 4 → S.FineV o.vk o.num o.bits o.t) :
  Calls Tryz.prog 17 #[.agg ([.int .u32 o.au, .slice pa o.n pc, .int .u64 o.st, .int .u8 o.k, .string o.key, .int .u8 o.vk, .int .i64 o.num, .int .u64 o.bits, .string o.t, .int .u32 o.e, .int .u32 o.s] : List Value).toArray] w (Ret w fun v _ => v = .agg (ints .u8 (S.sha (S.encS o))).toArray) := by
 replace D0 := D0.weaken (T := fun k => k < w.heap.size) (fun k hk _ => hk)
 have o1 := ho.au
 have o2 := ho.st
 have o3 := ho.k
 have o4 := ho.vk
 have o5 := ho.num
 have o6 := ho.bits
 have o7 := ho.e
 have o8 := ho.s
 have o9 := ho.n
 have o10 := ho.key
 have o11 := ho.t
 have e4 := D0.len
 have e7 := S.numS_len o.e
 have e8 := S.numS_len o.s
 have hml := S.msg_len o ho h4 e4
 have hel : (S.encS o).length ≤ 418 := by unfold S.encS; rw [List.length_append, List.length_append]; omega
 have hE := Ext.refl w
 refine enterU 5 Tryz.func17 rfl rfl ?_
 refine sq fun _ J1 => ?_
 refine RS.box rfl rfl (fun b2 w2 e2 s2 x2 B2 => ?_)
 refine RS.nm ?_
 replace hE := Ext.tr hE x2
 replace D0 := D0.ext x2
 have zw2 := x2.size
 refine RS.alloc T27 (fun b3 w3 e3 s3 x3 B3 => ?_)
 refine RS.nm ?_
 replace hE := Ext.tr hE x3
 replace D0 := D0.ext x3
 replace B2 := B2.ext x3
 have zw3 := x3.size
 have A3 : IArr .u8 w3 b3 32 (List.replicate 32 0) [] 27 := IArr.zero B3
 clear B3
 refine nl J1 (sq fun _ J4 => ?_)
 refine RS.la V44 C44 B2 11 ?_
 refine RS.call E90 (bytesOR o ho _ _ _ D0 hc h4 hF) rfl (fun v5 w5 x5 A5 => ?_)
 replace hE := Ext.tr hE x5
 replace D0 := D0.ext x5
 replace B2 := B2.ext x5
 replace A3 := A3.ext x5
 have zw5 := x5.size
 obtain ⟨a5, n5, c5, rfl, O1⟩ := A5
 have hO1 := O1.len
 refine RS.nm ?_
 refine RS.call E89 (of _ _ _ _ _ O1.row (by omega) O1.own.pre) rfl (fun v6 w6 x6 A6 => ?_)
 replace hE := Ext.tr hE x6
 replace D0 := D0.ext x6
 replace B2 := B2.ext x6
 replace A3 := A3.ext x6
 replace O1 := O1.ext x6
 have zw6 := x6.size
 subst A6
 have hsa := S.sha_arr (S.encS o)
 refine RS.nm ?_
 refine RS.storeArr A3 rfl rfl C27 (by decide) (by first | assumption | exact And.left (by assumption) | exact IArr.len (by assumption)) (by first | assumption | exact And.right (by assumption) | exact IArr.bd (by assumption)) (fun w7 y7 N7 => ?_)
 replace hE := hE.trans (y7.belo)
 replace D0 := D0.sto y7
 replace B2 := B2.sto y7
 replace O1 := O1.stQ y7 (fun _ h => (O1.own.lo _ h).1)
 have zw7 := y7.size
 replace A3 := N7
 refine nl J4 ?_
 refine wp_ret ?_
 refine ret (rs := [.cell 2 27]) (vs := [.agg _]) (v := (.agg _)) rfl ⟨⟨_, rfl, loadVar_agg V27 rfl C27 (by decide) (by rw [ints_length, A3.len]) A3.cells⟩, trivial⟩ rfl ?_
 exact ⟨_, rfl, hE, rfl⟩
theorem idO {S0 : Nat → Prop} (o : S.OpV) (ho : o.ok) (pa : Option Addr) (pc : Nat) (TK : TypeId) (w : World) (K0 : Kst w TK) (D0 : WRow .u8 32 S0 w pa o.n o.ids) (hc : o.n ≤ pc) :
  Calls Tryz.prog 80 #[.agg ([.int .u32 o.au, .slice pa o.n pc, .int .u64 o.st, .int .u8 o.k, .string o.key, .int .u8 o.vk, .int .i64 o.num, .int .u64 o.bits, .string o.t, .int .u32 o.e, .int .u32 o.s] : List Value).toArray] w (Ret w fun v _ => v = .tuple #[.agg (ints .u8 (if S.checkE o = 0 then S.sha (S.encS o) else List.replicate 32 0)).toArray, .int .i64 (S.checkE o)]) := by
 replace D0 := D0.weaken (T := fun k => k < w.heap.size) (fun k hk _ => hk)
 have o1 := ho.au
 have o2 := ho.st
 have o3 := ho.k
 have o4 := ho.vk
 have o5 := ho.num
 have o6 := ho.bits
 have o7 := ho.e
 have o8 := ho.s
 have o9 := ho.n
 have o10 := ho.key
 have o11 := ho.t
 have e4 := D0.len
 have e7 := S.numS_len o.e
 have e8 := S.numS_len o.s
 have hz0 := Arr.zeros .u8 32
 have hKl := K0.lt
 have hE := Ext.refl w
 refine enterU 18 Tryz.func80 rfl rfl ?_
 refine sq fun _ J1 => ?_
 refine RS.box rfl rfl (fun b2 w2 e2 s2 x2 B2 => ?_)
 refine RS.nm ?_
 replace hE := Ext.tr hE x2
 replace K0 := K0.ext x2
 replace D0 := D0.ext x2
 have zw2 := x2.size
 refine RS.alloc T27 (fun b3 w3 e3 s3 x3 B3 => ?_)
 refine RS.nm ?_
 replace hE := Ext.tr hE x3
 replace K0 := K0.ext x3
 replace D0 := D0.ext x3
 replace B2 := B2.ext x3
 have zw3 := x3.size
 have A3 : IArr .u8 w3 b3 32 (List.replicate 32 0) [] 27 := IArr.zero B3
 clear B3
 refine RS.asI rfl ?_
 refine nl J1 (sq fun _ J4 => ?_)
 refine RS.la V44 C44 B2 11 ?_
 refine RS.call E150 (encodeO o ho _ _ _ D0 hc) rfl (fun v5 w5 x5 A5 => ?_)
 replace hE := Ext.tr hE x5
 replace K0 := K0.ext x5
 replace D0 := D0.ext x5
 replace B2 := B2.ext x5
 replace A3 := A3.ext x5
 have zw5 := x5.size
 obtain ⟨a5, n5, c5, xs, rfl, O1, hxs⟩ := A5
 refine RS.nm ?_
 refine RS.move (v := .tuple _) rfl ?_
 refine RS.exS ?_
 refine RS.exI ?_
 refine RS.asS rfl ?_
 refine RS.asI rfl ?_
 refine nl J4 ?_
 refine wx fun _ J6 => ?_
 refine sq fun _ J7 => ?_
 refine RS.mvI rfl ?_
 refine RS.o (D.ne rfl rfl) ?_
 refine nl J7 ?_
 refine C.ifn rfl (fun c8 => ?_) (fun c8 => ?_)
 ·have hnz := c8
  refine sq fun _ J9 => ?_
  refine RS.o (D.build0 V27 T27 C5) ?_
  refine RS.mvI rfl ?_
  refine RS.storeArr A3 rfl rfl C27 (by decide) (by first | assumption | exact And.left (by assumption) | exact IArr.len (by assumption)) (by first | assumption | exact And.right (by assumption) | exact IArr.bd (by assumption)) (fun w10 y10 N10 => ?_)
  replace hE := hE.trans (y10.belo)
  replace K0 := K0.sto y10
  replace D0 := D0.sto y10
  replace B2 := B2.sto y10
  replace O1 := O1.stQ y10 (fun _ h => (O1.own.lo _ h).1)
  have zw10 := y10.size
  replace A3 := N10
  refine RS.asI rfl ?_
  refine nl J9 ?_
  refine wp_ret ?_
  refine ret (rs := [.cell 2 27, .tmp 3]) (vs := [.agg _, .int _ _]) (v := (.tuple #[.agg _, .int _ _])) rfl ⟨⟨_, rfl, loadVar_agg V27 rfl C27 (by decide) (by rw [ints_length, A3.len]) A3.cells⟩, rfl, trivial⟩ rfl ?_
  rw [if_neg hnz]
  exact ⟨_, rfl, hE, rfl⟩
 have hz := c8
 obtain ⟨q1, q2, q3⟩ := S.check_zero.1 hz
 have hml := S.msg_len o ho q1 e4
 have hel : (S.encS o).length ≤ 418 := by unfold S.encS; rw [List.length_append, List.length_append]; omega
 rw [if_pos hz] at hxs
 subst hxs
 refine wp_skip ?_
 refine J6 _ _ ?_
 refine sq fun _ J11 => ?_
 refine RS.mvS rfl ?_
 refine RS.call E151 (sum _ _ _ _ _ _ K0 O1.row O1.own.pre (by have := O1.len; omega)) rfl (fun v12 w12 x12 A12 => ?_)
 replace hE := Ext.tr hE x12
 replace K0 := K0.ext x12
 replace D0 := D0.ext x12
 replace B2 := B2.ext x12
 replace A3 := A3.ext x12
 replace O1 := O1.ext x12
 have zw12 := x12.size
 subst A12
 have hsa := S.sha_arr (S.encS o)
 refine RS.nm ?_
 refine RS.exA ?_
 refine RS.exI ?_
 refine RS.storeArr A3 rfl rfl C27 (by decide) (by first | assumption | exact And.left (by assumption) | exact IArr.len (by assumption)) (by first | assumption | exact And.right (by assumption) | exact IArr.bd (by assumption)) (fun w13 y13 N13 => ?_)
 replace hE := hE.trans (y13.belo)
 replace K0 := K0.sto y13
 replace D0 := D0.sto y13
 replace B2 := B2.sto y13
 replace O1 := O1.stQ y13 (fun _ h => (O1.own.lo _ h).1)
 have zw13 := y13.size
 replace A3 := N13
 refine RS.asI rfl ?_
 refine nl J11 ?_
 refine wp_ret ?_
 refine ret (rs := [.cell 2 27, .tmp 3]) (vs := [.agg _, .int _ _]) (v := (.tuple #[.agg _, .int _ _])) rfl ⟨⟨_, rfl, loadVar_agg V27 rfl C27 (by decide) (by rw [ints_length, A3.len]) A3.cells⟩, rfl, trivial⟩ rfl ?_
 rw [if_pos hz, hz]
 exact ⟨_, rfl, hE, rfl⟩
theorem idOR {S0 : Nat → Prop} (o : S.OpV) (ho : o.ok) (pa : Option Addr) (pc : Nat) (w : World) (D0 : WRow .u8 32 S0 w pa o.n o.ids) (hc : o.n ≤ pc) :
  Calls Tryz.prog 205 #[.agg ([.int .u32 o.au, .slice pa o.n pc, .int .u64 o.st, .int .u8 o.k, .string o.key, .int .u8 o.vk, .int .i64 o.num, .int .u64 o.bits, .string o.t, .int .u32 o.e, .int .u32 o.s] : List Value).toArray] w (Ret w fun v _ => v = .tuple #[.agg (ints .u8 (if S.checkE o = 0 then S.sha (S.encS o) else List.replicate 32 0)).toArray, .int .i64 (S.checkE o)]) := by
 replace D0 := D0.weaken (T := fun k => k < w.heap.size) (fun k hk _ => hk)
 have o1 := ho.au
 have o2 := ho.st
 have o3 := ho.k
 have o4 := ho.vk
 have o5 := ho.num
 have o6 := ho.bits
 have o7 := ho.e
 have o8 := ho.s
 have o9 := ho.n
 have o10 := ho.key
 have o11 := ho.t
 have e4 := D0.len
 have e7 := S.numS_len o.e
 have e8 := S.numS_len o.s
 have hz0 := Arr.zeros .u8 32
 have hE := Ext.refl w
 refine enterU 11 Tryz.func205 rfl rfl ?_
 refine sq fun _ J1 => ?_
 refine RS.box rfl rfl (fun b2 w2 e2 s2 x2 B2 => ?_)
 refine RS.nm ?_
 replace hE := Ext.tr hE x2
 replace D0 := D0.ext x2
 have zw2 := x2.size
 refine RS.alloc T27 (fun b3 w3 e3 s3 x3 B3 => ?_)
 refine RS.nm ?_
 replace hE := Ext.tr hE x3
 replace D0 := D0.ext x3
 replace B2 := B2.ext x3
 have zw3 := x3.size
 have A3 : IArr .u8 w3 b3 32 (List.replicate 32 0) [] 27 := IArr.zero B3
 clear B3
 refine RS.asI rfl ?_
 refine nl J1 ?_
 refine wx fun _ J4 => ?_
 refine sq fun _ J5 => ?_
 refine RS.la V44 C44 B2 11 ?_
 refine RS.call E165 (checkOR o ho _ _ _ D0 hc) rfl (fun v6 w6 x6 A6 => ?_)
 replace hE := Ext.tr hE x6
 replace D0 := D0.ext x6
 replace B2 := B2.ext x6
 replace A3 := A3.ext x6
 have zw6 := x6.size
 subst A6
 refine RS.nm ?_
 refine RS.o (D.ne rfl rfl) ?_
 refine nl J5 ?_
 refine C.ifn rfl (fun c7 => ?_) (fun c7 => ?_)
 ·have hnz := c7
  refine sq fun _ J8 => ?_
  refine RS.o (D.build0 V27 T27 C5) ?_
  refine RS.la V44 C44 B2 11 ?_
  refine RS.call E165 (checkOR o ho _ _ _ D0 hc) rfl (fun v9 w9 x9 A9 => ?_)
  replace hE := Ext.tr hE x9
  replace D0 := D0.ext x9
  replace B2 := B2.ext x9
  replace A3 := A3.ext x9
  have zw9 := x9.size
  subst A9
  refine RS.nm ?_
  refine RS.storeArr A3 rfl rfl C27 (by decide) (by first | assumption | exact And.left (by assumption) | exact IArr.len (by assumption)) (by first | assumption | exact And.right (by assumption) | exact IArr.bd (by assumption)) (fun w10 y10 N10 => ?_)
  replace hE := hE.trans (y10.belo)
  replace D0 := D0.sto y10
  replace B2 := B2.sto y10
  have zw10 := y10.size
  replace A3 := N10
  refine RS.asI rfl ?_
  refine nl J8 ?_
  refine wp_ret ?_
  refine ret (rs := [.cell 2 27, .tmp 3]) (vs := [.agg _, .int _ _]) (v := (.tuple #[.agg _, .int _ _])) rfl ⟨⟨_, rfl, loadVar_agg V27 rfl C27 (by decide) (by rw [ints_length, A3.len]) A3.cells⟩, rfl, trivial⟩ rfl ?_
  rw [if_neg hnz]
  exact ⟨_, rfl, hE, rfl⟩
 have hz := c7
 obtain ⟨q1, q2, q3⟩ := S.check_zero.1 hz
 have hml := S.msg_len o ho q1 e4
 have hzb : S.checkE o.bare = 0 := S.check_zero.2 ⟨q1, q2, q3.1, q3.2.1, (by show (0 : Int) < 500000003; decide), (by show (0 : Int) < 500000003; decide), q3.2.2.2.2⟩
 have hfv : o.k = 4 → S.FineV o.vk o.num o.bits o.t := fun h4 => by rcases q3.2.2.2.2 with h | h | h; exact absurd h.1 (by show o.k ≠ 1; omega); exact absurd h.1 (by show ¬ (o.k = 2 ∨ o.k = 3); omega); exact h.2.2
 refine wp_skip ?_
 refine J4 _ _ ?_
 refine sq fun _ J11 => ?_
 refine RS.la V44 C44 B2 11 ?_
 refine RS.call E17 (ofO o ho _ _ _ D0 hc q1 hfv) rfl (fun v12 w12 x12 A12 => ?_)
 replace hE := Ext.tr hE x12
 replace D0 := D0.ext x12
 replace B2 := B2.ext x12
 replace A3 := A3.ext x12
 have zw12 := x12.size
 subst A12
 have hsa := S.sha_arr (S.encS o)
 refine RS.nm ?_
 refine RS.storeArr A3 rfl rfl C27 (by decide) (by first | assumption | exact And.left (by assumption) | exact IArr.len (by assumption)) (by first | assumption | exact And.right (by assumption) | exact IArr.bd (by assumption)) (fun w13 y13 N13 => ?_)
 replace hE := hE.trans (y13.belo)
 replace D0 := D0.sto y13
 replace B2 := B2.sto y13
 have zw13 := y13.size
 replace A3 := N13
 refine RS.asI rfl ?_
 refine nl J11 ?_
 refine wp_ret ?_
 refine ret (rs := [.cell 2 27, .tmp 3]) (vs := [.agg _, .int _ _]) (v := (.tuple #[.agg _, .int _ _])) rfl ⟨⟨_, rfl, loadVar_agg V27 rfl C27 (by decide) (by rw [ints_length, A3.len]) A3.cells⟩, rfl, trivial⟩ rfl ?_
 rw [if_pos hz, hz]
 exact ⟨_, rfl, hE, rfl⟩
end Go.Proofs.YtkmaenmhcgohbaaGreatDoor.W
namespace Go.Proofs.YtkmaenmhcgohbaaGreatDoor.S
open G
def by4 (n : Int) : List Int := [n / 2 ^ (24 : Int).toNat % 256, n / 2 ^ (16 : Int).toNat % 256, n / 2 ^ (8 : Int).toNat % 256, n % 256]
def headS (kind : Int) (l : List Int) : List Int := kind :: l.flatMap by4
theorem by4_len (n : Int) : (by4 n).length = 4 := rfl
theorem head_snoc (kind : Int) (l : List Int) (i : Nat) (h : i < l.length) : headS kind (l.take (i + 1)) = headS kind (l.take i) ++ by4 (l.getD i 0) := by
  unfold headS
  rw [take_snoc l i h, List.flatMap_append, List.cons_append]
  simp
theorem head_len (kind : Int) : ∀ l : List Int, (headS kind l).length = 1 + 4 * l.length
  | [] => rfl
  | x :: l => by
    have := head_len kind l
    simp only [headS, List.length_cons, List.flatMap_cons, List.length_append, by4_len] at *
    omega
def hashS (kind : Int) (l m : List Int) : Int := be ((sha (headS kind l ++ m)).take 8)
theorem be_step (xs : List Int) (i : Nat) (hB : Bd .u8 xs) (hi : i < 8) (hl : 8 ≤ xs.length) : ior (be (xs.take i) * 2 ^ (8 : Int).toNat % 18446744073709551616) (xs.getD i 0) = be (xs.take (i + 1)) := by
  have hb := be_bd _ (hB.take i)
  have hx := hB.get i
  simp only [lim] at hx
  have hp : (256 : Int) ^ (xs.take i).length ≤ 256 ^ 7 := pow256 (by simp; omega)
  have h256 : (256 : Int) ^ 7 = 72057594037927936 := by decide
  have h8 : (2 : Int) ^ (8 : Int).toNat = 256 := by decide
  rw [take_snoc xs i (by omega), be_snoc, h8, Int.emod_eq_of_lt (by omega) (by omega)]
  exact ior_add _ _ hb.1 hx
theorem be8_lt (xs : List Int) (i : Nat) (hB : Bd .u8 xs) (hi : i ≤ 8) : 0 ≤ be (xs.take i) ∧ be (xs.take i) < 18446744073709551616 := by
  have hb := be_bd _ (hB.take i)
  have hp : (256 : Int) ^ (xs.take i).length ≤ 256 ^ 8 := pow256 (by simp; omega)
  have h256 : (256 : Int) ^ 8 = 18446744073709551616 := by decide
  omega
theorem hash_bd (kind : Int) (l m : List Int) : 0 ≤ hashS kind l m ∧ hashS kind l m < 18446744073709551616 := be8_lt _ 8 (sha_arr _).2 (Nat.le_refl _)
def chalS (r y : Int) (m : List Int) : Int := hashS 99 [r, y] m % 500000003
def pubS (x : Int) : Int := pw 4 x 1000000007
def verS (y : Int) (m : List Int) (e s : Int) : Int :=
  if isG y = false then 2 else if 9991 < m.length then 4 else if ¬ (e < 500000003 ∧ s < 500000003) then 22
  else if chalS (pubS s * pw y (500000003 - e) 1000000007 % 1000000007) y m = e then 0 else 22
def fpw : Nat → Int → Int → Int → Int → Int
  | 0, _, _, r, m => r % m
  | f + 1, a, n, r, m => if n % 2 = 1 then fpw f (a * a % m) (n / 2) (r * a % m) m else fpw f (a * a % m) (n / 2) r m
theorem fpw_eq : ∀ (f : Nat) (a n r m : Int), 0 ≤ n → n < 2 ^ f → fpw f a n r m = r * a ^ n.toNat % m
  | 0, a, n, r, m, h0, h => by
    obtain rfl : n = 0 := by simp at h; omega
    simp [fpw]
  | f + 1, a, n, r, m, h0, h => by
    have h2 : n / 2 < 2 ^ f := by rw [Int.pow_succ] at h; omega
    rw [fpw]
    split
    · rename_i ho
      rw [fpw_eq f _ _ _ _ (by omega) h2, power_odd a r m n h0 ho]
    · rename_i ho
      rw [fpw_eq f _ _ _ _ (by omega) h2, power_even a r m n h0 ho]
theorem pw_fast (a n m : Int) (h0 : 0 ≤ n) (h : n < 1073741824) : pw a n m = fpw 30 a n 1 m := by
  rw [fpw_eq 30 a n 1 m h0 h, pw, Int.one_mul]
theorem pw_pw (a x n m : Int) (hx : 0 ≤ x) (hn : 0 ≤ n) : pw (pw a x m) n m = pw a (x * n) m := by
  unfold pw
  rw [mod_pow, ← Int.pow_mul, Int.toNat_mul hx hn]
theorem pw_add (a x n m : Int) (hx : 0 ≤ x) (hn : 0 ≤ n) : pw a x m * pw a n m % m = pw a (x + n) m := by
  unfold pw
  rw [← Int.mul_emod, ← Int.pow_add, Int.toNat_add hx hn]
theorem pw_cyc (a q t m : Int) (hm : 1 < m) (hq : 0 ≤ q) (ht : 0 ≤ t) (h : pw a q m = 1) : pw a (q * t) m = 1 := by
  rw [← pw_pw a q t m hq ht, h, pw, Int.one_pow]
  exact Int.emod_eq_of_lt (by omega) hm
theorem pw_mod (a q n m : Int) (hm : 1 < m) (hq : 0 < q) (hn : 0 ≤ n) (h : pw a q m = 1) : pw a n m = pw a (n % q) m := by
  have h1 := Int.emod_nonneg n (show q ≠ 0 by omega)
  have h2 : 0 ≤ n / q := Int.ediv_nonneg hn (by omega)
  have h3 := pw_nonneg a (n % q) m (by omega)
  have h4 := pw_lt a (n % q) m (by omega)
  have e : n = q * (n / q) + n % q := (Int.mul_ediv_add_emod n q).symm
  conv => lhs; rw [e]
  rw [← pw_add a _ _ m (Int.mul_nonneg (by omega) h2) h1, pw_cyc a q _ m hm (by omega) h2 h, Int.one_mul]
  exact Int.emod_eq_of_lt h3 h4
theorem gen_one : pw 4 500000003 1000000007 = 1 := by
  rw [pw_fast _ _ _ (by decide) (by decide)]
  decide +kernel
theorem isG_of (a q : Int) (hq : q = 500000003) (h0 : 0 ≤ a) (h1 : a < 1000000007) (h : pw a q 1000000007 = 1) : isG a = true := by
  have h2 : 0 < a := by
    rcases Int.lt_or_eq_of_le h0 with h2 | h2
    · exact h2
    · rw [← h2] at h
      unfold pw at h
      rw [Int.zero_pow (by omega)] at h
      simp at h
  rw [isG_true h2 h1, ← hq, h]
  rfl
theorem isG_one {a : Int} (h : isG a = true) : pw a 500000003 1000000007 = 1 := by
  have hb := isG_bd h
  rw [isG_true hb.1 hb.2] at h
  exact eq_of_beq h
theorem isG_pw (a n q : Int) (hq : q = 500000003) (h1 : pw a q 1000000007 = 1) (hn : 0 ≤ n) : isG (pw a n 1000000007) = true := by
  refine isG_of _ q hq (pw_nonneg _ _ _ (by decide)) (pw_lt _ _ _ (by decide)) ?_
  rw [pw_pw a n q _ hn (by omega), Int.mul_comm, pw_cyc a q n _ (by decide) (by omega) hn h1]
theorem isG_pub (n : Int) (hn : 0 ≤ n) : isG (pubS n) = true := isG_pw 4 n _ rfl gen_one hn
theorem isG_back {a : Int} (n : Int) (h : isG a = true) (hn : 0 ≤ n) : isG (pw a n 1000000007) = true := isG_pw a n _ rfl (isG_one h) hn
def OpV.zero : OpV := ⟨0, 0, 0, 0, 0, 0, 0, 0, 0, [], .empty, .empty⟩
theorem OpV.zero_ok : OpV.zero.ok := ⟨by decide, by decide, by decide, by decide, by decide, by decide, by decide, by decide, by decide, by decide, by decide⟩
def verE (o : OpV) : Int := if checkE o = 0 then verS o.au (msgS o) o.e o.s else checkE o
theorem pub_bd (x : Int) : 0 ≤ pubS x ∧ pubS x < 1000000007 := ⟨pw_nonneg _ _ _ (by decide), pw_lt _ _ _ (by decide)⟩
theorem pub_eq (x : Int) : pw 4 x 1000000007 = pubS x := rfl
theorem chal_eq (r y : Int) (m : List Int) : hashS 99 [r, y] m % 500000003 = chalS r y m := rfl
theorem hash_eq (kind : Int) (l m : List Int) : be ((sha (headS kind l ++ m)).take 8) = hashS kind l m := rfl
theorem check_bare {o : OpV} (h : checkE o = 0) : checkE o.bare = 0 := by
  obtain ⟨q1, q2, q3⟩ := check_zero.1 h
  exact check_zero.2 ⟨q1, q2, q3.1, q3.2.1, (by show (0 : Int) < 500000003; decide), (by show (0 : Int) < 500000003; decide), q3.2.2.2.2⟩
def Fit (o : OpV) : Prop := ¬ (20 < o.n ∨ 100 < o.key.size ∨ 100 < o.t.size) ∧ checkE o = 0
instance (o : OpV) : Decidable (Fit o) := by unfold Fit; infer_instance
def hashE (m : List Int) : Int := if 9991 < m.length then 4 else 0
attribute [irreducible] hashS chalS pubS
end Go.Proofs.YtkmaenmhcgohbaaGreatDoor.S
