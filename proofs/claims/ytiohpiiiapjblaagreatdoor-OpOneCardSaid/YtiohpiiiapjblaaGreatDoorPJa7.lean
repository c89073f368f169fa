/-
  Part 7 of the lemmas of these laws: OpOne, JudgeSigned.
-/
import Derived.Test.YtiohpiiiapjblaaGreatDoorPJa6
namespace Go.Proofs.YtiohpiiiapjblaaGreatDoor.W
open Go.RowKit Go.Proofs.YtiohpiiiapjblaaGreatDoor.G
set_option linter.unusedVariables false
set_option maxRecDepth 20000
set_option maxHeartbeats 8000000
attribute [local irreducible] RS RX
theorem C29 : Tryz.prog.cellsOf 29 = 6 := by kernel_rfl
theorem T29 : TI Tryz.prog 29 6 64 [.int .u8 0, .string .empty, .int .u8 0, .int .i64 0, .int .u64 0, .string .empty] := by
 have h : (Tryz.prog.info? 29).map (fun i => (i.size, i.bytes, i.zero)) = some (6, 64, some (.agg #[.int .u8 0, .string .empty, .int .u8 0, .int .i64 0, .int .u64 0, .string .empty])) := by kernel_rfl
 exact TI.of h rfl
theorem F29 : SI Tryz.prog 29 [(0, 1), (1, 1), (2, 4)] := ⟨_, Tryz.underlying29, by kernel_rfl, by kernel_rfl⟩
theorem E116 : Enters Tryz.prog 116 := .mk Tryz.func116 (by kernel_rfl) rfl
theorem E117 : Enters Tryz.prog 117 := .mk Tryz.func117 (by kernel_rfl) rfl
theorem E132 : Enters Tryz.prog 132 := .mk Tryz.func132 (by kernel_rfl) rfl
theorem checkAct (k vk num bits : Int) (ky t : ByteArray) (hk : 0 ≤ k ∧ k < 256) (hvk : 0 ≤ vk ∧ vk < 256) (hnum : -9223372036854775808 ≤ num ∧ num ≤ 9223372036854775807) (hb : 0 ≤ bits ∧ bits < 18446744073709551616) (hkey : ky.size ≤ 100000) (ht : t.size ≤ 100000) (w : World) :
  Calls Tryz.prog 83 #[.agg ([.int .u8 k, .string ky, .int .u8 vk, .int .i64 num, .int .u64 bits, .string t] : List Value).toArray] w (Ret w fun v _ => v = .int .i64 (S.actE k ky vk num bits t)) := by
 have hE := Ext.refl w
 refine enter (args := [.agg ([.int .u8 k, .string ky, .int .u8 vk, .int .i64 num, .int .u64 bits, .string t] : List Value).toArray]) (l := [.agg ([.int .u8 k, .string ky, .int .u8 vk, .int .i64 num, .int .u64 bits, .string t] : List Value).toArray, undef, undef, undef, undef, undef, undef, undef, undef, undef, undef, undef, undef, undef, undef, undef, undef, undef, undef, undef, undef, undef, undef, undef, undef, undef, undef, undef, undef, undef, undef, undef, undef, undef, undef, undef]) Tryz.func83 rfl rfl ?_
 refine wp_seq_k (fun K1 hK1 => ?_)
 refine region ?_
 refine RS.box rfl rfl (fun b2 w2 e2 s2 x2 B2 => ?_)
 refine RS.norm (by dsimp only [List.set]) ?_
 replace hE := Ext.tr hE x2
 have zw2 := x2.size
 refine RS.assign (v := .int .i64 0) rfl ?_
 refine RS.nil ?_
 refine hK1 _ _ ?_
 try clear hK1
 refine wp_seq_k (fun K3 hK3 => ?_)
 refine region ?_
 refine RS.assign (v := .bool false) rfl ?_
 refine RS.nil ?_
 refine hK3 _ _ ?_
 try clear hK3
 refine wp_seq_k (fun K4 hK4 => ?_)
 refine wp_seq_k (fun K5 hK5 => ?_)
 refine region ?_
 refine RS.o (D.fieldL 0 rfl Tryz.underlying29 rfl C5 (by decide) rfl) ?_
 refine RS.o (D.load rfl Tryz.underlying5 rfl (B2.cell rfl)) ?_
 refine RS.nil ?_
 refine hK5 _ _ ?_
 try clear hK5
 refine wp_block ?_
 refine wp_seq_k (fun K6 hK6 => ?_)
 refine region ?_
 refine RS.o (D.eq rfl rfl) ?_
 refine RS.assign (v := .bool _) rfl ?_
 refine RS.nil ?_
 refine hK6 _ _ ?_
 try clear hK6
 refine C.ife rfl (fun c7 => ?_) (fun c7 => ?_)
 ·refine region ?_
  refine RS.o (D.loadAgg rfl Tryz.underlying29 rfl C29 (by decide) rfl (B2.cellsN 6 rfl)) ?_
  refine RS.o (D.buildS T29 F29 (ps := [(0, .int _ _)]) rfl rfl) ?_
  refine RS.o (D.eqA rfl rfl Tryz.underlying29 rfl (by kernel_rfl) (by kernel_rfl) (by kernel_rfl)) ?_
  refine RS.assign (v := .bool _) rfl ?_
  refine RS.nil ?_
  refine hK4 _ _ ?_
  try clear hK4
  refine wp_seq_k (fun K8 hK8 => ?_)
  refine wp_seq_k (fun K9 hK9 => ?_)
  refine region ?_
  refine RS.move (v := .bool _) rfl ?_
  refine RS.o (D.not rfl) ?_
  refine RS.nil ?_
  refine hK9 _ _ ?_
  try clear hK9
  refine C.ifnot rfl (fun c10 => ?_) (fun c10 => ?_)
  ·first | (have hqa := of_decide_eq_false ((S.eqA6 _ _ _ _ _ _ _ _ _ _ _ _).symm.trans c10)) | (have hqa := of_decide_eq_false ((S.eqV _ _ _ _ _ _ _ _).symm.trans c10)) | (have hqa := of_decide_eq_false ((strEq _ _).symm.trans c10)) | (have hqa := of_decide_eq_false c10) | (have hqa := c10)
   refine wp_seq_k (fun K11 hK11 => ?_)
   refine region ?_
   refine RS.assign (v := .int .i64 8) rfl ?_
   refine RS.nil ?_
   refine hK11 _ _ ?_
   try clear hK11
   refine wp_ret ?_
   refine ret (rs := [.tmp 2]) (vs := [.int _ _]) (v := (.int _ _)) rfl ⟨rfl, trivial⟩ rfl ?_
   refine ⟨_, rfl, hE, congrArg (Value.int .i64) ?_⟩
   first | (refine S.actE_pos ?_; grind [S.FineAct, S.valE_zero]) | (refine S.actE_neg ?_; grind [S.FineAct, S.valE_zero])
  ·first | (have hqa := of_decide_eq_true ((S.eqA6 _ _ _ _ _ _ _ _ _ _ _ _).symm.trans c10)) | (have hqa := of_decide_eq_true ((S.eqV _ _ _ _ _ _ _ _).symm.trans c10)) | (have hqa := of_decide_eq_true ((strEq _ _).symm.trans c10)) | (have hqa := of_decide_eq_true c10) | (have hqa := c10)
   refine wp_skip ?_
   refine hK8 _ _ ?_
   try clear hK8
   refine wp_seq_k (fun K12 hK12 => ?_)
   refine region ?_
   refine RS.assign (v := .int .i64 0) rfl ?_
   refine RS.nil ?_
   refine hK12 _ _ ?_
   try clear hK12
   refine wp_ret ?_
   refine ret (rs := [.tmp 2]) (vs := [.int _ _]) (v := (.int _ _)) rfl ⟨rfl, trivial⟩ rfl ?_
   refine ⟨_, rfl, hE, congrArg (Value.int .i64) ?_⟩
   first | (refine S.actE_pos ?_; grind [S.FineAct, S.valE_zero]) | (refine S.actE_neg ?_; grind [S.FineAct, S.valE_zero])
 ·refine wp_seq_k (fun K13 hK13 => ?_)
  refine wp_seq_k (fun K14 hK14 => ?_)
  refine region ?_
  refine RS.o (D.eq rfl rfl) ?_
  refine RS.assign (v := .bool _) rfl ?_
  refine RS.nil ?_
  refine hK14 _ _ ?_
  try clear hK14
  refine C.ife rfl (fun c15 => ?_) (fun c15 => ?_)
  ·refine wp_skip ?_
   refine hK13 _ _ ?_
   try clear hK13
   refine C.ifb rfl (fun z16 => ?_) (fun z16 => ?_)
   ·refine region ?_
    refine RS.o (D.fieldL 1 rfl Tryz.underlying29 rfl C9 (by decide) rfl) ?_
    refine RS.o (D.load rfl Tryz.underlying9 rfl (B2.cell rfl)) ?_
    refine RS.call E132 (key _ _) rfl (fun v17 w17 x17 A17 => ?_)
    replace hE := Ext.tr hE x17
    replace B2 := B2.ext x17
    have zw17 := x17.size
    subst A17
    refine RS.norm (by dsimp only [List.set]) ?_
    refine RS.move (v := .bool _) rfl ?_
    refine RS.splitb 17 rfl rfl (fun c18 => ?_) (fun c18 => ?_)
    ·refine RS.norm (by dsimp only [List.set]) ?_
     have hkt := of_decide_eq_true c18
     refine RS.wantB 17 rfl rfl rfl ?_
     refine RS.o (D.fieldL 2 rfl Tryz.underlying29 rfl C27 (by decide) rfl) ?_
     refine RS.wantB 17 rfl rfl rfl ?_
     refine RS.o (D.loadAgg rfl Tryz.underlying27 rfl C27 (by decide) rfl (B2.cellsN 4 rfl)) ?_
     refine RS.wantB 17 rfl rfl rfl ?_
     refine RS.o (D.buildS T27 F27 (ps := []) rfl rfl) ?_
     refine RS.wantB 17 rfl rfl rfl ?_
     refine RS.o (D.eqA rfl rfl Tryz.underlying27 rfl (by kernel_rfl) (by kernel_rfl) (by kernel_rfl)) ?_
     refine RS.pick (v := .bool _) rfl rfl ?_
     refine RS.assign (v := .bool _) rfl ?_
     refine RS.nil ?_
     refine hK4 _ _ ?_
     try clear hK4
     refine wp_seq_k (fun K19 hK19 => ?_)
     refine wp_seq_k (fun K20 hK20 => ?_)
     refine region ?_
     refine RS.move (v := .bool _) rfl ?_
     refine RS.o (D.not rfl) ?_
     refine RS.nil ?_
     refine hK20 _ _ ?_
     try clear hK20
     refine C.ifnot rfl (fun c21 => ?_) (fun c21 => ?_)
     ·first | (have hqa := of_decide_eq_false ((S.eqA6 _ _ _ _ _ _ _ _ _ _ _ _).symm.trans c21)) | (have hqa := of_decide_eq_false ((S.eqV _ _ _ _ _ _ _ _).symm.trans c21)) | (have hqa := of_decide_eq_false ((strEq _ _).symm.trans c21)) | (have hqa := of_decide_eq_false c21) | (have hqa := c21)
      refine wp_seq_k (fun K22 hK22 => ?_)
      refine region ?_
      refine RS.assign (v := .int .i64 8) rfl ?_
      refine RS.nil ?_
      refine hK22 _ _ ?_
      try clear hK22
      refine wp_ret ?_
      refine ret (rs := [.tmp 2]) (vs := [.int _ _]) (v := (.int _ _)) rfl ⟨rfl, trivial⟩ rfl ?_
      refine ⟨_, rfl, hE, congrArg (Value.int .i64) ?_⟩
      first | (refine S.actE_pos ?_; grind [S.FineAct, S.valE_zero]) | (refine S.actE_neg ?_; grind [S.FineAct, S.valE_zero])
     ·first | (have hqa := of_decide_eq_true ((S.eqA6 _ _ _ _ _ _ _ _ _ _ _ _).symm.trans c21)) | (have hqa := of_decide_eq_true ((S.eqV _ _ _ _ _ _ _ _).symm.trans c21)) | (have hqa := of_decide_eq_true ((strEq _ _).symm.trans c21)) | (have hqa := of_decide_eq_true c21) | (have hqa := c21)
      refine wp_skip ?_
      refine hK19 _ _ ?_
      try clear hK19
      refine wp_seq_k (fun K23 hK23 => ?_)
      refine region ?_
      refine RS.assign (v := .int .i64 0) rfl ?_
      refine RS.nil ?_
      refine hK23 _ _ ?_
      try clear hK23
      refine wp_ret ?_
      refine ret (rs := [.tmp 2]) (vs := [.int _ _]) (v := (.int _ _)) rfl ⟨rfl, trivial⟩ rfl ?_
      refine ⟨_, rfl, hE, congrArg (Value.int .i64) ?_⟩
      first | (refine S.actE_pos ?_; grind [S.FineAct, S.valE_zero]) | (refine S.actE_neg ?_; grind [S.FineAct, S.valE_zero])
    ·refine RS.norm (by dsimp only [List.set]) ?_
     have hkf := of_decide_eq_false c18
     refine RS.skipB (b := false) 17 rfl rfl rfl rfl ?_
     refine RS.norm (by dsimp only [putL, List.set]) ?_
     refine RS.skipB (b := false) 17 rfl rfl rfl rfl ?_
     refine RS.norm (by dsimp only [putL, List.set]) ?_
     refine RS.skipB (b := false) 17 rfl rfl rfl rfl ?_
     refine RS.norm (by dsimp only [putL, List.set]) ?_
     refine RS.skipB (b := false) 17 rfl rfl rfl rfl ?_
     refine RS.norm (by dsimp only [putL, List.set]) ?_
     refine RS.pick (v := .bool false) rfl rfl ?_
     refine RS.assign (v := .bool _) rfl ?_
     refine RS.nil ?_
     refine hK4 _ _ ?_
     try clear hK4
     refine wp_seq_k (fun K24 hK24 => ?_)
     refine wp_seq_k (fun K25 hK25 => ?_)
     refine region ?_
     refine RS.move (v := .bool _) rfl ?_
     refine RS.o (D.not rfl) ?_
     refine RS.nil ?_
     refine hK25 _ _ ?_
     try clear hK25
     refine C.ifnot rfl (fun c26 => ?_) (fun c26 => ?_)
     ·first | (have hqa := of_decide_eq_false ((S.eqA6 _ _ _ _ _ _ _ _ _ _ _ _).symm.trans c26)) | (have hqa := of_decide_eq_false ((S.eqV _ _ _ _ _ _ _ _).symm.trans c26)) | (have hqa := of_decide_eq_false ((strEq _ _).symm.trans c26)) | (have hqa := of_decide_eq_false c26) | (have hqa := c26)
      refine wp_seq_k (fun K27 hK27 => ?_)
      refine region ?_
      refine RS.assign (v := .int .i64 8) rfl ?_
      refine RS.nil ?_
      refine hK27 _ _ ?_
      try clear hK27
      refine wp_ret ?_
      refine ret (rs := [.tmp 2]) (vs := [.int _ _]) (v := (.int _ _)) rfl ⟨rfl, trivial⟩ rfl ?_
      refine ⟨_, rfl, hE, congrArg (Value.int .i64) ?_⟩
      first | (refine S.actE_pos ?_; grind [S.FineAct, S.valE_zero]) | (refine S.actE_neg ?_; grind [S.FineAct, S.valE_zero])
     ·first | (have hqa := of_decide_eq_true ((S.eqA6 _ _ _ _ _ _ _ _ _ _ _ _).symm.trans c26)) | (have hqa := of_decide_eq_true ((S.eqV _ _ _ _ _ _ _ _).symm.trans c26)) | (have hqa := of_decide_eq_true ((strEq _ _).symm.trans c26)) | (have hqa := of_decide_eq_true c26) | (have hqa := c26)
      refine wp_skip ?_
      refine hK24 _ _ ?_
      try clear hK24
      refine wp_seq_k (fun K28 hK28 => ?_)
      refine region ?_
      refine RS.assign (v := .int .i64 0) rfl ?_
      refine RS.nil ?_
      refine hK28 _ _ ?_
      try clear hK28
      refine wp_ret ?_
      refine ret (rs := [.tmp 2]) (vs := [.int _ _]) (v := (.int _ _)) rfl ⟨rfl, trivial⟩ rfl ?_
      refine ⟨_, rfl, hE, congrArg (Value.int .i64) ?_⟩
      first | (refine S.actE_pos ?_; grind [S.FineAct, S.valE_zero]) | (refine S.actE_neg ?_; grind [S.FineAct, S.valE_zero])
   ·exact absurd z16 (by first | (simp [c15]; done) | (simp_all; done) | omega)
  ·refine region ?_
   refine RS.o (D.eq rfl rfl) ?_
   refine RS.assign (v := .bool _) rfl ?_
   refine RS.nil ?_
   refine hK13 _ _ ?_
   try clear hK13
   refine C.ife rfl (fun c29 => ?_) (fun c29 => ?_)
   ·refine region ?_
    refine RS.o (D.fieldL 1 rfl Tryz.underlying29 rfl C9 (by decide) rfl) ?_
    refine RS.o (D.load rfl Tryz.underlying9 rfl (B2.cell rfl)) ?_
    refine RS.call E132 (key _ _) rfl (fun v30 w30 x30 A30 => ?_)
    replace hE := Ext.tr hE x30
    replace B2 := B2.ext x30
    have zw30 := x30.size
    subst A30
    refine RS.norm (by dsimp only [List.set]) ?_
    refine RS.move (v := .bool _) rfl ?_
    refine RS.splitb 17 rfl rfl (fun c31 => ?_) (fun c31 => ?_)
    ·refine RS.norm (by dsimp only [List.set]) ?_
     have hkt := of_decide_eq_true c31
     refine RS.wantB 17 rfl rfl rfl ?_
     refine RS.o (D.fieldL 2 rfl Tryz.underlying29 rfl C27 (by decide) rfl) ?_
     refine RS.wantB 17 rfl rfl rfl ?_
     refine RS.o (D.loadAgg rfl Tryz.underlying27 rfl C27 (by decide) rfl (B2.cellsN 4 rfl)) ?_
     refine RS.wantB 17 rfl rfl rfl ?_
     refine RS.o (D.buildS T27 F27 (ps := []) rfl rfl) ?_
     refine RS.wantB 17 rfl rfl rfl ?_
     refine RS.o (D.eqA rfl rfl Tryz.underlying27 rfl (by kernel_rfl) (by kernel_rfl) (by kernel_rfl)) ?_
     refine RS.pick (v := .bool _) rfl rfl ?_
     refine RS.assign (v := .bool _) rfl ?_
     refine RS.nil ?_
     refine hK4 _ _ ?_
     try clear hK4
     refine wp_seq_k (fun K32 hK32 => ?_)
     refine wp_seq_k (fun K33 hK33 => ?_)
     refine region ?_
     refine RS.move (v := .bool _) rfl ?_
     refine RS.o (D.not rfl) ?_
     refine RS.nil ?_
     refine hK33 _ _ ?_
     try clear hK33
     refine C.ifnot rfl (fun c34 => ?_) (fun c34 => ?_)
     ·first | (have hqa := of_decide_eq_false ((S.eqA6 _ _ _ _ _ _ _ _ _ _ _ _).symm.trans c34)) | (have hqa := of_decide_eq_false ((S.eqV _ _ _ _ _ _ _ _).symm.trans c34)) | (have hqa := of_decide_eq_false ((strEq _ _).symm.trans c34)) | (have hqa := of_decide_eq_false c34) | (have hqa := c34)
      refine wp_seq_k (fun K35 hK35 => ?_)
      refine region ?_
      refine RS.assign (v := .int .i64 8) rfl ?_
      refine RS.nil ?_
      refine hK35 _ _ ?_
      try clear hK35
      refine wp_ret ?_
      refine ret (rs := [.tmp 2]) (vs := [.int _ _]) (v := (.int _ _)) rfl ⟨rfl, trivial⟩ rfl ?_
      refine ⟨_, rfl, hE, congrArg (Value.int .i64) ?_⟩
      first | (refine S.actE_pos ?_; grind [S.FineAct, S.valE_zero]) | (refine S.actE_neg ?_; grind [S.FineAct, S.valE_zero])
     ·first | (have hqa := of_decide_eq_true ((S.eqA6 _ _ _ _ _ _ _ _ _ _ _ _).symm.trans c34)) | (have hqa := of_decide_eq_true ((S.eqV _ _ _ _ _ _ _ _).symm.trans c34)) | (have hqa := of_decide_eq_true ((strEq _ _).symm.trans c34)) | (have hqa := of_decide_eq_true c34) | (have hqa := c34)
      refine wp_skip ?_
      refine hK32 _ _ ?_
      try clear hK32
      refine wp_seq_k (fun K36 hK36 => ?_)
      refine region ?_
      refine RS.assign (v := .int .i64 0) rfl ?_
      refine RS.nil ?_
      refine hK36 _ _ ?_
      try clear hK36
      refine wp_ret ?_
      refine ret (rs := [.tmp 2]) (vs := [.int _ _]) (v := (.int _ _)) rfl ⟨rfl, trivial⟩ rfl ?_
      refine ⟨_, rfl, hE, congrArg (Value.int .i64) ?_⟩
      first | (refine S.actE_pos ?_; grind [S.FineAct, S.valE_zero]) | (refine S.actE_neg ?_; grind [S.FineAct, S.valE_zero])
    ·refine RS.norm (by dsimp only [List.set]) ?_
     have hkf := of_decide_eq_false c31
     refine RS.skipB (b := false) 17 rfl rfl rfl rfl ?_
     refine RS.norm (by dsimp only [putL, List.set]) ?_
     refine RS.skipB (b := false) 17 rfl rfl rfl rfl ?_
     refine RS.norm (by dsimp only [putL, List.set]) ?_
     refine RS.skipB (b := false) 17 rfl rfl rfl rfl ?_
     refine RS.norm (by dsimp only [putL, List.set]) ?_
     refine RS.skipB (b := false) 17 rfl rfl rfl rfl ?_
     refine RS.norm (by dsimp only [putL, List.set]) ?_
     refine RS.pick (v := .bool false) rfl rfl ?_
     refine RS.assign (v := .bool _) rfl ?_
     refine RS.nil ?_
     refine hK4 _ _ ?_
     try clear hK4
     refine wp_seq_k (fun K37 hK37 => ?_)
     refine wp_seq_k (fun K38 hK38 => ?_)
     refine region ?_
     refine RS.move (v := .bool _) rfl ?_
     refine RS.o (D.not rfl) ?_
     refine RS.nil ?_
     refine hK38 _ _ ?_
     try clear hK38
     refine C.ifnot rfl (fun c39 => ?_) (fun c39 => ?_)
     ·first | (have hqa := of_decide_eq_false ((S.eqA6 _ _ _ _ _ _ _ _ _ _ _ _).symm.trans c39)) | (have hqa := of_decide_eq_false ((S.eqV _ _ _ _ _ _ _ _).symm.trans c39)) | (have hqa := of_decide_eq_false ((strEq _ _).symm.trans c39)) | (have hqa := of_decide_eq_false c39) | (have hqa := c39)
      refine wp_seq_k (fun K40 hK40 => ?_)
      refine region ?_
      refine RS.assign (v := .int .i64 8) rfl ?_
      refine RS.nil ?_
      refine hK40 _ _ ?_
      try clear hK40
      refine wp_ret ?_
      refine ret (rs := [.tmp 2]) (vs := [.int _ _]) (v := (.int _ _)) rfl ⟨rfl, trivial⟩ rfl ?_
      refine ⟨_, rfl, hE, congrArg (Value.int .i64) ?_⟩
      first | (refine S.actE_pos ?_; grind [S.FineAct, S.valE_zero]) | (refine S.actE_neg ?_; grind [S.FineAct, S.valE_zero])
     ·first | (have hqa := of_decide_eq_true ((S.eqA6 _ _ _ _ _ _ _ _ _ _ _ _).symm.trans c39)) | (have hqa := of_decide_eq_true ((S.eqV _ _ _ _ _ _ _ _).symm.trans c39)) | (have hqa := of_decide_eq_true ((strEq _ _).symm.trans c39)) | (have hqa := of_decide_eq_true c39) | (have hqa := c39)
      refine wp_skip ?_
      refine hK37 _ _ ?_
      try clear hK37
      refine wp_seq_k (fun K41 hK41 => ?_)
      refine region ?_
      refine RS.assign (v := .int .i64 0) rfl ?_
      refine RS.nil ?_
      refine hK41 _ _ ?_
      try clear hK41
      refine wp_ret ?_
      refine ret (rs := [.tmp 2]) (vs := [.int _ _]) (v := (.int _ _)) rfl ⟨rfl, trivial⟩ rfl ?_
      refine ⟨_, rfl, hE, congrArg (Value.int .i64) ?_⟩
      first | (refine S.actE_pos ?_; grind [S.FineAct, S.valE_zero]) | (refine S.actE_neg ?_; grind [S.FineAct, S.valE_zero])
   ·refine wp_seq_k (fun K42 hK42 => ?_)
    refine region ?_
    refine RS.o (D.eq rfl rfl) ?_
    refine RS.assign (v := .bool _) rfl ?_
    refine RS.nil ?_
    refine hK42 _ _ ?_
    try clear hK42
    refine C.ife rfl (fun c43 => ?_) (fun c43 => ?_)
    ·refine region ?_
     refine RS.o (D.fieldL 1 rfl Tryz.underlying29 rfl C9 (by decide) rfl) ?_
     refine RS.o (D.load rfl Tryz.underlying9 rfl (B2.cell rfl)) ?_
     refine RS.call E132 (key _ _) rfl (fun v44 w44 x44 A44 => ?_)
     replace hE := Ext.tr hE x44
     replace B2 := B2.ext x44
     have zw44 := x44.size
     subst A44
     refine RS.norm (by dsimp only [List.set]) ?_
     refine RS.move (v := .bool _) rfl ?_
     refine RS.splitb 28 rfl rfl (fun c45 => ?_) (fun c45 => ?_)
     ·refine RS.norm (by dsimp only [List.set]) ?_
      have hkt := of_decide_eq_true c45
      refine RS.wantB 28 rfl rfl rfl ?_
      refine RS.o (D.fieldL 2 rfl Tryz.underlying29 rfl C27 (by decide) rfl) ?_
      refine RS.wantB 28 rfl rfl rfl ?_
      refine RS.o (D.loadAgg rfl Tryz.underlying27 rfl C27 (by decide) rfl (B2.cellsN 4 rfl)) ?_
      refine RS.wantB 28 rfl rfl rfl ?_
      refine RS.call E78 (checkV _ _ _ _ hvk hnum hb _) rfl (fun v46 w46 x46 A46 => ?_)
      replace hE := Ext.tr hE x46
      replace B2 := B2.ext x46
      have zw46 := x46.size
      subst A46
      refine RS.norm (by dsimp only [List.set]) ?_
      refine RS.wantB 28 rfl rfl rfl ?_
      refine RS.o (D.eq rfl rfl) ?_
      refine RS.pick (v := .bool _) rfl rfl ?_
      refine RS.assign (v := .bool _) rfl ?_
      refine RS.nil ?_
      refine hK4 _ _ ?_
      try clear hK4
      refine wp_seq_k (fun K47 hK47 => ?_)
      refine wp_seq_k (fun K48 hK48 => ?_)
      refine region ?_
      refine RS.move (v := .bool _) rfl ?_
      refine RS.o (D.not rfl) ?_
      refine RS.nil ?_
      refine hK48 _ _ ?_
      try clear hK48
      refine C.ifnot rfl (fun c49 => ?_) (fun c49 => ?_)
      ·first | (have hqa := of_decide_eq_false ((S.eqA6 _ _ _ _ _ _ _ _ _ _ _ _).symm.trans c49)) | (have hqa := of_decide_eq_false ((S.eqV _ _ _ _ _ _ _ _).symm.trans c49)) | (have hqa := of_decide_eq_false ((strEq _ _).symm.trans c49)) | (have hqa := of_decide_eq_false c49) | (have hqa := c49)
       refine wp_seq_k (fun K50 hK50 => ?_)
       refine region ?_
       refine RS.assign (v := .int .i64 8) rfl ?_
       refine RS.nil ?_
       refine hK50 _ _ ?_
       try clear hK50
       refine wp_ret ?_
       refine ret (rs := [.tmp 2]) (vs := [.int _ _]) (v := (.int _ _)) rfl ⟨rfl, trivial⟩ rfl ?_
       refine ⟨_, rfl, hE, congrArg (Value.int .i64) ?_⟩
       first | (refine S.actE_pos ?_; grind [S.FineAct, S.valE_zero]) | (refine S.actE_neg ?_; grind [S.FineAct, S.valE_zero])
      ·first | (have hqa := of_decide_eq_true ((S.eqA6 _ _ _ _ _ _ _ _ _ _ _ _).symm.trans c49)) | (have hqa := of_decide_eq_true ((S.eqV _ _ _ _ _ _ _ _).symm.trans c49)) | (have hqa := of_decide_eq_true ((strEq _ _).symm.trans c49)) | (have hqa := of_decide_eq_true c49) | (have hqa := c49)
       refine wp_skip ?_
       refine hK47 _ _ ?_
       try clear hK47
       refine wp_seq_k (fun K51 hK51 => ?_)
       refine region ?_
       refine RS.assign (v := .int .i64 0) rfl ?_
       refine RS.nil ?_
       refine hK51 _ _ ?_
       try clear hK51
       refine wp_ret ?_
       refine ret (rs := [.tmp 2]) (vs := [.int _ _]) (v := (.int _ _)) rfl ⟨rfl, trivial⟩ rfl ?_
       refine ⟨_, rfl, hE, congrArg (Value.int .i64) ?_⟩
       first | (refine S.actE_pos ?_; grind [S.FineAct, S.valE_zero]) | (refine S.actE_neg ?_; grind [S.FineAct, S.valE_zero])
     ·refine RS.norm (by dsimp only [List.set]) ?_
      have hkf := of_decide_eq_false c45
      refine RS.skipB (b := false) 28 rfl rfl rfl rfl ?_
      refine RS.norm (by dsimp only [putL, List.set]) ?_
      refine RS.skipB (b := false) 28 rfl rfl rfl rfl ?_
      refine RS.norm (by dsimp only [putL, List.set]) ?_
      refine RS.skipB (b := false) 28 rfl rfl rfl rfl ?_
      refine RS.norm (by dsimp only [putL, List.set]) ?_
      refine RS.skipB (b := false) 28 rfl rfl rfl rfl ?_
      refine RS.norm (by dsimp only [putL, List.set]) ?_
      refine RS.pick (v := .bool false) rfl rfl ?_
      refine RS.assign (v := .bool _) rfl ?_
      refine RS.nil ?_
      refine hK4 _ _ ?_
      try clear hK4
      refine wp_seq_k (fun K52 hK52 => ?_)
      refine wp_seq_k (fun K53 hK53 => ?_)
      refine region ?_
      refine RS.move (v := .bool _) rfl ?_
      refine RS.o (D.not rfl) ?_
      refine RS.nil ?_
      refine hK53 _ _ ?_
      try clear hK53
      refine C.ifnot rfl (fun c54 => ?_) (fun c54 => ?_)
      ·first | (have hqa := of_decide_eq_false ((S.eqA6 _ _ _ _ _ _ _ _ _ _ _ _).symm.trans c54)) | (have hqa := of_decide_eq_false ((S.eqV _ _ _ _ _ _ _ _).symm.trans c54)) | (have hqa := of_decide_eq_false ((strEq _ _).symm.trans c54)) | (have hqa := of_decide_eq_false c54) | (have hqa := c54)
       refine wp_seq_k (fun K55 hK55 => ?_)
       refine region ?_
       refine RS.assign (v := .int .i64 8) rfl ?_
       refine RS.nil ?_
       refine hK55 _ _ ?_
       try clear hK55
       refine wp_ret ?_
       refine ret (rs := [.tmp 2]) (vs := [.int _ _]) (v := (.int _ _)) rfl ⟨rfl, trivial⟩ rfl ?_
       refine ⟨_, rfl, hE, congrArg (Value.int .i64) ?_⟩
       first | (refine S.actE_pos ?_; grind [S.FineAct, S.valE_zero]) | (refine S.actE_neg ?_; grind [S.FineAct, S.valE_zero])
      ·first | (have hqa := of_decide_eq_true ((S.eqA6 _ _ _ _ _ _ _ _ _ _ _ _).symm.trans c54)) | (have hqa := of_decide_eq_true ((S.eqV _ _ _ _ _ _ _ _).symm.trans c54)) | (have hqa := of_decide_eq_true ((strEq _ _).symm.trans c54)) | (have hqa := of_decide_eq_true c54) | (have hqa := c54)
       refine wp_skip ?_
       refine hK52 _ _ ?_
       try clear hK52
       refine wp_seq_k (fun K56 hK56 => ?_)
       refine region ?_
       refine RS.assign (v := .int .i64 0) rfl ?_
       refine RS.nil ?_
       refine hK56 _ _ ?_
       try clear hK56
       refine wp_ret ?_
       refine ret (rs := [.tmp 2]) (vs := [.int _ _]) (v := (.int _ _)) rfl ⟨rfl, trivial⟩ rfl ?_
       refine ⟨_, rfl, hE, congrArg (Value.int .i64) ?_⟩
       first | (refine S.actE_pos ?_; grind [S.FineAct, S.valE_zero]) | (refine S.actE_neg ?_; grind [S.FineAct, S.valE_zero])
    ·refine wp_skip ?_
     refine hK4 _ _ ?_
     try clear hK4
     refine wp_seq_k (fun K57 hK57 => ?_)
     refine wp_seq_k (fun K58 hK58 => ?_)
     refine region ?_
     refine RS.move (v := .bool _) rfl ?_
     refine RS.o (D.not rfl) ?_
     refine RS.nil ?_
     refine hK58 _ _ ?_
     try clear hK58
     refine C.ifnot rfl (fun c59 => ?_) (fun c59 => ?_)
     ·first | (have hqa := of_decide_eq_false ((S.eqA6 _ _ _ _ _ _ _ _ _ _ _ _).symm.trans c59)) | (have hqa := of_decide_eq_false ((S.eqV _ _ _ _ _ _ _ _).symm.trans c59)) | (have hqa := of_decide_eq_false ((strEq _ _).symm.trans c59)) | (have hqa := of_decide_eq_false c59) | (have hqa := c59)
      refine wp_seq_k (fun K60 hK60 => ?_)
      refine region ?_
      refine RS.assign (v := .int .i64 8) rfl ?_
      refine RS.nil ?_
      refine hK60 _ _ ?_
      try clear hK60
      refine wp_ret ?_
      refine ret (rs := [.tmp 2]) (vs := [.int _ _]) (v := (.int _ _)) rfl ⟨rfl, trivial⟩ rfl ?_
      refine ⟨_, rfl, hE, congrArg (Value.int .i64) ?_⟩
      first | (refine S.actE_pos ?_; grind [S.FineAct, S.valE_zero]) | (refine S.actE_neg ?_; grind [S.FineAct, S.valE_zero])
     ·first | (have hqa := of_decide_eq_true ((S.eqA6 _ _ _ _ _ _ _ _ _ _ _ _).symm.trans c59)) | (have hqa := of_decide_eq_true ((S.eqV _ _ _ _ _ _ _ _).symm.trans c59)) | (have hqa := of_decide_eq_true ((strEq _ _).symm.trans c59)) | (have hqa := of_decide_eq_true c59) | (have hqa := c59)
      refine wp_skip ?_
      refine hK57 _ _ ?_
      try clear hK57
      refine wp_seq_k (fun K61 hK61 => ?_)
      refine region ?_
      refine RS.assign (v := .int .i64 0) rfl ?_
      refine RS.nil ?_
      refine hK61 _ _ ?_
      try clear hK61
      refine wp_ret ?_
      refine ret (rs := [.tmp 2]) (vs := [.int _ _]) (v := (.int _ _)) rfl ⟨rfl, trivial⟩ rfl ?_
      refine ⟨_, rfl, hE, congrArg (Value.int .i64) ?_⟩
      first | (refine S.actE_pos ?_; grind [S.FineAct, S.valE_zero]) | (refine S.actE_neg ?_; grind [S.FineAct, S.valE_zero])
theorem checkActR (k vk num bits : Int) (ky t : ByteArray) (hk : 0 ≤ k ∧ k < 256) (hvk : 0 ≤ vk ∧ vk < 256) (hnum : -9223372036854775808 ≤ num ∧ num ≤ 9223372036854775807) (hb : 0 ≤ bits ∧ bits < 18446744073709551616) (hkey : ky.size ≤ 100000) (ht : t.size ≤ 100000) (w : World) :
  Calls Tryz.prog 69 #[.agg ([.int .u8 k, .string ky, .int .u8 vk, .int .i64 num, .int .u64 bits, .string t] : List Value).toArray] w (Ret w fun v _ => v = .int .i64 (S.actE k ky vk num bits t)) := by
 have hE := Ext.refl w
 refine enter (args := [.agg ([.int .u8 k, .string ky, .int .u8 vk, .int .i64 num, .int .u64 bits, .string t] : List Value).toArray]) (l := [.agg ([.int .u8 k, .string ky, .int .u8 vk, .int .i64 num, .int .u64 bits, .string t] : List Value).toArray, undef, undef, undef, undef, undef, undef, undef, undef, undef, undef, undef, undef, undef, undef, undef, undef, undef, undef, undef, undef, undef, undef, undef, undef, undef, undef, undef, undef, undef, undef, undef, undef, undef, undef, undef, undef, undef]) Tryz.func69 rfl rfl ?_
 refine wp_seq_k (fun K1 hK1 => ?_)
 refine region ?_
 refine RS.box rfl rfl (fun b2 w2 e2 s2 x2 B2 => ?_)
 refine RS.norm (by dsimp only [List.set]) ?_
 replace hE := Ext.tr hE x2
 have zw2 := x2.size
 refine RS.assign (v := .int .i64 0) rfl ?_
 refine RS.nil ?_
 refine hK1 _ _ ?_
 try clear hK1
 refine wp_seq_k (fun K3 hK3 => ?_)
 refine region ?_
 refine RS.o (D.fieldL 2 rfl Tryz.underlying29 rfl C27 (by decide) rfl) ?_
 refine RS.o (D.loadAgg rfl Tryz.underlying27 rfl C27 (by decide) rfl (B2.cellsN 4 rfl)) ?_
 refine RS.o (D.buildS T27 F27 (ps := []) rfl rfl) ?_
 refine RS.o (D.eqA rfl rfl Tryz.underlying27 rfl (by kernel_rfl) (by kernel_rfl) (by kernel_rfl)) ?_
 refine RS.assign (v := .bool _) rfl ?_
 refine RS.nil ?_
 refine hK3 _ _ ?_
 try clear hK3
 refine wp_seq_k (fun K4 hK4 => ?_)
 refine wp_seq_k (fun K5 hK5 => ?_)
 refine region ?_
 refine RS.o (D.fieldL 0 rfl Tryz.underlying29 rfl C5 (by decide) rfl) ?_
 refine RS.o (D.load rfl Tryz.underlying5 rfl (B2.cell rfl)) ?_
 refine RS.nil ?_
 refine hK5 _ _ ?_
 try clear hK5
 refine wp_block ?_
 refine wp_seq_k (fun K6 hK6 => ?_)
 refine region ?_
 refine RS.o (D.eq rfl rfl) ?_
 refine RS.assign (v := .bool _) rfl ?_
 refine RS.nil ?_
 refine hK6 _ _ ?_
 try clear hK6
 refine C.ife rfl (fun c7 => ?_) (fun c7 => ?_)
 ·refine wp_seq_k (fun K8 hK8 => ?_)
  refine region ?_
  refine RS.o (D.fieldL 1 rfl Tryz.underlying29 rfl C9 (by decide) rfl) ?_
  refine RS.o (D.load rfl Tryz.underlying9 rfl (B2.cell rfl)) ?_
  refine RS.o (D.seq rfl rfl) ?_
  refine RS.move (v := .bool _) rfl ?_
  refine RS.splitb 15 rfl rfl (fun c9 => ?_) (fun c9 => ?_)
  ·refine RS.norm (by dsimp only [List.set]) ?_
   have hs0 : ky = ByteArray.empty := of_decide_eq_true ((strEq _ _).symm.trans c9)
   refine RS.wantB 15 rfl rfl rfl ?_
   refine RS.move (v := .bool _) rfl ?_
   refine RS.pick (v := .bool _) rfl rfl ?_
   refine RS.nil ?_
   refine hK8 _ _ ?_
   try clear hK8
   refine C.ifb rfl (fun c10 => ?_) (fun c10 => ?_)
   ·first | (have hqa := of_decide_eq_true ((S.eqA6 _ _ _ _ _ _ _ _ _ _ _ _).symm.trans c10)) | (have hqa := of_decide_eq_true ((S.eqV _ _ _ _ _ _ _ _).symm.trans c10)) | (have hqa := of_decide_eq_true ((strEq _ _).symm.trans c10)) | (have hqa := of_decide_eq_true c10) | (have hqa := c10)
    refine wp_seq_k (fun K11 hK11 => ?_)
    refine region ?_
    refine RS.assign (v := .int .i64 0) rfl ?_
    refine RS.nil ?_
    refine hK11 _ _ ?_
    try clear hK11
    refine wp_ret ?_
    refine ret (rs := [.tmp 2]) (vs := [.int _ _]) (v := (.int _ _)) rfl ⟨rfl, trivial⟩ rfl ?_
    refine ⟨_, rfl, hE, congrArg (Value.int .i64) ?_⟩
    first | (refine S.actE_pos ?_; grind [S.FineAct, S.valE_zero]) | (refine S.actE_neg ?_; grind [S.FineAct, S.valE_zero])
   ·first | (have hqa := of_decide_eq_false ((S.eqA6 _ _ _ _ _ _ _ _ _ _ _ _).symm.trans c10)) | (have hqa := of_decide_eq_false ((S.eqV _ _ _ _ _ _ _ _).symm.trans c10)) | (have hqa := of_decide_eq_false ((strEq _ _).symm.trans c10)) | (have hqa := of_decide_eq_false c10) | (have hqa := c10)
    refine wp_skip ?_
    refine hK4 _ _ ?_
    try clear hK4
    refine wp_seq_k (fun K12 hK12 => ?_)
    refine region ?_
    refine RS.assign (v := .int .i64 8) rfl ?_
    refine RS.nil ?_
    refine hK12 _ _ ?_
    try clear hK12
    refine wp_ret ?_
    refine ret (rs := [.tmp 2]) (vs := [.int _ _]) (v := (.int _ _)) rfl ⟨rfl, trivial⟩ rfl ?_
    refine ⟨_, rfl, hE, congrArg (Value.int .i64) ?_⟩
    first | (refine S.actE_pos ?_; grind [S.FineAct, S.valE_zero]) | (refine S.actE_neg ?_; grind [S.FineAct, S.valE_zero])
  ·refine RS.norm (by dsimp only [List.set]) ?_
   have hs0 : ky ≠ ByteArray.empty := of_decide_eq_false ((strEq _ _).symm.trans c9)
   refine RS.skipB (b := false) 15 rfl rfl rfl rfl ?_
   refine RS.norm (by dsimp only [putL, List.set]) ?_
   refine RS.pick (v := .bool false) rfl rfl ?_
   refine RS.nil ?_
   refine hK8 _ _ ?_
   try clear hK8
   refine C.iff rfl ?_
   refine wp_skip ?_
   refine hK4 _ _ ?_
   try clear hK4
   refine wp_seq_k (fun K13 hK13 => ?_)
   refine region ?_
   refine RS.assign (v := .int .i64 8) rfl ?_
   refine RS.nil ?_
   refine hK13 _ _ ?_
   try clear hK13
   refine wp_ret ?_
   refine ret (rs := [.tmp 2]) (vs := [.int _ _]) (v := (.int _ _)) rfl ⟨rfl, trivial⟩ rfl ?_
   refine ⟨_, rfl, hE, congrArg (Value.int .i64) ?_⟩
   first | (refine S.actE_pos ?_; grind [S.FineAct, S.valE_zero]) | (refine S.actE_neg ?_; grind [S.FineAct, S.valE_zero])
 ·refine wp_seq_k (fun K14 hK14 => ?_)
  refine wp_seq_k (fun K15 hK15 => ?_)
  refine region ?_
  refine RS.o (D.eq rfl rfl) ?_
  refine RS.assign (v := .bool _) rfl ?_
  refine RS.nil ?_
  refine hK15 _ _ ?_
  try clear hK15
  refine C.ife rfl (fun c16 => ?_) (fun c16 => ?_)
  ·refine wp_skip ?_
   refine hK14 _ _ ?_
   try clear hK14
   refine C.ifb rfl (fun z17 => ?_) (fun z17 => ?_)
   ·refine wp_seq_k (fun K18 hK18 => ?_)
    refine region ?_
    refine RS.o (D.fieldL 1 rfl Tryz.underlying29 rfl C9 (by decide) rfl) ?_
    refine RS.o (D.load rfl Tryz.underlying9 rfl (B2.cell rfl)) ?_
    refine RS.call E116 (nameR _ (by omega) _) rfl (fun v19 w19 x19 A19 => ?_)
    replace hE := Ext.tr hE x19
    replace B2 := B2.ext x19
    have zw19 := x19.size
    subst A19
    refine RS.norm (by dsimp only [List.set]) ?_
    refine RS.move (v := .bool _) rfl ?_
    refine RS.splitb 24 rfl rfl (fun c20 => ?_) (fun c20 => ?_)
    ·refine RS.norm (by dsimp only [List.set]) ?_
     have hkt := of_decide_eq_true c20
     refine RS.wantB 24 rfl rfl rfl ?_
     refine RS.move (v := .bool _) rfl ?_
     refine RS.pick (v := .bool _) rfl rfl ?_
     refine RS.nil ?_
     refine hK18 _ _ ?_
     try clear hK18
     refine C.ifb rfl (fun c21 => ?_) (fun c21 => ?_)
     ·first | (have hqa := of_decide_eq_true ((S.eqA6 _ _ _ _ _ _ _ _ _ _ _ _).symm.trans c21)) | (have hqa := of_decide_eq_true ((S.eqV _ _ _ _ _ _ _ _).symm.trans c21)) | (have hqa := of_decide_eq_true ((strEq _ _).symm.trans c21)) | (have hqa := of_decide_eq_true c21) | (have hqa := c21)
      refine wp_seq_k (fun K22 hK22 => ?_)
      refine region ?_
      refine RS.assign (v := .int .i64 0) rfl ?_
      refine RS.nil ?_
      refine hK22 _ _ ?_
      try clear hK22
      refine wp_ret ?_
      refine ret (rs := [.tmp 2]) (vs := [.int _ _]) (v := (.int _ _)) rfl ⟨rfl, trivial⟩ rfl ?_
      refine ⟨_, rfl, hE, congrArg (Value.int .i64) ?_⟩
      first | (refine S.actE_pos ?_; grind [S.FineAct, S.valE_zero]) | (refine S.actE_neg ?_; grind [S.FineAct, S.valE_zero])
     ·first | (have hqa := of_decide_eq_false ((S.eqA6 _ _ _ _ _ _ _ _ _ _ _ _).symm.trans c21)) | (have hqa := of_decide_eq_false ((S.eqV _ _ _ _ _ _ _ _).symm.trans c21)) | (have hqa := of_decide_eq_false ((strEq _ _).symm.trans c21)) | (have hqa := of_decide_eq_false c21) | (have hqa := c21)
      refine wp_skip ?_
      refine hK4 _ _ ?_
      try clear hK4
      refine wp_seq_k (fun K23 hK23 => ?_)
      refine region ?_
      refine RS.assign (v := .int .i64 8) rfl ?_
      refine RS.nil ?_
      refine hK23 _ _ ?_
      try clear hK23
      refine wp_ret ?_
      refine ret (rs := [.tmp 2]) (vs := [.int _ _]) (v := (.int _ _)) rfl ⟨rfl, trivial⟩ rfl ?_
      refine ⟨_, rfl, hE, congrArg (Value.int .i64) ?_⟩
      first | (refine S.actE_pos ?_; grind [S.FineAct, S.valE_zero]) | (refine S.actE_neg ?_; grind [S.FineAct, S.valE_zero])
    ·refine RS.norm (by dsimp only [List.set]) ?_
     have hkf := of_decide_eq_false c20
     refine RS.skipB (b := false) 24 rfl rfl rfl rfl ?_
     refine RS.norm (by dsimp only [putL, List.set]) ?_
     refine RS.pick (v := .bool false) rfl rfl ?_
     refine RS.nil ?_
     refine hK18 _ _ ?_
     try clear hK18
     refine C.iff rfl ?_
     refine wp_skip ?_
     refine hK4 _ _ ?_
     try clear hK4
     refine wp_seq_k (fun K24 hK24 => ?_)
     refine region ?_
     refine RS.assign (v := .int .i64 8) rfl ?_
     refine RS.nil ?_
     refine hK24 _ _ ?_
     try clear hK24
     refine wp_ret ?_
     refine ret (rs := [.tmp 2]) (vs := [.int _ _]) (v := (.int _ _)) rfl ⟨rfl, trivial⟩ rfl ?_
     refine ⟨_, rfl, hE, congrArg (Value.int .i64) ?_⟩
     first | (refine S.actE_pos ?_; grind [S.FineAct, S.valE_zero]) | (refine S.actE_neg ?_; grind [S.FineAct, S.valE_zero])
   ·exact absurd z17 (by first | (simp [c16]; done) | (simp_all; done) | omega)
  ·refine region ?_
   refine RS.o (D.eq rfl rfl) ?_
   refine RS.assign (v := .bool _) rfl ?_
   refine RS.nil ?_
   refine hK14 _ _ ?_
   try clear hK14
   refine C.ife rfl (fun c25 => ?_) (fun c25 => ?_)
   ·refine wp_seq_k (fun K26 hK26 => ?_)
    refine region ?_
    refine RS.o (D.fieldL 1 rfl Tryz.underlying29 rfl C9 (by decide) rfl) ?_
    refine RS.o (D.load rfl Tryz.underlying9 rfl (B2.cell rfl)) ?_
    refine RS.call E116 (nameR _ (by omega) _) rfl (fun v27 w27 x27 A27 => ?_)
    replace hE := Ext.tr hE x27
    replace B2 := B2.ext x27
    have zw27 := x27.size
    subst A27
    refine RS.norm (by dsimp only [List.set]) ?_
    refine RS.move (v := .bool _) rfl ?_
    refine RS.splitb 24 rfl rfl (fun c28 => ?_) (fun c28 => ?_)
    ·refine RS.norm (by dsimp only [List.set]) ?_
     have hkt := of_decide_eq_true c28
     refine RS.wantB 24 rfl rfl rfl ?_
     refine RS.move (v := .bool _) rfl ?_
     refine RS.pick (v := .bool _) rfl rfl ?_
     refine RS.nil ?_
     refine hK26 _ _ ?_
     try clear hK26
     refine C.ifb rfl (fun c29 => ?_) (fun c29 => ?_)
     ·first | (have hqa := of_decide_eq_true ((S.eqA6 _ _ _ _ _ _ _ _ _ _ _ _).symm.trans c29)) | (have hqa := of_decide_eq_true ((S.eqV _ _ _ _ _ _ _ _).symm.trans c29)) | (have hqa := of_decide_eq_true ((strEq _ _).symm.trans c29)) | (have hqa := of_decide_eq_true c29) | (have hqa := c29)
      refine wp_seq_k (fun K30 hK30 => ?_)
      refine region ?_
      refine RS.assign (v := .int .i64 0) rfl ?_
      refine RS.nil ?_
      refine hK30 _ _ ?_
      try clear hK30
      refine wp_ret ?_
      refine ret (rs := [.tmp 2]) (vs := [.int _ _]) (v := (.int _ _)) rfl ⟨rfl, trivial⟩ rfl ?_
      refine ⟨_, rfl, hE, congrArg (Value.int .i64) ?_⟩
      first | (refine S.actE_pos ?_; grind [S.FineAct, S.valE_zero]) | (refine S.actE_neg ?_; grind [S.FineAct, S.valE_zero])
     ·first | (have hqa := of_decide_eq_false ((S.eqA6 _ _ _ _ _ _ _ _ _ _ _ _).symm.trans c29)) | (have hqa := of_decide_eq_false ((S.eqV _ _ _ _ _ _ _ _).symm.trans c29)) | (have hqa := of_decide_eq_false ((strEq _ _).symm.trans c29)) | (have hqa := of_decide_eq_false c29) | (have hqa := c29)
      refine wp_skip ?_
      refine hK4 _ _ ?_
      try clear hK4
      refine wp_seq_k (fun K31 hK31 => ?_)
      refine region ?_
      refine RS.assign (v := .int .i64 8) rfl ?_
      refine RS.nil ?_
      refine hK31 _ _ ?_
      try clear hK31
      refine wp_ret ?_
      refine ret (rs := [.tmp 2]) (vs := [.int _ _]) (v := (.int _ _)) rfl ⟨rfl, trivial⟩ rfl ?_
      refine ⟨_, rfl, hE, congrArg (Value.int .i64) ?_⟩
      first | (refine S.actE_pos ?_; grind [S.FineAct, S.valE_zero]) | (refine S.actE_neg ?_; grind [S.FineAct, S.valE_zero])
    ·refine RS.norm (by dsimp only [List.set]) ?_
     have hkf := of_decide_eq_false c28
     refine RS.skipB (b := false) 24 rfl rfl rfl rfl ?_
     refine RS.norm (by dsimp only [putL, List.set]) ?_
     refine RS.pick (v := .bool false) rfl rfl ?_
     refine RS.nil ?_
     refine hK26 _ _ ?_
     try clear hK26
     refine C.iff rfl ?_
     refine wp_skip ?_
     refine hK4 _ _ ?_
     try clear hK4
     refine wp_seq_k (fun K32 hK32 => ?_)
     refine region ?_
     refine RS.assign (v := .int .i64 8) rfl ?_
     refine RS.nil ?_
     refine hK32 _ _ ?_
     try clear hK32
     refine wp_ret ?_
     refine ret (rs := [.tmp 2]) (vs := [.int _ _]) (v := (.int _ _)) rfl ⟨rfl, trivial⟩ rfl ?_
     refine ⟨_, rfl, hE, congrArg (Value.int .i64) ?_⟩
     first | (refine S.actE_pos ?_; grind [S.FineAct, S.valE_zero]) | (refine S.actE_neg ?_; grind [S.FineAct, S.valE_zero])
   ·refine wp_seq_k (fun K33 hK33 => ?_)
    refine region ?_
    refine RS.o (D.eq rfl rfl) ?_
    refine RS.assign (v := .bool _) rfl ?_
    refine RS.nil ?_
    refine hK33 _ _ ?_
    try clear hK33
    refine C.ife rfl (fun c34 => ?_) (fun c34 => ?_)
    ·refine wp_seq_k (fun K35 hK35 => ?_)
     refine region ?_
     refine RS.o (D.fieldL 1 rfl Tryz.underlying29 rfl C9 (by decide) rfl) ?_
     refine RS.o (D.load rfl Tryz.underlying9 rfl (B2.cell rfl)) ?_
     refine RS.call E116 (nameR _ (by omega) _) rfl (fun v36 w36 x36 A36 => ?_)
     replace hE := Ext.tr hE x36
     replace B2 := B2.ext x36
     have zw36 := x36.size
     subst A36
     refine RS.norm (by dsimp only [List.set]) ?_
     refine RS.move (v := .bool _) rfl ?_
     refine RS.splitb 32 rfl rfl (fun c37 => ?_) (fun c37 => ?_)
     ·refine RS.norm (by dsimp only [List.set]) ?_
      have hkt := of_decide_eq_true c37
      refine RS.wantB 32 rfl rfl rfl ?_
      refine RS.o (D.fieldL 2 rfl Tryz.underlying29 rfl C27 (by decide) rfl) ?_
      refine RS.wantB 32 rfl rfl rfl ?_
      refine RS.o (D.loadAgg rfl Tryz.underlying27 rfl C27 (by decide) rfl (B2.cellsN 4 rfl)) ?_
      refine RS.wantB 32 rfl rfl rfl ?_
      refine RS.call E117 (checkR _ _ _ _ hvk hnum hb (by omega) _) rfl (fun v38 w38 x38 A38 => ?_)
      replace hE := Ext.tr hE x38
      replace B2 := B2.ext x38
      have zw38 := x38.size
      subst A38
      refine RS.norm (by dsimp only [List.set]) ?_
      refine RS.wantB 32 rfl rfl rfl ?_
      refine RS.o (D.eq rfl rfl) ?_
      refine RS.pick (v := .bool _) rfl rfl ?_
      refine RS.nil ?_
      refine hK35 _ _ ?_
      try clear hK35
      refine C.ife rfl (fun c39 => ?_) (fun c39 => ?_)
      ·refine wp_seq_k (fun K40 hK40 => ?_)
       refine region ?_
       refine RS.assign (v := .int .i64 0) rfl ?_
       refine RS.nil ?_
       refine hK40 _ _ ?_
       try clear hK40
       refine wp_ret ?_
       refine ret (rs := [.tmp 2]) (vs := [.int _ _]) (v := (.int _ _)) rfl ⟨rfl, trivial⟩ rfl ?_
       refine ⟨_, rfl, hE, congrArg (Value.int .i64) ?_⟩
       first | (refine S.actE_pos ?_; grind [S.FineAct, S.valE_zero]) | (refine S.actE_neg ?_; grind [S.FineAct, S.valE_zero])
      ·refine wp_skip ?_
       refine hK4 _ _ ?_
       try clear hK4
       refine wp_seq_k (fun K41 hK41 => ?_)
       refine region ?_
       refine RS.assign (v := .int .i64 8) rfl ?_
       refine RS.nil ?_
       refine hK41 _ _ ?_
       try clear hK41
       refine wp_ret ?_
       refine ret (rs := [.tmp 2]) (vs := [.int _ _]) (v := (.int _ _)) rfl ⟨rfl, trivial⟩ rfl ?_
       refine ⟨_, rfl, hE, congrArg (Value.int .i64) ?_⟩
       first | (refine S.actE_pos ?_; grind [S.FineAct, S.valE_zero]) | (refine S.actE_neg ?_; grind [S.FineAct, S.valE_zero])
     ·refine RS.norm (by dsimp only [List.set]) ?_
      have hkf := of_decide_eq_false c37
      refine RS.skipB (b := false) 32 rfl rfl rfl rfl ?_
      refine RS.norm (by dsimp only [putL, List.set]) ?_
      refine RS.skipB (b := false) 32 rfl rfl rfl rfl ?_
      refine RS.norm (by dsimp only [putL, List.set]) ?_
      refine RS.skipB (b := false) 32 rfl rfl rfl rfl ?_
      refine RS.norm (by dsimp only [putL, List.set]) ?_
      refine RS.skipB (b := false) 32 rfl rfl rfl rfl ?_
      refine RS.norm (by dsimp only [putL, List.set]) ?_
      refine RS.pick (v := .bool false) rfl rfl ?_
      refine RS.nil ?_
      refine hK35 _ _ ?_
      try clear hK35
      refine C.iff rfl ?_
      refine wp_skip ?_
      refine hK4 _ _ ?_
      try clear hK4
      refine wp_seq_k (fun K42 hK42 => ?_)
      refine region ?_
      refine RS.assign (v := .int .i64 8) rfl ?_
      refine RS.nil ?_
      refine hK42 _ _ ?_
      try clear hK42
      refine wp_ret ?_
      refine ret (rs := [.tmp 2]) (vs := [.int _ _]) (v := (.int _ _)) rfl ⟨rfl, trivial⟩ rfl ?_
      refine ⟨_, rfl, hE, congrArg (Value.int .i64) ?_⟩
      first | (refine S.actE_pos ?_; grind [S.FineAct, S.valE_zero]) | (refine S.actE_neg ?_; grind [S.FineAct, S.valE_zero])
    ·refine wp_skip ?_
     refine hK4 _ _ ?_
     try clear hK4
     refine wp_seq_k (fun K43 hK43 => ?_)
     refine region ?_
     refine RS.assign (v := .int .i64 8) rfl ?_
     refine RS.nil ?_
     refine hK43 _ _ ?_
     try clear hK43
     refine wp_ret ?_
     refine ret (rs := [.tmp 2]) (vs := [.int _ _]) (v := (.int _ _)) rfl ⟨rfl, trivial⟩ rfl ?_
     refine ⟨_, rfl, hE, congrArg (Value.int .i64) ?_⟩
     first | (refine S.actE_pos ?_; grind [S.FineAct, S.valE_zero]) | (refine S.actE_neg ?_; grind [S.FineAct, S.valE_zero])
end Go.Proofs.YtiohpiiiapjblaaGreatDoor.W
namespace Go.Proofs.YtiohpiiiapjblaaGreatDoor.W
open Go.RowKit Go.Proofs.YtiohpiiiapjblaaGreatDoor.G
set_option linter.unusedVariables false
set_option maxRecDepth 20000
set_option maxHeartbeats 8000000
attribute [local irreducible] RS RX
theorem C24 : Tryz.prog.cellsOf 24 = 1 := by kernel_rfl
theorem C31 : Tryz.prog.cellsOf 31 = 2 := by kernel_rfl
theorem E53 : Enters Tryz.prog 53 := .mk Tryz.func53 (by kernel_rfl) rfl
theorem E79 : Enters Tryz.prog 79 := .mk Tryz.func79 (by kernel_rfl) rfl
theorem E81 : Enters Tryz.prog 81 := .mk Tryz.func81 (by kernel_rfl) rfl
theorem E83 : Enters Tryz.prog 83 := .mk Tryz.func83 (by kernel_rfl) rfl
theorem checkO {S0 : Nat → Prop} (o : S.OpV) (ho : o.ok) (pa : Option Addr) (pc : Nat) (w : World) (D0 : WRow .u8 32 S0 w pa o.n o.ids) (hc : o.n ≤ pc) :
  Calls Tryz.prog 46 #[.agg ([.int .u32 o.au, .slice pa o.n pc, .int .u64 o.st, .int .u8 o.k, .string o.key, .int .u8 o.vk, .int .i64 o.num, .int .u64 o.bits, .string o.t, .int .u32 o.e, .int .u32 o.s] : List Value).toArray] w (Ret w fun v _ => v = .int .i64 (S.checkE o)) := by
 replace D0 := D0.weaken (T := fun k => k < w.heap.size) (fun k hk _ => hk)
 have o1 := ho.au
 have o2 := ho.st
 have o3 := ho.k
 have o4 := ho.vk
 have o5 := ho.num
 have o6 := ho.bits
 have o7 := ho.e
 have o8 := ho.s
 have o9 := ho.n
 have o10 := ho.key
 have o11 := ho.t
 have hE := Ext.refl w
 refine enter (args := [.agg ([.int .u32 o.au, .slice pa o.n pc, .int .u64 o.st, .int .u8 o.k, .string o.key, .int .u8 o.vk, .int .i64 o.num, .int .u64 o.bits, .string o.t, .int .u32 o.e, .int .u32 o.s] : List Value).toArray]) (l := [.agg ([.int .u32 o.au, .slice pa o.n pc, .int .u64 o.st, .int .u8 o.k, .string o.key, .int .u8 o.vk, .int .i64 o.num, .int .u64 o.bits, .string o.t, .int .u32 o.e, .int .u32 o.s] : List Value).toArray, undef, undef, undef, undef, undef, undef, undef, undef, undef, undef, undef, undef, undef, undef, undef, undef, undef, undef, undef, undef, undef, undef, undef, undef, undef, undef, undef, undef, undef, undef, undef, undef, undef, undef, undef, undef, undef, undef, undef, undef, undef, undef, undef, undef, undef, undef]) Tryz.func46 rfl rfl ?_
 refine wp_seq_k (fun K1 hK1 => ?_)
 refine region ?_
 refine RS.box rfl rfl (fun b2 w2 e2 s2 x2 B2 => ?_)
 refine RS.norm (by dsimp only [List.set]) ?_
 replace hE := Ext.tr hE x2
 replace D0 := D0.ext x2
 have zw2 := x2.size
 refine RS.assign (v := .int .i64 0) rfl ?_
 refine RS.nil ?_
 refine hK1 _ _ ?_
 try clear hK1
 refine wp_seq_k (fun K3 hK3 => ?_)
 refine wp_block ?_
 refine wp_seq_k (fun K4 hK4 => ?_)
 refine region ?_
 refine RS.o (D.fieldL 1 rfl Tryz.underlying33 rfl C24 (by decide) rfl) ?_
 refine RS.o (D.load rfl Tryz.underlying24 rfl (B2.cell rfl)) ?_
 refine RS.o (D.len rfl Tryz.underlying24) ?_
 refine RS.o (D.gt rfl rfl) ?_
 refine RS.assign (v := .bool _) rfl ?_
 refine RS.nil ?_
 refine hK4 _ _ ?_
 try clear hK4
 refine C.ifd rfl (fun c5 => ?_) (fun c5 => ?_)
 ·have h4 := c5
  refine wp_seq_k (fun K6 hK6 => ?_)
  refine region ?_
  refine RS.assign (v := .int .i64 4) rfl ?_
  refine RS.nil ?_
  refine hK6 _ _ ?_
  try clear hK6
  refine wp_ret ?_
  refine ret (rs := [.tmp 2]) (vs := [.int _ _]) (v := (.int _ _)) rfl ⟨rfl, trivial⟩ rfl ?_
  refine ⟨_, rfl, hE, congrArg (Value.int .i64) ?_⟩
  exact S.check4 (by omega)
 ·have h4 := c5
  refine wp_seq_k (fun K7 hK7 => ?_)
  refine regionX (Below w2.heap.size) [(0, .q), (1, .q), (2, .e), (3, .q), (4, .q), (5, .q), (6, .q), (10, .q), (11, .q), (12, .q), (7, .e), (8, .e), (9, .q), (13, .q), (14, .q), (15, .q)] mixed (fun w => Below.refl _ _) (fun h k => Below.trans h k) (by kernel_rfl) (fun w8 x8 => ?_)
  replace hE := Ext.tr hE x8
  replace D0 := D0.ext x8
  replace B2 := B2.ext x8
  have zw8 := x8.size
  refine RX.o (fun w' hw => D.fieldL 1 rfl Tryz.underlying33 rfl C24 (by decide) rfl) ?_
  refine RX.o (fun w' hw => D.load rfl Tryz.underlying24 rfl ((B2.bel hw (by omega)).cell rfl)) ?_
  refine RX.eff ?_
  refine RS.call E79 (isSorted _ _ _ _ _ D0 hc (by omega)) rfl (fun v9 w9 x9 A9 => ?_)
  replace hE := Ext.tr hE x9
  replace D0 := D0.ext x9
  replace B2 := B2.ext x9
  have zw9 := x9.size
  subst A9
  refine RS.norm (by dsimp only [List.set]) ?_
  refine RS.nil ⟨(x9.mono (by omega)), ?_⟩
  refine RX.o (fun w' hw => D.not rfl) ?_
  refine RX.move (v := .bool _) rfl ?_
  refine RX.splitnot 13 rfl rfl (fun c10 => ?_) (fun c10 => ?_)
  ·refine RX.norm (by dsimp only [List.set]) ?_
   have hso := of_decide_eq_false c10
   refine RX.skipB (b := true) 13 rfl rfl rfl rfl ?_
   refine RX.norm (by dsimp only [putL, List.set]) ?_
   refine RX.skipB (b := true) 13 rfl rfl rfl rfl ?_
   refine RX.norm (by dsimp only [putL, List.set]) ?_
   refine RX.skipB (b := true) 13 rfl rfl rfl rfl ?_
   refine RX.norm (by dsimp only [putL, List.set]) ?_
   refine RX.skipB (b := true) 13 rfl rfl rfl rfl ?_
   refine RX.norm (by dsimp only [putL, List.set]) ?_
   refine RX.skipB (b := true) 13 rfl rfl rfl rfl ?_
   refine RX.norm (by dsimp only [putL, List.set]) ?_
   refine RX.skipB (b := true) 13 rfl rfl rfl rfl ?_
   refine RX.norm (by dsimp only [putL, List.set]) ?_
   refine RX.skipB (b := true) 13 rfl rfl rfl rfl ?_
   refine RX.norm (by dsimp only [putL, List.set]) ?_
   refine RX.skipB (b := true) 13 rfl rfl rfl rfl ?_
   refine RX.norm (by dsimp only [putL, List.set]) ?_
   refine RX.skipB (b := true) 13 rfl rfl rfl rfl ?_
   refine RX.norm (by dsimp only [putL, List.set]) ?_
   refine RX.pick (v := .bool true) rfl rfl ?_
   refine RX.assign (v := .bool _) rfl ?_
   refine RX.nil ?_
   refine hK7 _ _ ?_
   try clear hK7
   refine C.ift rfl ?_
   refine wp_seq_k (fun K11 hK11 => ?_)
   refine region ?_
   refine RS.assign (v := .int .i64 32) rfl ?_
   refine RS.nil ?_
   refine hK11 _ _ ?_
   try clear hK11
   refine wp_ret ?_
   refine ret (rs := [.tmp 2]) (vs := [.int _ _]) (v := (.int _ _)) rfl ⟨rfl, trivial⟩ rfl ?_
   refine ⟨_, rfl, hE, congrArg (Value.int .i64) ?_⟩
   exact S.check32 (by omega) (fun h => hso ((S.rising_iff _ _).1 h).1)
  ·refine RX.norm (by dsimp only [List.set]) ?_
   have hso := of_decide_eq_true c10
   refine RX.wantB 13 rfl rfl rfl ?_
   refine RX.o (fun w' hw => D.fieldL 1 rfl Tryz.underlying33 rfl C24 (by decide) rfl) ?_
   refine RX.wantB 13 rfl rfl rfl ?_
   refine RX.o (fun w' hw => D.load rfl Tryz.underlying24 rfl ((B2.bel hw (by omega)).cell rfl)) ?_
   refine RX.wantB 13 rfl rfl rfl ?_
   refine RX.o (fun w' hw => D.fieldL 1 rfl Tryz.underlying33 rfl C24 (by decide) rfl) ?_
   refine RX.wantB 13 rfl rfl rfl ?_
   refine RX.o (fun w' hw => D.load rfl Tryz.underlying24 rfl ((B2.bel hw (by omega)).cell rfl)) ?_
   refine RX.wantB 13 rfl rfl rfl ?_
   refine RX.o (fun w' hw => D.len rfl Tryz.underlying24) ?_
   refine RX.wantB 13 rfl rfl rfl ?_
   refine RX.eff ?_
   refine RS.call E53 (cloneID _ _ _ _ _ D0 hc (by omega)) rfl (fun v12 w12 x12 A12 => ?_)
   replace hE := Ext.tr hE x12
   replace D0 := D0.ext x12
   replace B2 := B2.ext x12
   have zw12 := x12.size
   obtain ⟨a12, n12, c12, rfl, hnn, O1⟩ := A12
   obtain ⟨g0, hg, hgl⟩ : ∃ g0, (n12 < 2 ∨ a12 = some ⟨g0, 0, none⟩) ∧ w2.heap.size ≤ g0 := by
    by_cases h2 : n12 < 2
    ·exact ⟨w12.heap.size, .inl h2, by omega⟩
    ·obtain ⟨g, hg⟩ := O1.some (by omega)
     exact ⟨g, .inr hg, by have := O1.los g (by rw [hg]; rfl); omega⟩
   refine RS.norm (by dsimp only [List.set]) ?_
   refine RS.nil ⟨(x12.mono (by omega)), ?_⟩
   refine RX.wantB 13 rfl rfl rfl ?_
   refine RX.eff ?_
   refine RS.callx E81 (compact _ _ _ _ _ _ _ O1 hg (by omega)) rfl (fun e13 w13 A13 => ?_)
   obtain ⟨a13, n13, c13, rfl, X13, hap⟩ := A13
   refine ⟨_, rfl, ?_⟩
   refine RS.norm (by dsimp only [List.set]) ?_
   replace hE := hE.trans (X13.below (by intros; try (first | (intro _ _) | (intro _) | skip); first | omega | (dsimp only at *; omega) | (simp_all; done) | (simp at *; omega)) (by intros; try (first | (intro _ _) | (intro _) | skip); first | omega | (dsimp only at *; omega) | (simp_all; done) | (simp at *; omega)))
   replace D0 := D0.pr X13 (by intros; try (first | (intro _ _) | (intro _) | skip); first | omega | (dsimp only at *; omega) | (simp_all; done) | (simp at *; omega))
   replace B2 := B2.pr X13 (by intros; try (first | (intro _ _) | (intro _) | skip); first | omega | (dsimp only at *; omega) | (simp_all; done) | (simp at *; omega))
   have zw13 := X13.size
   have hnz := hnn
   refine RS.nil ⟨(X13.below (by intros; try (first | (intro _ _) | (intro _) | skip); first | omega | (dsimp only at *; omega) | (simp_all; done) | (simp at *; omega)) (by intros; try (first | (intro _ _) | (intro _) | skip); first | omega | (dsimp only at *; omega) | (simp_all; done) | (simp at *; omega))), ?_⟩
   refine RX.wantB 13 rfl rfl rfl ?_
   refine RX.o (fun w' hw => D.len rfl Tryz.underlying24) ?_
   refine RX.wantB 13 rfl rfl rfl ?_
   refine RX.o (fun w' hw => D.ne rfl rfl) ?_
   refine RX.pick (v := .bool _) rfl rfl ?_
   refine RX.assign (v := .bool _) rfl ?_
   refine RX.nil ?_
   refine hK7 _ _ ?_
   try clear hK7
   refine C.ifn rfl (fun c14 => ?_) (fun c14 => ?_)
   ·try have hne := c14
    refine wp_seq_k (fun K15 hK15 => ?_)
    refine region ?_
    refine RS.assign (v := .int .i64 32) rfl ?_
    refine RS.nil ?_
    refine hK15 _ _ ?_
    try clear hK15
    refine wp_ret ?_
    refine ret (rs := [.tmp 2]) (vs := [.int _ _]) (v := (.int _ _)) rfl ⟨rfl, trivial⟩ rfl ?_
    refine ⟨_, rfl, hE, congrArg (Value.int .i64) ?_⟩
    exact S.check32 (by omega) (fun h => hne (by have := hap.2; rw [hnz] at this; exact congrArg Nat.cast (this ((S.rising_iff _ _).1 h).2)))
   ·try have hne := c14
    refine wp_seq_k (fun K16 hK16 => ?_)
    refine region ?_
    refine RS.o (D.fieldL 0 rfl Tryz.underlying33 rfl C23 (by decide) rfl) ?_
    refine RS.o (D.load rfl Tryz.underlying23 rfl (B2.cell rfl)) ?_
    refine RS.call E82 (group_Is _ (by omega) _) rfl (fun v17 w17 x17 A17 => ?_)
    replace hE := Ext.tr hE x17
    replace D0 := D0.ext x17
    replace B2 := B2.ext x17
    have zw17 := x17.size
    subst A17
    refine RS.norm (by dsimp only [List.set]) ?_
    refine RS.o (D.not rfl) ?_
    refine RS.move (v := .bool _) rfl ?_
    refine RS.splitnot 29 rfl rfl (fun c18 => ?_) (fun c18 => ?_)
    ·refine RS.norm (by dsimp only [List.set]) ?_
     have hG := c18
     refine RS.skipB (b := true) 29 rfl rfl rfl rfl ?_
     refine RS.norm (by dsimp only [putL, List.set]) ?_
     refine RS.skipB (b := true) 29 rfl rfl rfl rfl ?_
     refine RS.norm (by dsimp only [putL, List.set]) ?_
     refine RS.skipB (b := true) 29 rfl rfl rfl rfl ?_
     refine RS.norm (by dsimp only [putL, List.set]) ?_
     refine RS.pick (v := .bool true) rfl rfl ?_
     refine RS.move (v := .bool _) rfl ?_
     refine RS.skipB (b := true) 34 rfl rfl rfl rfl ?_
     refine RS.norm (by dsimp only [putL, List.set]) ?_
     refine RS.skipB (b := true) 34 rfl rfl rfl rfl ?_
     refine RS.norm (by dsimp only [putL, List.set]) ?_
     refine RS.skipB (b := true) 34 rfl rfl rfl rfl ?_
     refine RS.norm (by dsimp only [putL, List.set]) ?_
     refine RS.skipB (b := true) 34 rfl rfl rfl rfl ?_
     refine RS.norm (by dsimp only [putL, List.set]) ?_
     refine RS.skipB (b := true) 34 rfl rfl rfl rfl ?_
     refine RS.norm (by dsimp only [putL, List.set]) ?_
     refine RS.skipB (b := true) 34 rfl rfl rfl rfl ?_
     refine RS.norm (by dsimp only [putL, List.set]) ?_
     refine RS.skipB (b := true) 34 rfl rfl rfl rfl ?_
     refine RS.norm (by dsimp only [putL, List.set]) ?_
     refine RS.skipB (b := true) 34 rfl rfl rfl rfl ?_
     refine RS.norm (by dsimp only [putL, List.set]) ?_
     refine RS.pick (v := .bool true) rfl rfl ?_
     refine RS.assign (v := .bool _) rfl ?_
     refine RS.nil ?_
     refine hK16 _ _ ?_
     try clear hK16
     refine C.ift rfl ?_
     refine wp_seq_k (fun K19 hK19 => ?_)
     refine region ?_
     refine RS.assign (v := .int .i64 8) rfl ?_
     refine RS.nil ?_
     refine hK19 _ _ ?_
     try clear hK19
     refine wp_ret ?_
     refine ret (rs := [.tmp 2]) (vs := [.int _ _]) (v := (.int _ _)) rfl ⟨rfl, trivial⟩ rfl ?_
     refine ⟨_, rfl, hE, congrArg (Value.int .i64) ?_⟩
     have hri : S.Rising o.n o.ids := (S.rising_iff _ _).2 ⟨hso, by have h7 := hap.1; rw [hnz] at h7; exact h7 (by omega)⟩
     refine S.check8 (by omega) hri (fun h => ?_)
     have := h.1
     simp_all
    ·refine RS.norm (by dsimp only [List.set]) ?_
     have hG := c18
     refine RS.wantB 29 rfl rfl rfl ?_
     refine RS.o (D.fieldL 2 rfl Tryz.underlying33 rfl C25 (by decide) rfl) ?_
     refine RS.wantB 29 rfl rfl rfl ?_
     refine RS.o (D.load rfl Tryz.underlying25 rfl (B2.cell rfl)) ?_
     refine RS.wantB 29 rfl rfl rfl ?_
     refine RS.o (D.gt rfl rfl) ?_
     refine RS.pick (v := .bool _) rfl rfl ?_
     refine RS.move (v := .bool _) rfl ?_
     refine RS.splitd 34 rfl rfl (fun c20 => ?_) (fun c20 => ?_)
     ·refine RS.norm (by dsimp only [List.set]) ?_
      have hS := c20
      refine RS.skipB (b := true) 34 rfl rfl rfl rfl ?_
      refine RS.norm (by dsimp only [putL, List.set]) ?_
      refine RS.skipB (b := true) 34 rfl rfl rfl rfl ?_
      refine RS.norm (by dsimp only [putL, List.set]) ?_
      refine RS.skipB (b := true) 34 rfl rfl rfl rfl ?_
      refine RS.norm (by dsimp only [putL, List.set]) ?_
      refine RS.skipB (b := true) 34 rfl rfl rfl rfl ?_
      refine RS.norm (by dsimp only [putL, List.set]) ?_
      refine RS.skipB (b := true) 34 rfl rfl rfl rfl ?_
      refine RS.norm (by dsimp only [putL, List.set]) ?_
      refine RS.skipB (b := true) 34 rfl rfl rfl rfl ?_
      refine RS.norm (by dsimp only [putL, List.set]) ?_
      refine RS.skipB (b := true) 34 rfl rfl rfl rfl ?_
      refine RS.norm (by dsimp only [putL, List.set]) ?_
      refine RS.skipB (b := true) 34 rfl rfl rfl rfl ?_
      refine RS.norm (by dsimp only [putL, List.set]) ?_
      refine RS.pick (v := .bool true) rfl rfl ?_
      refine RS.assign (v := .bool _) rfl ?_
      refine RS.nil ?_
      refine hK16 _ _ ?_
      try clear hK16
      refine C.ift rfl ?_
      refine wp_seq_k (fun K21 hK21 => ?_)
      refine region ?_
      refine RS.assign (v := .int .i64 8) rfl ?_
      refine RS.nil ?_
      refine hK21 _ _ ?_
      try clear hK21
      refine wp_ret ?_
      refine ret (rs := [.tmp 2]) (vs := [.int _ _]) (v := (.int _ _)) rfl ⟨rfl, trivial⟩ rfl ?_
      refine ⟨_, rfl, hE, congrArg (Value.int .i64) ?_⟩
      have hri : S.Rising o.n o.ids := (S.rising_iff _ _).2 ⟨hso, by have h7 := hap.1; rw [hnz] at h7; exact h7 (by omega)⟩
      refine S.check8 (by omega) hri (fun h => ?_)
      have := h.2.1
      omega
     ·refine RS.norm (by dsimp only [List.set]) ?_
      have hS := c20
      refine RS.wantB 34 rfl rfl rfl ?_
      refine RS.o (D.fieldL 9 rfl Tryz.underlying33 rfl C31 (by decide) rfl) ?_
      refine RS.wantB 34 rfl rfl rfl ?_
      refine RS.o (D.fieldL 9 rfl Tryz.underlying31 rfl C23 (by decide) rfl) ?_
      refine RS.wantB 34 rfl rfl rfl ?_
      refine RS.o (D.load rfl Tryz.underlying23 rfl (B2.cell rfl)) ?_
      refine RS.wantB 34 rfl rfl rfl ?_
      refine RS.o (D.fieldL 9 rfl Tryz.underlying33 rfl C31 (by decide) rfl) ?_
      refine RS.wantB 34 rfl rfl rfl ?_
      refine RS.o (D.fieldL 10 rfl Tryz.underlying31 rfl C23 (by decide) rfl) ?_
      refine RS.wantB 34 rfl rfl rfl ?_
      refine RS.o (D.load rfl Tryz.underlying23 rfl (B2.cell rfl)) ?_
      refine RS.wantB 34 rfl rfl rfl ?_
      refine RS.o (D.max2 rfl rfl) ?_
      refine RS.wantB 34 rfl rfl rfl ?_
      refine RS.o (D.ge rfl rfl) ?_
      refine RS.pick (v := .bool _) rfl rfl ?_
      refine RS.assign (v := .bool _) rfl ?_
      refine RS.nil ?_
      refine hK16 _ _ ?_
      try clear hK16
      refine C.ifd rfl (fun c22 => ?_) (fun c22 => ?_)
      ·try have hQ := c22
       refine wp_seq_k (fun K23 hK23 => ?_)
       refine region ?_
       refine RS.assign (v := .int .i64 8) rfl ?_
       refine RS.nil ?_
       refine hK23 _ _ ?_
       try clear hK23
       refine wp_ret ?_
       refine ret (rs := [.tmp 2]) (vs := [.int _ _]) (v := (.int _ _)) rfl ⟨rfl, trivial⟩ rfl ?_
       refine ⟨_, rfl, hE, congrArg (Value.int .i64) ?_⟩
       have hri : S.Rising o.n o.ids := (S.rising_iff _ _).2 ⟨hso, by have h7 := hap.1; rw [hnz] at h7; exact h7 (by omega)⟩
       refine S.check8 (by omega) hri (fun h => ?_)
       have h1 := h.2.2.1
       have h2 := h.2.2.2.1
       split at hQ <;> omega
      ·try have hQ := c22
       refine wp_skip ?_
       refine hK3 _ _ ?_
       try clear hK3
       refine wp_seq_k (fun K24 hK24 => ?_)
       refine region ?_
       refine RS.o (D.fieldL 3 rfl Tryz.underlying33 rfl C29 (by decide) rfl) ?_
       refine RS.o (D.loadAgg rfl Tryz.underlying29 rfl C29 (by decide) rfl (B2.cellsN 6 rfl)) ?_
       refine RS.call E83 (checkAct _ _ _ _ _ _ o3 o4 o5 o6 (by omega) (by omega) _) rfl (fun v25 w25 x25 A25 => ?_)
       replace hE := Ext.tr hE x25
       replace D0 := D0.ext x25
       replace B2 := B2.ext x25
       have zw25 := x25.size
       subst A25
       refine RS.norm (by dsimp only [List.set]) ?_
       refine RS.assign (v := .int _ _) rfl ?_
       refine RS.nil ?_
       refine hK24 _ _ ?_
       try clear hK24
       refine wp_ret ?_
       refine ret (rs := [.tmp 2]) (vs := [.int _ _]) (v := (.int _ _)) rfl ⟨rfl, trivial⟩ rfl ?_
       refine ⟨_, rfl, hE, congrArg (Value.int .i64) ?_⟩
       have hri : S.Rising o.n o.ids := (S.rising_iff _ _).2 ⟨hso, by have h7 := hap.1; rw [hnz] at h7; exact h7 (by omega)⟩
       refine S.checkA (by omega) hri (by simpa using hG) (by omega) ?_ ?_ <;> (split at hQ <;> omega)
end Go.Proofs.YtiohpiiiapjblaaGreatDoor.W
namespace Go.Proofs.YtiohpiiiapjblaaGreatDoor.W
open Go.RowKit Go.Proofs.YtiohpiiiapjblaaGreatDoor.G
set_option linter.unusedVariables false
set_option maxRecDepth 20000
set_option maxHeartbeats 8000000
attribute [local irreducible] RS RX
theorem C33 : Tryz.prog.cellsOf 33 = 11 := by kernel_rfl
theorem T31 : TI Tryz.prog 31 2 8 [.int .u32 0, .int .u32 0] := by
 have h : (Tryz.prog.info? 31).map (fun i => (i.size, i.bytes, i.zero)) = some (2, 8, some (.agg #[.int .u32 0, .int .u32 0])) := by kernel_rfl
 exact TI.of h rfl
theorem T33 : TI Tryz.prog 33 11 112 [.int .u32 0, .slice none 0 0, .int .u64 0, .int .u8 0, .string .empty, .int .u8 0, .int .i64 0, .int .u64 0, .string .empty, .int .u32 0, .int .u32 0] := by
 have h : (Tryz.prog.info? 33).map (fun i => (i.size, i.bytes, i.zero)) = some (11, 112, some (.agg #[.int .u32 0, .slice none 0 0, .int .u64 0, .int .u8 0, .string .empty, .int .u8 0, .int .i64 0, .int .u64 0, .string .empty, .int .u32 0, .int .u32 0])) := by kernel_rfl
 exact TI.of h rfl
theorem F31 : SI Tryz.prog 31 [(0, 1), (1, 1)] := ⟨_, Tryz.underlying31, by kernel_rfl, by kernel_rfl⟩
theorem E37 : Enters Tryz.prog 37 := .mk Tryz.func37 (by kernel_rfl) rfl
theorem E67 : Enters Tryz.prog 67 := .mk Tryz.func67 (by kernel_rfl) rfl
theorem E68 : Enters Tryz.prog 68 := .mk Tryz.func68 (by kernel_rfl) rfl
theorem E69 : Enters Tryz.prog 69 := .mk Tryz.func69 (by kernel_rfl) rfl
theorem E70 : Enters Tryz.prog 70 := .mk Tryz.func70 (by kernel_rfl) rfl
theorem checkOR {S0 : Nat → Prop} (o : S.OpV) (ho : o.ok) (pa : Option Addr) (pc : Nat) (w : World) (D0 : WRow .u8 32 S0 w pa o.n o.ids) (hc : o.n ≤ pc) :
  Calls Tryz.prog 33 #[.agg ([.int .u32 o.au, .slice pa o.n pc, .int .u64 o.st, .int .u8 o.k, .string o.key, .int .u8 o.vk, .int .i64 o.num, .int .u64 o.bits, .string o.t, .int .u32 o.e, .int .u32 o.s] : List Value).toArray] w (Ret w fun v _ => v = .int .i64 (S.checkE o)) := by
 replace D0 := D0.weaken (T := fun k => k < w.heap.size) (fun k hk _ => hk)
 have o1 := ho.au
 have o2 := ho.st
 have o3 := ho.k
 have o4 := ho.vk
 have o5 := ho.num
 have o6 := ho.bits
 have o7 := ho.e
 have o8 := ho.s
 have o9 := ho.n
 have o10 := ho.key
 have o11 := ho.t
 have hE := Ext.refl w
 refine enter (args := [.agg ([.int .u32 o.au, .slice pa o.n pc, .int .u64 o.st, .int .u8 o.k, .string o.key, .int .u8 o.vk, .int .i64 o.num, .int .u64 o.bits, .string o.t, .int .u32 o.e, .int .u32 o.s] : List Value).toArray]) (l := [.agg ([.int .u32 o.au, .slice pa o.n pc, .int .u64 o.st, .int .u8 o.k, .string o.key, .int .u8 o.vk, .int .i64 o.num, .int .u64 o.bits, .string o.t, .int .u32 o.e, .int .u32 o.s] : List Value).toArray, undef, undef, undef, undef, undef, undef, undef, undef, undef, undef, undef, undef, undef, undef, undef, undef, undef, undef, undef, undef, undef, undef, undef, undef, undef, undef, undef, undef, undef, undef, undef, undef, undef, undef, undef, undef, undef, undef, undef]) Tryz.func33 rfl rfl ?_
 refine wp_seq_k (fun K1 hK1 => ?_)
 refine region ?_
 refine RS.box rfl rfl (fun b2 w2 e2 s2 x2 B2 => ?_)
 refine RS.norm (by dsimp only [List.set]) ?_
 replace hE := Ext.tr hE x2
 replace D0 := D0.ext x2
 have zw2 := x2.size
 refine RS.assign (v := .int .i64 0) rfl ?_
 refine RS.nil ?_
 refine hK1 _ _ ?_
 try clear hK1
 refine wp_seq_k (fun K3 hK3 => ?_)
 refine wp_seq_k (fun K4 hK4 => ?_)
 refine region ?_
 refine RS.o (D.fieldL 1 rfl Tryz.underlying33 rfl C24 (by decide) rfl) ?_
 refine RS.o (D.load rfl Tryz.underlying24 rfl (B2.cell rfl)) ?_
 refine RS.o (D.len rfl Tryz.underlying24) ?_
 refine RS.o (D.gt rfl rfl) ?_
 refine RS.nil ?_
 refine hK4 _ _ ?_
 try clear hK4
 refine C.ifd rfl (fun c5 => ?_) (fun c5 => ?_)
 ·have h4 := c5
  refine wp_seq_k (fun K6 hK6 => ?_)
  refine region ?_
  refine RS.assign (v := .int .i64 4) rfl ?_
  refine RS.nil ?_
  refine hK6 _ _ ?_
  try clear hK6
  refine wp_ret ?_
  refine ret (rs := [.tmp 2]) (vs := [.int _ _]) (v := (.int _ _)) rfl ⟨rfl, trivial⟩ rfl ?_
  refine ⟨_, rfl, hE, congrArg (Value.int .i64) ?_⟩
  exact S.check4 (by omega)
 ·have h4 := c5
  refine wp_skip ?_
  refine hK3 _ _ ?_
  try clear hK3
  refine wp_seq_k (fun K7 hK7 => ?_)
  refine wp_seq_k (fun K8 hK8 => ?_)
  refine region ?_
  refine RS.o (D.fieldL 1 rfl Tryz.underlying33 rfl C24 (by decide) rfl) ?_
  refine RS.o (D.load rfl Tryz.underlying24 rfl (B2.cell rfl)) ?_
  refine RS.call E67 (risingR _ _ _ _ _ D0 hc (by omega)) rfl (fun v9 w9 x9 A9 => ?_)
  replace hE := Ext.tr hE x9
  replace D0 := D0.ext x9
  replace B2 := B2.ext x9
  have zw9 := x9.size
  subst A9
  refine RS.norm (by dsimp only [List.set]) ?_
  refine RS.o (D.not rfl) ?_
  refine RS.nil ?_
  refine hK8 _ _ ?_
  try clear hK8
  refine C.ifnot rfl (fun c10 => ?_) (fun c10 => ?_)
  ·have hri := of_decide_eq_false c10
   refine wp_seq_k (fun K11 hK11 => ?_)
   refine region ?_
   refine RS.assign (v := .int .i64 32) rfl ?_
   refine RS.nil ?_
   refine hK11 _ _ ?_
   try clear hK11
   refine wp_ret ?_
   refine ret (rs := [.tmp 2]) (vs := [.int _ _]) (v := (.int _ _)) rfl ⟨rfl, trivial⟩ rfl ?_
   refine ⟨_, rfl, hE, congrArg (Value.int .i64) ?_⟩
   exact S.check32 (by omega) hri
  ·have hri := of_decide_eq_true c10
   refine wp_skip ?_
   refine hK7 _ _ ?_
   try clear hK7
   refine wp_seq_k (fun K12 hK12 => ?_)
   refine wp_seq_k (fun K13 hK13 => ?_)
   refine region ?_
   refine RS.o (D.fieldL 0 rfl Tryz.underlying33 rfl C23 (by decide) rfl) ?_
   refine RS.o (D.load rfl Tryz.underlying23 rfl (B2.cell rfl)) ?_
   refine RS.call E68 (ref_Is _ (by omega) _) rfl (fun v14 w14 x14 A14 => ?_)
   replace hE := Ext.tr hE x14
   replace D0 := D0.ext x14
   replace B2 := B2.ext x14
   have zw14 := x14.size
   subst A14
   refine RS.norm (by dsimp only [List.set]) ?_
   refine RS.o (D.not rfl) ?_
   refine RS.move (v := .bool _) rfl ?_
   refine RS.splitnot 15 rfl rfl (fun c15 => ?_) (fun c15 => ?_)
   ·refine RS.norm (by dsimp only [List.set]) ?_
    have hG := c15
    refine RS.skipB (b := true) 15 rfl rfl rfl rfl ?_
    refine RS.norm (by dsimp only [putL, List.set]) ?_
    refine RS.skipB (b := true) 15 rfl rfl rfl rfl ?_
    refine RS.norm (by dsimp only [putL, List.set]) ?_
    refine RS.skipB (b := true) 15 rfl rfl rfl rfl ?_
    refine RS.norm (by dsimp only [putL, List.set]) ?_
    refine RS.pick (v := .bool true) rfl rfl ?_
    refine RS.move (v := .bool _) rfl ?_
    refine RS.skipB (b := true) 20 rfl rfl rfl rfl ?_
    refine RS.norm (by dsimp only [putL, List.set]) ?_
    refine RS.skipB (b := true) 20 rfl rfl rfl rfl ?_
    refine RS.norm (by dsimp only [putL, List.set]) ?_
    refine RS.skipB (b := true) 20 rfl rfl rfl rfl ?_
    refine RS.norm (by dsimp only [putL, List.set]) ?_
    refine RS.skipB (b := true) 20 rfl rfl rfl rfl ?_
    refine RS.norm (by dsimp only [putL, List.set]) ?_
    refine RS.pick (v := .bool true) rfl rfl ?_
    refine RS.move (v := .bool _) rfl ?_
    refine RS.skipB (b := true) 26 rfl rfl rfl rfl ?_
    refine RS.norm (by dsimp only [putL, List.set]) ?_
    refine RS.skipB (b := true) 26 rfl rfl rfl rfl ?_
    refine RS.norm (by dsimp only [putL, List.set]) ?_
    refine RS.skipB (b := true) 26 rfl rfl rfl rfl ?_
    refine RS.norm (by dsimp only [putL, List.set]) ?_
    refine RS.skipB (b := true) 26 rfl rfl rfl rfl ?_
    refine RS.norm (by dsimp only [putL, List.set]) ?_
    refine RS.skipB (b := true) 26 rfl rfl rfl rfl ?_
    refine RS.norm (by dsimp only [putL, List.set]) ?_
    refine RS.pick (v := .bool true) rfl rfl ?_
    refine RS.move (v := .bool _) rfl ?_
    refine RS.skipB (b := true) 33 rfl rfl rfl rfl ?_
    refine RS.norm (by dsimp only [putL, List.set]) ?_
    refine RS.skipB (b := true) 33 rfl rfl rfl rfl ?_
    refine RS.norm (by dsimp only [putL, List.set]) ?_
    refine RS.skipB (b := true) 33 rfl rfl rfl rfl ?_
    refine RS.norm (by dsimp only [putL, List.set]) ?_
    refine RS.skipB (b := true) 33 rfl rfl rfl rfl ?_
    refine RS.norm (by dsimp only [putL, List.set]) ?_
    refine RS.skipB (b := true) 33 rfl rfl rfl rfl ?_
    refine RS.norm (by dsimp only [putL, List.set]) ?_
    refine RS.pick (v := .bool true) rfl rfl ?_
    refine RS.nil ?_
    refine hK13 _ _ ?_
    try clear hK13
    refine C.ift rfl ?_
    refine wp_seq_k (fun K16 hK16 => ?_)
    refine region ?_
    refine RS.assign (v := .int .i64 8) rfl ?_
    refine RS.nil ?_
    refine hK16 _ _ ?_
    try clear hK16
    refine wp_ret ?_
    refine ret (rs := [.tmp 2]) (vs := [.int _ _]) (v := (.int _ _)) rfl ⟨rfl, trivial⟩ rfl ?_
    refine ⟨_, rfl, hE, congrArg (Value.int .i64) ?_⟩
    refine S.check8 (by omega) hri (fun h => ?_)
    have := h.1
    simp_all
   ·refine RS.norm (by dsimp only [List.set]) ?_
    have hG := c15
    refine RS.wantB 15 rfl rfl rfl ?_
    refine RS.o (D.fieldL 2 rfl Tryz.underlying33 rfl C25 (by decide) rfl) ?_
    refine RS.wantB 15 rfl rfl rfl ?_
    refine RS.o (D.load rfl Tryz.underlying25 rfl (B2.cell rfl)) ?_
    refine RS.wantB 15 rfl rfl rfl ?_
    refine RS.o (D.gt rfl rfl) ?_
    refine RS.pick (v := .bool _) rfl rfl ?_
    refine RS.move (v := .bool _) rfl ?_
    refine RS.splitd 20 rfl rfl (fun c17 => ?_) (fun c17 => ?_)
    ·refine RS.norm (by dsimp only [List.set]) ?_
     have hS := c17
     refine RS.skipB (b := true) 20 rfl rfl rfl rfl ?_
     refine RS.norm (by dsimp only [putL, List.set]) ?_
     refine RS.skipB (b := true) 20 rfl rfl rfl rfl ?_
     refine RS.norm (by dsimp only [putL, List.set]) ?_
     refine RS.skipB (b := true) 20 rfl rfl rfl rfl ?_
     refine RS.norm (by dsimp only [putL, List.set]) ?_
     refine RS.skipB (b := true) 20 rfl rfl rfl rfl ?_
     refine RS.norm (by dsimp only [putL, List.set]) ?_
     refine RS.pick (v := .bool true) rfl rfl ?_
     refine RS.move (v := .bool _) rfl ?_
     refine RS.skipB (b := true) 26 rfl rfl rfl rfl ?_
     refine RS.norm (by dsimp only [putL, List.set]) ?_
     refine RS.skipB (b := true) 26 rfl rfl rfl rfl ?_
     refine RS.norm (by dsimp only [putL, List.set]) ?_
     refine RS.skipB (b := true) 26 rfl rfl rfl rfl ?_
     refine RS.norm (by dsimp only [putL, List.set]) ?_
     refine RS.skipB (b := true) 26 rfl rfl rfl rfl ?_
     refine RS.norm (by dsimp only [putL, List.set]) ?_
     refine RS.skipB (b := true) 26 rfl rfl rfl rfl ?_
     refine RS.norm (by dsimp only [putL, List.set]) ?_
     refine RS.pick (v := .bool true) rfl rfl ?_
     refine RS.move (v := .bool _) rfl ?_
     refine RS.skipB (b := true) 33 rfl rfl rfl rfl ?_
     refine RS.norm (by dsimp only [putL, List.set]) ?_
     refine RS.skipB (b := true) 33 rfl rfl rfl rfl ?_
     refine RS.norm (by dsimp only [putL, List.set]) ?_
     refine RS.skipB (b := true) 33 rfl rfl rfl rfl ?_
     refine RS.norm (by dsimp only [putL, List.set]) ?_
     refine RS.skipB (b := true) 33 rfl rfl rfl rfl ?_
     refine RS.norm (by dsimp only [putL, List.set]) ?_
     refine RS.skipB (b := true) 33 rfl rfl rfl rfl ?_
     refine RS.norm (by dsimp only [putL, List.set]) ?_
     refine RS.pick (v := .bool true) rfl rfl ?_
     refine RS.nil ?_
     refine hK13 _ _ ?_
     try clear hK13
     refine C.ift rfl ?_
     refine wp_seq_k (fun K18 hK18 => ?_)
     refine region ?_
     refine RS.assign (v := .int .i64 8) rfl ?_
     refine RS.nil ?_
     refine hK18 _ _ ?_
     try clear hK18
     refine wp_ret ?_
     refine ret (rs := [.tmp 2]) (vs := [.int _ _]) (v := (.int _ _)) rfl ⟨rfl, trivial⟩ rfl ?_
     refine ⟨_, rfl, hE, congrArg (Value.int .i64) ?_⟩
     refine S.check8 (by omega) hri (fun h => ?_)
     have := h.2.1
     omega
    ·refine RS.norm (by dsimp only [List.set]) ?_
     have hS := c17
     refine RS.wantB 20 rfl rfl rfl ?_
     refine RS.o (D.fieldL 3 rfl Tryz.underlying33 rfl C29 (by decide) rfl) ?_
     refine RS.wantB 20 rfl rfl rfl ?_
     refine RS.o (D.loadAgg rfl Tryz.underlying29 rfl C29 (by decide) rfl (B2.cellsN 6 rfl)) ?_
     refine RS.wantB 20 rfl rfl rfl ?_
     refine RS.call E69 (checkActR _ _ _ _ _ _ o3 o4 o5 o6 (by omega) (by omega) _) rfl (fun v19 w19 x19 A19 => ?_)
     replace hE := Ext.tr hE x19
     replace D0 := D0.ext x19
     replace B2 := B2.ext x19
     have zw19 := x19.size
     subst A19
     refine RS.norm (by dsimp only [List.set]) ?_
     refine RS.wantB 20 rfl rfl rfl ?_
     refine RS.o (D.ne rfl rfl) ?_
     refine RS.pick (v := .bool _) rfl rfl ?_
     refine RS.move (v := .bool _) rfl ?_
     refine RS.splitn 26 rfl rfl (fun c20 => ?_) (fun c20 => ?_)
     ·refine RS.norm (by dsimp only [List.set]) ?_
      have hA := c20
      refine RS.skipB (b := true) 26 rfl rfl rfl rfl ?_
      refine RS.norm (by dsimp only [putL, List.set]) ?_
      refine RS.skipB (b := true) 26 rfl rfl rfl rfl ?_
      refine RS.norm (by dsimp only [putL, List.set]) ?_
      refine RS.skipB (b := true) 26 rfl rfl rfl rfl ?_
      refine RS.norm (by dsimp only [putL, List.set]) ?_
      refine RS.skipB (b := true) 26 rfl rfl rfl rfl ?_
      refine RS.norm (by dsimp only [putL, List.set]) ?_
      refine RS.skipB (b := true) 26 rfl rfl rfl rfl ?_
      refine RS.norm (by dsimp only [putL, List.set]) ?_
      refine RS.pick (v := .bool true) rfl rfl ?_
      refine RS.move (v := .bool _) rfl ?_
      refine RS.skipB (b := true) 33 rfl rfl rfl rfl ?_
      refine RS.norm (by dsimp only [putL, List.set]) ?_
      refine RS.skipB (b := true) 33 rfl rfl rfl rfl ?_
      refine RS.norm (by dsimp only [putL, List.set]) ?_
      refine RS.skipB (b := true) 33 rfl rfl rfl rfl ?_
      refine RS.norm (by dsimp only [putL, List.set]) ?_
      refine RS.skipB (b := true) 33 rfl rfl rfl rfl ?_
      refine RS.norm (by dsimp only [putL, List.set]) ?_
      refine RS.skipB (b := true) 33 rfl rfl rfl rfl ?_
      refine RS.norm (by dsimp only [putL, List.set]) ?_
      refine RS.pick (v := .bool true) rfl rfl ?_
      refine RS.nil ?_
      refine hK13 _ _ ?_
      try clear hK13
      refine C.ift rfl ?_
      refine wp_seq_k (fun K21 hK21 => ?_)
      refine region ?_
      refine RS.assign (v := .int .i64 8) rfl ?_
      refine RS.nil ?_
      refine hK21 _ _ ?_
      try clear hK21
      refine wp_ret ?_
      refine ret (rs := [.tmp 2]) (vs := [.int _ _]) (v := (.int _ _)) rfl ⟨rfl, trivial⟩ rfl ?_
      refine ⟨_, rfl, hE, congrArg (Value.int .i64) ?_⟩
      refine S.check8 (by omega) hri (fun h => ?_)
      exact hA (S.actE_zero.2 h.2.2.2.2)
     ·refine RS.norm (by dsimp only [List.set]) ?_
      have hA := c20
      refine RS.wantB 26 rfl rfl rfl ?_
      refine RS.o (D.fieldL 9 rfl Tryz.underlying33 rfl C31 (by decide) rfl) ?_
      refine RS.wantB 26 rfl rfl rfl ?_
      refine RS.o (D.fieldL 9 rfl Tryz.underlying31 rfl C23 (by decide) rfl) ?_
      refine RS.wantB 26 rfl rfl rfl ?_
      refine RS.o (D.load rfl Tryz.underlying23 rfl (B2.cell rfl)) ?_
      refine RS.wantB 26 rfl rfl rfl ?_
      refine RS.call E70 (ref_Exponent _ (by omega) _) rfl (fun v22 w22 x22 A22 => ?_)
      replace hE := Ext.tr hE x22
      replace D0 := D0.ext x22
      replace B2 := B2.ext x22
      have zw22 := x22.size
      subst A22
      refine RS.norm (by dsimp only [List.set]) ?_
      refine RS.wantB 26 rfl rfl rfl ?_
      refine RS.o (D.not rfl) ?_
      refine RS.pick (v := .bool _) rfl rfl ?_
      refine RS.move (v := .bool _) rfl ?_
      refine RS.splitnot 33 rfl rfl (fun c23 => ?_) (fun c23 => ?_)
      ·refine RS.norm (by dsimp only [List.set]) ?_
       have hQ := of_decide_eq_false c23
       refine RS.skipB (b := true) 33 rfl rfl rfl rfl ?_
       refine RS.norm (by dsimp only [putL, List.set]) ?_
       refine RS.skipB (b := true) 33 rfl rfl rfl rfl ?_
       refine RS.norm (by dsimp only [putL, List.set]) ?_
       refine RS.skipB (b := true) 33 rfl rfl rfl rfl ?_
       refine RS.norm (by dsimp only [putL, List.set]) ?_
       refine RS.skipB (b := true) 33 rfl rfl rfl rfl ?_
       refine RS.norm (by dsimp only [putL, List.set]) ?_
       refine RS.skipB (b := true) 33 rfl rfl rfl rfl ?_
       refine RS.norm (by dsimp only [putL, List.set]) ?_
       refine RS.pick (v := .bool true) rfl rfl ?_
       refine RS.nil ?_
       refine hK13 _ _ ?_
       try clear hK13
       refine C.ift rfl ?_
       refine wp_seq_k (fun K24 hK24 => ?_)
       refine region ?_
       refine RS.assign (v := .int .i64 8) rfl ?_
       refine RS.nil ?_
       refine hK24 _ _ ?_
       try clear hK24
       refine wp_ret ?_
       refine ret (rs := [.tmp 2]) (vs := [.int _ _]) (v := (.int _ _)) rfl ⟨rfl, trivial⟩ rfl ?_
       refine ⟨_, rfl, hE, congrArg (Value.int .i64) ?_⟩
       refine S.check8 (by omega) hri (fun h => ?_)
       have := h.2.2.1
       omega
      ·refine RS.norm (by dsimp only [List.set]) ?_
       have hQ := of_decide_eq_true c23
       refine RS.wantB 33 rfl rfl rfl ?_
       refine RS.o (D.fieldL 9 rfl Tryz.underlying33 rfl C31 (by decide) rfl) ?_
       refine RS.wantB 33 rfl rfl rfl ?_
       refine RS.o (D.fieldL 10 rfl Tryz.underlying31 rfl C23 (by decide) rfl) ?_
       refine RS.wantB 33 rfl rfl rfl ?_
       refine RS.o (D.load rfl Tryz.underlying23 rfl (B2.cell rfl)) ?_
       refine RS.wantB 33 rfl rfl rfl ?_
       refine RS.call E70 (ref_Exponent _ (by omega) _) rfl (fun v25 w25 x25 A25 => ?_)
       replace hE := Ext.tr hE x25
       replace D0 := D0.ext x25
       replace B2 := B2.ext x25
       have zw25 := x25.size
       subst A25
       refine RS.norm (by dsimp only [List.set]) ?_
       refine RS.wantB 33 rfl rfl rfl ?_
       refine RS.o (D.not rfl) ?_
       refine RS.pick (v := .bool _) rfl rfl ?_
       refine RS.nil ?_
       refine hK13 _ _ ?_
       try clear hK13
       refine C.ifnot rfl (fun c26 => ?_) (fun c26 => ?_)
       ·try have hZ := of_decide_eq_false c26
        refine wp_seq_k (fun K27 hK27 => ?_)
        refine region ?_
        refine RS.assign (v := .int .i64 8) rfl ?_
        refine RS.nil ?_
        refine hK27 _ _ ?_
        try clear hK27
        refine wp_ret ?_
        refine ret (rs := [.tmp 2]) (vs := [.int _ _]) (v := (.int _ _)) rfl ⟨rfl, trivial⟩ rfl ?_
        refine ⟨_, rfl, hE, congrArg (Value.int .i64) ?_⟩
        refine S.check8 (by omega) hri (fun h => ?_)
        have := h.2.2.2.1
        omega
       ·try have hZ := of_decide_eq_true c26
        refine wp_skip ?_
        refine hK12 _ _ ?_
        try clear hK12
        refine wp_seq_k (fun K28 hK28 => ?_)
        refine region ?_
        refine RS.assign (v := .int .i64 0) rfl ?_
        refine RS.nil ?_
        refine hK28 _ _ ?_
        try clear hK28
        refine wp_ret ?_
        refine ret (rs := [.tmp 2]) (vs := [.int _ _]) (v := (.int _ _)) rfl ⟨rfl, trivial⟩ rfl ?_
        refine ⟨_, rfl, hE, congrArg (Value.int .i64) ?_⟩
        exact S.check0 (by omega) hri ⟨by simpa using hG, by omega, hQ, hZ, S.actE_zero.1 hA⟩
theorem great (o : S.OpV) (pa : Option Addr) (pc : Nat) (w : World) :
  Calls Tryz.prog 19 #[.agg ([.int .u32 o.au, .slice pa o.n pc, .int .u64 o.st, .int .u8 o.k, .string o.key, .int .u8 o.vk, .int .i64 o.num, .int .u64 o.bits, .string o.t, .int .u32 o.e, .int .u32 o.s] : List Value).toArray] w (Ret w fun v _ => v = .bool (decide (20 < o.n ∨ 100 < o.key.size ∨ 100 < o.t.size))) := by
 have hE := Ext.refl w
 refine enter (args := [.agg ([.int .u32 o.au, .slice pa o.n pc, .int .u64 o.st, .int .u8 o.k, .string o.key, .int .u8 o.vk, .int .i64 o.num, .int .u64 o.bits, .string o.t, .int .u32 o.e, .int .u32 o.s] : List Value).toArray]) (l := [.agg ([.int .u32 o.au, .slice pa o.n pc, .int .u64 o.st, .int .u8 o.k, .string o.key, .int .u8 o.vk, .int .i64 o.num, .int .u64 o.bits, .string o.t, .int .u32 o.e, .int .u32 o.s] : List Value).toArray, undef, undef, undef, undef, undef, undef, undef, undef, undef, undef, undef, undef, undef, undef, undef, undef, undef, undef, undef, undef, undef]) Tryz.func19 rfl rfl ?_
 refine wp_seq_k (fun K1 hK1 => ?_)
 refine region ?_
 refine RS.box rfl rfl (fun b2 w2 e2 s2 x2 B2 => ?_)
 refine RS.norm (by dsimp only [List.set]) ?_
 replace hE := Ext.tr hE x2
 have zw2 := x2.size
 refine RS.assign (v := .bool false) rfl ?_
 refine RS.nil ?_
 refine hK1 _ _ ?_
 try clear hK1
 refine wp_seq_k (fun K3 hK3 => ?_)
 refine region ?_
 refine RS.o (D.fieldL 1 rfl Tryz.underlying33 rfl C24 (by decide) rfl) ?_
 refine RS.o (D.load rfl Tryz.underlying24 rfl (B2.cell rfl)) ?_
 refine RS.o (D.len rfl Tryz.underlying24) ?_
 refine RS.o (D.gt rfl rfl) ?_
 refine RS.move (v := .bool _) rfl ?_
 refine RS.splitd 7 rfl rfl (fun c4 => ?_) (fun c4 => ?_)
 ·refine RS.norm (by dsimp only [List.set]) ?_
  refine RS.skipB (b := true) 7 rfl rfl rfl rfl ?_
  refine RS.norm (by dsimp only [putL, List.set]) ?_
  refine RS.skipB (b := true) 7 rfl rfl rfl rfl ?_
  refine RS.norm (by dsimp only [putL, List.set]) ?_
  refine RS.skipB (b := true) 7 rfl rfl rfl rfl ?_
  refine RS.norm (by dsimp only [putL, List.set]) ?_
  refine RS.skipB (b := true) 7 rfl rfl rfl rfl ?_
  refine RS.norm (by dsimp only [putL, List.set]) ?_
  refine RS.skipB (b := true) 7 rfl rfl rfl rfl ?_
  refine RS.norm (by dsimp only [putL, List.set]) ?_
  refine RS.pick (v := .bool true) rfl rfl ?_
  refine RS.move (v := .bool _) rfl ?_
  refine RS.skipB (b := true) 14 rfl rfl rfl rfl ?_
  refine RS.norm (by dsimp only [putL, List.set]) ?_
  refine RS.skipB (b := true) 14 rfl rfl rfl rfl ?_
  refine RS.norm (by dsimp only [putL, List.set]) ?_
  refine RS.skipB (b := true) 14 rfl rfl rfl rfl ?_
  refine RS.norm (by dsimp only [putL, List.set]) ?_
  refine RS.skipB (b := true) 14 rfl rfl rfl rfl ?_
  refine RS.norm (by dsimp only [putL, List.set]) ?_
  refine RS.skipB (b := true) 14 rfl rfl rfl rfl ?_
  refine RS.norm (by dsimp only [putL, List.set]) ?_
  refine RS.skipB (b := true) 14 rfl rfl rfl rfl ?_
  refine RS.norm (by dsimp only [putL, List.set]) ?_
  refine RS.pick (v := .bool true) rfl rfl ?_
  refine RS.assign (v := .bool _) rfl ?_
  refine RS.nil ?_
  refine hK3 _ _ ?_
  try clear hK3
  refine wp_ret ?_
  refine ret (rs := [.tmp 2]) (vs := [.bool _]) (v := (.bool _)) rfl ⟨rfl, trivial⟩ rfl ?_
  refine ⟨_, rfl, hE, congrArg Value.bool ?_⟩
  exact (decide_eq_true (by omega)).symm
 ·refine RS.norm (by dsimp only [List.set]) ?_
  refine RS.wantB 7 rfl rfl rfl ?_
  refine RS.o (D.fieldL 3 rfl Tryz.underlying33 rfl C29 (by decide) rfl) ?_
  refine RS.wantB 7 rfl rfl rfl ?_
  refine RS.o (D.fieldL 4 rfl Tryz.underlying29 rfl C9 (by decide) rfl) ?_
  refine RS.wantB 7 rfl rfl rfl ?_
  refine RS.o (D.load rfl Tryz.underlying9 rfl (B2.cell rfl)) ?_
  refine RS.wantB 7 rfl rfl rfl ?_
  refine RS.o (D.lenStr rfl Tryz.underlying9) ?_
  refine RS.wantB 7 rfl rfl rfl ?_
  refine RS.o (D.gt rfl rfl) ?_
  refine RS.pick (v := .bool _) rfl rfl ?_
  refine RS.move (v := .bool _) rfl ?_
  refine RS.splitd 14 rfl rfl (fun c5 => ?_) (fun c5 => ?_)
  ·refine RS.norm (by dsimp only [List.set]) ?_
   refine RS.skipB (b := true) 14 rfl rfl rfl rfl ?_
   refine RS.norm (by dsimp only [putL, List.set]) ?_
   refine RS.skipB (b := true) 14 rfl rfl rfl rfl ?_
   refine RS.norm (by dsimp only [putL, List.set]) ?_
   refine RS.skipB (b := true) 14 rfl rfl rfl rfl ?_
   refine RS.norm (by dsimp only [putL, List.set]) ?_
   refine RS.skipB (b := true) 14 rfl rfl rfl rfl ?_
   refine RS.norm (by dsimp only [putL, List.set]) ?_
   refine RS.skipB (b := true) 14 rfl rfl rfl rfl ?_
   refine RS.norm (by dsimp only [putL, List.set]) ?_
   refine RS.skipB (b := true) 14 rfl rfl rfl rfl ?_
   refine RS.norm (by dsimp only [putL, List.set]) ?_
   refine RS.pick (v := .bool true) rfl rfl ?_
   refine RS.assign (v := .bool _) rfl ?_
   refine RS.nil ?_
   refine hK3 _ _ ?_
   try clear hK3
   refine wp_ret ?_
   refine ret (rs := [.tmp 2]) (vs := [.bool _]) (v := (.bool _)) rfl ⟨rfl, trivial⟩ rfl ?_
   refine ⟨_, rfl, hE, congrArg Value.bool ?_⟩
   exact (decide_eq_true (by omega)).symm
  ·refine RS.norm (by dsimp only [List.set]) ?_
   refine RS.wantB 14 rfl rfl rfl ?_
   refine RS.o (D.fieldL 3 rfl Tryz.underlying33 rfl C29 (by decide) rfl) ?_
   refine RS.wantB 14 rfl rfl rfl ?_
   refine RS.o (D.fieldL 5 rfl Tryz.underlying29 rfl C27 (by decide) rfl) ?_
   refine RS.wantB 14 rfl rfl rfl ?_
   refine RS.o (D.fieldL 8 rfl Tryz.underlying27 rfl C9 (by decide) rfl) ?_
   refine RS.wantB 14 rfl rfl rfl ?_
   refine RS.o (D.load rfl Tryz.underlying9 rfl (B2.cell rfl)) ?_
   refine RS.wantB 14 rfl rfl rfl ?_
   refine RS.o (D.lenStr rfl Tryz.underlying9) ?_
   refine RS.wantB 14 rfl rfl rfl ?_
   refine RS.o (D.gt rfl rfl) ?_
   refine RS.pick (v := .bool _) rfl rfl ?_
   refine RS.assign (v := .bool _) rfl ?_
   refine RS.nil ?_
   refine hK3 _ _ ?_
   try clear hK3
   refine wp_ret ?_
   refine ret (rs := [.tmp 2]) (vs := [.bool _]) (v := (.bool _)) rfl ⟨rfl, trivial⟩ rfl ?_
   refine ⟨_, rfl, hE, congrArg Value.bool ?_⟩
   exact decide_eq_decide.2 (by omega)
theorem sameO {S0 S1 : Nat → Prop} (o u : S.OpV) (ho : o.ok) (hu : u.ok) (pa qa : Option Addr) (pc qc : Nat) (w : World) (D0 : WRow .u8 32 S0 w pa o.n o.ids) (D1 : WRow .u8 32 S1 w qa u.n u.ids) :
  Calls Tryz.prog 11 #[.agg ([.int .u32 o.au, .slice pa o.n pc, .int .u64 o.st, .int .u8 o.k, .string o.key, .int .u8 o.vk, .int .i64 o.num, .int .u64 o.bits, .string o.t, .int .u32 o.e, .int .u32 o.s] : List Value).toArray, .agg ([.int .u32 u.au, .slice qa u.n qc, .int .u64 u.st, .int .u8 u.k, .string u.key, .int .u8 u.vk, .int .i64 u.num, .int .u64 u.bits, .string u.t, .int .u32 u.e, .int .u32 u.s] : List Value).toArray] w (Ret w fun v _ => v = .bool (decide (S.SameO o u))) := by
 have h1 := ho.n
 have h2 := hu.n
 have hE := Ext.refl w
 refine enter (args := [.agg ([.int .u32 o.au, .slice pa o.n pc, .int .u64 o.st, .int .u8 o.k, .string o.key, .int .u8 o.vk, .int .i64 o.num, .int .u64 o.bits, .string o.t, .int .u32 o.e, .int .u32 o.s] : List Value).toArray, .agg ([.int .u32 u.au, .slice qa u.n qc, .int .u64 u.st, .int .u8 u.k, .string u.key, .int .u8 u.vk, .int .i64 u.num, .int .u64 u.bits, .string u.t, .int .u32 u.e, .int .u32 u.s] : List Value).toArray]) (l := [.agg ([.int .u32 o.au, .slice pa o.n pc, .int .u64 o.st, .int .u8 o.k, .string o.key, .int .u8 o.vk, .int .i64 o.num, .int .u64 o.bits, .string o.t, .int .u32 o.e, .int .u32 o.s] : List Value).toArray, .agg ([.int .u32 u.au, .slice qa u.n qc, .int .u64 u.st, .int .u8 u.k, .string u.key, .int .u8 u.vk, .int .i64 u.num, .int .u64 u.bits, .string u.t, .int .u32 u.e, .int .u32 u.s] : List Value).toArray, undef, undef, undef, undef, undef, undef, undef, undef, undef, undef, undef, undef, undef, undef, undef, undef, undef, undef, undef, undef, undef, undef, undef, undef, undef, undef, undef, undef, undef, undef, undef, undef, undef, undef, undef, undef]) Tryz.func11 rfl rfl ?_
 refine wp_seq_k (fun K1 hK1 => ?_)
 refine region ?_
 refine RS.box rfl rfl (fun b2 w2 e2 s2 x2 B2 => ?_)
 refine RS.norm (by dsimp only [List.set]) ?_
 replace hE := Ext.tr hE x2
 replace D0 := D0.ext x2
 replace D1 := D1.ext x2
 have zw2 := x2.size
 refine RS.box rfl rfl (fun b3 w3 e3 s3 x3 B3 => ?_)
 refine RS.norm (by dsimp only [List.set]) ?_
 replace hE := Ext.tr hE x3
 replace D0 := D0.ext x3
 replace D1 := D1.ext x3
 replace B2 := B2.ext x3
 have zw3 := x3.size
 refine RS.assign (v := .bool false) rfl ?_
 refine RS.nil ?_
 refine hK1 _ _ ?_
 try clear hK1
 refine wp_seq_k (fun K4 hK4 => ?_)
 refine region ?_
 refine RS.o (D.fieldL 0 rfl Tryz.underlying33 rfl C23 (by decide) rfl) ?_
 refine RS.o (D.load rfl Tryz.underlying23 rfl (B2.cell rfl)) ?_
 refine RS.o (D.fieldL 0 rfl Tryz.underlying33 rfl C23 (by decide) rfl) ?_
 refine RS.o (D.load rfl Tryz.underlying23 rfl (B3.cell rfl)) ?_
 refine RS.o (D.eq rfl rfl) ?_
 refine RS.move (v := .bool _) rfl ?_
 refine RS.splite 10 rfl rfl (fun c5 => ?_) (fun c5 => ?_)
 ·refine RS.norm (by dsimp only [List.set]) ?_
  have e1 := c5
  refine RS.wantB 10 rfl rfl rfl ?_
  refine RS.o (D.fieldL 1 rfl Tryz.underlying33 rfl C24 (by decide) rfl) ?_
  refine RS.wantB 10 rfl rfl rfl ?_
  refine RS.o (D.load rfl Tryz.underlying24 rfl (B2.cell rfl)) ?_
  refine RS.wantB 10 rfl rfl rfl ?_
  refine RS.o (D.fieldL 1 rfl Tryz.underlying33 rfl C24 (by decide) rfl) ?_
  refine RS.wantB 10 rfl rfl rfl ?_
  refine RS.o (D.load rfl Tryz.underlying24 rfl (B3.cell rfl)) ?_
  refine RS.wantB 10 rfl rfl rfl ?_
  refine RS.call E37 (sameIDs _ _ _ _ _ _ _ _ _ D0 D1 (by omega) (by omega)) rfl (fun v6 w6 x6 A6 => ?_)
  replace hE := Ext.tr hE x6
  replace D0 := D0.ext x6
  replace D1 := D1.ext x6
  replace B2 := B2.ext x6
  replace B3 := B3.ext x6
  have zw6 := x6.size
  subst A6
  refine RS.norm (by dsimp only [List.set]) ?_
  refine RS.pick (v := .bool _) rfl rfl ?_
  refine RS.move (v := .bool _) rfl ?_
  refine RS.splitb 17 rfl rfl (fun c7 => ?_) (fun c7 => ?_)
  ·refine RS.norm (by dsimp only [List.set]) ?_
   have e2 := of_decide_eq_true c7
   refine RS.wantB 17 rfl rfl rfl ?_
   refine RS.o (D.fieldL 2 rfl Tryz.underlying33 rfl C25 (by decide) rfl) ?_
   refine RS.wantB 17 rfl rfl rfl ?_
   refine RS.o (D.load rfl Tryz.underlying25 rfl (B2.cell rfl)) ?_
   refine RS.wantB 17 rfl rfl rfl ?_
   refine RS.o (D.fieldL 2 rfl Tryz.underlying33 rfl C25 (by decide) rfl) ?_
   refine RS.wantB 17 rfl rfl rfl ?_
   refine RS.o (D.load rfl Tryz.underlying25 rfl (B3.cell rfl)) ?_
   refine RS.wantB 17 rfl rfl rfl ?_
   refine RS.o (D.eq rfl rfl) ?_
   refine RS.pick (v := .bool _) rfl rfl ?_
   refine RS.move (v := .bool _) rfl ?_
   refine RS.splite 24 rfl rfl (fun c8 => ?_) (fun c8 => ?_)
   ·refine RS.norm (by dsimp only [List.set]) ?_
    have e3 := c8
    refine RS.wantB 24 rfl rfl rfl ?_
    refine RS.o (D.fieldL 3 rfl Tryz.underlying33 rfl C29 (by decide) rfl) ?_
    refine RS.wantB 24 rfl rfl rfl ?_
    refine RS.o (D.loadAgg rfl Tryz.underlying29 rfl C29 (by decide) rfl (B2.cellsN 6 rfl)) ?_
    refine RS.wantB 24 rfl rfl rfl ?_
    refine RS.o (D.fieldL 3 rfl Tryz.underlying33 rfl C29 (by decide) rfl) ?_
    refine RS.wantB 24 rfl rfl rfl ?_
    refine RS.o (D.loadAgg rfl Tryz.underlying29 rfl C29 (by decide) rfl (B3.cellsN 6 rfl)) ?_
    refine RS.wantB 24 rfl rfl rfl ?_
    refine RS.o (D.eqA rfl rfl Tryz.underlying29 rfl (by kernel_rfl) (by kernel_rfl) (by kernel_rfl)) ?_
    refine RS.pick (v := .bool _) rfl rfl ?_
    refine RS.move (v := .bool _) rfl ?_
    refine RS.splitb 31 rfl rfl (fun c9 => ?_) (fun c9 => ?_)
    ·refine RS.norm (by dsimp only [List.set]) ?_
     have e4 := of_decide_eq_true ((S.eqA6 _ _ _ _ _ _ _ _ _ _ _ _).symm.trans c9)
     refine RS.wantB 31 rfl rfl rfl ?_
     refine RS.o (D.fieldL 9 rfl Tryz.underlying33 rfl C31 (by decide) rfl) ?_
     refine RS.wantB 31 rfl rfl rfl ?_
     refine RS.o (D.loadAgg rfl Tryz.underlying31 rfl C31 (by decide) rfl (B2.cellsN 2 rfl)) ?_
     refine RS.wantB 31 rfl rfl rfl ?_
     refine RS.o (D.fieldL 9 rfl Tryz.underlying33 rfl C31 (by decide) rfl) ?_
     refine RS.wantB 31 rfl rfl rfl ?_
     refine RS.o (D.loadAgg rfl Tryz.underlying31 rfl C31 (by decide) rfl (B3.cellsN 2 rfl)) ?_
     refine RS.wantB 31 rfl rfl rfl ?_
     refine RS.o (D.eqA rfl rfl Tryz.underlying31 rfl (by kernel_rfl) (by kernel_rfl) (by kernel_rfl)) ?_
     refine RS.pick (v := .bool _) rfl rfl ?_
     refine RS.assign (v := .bool _) rfl ?_
     refine RS.nil ?_
     refine hK4 _ _ ?_
     try clear hK4
     refine wp_ret ?_
     refine ret (rs := [.tmp 4]) (vs := [.bool _]) (v := (.bool _)) rfl ⟨rfl, trivial⟩ rfl ?_
     refine ⟨_, rfl, hE, congrArg Value.bool ?_⟩
     refine Eq.trans (S.eqS2 _ _ _ _) (decide_eq_decide.2 ?_)
     exact ⟨fun h => ⟨e1, e2, e3, e4, h⟩, fun h => h.2.2.2.2⟩
    ·refine RS.norm (by dsimp only [List.set]) ?_
     have e4 := of_decide_eq_false ((S.eqA6 _ _ _ _ _ _ _ _ _ _ _ _).symm.trans c9)
     refine RS.skipB (b := false) 31 rfl rfl rfl rfl ?_
     refine RS.norm (by dsimp only [putL, List.set]) ?_
     refine RS.skipB (b := false) 31 rfl rfl rfl rfl ?_
     refine RS.norm (by dsimp only [putL, List.set]) ?_
     refine RS.skipB (b := false) 31 rfl rfl rfl rfl ?_
     refine RS.norm (by dsimp only [putL, List.set]) ?_
     refine RS.skipB (b := false) 31 rfl rfl rfl rfl ?_
     refine RS.norm (by dsimp only [putL, List.set]) ?_
     refine RS.skipB (b := false) 31 rfl rfl rfl rfl ?_
     refine RS.norm (by dsimp only [putL, List.set]) ?_
     refine RS.pick (v := .bool false) rfl rfl ?_
     refine RS.assign (v := .bool _) rfl ?_
     refine RS.nil ?_
     refine hK4 _ _ ?_
     try clear hK4
     refine wp_ret ?_
     refine ret (rs := [.tmp 4]) (vs := [.bool _]) (v := (.bool _)) rfl ⟨rfl, trivial⟩ rfl ?_
     refine ⟨_, rfl, hE, congrArg Value.bool ?_⟩
     refine (decide_eq_false (fun h => ?_)).symm
     exact absurd h.2.2.2.1 e4
   ·refine RS.norm (by dsimp only [List.set]) ?_
    have e3 := c8
    refine RS.skipB (b := false) 24 rfl rfl rfl rfl ?_
    refine RS.norm (by dsimp only [putL, List.set]) ?_
    refine RS.skipB (b := false) 24 rfl rfl rfl rfl ?_
    refine RS.norm (by dsimp only [putL, List.set]) ?_
    refine RS.skipB (b := false) 24 rfl rfl rfl rfl ?_
    refine RS.norm (by dsimp only [putL, List.set]) ?_
    refine RS.skipB (b := false) 24 rfl rfl rfl rfl ?_
    refine RS.norm (by dsimp only [putL, List.set]) ?_
    refine RS.skipB (b := false) 24 rfl rfl rfl rfl ?_
    refine RS.norm (by dsimp only [putL, List.set]) ?_
    refine RS.pick (v := .bool false) rfl rfl ?_
    refine RS.move (v := .bool _) rfl ?_
    refine RS.skipB (b := false) 31 rfl rfl rfl rfl ?_
    refine RS.norm (by dsimp only [putL, List.set]) ?_
    refine RS.skipB (b := false) 31 rfl rfl rfl rfl ?_
    refine RS.norm (by dsimp only [putL, List.set]) ?_
    refine RS.skipB (b := false) 31 rfl rfl rfl rfl ?_
    refine RS.norm (by dsimp only [putL, List.set]) ?_
    refine RS.skipB (b := false) 31 rfl rfl rfl rfl ?_
    refine RS.norm (by dsimp only [putL, List.set]) ?_
    refine RS.skipB (b := false) 31 rfl rfl rfl rfl ?_
    refine RS.norm (by dsimp only [putL, List.set]) ?_
    refine RS.pick (v := .bool false) rfl rfl ?_
    refine RS.assign (v := .bool _) rfl ?_
    refine RS.nil ?_
    refine hK4 _ _ ?_
    try clear hK4
    refine wp_ret ?_
    refine ret (rs := [.tmp 4]) (vs := [.bool _]) (v := (.bool _)) rfl ⟨rfl, trivial⟩ rfl ?_
    refine ⟨_, rfl, hE, congrArg Value.bool ?_⟩
    refine (decide_eq_false (fun h => ?_)).symm
    exact absurd h.2.2.1 e3
  ·refine RS.norm (by dsimp only [List.set]) ?_
   have e2 := of_decide_eq_false c7
   refine RS.skipB (b := false) 17 rfl rfl rfl rfl ?_
   refine RS.norm (by dsimp only [putL, List.set]) ?_
   refine RS.skipB (b := false) 17 rfl rfl rfl rfl ?_
   refine RS.norm (by dsimp only [putL, List.set]) ?_
   refine RS.skipB (b := false) 17 rfl rfl rfl rfl ?_
   refine RS.norm (by dsimp only [putL, List.set]) ?_
   refine RS.skipB (b := false) 17 rfl rfl rfl rfl ?_
   refine RS.norm (by dsimp only [putL, List.set]) ?_
   refine RS.skipB (b := false) 17 rfl rfl rfl rfl ?_
   refine RS.norm (by dsimp only [putL, List.set]) ?_
   refine RS.pick (v := .bool false) rfl rfl ?_
   refine RS.move (v := .bool _) rfl ?_
   refine RS.skipB (b := false) 24 rfl rfl rfl rfl ?_
   refine RS.norm (by dsimp only [putL, List.set]) ?_
   refine RS.skipB (b := false) 24 rfl rfl rfl rfl ?_
   refine RS.norm (by dsimp only [putL, List.set]) ?_
   refine RS.skipB (b := false) 24 rfl rfl rfl rfl ?_
   refine RS.norm (by dsimp only [putL, List.set]) ?_
   refine RS.skipB (b := false) 24 rfl rfl rfl rfl ?_
   refine RS.norm (by dsimp only [putL, List.set]) ?_
   refine RS.skipB (b := false) 24 rfl rfl rfl rfl ?_
   refine RS.norm (by dsimp only [putL, List.set]) ?_
   refine RS.pick (v := .bool false) rfl rfl ?_
   refine RS.move (v := .bool _) rfl ?_
   refine RS.skipB (b := false) 31 rfl rfl rfl rfl ?_
   refine RS.norm (by dsimp only [putL, List.set]) ?_
   refine RS.skipB (b := false) 31 rfl rfl rfl rfl ?_
   refine RS.norm (by dsimp only [putL, List.set]) ?_
   refine RS.skipB (b := false) 31 rfl rfl rfl rfl ?_
   refine RS.norm (by dsimp only [putL, List.set]) ?_
   refine RS.skipB (b := false) 31 rfl rfl rfl rfl ?_
   refine RS.norm (by dsimp only [putL, List.set]) ?_
   refine RS.skipB (b := false) 31 rfl rfl rfl rfl ?_
   refine RS.norm (by dsimp only [putL, List.set]) ?_
   refine RS.pick (v := .bool false) rfl rfl ?_
   refine RS.assign (v := .bool _) rfl ?_
   refine RS.nil ?_
   refine hK4 _ _ ?_
   try clear hK4
   refine wp_ret ?_
   refine ret (rs := [.tmp 4]) (vs := [.bool _]) (v := (.bool _)) rfl ⟨rfl, trivial⟩ rfl ?_
   refine ⟨_, rfl, hE, congrArg Value.bool ?_⟩
   refine (decide_eq_false (fun h => ?_)).symm
   exact absurd h.2.1 e2
 ·refine RS.norm (by dsimp only [List.set]) ?_
  have e1 := c5
  refine RS.skipB (b := false) 10 rfl rfl rfl rfl ?_
  refine RS.norm (by dsimp only [putL, List.set]) ?_
  refine RS.skipB (b := false) 10 rfl rfl rfl rfl ?_
  refine RS.norm (by dsimp only [putL, List.set]) ?_
  refine RS.skipB (b := false) 10 rfl rfl rfl rfl ?_
  refine RS.norm (by dsimp only [putL, List.set]) ?_
  refine RS.skipB (b := false) 10 rfl rfl rfl rfl ?_
  refine RS.norm (by dsimp only [putL, List.set]) ?_
  refine RS.skipB (b := false) 10 rfl rfl rfl rfl ?_
  refine RS.norm (by dsimp only [putL, List.set]) ?_
  refine RS.pick (v := .bool false) rfl rfl ?_
  refine RS.move (v := .bool _) rfl ?_
  refine RS.skipB (b := false) 17 rfl rfl rfl rfl ?_
  refine RS.norm (by dsimp only [putL, List.set]) ?_
  refine RS.skipB (b := false) 17 rfl rfl rfl rfl ?_
  refine RS.norm (by dsimp only [putL, List.set]) ?_
  refine RS.skipB (b := false) 17 rfl rfl rfl rfl ?_
  refine RS.norm (by dsimp only [putL, List.set]) ?_
  refine RS.skipB (b := false) 17 rfl rfl rfl rfl ?_
  refine RS.norm (by dsimp only [putL, List.set]) ?_
  refine RS.skipB (b := false) 17 rfl rfl rfl rfl ?_
  refine RS.norm (by dsimp only [putL, List.set]) ?_
  refine RS.pick (v := .bool false) rfl rfl ?_
  refine RS.move (v := .bool _) rfl ?_
  refine RS.skipB (b := false) 24 rfl rfl rfl rfl ?_
  refine RS.norm (by dsimp only [putL, List.set]) ?_
  refine RS.skipB (b := false) 24 rfl rfl rfl rfl ?_
  refine RS.norm (by dsimp only [putL, List.set]) ?_
  refine RS.skipB (b := false) 24 rfl rfl rfl rfl ?_
  refine RS.norm (by dsimp only [putL, List.set]) ?_
  refine RS.skipB (b := false) 24 rfl rfl rfl rfl ?_
  refine RS.norm (by dsimp only [putL, List.set]) ?_
  refine RS.skipB (b := false) 24 rfl rfl rfl rfl ?_
  refine RS.norm (by dsimp only [putL, List.set]) ?_
  refine RS.pick (v := .bool false) rfl rfl ?_
  refine RS.move (v := .bool _) rfl ?_
  refine RS.skipB (b := false) 31 rfl rfl rfl rfl ?_
  refine RS.norm (by dsimp only [putL, List.set]) ?_
  refine RS.skipB (b := false) 31 rfl rfl rfl rfl ?_
  refine RS.norm (by dsimp only [putL, List.set]) ?_
  refine RS.skipB (b := false) 31 rfl rfl rfl rfl ?_
  refine RS.norm (by dsimp only [putL, List.set]) ?_
  refine RS.skipB (b := false) 31 rfl rfl rfl rfl ?_
  refine RS.norm (by dsimp only [putL, List.set]) ?_
  refine RS.skipB (b := false) 31 rfl rfl rfl rfl ?_
  refine RS.norm (by dsimp only [putL, List.set]) ?_
  refine RS.pick (v := .bool false) rfl rfl ?_
  refine RS.assign (v := .bool _) rfl ?_
  refine RS.nil ?_
  refine hK4 _ _ ?_
  try clear hK4
  refine wp_ret ?_
  refine ret (rs := [.tmp 4]) (vs := [.bool _]) (v := (.bool _)) rfl ⟨rfl, trivial⟩ rfl ?_
  refine ⟨_, rfl, hE, congrArg Value.bool ?_⟩
  refine (decide_eq_false (fun h => ?_)).symm
  exact absurd h.1 e1
end Go.Proofs.YtiohpiiiapjblaaGreatDoor.W
