/-
  OpNames: the examples of the chapter, acts, limits and errors. Condition: the table digest.constants is as its initialiser lays it (tied by the card).
-/
import Derived.Test.YtiohpiiiapjblaaDoorPQn9
namespace Go.Proofs.YtiohpiiiapjblaaDoor.S
open G
/-- An act. -/
structure ActK where
  (k vk num bits : Int) (key t : ByteArray)
instance : Inhabited ActK := ⟨⟨0, 0, 0, 0, .empty, .empty⟩⟩
def actC (x : ActK) : List Value := [.int .u8 x.k, .string x.key, .int .u8 x.vk, .int .i64 x.num, .int .u64 x.bits, .string x.t]
theorem actC_len (x : ActK) : (actC x).length = 6 := rfl
def withO (x : ActK) : OpV := { givenO with k := x.k, key := x.key, vk := x.vk, num := x.num, bits := x.bits, t := x.t }
def fineL : List ActK := [⟨1, 0, 0, 0, .empty, .empty⟩, ⟨2, 0, 0, 0, ⟨#[33]⟩, .empty⟩, ⟨3, 0, 0, 0, ⟨#[49, 50, 51, 52, 53, 54, 55, 56, 57, 48, 49, 50, 51, 52, 53, 54, 55, 56, 57, 48]⟩, .empty⟩, ⟨4, 1, 1, 0, ⟨#[126]⟩, .empty⟩, ⟨4, 3, 0, 0, ⟨#[114]⟩, .empty⟩]
def badL : List ActK := [⟨0, 0, 0, 0, .empty, .empty⟩, ⟨5, 0, 0, 0, .empty, .empty⟩, ⟨1, 0, 0, 0, ⟨#[97]⟩, .empty⟩, ⟨1, 1, 1, 0, .empty, .empty⟩, ⟨2, 0, 0, 0, .empty, .empty⟩, ⟨2, 0, 0, 0, ⟨#[32]⟩, .empty⟩, ⟨2, 0, 0, 0, ⟨#[97, 32, 98]⟩, .empty⟩, ⟨3, 0, 0, 0, ⟨#[49, 50, 51, 52, 53, 54, 55, 56, 57, 48, 49, 50, 51, 52, 53, 54, 55, 56, 57, 48, 49]⟩, .empty⟩, ⟨2, 1, 1, 0, ⟨#[97]⟩, .empty⟩, ⟨4, 0, 0, 0, ⟨#[97]⟩, .empty⟩, ⟨4, 1, 1, 0, .empty, .empty⟩, ⟨4, 9, 0, 0, ⟨#[97]⟩, .empty⟩, ⟨3, 0, 0, 0, ⟨#[127]⟩, .empty⟩]
structure ActK.ok (x : ActK) : Prop where
  k : 0 ≤ x.k ∧ x.k < 256
  vk : 0 ≤ x.vk ∧ x.vk < 256
  num : -9223372036854775808 ≤ x.num ∧ x.num ≤ 9223372036854775807
  bits : 0 ≤ x.bits ∧ x.bits < 18446744073709551616
  key : x.key.size ≤ 100
  t : x.t.size ≤ 100
def okB (x : ActK) : Bool := decide (0 ≤ x.k ∧ x.k < 256) && decide (0 ≤ x.vk ∧ x.vk < 256) && decide (-9223372036854775808 ≤ x.num ∧ x.num ≤ 9223372036854775807) && decide (0 ≤ x.bits ∧ x.bits < 18446744073709551616) && decide (x.key.size ≤ 100) && decide (x.t.size ≤ 100)
theorem okB_ok {x : ActK} (h : okB x = true) : x.ok := by
  simp only [okB, Bool.and_eq_true, decide_eq_true_eq] at h
  exact ⟨h.1.1.1.1.1, h.1.1.1.1.2, h.1.1.1.2, h.1.1.2, h.1.2, h.2⟩
def fineB (x : ActK) : Bool := decide (FineAct x.k x.key x.vk x.num x.bits x.t)
theorem fine_all : fineL.all (fun x => okB x && fineB x) = true := by decide +kernel
theorem bad_all : badL.all (fun x => okB x && !fineB x) = true := by decide +kernel
theorem fine_mem {x : ActK} (h : x ∈ fineL) : x.ok ∧ FineAct x.k x.key x.vk x.num x.bits x.t := by
  have := List.all_eq_true.1 fine_all x h
  simp only [Bool.and_eq_true, fineB, decide_eq_true_eq] at this
  exact ⟨okB_ok this.1, this.2⟩
theorem bad_mem {x : ActK} (h : x ∈ badL) : x.ok ∧ ¬ FineAct x.k x.key x.vk x.num x.bits x.t := by
  have := List.all_eq_true.1 bad_all x h
  simp only [Bool.and_eq_true, fineB, Bool.not_eq_true', decide_eq_false_iff_not] at this
  exact ⟨okB_ok this.1, this.2⟩
theorem with_ok {x : ActK} (h : x.ok) : (withO x).ok := ⟨given_ok.au, given_ok.st, h.k, h.vk, h.num, h.bits, given_ok.e, given_ok.s, given_ok.n, h.key, h.t⟩
theorem with_fine {x : ActK} (h : FineAct x.k x.key x.vk x.num x.bits x.t) : checkE (withO x) = 0 := check_zero.2 ⟨(by decide : (0 : Nat) ≤ 4), rising_nil, isG_four, (by decide : (7 : Int) ≤ 1000000000000), (by decide : (5 : Int) < 500000003), (by decide : (6 : Int) < 500000003), h⟩
theorem check_bad {o : OpV} (hn : o.n = 0) (h : ¬ o.Fine) : checkE o = 8 := (check8 (by omega) (by rw [hn]; exact fun j hj => by omega) h).symm
theorem with_bad {x : ActK} (h : ¬ FineAct x.k x.key x.vk x.num x.bits x.t) : checkE (withO x) = 8 ∧ checkE (withO x).bare = 8 ∧ signE 2 (withO x) = 8 ∧ verE (withO x) = 8 := by
  have h1 := check_bad (o := withO x) rfl (fun hf => h hf.2.2.2.2)
  have h2 := check_bad (o := (withO x).bare) rfl (fun hf => h hf.2.2.2.2)
  have h3 := check_bad (o := ((withO x).wit 2).bare) rfl (fun hf => h hf.2.2.2.2)
  refine ⟨h1, h2, ?_, ?_⟩
  · unfold signE; rw [if_pos (secE_zero.2 (by decide)), h3]
  · unfold verE; rw [if_neg (by rw [h1]; decide), h1]
/-- What stands behind the bytes of an operation is not read over. -/
theorem dec_app {o : OpV} (ho : o.rng) (hl : o.ids.length = 32 * o.n) (hc : checkE o = 0) (r : List Int) (hr : r ≠ []) : decS (encS o ++ r) = none := by
  obtain ⟨c1, c2, c3⟩ := check_zero.1 hc
  have h1 := ho.au
  have h2 := ho.e
  have h3 := ho.s
  unfold decS
  rw [enc_eq]
  simp only [List.cons_append, List.append_assoc, oneR, Option.bind_some, if_true]
  rw [num_R _ h1.1 (by omega)]
  simp only [Option.bind_some]
  rw [ids_R _ _ _ c1 hl c2]
  simp only [Option.bind_some]
  rw [num_R _ ho.st.1 ho.st.2]
  simp only [Option.bind_some]
  rw [act_R o.k o.act _ c3.2.2.2.2 ho.num ho.bits]
  simp only [Option.bind_some]
  rw [num_R _ h2.1 (by omega)]
  simp only [Option.bind_some]
  rw [num_R _ h3.1 (by omega)]
  simp only [Option.bind_some]
  exact if_neg (fun h => hr h.1)
theorem dec_take {o : OpV} (ho : o.rng) (hl : o.ids.length = 32 * o.n) (hc : checkE o = 0) (hB : Bd .u8 (encS o)) (k : Nat) (hk : k < (encS o).length) : decS ((encS o).take k) = none := by
  cases hd : decS ((encS o).take k) with
  | none => rfl
  | some p =>
    obtain ⟨q1, q2, q3, q4⟩ := dec_inv (hB.take k) hd
    have h1 := dec_app q1 q2 q3 ((encS o).drop k) (fun e => by have := congrArg List.length e; rw [List.length_drop, List.length_nil] at this; omega)
    rw [← q4, List.take_append_drop, dec_enc ho hl hc] at h1
    cases h1
theorem dec_off {b : List Int} (h : decS b = none) : decE b = 12 := (dec_none h).2
theorem enc_pos (o : OpV) : 0 < (encS o).length := by rw [enc_eq]; simp
/-- Wrong operations. -/
def manyO : OpV := { givenO with n := 5, ids := List.replicate 160 0 }
def twiceO : OpV := { givenO with n := 2, ids := (1 :: List.replicate 31 0) ++ (1 :: List.replicate 31 0) }
def lateO : OpV := { givenO with st := 1000000000001 }
def wideO : OpV := { givenO with s := 500000003 }
def changedO : OpV := { givenO with st := 8 }
theorem many_ok : manyO.ok := ⟨by decide, by decide, by decide, by decide, by decide, by decide, by decide, by decide, by decide, by decide, by decide⟩
theorem twice_ok : twiceO.ok := ⟨by decide, by decide, by decide, by decide, by decide, by decide, by decide, by decide, by decide, by decide, by decide⟩
theorem late_ok : lateO.ok := ⟨by decide, by decide, by decide, by decide, by decide, by decide, by decide, by decide, by decide, by decide, by decide⟩
theorem wide_ok : wideO.ok := ⟨by decide, by decide, by decide, by decide, by decide, by decide, by decide, by decide, by decide, by decide, by decide⟩
theorem changed_ok : changedO.ok := ⟨by decide, by decide, by decide, by decide, by decide, by decide, by decide, by decide, by decide, by decide, by decide⟩
theorem many_check : checkE manyO = 4 := (check4 (by decide)).symm
theorem twice_rise : ¬ Rising twiceO.n twiceO.ids := by decide +kernel
theorem twice_check : checkE twiceO = 32 := (check32 (by decide) twice_rise).symm
theorem late_check : checkE lateO = 8 := check_bad rfl (fun h => absurd h.2.1 (by decide))
theorem wide_check : checkE wideO = 8 := check_bad rfl (fun h => absurd h.2.2.2.1 (by decide))
theorem wide_bare : checkE wideO.bare = 0 := check_zero.2 ⟨by decide, rising_nil, isG_four, by decide, by decide, by decide, act_a⟩
theorem wide_ver : verE wideO = 8 := by unfold verE; rw [if_neg (by rw [wide_check]; decide), wide_check]
theorem wide_msg : (msgS wideO).length = 7 := by decide +kernel
theorem changed_check : checkE changedO = 0 := check_zero.2 ⟨by decide, rising_nil, isG_four, by decide, by decide, by decide, act_a⟩
theorem many_sign0 : signE 0 manyO = 2 := rfl
theorem many_sign1 : signE 1 manyO = 4 := by unfold signE; rw [if_pos (secE_zero.2 (by decide))]; exact (check4 (o := (manyO.wit 1).bare) (by show 4 < 5; decide)).symm
theorem twice_sign1 : signE 1 twiceO = 32 := by unfold signE; rw [if_pos (secE_zero.2 (by decide))]; exact (check32 (o := (twiceO.wit 1).bare) (by show ¬ 4 < 2; decide) twice_rise).symm
theorem dec_112 : decE [112, 4, 0, 7, 2, 1, 97, 5, 6] = 12 := dec_off (dec_head (by decide))
theorem dec_key0 : decE [111, 4, 0, 7, 2, 0, 5, 6] = 12 := by
  refine dec_off (dec_f7 (b := [4, 0, 7, 2, 0, 5, 6]) (a := 4) (l1 := [0, 7, 2, 0, 5, 6]) (n := 0) (ids := []) (l2 := [7, 2, 0, 5, 6]) (t := 7) (k := 2) (l4 := [0, 5, 6]) (x := ⟨0, 0, 0, .empty, .empty⟩) (l5 := [5, 6]) (e := 5) (l6 := [6]) (s := 6) (l7 := []) (by decide +kernel) (by decide +kernel) (by decide +kernel) rfl (by decide +kernel) (by decide +kernel) (fun h => ?_))
  have hf := (check_zero.1 h.2).2.2.2.2.2.2
  rcases hf with ⟨h1, _⟩ | ⟨_, hK, _⟩ | ⟨h1, _⟩
  · exact absurd h1 (by decide)
  · exact absurd hK.1 (by decide)
  · exact absurd h1 (by decide)
theorem dec_five : decE [111, 5, 0, 7, 2, 1, 97, 5, 6] = 12 := by
  refine dec_off (dec_f7 (b := [5, 0, 7, 2, 1, 97, 5, 6]) (a := 5) (l1 := [0, 7, 2, 1, 97, 5, 6]) (n := 0) (ids := []) (l2 := [7, 2, 1, 97, 5, 6]) (t := 7) (k := 2) (l4 := [1, 97, 5, 6]) (x := ⟨0, 0, 0, strOfNums [97], .empty⟩) (l5 := [5, 6]) (e := 5) (l6 := [6]) (s := 6) (l7 := []) (by decide +kernel) (by decide +kernel) (by decide +kernel) rfl (by decide +kernel) (by decide +kernel) (fun h => ?_))
  have hf := (check_zero.1 h.2).2.2.1
  rw [show (5 : Int) = 5 from rfl] at hf
  exact absurd (hf : isG 5 = true) (by rw [isG_five]; decide)
end Go.Proofs.YtiohpiiiapjblaaDoor.S
namespace Go.Proofs.YtiohpiiiapjblaaDoor.W
open Go.RowKit Go.Proofs.YtiohpiiiapjblaaDoor.G
set_option linter.unusedVariables false
set_option maxRecDepth 20000
set_option maxHeartbeats 8000000
attribute [local irreducible] RS RX
theorem E30 : Enters Tryd.prog 30 := .mk Tryd.func30 (by kernel_rfl) rfl
theorem E33 : Enters Tryd.prog 33 := .mk Tryd.func33 (by kernel_rfl) rfl
theorem E38 : Enters Tryd.prog 38 := .mk Tryd.func38 (by kernel_rfl) rfl
theorem withW (x : S.ActK) (w : World) :
  Calls Tryd.prog 30 #[.agg ([.int .u8 x.k, .string x.key, .int .u8 x.vk, .int .i64 x.num, .int .u64 x.bits, .string x.t] : List Value).toArray] w (Ret w fun v _ => v = .agg ([.int .u32 (S.withO x).au, .slice none (S.withO x).n 0, .int .u64 (S.withO x).st, .int .u8 (S.withO x).k, .string (S.withO x).key, .int .u8 (S.withO x).vk, .int .i64 (S.withO x).num, .int .u64 (S.withO x).bits, .string (S.withO x).t, .int .u32 (S.withO x).e, .int .u32 (S.withO x).s] : List Value).toArray) := by
 have hE := Ext.refl w
 refine enterU 7 Tryd.func30 rfl rfl ?_
 refine sq fun K1 hK1 => ?_
 refine RS.box rfl rfl (fun b2 w2 e2 s2 x2 B2 => ?_)
 refine RS.nm ?_
 replace hE := Ext.tr hE x2
 have zw2 := x2.size
 refine RS.alloc T32 (fun b3 w3 e3 s3 x3 B3 => ?_)
 refine RS.nm ?_
 replace hE := Ext.tr hE x3
 replace B2 := B2.ext x3
 have zw3 := x3.size
 refine nl hK1 ?_
 refine sq fun K4 hK4 => ?_
 refine RS.call E32 (givenW _) rfl (fun v5 w5 x5 A5 => ?_)
 replace hE := Ext.tr hE x5
 replace B2 := B2.ext x5
 replace B3 := B3.ext x5
 have zw5 := x5.size
 subst A5
 refine RS.nm ?_
 refine RS.alloc T32 (fun b6 w6 e6 s6 x6 B6 => ?_)
 refine RS.nm ?_
 replace hE := Ext.tr hE x6
 replace B2 := B2.ext x6
 replace B3 := B3.ext x6
 have zw6 := x6.size
 refine RS.storeAggB rfl rfl C32 (by decide) rfl rfl B6 rfl (fun w7 y7 N7 => ?_)
 replace hE := hE.trans (y7.belo)
 replace B2 := B2.sto y7
 replace B3 := B3.sto y7
 have zw7 := y7.size
 replace B6 := N7
 refine nl hK4 ?_
 refine sq fun K8 hK8 => ?_
 refine RS.o (D.loadAgg rfl Tryd.underlying28 rfl C28 (by decide) rfl (B2.cellsN 6 rfl)) ?_
 refine RS.o (D.fieldL 3 rfl Tryd.underlying32 rfl C28 (by decide) rfl) ?_
 refine RS.storeAggB rfl rfl C28 (by decide) rfl rfl B6 rfl (fun w9 y9 N9 => ?_)
 replace hE := hE.trans (y9.belo)
 replace B2 := B2.sto y9
 replace B3 := B3.sto y9
 have zw9 := y9.size
 replace B6 := N9
 refine nl hK8 ?_
 refine sq fun K10 hK10 => ?_
 refine RS.o (D.loadAgg rfl Tryd.underlying32 rfl C32 (by decide) rfl (B6.cellsN 11 rfl)) ?_
 refine RS.storeAggB rfl rfl C32 (by decide) rfl rfl B3 rfl (fun w11 y11 N11 => ?_)
 replace hE := hE.trans (y11.belo)
 replace B2 := B2.sto y11
 replace B6 := B6.sto y11
 have zw11 := y11.size
 replace B3 := N11
 refine nl hK10 ?_
 refine wp_ret ?_
 refine ret (rs := [.cell 2 32]) (vs := [.agg _]) (v := (.agg _)) rfl ⟨⟨_, rfl, loadVar_agg Tryd.underlying32 rfl C32 (by decide) rfl (B3.cellsN 11 rfl)⟩, trivial⟩ rfl ?_
 exact ⟨_, rfl, hE, rfl⟩
theorem opNames (TK : TypeId) (w : World) (K0 : Kst w TK) :
  Calls Tryd.prog 6 #[] w (Ret w fun v _ => v = .bool true) := by
 have hKl := K0.lt
 have hone : Arr .u8 32 (1 :: List.replicate 31 0) := ⟨rfl, .cons (by decide) (Bd.zeros .u8 31)⟩
 have hE := Ext.refl w
 refine enterU 351 Tryd.func6 rfl rfl ?_
 refine sq fun K1 hK1 => ?_
 refine RS.asB rfl ?_
 refine nl hK1 ?_
 refine sq fun K2 hK2 => ?_
 refine RS.o (D.buildS T26 F26 (ps := [(0, .int _ _), (1, .int _ _)]) rfl rfl) ?_
 refine RS.alloc T26 (fun b3 w3 e3 s3 x3 B3 => ?_)
 refine RS.nm ?_
 replace hE := Ext.tr hE x3
 replace K0 := K0.ext x3
 have zw3 := x3.size
 refine RS.storeAggB rfl rfl C26 (by decide) rfl rfl B3 rfl (fun w4 y4 N4 => ?_)
 replace hE := hE.trans (y4.belo)
 replace K0 := K0.sto y4
 have zw4 := y4.size
 replace B3 := N4
 refine nl hK2 ?_
 refine sq fun K5 hK5 => ?_
 refine RS.o (D.buildS T28 F28 (ps := [(0, .int _ _)]) rfl rfl) ?_
 refine RS.o (D.buildS T28 F28 (ps := [(0, .int _ _), (1, .string _)]) rfl rfl) ?_
 refine RS.o (D.buildS T28 F28 (ps := [(0, .int _ _), (1, .string _)]) rfl rfl) ?_
 refine RS.o (D.loadAgg rfl Tryd.underlying26 rfl C26 (by decide) rfl (B3.cellsN 4 rfl)) ?_
 refine RS.o (D.buildS T28 F28 (ps := [(0, .int _ _), (1, .string _), (2, .agg _)]) rfl rfl) ?_
 refine RS.o (D.buildS T26 F26 (ps := [(0, .int _ _)]) rfl rfl) ?_
 refine RS.o (D.buildS T28 F28 (ps := [(0, .int _ _), (1, .string _), (2, .agg _)]) rfl rfl) ?_
 refine RS.buildSlice (xs := [.tmp 45, .tmp 46, .tmp 47, .tmp 49, .tmp 51]) (vs := [.agg _, .agg _, .agg _, .agg _, .agg _]) Tryd.underlying61 T28 (by decide) rfl rfl rfl rfl rfl rfl (by intro v hv; simp only [List.mem_cons, List.not_mem_nil, or_false] at hv; rcases hv with rfl | rfl | rfl | rfl | rfl <;> rfl) rfl (fun b6 w6 e6 s6 x6 B6 => ?_)
 refine RS.nm ?_
 replace hE := Ext.tr hE x6
 replace K0 := K0.ext x6
 replace B3 := B3.ext x6
 have zw6 := x6.size
 refine RS.asS rfl ?_
 refine nl hK5 ?_
 refine wp_seq_k (fun K7 hK7 => ?_)
 refine wp_seq_k (fun K8 hK8 => ?_)
 have GA : GRow S.actC 6 (fun k => k = b6) w6 (some ⟨b6, 0, none⟩) 5 S.fineL := GRow.of_blk B6 rfl rfl rfl S.actC_len
 refine region ?_
 refine RS.asI rfl ?_
 refine nl hK8 ?_
 refine wp_block ?_
 refine C.loop (A := Int) (fun p => [(3, .int .i64 p)]) [0, 4, 5, 6, 7, 8, 9, 10, 11, 53, 54, 55, 56, 57, 58, 59, 60, 61, 62, 63, 64, 65, 66, 67, 68, 69, 70, 71, 72, 73, 74, 75, 76, 77, 78, 79, 80, 81, 82, 83, 84, 85, 86, 87, 88, 89, 90, 91, 92, 93, 94, 95, 96, 97, 98, 99, 100, 101, 102, 103, 104, 105, 106, 107, 108, 109, 110, 111, 112, 113, 114, 115, 116, 117, 118, 119, 120, 121, 122, 123, 124, 125] (fun p w' => Ext w6 w' ∧ (0 ≤ p ∧ p ≤ 5)) (fun p => (5 - p.toNat)) 0 (by kernel_rfl) ?_ ?_
 ·exact ⟨Ext.refl _, by omega, by omega⟩
 rintro p j w9 ⟨x9, hI⟩
 replace hE := Ext.tr hE x9
 replace K0 := K0.ext x9
 replace B3 := B3.ext x9
 replace B6 := B6.ext x9
 replace GA := GA.ext x9
 have zw9 := x9.size
 obtain ⟨i, hi⟩ : ∃ i, i = p := ⟨p, rfl⟩
 subst hi
 refine C.norm (by simp only [upd, junk, List.map_cons, List.map_nil, List.set_cons_succ, List.set_cons_zero]; exact rfl) ?_
 refine wp_seq_k (fun K10 hK10 => ?_)
 refine sq fun K11 hK11 => ?_
 refine RS.mvI rfl ?_
 refine RS.mvS rfl ?_
 refine RS.o (D.len rfl Tryd.underlying61) ?_
 refine RS.o (D.lt rfl rfl) ?_
 refine nl hK11 ?_
 refine C.ifd rfl (fun c12 => ?_) (fun c12 => ?_)
 ·refine wp_skip ?_
  refine hK10 _ _ ?_
  refine wp_seq_k (fun K13 hK13 => ?_)
  refine wp_block ?_
  refine sq fun K14 hK14 => ?_
  refine RS.mvS rfl ?_
  refine RS.mvI rfl ?_
  refine RS.idxG GA default rfl rfl Tryd.underlying61 C28 (by decide) (by omega) (fun b15 o15 x1 h15 qx1 m15 => ?_)
  refine RS.nm ?_
  obtain ⟨hxo, hxf⟩ := S.fine_mem m15
  have hwo := S.with_ok hxo
  refine RS.o (D.loadAgg rfl Tryd.underlying28 rfl C28 (by decide) rfl h15) ?_
  refine RS.norm (by dsimp only [List.set, S.actC]) ?_
  refine RS.call E30 (withW x1 _) rfl (fun v16 w16 x16 A16 => ?_)
  replace hE := Ext.tr hE x16
  replace x9 := Ext.tr x9 x16
  replace K0 := K0.ext x16
  replace B3 := B3.ext x16
  replace B6 := B6.ext x16
  replace GA := GA.ext x16
  have zw16 := x16.size
  subst A16
  refine RS.nm ?_
  refine RS.call E14 (encodeO (S.withO x1) hwo _ _ _ (WRow.nil (S := fun _ => False)) (Nat.le_refl _)) rfl (fun v17 w17 x17 A17 => ?_)
  replace hE := Ext.tr hE x17
  replace x9 := Ext.tr x9 x17
  replace K0 := K0.ext x17
  replace B3 := B3.ext x17
  replace B6 := B6.ext x17
  replace GA := GA.ext x17
  have zw17 := x17.size
  obtain ⟨aE, nE, cE, xsE, rfl, OE, hxs⟩ := A17
  rw [if_pos (S.with_fine hxf)] at hxs
  rw [S.with_fine hxf]
  subst hxs
  have lOE := OE.len
  have pOE := OE.own.pre
  have hep := S.enc_pos (S.withO x1)
  have h400 := S.enc_400 (o := S.withO x1) rfl (S.with_fine hxf)
  have RE := OE.row.weaken (T := fun k => k < w17.heap.size) (fun k hk _ => hk)
  have bE := OE.bd
  refine RS.nm ?_
  refine RS.move (v := .tuple _) rfl ?_
  refine RS.extract (v := .slice _ _ _) rfl rfl ?_
  refine RS.extract (v := .int _ _) rfl rfl ?_
  refine RS.asS rfl ?_
  refine RS.asI rfl ?_
  refine nl hK14 ?_
  refine sq fun K18 hK18 => ?_
  refine RS.mvS rfl ?_
  refine RS.call E31 (decodeO _ _ _ _ _ RE pOE (by omega)) rfl (fun v19 w19 x19 A19 => ?_)
  replace hE := Ext.tr hE x19
  replace x9 := Ext.tr x9 x19
  replace K0 := K0.ext x19
  replace B3 := B3.ext x19
  replace B6 := B6.ext x19
  replace GA := GA.ext x19
  replace RE := RE.ext x19
  have zw19 := x19.size
  obtain ⟨a19, c19, rfl, hc19, D19⟩ := A19
  obtain ⟨d1, d2⟩ := S.dec_back (S.OpV.ok.rng hwo) rfl (S.with_fine hxf)
  rw [d1] at hc19 D19
  rw [d1, d2]
  have DP := D19.weaken (T := fun k => k < w19.heap.size) (fun k hk _ => hk)
  refine RS.nm ?_
  refine RS.move (v := .tuple _) rfl ?_
  refine RS.extract (v := .agg _) rfl rfl ?_
  refine RS.extract (v := .int _ _) rfl rfl ?_
  refine RS.alloc T32 (fun b20 w20 e20 s20 x20 B20 => ?_)
  refine RS.nm ?_
  replace hE := Ext.tr hE x20
  replace x9 := Ext.tr x9 x20
  replace K0 := K0.ext x20
  replace B3 := B3.ext x20
  replace B6 := B6.ext x20
  replace GA := GA.ext x20
  replace RE := RE.ext x20
  replace DP := DP.ext x20
  have zw20 := x20.size
  refine RS.storeAggB rfl rfl C32 (by decide) rfl rfl B20 rfl (fun w21 y21 N21 => ?_)
  replace hE := hE.trans (y21.belo)
  replace x9 := x9.trans (y21.belo)
  replace K0 := K0.sto y21
  replace B3 := B3.sto y21
  replace B6 := B6.sto y21
  replace GA := GA.sto y21
  replace RE := RE.sto y21
  replace DP := DP.sto y21
  have zw21 := y21.size
  replace B20 := N21
  refine RS.asI rfl ?_
  refine nl hK18 ?_
  refine wp_seq_k (fun K22 hK22 => ?_)
  refine wp_seq_k (fun K23 hK23 => ?_)
  refine regionX Ext [(0, .q), (1, .q), (2, .q), (3, .q), (4, .e), (5, .q), (6, .q), (7, .q), (8, .q), (9, .q), (10, .q), (11, .q), (12, .q), (13, .q), (14, .q), (15, .q), (16, .q), (17, .q), (18, .q), (19, .q), (20, .e), (21, .e), (22, .q), (23, .q), (24, .q), (25, .q), (26, .q), (27, .q), (28, .q)] mixed Ext.refl (fun h k => h.tr k) (by kernel_rfl) (fun w24 x24 => ?_)
  replace hE := Ext.tr hE x24
  replace x9 := Ext.tr x9 x24
  replace K0 := K0.ext x24
  replace B3 := B3.ext x24
  replace B6 := B6.ext x24
  replace GA := GA.ext x24
  replace RE := RE.ext x24
  replace DP := DP.ext x24
  replace B20 := B20.ext x24
  have zw24 := x24.size
  refine RX.mvS rfl ?_
  refine RX.mvI rfl ?_
  refine RX.idxG (fun _ h => h) GA default rfl rfl Tryd.underlying61 C28 (by decide) (by omega) (fun b25 o25 x2 h25 qx2 m25 => ?_)
  refine RX.nm ?_
  obtain rfl : x1 = x2 := qx1.trans qx2.symm
  refine RX.o (fun w' hw => D.loadAgg rfl Tryd.underlying28 rfl C28 (by decide) rfl (h25 w' hw)) ?_
  refine RX.norm (by dsimp only [List.set, S.actC]) ?_
  refine RX.eff ?_
  refine RS.call E18 (checkAct _ _ _ _ _ _ hxo.k hxo.vk hxo.num hxo.bits (by have := hxo.key; omega) (by have := hxo.t; omega) _) rfl (fun v26 w26 x26 A26 => ?_)
  replace hE := Ext.tr hE x26
  replace x9 := Ext.tr x9 x26
  replace K0 := K0.ext x26
  replace B3 := B3.ext x26
  replace B6 := B6.ext x26
  replace GA := GA.ext x26
  replace RE := RE.ext x26
  replace DP := DP.ext x26
  replace B20 := B20.ext x26
  have zw26 := x26.size
  subst A26
  rw [S.actE_zero.2 hxf]
  refine RS.nm ?_
  refine RS.nil ⟨x26, ?_⟩
  refine RX.o (fun w' hw => D.ne rfl rfl) ?_
  refine RX.mvB rfl ?_
  refine RX.splitn 79 rfl rfl (fun c27 => ?_) (fun c27 => ?_)
  ·refine RX.nm ?_
   exact absurd rfl c27
  refine RX.nm ?_
  refine RX.wt 79 ?_
  refine RX.mvI rfl ?_
  refine RX.wt 79 ?_
  refine RX.o (fun w' hw => D.ne rfl rfl) ?_
  refine RX.pick (v := .bool _) rfl rfl ?_
  refine RX.mvB rfl ?_
  refine RX.splitn 83 rfl rfl (fun c28 => ?_) (fun c28 => ?_)
  ·refine RX.nm ?_
   exact absurd rfl c28
  refine RX.nm ?_
  refine RX.wt 83 ?_
  refine RX.mvI rfl ?_
  refine RX.wt 83 ?_
  refine RX.o (fun w' hw => D.ne rfl rfl) ?_
  refine RX.pick (v := .bool _) rfl rfl ?_
  refine RX.mvB rfl ?_
  refine RX.splitn 87 rfl rfl (fun c29 => ?_) (fun c29 => ?_)
  ·refine RX.nm ?_
   exact absurd rfl c29
  refine RX.nm ?_
  refine RX.wt 87 ?_
  refine RX.o (fun w' hw => D.loadAgg rfl Tryd.underlying32 rfl C32 (by decide) rfl ((B20.ext hw).cellsN 11 rfl)) ?_
  refine RX.wt 87 ?_
  refine RX.mvS rfl ?_
  refine RX.wt 87 ?_
  refine RX.mvI rfl ?_
  refine RX.wt 87 ?_
  refine RX.idxG (fun _ h => h) GA default rfl rfl Tryd.underlying61 C28 (by decide) (by omega) (fun b30 o30 x3 h30 qx3 m30 => ?_)
  refine RX.nm ?_
  obtain rfl : x1 = x3 := qx1.trans qx3.symm
  refine RX.wt 87 ?_
  refine RX.o (fun w' hw => D.loadAgg rfl Tryd.underlying28 rfl C28 (by decide) rfl (h30 w' hw)) ?_
  refine RX.norm (by dsimp only [List.set, S.actC]) ?_
  refine RX.wt 87 ?_
  refine RX.eff ?_
  refine RS.call E30 (withW x1 _) rfl (fun v31 w31 x31 A31 => ?_)
  replace hE := Ext.tr hE x31
  replace x9 := Ext.tr x9 x31
  replace K0 := K0.ext x31
  replace B3 := B3.ext x31
  replace B6 := B6.ext x31
  replace GA := GA.ext x31
  replace RE := RE.ext x31
  replace DP := DP.ext x31
  replace B20 := B20.ext x31
  have zw31 := x31.size
  subst A31
  refine RS.nm ?_
  refine RS.nil ⟨x31, ?_⟩
  refine RX.wt 87 ?_
  refine RX.eff ?_
  refine RS.call E23 (sameO _ _ hwo hwo _ _ _ _ _ DP (WRow.nil (S := fun _ => False))) rfl (fun v32 w32 x32 A32 => ?_)
  replace hE := Ext.tr hE x32
  replace x9 := Ext.tr x9 x32
  replace K0 := K0.ext x32
  replace B3 := B3.ext x32
  replace B6 := B6.ext x32
  replace GA := GA.ext x32
  replace RE := RE.ext x32
  replace DP := DP.ext x32
  replace B20 := B20.ext x32
  have zw32 := x32.size
  subst A32
  refine RS.nm ?_
  refine RS.nil ⟨x32, ?_⟩
  refine RX.wt 87 ?_
  refine RX.o (fun w' hw => D.not rfl) ?_
  refine RX.pick (v := .bool _) rfl rfl ?_
  refine RX.mvB rfl ?_
  refine RX.splitnot 97 rfl rfl (fun c33 => ?_) (fun c33 => ?_)
  ·refine RX.nm ?_
   exact Bool.noConfusion ((decide_eq_true (S.sameO_refl _)).symm.trans c33)
  refine RX.nm ?_
  refine RX.wt 97 ?_
  refine RX.mvS rfl ?_
  refine RX.wt 97 ?_
  refine RX.o (fun w' hw => D.len rfl Tryd.underlying35) ?_
  refine RX.wt 97 ?_
  refine RX.o (fun w' hw => D.eq rfl rfl) ?_
  refine RX.pick (v := .bool _) rfl rfl ?_
  refine RX.nil (hK23 _ _ ?_)
  refine C.ife rfl (fun c34 => ?_) (fun c34 => ?_)
  ·exfalso; omega
  refine wp_skip ?_
  refine hK22 _ _ ?_
  refine sq fun K35 hK35 => ?_
  refine RS.mvS rfl ?_
  refine RS.mvS rfl ?_
  refine RS.o (D.len rfl Tryd.underlying35) ?_
  refine RS.o (D.sub rfl rfl (W.i64 (by omega))) ?_
  refine RS.o (D.slice (kl := .i64) (kh := .i64) rfl Tryd.underlying35 C5 (by decide) rfl rfl (by omega) (by omega)) ?_
  refine RS.call E31 (decodeO _ _ _ _ _ (RE.sub 0 ((nE : Int) - 1).toNat cE (by omega) (by omega) (by omega)) (by omega) (by omega)) rfl (fun v36 w36 x36 A36 => ?_)
  replace hE := Ext.tr hE x36
  replace x9 := Ext.tr x9 x36
  replace K0 := K0.ext x36
  replace B3 := B3.ext x36
  replace B6 := B6.ext x36
  replace GA := GA.ext x36
  replace RE := RE.ext x36
  replace DP := DP.ext x36
  replace B20 := B20.ext x36
  have zw36 := x36.size
  obtain ⟨a36, c36, rfl, hc36, D36⟩ := A36
  rw [show ((S.encS (S.withO x1)).drop 0).take (((nE : Int) - 1).toNat - 0) = (S.encS (S.withO x1)).take (nE - 1) by rw [List.drop_zero, show ((nE : Int) - 1).toNat - 0 = nE - 1 by omega], S.dec_off (S.dec_take (S.OpV.ok.rng hwo) rfl (S.with_fine hxf) bE (nE - 1) (by omega))]
  refine RS.nm ?_
  refine RS.move (v := .tuple _) rfl ?_
  refine RS.extract (v := .agg _) rfl rfl ?_
  refine RS.extract (v := .int _ _) rfl rfl ?_
  refine RS.alloc T32 (fun b37 w37 e37 s37 x37 B37 => ?_)
  refine RS.nm ?_
  replace hE := Ext.tr hE x37
  replace x9 := Ext.tr x9 x37
  replace K0 := K0.ext x37
  replace B3 := B3.ext x37
  replace B6 := B6.ext x37
  replace GA := GA.ext x37
  replace RE := RE.ext x37
  replace DP := DP.ext x37
  replace B20 := B20.ext x37
  have zw37 := x37.size
  refine RS.storeAggB rfl rfl C32 (by decide) rfl rfl B37 rfl (fun w38 y38 N38 => ?_)
  replace hE := hE.trans (y38.belo)
  replace x9 := x9.trans (y38.belo)
  replace K0 := K0.sto y38
  replace B3 := B3.sto y38
  replace B6 := B6.sto y38
  replace GA := GA.sto y38
  replace RE := RE.sto y38
  replace DP := DP.sto y38
  replace B20 := B20.sto y38
  have zw38 := y38.size
  replace B37 := N38
  refine RS.asI rfl ?_
  refine nl hK35 ?_
  refine sq fun K39 hK39 => ?_
  refine RS.buildNone Tryd.underlying35 T5 (fun b40 w40 e40 s40 x40 B40 => ?_)
  refine RS.nm ?_
  replace hE := Ext.tr hE x40
  replace x9 := Ext.tr x9 x40
  replace K0 := K0.ext x40
  replace B3 := B3.ext x40
  replace B6 := B6.ext x40
  replace GA := GA.ext x40
  replace RE := RE.ext x40
  replace DP := DP.ext x40
  replace B20 := B20.ext x40
  replace B37 := B37.ext x40
  have zw40 := x40.size
  have OU : IOwn w38.heap.size w40 5 .u8 (some ⟨b40, 0, none⟩) 0 0 [] := IOwn.of_blk B40 rfl rfl (by omega) (Bd.nil _) (by decide)
  refine RS.mvS rfl ?_
  refine RS.appendI OU RE rfl rfl Tryd.underlying35 T5 rfl (by omega) (by decide) (by omega) (fun a41 c41 w41 N41 x41 => ?_)
  refine RS.nm ?_
  replace hE := hE.trans (x41.below (by intros; try (first | (intro _ _) | (intro _) | skip); first | omega | (have hq := OU.lo _ (by assumption); first | omega | (dsimp only at *; omega))) (by intros; try (first | (intro _ _) | (intro _) | skip); first | omega | (dsimp only at *; omega) | (simp_all; done) | (simp at *; omega)))
  replace x9 := x9.trans (x41.below (by intros; try (first | (intro _ _) | (intro _) | skip); first | omega | (have hq := OU.lo _ (by assumption); first | omega | (dsimp only at *; omega))) (by intros; try (first | (intro _ _) | (intro _) | skip); first | omega | (dsimp only at *; omega) | (simp_all; done) | (simp at *; omega)))
  replace K0 := K0.pr x41 (by intros; try (first | (intro _ _) | (intro _) | skip); first | omega | (have hq := OU.lo _ (by assumption); first | omega | (dsimp only at *; omega)))
  replace B3 := B3.pr x41 (by intros; try (first | (intro _ _) | (intro _) | skip); first | omega | (have hq := OU.lo _ (by assumption); first | omega | (dsimp only at *; omega)))
  replace B6 := B6.pr x41 (by intros; try (first | (intro _ _) | (intro _) | skip); first | omega | (have hq := OU.lo _ (by assumption); first | omega | (dsimp only at *; omega)))
  replace GA := GA.pr x41 (by intros; try (first | (intro _ _) | (intro _) | skip); first | omega | (have hq := OU.lo _ (by assumption); first | omega | (dsimp only at *; omega)))
  replace RE := RE.pr x41 (by intros; try (first | (intro _ _) | (intro _) | skip); first | omega | (have hq := OU.lo _ (by assumption); first | omega | (dsimp only at *; omega)))
  replace DP := DP.pr x41 (by intros; try (first | (intro _ _) | (intro _) | skip); first | omega | (have hq := OU.lo _ (by assumption); first | omega | (dsimp only at *; omega)))
  replace B20 := B20.pr x41 (by intros; try (first | (intro _ _) | (intro _) | skip); first | omega | (have hq := OU.lo _ (by assumption); first | omega | (dsimp only at *; omega)))
  replace B37 := B37.pr x41 (by intros; try (first | (intro _ _) | (intro _) | skip); first | omega | (have hq := OU.lo _ (by assumption); first | omega | (dsimp only at *; omega)))
  have zw41 := x41.size
  replace OU := N41
  refine RS.buildSlice (xs := [.const (.int .u8 0)]) (vs := [.int _ _]) (cs := [.int _ _]) Tryd.underlying35 T5 (by decide) rfl rfl rfl rfl rfl rfl (by intro v hv; simp only [List.mem_cons, List.not_mem_nil, or_false] at hv; subst hv; rfl) rfl (fun b42 w42 e42 s42 x42 B42 => ?_)
  refine RS.nm ?_
  replace hE := Ext.tr hE x42
  replace x9 := Ext.tr x9 x42
  replace K0 := K0.ext x42
  replace B3 := B3.ext x42
  replace B6 := B6.ext x42
  replace GA := GA.ext x42
  replace RE := RE.ext x42
  replace DP := DP.ext x42
  replace B20 := B20.ext x42
  replace B37 := B37.ext x42
  replace OU := OU.ext x42
  have zw42 := x42.size
  have Q1 : IRow .u8 (fun k => k = b42) w42 (some ⟨b42, 0, none⟩) 1 [_] := IRow.of_blk B42 rfl rfl rfl (.cons (by simp only [lim]; omega) (.nil _))
  refine RS.appendI OU Q1 rfl rfl Tryd.underlying35 T5 rfl (by omega) (by decide) (by omega) (fun a43 c43 w43 N43 x43 => ?_)
  refine RS.nm ?_
  replace hE := hE.trans (x43.below (by intros; try (first | (intro _ _) | (intro _) | skip); first | omega | (have hq := OU.lo _ (by assumption); first | omega | (dsimp only at *; omega))) (by intros; try (first | (intro _ _) | (intro _) | skip); first | omega | (dsimp only at *; omega) | (simp_all; done) | (simp at *; omega)))
  replace x9 := x9.trans (x43.below (by intros; try (first | (intro _ _) | (intro _) | skip); first | omega | (have hq := OU.lo _ (by assumption); first | omega | (dsimp only at *; omega))) (by intros; try (first | (intro _ _) | (intro _) | skip); first | omega | (dsimp only at *; omega) | (simp_all; done) | (simp at *; omega)))
  replace K0 := K0.pr x43 (by intros; try (first | (intro _ _) | (intro _) | skip); first | omega | (have hq := OU.lo _ (by assumption); first | omega | (dsimp only at *; omega)))
  replace B3 := B3.pr x43 (by intros; try (first | (intro _ _) | (intro _) | skip); first | omega | (have hq := OU.lo _ (by assumption); first | omega | (dsimp only at *; omega)))
  replace B6 := B6.pr x43 (by intros; try (first | (intro _ _) | (intro _) | skip); first | omega | (have hq := OU.lo _ (by assumption); first | omega | (dsimp only at *; omega)))
  replace GA := GA.pr x43 (by intros; try (first | (intro _ _) | (intro _) | skip); first | omega | (have hq := OU.lo _ (by assumption); first | omega | (dsimp only at *; omega)))
  replace RE := RE.pr x43 (by intros; try (first | (intro _ _) | (intro _) | skip); first | omega | (have hq := OU.lo _ (by assumption); first | omega | (dsimp only at *; omega)))
  replace DP := DP.pr x43 (by intros; try (first | (intro _ _) | (intro _) | skip); first | omega | (have hq := OU.lo _ (by assumption); first | omega | (dsimp only at *; omega)))
  replace B20 := B20.pr x43 (by intros; try (first | (intro _ _) | (intro _) | skip); first | omega | (have hq := OU.lo _ (by assumption); first | omega | (dsimp only at *; omega)))
  replace B37 := B37.pr x43 (by intros; try (first | (intro _ _) | (intro _) | skip); first | omega | (have hq := OU.lo _ (by assumption); first | omega | (dsimp only at *; omega)))
  have zw43 := x43.size
  replace OU := N43
  refine RS.call E31 (decodeO _ _ _ _ _ OU.row OU.own.pre (by omega)) rfl (fun v44 w44 x44 A44 => ?_)
  replace hE := Ext.tr hE x44
  replace x9 := Ext.tr x9 x44
  replace K0 := K0.ext x44
  replace B3 := B3.ext x44
  replace B6 := B6.ext x44
  replace GA := GA.ext x44
  replace RE := RE.ext x44
  replace DP := DP.ext x44
  replace B20 := B20.ext x44
  replace B37 := B37.ext x44
  replace OU := OU.ext x44
  have zw44 := x44.size
  obtain ⟨a44, c44, rfl, hc44, D44⟩ := A44
  rw [show ([] ++ S.encS (S.withO x1)) ++ [0] = S.encS (S.withO x1) ++ [0] from rfl, S.dec_off (S.dec_app (S.OpV.ok.rng hwo) rfl (S.with_fine hxf) [0] (by simp))]
  refine RS.nm ?_
  refine RS.move (v := .tuple _) rfl ?_
  refine RS.extract (v := .agg _) rfl rfl ?_
  refine RS.extract (v := .int _ _) rfl rfl ?_
  refine RS.alloc T32 (fun b45 w45 e45 s45 x45 B45 => ?_)
  refine RS.nm ?_
  replace hE := Ext.tr hE x45
  replace x9 := Ext.tr x9 x45
  replace K0 := K0.ext x45
  replace B3 := B3.ext x45
  replace B6 := B6.ext x45
  replace GA := GA.ext x45
  replace RE := RE.ext x45
  replace DP := DP.ext x45
  replace B20 := B20.ext x45
  replace B37 := B37.ext x45
  have zw45 := x45.size
  refine RS.storeAggB rfl rfl C32 (by decide) rfl rfl B45 rfl (fun w46 y46 N46 => ?_)
  replace hE := hE.trans (y46.belo)
  replace x9 := x9.trans (y46.belo)
  replace K0 := K0.sto y46
  replace B3 := B3.sto y46
  replace B6 := B6.sto y46
  replace GA := GA.sto y46
  replace RE := RE.sto y46
  replace DP := DP.sto y46
  replace B20 := B20.sto y46
  replace B37 := B37.sto y46
  have zw46 := y46.size
  replace B45 := N46
  refine RS.asI rfl ?_
  refine nl hK39 ?_
  refine sq fun K47 hK47 => ?_
  refine RS.mvI rfl ?_
  refine RS.o (D.ne rfl rfl) ?_
  refine RS.mvB rfl ?_
  refine RS.splitn 122 rfl rfl (fun c48 => ?_) (fun c48 => ?_)
  ·refine RS.nm ?_
   exact absurd rfl c48
  refine RS.nm ?_
  refine RS.wt 122 ?_
  refine RS.mvI rfl ?_
  refine RS.wt 122 ?_
  refine RS.o (D.ne rfl rfl) ?_
  refine RS.pick (v := .bool _) rfl rfl ?_
  refine nl hK47 ?_
  refine C.ifn rfl (fun c49 => ?_) (fun c49 => ?_)
  ·exact absurd rfl c49
  refine wp_skip ?_
  refine hK13 _ _ ?_
  refine region ?_
  refine RS.mvI rfl ?_
  refine RS.o (D.add rfl rfl (W.i64 (by omega))) ?_
  refine RS.asI rfl ?_
  refine RS.nil ?_
  change Nx _ _ _ _ _ _ _ _
  refine C.next (i + 1) ⟨rfl, trivial⟩ (by kernel_rfl) ?_ ?_
  ·exact ⟨x9, by omega, by omega⟩
  omega
 refine wp_exit ?_
 refine hK7 _ _ ?_
 refine sq fun K50 hK50 => ?_
 refine RS.o (D.buildS T28 F28 (ps := []) rfl rfl) ?_
 refine RS.o (D.buildS T28 F28 (ps := [(0, .int _ _)]) rfl rfl) ?_
 refine RS.o (D.buildS T28 F28 (ps := [(0, .int _ _), (1, .string _)]) rfl rfl) ?_
 refine RS.o (D.loadAgg rfl Tryd.underlying26 rfl C26 (by decide) rfl (B3.cellsN 4 rfl)) ?_
 refine RS.o (D.buildS T28 F28 (ps := [(0, .int _ _), (2, .agg _)]) rfl rfl) ?_
 refine RS.o (D.buildS T28 F28 (ps := [(0, .int _ _)]) rfl rfl) ?_
 refine RS.o (D.buildS T28 F28 (ps := [(0, .int _ _), (1, .string _)]) rfl rfl) ?_
 refine RS.o (D.buildS T28 F28 (ps := [(0, .int _ _), (1, .string _)]) rfl rfl) ?_
 refine RS.o (D.buildS T28 F28 (ps := [(0, .int _ _), (1, .string _)]) rfl rfl) ?_
 refine RS.o (D.loadAgg rfl Tryd.underlying26 rfl C26 (by decide) rfl (B3.cellsN 4 rfl)) ?_
 refine RS.o (D.buildS T28 F28 (ps := [(0, .int _ _), (1, .string _), (2, .agg _)]) rfl rfl) ?_
 refine RS.o (D.buildS T28 F28 (ps := [(0, .int _ _), (1, .string _)]) rfl rfl) ?_
 refine RS.o (D.loadAgg rfl Tryd.underlying26 rfl C26 (by decide) rfl (B3.cellsN 4 rfl)) ?_
 refine RS.o (D.buildS T28 F28 (ps := [(0, .int _ _), (2, .agg _)]) rfl rfl) ?_
 refine RS.o (D.buildS T26 F26 (ps := [(0, .int _ _)]) rfl rfl) ?_
 refine RS.o (D.buildS T28 F28 (ps := [(0, .int _ _), (1, .string _), (2, .agg _)]) rfl rfl) ?_
 refine RS.o (D.buildS T28 F28 (ps := [(0, .int _ _), (1, .string _)]) rfl rfl) ?_
 refine RS.buildSlice (xs := [.tmp 126, .tmp 127, .tmp 128, .tmp 130, .tmp 131, .tmp 132, .tmp 133, .tmp 134, .tmp 136, .tmp 137, .tmp 139, .tmp 141, .tmp 142]) (vs := [.agg _, .agg _, .agg _, .agg _, .agg _, .agg _, .agg _, .agg _, .agg _, .agg _, .agg _, .agg _, .agg _]) Tryd.underlying61 T28 (by decide) rfl rfl rfl rfl rfl rfl (by intro v hv; simp only [List.mem_cons, List.not_mem_nil, or_false] at hv; rcases hv with rfl | rfl | rfl | rfl | rfl | rfl | rfl | rfl | rfl | rfl | rfl | rfl | rfl <;> rfl) rfl (fun b51 w51 e51 s51 x51 B51 => ?_)
 refine RS.nm ?_
 replace hE := Ext.tr hE x51
 replace K0 := K0.ext x51
 replace B3 := B3.ext x51
 replace B6 := B6.ext x51
 replace GA := GA.ext x51
 have zw51 := x51.size
 refine RS.asS rfl ?_
 refine nl hK50 ?_
 refine wp_seq_k (fun K52 hK52 => ?_)
 refine wp_seq_k (fun K53 hK53 => ?_)
 have GB : GRow S.actC 6 (fun k => k = b51) w51 (some ⟨b51, 0, none⟩) 13 S.badL := GRow.of_blk B51 rfl rfl rfl S.actC_len
 refine region ?_
 refine RS.asI rfl ?_
 refine nl hK53 ?_
 refine wp_block ?_
 refine C.loop (A := Int) (fun p => [(13, .int .i64 p)]) [0, 14, 15, 16, 17, 18, 19, 20, 21, 144, 145, 146, 147, 148, 149, 150, 151, 152, 153, 154, 155, 156, 157, 158, 159, 160, 161, 162, 163, 164, 165, 166, 167, 168, 169, 170, 171, 172, 173, 174, 175, 176, 177, 178, 179, 180, 181, 182, 183, 184, 185, 186, 187, 188, 189, 190, 191, 192, 193, 194, 195, 196, 197, 198, 199, 200, 201, 202, 203, 204, 205, 206, 207, 208, 209, 210, 211, 212, 213, 214, 215, 216, 217, 218, 219, 220, 221, 222, 223, 224, 225] (fun p w' => Ext w51 w' ∧ (0 ≤ p ∧ p ≤ 13)) (fun p => (13 - p.toNat)) 0 (by kernel_rfl) ?_ ?_
 ·exact ⟨Ext.refl _, by omega, by omega⟩
 rintro p j w54 ⟨x54, hI⟩
 replace hE := Ext.tr hE x54
 replace K0 := K0.ext x54
 replace B3 := B3.ext x54
 replace B6 := B6.ext x54
 replace GA := GA.ext x54
 replace B51 := B51.ext x54
 replace GB := GB.ext x54
 have zw54 := x54.size
 obtain ⟨i, hi⟩ : ∃ i, i = p := ⟨p, rfl⟩
 subst hi
 refine C.norm (by simp only [upd, junk, List.map_cons, List.map_nil, List.set_cons_succ, List.set_cons_zero]; exact rfl) ?_
 refine wp_seq_k (fun K55 hK55 => ?_)
 refine sq fun K56 hK56 => ?_
 refine RS.mvI rfl ?_
 refine RS.mvS rfl ?_
 refine RS.o (D.len rfl Tryd.underlying61) ?_
 refine RS.o (D.lt rfl rfl) ?_
 refine nl hK56 ?_
 refine C.ifd rfl (fun c57 => ?_) (fun c57 => ?_)
 ·refine wp_skip ?_
  refine hK55 _ _ ?_
  refine wp_seq_k (fun K58 hK58 => ?_)
  refine wp_block ?_
  refine sq fun K59 hK59 => ?_
  refine RS.mvS rfl ?_
  refine RS.mvI rfl ?_
  refine RS.idxG GB default rfl rfl Tryd.underlying61 C28 (by decide) (by omega) (fun b60 o60 y1 h60 qy1 m60 => ?_)
  refine RS.nm ?_
  obtain ⟨hxo, hxf⟩ := S.bad_mem m60
  have hwo := S.with_ok hxo
  have hb := S.with_bad hxf
  refine RS.o (D.loadAgg rfl Tryd.underlying28 rfl C28 (by decide) rfl h60) ?_
  refine RS.norm (by dsimp only [List.set, S.actC]) ?_
  refine RS.call E30 (withW y1 _) rfl (fun v61 w61 x61 A61 => ?_)
  replace hE := Ext.tr hE x61
  replace x54 := Ext.tr x54 x61
  replace K0 := K0.ext x61
  replace B3 := B3.ext x61
  replace B6 := B6.ext x61
  replace GA := GA.ext x61
  replace B51 := B51.ext x61
  replace GB := GB.ext x61
  have zw61 := x61.size
  subst A61
  refine RS.nm ?_
  refine RS.call E12 (messageO (S.withO y1) hwo _ _ _ (WRow.nil (S := fun _ => False)) (Nat.le_refl _)) rfl (fun v62 w62 x62 A62 => ?_)
  replace hE := Ext.tr hE x62
  replace x54 := Ext.tr x54 x62
  replace K0 := K0.ext x62
  replace B3 := B3.ext x62
  replace B6 := B6.ext x62
  replace GA := GA.ext x62
  replace B51 := B51.ext x62
  replace GB := GB.ext x62
  have zw62 := x62.size
  obtain ⟨a62, n62, c62, xs62, rfl, O62, hxs62⟩ := A62
  rw [hb.2.1]
  refine RS.nm ?_
  refine RS.move (v := .tuple _) rfl ?_
  refine RS.extract (v := .slice _ _ _) rfl rfl ?_
  refine RS.extract (v := .int _ _) rfl rfl ?_
  refine RS.asS rfl ?_
  refine RS.asI rfl ?_
  refine nl hK59 ?_
  refine sq fun K63 hK63 => ?_
  refine RS.mvS rfl ?_
  refine RS.mvI rfl ?_
  refine RS.idxG GB default rfl rfl Tryd.underlying61 C28 (by decide) (by omega) (fun b64 o64 y2 h64 qy2 m64 => ?_)
  refine RS.nm ?_
  obtain rfl : y1 = y2 := qy1.trans qy2.symm
  refine RS.o (D.loadAgg rfl Tryd.underlying28 rfl C28 (by decide) rfl h64) ?_
  refine RS.norm (by dsimp only [List.set, S.actC]) ?_
  refine RS.call E30 (withW y1 _) rfl (fun v65 w65 x65 A65 => ?_)
  replace hE := Ext.tr hE x65
  replace x54 := Ext.tr x54 x65
  replace K0 := K0.ext x65
  replace B3 := B3.ext x65
  replace B6 := B6.ext x65
  replace GA := GA.ext x65
  replace B51 := B51.ext x65
  replace GB := GB.ext x65
  have zw65 := x65.size
  subst A65
  refine RS.nm ?_
  refine RS.call E14 (encodeO (S.withO y1) hwo _ _ _ (WRow.nil (S := fun _ => False)) (Nat.le_refl _)) rfl (fun v66 w66 x66 A66 => ?_)
  replace hE := Ext.tr hE x66
  replace x54 := Ext.tr x54 x66
  replace K0 := K0.ext x66
  replace B3 := B3.ext x66
  replace B6 := B6.ext x66
  replace GA := GA.ext x66
  replace B51 := B51.ext x66
  replace GB := GB.ext x66
  have zw66 := x66.size
  obtain ⟨a66, n66, c66, xs66, rfl, O66, hxs66⟩ := A66
  rw [hb.1]
  refine RS.nm ?_
  refine RS.move (v := .tuple _) rfl ?_
  refine RS.extract (v := .slice _ _ _) rfl rfl ?_
  refine RS.extract (v := .int _ _) rfl rfl ?_
  refine RS.asS rfl ?_
  refine RS.asI rfl ?_
  refine nl hK63 ?_
  refine sq fun K67 hK67 => ?_
  refine RS.mvS rfl ?_
  refine RS.mvI rfl ?_
  refine RS.idxG GB default rfl rfl Tryd.underlying61 C28 (by decide) (by omega) (fun b68 o68 y3 h68 qy3 m68 => ?_)
  refine RS.nm ?_
  obtain rfl : y1 = y3 := qy1.trans qy3.symm
  refine RS.o (D.loadAgg rfl Tryd.underlying28 rfl C28 (by decide) rfl h68) ?_
  refine RS.norm (by dsimp only [List.set, S.actC]) ?_
  refine RS.call E30 (withW y1 _) rfl (fun v69 w69 x69 A69 => ?_)
  replace hE := Ext.tr hE x69
  replace x54 := Ext.tr x54 x69
  replace K0 := K0.ext x69
  replace B3 := B3.ext x69
  replace B6 := B6.ext x69
  replace GA := GA.ext x69
  replace B51 := B51.ext x69
  replace GB := GB.ext x69
  have zw69 := x69.size
  subst A69
  refine RS.nm ?_
  refine RS.call E16 (idO (S.withO y1) hwo _ _ _ _ K0 (WRow.nil (S := fun _ => False)) (Nat.le_refl _)) rfl (fun v70 w70 x70 A70 => ?_)
  replace hE := Ext.tr hE x70
  replace x54 := Ext.tr x54 x70
  replace K0 := K0.ext x70
  replace B3 := B3.ext x70
  replace B6 := B6.ext x70
  replace GA := GA.ext x70
  replace B51 := B51.ext x70
  replace GB := GB.ext x70
  have zw70 := x70.size
  subst A70
  rw [if_neg (by rw [hb.1]; decide), hb.1]
  refine RS.nm ?_
  refine RS.move (v := .tuple _) rfl ?_
  refine RS.extract (v := .agg _) rfl rfl ?_
  refine RS.extract (v := .int _ _) rfl rfl ?_
  refine RS.alloc T42 (fun b71 w71 e71 s71 x71 B71 => ?_)
  refine RS.nm ?_
  replace hE := Ext.tr hE x71
  replace x54 := Ext.tr x54 x71
  replace K0 := K0.ext x71
  replace B3 := B3.ext x71
  replace B6 := B6.ext x71
  replace GA := GA.ext x71
  replace B51 := B51.ext x71
  replace GB := GB.ext x71
  have zw71 := x71.size
  have A71 : IArr .u8 w71 b71 32 (List.replicate 32 0) [] 42 := IArr.zero B71
  clear B71
  refine RS.storeArr A71 rfl rfl C42 (by decide) (Arr.zeros .u8 32).1 (Arr.zeros .u8 32).2 (fun w72 y72 N72 => ?_)
  replace hE := hE.trans (y72.belo)
  replace x54 := x54.trans (y72.belo)
  replace K0 := K0.sto y72
  replace B3 := B3.sto y72
  replace B6 := B6.sto y72
  replace GA := GA.sto y72
  replace B51 := B51.sto y72
  replace GB := GB.sto y72
  have zw72 := y72.size
  replace A71 := N72
  refine RS.asI rfl ?_
  refine nl hK67 ?_
  refine sq fun K73 hK73 => ?_
  refine RS.mvS rfl ?_
  refine RS.mvI rfl ?_
  refine RS.idxG GB default rfl rfl Tryd.underlying61 C28 (by decide) (by omega) (fun b74 o74 y4 h74 qy4 m74 => ?_)
  refine RS.nm ?_
  obtain rfl : y1 = y4 := qy1.trans qy4.symm
  refine RS.o (D.loadAgg rfl Tryd.underlying28 rfl C28 (by decide) rfl h74) ?_
  refine RS.norm (by dsimp only [List.set, S.actC]) ?_
  refine RS.call E30 (withW y1 _) rfl (fun v75 w75 x75 A75 => ?_)
  replace hE := Ext.tr hE x75
  replace x54 := Ext.tr x54 x75
  replace K0 := K0.ext x75
  replace B3 := B3.ext x75
  replace B6 := B6.ext x75
  replace GA := GA.ext x75
  replace B51 := B51.ext x75
  replace GB := GB.ext x75
  replace A71 := A71.ext x75
  have zw75 := x75.size
  subst A75
  refine RS.nm ?_
  refine RS.call E25 (signO 2 (by decide) (S.withO y1) hwo _ _ _ _ K0 (WRow.nil (S := fun _ => False)) (Nat.le_refl _)) rfl (fun v76 w76 x76 A76 => ?_)
  replace hE := Ext.tr hE x76
  replace x54 := Ext.tr x54 x76
  replace K0 := K0.ext x76
  replace B3 := B3.ext x76
  replace B6 := B6.ext x76
  replace GA := GA.ext x76
  replace B51 := B51.ext x76
  replace GB := GB.ext x76
  replace A71 := A71.ext x76
  have zw76 := x76.size
  obtain ⟨a76, c76, rfl, hc76, D76⟩ := A76
  rw [hb.2.2.1]
  refine RS.nm ?_
  refine RS.move (v := .tuple _) rfl ?_
  refine RS.extract (v := .agg _) rfl rfl ?_
  refine RS.extract (v := .int _ _) rfl rfl ?_
  refine RS.alloc T32 (fun b77 w77 e77 s77 x77 B77 => ?_)
  refine RS.nm ?_
  replace hE := Ext.tr hE x77
  replace x54 := Ext.tr x54 x77
  replace K0 := K0.ext x77
  replace B3 := B3.ext x77
  replace B6 := B6.ext x77
  replace GA := GA.ext x77
  replace B51 := B51.ext x77
  replace GB := GB.ext x77
  replace A71 := A71.ext x77
  have zw77 := x77.size
  refine RS.storeAggB rfl rfl C32 (by decide) rfl rfl B77 rfl (fun w78 y78 N78 => ?_)
  replace hE := hE.trans (y78.belo)
  replace x54 := x54.trans (y78.belo)
  replace K0 := K0.sto y78
  replace B3 := B3.sto y78
  replace B6 := B6.sto y78
  replace GA := GA.sto y78
  replace B51 := B51.sto y78
  replace GB := GB.sto y78
  replace A71 := A71.sto y78
  have zw78 := y78.size
  replace B77 := N78
  refine RS.asI rfl ?_
  refine nl hK73 ?_
  refine sq fun K79 hK79 => ?_
  refine RS.mvS rfl ?_
  refine RS.mvI rfl ?_
  refine RS.idxG GB default rfl rfl Tryd.underlying61 C28 (by decide) (by omega) (fun b80 o80 y5 h80 qy5 m80 => ?_)
  refine RS.nm ?_
  obtain rfl : y1 = y5 := qy1.trans qy5.symm
  refine RS.o (D.loadAgg rfl Tryd.underlying28 rfl C28 (by decide) rfl h80) ?_
  refine RS.norm (by dsimp only [List.set, S.actC]) ?_
  refine RS.call E18 (checkAct _ _ _ _ _ _ hxo.k hxo.vk hxo.num hxo.bits (by have := hxo.key; omega) (by have := hxo.t; omega) _) rfl (fun v81 w81 x81 A81 => ?_)
  replace hE := Ext.tr hE x81
  replace x54 := Ext.tr x54 x81
  replace K0 := K0.ext x81
  replace B3 := B3.ext x81
  replace B6 := B6.ext x81
  replace GA := GA.ext x81
  replace B51 := B51.ext x81
  replace GB := GB.ext x81
  replace A71 := A71.ext x81
  replace B77 := B77.ext x81
  have zw81 := x81.size
  subst A81
  rw [← S.actE_neg hxf]
  refine RS.nm ?_
  refine RS.o (D.ne rfl rfl) ?_
  refine RS.mvB rfl ?_
  refine RS.splitn 192 rfl rfl (fun c82 => ?_) (fun c82 => ?_)
  ·refine RS.nm ?_
   exact absurd rfl c82
  refine RS.nm ?_
  refine RS.wt 192 ?_
  refine RS.mvS rfl ?_
  refine RS.wt 192 ?_
  refine RS.mvI rfl ?_
  refine RS.wt 192 ?_
  refine RS.idxG GB default rfl rfl Tryd.underlying61 C28 (by decide) (by omega) (fun b83 o83 y6 h83 qy6 m83 => ?_)
  refine RS.nm ?_
  obtain rfl : y1 = y6 := qy1.trans qy6.symm
  refine RS.wt 192 ?_
  refine RS.o (D.loadAgg rfl Tryd.underlying28 rfl C28 (by decide) rfl h83) ?_
  refine RS.norm (by dsimp only [List.set, S.actC]) ?_
  refine RS.wt 192 ?_
  refine RS.call E30 (withW y1 _) rfl (fun v84 w84 x84 A84 => ?_)
  replace hE := Ext.tr hE x84
  replace x54 := Ext.tr x54 x84
  replace K0 := K0.ext x84
  replace B3 := B3.ext x84
  replace B6 := B6.ext x84
  replace GA := GA.ext x84
  replace B51 := B51.ext x84
  replace GB := GB.ext x84
  replace A71 := A71.ext x84
  replace B77 := B77.ext x84
  have zw84 := x84.size
  subst A84
  refine RS.nm ?_
  refine RS.wt 192 ?_
  refine RS.call E20 (checkO (S.withO y1) hwo _ _ _ (WRow.nil (S := fun _ => False)) (Nat.le_refl _)) rfl (fun v85 w85 x85 A85 => ?_)
  replace hE := Ext.tr hE x85
  replace x54 := Ext.tr x54 x85
  replace K0 := K0.ext x85
  replace B3 := B3.ext x85
  replace B6 := B6.ext x85
  replace GA := GA.ext x85
  replace B51 := B51.ext x85
  replace GB := GB.ext x85
  replace A71 := A71.ext x85
  replace B77 := B77.ext x85
  have zw85 := x85.size
  subst A85
  rw [hb.1]
  refine RS.nm ?_
  refine RS.wt 192 ?_
  refine RS.o (D.ne rfl rfl) ?_
  refine RS.pick (v := .bool _) rfl rfl ?_
  refine RS.mvB rfl ?_
  refine RS.splitn 201 rfl rfl (fun c86 => ?_) (fun c86 => ?_)
  ·refine RS.nm ?_
   exact absurd rfl c86
  refine RS.nm ?_
  refine RS.wt 201 ?_
  refine RS.mvI rfl ?_
  refine RS.wt 201 ?_
  refine RS.o (D.ne rfl rfl) ?_
  refine RS.pick (v := .bool _) rfl rfl ?_
  refine RS.mvB rfl ?_
  refine RS.splitn 205 rfl rfl (fun c87 => ?_) (fun c87 => ?_)
  ·refine RS.nm ?_
   exact absurd rfl c87
  refine RS.nm ?_
  refine RS.wt 205 ?_
  refine RS.mvI rfl ?_
  refine RS.wt 205 ?_
  refine RS.o (D.ne rfl rfl) ?_
  refine RS.pick (v := .bool _) rfl rfl ?_
  refine RS.mvB rfl ?_
  refine RS.splitn 209 rfl rfl (fun c88 => ?_) (fun c88 => ?_)
  ·refine RS.nm ?_
   exact absurd rfl c88
  refine RS.nm ?_
  refine RS.wt 209 ?_
  refine RS.mvI rfl ?_
  refine RS.wt 209 ?_
  refine RS.o (D.ne rfl rfl) ?_
  refine RS.pick (v := .bool _) rfl rfl ?_
  refine RS.mvB rfl ?_
  refine RS.splitn 213 rfl rfl (fun c89 => ?_) (fun c89 => ?_)
  ·refine RS.nm ?_
   exact absurd rfl c89
  refine RS.nm ?_
  refine RS.wt 213 ?_
  refine RS.mvI rfl ?_
  refine RS.wt 213 ?_
  refine RS.o (D.ne rfl rfl) ?_
  refine RS.pick (v := .bool _) rfl rfl ?_
  refine RS.mvB rfl ?_
  refine RS.splitn 217 rfl rfl (fun c90 => ?_) (fun c90 => ?_)
  ·refine RS.nm ?_
   exact absurd rfl c90
  refine RS.nm ?_
  refine RS.wt 217 ?_
  refine RS.mvS rfl ?_
  refine RS.wt 217 ?_
  refine RS.mvI rfl ?_
  refine RS.wt 217 ?_
  refine RS.idxG GB default rfl rfl Tryd.underlying61 C28 (by decide) (by omega) (fun b91 o91 y7 h91 qy7 m91 => ?_)
  refine RS.nm ?_
  obtain rfl : y1 = y7 := qy1.trans qy7.symm
  refine RS.wt 217 ?_
  refine RS.o (D.loadAgg rfl Tryd.underlying28 rfl C28 (by decide) rfl h91) ?_
  refine RS.norm (by dsimp only [List.set, S.actC]) ?_
  refine RS.wt 217 ?_
  refine RS.call E30 (withW y1 _) rfl (fun v92 w92 x92 A92 => ?_)
  replace hE := Ext.tr hE x92
  replace x54 := Ext.tr x54 x92
  replace K0 := K0.ext x92
  replace B3 := B3.ext x92
  replace B6 := B6.ext x92
  replace GA := GA.ext x92
  replace B51 := B51.ext x92
  replace GB := GB.ext x92
  replace A71 := A71.ext x92
  replace B77 := B77.ext x92
  have zw92 := x92.size
  subst A92
  refine RS.nm ?_
  refine RS.wt 217 ?_
  refine RS.call E27 (verifyO (S.withO y1) hwo _ _ _ _ K0 (WRow.nil (S := fun _ => False)) (Nat.le_refl _)) rfl (fun v93 w93 x93 A93 => ?_)
  replace hE := Ext.tr hE x93
  replace x54 := Ext.tr x54 x93
  replace K0 := K0.ext x93
  replace B3 := B3.ext x93
  replace B6 := B6.ext x93
  replace GA := GA.ext x93
  replace B51 := B51.ext x93
  replace GB := GB.ext x93
  replace A71 := A71.ext x93
  replace B77 := B77.ext x93
  have zw93 := x93.size
  subst A93
  rw [hb.2.2.2]
  refine RS.nm ?_
  refine RS.wt 217 ?_
  refine RS.o (D.ne rfl rfl) ?_
  refine RS.pick (v := .bool _) rfl rfl ?_
  refine nl hK79 ?_
  refine C.ifn rfl (fun c94 => ?_) (fun c94 => ?_)
  ·exact absurd rfl c94
  refine wp_skip ?_
  refine hK58 _ _ ?_
  refine region ?_
  refine RS.mvI rfl ?_
  refine RS.o (D.add rfl rfl (W.i64 (by omega))) ?_
  refine RS.asI rfl ?_
  refine RS.nil ?_
  change Nx _ _ _ _ _ _ _ _
  refine C.next (i + 1) ⟨rfl, trivial⟩ (by kernel_rfl) ?_ ?_
  ·exact ⟨x54, by omega, by omega⟩
  omega
 refine wp_exit ?_
 refine hK52 _ _ ?_
 refine sq fun K95 hK95 => ?_
 refine RS.call E32 (givenW _) rfl (fun v96 w96 x96 A96 => ?_)
 replace hE := Ext.tr hE x96
 replace K0 := K0.ext x96
 replace B3 := B3.ext x96
 replace B6 := B6.ext x96
 replace GA := GA.ext x96
 replace B51 := B51.ext x96
 replace GB := GB.ext x96
 have zw96 := x96.size
 subst A96
 refine RS.nm ?_
 refine RS.call E32 (givenW _) rfl (fun v97 w97 x97 A97 => ?_)
 replace hE := Ext.tr hE x97
 replace K0 := K0.ext x97
 replace B3 := B3.ext x97
 replace B6 := B6.ext x97
 replace GA := GA.ext x97
 replace B51 := B51.ext x97
 replace GB := GB.ext x97
 have zw97 := x97.size
 subst A97
 refine RS.nm ?_
 refine RS.call E32 (givenW _) rfl (fun v98 w98 x98 A98 => ?_)
 replace hE := Ext.tr hE x98
 replace K0 := K0.ext x98
 replace B3 := B3.ext x98
 replace B6 := B6.ext x98
 replace GA := GA.ext x98
 replace B51 := B51.ext x98
 replace GB := GB.ext x98
 have zw98 := x98.size
 subst A98
 refine RS.nm ?_
 refine RS.call E32 (givenW _) rfl (fun v99 w99 x99 A99 => ?_)
 replace hE := Ext.tr hE x99
 replace K0 := K0.ext x99
 replace B3 := B3.ext x99
 replace B6 := B6.ext x99
 replace GA := GA.ext x99
 replace B51 := B51.ext x99
 replace GB := GB.ext x99
 have zw99 := x99.size
 subst A99
 refine RS.nm ?_
 refine RS.alloc T32 (fun b100 w100 e100 s100 x100 B100 => ?_)
 refine RS.nm ?_
 replace hE := Ext.tr hE x100
 replace K0 := K0.ext x100
 replace B3 := B3.ext x100
 replace B6 := B6.ext x100
 replace GA := GA.ext x100
 replace B51 := B51.ext x100
 replace GB := GB.ext x100
 have zw100 := x100.size
 refine RS.alloc T32 (fun b101 w101 e101 s101 x101 B101 => ?_)
 refine RS.nm ?_
 replace hE := Ext.tr hE x101
 replace K0 := K0.ext x101
 replace B3 := B3.ext x101
 replace B6 := B6.ext x101
 replace GA := GA.ext x101
 replace B51 := B51.ext x101
 replace GB := GB.ext x101
 replace B100 := B100.ext x101
 have zw101 := x101.size
 refine RS.alloc T32 (fun b102 w102 e102 s102 x102 B102 => ?_)
 refine RS.nm ?_
 replace hE := Ext.tr hE x102
 replace K0 := K0.ext x102
 replace B3 := B3.ext x102
 replace B6 := B6.ext x102
 replace GA := GA.ext x102
 replace B51 := B51.ext x102
 replace GB := GB.ext x102
 replace B100 := B100.ext x102
 replace B101 := B101.ext x102
 have zw102 := x102.size
 refine RS.alloc T32 (fun b103 w103 e103 s103 x103 B103 => ?_)
 refine RS.nm ?_
 replace hE := Ext.tr hE x103
 replace K0 := K0.ext x103
 replace B3 := B3.ext x103
 replace B6 := B6.ext x103
 replace GA := GA.ext x103
 replace B51 := B51.ext x103
 replace GB := GB.ext x103
 replace B100 := B100.ext x103
 replace B101 := B101.ext x103
 replace B102 := B102.ext x103
 have zw103 := x103.size
 refine RS.storeAggB rfl rfl C32 (by decide) rfl rfl B100 rfl (fun w104 y104 N104 => ?_)
 replace hE := hE.trans (y104.belo)
 replace K0 := K0.sto y104
 replace B3 := B3.sto y104
 replace B6 := B6.sto y104
 replace GA := GA.sto y104
 replace B51 := B51.sto y104
 replace GB := GB.sto y104
 replace B101 := B101.sto y104
 replace B102 := B102.sto y104
 replace B103 := B103.sto y104
 have zw104 := y104.size
 replace B100 := N104
 refine RS.storeAggB rfl rfl C32 (by decide) rfl rfl B101 rfl (fun w105 y105 N105 => ?_)
 replace hE := hE.trans (y105.belo)
 replace K0 := K0.sto y105
 replace B3 := B3.sto y105
 replace B6 := B6.sto y105
 replace GA := GA.sto y105
 replace B51 := B51.sto y105
 replace GB := GB.sto y105
 replace B100 := B100.sto y105
 replace B102 := B102.sto y105
 replace B103 := B103.sto y105
 have zw105 := y105.size
 replace B101 := N105
 refine RS.storeAggB rfl rfl C32 (by decide) rfl rfl B102 rfl (fun w106 y106 N106 => ?_)
 replace hE := hE.trans (y106.belo)
 replace K0 := K0.sto y106
 replace B3 := B3.sto y106
 replace B6 := B6.sto y106
 replace GA := GA.sto y106
 replace B51 := B51.sto y106
 replace GB := GB.sto y106
 replace B100 := B100.sto y106
 replace B101 := B101.sto y106
 replace B103 := B103.sto y106
 have zw106 := y106.size
 replace B102 := N106
 refine RS.storeAggB rfl rfl C32 (by decide) rfl rfl B103 rfl (fun w107 y107 N107 => ?_)
 replace hE := hE.trans (y107.belo)
 replace K0 := K0.sto y107
 replace B3 := B3.sto y107
 replace B6 := B6.sto y107
 replace GA := GA.sto y107
 replace B51 := B51.sto y107
 replace GB := GB.sto y107
 replace B100 := B100.sto y107
 replace B101 := B101.sto y107
 replace B102 := B102.sto y107
 have zw107 := y107.size
 replace B103 := N107
 refine nl hK95 ?_
 refine sq fun K108 hK108 => ?_
 refine RS.make rfl rfl Tryd.underlying23 T42 (by omega) (by omega) (by omega) (fun b109 w109 e109 s109 x109 B109 => ?_)
 refine RS.nm ?_
 replace hE := Ext.tr hE x109
 replace K0 := K0.ext x109
 replace B3 := B3.ext x109
 replace B6 := B6.ext x109
 replace GA := GA.ext x109
 replace B51 := B51.ext x109
 replace GB := GB.ext x109
 replace B100 := B100.ext x109
 replace B101 := B101.ext x109
 replace B102 := B102.ext x109
 replace B103 := B103.ext x109
 have zw109 := x109.size
 rw [show (5 : Int).toNat * 32 = 5 * 32 from rfl, made_wide .u8 32 5 (by decide)] at B109
 have WM := (WOwn.of_blk B109 rfl (by simp) (Nat.le_refl _) (Bd.zeros .u8 (32 * 5)) (by decide) : WOwn b109 w109 42 .u8 32 _ 5 5 _).row.weaken (T := fun k => b109 ≤ k ∧ k < w109.heap.size) (fun k hk h => by omega)
 refine RS.o (D.fieldL 1 rfl Tryd.underlying32 rfl C23 (by decide) rfl) ?_
 refine RS.store rfl  rfl C23 rfl B100 rfl (fun w110 y110 N110 => ?_)
 replace hE := hE.trans (y110.belo)
 replace K0 := K0.sto y110
 replace B3 := B3.sto y110
 replace B6 := B6.sto y110
 replace GA := GA.sto y110
 replace B51 := B51.sto y110
 replace GB := GB.sto y110
 replace B101 := B101.sto y110
 replace B102 := B102.sto y110
 replace B103 := B103.sto y110
 replace WM := WM.sto y110
 have zw110 := y110.size
 replace B100 := N110
 refine nl hK108 ?_
 refine sq fun K111 hK111 => ?_
 refine RS.o (D.buildOne rfl Tryd.underlying42 T42 C5 rfl (by rw [ints_length]; simp)) ?_
 refine RS.o (D.buildOne rfl Tryd.underlying42 T42 C5 rfl (by rw [ints_length]; simp)) ?_
 refine RS.buildW2 (xs := 1 :: List.replicate 31 0) (ys := 1 :: List.replicate 31 0) rfl rfl hone hone Tryd.underlying23 T42 (by decide) rfl (fun b112 w112 e112 s112 x112 QW => ?_)
 refine RS.nm ?_
 replace hE := Ext.tr hE x112
 replace K0 := K0.ext x112
 replace B3 := B3.ext x112
 replace B6 := B6.ext x112
 replace GA := GA.ext x112
 replace B51 := B51.ext x112
 replace GB := GB.ext x112
 replace B100 := B100.ext x112
 replace B101 := B101.ext x112
 replace B102 := B102.ext x112
 replace B103 := B103.ext x112
 replace WM := WM.ext x112
 have zw112 := x112.size
 replace QW := QW.weaken (T := fun k => b112 ≤ k ∧ k < w112.heap.size) (fun k hk h => by omega)
 refine RS.o (D.fieldL 1 rfl Tryd.underlying32 rfl C23 (by decide) rfl) ?_
 refine RS.store rfl  rfl C23 rfl B101 rfl (fun w113 y113 N113 => ?_)
 replace hE := hE.trans (y113.belo)
 replace K0 := K0.sto y113
 replace B3 := B3.sto y113
 replace B6 := B6.sto y113
 replace GA := GA.sto y113
 replace B51 := B51.sto y113
 replace GB := GB.sto y113
 replace B100 := B100.sto y113
 replace B102 := B102.sto y113
 replace B103 := B103.sto y113
 replace WM := WM.sto y113
 replace QW := QW.sto y113
 have zw113 := y113.size
 replace B101 := N113
 refine nl hK111 ?_
 refine sq fun K114 hK114 => ?_
 refine RS.o (D.fieldL 2 rfl Tryd.underlying32 rfl C24 (by decide) rfl) ?_
 refine RS.store rfl (v := .int _ _) rfl C24 rfl B102 rfl (fun w115 y115 N115 => ?_)
 replace hE := hE.trans (y115.belo)
 replace K0 := K0.sto y115
 replace B3 := B3.sto y115
 replace B6 := B6.sto y115
 replace GA := GA.sto y115
 replace B51 := B51.sto y115
 replace GB := GB.sto y115
 replace B100 := B100.sto y115
 replace B101 := B101.sto y115
 replace B103 := B103.sto y115
 replace WM := WM.sto y115
 replace QW := QW.sto y115
 have zw115 := y115.size
 replace B102 := N115
 refine nl hK114 ?_
 refine sq fun K116 hK116 => ?_
 refine RS.o (D.fieldL 9 rfl Tryd.underlying32 rfl C30 (by decide) rfl) ?_
 refine RS.o (D.fieldL 10 rfl Tryd.underlying30 rfl C22 (by decide) rfl) ?_
 refine RS.store rfl (v := .int _ _) rfl C22 rfl B103 rfl (fun w117 y117 N117 => ?_)
 replace hE := hE.trans (y117.belo)
 replace K0 := K0.sto y117
 replace B3 := B3.sto y117
 replace B6 := B6.sto y117
 replace GA := GA.sto y117
 replace B51 := B51.sto y117
 replace GB := GB.sto y117
 replace B100 := B100.sto y117
 replace B101 := B101.sto y117
 replace B102 := B102.sto y117
 replace WM := WM.sto y117
 replace QW := QW.sto y117
 have zw117 := y117.size
 replace B103 := N117
 refine nl hK116 ?_
 refine sq fun K118 hK118 => ?_
 refine RS.o (D.loadAgg rfl Tryd.underlying32 rfl C32 (by decide) rfl (B103.cellsN 11 rfl)) ?_
 refine RS.call E12 (messageO S.wideO S.wide_ok _ _ _ (WRow.nil (S := fun _ => False)) (Nat.le_refl _)) rfl (fun v119 w119 x119 A119 => ?_)
 replace hE := Ext.tr hE x119
 replace K0 := K0.ext x119
 replace B3 := B3.ext x119
 replace B6 := B6.ext x119
 replace GA := GA.ext x119
 replace B51 := B51.ext x119
 replace GB := GB.ext x119
 replace B100 := B100.ext x119
 replace B101 := B101.ext x119
 replace B102 := B102.ext x119
 replace B103 := B103.ext x119
 replace WM := WM.ext x119
 replace QW := QW.ext x119
 have zw119 := x119.size
 obtain ⟨aM, nM, cM, xsM, rfl, OM, hxs⟩ := A119
 rw [if_pos S.wide_bare] at hxs
 rw [S.wide_bare]
 subst hxs
 have lOM := OM.len
 rw [S.wide_msg] at lOM
 refine RS.nm ?_
 refine RS.move (v := .tuple _) rfl ?_
 refine RS.extract (v := .slice _ _ _) rfl rfl ?_
 refine RS.extract (v := .int _ _) rfl rfl ?_
 refine RS.asS rfl ?_
 refine RS.asI rfl ?_
 refine nl hK118 ?_
 refine sq fun K120 hK120 => ?_
 refine RS.o (D.loadAgg rfl Tryd.underlying32 rfl C32 (by decide) rfl (B100.cellsN 11 rfl)) ?_
 refine RS.call E25 (signO 0 (by decide) S.manyO S.many_ok _ _ _ _ K0 WM (by decide)) rfl (fun v121 w121 x121 A121 => ?_)
 replace hE := Ext.tr hE x121
 replace K0 := K0.ext x121
 replace B3 := B3.ext x121
 replace B6 := B6.ext x121
 replace GA := GA.ext x121
 replace B51 := B51.ext x121
 replace GB := GB.ext x121
 replace B100 := B100.ext x121
 replace B101 := B101.ext x121
 replace B102 := B102.ext x121
 replace B103 := B103.ext x121
 replace WM := WM.ext x121
 replace QW := QW.ext x121
 have zw121 := x121.size
 obtain ⟨a121, c121, rfl, hc121, D121⟩ := A121
 rw [S.many_sign0]
 refine RS.nm ?_
 refine RS.move (v := .tuple _) rfl ?_
 refine RS.extract (v := .agg _) rfl rfl ?_
 refine RS.extract (v := .int _ _) rfl rfl ?_
 refine RS.alloc T32 (fun b122 w122 e122 s122 x122 B122 => ?_)
 refine RS.nm ?_
 replace hE := Ext.tr hE x122
 replace K0 := K0.ext x122
 replace B3 := B3.ext x122
 replace B6 := B6.ext x122
 replace GA := GA.ext x122
 replace B51 := B51.ext x122
 replace GB := GB.ext x122
 replace B100 := B100.ext x122
 replace B101 := B101.ext x122
 replace B102 := B102.ext x122
 replace B103 := B103.ext x122
 replace WM := WM.ext x122
 replace QW := QW.ext x122
 have zw122 := x122.size
 refine RS.storeAggB rfl rfl C32 (by decide) rfl rfl B122 rfl (fun w123 y123 N123 => ?_)
 replace hE := hE.trans (y123.belo)
 replace K0 := K0.sto y123
 replace B3 := B3.sto y123
 replace B6 := B6.sto y123
 replace GA := GA.sto y123
 replace B51 := B51.sto y123
 replace GB := GB.sto y123
 replace B100 := B100.sto y123
 replace B101 := B101.sto y123
 replace B102 := B102.sto y123
 replace B103 := B103.sto y123
 replace WM := WM.sto y123
 replace QW := QW.sto y123
 have zw123 := y123.size
 replace B122 := N123
 refine RS.asI rfl ?_
 refine nl hK120 ?_
 refine sq fun K124 hK124 => ?_
 refine RS.o (D.loadAgg rfl Tryd.underlying32 rfl C32 (by decide) rfl (B100.cellsN 11 rfl)) ?_
 refine RS.call E25 (signO 1 (by decide) S.manyO S.many_ok _ _ _ _ K0 WM (by decide)) rfl (fun v125 w125 x125 A125 => ?_)
 replace hE := Ext.tr hE x125
 replace K0 := K0.ext x125
 replace B3 := B3.ext x125
 replace B6 := B6.ext x125
 replace GA := GA.ext x125
 replace B51 := B51.ext x125
 replace GB := GB.ext x125
 replace B100 := B100.ext x125
 replace B101 := B101.ext x125
 replace B102 := B102.ext x125
 replace B103 := B103.ext x125
 replace WM := WM.ext x125
 replace QW := QW.ext x125
 replace B122 := B122.ext x125
 have zw125 := x125.size
 obtain ⟨a125, c125, rfl, hc125, D125⟩ := A125
 rw [S.many_sign1]
 refine RS.nm ?_
 refine RS.move (v := .tuple _) rfl ?_
 refine RS.extract (v := .agg _) rfl rfl ?_
 refine RS.extract (v := .int _ _) rfl rfl ?_
 refine RS.alloc T32 (fun b126 w126 e126 s126 x126 B126 => ?_)
 refine RS.nm ?_
 replace hE := Ext.tr hE x126
 replace K0 := K0.ext x126
 replace B3 := B3.ext x126
 replace B6 := B6.ext x126
 replace GA := GA.ext x126
 replace B51 := B51.ext x126
 replace GB := GB.ext x126
 replace B100 := B100.ext x126
 replace B101 := B101.ext x126
 replace B102 := B102.ext x126
 replace B103 := B103.ext x126
 replace WM := WM.ext x126
 replace QW := QW.ext x126
 replace B122 := B122.ext x126
 have zw126 := x126.size
 refine RS.storeAggB rfl rfl C32 (by decide) rfl rfl B126 rfl (fun w127 y127 N127 => ?_)
 replace hE := hE.trans (y127.belo)
 replace K0 := K0.sto y127
 replace B3 := B3.sto y127
 replace B6 := B6.sto y127
 replace GA := GA.sto y127
 replace B51 := B51.sto y127
 replace GB := GB.sto y127
 replace B100 := B100.sto y127
 replace B101 := B101.sto y127
 replace B102 := B102.sto y127
 replace B103 := B103.sto y127
 replace WM := WM.sto y127
 replace QW := QW.sto y127
 replace B122 := B122.sto y127
 have zw127 := y127.size
 replace B126 := N127
 refine RS.asI rfl ?_
 refine nl hK124 ?_
 refine sq fun K128 hK128 => ?_
 refine RS.o (D.loadAgg rfl Tryd.underlying32 rfl C32 (by decide) rfl (B101.cellsN 11 rfl)) ?_
 refine RS.call E25 (signO 1 (by decide) S.twiceO S.twice_ok _ _ _ _ K0 QW (by decide)) rfl (fun v129 w129 x129 A129 => ?_)
 replace hE := Ext.tr hE x129
 replace K0 := K0.ext x129
 replace B3 := B3.ext x129
 replace B6 := B6.ext x129
 replace GA := GA.ext x129
 replace B51 := B51.ext x129
 replace GB := GB.ext x129
 replace B100 := B100.ext x129
 replace B101 := B101.ext x129
 replace B102 := B102.ext x129
 replace B103 := B103.ext x129
 replace WM := WM.ext x129
 replace QW := QW.ext x129
 replace B122 := B122.ext x129
 replace B126 := B126.ext x129
 have zw129 := x129.size
 obtain ⟨a129, c129, rfl, hc129, D129⟩ := A129
 rw [S.twice_sign1]
 refine RS.nm ?_
 refine RS.move (v := .tuple _) rfl ?_
 refine RS.extract (v := .agg _) rfl rfl ?_
 refine RS.extract (v := .int _ _) rfl rfl ?_
 refine RS.alloc T32 (fun b130 w130 e130 s130 x130 B130 => ?_)
 refine RS.nm ?_
 replace hE := Ext.tr hE x130
 replace K0 := K0.ext x130
 replace B3 := B3.ext x130
 replace B6 := B6.ext x130
 replace GA := GA.ext x130
 replace B51 := B51.ext x130
 replace GB := GB.ext x130
 replace B100 := B100.ext x130
 replace B101 := B101.ext x130
 replace B102 := B102.ext x130
 replace B103 := B103.ext x130
 replace WM := WM.ext x130
 replace QW := QW.ext x130
 replace B122 := B122.ext x130
 replace B126 := B126.ext x130
 have zw130 := x130.size
 refine RS.storeAggB rfl rfl C32 (by decide) rfl rfl B130 rfl (fun w131 y131 N131 => ?_)
 replace hE := hE.trans (y131.belo)
 replace K0 := K0.sto y131
 replace B3 := B3.sto y131
 replace B6 := B6.sto y131
 replace GA := GA.sto y131
 replace B51 := B51.sto y131
 replace GB := GB.sto y131
 replace B100 := B100.sto y131
 replace B101 := B101.sto y131
 replace B102 := B102.sto y131
 replace B103 := B103.sto y131
 replace WM := WM.sto y131
 replace QW := QW.sto y131
 replace B122 := B122.sto y131
 replace B126 := B126.sto y131
 have zw131 := y131.size
 replace B130 := N131
 refine RS.asI rfl ?_
 refine nl hK128 ?_
 refine sq fun K132 hK132 => ?_
 refine RS.call E31 (decodeO _ _ _ _ _ (IRow.nil (S := fun _ => False)) (Nat.le_refl _) (by decide)) rfl (fun v133 w133 x133 A133 => ?_)
 replace hE := Ext.tr hE x133
 replace K0 := K0.ext x133
 replace B3 := B3.ext x133
 replace B6 := B6.ext x133
 replace GA := GA.ext x133
 replace B51 := B51.ext x133
 replace GB := GB.ext x133
 replace B100 := B100.ext x133
 replace B101 := B101.ext x133
 replace B102 := B102.ext x133
 replace B103 := B103.ext x133
 replace WM := WM.ext x133
 replace QW := QW.ext x133
 replace B122 := B122.ext x133
 replace B126 := B126.ext x133
 replace B130 := B130.ext x133
 have zw133 := x133.size
 obtain ⟨a133, c133, rfl, hc133, D133⟩ := A133
 rw [show S.decE [] = 12 from rfl]
 refine RS.nm ?_
 refine RS.move (v := .tuple _) rfl ?_
 refine RS.extract (v := .agg _) rfl rfl ?_
 refine RS.extract (v := .int _ _) rfl rfl ?_
 refine RS.alloc T32 (fun b134 w134 e134 s134 x134 B134 => ?_)
 refine RS.nm ?_
 replace hE := Ext.tr hE x134
 replace K0 := K0.ext x134
 replace B3 := B3.ext x134
 replace B6 := B6.ext x134
 replace GA := GA.ext x134
 replace B51 := B51.ext x134
 replace GB := GB.ext x134
 replace B100 := B100.ext x134
 replace B101 := B101.ext x134
 replace B102 := B102.ext x134
 replace B103 := B103.ext x134
 replace WM := WM.ext x134
 replace QW := QW.ext x134
 replace B122 := B122.ext x134
 replace B126 := B126.ext x134
 replace B130 := B130.ext x134
 have zw134 := x134.size
 refine RS.storeAggB rfl rfl C32 (by decide) rfl rfl B134 rfl (fun w135 y135 N135 => ?_)
 replace hE := hE.trans (y135.belo)
 replace K0 := K0.sto y135
 replace B3 := B3.sto y135
 replace B6 := B6.sto y135
 replace GA := GA.sto y135
 replace B51 := B51.sto y135
 replace GB := GB.sto y135
 replace B100 := B100.sto y135
 replace B101 := B101.sto y135
 replace B102 := B102.sto y135
 replace B103 := B103.sto y135
 replace WM := WM.sto y135
 replace QW := QW.sto y135
 replace B122 := B122.sto y135
 replace B126 := B126.sto y135
 replace B130 := B130.sto y135
 have zw135 := y135.size
 replace B134 := N135
 refine RS.asI rfl ?_
 refine nl hK132 ?_
 refine sq fun K136 hK136 => ?_
 refine RS.buildSlice (xs := [.const (.int .u8 112), .const (.int .u8 4), .const (.int .u8 0), .const (.int .u8 7), .const (.int .u8 2), .const (.int .u8 1), .const (.int .u8 97), .const (.int .u8 5), .const (.int .u8 6)]) (vs := [.int _ _, .int _ _, .int _ _, .int _ _, .int _ _, .int _ _, .int _ _, .int _ _, .int _ _]) (cs := [.int _ _, .int _ _, .int _ _, .int _ _, .int _ _, .int _ _, .int _ _, .int _ _, .int _ _]) Tryd.underlying35 T5 (by decide) rfl rfl rfl rfl rfl rfl (by intro v hv; simp only [List.mem_cons, List.not_mem_nil, or_false] at hv; rcases hv with rfl | rfl | rfl | rfl | rfl | rfl | rfl | rfl | rfl <;> rfl) rfl (fun b137 w137 e137 s137 x137 B137 => ?_)
 refine RS.nm ?_
 replace hE := Ext.tr hE x137
 replace K0 := K0.ext x137
 replace B3 := B3.ext x137
 replace B6 := B6.ext x137
 replace GA := GA.ext x137
 replace B51 := B51.ext x137
 replace GB := GB.ext x137
 replace B100 := B100.ext x137
 replace B101 := B101.ext x137
 replace B102 := B102.ext x137
 replace B103 := B103.ext x137
 replace WM := WM.ext x137
 replace QW := QW.ext x137
 replace B122 := B122.ext x137
 replace B126 := B126.ext x137
 replace B130 := B130.ext x137
 replace B134 := B134.ext x137
 have zw137 := x137.size
 refine RS.call E31 (decodeO _ _ _ _ _ (IRow.of_blk (S := fun k => k = b137) B137 rfl rfl rfl (.cons (by decide) (.cons (by decide) (.cons (by decide) (.cons (by decide) (.cons (by decide) (.cons (by decide) (.cons (by decide) (.cons (by decide) (.cons (by decide) (.nil _))))))))))) (Nat.le_refl _) (by decide)) rfl (fun v138 w138 x138 A138 => ?_)
 replace hE := Ext.tr hE x138
 replace K0 := K0.ext x138
 replace B3 := B3.ext x138
 replace B6 := B6.ext x138
 replace GA := GA.ext x138
 replace B51 := B51.ext x138
 replace GB := GB.ext x138
 replace B100 := B100.ext x138
 replace B101 := B101.ext x138
 replace B102 := B102.ext x138
 replace B103 := B103.ext x138
 replace WM := WM.ext x138
 replace QW := QW.ext x138
 replace B122 := B122.ext x138
 replace B126 := B126.ext x138
 replace B130 := B130.ext x138
 replace B134 := B134.ext x138
 replace B137 := B137.ext x138
 have zw138 := x138.size
 obtain ⟨a138, c138, rfl, hc138, D138⟩ := A138
 rw [S.dec_112]
 refine RS.nm ?_
 refine RS.move (v := .tuple _) rfl ?_
 refine RS.extract (v := .agg _) rfl rfl ?_
 refine RS.extract (v := .int _ _) rfl rfl ?_
 refine RS.alloc T32 (fun b139 w139 e139 s139 x139 B139 => ?_)
 refine RS.nm ?_
 replace hE := Ext.tr hE x139
 replace K0 := K0.ext x139
 replace B3 := B3.ext x139
 replace B6 := B6.ext x139
 replace GA := GA.ext x139
 replace B51 := B51.ext x139
 replace GB := GB.ext x139
 replace B100 := B100.ext x139
 replace B101 := B101.ext x139
 replace B102 := B102.ext x139
 replace B103 := B103.ext x139
 replace WM := WM.ext x139
 replace QW := QW.ext x139
 replace B122 := B122.ext x139
 replace B126 := B126.ext x139
 replace B130 := B130.ext x139
 replace B134 := B134.ext x139
 replace B137 := B137.ext x139
 have zw139 := x139.size
 refine RS.storeAggB rfl rfl C32 (by decide) rfl rfl B139 rfl (fun w140 y140 N140 => ?_)
 replace hE := hE.trans (y140.belo)
 replace K0 := K0.sto y140
 replace B3 := B3.sto y140
 replace B6 := B6.sto y140
 replace GA := GA.sto y140
 replace B51 := B51.sto y140
 replace GB := GB.sto y140
 replace B100 := B100.sto y140
 replace B101 := B101.sto y140
 replace B102 := B102.sto y140
 replace B103 := B103.sto y140
 replace WM := WM.sto y140
 replace QW := QW.sto y140
 replace B122 := B122.sto y140
 replace B126 := B126.sto y140
 replace B130 := B130.sto y140
 replace B134 := B134.sto y140
 replace B137 := B137.sto y140
 have zw140 := y140.size
 replace B139 := N140
 refine RS.asI rfl ?_
 refine nl hK136 ?_
 refine sq fun K141 hK141 => ?_
 refine RS.buildSlice (xs := [.const (.int .u8 111), .const (.int .u8 5), .const (.int .u8 0), .const (.int .u8 7), .const (.int .u8 2), .const (.int .u8 1), .const (.int .u8 97), .const (.int .u8 5), .const (.int .u8 6)]) (vs := [.int _ _, .int _ _, .int _ _, .int _ _, .int _ _, .int _ _, .int _ _, .int _ _, .int _ _]) (cs := [.int _ _, .int _ _, .int _ _, .int _ _, .int _ _, .int _ _, .int _ _, .int _ _, .int _ _]) Tryd.underlying35 T5 (by decide) rfl rfl rfl rfl rfl rfl (by intro v hv; simp only [List.mem_cons, List.not_mem_nil, or_false] at hv; rcases hv with rfl | rfl | rfl | rfl | rfl | rfl | rfl | rfl | rfl <;> rfl) rfl (fun b142 w142 e142 s142 x142 B142 => ?_)
 refine RS.nm ?_
 replace hE := Ext.tr hE x142
 replace K0 := K0.ext x142
 replace B3 := B3.ext x142
 replace B6 := B6.ext x142
 replace GA := GA.ext x142
 replace B51 := B51.ext x142
 replace GB := GB.ext x142
 replace B100 := B100.ext x142
 replace B101 := B101.ext x142
 replace B102 := B102.ext x142
 replace B103 := B103.ext x142
 replace WM := WM.ext x142
 replace QW := QW.ext x142
 replace B122 := B122.ext x142
 replace B126 := B126.ext x142
 replace B130 := B130.ext x142
 replace B134 := B134.ext x142
 replace B137 := B137.ext x142
 replace B139 := B139.ext x142
 have zw142 := x142.size
 refine RS.call E31 (decodeO _ _ _ _ _ (IRow.of_blk (S := fun k => k = b142) B142 rfl rfl rfl (.cons (by decide) (.cons (by decide) (.cons (by decide) (.cons (by decide) (.cons (by decide) (.cons (by decide) (.cons (by decide) (.cons (by decide) (.cons (by decide) (.nil _))))))))))) (Nat.le_refl _) (by decide)) rfl (fun v143 w143 x143 A143 => ?_)
 replace hE := Ext.tr hE x143
 replace K0 := K0.ext x143
 replace B3 := B3.ext x143
 replace B6 := B6.ext x143
 replace GA := GA.ext x143
 replace B51 := B51.ext x143
 replace GB := GB.ext x143
 replace B100 := B100.ext x143
 replace B101 := B101.ext x143
 replace B102 := B102.ext x143
 replace B103 := B103.ext x143
 replace WM := WM.ext x143
 replace QW := QW.ext x143
 replace B122 := B122.ext x143
 replace B126 := B126.ext x143
 replace B130 := B130.ext x143
 replace B134 := B134.ext x143
 replace B137 := B137.ext x143
 replace B139 := B139.ext x143
 replace B142 := B142.ext x143
 have zw143 := x143.size
 obtain ⟨a143, c143, rfl, hc143, D143⟩ := A143
 rw [S.dec_five]
 refine RS.nm ?_
 refine RS.move (v := .tuple _) rfl ?_
 refine RS.extract (v := .agg _) rfl rfl ?_
 refine RS.extract (v := .int _ _) rfl rfl ?_
 refine RS.alloc T32 (fun b144 w144 e144 s144 x144 B144 => ?_)
 refine RS.nm ?_
 replace hE := Ext.tr hE x144
 replace K0 := K0.ext x144
 replace B3 := B3.ext x144
 replace B6 := B6.ext x144
 replace GA := GA.ext x144
 replace B51 := B51.ext x144
 replace GB := GB.ext x144
 replace B100 := B100.ext x144
 replace B101 := B101.ext x144
 replace B102 := B102.ext x144
 replace B103 := B103.ext x144
 replace WM := WM.ext x144
 replace QW := QW.ext x144
 replace B122 := B122.ext x144
 replace B126 := B126.ext x144
 replace B130 := B130.ext x144
 replace B134 := B134.ext x144
 replace B137 := B137.ext x144
 replace B139 := B139.ext x144
 replace B142 := B142.ext x144
 have zw144 := x144.size
 refine RS.storeAggB rfl rfl C32 (by decide) rfl rfl B144 rfl (fun w145 y145 N145 => ?_)
 replace hE := hE.trans (y145.belo)
 replace K0 := K0.sto y145
 replace B3 := B3.sto y145
 replace B6 := B6.sto y145
 replace GA := GA.sto y145
 replace B51 := B51.sto y145
 replace GB := GB.sto y145
 replace B100 := B100.sto y145
 replace B101 := B101.sto y145
 replace B102 := B102.sto y145
 replace B103 := B103.sto y145
 replace WM := WM.sto y145
 replace QW := QW.sto y145
 replace B122 := B122.sto y145
 replace B126 := B126.sto y145
 replace B130 := B130.sto y145
 replace B134 := B134.sto y145
 replace B137 := B137.sto y145
 replace B139 := B139.sto y145
 replace B142 := B142.sto y145
 have zw145 := y145.size
 replace B144 := N145
 refine RS.asI rfl ?_
 refine nl hK141 ?_
 refine sq fun K146 hK146 => ?_
 refine RS.buildSlice (xs := [.const (.int .u8 111), .const (.int .u8 4), .const (.int .u8 0), .const (.int .u8 7), .const (.int .u8 2), .const (.int .u8 0), .const (.int .u8 5), .const (.int .u8 6)]) (vs := [.int _ _, .int _ _, .int _ _, .int _ _, .int _ _, .int _ _, .int _ _, .int _ _]) (cs := [.int _ _, .int _ _, .int _ _, .int _ _, .int _ _, .int _ _, .int _ _, .int _ _]) Tryd.underlying35 T5 (by decide) rfl rfl rfl rfl rfl rfl (by intro v hv; simp only [List.mem_cons, List.not_mem_nil, or_false] at hv; rcases hv with rfl | rfl | rfl | rfl | rfl | rfl | rfl | rfl <;> rfl) rfl (fun b147 w147 e147 s147 x147 B147 => ?_)
 refine RS.nm ?_
 replace hE := Ext.tr hE x147
 replace K0 := K0.ext x147
 replace B3 := B3.ext x147
 replace B6 := B6.ext x147
 replace GA := GA.ext x147
 replace B51 := B51.ext x147
 replace GB := GB.ext x147
 replace B100 := B100.ext x147
 replace B101 := B101.ext x147
 replace B102 := B102.ext x147
 replace B103 := B103.ext x147
 replace WM := WM.ext x147
 replace QW := QW.ext x147
 replace B122 := B122.ext x147
 replace B126 := B126.ext x147
 replace B130 := B130.ext x147
 replace B134 := B134.ext x147
 replace B137 := B137.ext x147
 replace B139 := B139.ext x147
 replace B142 := B142.ext x147
 replace B144 := B144.ext x147
 have zw147 := x147.size
 refine RS.call E31 (decodeO _ _ _ _ _ (IRow.of_blk (S := fun k => k = b147) B147 rfl rfl rfl (.cons (by decide) (.cons (by decide) (.cons (by decide) (.cons (by decide) (.cons (by decide) (.cons (by decide) (.cons (by decide) (.cons (by decide) (.nil _)))))))))) (Nat.le_refl _) (by decide)) rfl (fun v148 w148 x148 A148 => ?_)
 replace hE := Ext.tr hE x148
 replace K0 := K0.ext x148
 replace B3 := B3.ext x148
 replace B6 := B6.ext x148
 replace GA := GA.ext x148
 replace B51 := B51.ext x148
 replace GB := GB.ext x148
 replace B100 := B100.ext x148
 replace B101 := B101.ext x148
 replace B102 := B102.ext x148
 replace B103 := B103.ext x148
 replace WM := WM.ext x148
 replace QW := QW.ext x148
 replace B122 := B122.ext x148
 replace B126 := B126.ext x148
 replace B130 := B130.ext x148
 replace B134 := B134.ext x148
 replace B137 := B137.ext x148
 replace B139 := B139.ext x148
 replace B142 := B142.ext x148
 replace B144 := B144.ext x148
 replace B147 := B147.ext x148
 have zw148 := x148.size
 obtain ⟨a148, c148, rfl, hc148, D148⟩ := A148
 rw [S.dec_key0]
 refine RS.nm ?_
 refine RS.move (v := .tuple _) rfl ?_
 refine RS.extract (v := .agg _) rfl rfl ?_
 refine RS.extract (v := .int _ _) rfl rfl ?_
 refine RS.alloc T32 (fun b149 w149 e149 s149 x149 B149 => ?_)
 refine RS.nm ?_
 replace hE := Ext.tr hE x149
 replace K0 := K0.ext x149
 replace B3 := B3.ext x149
 replace B6 := B6.ext x149
 replace GA := GA.ext x149
 replace B51 := B51.ext x149
 replace GB := GB.ext x149
 replace B100 := B100.ext x149
 replace B101 := B101.ext x149
 replace B102 := B102.ext x149
 replace B103 := B103.ext x149
 replace WM := WM.ext x149
 replace QW := QW.ext x149
 replace B122 := B122.ext x149
 replace B126 := B126.ext x149
 replace B130 := B130.ext x149
 replace B134 := B134.ext x149
 replace B137 := B137.ext x149
 replace B139 := B139.ext x149
 replace B142 := B142.ext x149
 replace B144 := B144.ext x149
 replace B147 := B147.ext x149
 have zw149 := x149.size
 refine RS.storeAggB rfl rfl C32 (by decide) rfl rfl B149 rfl (fun w150 y150 N150 => ?_)
 replace hE := hE.trans (y150.belo)
 replace K0 := K0.sto y150
 replace B3 := B3.sto y150
 replace B6 := B6.sto y150
 replace GA := GA.sto y150
 replace B51 := B51.sto y150
 replace GB := GB.sto y150
 replace B100 := B100.sto y150
 replace B101 := B101.sto y150
 replace B102 := B102.sto y150
 replace B103 := B103.sto y150
 replace WM := WM.sto y150
 replace QW := QW.sto y150
 replace B122 := B122.sto y150
 replace B126 := B126.sto y150
 replace B130 := B130.sto y150
 replace B134 := B134.sto y150
 replace B137 := B137.sto y150
 replace B139 := B139.sto y150
 replace B142 := B142.sto y150
 replace B144 := B144.sto y150
 replace B147 := B147.sto y150
 have zw150 := y150.size
 replace B149 := N150
 refine RS.asI rfl ?_
 refine nl hK146 ?_
 refine sq fun K151 hK151 => ?_
 refine RS.call E32 (givenW _) rfl (fun v152 w152 x152 A152 => ?_)
 replace hE := Ext.tr hE x152
 replace K0 := K0.ext x152
 replace B3 := B3.ext x152
 replace B6 := B6.ext x152
 replace GA := GA.ext x152
 replace B51 := B51.ext x152
 replace GB := GB.ext x152
 replace B100 := B100.ext x152
 replace B101 := B101.ext x152
 replace B102 := B102.ext x152
 replace B103 := B103.ext x152
 replace WM := WM.ext x152
 replace QW := QW.ext x152
 replace B122 := B122.ext x152
 replace B126 := B126.ext x152
 replace B130 := B130.ext x152
 replace B134 := B134.ext x152
 replace B137 := B137.ext x152
 replace B139 := B139.ext x152
 replace B142 := B142.ext x152
 replace B144 := B144.ext x152
 replace B147 := B147.ext x152
 replace B149 := B149.ext x152
 have zw152 := x152.size
 subst A152
 refine RS.nm ?_
 refine RS.alloc T32 (fun b153 w153 e153 s153 x153 B153 => ?_)
 refine RS.nm ?_
 replace hE := Ext.tr hE x153
 replace K0 := K0.ext x153
 replace B3 := B3.ext x153
 replace B6 := B6.ext x153
 replace GA := GA.ext x153
 replace B51 := B51.ext x153
 replace GB := GB.ext x153
 replace B100 := B100.ext x153
 replace B101 := B101.ext x153
 replace B102 := B102.ext x153
 replace B103 := B103.ext x153
 replace WM := WM.ext x153
 replace QW := QW.ext x153
 replace B122 := B122.ext x153
 replace B126 := B126.ext x153
 replace B130 := B130.ext x153
 replace B134 := B134.ext x153
 replace B137 := B137.ext x153
 replace B139 := B139.ext x153
 replace B142 := B142.ext x153
 replace B144 := B144.ext x153
 replace B147 := B147.ext x153
 replace B149 := B149.ext x153
 have zw153 := x153.size
 refine RS.storeAggB rfl rfl C32 (by decide) rfl rfl B153 rfl (fun w154 y154 N154 => ?_)
 replace hE := hE.trans (y154.belo)
 replace K0 := K0.sto y154
 replace B3 := B3.sto y154
 replace B6 := B6.sto y154
 replace GA := GA.sto y154
 replace B51 := B51.sto y154
 replace GB := GB.sto y154
 replace B100 := B100.sto y154
 replace B101 := B101.sto y154
 replace B102 := B102.sto y154
 replace B103 := B103.sto y154
 replace WM := WM.sto y154
 replace QW := QW.sto y154
 replace B122 := B122.sto y154
 replace B126 := B126.sto y154
 replace B130 := B130.sto y154
 replace B134 := B134.sto y154
 replace B137 := B137.sto y154
 replace B139 := B139.sto y154
 replace B142 := B142.sto y154
 replace B144 := B144.sto y154
 replace B147 := B147.sto y154
 replace B149 := B149.sto y154
 have zw154 := y154.size
 replace B153 := N154
 refine nl hK151 ?_
 refine sq fun K155 hK155 => ?_
 refine RS.o (D.fieldL 2 rfl Tryd.underlying32 rfl C24 (by decide) rfl) ?_
 refine RS.store rfl (v := .int _ _) rfl C24 rfl B153 rfl (fun w156 y156 N156 => ?_)
 replace hE := hE.trans (y156.belo)
 replace K0 := K0.sto y156
 replace B3 := B3.sto y156
 replace B6 := B6.sto y156
 replace GA := GA.sto y156
 replace B51 := B51.sto y156
 replace GB := GB.sto y156
 replace B100 := B100.sto y156
 replace B101 := B101.sto y156
 replace B102 := B102.sto y156
 replace B103 := B103.sto y156
 replace WM := WM.sto y156
 replace QW := QW.sto y156
 replace B122 := B122.sto y156
 replace B126 := B126.sto y156
 replace B130 := B130.sto y156
 replace B134 := B134.sto y156
 replace B137 := B137.sto y156
 replace B139 := B139.sto y156
 replace B142 := B142.sto y156
 replace B144 := B144.sto y156
 replace B147 := B147.sto y156
 replace B149 := B149.sto y156
 have zw156 := y156.size
 replace B153 := N156
 refine nl hK155 ?_
 refine sq fun K157 hK157 => ?_
 refine RS.o (D.loadAgg rfl Tryd.underlying32 rfl C32 (by decide) rfl (B100.cellsN 11 rfl)) ?_
 refine RS.call E20 (checkO S.manyO S.many_ok _ _ _ WM (by decide)) rfl (fun v158 w158 x158 A158 => ?_)
 replace hE := Ext.tr hE x158
 replace K0 := K0.ext x158
 replace B3 := B3.ext x158
 replace B6 := B6.ext x158
 replace GA := GA.ext x158
 replace B51 := B51.ext x158
 replace GB := GB.ext x158
 replace B100 := B100.ext x158
 replace B101 := B101.ext x158
 replace B102 := B102.ext x158
 replace B103 := B103.ext x158
 replace WM := WM.ext x158
 replace QW := QW.ext x158
 replace B122 := B122.ext x158
 replace B126 := B126.ext x158
 replace B130 := B130.ext x158
 replace B134 := B134.ext x158
 replace B137 := B137.ext x158
 replace B139 := B139.ext x158
 replace B142 := B142.ext x158
 replace B144 := B144.ext x158
 replace B147 := B147.ext x158
 replace B149 := B149.ext x158
 replace B153 := B153.ext x158
 have zw158 := x158.size
 subst A158
 rw [S.many_check]
 refine RS.nm ?_
 refine RS.o (D.eq rfl rfl) ?_
 refine RS.mvB rfl ?_
 refine RS.splite 283 rfl rfl (fun c159 => ?_) (fun c159 => ?_)
 ·refine RS.nm ?_
  refine RS.wt 283 ?_
  refine RS.o (D.loadAgg rfl Tryd.underlying32 rfl C32 (by decide) rfl (B101.cellsN 11 rfl)) ?_
  refine RS.wt 283 ?_
  refine RS.call E20 (checkO S.twiceO S.twice_ok _ _ _ QW (by decide)) rfl (fun v160 w160 x160 A160 => ?_)
  replace hE := Ext.tr hE x160
  replace K0 := K0.ext x160
  replace B3 := B3.ext x160
  replace B6 := B6.ext x160
  replace GA := GA.ext x160
  replace B51 := B51.ext x160
  replace GB := GB.ext x160
  replace B100 := B100.ext x160
  replace B101 := B101.ext x160
  replace B102 := B102.ext x160
  replace B103 := B103.ext x160
  replace WM := WM.ext x160
  replace QW := QW.ext x160
  replace B122 := B122.ext x160
  replace B126 := B126.ext x160
  replace B130 := B130.ext x160
  replace B134 := B134.ext x160
  replace B137 := B137.ext x160
  replace B139 := B139.ext x160
  replace B142 := B142.ext x160
  replace B144 := B144.ext x160
  replace B147 := B147.ext x160
  replace B149 := B149.ext x160
  replace B153 := B153.ext x160
  have zw160 := x160.size
  subst A160
  rw [S.twice_check]
  refine RS.nm ?_
  refine RS.wt 283 ?_
  refine RS.o (D.eq rfl rfl) ?_
  refine RS.pick (v := .bool _) rfl rfl ?_
  refine RS.mvB rfl ?_
  refine RS.splite 288 rfl rfl (fun c161 => ?_) (fun c161 => ?_)
  ·refine RS.nm ?_
   refine RS.wt 288 ?_
   refine RS.o (D.loadAgg rfl Tryd.underlying32 rfl C32 (by decide) rfl (B102.cellsN 11 rfl)) ?_
   refine RS.wt 288 ?_
   refine RS.call E20 (checkO S.lateO S.late_ok _ _ _ (WRow.nil (S := fun _ => False)) (Nat.le_refl _)) rfl (fun v162 w162 x162 A162 => ?_)
   replace hE := Ext.tr hE x162
   replace K0 := K0.ext x162
   replace B3 := B3.ext x162
   replace B6 := B6.ext x162
   replace GA := GA.ext x162
   replace B51 := B51.ext x162
   replace GB := GB.ext x162
   replace B100 := B100.ext x162
   replace B101 := B101.ext x162
   replace B102 := B102.ext x162
   replace B103 := B103.ext x162
   replace WM := WM.ext x162
   replace QW := QW.ext x162
   replace B122 := B122.ext x162
   replace B126 := B126.ext x162
   replace B130 := B130.ext x162
   replace B134 := B134.ext x162
   replace B137 := B137.ext x162
   replace B139 := B139.ext x162
   replace B142 := B142.ext x162
   replace B144 := B144.ext x162
   replace B147 := B147.ext x162
   replace B149 := B149.ext x162
   replace B153 := B153.ext x162
   have zw162 := x162.size
   subst A162
   rw [S.late_check]
   refine RS.nm ?_
   refine RS.wt 288 ?_
   refine RS.o (D.eq rfl rfl) ?_
   refine RS.pick (v := .bool _) rfl rfl ?_
   refine RS.mvB rfl ?_
   refine RS.splite 293 rfl rfl (fun c163 => ?_) (fun c163 => ?_)
   ·refine RS.nm ?_
    refine RS.wt 293 ?_
    refine RS.o (D.loadAgg rfl Tryd.underlying32 rfl C32 (by decide) rfl (B103.cellsN 11 rfl)) ?_
    refine RS.wt 293 ?_
    refine RS.call E20 (checkO S.wideO S.wide_ok _ _ _ (WRow.nil (S := fun _ => False)) (Nat.le_refl _)) rfl (fun v164 w164 x164 A164 => ?_)
    replace hE := Ext.tr hE x164
    replace K0 := K0.ext x164
    replace B3 := B3.ext x164
    replace B6 := B6.ext x164
    replace GA := GA.ext x164
    replace B51 := B51.ext x164
    replace GB := GB.ext x164
    replace B100 := B100.ext x164
    replace B101 := B101.ext x164
    replace B102 := B102.ext x164
    replace B103 := B103.ext x164
    replace WM := WM.ext x164
    replace QW := QW.ext x164
    replace B122 := B122.ext x164
    replace B126 := B126.ext x164
    replace B130 := B130.ext x164
    replace B134 := B134.ext x164
    replace B137 := B137.ext x164
    replace B139 := B139.ext x164
    replace B142 := B142.ext x164
    replace B144 := B144.ext x164
    replace B147 := B147.ext x164
    replace B149 := B149.ext x164
    replace B153 := B153.ext x164
    have zw164 := x164.size
    subst A164
    rw [S.wide_check]
    refine RS.nm ?_
    refine RS.wt 293 ?_
    refine RS.o (D.eq rfl rfl) ?_
    refine RS.pick (v := .bool _) rfl rfl ?_
    refine RS.mvB rfl ?_
    refine RS.splite 298 rfl rfl (fun c165 => ?_) (fun c165 => ?_)
    ·refine RS.nm ?_
     refine RS.wt 298 ?_
     refine RS.o (D.loadAgg rfl Tryd.underlying32 rfl C32 (by decide) rfl (B103.cellsN 11 rfl)) ?_
     refine RS.wt 298 ?_
     refine RS.call E27 (verifyO S.wideO S.wide_ok _ _ _ _ K0 (WRow.nil (S := fun _ => False)) (Nat.le_refl _)) rfl (fun v166 w166 x166 A166 => ?_)
     replace hE := Ext.tr hE x166
     replace K0 := K0.ext x166
     replace B3 := B3.ext x166
     replace B6 := B6.ext x166
     replace GA := GA.ext x166
     replace B51 := B51.ext x166
     replace GB := GB.ext x166
     replace B100 := B100.ext x166
     replace B101 := B101.ext x166
     replace B102 := B102.ext x166
     replace B103 := B103.ext x166
     replace WM := WM.ext x166
     replace QW := QW.ext x166
     replace B122 := B122.ext x166
     replace B126 := B126.ext x166
     replace B130 := B130.ext x166
     replace B134 := B134.ext x166
     replace B137 := B137.ext x166
     replace B139 := B139.ext x166
     replace B142 := B142.ext x166
     replace B144 := B144.ext x166
     replace B147 := B147.ext x166
     replace B149 := B149.ext x166
     replace B153 := B153.ext x166
     have zw166 := x166.size
     subst A166
     rw [S.wide_ver]
     refine RS.nm ?_
     refine RS.wt 298 ?_
     refine RS.o (D.eq rfl rfl) ?_
     refine RS.pick (v := .bool _) rfl rfl ?_
     refine RS.asB rfl ?_
     refine nl hK157 ?_
     refine sq fun K167 hK167 => ?_
     refine RS.mvB rfl ?_
     refine RS.wt 303 ?_
     refine RS.mvB rfl ?_
     refine RS.pick (v := .bool _) rfl rfl ?_
     refine RS.mvB rfl ?_
     refine RS.splite 306 rfl rfl (fun c168 => ?_) (fun c168 => ?_)
     ·refine RS.nm ?_
      refine RS.wt 306 ?_
      refine RS.mvI rfl ?_
      refine RS.wt 306 ?_
      refine RS.o (D.eq rfl rfl) ?_
      refine RS.pick (v := .bool _) rfl rfl ?_
      refine RS.mvB rfl ?_
      refine RS.splite 310 rfl rfl (fun c169 => ?_) (fun c169 => ?_)
      ·refine RS.nm ?_
       refine RS.wt 310 ?_
       refine RS.mvS rfl ?_
       refine RS.wt 310 ?_
       refine RS.o (D.len rfl Tryd.underlying35) ?_
       refine RS.wt 310 ?_
       refine RS.o (D.eq rfl rfl) ?_
       refine RS.pick (v := .bool _) rfl rfl ?_
       refine RS.mvB rfl ?_
       refine RS.splite 315 rfl rfl (fun c170 => ?_) (fun c170 => ?_)
       ·refine RS.nm ?_
        refine RS.wt 315 ?_
        refine RS.mvI rfl ?_
        refine RS.wt 315 ?_
        refine RS.o (D.eq rfl rfl) ?_
        refine RS.pick (v := .bool _) rfl rfl ?_
        refine RS.mvB rfl ?_
        refine RS.splite 319 rfl rfl (fun c171 => ?_) (fun c171 => ?_)
        ·refine RS.nm ?_
         refine RS.wt 319 ?_
         refine RS.mvI rfl ?_
         refine RS.wt 319 ?_
         refine RS.o (D.eq rfl rfl) ?_
         refine RS.pick (v := .bool _) rfl rfl ?_
         refine RS.mvB rfl ?_
         refine RS.splite 323 rfl rfl (fun c172 => ?_) (fun c172 => ?_)
         ·refine RS.nm ?_
          refine RS.wt 323 ?_
          refine RS.mvI rfl ?_
          refine RS.wt 323 ?_
          refine RS.o (D.eq rfl rfl) ?_
          refine RS.pick (v := .bool _) rfl rfl ?_
          refine RS.mvB rfl ?_
          refine RS.splite 327 rfl rfl (fun c173 => ?_) (fun c173 => ?_)
          ·refine RS.nm ?_
           refine RS.wt 327 ?_
           refine RS.mvI rfl ?_
           refine RS.wt 327 ?_
           refine RS.o (D.eq rfl rfl) ?_
           refine RS.pick (v := .bool _) rfl rfl ?_
           refine RS.mvB rfl ?_
           refine RS.splite 331 rfl rfl (fun c174 => ?_) (fun c174 => ?_)
           ·refine RS.nm ?_
            refine RS.wt 331 ?_
            refine RS.mvI rfl ?_
            refine RS.wt 331 ?_
            refine RS.o (D.eq rfl rfl) ?_
            refine RS.pick (v := .bool _) rfl rfl ?_
            refine RS.mvB rfl ?_
            refine RS.splite 335 rfl rfl (fun c175 => ?_) (fun c175 => ?_)
            ·refine RS.nm ?_
             refine RS.wt 335 ?_
             refine RS.mvI rfl ?_
             refine RS.wt 335 ?_
             refine RS.o (D.eq rfl rfl) ?_
             refine RS.pick (v := .bool _) rfl rfl ?_
             refine RS.mvB rfl ?_
             refine RS.splite 339 rfl rfl (fun c176 => ?_) (fun c176 => ?_)
             ·refine RS.nm ?_
              refine RS.wt 339 ?_
              refine RS.mvI rfl ?_
              refine RS.wt 339 ?_
              refine RS.o (D.eq rfl rfl) ?_
              refine RS.pick (v := .bool _) rfl rfl ?_
              refine RS.mvB rfl ?_
              refine RS.splite 343 rfl rfl (fun c177 => ?_) (fun c177 => ?_)
              ·refine RS.nm ?_
               refine RS.wt 343 ?_
               refine RS.o (D.loadAgg rfl Tryd.underlying32 rfl C32 (by decide) rfl (B153.cellsN 11 rfl)) ?_
               refine RS.wt 343 ?_
               refine RS.call E20 (checkO S.changedO S.changed_ok _ _ _ (WRow.nil (S := fun _ => False)) (Nat.le_refl _)) rfl (fun v178 w178 x178 A178 => ?_)
               replace hE := Ext.tr hE x178
               replace K0 := K0.ext x178
               replace B3 := B3.ext x178
               replace B6 := B6.ext x178
               replace GA := GA.ext x178
               replace B51 := B51.ext x178
               replace GB := GB.ext x178
               replace B100 := B100.ext x178
               replace B101 := B101.ext x178
               replace B102 := B102.ext x178
               replace B103 := B103.ext x178
               replace WM := WM.ext x178
               replace QW := QW.ext x178
               replace B122 := B122.ext x178
               replace B126 := B126.ext x178
               replace B130 := B130.ext x178
               replace B134 := B134.ext x178
               replace B137 := B137.ext x178
               replace B139 := B139.ext x178
               replace B142 := B142.ext x178
               replace B144 := B144.ext x178
               replace B147 := B147.ext x178
               replace B149 := B149.ext x178
               replace B153 := B153.ext x178
               have zw178 := x178.size
               subst A178
               rw [S.changed_check]
               refine RS.nm ?_
               refine RS.wt 343 ?_
               refine RS.o (D.eq rfl rfl) ?_
               refine RS.pick (v := .bool _) rfl rfl ?_
               refine RS.mvB rfl ?_
               refine RS.splite 348 rfl rfl (fun c179 => ?_) (fun c179 => ?_)
               ·refine RS.nm ?_
                refine RS.wt 348 ?_
                refine RS.call E24 (aliveW _ _ K0) rfl (fun v180 w180 x180 A180 => ?_)
                replace hE := Ext.tr hE x180
                replace K0 := K0.ext x180
                replace B3 := B3.ext x180
                replace B6 := B6.ext x180
                replace GA := GA.ext x180
                replace B51 := B51.ext x180
                replace GB := GB.ext x180
                replace B100 := B100.ext x180
                replace B101 := B101.ext x180
                replace B102 := B102.ext x180
                replace B103 := B103.ext x180
                replace WM := WM.ext x180
                replace QW := QW.ext x180
                replace B122 := B122.ext x180
                replace B126 := B126.ext x180
                replace B130 := B130.ext x180
                replace B134 := B134.ext x180
                replace B137 := B137.ext x180
                replace B139 := B139.ext x180
                replace B142 := B142.ext x180
                replace B144 := B144.ext x180
                replace B147 := B147.ext x180
                replace B149 := B149.ext x180
                replace B153 := B153.ext x180
                have zw180 := x180.size
                subst A180
                refine RS.nm ?_
                refine RS.pick (v := .bool _) rfl rfl ?_
                refine RS.asB rfl ?_
                refine nl hK167 ?_
                refine wp_ret ?_
                refine retB rfl rfl ?_
                exact ⟨_, rfl, hE, rfl⟩
               refine RS.nm ?_
               exact absurd rfl c179
              refine RS.nm ?_
              exact absurd rfl c177
             refine RS.nm ?_
             exact absurd rfl c176
            refine RS.nm ?_
            exact absurd rfl c175
           refine RS.nm ?_
           exact absurd rfl c174
          refine RS.nm ?_
          exact absurd rfl c173
         refine RS.nm ?_
         exact absurd rfl c172
        refine RS.nm ?_
        exact absurd rfl c171
       refine RS.nm ?_
       exact absurd (by omega) c170
      refine RS.nm ?_
      exact absurd rfl c169
     refine RS.nm ?_
     exact absurd c168 (by decide)
    refine RS.nm ?_
    exact absurd rfl c165
   refine RS.nm ?_
   exact absurd rfl c163
  refine RS.nm ?_
  exact absurd rfl c161
 refine RS.nm ?_
 exact absurd rfl c159
end Go.Proofs.YtiohpiiiapjblaaDoor.W
namespace Go.Proofs.YtiohpiiiapjblaaDoor.L
open Go Go.Proofs.YtiohpiiiapjblaaDoor Go.Proofs.YtiohpiiiapjblaaDoor.G Go.Proofs.YtiohpiiiapjblaaDoor.W
open Go.ChangeShapes Go.WideShapes Go.ChangeAt Go.RowKit
set_option linter.unusedVariables false
set_option maxRecDepth 100000
theorem opNames_door (os : Os) (args : Array Value) : laidMetH Tryd.prog [("braid/digest.constants", Rows.laid_braid_digest_constants)] ((World.doorLaid Tryd.prog 400 os).forCall (fun _ _ => 0) ⟨#[], args, []⟩).memory :=
  laidMetH_of_parts3 (fuel := 8) (laidMet_of_run' 8 (by kernel_rfl) (by kernel_rfl)) (by kernel_rfl) (by kernel_rfl)
theorem opNames_lifted (os : Os) (started : os.Started) (H : Type) (enc : TypeId × Value → H) :
    ReturnsInHanded {} Tryd.checked os 6 .any (fun w args => (Rows.opNamesSpec.pre enc Tryd.prog Tryd.f6 [] false w args ∧ laidMetH Tryd.prog [("braid/digest.constants", Rows.laid_braid_digest_constants)] w) ∧ sizedMet enc Tryd.prog Tryd.f6 (OpenSpec.ofChange Rows.opNamesSpec) false w args)
      (Rows.opNamesSpec.post enc Tryd.prog Tryd.f6 false true false false) := by
  refine returnsInHanded_of_change_and (C := Tryd.checked) (X := fun w _ => laidMetH Tryd.prog [("braid/digest.constants", Rows.laid_braid_digest_constants)] w) (fun _ _ _ hh h => h.of_heap hh) own started (by kernel_rfl) Tryd.func6
    (ChangeSpec.witness_shaped (enc := enc) (C := Tryd.checked) (os := os) (X := fun w _ => laidMetH Tryd.prog [("braid/digest.constants", Rows.laid_braid_digest_constants)] w) false (World.doorLaid Tryd.prog 400 os) #[] 8 rfl (World.shaped_of_RefB (by kernel_rfl) (by kernel_rfl)) (by kernel_rfl) (by kernel_rfl) (by kernel_rfl) (opNames_door os _)) ?_
  intro W base args ds gs before hval0 hW _ _ hL _
  have hval : ∀ (j : Nat) t v, Tryd.f6.params[j]? = some t → args[j]? = some v → Value.okWide Tryd.prog W .any base t v := hval0
  have hW' := hW
  obtain ⟨p, q, hA0, hV, rfl, hfz, hnd⟩ := hW
  have hA : DataW.TrodAll enc Tryd.prog W 0 (fun _ => true) true Tryd.f6.params.toList args.toList ds p := hA0
  rw [Tryd.params6] at hA hval
  obtain ⟨hargs, rfl, rfl⟩ := trodAll_nil hA
  obtain rfl : args = #[] := by cases args; simp_all
  obtain ⟨rfl, rfl⟩ := trodVars_none hV
  have K0 := of_laid hL
  clear hA0 hval0
  have hwalk := opNames 0 W K0
  refine hwalk.mono fun e W' hret => ?_
  obtain ⟨v, rfl, bel, rfl⟩ := hret
  exact ⟨_, rfl, _, _, _, [], _, [], hW', trodAll_mk1 (shut_bool Tryd.underlying4 _), trodAll_mk0, rfl, bel.frame _, fun h => by cases h⟩
theorem opNames_holds : Rows.OpNamesSaid :=
  OpenClaim.holds_of_wide 6 Tryd.f6 rfl rfl rfl rfl rfl rfl rfl ⟨rfl, rfl, rfl, rfl, rfl⟩ rfl rfl rfl rfl rfl (by kernel_rfl) Tryd.func6 (by kernel_rfl)
    (of_decide_eq_true (by kernel_rfl)) (by unfold Func.isWrapper; first | (rw [if_pos (by decide +kernel)]; kernel_rfl) | (rw [if_neg (by decide +kernel)]; exact ⟨rfl, rfl⟩))
    (fun os started H enc _ => opNames_lifted os started H enc)
theorem opNames_card : Rows.OpNamesCardSaid :=
  Claim7.holds_tied_plain_at .later [] [.data] true (true, "104f35b6784b2ea38b5d6679d4fffd1631d93a9a6896487cdb425c06aa7787e8") false
    opNames_holds (fun _ h => by cases h) (by kernel_rfl) (fun _ h => by cases h) opNames_row_tie rfl ⟨rfl, rfl⟩ (by kernel_rfl) rfl
    (fun f fn hf hfn => by
      obtain rfl : f = 6 := Option.some.inj ((show Tryd.prog.funcNamed "braid/braidlaw06.OpNames" = some 6 by kernel_rfl).symm.trans hf) |>.symm
      obtain rfl : fn = Tryd.f6 := (Option.some.inj (Tryd.func6.symm.trans hfn)).symm
      exact ⟨by kernel_rfl, fun j t ht => by
        rw [Tryd.params6] at ht
        simp at ht⟩)
    (by kernel_rfl)
end Go.Proofs.YtiohpiiiapjblaaDoor.L
