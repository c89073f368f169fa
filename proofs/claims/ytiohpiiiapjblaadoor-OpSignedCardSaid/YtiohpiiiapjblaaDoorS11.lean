/-
  S11: signatures; no program in sight.
-/
import Derived.Test.YtiohpiiiapjblaaDoorS9
namespace Go.Proofs.YtiohpiiiapjblaaDoor.S
open G
/-- A number in four bytes. -/
def by4 (n : Int) : List Int := [n / 2 ^ (24 : Int).toNat % 256, n / 2 ^ (16 : Int).toNat % 256, n / 2 ^ (8 : Int).toNat % 256, n % 256]
def headS (kind : Int) (l : List Int) : List Int := kind :: l.flatMap by4
theorem by4_len (n : Int) : (by4 n).length = 4 := rfl
theorem head_snoc (kind : Int) (l : List Int) (i : Nat) (h : i < l.length) : headS kind (l.take (i + 1)) = headS kind (l.take i) ++ by4 (l.getD i 0) := by
  unfold headS
  rw [take_snoc l i h, List.flatMap_append, List.cons_append]
  simp
theorem head_len (kind : Int) : ∀ l : List Int, (headS kind l).length = 1 + 4 * l.length
  | [] => rfl
  | x :: l => by
    have := head_len kind l
    simp only [headS, List.length_cons, List.flatMap_cons, List.length_append, by4_len] at *
    omega
def hashS (kind : Int) (l m : List Int) : Int := be ((sha (headS kind l ++ m)).take 8)
theorem be_step (xs : List Int) (i : Nat) (hB : Bd .u8 xs) (hi : i < 8) (hl : 8 ≤ xs.length) : ior (be (xs.take i) * 2 ^ (8 : Int).toNat % 18446744073709551616) (xs.getD i 0) = be (xs.take (i + 1)) := by
  have hb := be_bd _ (hB.take i)
  have hx := hB.get i
  simp only [lim] at hx
  have hp : (256 : Int) ^ (xs.take i).length ≤ 256 ^ 7 := pow256 (by simp; omega)
  have h256 : (256 : Int) ^ 7 = 72057594037927936 := by decide
  have h8 : (2 : Int) ^ (8 : Int).toNat = 256 := by decide
  rw [take_snoc xs i (by omega), be_snoc, h8, Int.emod_eq_of_lt (by omega) (by omega)]
  exact ior_add _ _ hb.1 hx
theorem be8_lt (xs : List Int) (i : Nat) (hB : Bd .u8 xs) (hi : i ≤ 8) : 0 ≤ be (xs.take i) ∧ be (xs.take i) < 18446744073709551616 := by
  have hb := be_bd _ (hB.take i)
  have hp : (256 : Int) ^ (xs.take i).length ≤ 256 ^ 8 := pow256 (by simp; omega)
  have h256 : (256 : Int) ^ 8 = 18446744073709551616 := by decide
  omega
theorem hash_bd (kind : Int) (l m : List Int) : 0 ≤ hashS kind l m ∧ hashS kind l m < 18446744073709551616 := be8_lt _ 8 (sha_arr _).2 (Nat.le_refl _)
def nonceS (x : Int) (m : List Int) : Int := hashS 110 [x] m % 500000002 + 1
def chalS (r y : Int) (m : List Int) : Int := hashS 99 [r, y] m % 500000003
theorem nonce_bd (x : Int) (m : List Int) : 1 ≤ nonceS x m ∧ nonceS x m < 500000003 := by unfold nonceS; omega
theorem chal_bd (r y : Int) (m : List Int) : 0 ≤ chalS r y m ∧ chalS r y m < 500000003 := by unfold chalS; omega
/-- The public key of a secret. -/
def pubS (x : Int) : Int := pw 4 x 1000000007
def sigE (x : Int) (m : List Int) : Int := chalS (pubS (nonceS x m)) (pubS x) m
def sigS (x : Int) (m : List Int) : Int := (nonceS x m + sigE x m * x % 500000003) % 500000003
def secE (x : Int) : Int := if 0 < x ∧ x < 500000003 then 0 else 2
def verS (y : Int) (m : List Int) (e s : Int) : Int :=
  if isG y = false then 2 else if 9991 < m.length then 4 else if ¬ (e < 500000003 ∧ s < 500000003) then 22
  else if chalS (pubS s * pw y (500000003 - e) 1000000007 % 1000000007) y m = e then 0 else 22

/-- A fast power. -/
def fpw : Nat → Int → Int → Int → Int → Int
  | 0, _, _, r, m => r % m
  | f + 1, a, n, r, m => if n % 2 = 1 then fpw f (a * a % m) (n / 2) (r * a % m) m else fpw f (a * a % m) (n / 2) r m
theorem fpw_eq : ∀ (f : Nat) (a n r m : Int), 0 ≤ n → n < 2 ^ f → fpw f a n r m = r * a ^ n.toNat % m
  | 0, a, n, r, m, h0, h => by
    obtain rfl : n = 0 := by simp at h; omega
    simp [fpw]
  | f + 1, a, n, r, m, h0, h => by
    have h2 : n / 2 < 2 ^ f := by rw [Int.pow_succ] at h; omega
    rw [fpw]
    split
    · rename_i ho
      rw [fpw_eq f _ _ _ _ (by omega) h2, power_odd a r m n h0 ho]
    · rename_i ho
      rw [fpw_eq f _ _ _ _ (by omega) h2, power_even a r m n h0 ho]
theorem pw_fast (a n m : Int) (h0 : 0 ≤ n) (h : n < 1073741824) : pw a n m = fpw 30 a n 1 m := by
  rw [fpw_eq 30 a n 1 m h0 h, pw, Int.one_mul]
theorem pw_pw (a x n m : Int) (hx : 0 ≤ x) (hn : 0 ≤ n) : pw (pw a x m) n m = pw a (x * n) m := by
  unfold pw
  rw [mod_pow, ← Int.pow_mul, Int.toNat_mul hx hn]
theorem pw_add (a x n m : Int) (hx : 0 ≤ x) (hn : 0 ≤ n) : pw a x m * pw a n m % m = pw a (x + n) m := by
  unfold pw
  rw [← Int.mul_emod, ← Int.pow_add, Int.toNat_add hx hn]
theorem pw_zero (a m : Int) (hm : 1 < m) : pw a 0 m = 1 := by
  unfold pw
  rw [show (0 : Int).toNat = 0 from rfl, Int.pow_zero]
  exact Int.emod_eq_of_lt (by omega) hm
theorem pw_cyc (a q t m : Int) (hm : 1 < m) (hq : 0 ≤ q) (ht : 0 ≤ t) (h : pw a q m = 1) : pw a (q * t) m = 1 := by
  rw [← pw_pw a q t m hq ht, h, pw, Int.one_pow]
  exact Int.emod_eq_of_lt (by omega) hm
theorem pw_mod (a q n m : Int) (hm : 1 < m) (hq : 0 < q) (hn : 0 ≤ n) (h : pw a q m = 1) : pw a n m = pw a (n % q) m := by
  have h1 := Int.emod_nonneg n (show q ≠ 0 by omega)
  have h2 : 0 ≤ n / q := Int.ediv_nonneg hn (by omega)
  have h3 := pw_nonneg a (n % q) m (by omega)
  have h4 := pw_lt a (n % q) m (by omega)
  have e : n = q * (n / q) + n % q := (Int.mul_ediv_add_emod n q).symm
  conv => lhs; rw [e]
  rw [← pw_add a _ _ m (Int.mul_nonneg (by omega) h2) h1, pw_cyc a q _ m hm (by omega) h2 h, Int.one_mul]
  exact Int.emod_eq_of_lt h3 h4
theorem gen_one : pw 4 500000003 1000000007 = 1 := by
  rw [pw_fast _ _ _ (by decide) (by decide)]
  decide +kernel
theorem isG_of (a q : Int) (hq : q = 500000003) (h0 : 0 ≤ a) (h1 : a < 1000000007) (h : pw a q 1000000007 = 1) : isG a = true := by
  have h2 : 0 < a := by
    rcases Int.lt_or_eq_of_le h0 with h2 | h2
    · exact h2
    · rw [← h2] at h
      unfold pw at h
      rw [Int.zero_pow (by omega)] at h
      simp at h
  rw [isG_true h2 h1, ← hq, h]
  rfl
theorem isG_one {a : Int} (h : isG a = true) : pw a 500000003 1000000007 = 1 := by
  have hb := isG_bd h
  rw [isG_true hb.1 hb.2] at h
  exact eq_of_beq h
theorem isG_pw (a n q : Int) (hq : q = 500000003) (h1 : pw a q 1000000007 = 1) (hn : 0 ≤ n) : isG (pw a n 1000000007) = true := by
  refine isG_of _ q hq (pw_nonneg _ _ _ (by decide)) (pw_lt _ _ _ (by decide)) ?_
  rw [pw_pw a n q _ hn (by omega), Int.mul_comm, pw_cyc a q n _ (by decide) (by omega) hn h1]
theorem isG_pub (n : Int) (hn : 0 ≤ n) : isG (pubS n) = true := isG_pw 4 n _ rfl gen_one hn
theorem isG_back {a : Int} (n : Int) (h : isG a = true) (hn : 0 ≤ n) : isG (pw a n 1000000007) = true := isG_pw a n _ rfl (isG_one h) hn
theorem ver_go (k x e q : Int) (hq : 0 < q) (h1 : pw 4 q 1000000007 = 1) (hk : 0 ≤ k ∧ k < q) (hx : 0 ≤ x) (he : 0 ≤ e ∧ e ≤ q) :
    pubS ((k + e * x % q) % q) * pw (pubS x) (q - e) 1000000007 % 1000000007 = pubS k := by
  unfold pubS
  have hm := Int.emod_nonneg (k + e * x % q) (show q ≠ 0 by omega)
  have hxe : 0 ≤ x * (q - e) := Int.mul_nonneg hx (by omega)
  rw [pw_pw 4 x _ _ hx (by omega), pw_add 4 _ _ _ hm hxe, pw_mod 4 q _ _ (by decide) hq (by omega) h1, pw_mod 4 q k _ (by decide) hq hk.1 h1]
  congr 1
  have e1 : (k + e * x % q) % q = (k + e * x) % q := by rw [Int.add_emod, Int.emod_emod_of_dvd _ (Int.dvd_refl q), ← Int.add_emod]
  have e2 : k + e * x + x * (q - e) = k + x * q := by rw [Int.mul_sub, Int.mul_comm e x]; omega
  rw [e1, Int.emod_add_emod, e2, Int.add_mul_emod_self_right]
theorem ver_sig (x : Int) (m : List Int) (hx : 0 < x ∧ x < 500000003) (hm : m.length ≤ 9991) : verS (pubS x) m (sigE x m) (sigS x m) = 0 := by
  have h1 : sigE x m < 500000003 ∧ sigS x m < 500000003 := ⟨(chal_bd _ _ _).2, by unfold sigS; omega⟩
  unfold verS
  rw [if_neg (by rw [isG_pub x (by omega)]; simp), if_neg (by omega), if_neg (fun h => h h1), if_pos]
  have hk := nonce_bd x m
  have he := chal_bd (pubS (nonceS x m)) (pubS x) m
  have := ver_go (nonceS x m) x (sigE x m) _ (by decide) gen_one (by omega) (by omega) ⟨he.1, Int.le_of_lt he.2⟩
  unfold sigS
  rw [this]
  rfl
theorem sig_bd (x : Int) (m : List Int) : (0 ≤ sigE x m ∧ sigE x m < 500000003) ∧ 0 ≤ sigS x m ∧ sigS x m < 500000003 := ⟨chal_bd _ _ _, by unfold sigS; omega⟩

def OpV.zero : OpV := ⟨0, 0, 0, 0, 0, 0, 0, 0, 0, [], .empty, .empty⟩
theorem OpV.zero_ok : OpV.zero.ok := ⟨by decide, by decide, by decide, by decide, by decide, by decide, by decide, by decide, by decide, by decide, by decide⟩
/-- An operation with another author. -/
def OpV.wit (o : OpV) (x : Int) : OpV := { o with au := pubS x }
def signE (x : Int) (o : OpV) : Int := if secE x = 0 then checkE (o.wit x).bare else 2
def signS (x : Int) (o : OpV) : OpV := if signE x o = 0 then { o.wit x with e := sigE x (msgS (o.wit x)), s := sigS x (msgS (o.wit x)) } else OpV.zero
def verE (o : OpV) : Int := if checkE o = 0 then verS o.au (msgS o) o.e o.s else checkE o
theorem pub_bd (x : Int) : 0 ≤ pubS x ∧ pubS x < 1000000007 := ⟨pw_nonneg _ _ _ (by decide), pw_lt _ _ _ (by decide)⟩
theorem OpV.wit_ok {o : OpV} (x : Int) (h : o.ok) : (o.wit x).ok := ⟨by have := pub_bd x; show 0 ≤ pubS x ∧ pubS x < 4294967296; omega, h.st, h.k, h.vk, h.num, h.bits, h.e, h.s, h.n, h.key, h.t⟩
theorem secE_zero {x : Int} : secE x = 0 ↔ 0 < x ∧ x < 500000003 := by unfold secE; split <;> simp_all
theorem signE_zero {x : Int} {o : OpV} : signE x o = 0 ↔ (0 < x ∧ x < 500000003) ∧ checkE (o.wit x).bare = 0 := by
  unfold signE
  rw [← secE_zero]
  split <;> simp_all
theorem msg_bare (o : OpV) : msgS o.bare = msgS o := rfl
theorem sign_good {x : Int} {o : OpV} (ho : o.ok) (hl : o.ids.length = 32 * o.n) (h : signE x o = 0) : (signS x o).au = pubS x ∧ (signS x o).st = o.st ∧ checkE (signS x o) = 0 ∧ checkE (signS x o).bare = 0 ∧ msgS (signS x o) = msgS (o.wit x) ∧ verS (pubS x) (msgS (o.wit x)) (signS x o).e (signS x o).s = 0 ∧ verE (signS x o) = 0 := by
  have e : signS x o = { o.wit x with e := sigE x (msgS (o.wit x)), s := sigS x (msgS (o.wit x)) } := by unfold signS; rw [if_pos h]
  obtain ⟨hx, hc⟩ := signE_zero.1 h
  have hb := sig_bd x (msgS (o.wit x))
  obtain ⟨c1, c2, c3⟩ := check_zero.1 hc
  have hz : checkE (signS x o) = 0 := by
    rw [e]
    exact check_zero.2 ⟨c1, c2, c3.1, c3.2.1, hb.1.2, hb.2.2, c3.2.2.2.2⟩
  have hz2 : checkE (signS x o).bare = 0 := by rw [e]; exact hc
  have hv : verS (pubS x) (msgS (o.wit x)) (sigE x (msgS (o.wit x))) (sigS x (msgS (o.wit x))) = 0 := ver_sig x _ hx (by have := msg_len (o.wit x) (OpV.wit_ok x ho) c1 hl; omega)
  have hm : msgS (signS x o) = msgS (o.wit x) := by rw [e]; rfl
  refine ⟨by rw [e]; rfl, by rw [e]; rfl, hz, hz2, hm, ?_, ?_⟩
  · rw [e]; exact hv
  · unfold verE
    rw [if_pos hz, hm, e]
    exact hv
theorem pub_eq (x : Int) : pw 4 x 1000000007 = pubS x := rfl
theorem nonce_eq (x : Int) (m : List Int) : hashS 110 [x] m % 500000002 + 1 = nonceS x m := rfl
theorem chal_eq (r y : Int) (m : List Int) : hashS 99 [r, y] m % 500000003 = chalS r y m := rfl
theorem hash_eq (kind : Int) (l m : List Int) : be ((sha (headS kind l ++ m)).take 8) = hashS kind l m := rfl
theorem sigE_eq (x : Int) (m : List Int) : chalS (pubS (nonceS x m)) (pubS x) m = sigE x m := rfl
theorem sigS_eq (x : Int) (m : List Int) : (nonceS x m + sigE x m * x % 500000003) % 500000003 = sigS x m := rfl
theorem secE_two {x : Int} (h : ¬ secE x = 0) : secE x = 2 := by
  unfold secE at *
  split <;> simp_all
theorem signS_eq {x : Int} {o : OpV} (h : signE x o = 0) : signS x o = { o.wit x with e := sigE x (msgS (o.wit x)), s := sigS x (msgS (o.wit x)) } := by unfold signS; rw [if_pos h]
theorem check_bare {o : OpV} (h : checkE o = 0) : checkE o.bare = 0 := by
  obtain ⟨q1, q2, q3⟩ := check_zero.1 h
  exact check_zero.2 ⟨q1, q2, q3.1, q3.2.1, (by show (0 : Int) < 500000003; decide), (by show (0 : Int) < 500000003; decide), q3.2.2.2.2⟩
theorem signS_ok (x : Int) (o : OpV) (ho : o.ok) : (signS x o).ok := by
  unfold signS
  split
  · have h := OpV.wit_ok x ho
    have hb := sig_bd x (msgS (o.wit x))
    refine ⟨h.au, h.st, h.k, h.vk, h.num, h.bits, ?_, ?_, h.n, h.key, h.t⟩
    · show 0 ≤ sigE x _ ∧ sigE x _ < 4294967296; omega
    · show 0 ≤ sigS x _ ∧ sigS x _ < 4294967296; omega
  · exact OpV.zero_ok
def Fit (o : OpV) : Prop := ¬ (20 < o.n ∨ 100 < o.key.size ∨ 100 < o.t.size) ∧ checkE o = 0
instance (o : OpV) : Decidable (Fit o) := by unfold Fit; infer_instance
theorem sign_act {x : Int} {o : OpV} (h : signE x o = 0) : (signS x o).k = o.k ∧ (signS x o).key = o.key ∧ (signS x o).vk = o.vk ∧ (signS x o).num = o.num ∧ (signS x o).bits = o.bits ∧ (signS x o).t = o.t := by
  rw [signS_eq h]
  exact ⟨rfl, rfl, rfl, rfl, rfl, rfl⟩
theorem check_val (o : OpV) : checkE o = 0 ∨ checkE o = 4 ∨ checkE o = 32 ∨ checkE o = 8 := by
  unfold checkE
  repeat' split
  all_goals simp
theorem sign_err {x : Int} {o : OpV} (h : ¬ signE x o = 0) (hs : secE x = 0) : signE x o = 4 ∨ signE x o = 32 ∨ signE x o = 8 := by
  have e : signE x o = checkE (o.wit x).bare := by unfold signE; rw [if_pos hs]
  rw [e] at h ⊢
  rcases check_val (o.wit x).bare with h1 | h1
  · exact absurd h1 h
  · exact h1
theorem ver_not {o : OpV} (h : ¬ Fit o) (hG : ¬ (20 < o.n ∨ 100 < o.key.size ∨ 100 < o.t.size)) : verE o ≠ 0 ∧ verE o ≠ 22 := by
  have hc : ¬ checkE o = 0 := fun hc => h ⟨hG, hc⟩
  have e : verE o = checkE o := by unfold verE; rw [if_neg hc]
  rw [e]
  rcases check_val o with h1 | h1 | h1 | h1 <;> rw [h1] at hc ⊢ <;> simp_all
theorem ver_fit {o : OpV} (h : Fit o) : verE o = verS o.au (msgS o) o.e o.s := by unfold verE; rw [if_pos h.2]
/-- The operation of the examples. -/
def givenO : OpV := ⟨4, 7, 2, 0, 0, 0, 5, 6, 0, [], ⟨#[97]⟩, .empty⟩
def wrongO : OpV := { givenO with au := 5 }
theorem given_ok : givenO.ok := ⟨by decide, by decide, by decide, by decide, by decide, by decide, by decide, by decide, by decide, by decide, by decide⟩
theorem wrong_ok : wrongO.ok := ⟨by decide, by decide, by decide, by decide, by decide, by decide, by decide, by decide, by decide, by decide, by decide⟩
theorem isG_four : isG 4 = true := isG_of 4 _ rfl (by decide) (by decide) gen_one
theorem isG_five : isG 5 = false := by
  rw [isG_true (by decide) (by decide), pw_fast _ _ _ (by decide) (by decide)]
  decide +kernel
theorem pub_two : pubS 2 = 16 := by
  unfold pubS
  rw [pw_fast _ _ _ (by decide) (by decide)]
  decide +kernel
theorem rising_nil : Rising 0 [] := fun j hj => by omega
theorem act_a : FineAct 2 ⟨#[97]⟩ 0 0 0 .empty := .inr (.inl ⟨.inl rfl, by decide +kernel, rfl, rfl, rfl, rfl⟩)
theorem given_check : checkE givenO = 0 := check_zero.2 ⟨by decide, rising_nil, isG_four, by decide, by decide, by decide, act_a⟩
theorem given_bare : checkE givenO.bare = 0 := check_bare given_check
theorem wrong_check : checkE wrongO = 8 := (check8 (by decide) rising_nil (fun h => by have := h.1; rw [show wrongO.au = 5 from rfl, isG_five] at this; cases this)).symm
theorem given_sign : signE 2 givenO = 0 := signE_zero.2 ⟨by decide, check_zero.2 ⟨by decide, rising_nil, isG_pub 2 (by decide), by decide, by decide, by decide, act_a⟩⟩
theorem given_msg : msgS givenO = [111, 4, 0, 7, 2, 1, 97] := by decide +kernel
theorem given_enc : encS givenO = [111, 4, 0, 7, 2, 1, 97, 5, 6] := by decide +kernel
def hashE (m : List Int) : Int := if 9991 < m.length then 4 else 0
def nonceE (x : Int) (m : List Int) : Int := if secE x = 0 then hashE m else 2
theorem nonceE_zero {x : Int} {m : List Int} : nonceE x m = 0 ↔ secE x = 0 ∧ hashE m = 0 := by
  unfold nonceE
  split <;> simp_all
attribute [irreducible] hashS nonceS chalS pubS sigE sigS
end Go.Proofs.YtiohpiiiapjblaaDoor.S
