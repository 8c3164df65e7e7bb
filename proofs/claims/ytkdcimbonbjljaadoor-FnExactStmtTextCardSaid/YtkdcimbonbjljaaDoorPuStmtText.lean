/- Theory for the proofs of this claim: see its last text. -/
import Derived.Test.YtkdcimbonbjljaaDoorFnStmtText
import Derived.Test.YtkdcimbonbjljaaDoorDenF
namespace Go.Den.G
open Go.Den

/-! ### signs -/
/-- A number's lowest bits, as a number with a sign; `m`: the sign's place. -/
def sx (m : Nat) (v : Int) : Int := if (v % 2 ^ 64 / 2 ^ m) % 2 = 1 then v % 2 ^ (m + 1) - 2 ^ (m + 1) else v % 2 ^ (m + 1)

theorem wrapU_id {n : Int} (h0 : 0 ≤ n) (h1 : n < 2 ^ 64) : IntKind.wrap .u64 n = n := by
  simp only [IntKind.wrap, IntKind.bits, IntKind.signed, Bool.false_and, Bool.false_eq_true, if_false]
  exact Int.emod_eq_of_lt h0 h1
theorem wrapU_eq (n : Int) : IntKind.wrap .u64 n = n % 2 ^ 64 := by
  simp [IntKind.wrap, IntKind.bits, IntKind.signed]
theorem l01Bit_eq (v i : Int) (h0 : 0 ≤ i) (h1 : i ≤ 63) : S_spec_l01Bit ((v, (i, ())), ()) = some (v % 2 ^ 64 / 2 ^ i.toNat % 2, ()) := by
  unfold S_spec_l01Bit
  dsimp only
  have hw : wrapI IntKind.u64 i = i := wrapU_id h0 (by omega)
  rw [hw, br_pos (le_t h0)]
  have hi : min i.toNat 64 = i.toNat := by omega
  have e : remI (ishr IntKind.u64 (wrapI IntKind.u64 v) i) 2 = v % 2 ^ 64 / 2 ^ i.toNat % 2 := by
    unfold remI ishr wrapI
    rw [wrapU_eq]
    show Int.tmod (Int.fdiv (v % 2 ^ 64) (2 ^ (min i.toNat 64))) 2 = _
    rw [hi]
    have hp : (0 : Int) < 2 ^ i.toNat := Int.pow_pos (by decide)
    rw [Int.fdiv_eq_ediv_of_nonneg _ (Int.le_of_lt hp), Int.tmod_eq_emod_of_nonneg (Int.ediv_nonneg (Int.emod_nonneg _ (by decide)) (Int.le_of_lt hp))]
  rw [e]
  rcases Int.emod_two_eq (v % 2 ^ 64 / 2 ^ i.toNat) with h | h
  · rw [h, br_neg (eq_f (by decide))]
  · rw [h, br_pos (eq_t rfl)]
/-- The number with its sign spread over all bits. -/
def spread (m u : Nat) : Nat := 2 ^ (m + 1) * ((u / 2 ^ m % 2) * (2 ^ (63 - m) - 1)) + u % 2 ^ (m + 1)
theorem spread_bit (m u i : Nat) (hm : m ≤ 63) (hi : i ≤ 63) : spread m u / 2 ^ i % 2 = u / 2 ^ (min i m) % 2 := by
  have hb : ∀ a j : Nat, a / 2 ^ j % 2 = (a.testBit j).toNat := fun a j => by rw [Nat.testBit_eq_decide_div_mod_eq]; rcases Nat.mod_two_eq_zero_or_one (a / 2 ^ j) with h | h <;> simp [h]
  rw [hb, hb]
  congr 1
  unfold spread
  rw [Nat.testBit_two_pow_mul_add _ (Nat.mod_lt _ (Nat.two_pow_pos _))]
  split
  · rename_i h
    rw [Nat.testBit_mod_two_pow, show min i m = i by omega]
    simp [h]
  · rename_i h
    rw [show min i m = m by omega, hb]
    cases hs : u.testBit m with
    | false => simp
    | true =>
      simp only [Bool.toNat_true, Nat.one_mul]
      rw [Nat.testBit_two_pow_sub_one]
      simp; omega
theorem spread_lt (m u : Nat) (hm : m ≤ 63) : spread m u < 2 ^ 64 := by
  unfold spread
  have h1 : u % 2 ^ (m + 1) < 2 ^ (m + 1) := Nat.mod_lt _ (Nat.two_pow_pos _)
  have h2 : (u / 2 ^ m % 2) * (2 ^ (63 - m) - 1) ≤ 2 ^ (63 - m) - 1 := by
    have : u / 2 ^ m % 2 ≤ 1 := by omega
    calc _ ≤ 1 * (2 ^ (63 - m) - 1) := Nat.mul_le_mul_right _ this
      _ = _ := Nat.one_mul _
  have h3 : 2 ^ (m + 1) * 2 ^ (63 - m) = (2 : Nat) ^ 64 := by rw [← Nat.pow_add]; congr 1; omega
  have h4 : 2 ^ (m + 1) * ((u / 2 ^ m % 2) * (2 ^ (63 - m) - 1)) ≤ 2 ^ (m + 1) * (2 ^ (63 - m) - 1) := Nat.mul_le_mul_left _ h2
  have h6 : 2 ^ (m + 1) * (2 ^ (63 - m) - 1) = 2 ^ 64 - 2 ^ (m + 1) := by rw [Nat.mul_sub, Nat.mul_one, h3]
  rw [h6] at h4
  have h5 : (2 : Nat) ^ (m + 1) ≤ 2 ^ 64 := Nat.pow_le_pow_right (by decide) (by omega)
  omega
def uns (v : Int) : Nat := (v % 2 ^ 64).toNat
theorem uns_cast (v : Int) : ((uns v : Nat) : Int) = v % 2 ^ 64 := by unfold uns; have := Int.emod_nonneg v (show (2 : Int) ^ 64 ≠ 0 by decide); omega
theorem spread_sx (m : Nat) (v : Int) (hm : m ≤ 63) : IntKind.wrap .i64 (spread m (uns v) : Nat) = sx m v := by
  have hlt := spread_lt m (uns v) hm
  have hu := uns_cast v
  have hp : ((2 ^ m : Nat) : Int) = 2 ^ m := by simp
  have hp1 : ((2 ^ (m + 1) : Nat) : Int) = 2 ^ (m + 1) := by simp
  have hs : v % 2 ^ 64 / 2 ^ m % 2 = ((uns v / 2 ^ m % 2 : Nat) : Int) := by rw [← hu]; simp
  have hr : v % 2 ^ (m + 1) = ((uns v % 2 ^ (m + 1) : Nat) : Int) := by
    have h1 : v % 2 ^ (m + 1) = v % 2 ^ 64 % 2 ^ (m + 1) := by
      rw [Int.emod_emod_of_dvd]
      exact ⟨2 ^ (63 - m), by rw [← Int.pow_add]; congr 1; omega⟩
    rw [h1, ← hu]; simp
  have hmod : uns v % 2 ^ (m + 1) < 2 ^ (m + 1) := Nat.mod_lt _ (Nat.two_pow_pos _)
  have h64 : 2 ^ (m + 1) * 2 ^ (63 - m) = (2 : Nat) ^ 64 := by rw [← Nat.pow_add]; congr 1; omega
  unfold sx
  rw [hs, hr]
  have hle : (2 : Nat) ^ (m + 1) ≤ 2 ^ 64 := Nat.pow_le_pow_right (by decide) (by omega)
  have hdbl : (2 : Nat) ^ (m + 1) = 2 ^ m * 2 := Nat.pow_succ 2 m
  have hle2 : (2 : Nat) ^ m ≤ 2 ^ 63 := Nat.pow_le_pow_right (by decide) hm
  have hhi : uns v % 2 ^ (m + 1) / 2 ^ m = uns v / 2 ^ m % 2 := by rw [hdbl, Nat.mod_mul_right_div_self]
  rcases Nat.mod_two_eq_zero_or_one (uns v / 2 ^ m) with h | h
  · rw [h, if_neg (by decide)]
    have e : spread m (uns v) = uns v % 2 ^ (m + 1) := by unfold spread; rw [h]; simp
    rw [e]
    have : uns v % 2 ^ (m + 1) < 2 ^ m := by
      rw [h] at hhi
      exact (Nat.div_eq_zero_iff.1 hhi).resolve_left (by have := Nat.two_pow_pos m; omega)
    exact wrap64_id (by unfold I64; omega)
  · rw [h, if_pos (by rfl)]
    have e : spread m (uns v) + 2 ^ (m + 1) = 2 ^ 64 + uns v % 2 ^ (m + 1) := by
      unfold spread
      rw [h, Nat.one_mul, Nat.mul_sub, Nat.mul_one, h64]
      omega
    have h2 : 2 ^ m ≤ uns v % 2 ^ (m + 1) := by
      rw [h] at hhi
      have := Nat.div_mul_le_self (uns v % 2 ^ (m + 1)) (2 ^ m)
      rw [hhi] at this; omega
    have : ((spread m (uns v) : Nat) : Int) = ((uns v % 2 ^ (m + 1) : Nat) : Int) - 2 ^ (m + 1) + 2 ^ 64 := by rw [← hp1]; omega
    rw [this]
    have hw : ∀ n : Int, IntKind.wrap .i64 (n + 2 ^ 64) = IntKind.wrap .i64 n := fun n => by
      have h3 : (n + 2 ^ 64) % 2 ^ IntKind.i64.bits = n % 2 ^ IntKind.i64.bits := Int.add_emod_right ..
      simp only [IntKind.wrap, h3]
    rw [hw]
    rw [← hp1]
    exact wrap64_id (by unfold I64; omega)
/-- The reference's sign. -/
theorem l01Sign_eq (v n : Int) (h0 : 1 ≤ n) (h1 : n ≤ 8) : S_spec_l01Sign ((v, (n, ())), ()) = some (sx (8 * n - 1).toNat v, ()) := by
  unfold S_spec_l01Sign
  obtain ⟨k, hk⟩ : ∃ k : Nat, n = k := ⟨n.toNat, by omega⟩
  subst hk
  generalize hm : (8 * (k : Int) - 1).toNat = m
  have hm63 : m ≤ 63 := by omega
  refine (iter_eq (fun x => x.1.1 = v ∧ x.1.2.1 = (k : Int) ∧ -1 ≤ x.1.2.2.2.1 ∧ x.1.2.2.2.1 ≤ 63 ∧ x.1.2.2.1 = ((spread m (uns v) / 2 ^ (x.1.2.2.2.1 + 1).toNat : Nat) : Int)) (fun x => (x.1.2.2.2.1 + 1).toNat)
    (fun _ => some (sx m v, ())) ?_ F _ ⟨rfl, rfl, by show (-1 : Int) ≤ 63; decide, by show (63 : Int) ≤ 63; decide, ?_⟩ (by show ((63 : Int) + 1).toNat < F; decide)).trans rfl
  · rintro ⟨⟨v', k', acc, i, _⟩, _⟩ rec ⟨rfl, hk', h2, h3, hacc⟩ hrec
    dsimp only at hk' h2 h3 hacc hrec ⊢
    subst hk'
    by_cases hi : 0 ≤ i
    · obtain ⟨j, rfl⟩ := Int.eq_ofNat_of_zero_le hi
      rw [br_pos (le_t hi)]
      have e1 : subI .i64 (mulI .i64 8 (k : Int)) 1 = (m : Int) := by
        rw [mul_id (by unfold I64; omega), sub_id (by unfold I64; omega)]; omega
      rw [e1]
      have e2 : imin (j : Int) (m : Int) = ((min j m : Nat) : Int) := by unfold imin; split <;> omega
      rw [e2, l01Bit_eq _ _ (by omega) (by omega), bnd_s]
      dsimp only
      have e3 : v' % 2 ^ 64 / 2 ^ (((min j m : Nat) : Int)).toNat % 2 = ((spread m (uns v') / 2 ^ j % 2 : Nat) : Int) := by
        rw [spread_bit m _ j hm63 (by omega), ← uns_cast]; simp
      rw [e3]
      have hlt := spread_lt m (uns v') hm63
      have e4 : spread m (uns v') / 2 ^ (((j : Int) + 1).toNat) = spread m (uns v') / 2 ^ j / 2 := by
        rw [show ((j : Int) + 1).toNat = j + 1 by omega, Nat.pow_succ, Nat.div_div_eq_div_mul]
      rw [e4] at hacc
      generalize hq : spread m (uns v') / 2 ^ j = q at hacc ⊢
      have hq2 : q < 2 ^ 64 := by rw [← hq]; exact Nat.lt_of_le_of_lt (Nat.div_le_self _ _) hlt
      have e5 : addI .u64 (mulI .u64 2 acc) (wrapI .u64 ((q % 2 : Nat) : Int)) = (q : Int) := by
        unfold addI mulI wrapI
        rw [hacc, wrapU_id (n := 2 * ((q / 2 : Nat) : Int)) (by omega) (by omega), wrapU_id (n := ((q % 2 : Nat) : Int)) (by omega) (by omega), wrapU_id (by omega) (by omega)]
        omega
      rw [e5, sub_id (by unfold I64; omega)]
      refine hrec _ ⟨rfl, rfl, by dsimp only; omega, by dsimp only; omega, ?_⟩ (by dsimp only; omega)
      dsimp only
      rw [show ((j : Int) - 1 + 1).toNat = j by omega, hq]
    · rw [br_neg (le_f hi)]
      have : i = -1 := by omega
      subst this
      rw [hacc]
      have : spread m (uns v') / 2 ^ ((-1 : Int) + 1).toNat = spread m (uns v') := by simp
      rw [this]
      show some (IntKind.wrap .i64 _, ()) = _
      rw [spread_sx m v' hm63]
  · have hlt := spread_lt m (uns v) hm63
    show (0 : Int) = ((spread m (uns v) / 2 ^ ((63 : Int) + 1).toNat : Nat) : Int)
    rw [show ((63 : Int) + 1).toNat = 64 from rfl, Nat.div_eq_of_lt hlt]; rfl
/-- The program's sign. -/
theorem sign_eq (v n : Int) (h0 : 1 ≤ n) (h1 : n ≤ 8) : S_impl_sign ((v, (n, ())), ()) = some (sx (8 * n - 1).toNat v, ()) := by
  unfold S_impl_sign
  dsimp only
  have e : subI .i64 64 (mulI .i64 8 n) = 64 - 8 * n := by rw [mul_id (by unfold I64; omega), sub_id (by unfold I64; omega)]
  rw [e, br_pos (le_t (by omega)), br_pos (le_t (by omega))]
  congr 2
  obtain ⟨m, hm⟩ : ∃ m : Nat, 8 * n - 1 = m := ⟨(8 * n - 1).toNat, by omega⟩
  have hn : 64 - 8 * n = ((63 - m : Nat) : Int) := by omega
  rw [hm, hn]
  have hm63 : m ≤ 63 := by omega
  simp only [Int.toNat_natCast]
  unfold ishr ishl
  rw [show min (((63 - m : Nat) : Int)).toNat IntKind.i64.bits = 63 - m by simp [IntKind.bits]; omega]
  have hp : (0 : Int) < 2 ^ (63 - m) := Int.pow_pos (by decide)
  rw [Int.fdiv_eq_ediv_of_nonneg _ (Int.le_of_lt hp)]
  have h64 : (2 : Int) ^ (m + 1) * 2 ^ (63 - m) = 2 ^ 64 := by rw [← Int.pow_add]; congr 1; omega
  have h63 : (2 : Int) ^ m * 2 ^ (63 - m) = 2 ^ 63 := by rw [← Int.pow_add]; congr 1; omega
  have hr := Int.emod_nonneg v (show (2 : Int) ^ (m + 1) ≠ 0 from Int.ne_of_gt (Int.pow_pos (by decide)))
  have hr2 := Int.emod_lt_of_pos v (show (0 : Int) < 2 ^ (m + 1) from Int.pow_pos (by decide))
  -- the sign
  have hsv : v % 2 ^ 64 / 2 ^ m % 2 = v % 2 ^ (m + 1) / 2 ^ m := by
    have h1 : v % 2 ^ (m + 1) = v % 2 ^ 64 % 2 ^ (m + 1) := by
      rw [Int.emod_emod_of_dvd]
      exact ⟨2 ^ (63 - m), h64.symm⟩
    rw [h1, Int.pow_succ 2 m]
    have hu := uns_cast v
    rw [← hu]
    have : ((2 : Int) ^ m) = ((2 ^ m : Nat) : Int) := by simp
    rw [this]
    have h2 : ((2 ^ m : Nat) : Int) * 2 = ((2 ^ m * 2 : Nat) : Int) := by simp
    rw [h2]
    rw [← Int.natCast_ediv, ← Int.natCast_emod, ← Int.natCast_ediv, Nat.mod_mul_right_div_self]
    simp
  have hdm : v = v % 2 ^ (m + 1) + 2 ^ (m + 1) * (v / 2 ^ (m + 1)) := (Int.emod_add_mul_ediv ..).symm
  have hmul : v * 2 ^ (63 - m) % 2 ^ 64 = v % 2 ^ (m + 1) * 2 ^ (63 - m) := by
    rw [← h64, Int.mul_comm v, Int.mul_comm (2 ^ (m + 1)), Int.mul_emod_mul_of_pos _ _ hp, Int.mul_comm]
  unfold sx
  rw [hsv]
  generalize v % 2 ^ (m + 1) = r at *
  have hpm : (0 : Int) < 2 ^ m := Int.pow_pos (by decide)
  have hdbl : (2 : Int) ^ (m + 1) = 2 ^ m * 2 := Int.pow_succ 2 m
  simp only [IntKind.wrap, IntKind.bits, IntKind.signed, Bool.true_and, decide_eq_true_eq, ge_iff_le]
  rw [show ((64 : Nat) - 1) = 63 from rfl, hmul]
  by_cases hs : (2 : Int) ^ m ≤ r
  · have hq : r / 2 ^ m = 1 := by
      rw [Int.ediv_eq_iff_of_pos hpm]
      omega
    rw [hq, if_pos rfl]
    have hge : (2 : Int) ^ 63 ≤ r * 2 ^ (63 - m) := by rw [← h63]; exact Int.mul_le_mul_of_nonneg_right hs (Int.le_of_lt hp)
    rw [if_pos hge, ← h64, ← Int.sub_mul, Int.mul_ediv_cancel _ (Int.ne_of_gt hp)]
  · have hq : r / 2 ^ m = 0 := Int.ediv_eq_zero_of_lt hr (by omega)
    rw [hq]
    have hge : ¬ (2 : Int) ^ 63 ≤ r * 2 ^ (63 - m) := by
      rw [← h63, Int.not_le]
      exact Int.mul_lt_mul_of_pos_right (by omega) hp
    rw [if_neg hge, if_neg (by decide), Int.mul_ediv_cancel _ (Int.ne_of_gt hp)]
theorem fits_eq (v n : Int) (h0 : 1 ≤ n) (h1 : n ≤ 4) : S_impl_fits ((v, (n, ())), ()) = S_spec_l05Fits ((v, (n, ())), ()) := by
  unfold S_impl_fits S_spec_l05Fits
  dsimp only
  rw [sign_eq v n h0 (by omega), show imin n 4 = n by unfold imin; split <;> omega, l01Sign_eq v n h0 (by omega)]
def fitsB (v n : Int) : Bool := eqI (sx (8 * n - 1).toNat v) v
theorem l05Fits_eq (v n : Int) (h0 : 1 ≤ n) (h1 : n ≤ 4) : S_spec_l05Fits ((v, (n, ())), ()) = some (fitsB v n, ()) := by
  unfold S_spec_l05Fits
  dsimp only
  rw [show imin n 4 = n by unfold imin; split <;> omega, l01Sign_eq v n h0 (by omega), bnd_s]
  rfl
end Go.Den.G
namespace Go.Den.G
open Go.Den

/-! ### digits -/
theorem dec_small {u : Nat} (h : u < 10) : Go.Lib.decDigits u = [UInt8.ofNat (48 + u)] := by rw [Go.Lib.decDigits, dif_pos h]
theorem dec_step {u : Nat} (h : ¬ u < 10) : Go.Lib.decDigits u = Go.Lib.decDigits (u / 10) ++ [UInt8.ofNat (48 + u % 10)] := by rw [Go.Lib.decDigits, dif_neg h]
theorem dec_len : ∀ (k u : Nat), u < 10 ^ (k + 1) → (Go.Lib.decDigits u).length ≤ k + 1
  | 0, u, h => by rw [dec_small (by omega)]; simp
  | k + 1, u, h => by
    by_cases hu : u < 10
    · rw [dec_small hu]; simp
    · rw [dec_step hu, List.length_append]
      have := dec_len k (u / 10) (by rw [Nat.pow_succ] at h; omega)
      simp; omega
theorem byte1 {n : Int} (h0 : 0 ≤ n) (h1 : n < 10) : toStr [wrapI .u8 (addI .i64 48 n)] = [UInt8.ofNat (48 + n.toNat)] := by
  have e : wrapI .u8 (addI .i64 48 n) = 48 + n := by
    rw [add_id (by unfold I64; omega)]
    unfold wrapI
    simp only [IntKind.wrap, IntKind.bits, IntKind.signed, Bool.false_and, Bool.false_eq_true, if_false]
    exact Int.emod_eq_of_lt (by omega) (by omega)
  rw [e]
  unfold toStr
  rw [List.map_singleton, show (48 + n).toNat = 48 + n.toNat by omega]
theorem digits_nat : ∀ (k : Nat) (u : Nat), k ≤ 100 → u < 10 ^ (k + 1) → u < 9223372036854775808 → RS_spec_l00Digits (k + 1) (((u : Int), ()), ()) = some (Go.Lib.decDigits u, ())
  | k, u, hk, hu, h64 => by
    rw [RS_spec_l00Digits]
    dsimp only
    rw [br_neg (eq_f (by omega)), br_neg (lt_f (by omega))]
    by_cases h : u < 10
    · rw [br_pos (lt_t (by omega)), byte1 (by omega) (by omega), dec_small h]; rfl
    · rw [br_neg (lt_f (by omega))]
      cases k with
      | zero => exact absurd hu (by simpa using h)
      | succ k =>
        have hq : quoI .i64 (u : Int) 10 = ((u / 10 : Nat) : Int) := by
          unfold quoI
          rw [show ((u : Int).tdiv 10) = ((u / 10 : Nat) : Int) by rw [Int.tdiv_eq_ediv_of_nonneg (by omega)]; simp]
          exact wrap64_id (by unfold I64; omega)
        have hr : remI (u : Int) 10 = ((u % 10 : Nat) : Int) := by unfold remI; rw [Int.tmod_eq_emod_of_nonneg (by omega)]; simp
        rw [hq, digits_nat k (u / 10) (by omega) (by rw [Nat.pow_succ] at hu; omega) (by omega), bnd_s, hr]
        dsimp only
        rw [byte1 (by omega) (by omega), dec_step h]
        have hl := dec_len k (u / 10) (by rw [Nat.pow_succ] at hu; omega)
        rw [br_pos (by unfold fits2 lim; simp; omega), show (((u % 10 : Nat) : Int)).toNat = u % 10 from rfl]
        rfl
theorem itoa_len {n : Int} (h : I64 n) : (Go.Lib.itoa n).length ≤ 20 := by
  unfold I64 at h
  unfold Go.Lib.itoa
  split
  · have := dec_len 18 n.natAbs (by omega)
    simp; omega
  · have := dec_len 18 n.toNat (by omega)
    omega
theorem l00Digits_eq {n : Int} (h : I64 n) : S_spec_l00Digits ((n, ()), ()) = some (Go.Lib.itoa n, ()) := by
  unfold S_spec_l00Digits
  unfold I64 at h
  by_cases hm : n = -9223372036854775808
  · subst hm
    rw [RS_spec_l00Digits]
    dsimp only
    rw [br_pos (eq_t rfl)]
    unfold Go.Lib.itoa
    rw [if_pos (by decide)]
    congr 2
    show _ = 45 :: Go.Lib.decDigits 9223372036854775808
    simp [Go.Lib.decDigits]
  · by_cases h0 : 0 ≤ n
    · obtain ⟨u, rfl⟩ := Int.eq_ofNat_of_zero_le h0
      rw [digits_nat 99 u (by decide) (Nat.lt_of_lt_of_le (show u < 10 ^ 20 by omega) (Nat.pow_le_pow_right (by decide) (by decide))) (by omega)]
      unfold Go.Lib.itoa
      rw [if_neg (by omega)]
      simp
    · rw [RS_spec_l00Digits]
      dsimp only
      rw [br_neg (eq_f hm), br_pos (lt_t (by omega)), sub_id (by unfold I64; omega)]
      obtain ⟨u, hu⟩ := Int.eq_ofNat_of_zero_le (show 0 ≤ 0 - n by omega)
      rw [hu, digits_nat 98 u (by decide) (Nat.lt_of_lt_of_le (show u < 10 ^ 20 by omega) (Nat.pow_le_pow_right (by decide) (by decide))) (by omega), bnd_s]
      dsimp only
      have hl := dec_len 19 u (by omega)
      rw [br_pos (by unfold fits2 lim; simp; omega)]
      unfold Go.Lib.itoa
      rw [if_pos (by omega), show n.natAbs = u by omega]
      simp [appL]
end Go.Den.G
namespace Go.Den.G
open Go.Den

/-- A word and numbers, a blank ahead of each. -/
def numsL (l : List Int) : List UInt8 := l.flatMap fun n => 32 :: Go.Lib.itoa n
theorem numsL_len : ∀ {l : List Int}, (∀ n ∈ l, I64 n) → (numsL l).length ≤ 21 * l.length
  | [], _ => by simp [numsL]
  | a :: r, h => by
    have h1 := itoa_len (h a (by simp))
    have h2 := numsL_len (l := r) fun n hn => h n (by simp [hn])
    unfold numsL at h2 ⊢
    simp only [List.flatMap_cons, List.length_append, List.length_cons]
    omega
theorem drop_cons {α : Type} {l : List α} {i : Nat} (h : i < l.length) : l.drop i = l[i] :: l.drop (i + 1) := List.drop_eq_getElem_cons h
theorem l16Numbers_eq (name : List UInt8) (l : List Int) (hn : name.length ≤ 1000) (hl : l.length ≤ 16777216) (hw : ∀ n ∈ l, I64 n) :
    S_spec_l16Numbers ((name, (l, ())), ()) = some (name ++ numsL l, ()) := by
  unfold S_spec_l16Numbers
  refine (iter_eq (fun x => x.1.2.1 = l ∧ 0 ≤ x.1.2.2.1 ∧ x.1.2.2.1 ≤ (l.length : Int) ∧ (x.1.1.length : Int) ≤ 1000 + 21 * x.1.2.2.1) (fun x => ((l.length : Int) - x.1.2.2.1).toNat)
    (fun x => some (x.1.1 ++ numsL (l.drop x.1.2.2.1.toNat), ())) ?_ F _ ⟨rfl, Int.le_refl 0, by show (0 : Int) ≤ _; omega, by show (name.length : Int) ≤ 1000 + 21 * 0; omega⟩ (by show ((l.length : Int) - 0).toNat < F; unfold F; omega)).trans ?_
  · rintro ⟨⟨acc, l', i, _⟩, _⟩ rec ⟨rfl, h0, h1, h2⟩ hrec
    dsimp only at h0 h1 h2 hrec hl hw ⊢
    obtain ⟨j, rfl⟩ := Int.eq_ofNat_of_zero_le h0
    simp only [lenL_nat]
    by_cases hi : j < l'.length
    · rw [br_pos (lt_t (by omega)), br_pos (inR_t h0 (by omega)), getL_nat hi]
      have hwj := hw l'[j] (List.getElem_mem hi)
      have hlen := itoa_len hwj
      rw [l00Digits_eq hwj, bnd_s]
      dsimp only
      rw [br_pos (by unfold fits2 lim; simp; omega), br_pos (by unfold fits2 lim appL; simp; omega), add_id (by unfold I64; omega)]
      rw [hrec _ ⟨rfl, by dsimp only; omega, by dsimp only; omega, by dsimp only; simp only [appL, List.length_append, List.length_cons, List.length_nil]; omega⟩ (by dsimp only; omega)]
      dsimp only
      simp only [Int.toNat_natCast]
      rw [show ((j : Int) + 1).toNat = j + 1 by omega, drop_cons hi]
      simp only [appL, numsL, List.flatMap_cons, List.append_assoc, List.cons_append, List.nil_append]
    · rw [br_neg (lt_f (by omega))]
      simp only [Int.toNat_natCast]
      rw [List.drop_eq_nil_of_le (by omega)]
      simp [numsL]
  · simp
theorem wordsLine_eq (name : List UInt8) (l : List Int) (hn : name.length ≤ 1000) (hl : l.length ≤ 16777216) (hw : ∀ n ∈ l, I64 n) :
    S_impl_wordsLine ((name, (l, ())), ()) = some (name ++ numsL l, ()) := by
  unfold S_impl_wordsLine
  refine (iter_eq (fun x => x.1.2.1 = l ∧ x.1.2.2.1 = (l.length : Int) ∧ 0 ≤ x.1.2.2.2.1 ∧ x.1.2.2.2.1 ≤ (l.length : Int) ∧ (x.1.1.length : Int) ≤ 1000 + 21 * x.1.2.2.2.1) (fun x => ((l.length : Int) - x.1.2.2.2.1).toNat)
    (fun x => some (x.1.1 ++ numsL (l.drop x.1.2.2.2.1.toNat), ())) ?_ F _ ⟨rfl, rfl, Int.le_refl 0, by show (0 : Int) ≤ _; omega, by show (name.length : Int) ≤ 1000 + 21 * 0; omega⟩ (by show ((l.length : Int) - 0).toNat < F; unfold F; omega)).trans ?_
  · rintro ⟨⟨acc, l', n, i, _⟩, _⟩ rec ⟨rfl, h3, h0, h1, h2⟩ hrec
    dsimp only at h0 h1 h2 h3 hrec hl hw ⊢
    obtain ⟨j, rfl⟩ := Int.eq_ofNat_of_zero_le h0
    subst h3
    simp only [lenL_nat]
    by_cases hi : j < l'.length
    · rw [br_pos (lt_t (by omega)), br_pos (inR_t h0 (by omega)), getL_nat hi]
      have hwj := hw l'[j] (List.getElem_mem hi)
      have hlen := itoa_len hwj
      have e : S_strconv_Itoa ((l'[j], ()), ()) = some (Go.Lib.itoa l'[j], ()) := by
        unfold S_strconv_Itoa pItoa i64B
        unfold I64 at hwj
        dsimp only
        rw [le_t hwj.1, le_t (by omega)]; rfl
      rw [e, bnd_s]
      dsimp only
      rw [br_pos (by unfold fits2 lim; simp; omega), br_pos (by unfold fits2 lim appL; simp; omega), add_id (by unfold I64; omega)]
      rw [hrec _ ⟨rfl, rfl, by dsimp only; omega, by dsimp only; omega, by dsimp only; simp only [appL, List.length_append, List.length_cons, List.length_nil]; omega⟩ (by dsimp only; omega)]
      dsimp only
      simp only [Int.toNat_natCast]
      rw [show ((j : Int) + 1).toNat = j + 1 by omega, drop_cons hi]
      simp only [appL, numsL, List.flatMap_cons, List.append_assoc, List.cons_append, List.nil_append]
    · rw [br_neg (lt_f (by omega))]
      simp only [Int.toNat_natCast]
      rw [List.drop_eq_nil_of_le (by omega)]
      simp [numsL]
  · simp
end Go.Den.G
namespace Go.Den.G
open Go.Den

def inB (a b c : Int) : Bool := decide (b ≤ a) && decide (a ≤ c)
theorem l01In_eq (a b c : Int) : S_spec_l01In ((a, (b, (c, ()))), ()) = some (inB a b c, ()) := by
  unfold S_spec_l01In inB
  dsimp only
  by_cases h : b ≤ a
  · rw [br_pos (le_t h), bnd_s]; simp [leI, h]
  · rw [br_neg (le_f h), bnd_s]; simp [h]
theorem within_eq (a b c : Int) : S_impl_within ((a, (b, (c, ()))), ()) = some (inB a b c, ()) := l01In_eq a b c
theorem and_eq (a b : Bool) : br a (some b) (some false) = some (a && b) := by cases a <;> rfl
theorem or_eq (a b : Bool) : br a (some true) (some b) = some (a || b) := by cases a <;> rfl
theorem l14Label_eq (a : Int) : S_spec_l14Label ((a, ()), ()) = some (inB a 0 31, ()) := by
  unfold S_spec_l14Label; rw [l01In_eq]; rfl
theorem isLabel_eq (a : Int) : S_impl_isLabel ((a, ()), ()) = some (inB a 0 31, ()) := by
  unfold S_impl_isLabel; rw [within_eq]; rfl
def regB (a : Int) : Bool := inB a 0 14 && !eqI a 4 && !eqI a 5 && !eqI a 11
theorem l14Reg_eq (a : Int) : S_spec_l14Reg ((a, ()), ()) = some (regB a, ()) := by
  unfold S_spec_l14Reg regB
  rw [l01In_eq, bnd_s]
  simp only [and_eq, bnd_s, notB_not]
theorem isOwnReg_eq (a : Int) : S_impl_isOwnReg ((a, ()), ()) = some (regB a, ()) := by
  unfold S_impl_isOwnReg regB S_impl_isStackReg
  rw [within_eq, bnd_s]
  simp only [and_eq, or_eq, bnd_s, notB_not]
  congr 2
  simp [Bool.and_assoc]
theorem l14Disp_eq (a : Int) : S_spec_l14Disp ((a, ()), ()) = some (inB a (-2048) 2047, ()) := by
  unfold S_spec_l14Disp; rw [l01In_eq]; rfl
/-- Is it a statement? -/
def stmtB (s : Stm) : Bool :=
  if s.kind = 1 ∨ s.kind = 10 ∨ s.kind = 12 then inB s.a 0 31 && (eqI s.b 0 && eqI s.c 0)
  else if s.kind = 2 then regB s.a && (fitsB s.b 4 && eqI s.c 0)
  else if s.kind = 3 then regB s.a && (regB s.b && eqI s.c 0)
  else if s.kind = 4 then inB s.a 1 8 && (regB s.b && regB s.c)
  else if s.kind = 5 ∨ s.kind = 6 then regB s.a && (regB s.b && inB s.c (-2048) 2047)
  else if s.kind = 7 ∨ s.kind = 8 ∨ s.kind = 16 then regB s.a && (eqI s.b 0 && eqI s.c 0)
  else if s.kind = 9 then inB s.a (-256) 256 && (eqI (remI s.a 8) 0 && (eqI s.b 0 && eqI s.c 0))
  else if s.kind = 11 then inB s.a 0 15 && (inB s.b 0 31 && eqI s.c 0)
  else if s.kind = 13 ∨ s.kind = 15 then eqI s.a 0 && (eqI s.b 0 && eqI s.c 0)
  else if s.kind = 14 then inB s.a 0 7 && (eqI s.b 0 && eqI s.c 0)
  else if s.kind = 17 then regB s.a && (inB s.b 0 31 && eqI s.c 0)
  else false
theorem kinds (k : Int) : k = 1 ∨ k = 2 ∨ k = 3 ∨ k = 4 ∨ k = 5 ∨ k = 6 ∨ k = 7 ∨ k = 8 ∨ k = 9 ∨ k = 10 ∨ k = 11 ∨ k = 12 ∨ k = 13 ∨ k = 14 ∨ k = 15 ∨ k = 16 ∨ k = 17 ∨ (k < 1 ∨ 17 < k) := by omega
theorem fits4 (v : Int) : S_spec_l05Fits ((v, (4, ())), ()) = some (fitsB v 4, ()) := l05Fits_eq v 4 (by decide) (by decide)
theorem fits4' (v : Int) : S_impl_fits ((v, (4, ())), ()) = some (fitsB v 4, ()) := (fits_eq v 4 (by decide) (by decide)).trans (fits4 v)
theorem impl_StmtOK_eq (s : Stm) : S_impl_StmtOK ((s, ()), ()) = some (stmtB s, ()) := by
  obtain ⟨k, a, b, c⟩ := s
  unfold S_impl_StmtOK stmtB
  simp only [isOwnReg_eq, isLabel_eq, within_eq, fits4', bnd_s, and_eq]
  rcases kinds k with h | h | h | h | h | h | h | h | h | h | h | h | h | h | h | h | h | h
  all_goals first
    | (subst h; simp [eqI, br, bnd, sumE, Bool.and_assoc])
    | (simp [eqI, br, bnd, sumE, show k ≠ 1 by omega, show k ≠ 2 by omega, show k ≠ 3 by omega, show k ≠ 4 by omega, show k ≠ 5 by omega, show k ≠ 6 by omega, show k ≠ 7 by omega, show k ≠ 8 by omega, show k ≠ 9 by omega, show k ≠ 10 by omega, show k ≠ 11 by omega, show k ≠ 12 by omega, show k ≠ 13 by omega, show k ≠ 14 by omega, show k ≠ 15 by omega, show k ≠ 16 by omega, show k ≠ 17 by omega])
theorem spec_StmtOK_eq (s : Stm) : S_spec_StmtOK ((s, ()), ()) = some (stmtB s, ()) := by
  obtain ⟨k, a, b, c⟩ := s
  unfold S_spec_StmtOK stmtB
  simp only [l14Reg_eq, l14Label_eq, l01In_eq, l14Disp_eq, fits4, bnd_s, and_eq]
  rcases kinds k with h | h | h | h | h | h | h | h | h | h | h | h | h | h | h | h | h | h
  all_goals first
    | (subst h; simp [eqI, br, bnd, sumE]; try (cases decide (c = 0) <;> cases decide (b = 0) <;> simp [Bool.and_assoc, Bool.and_comm, Bool.and_left_comm]))
    | (simp [eqI, br, bnd, sumE, show k ≠ 1 by omega, show k ≠ 2 by omega, show k ≠ 3 by omega, show k ≠ 4 by omega, show k ≠ 5 by omega, show k ≠ 6 by omega, show k ≠ 7 by omega, show k ≠ 8 by omega, show k ≠ 9 by omega, show k ≠ 10 by omega, show k ≠ 11 by omega, show k ≠ 12 by omega, show k ≠ 13 by omega, show k ≠ 14 by omega, show k ≠ 15 by omega, show k ≠ 16 by omega, show k ≠ 17 by omega])
end Go.Den.G
namespace Go.Den.G
open Go.Den

theorem stmtB_kind {s : Stm} (h : stmtB s = true) : 1 ≤ s.kind ∧ s.kind ≤ 17 := by
  unfold stmtB at h
  obtain ⟨k, a, b, c⟩ := s
  dsimp only at h ⊢
  rcases kinds k with h' | h' | h' | h' | h' | h' | h' | h' | h' | h' | h' | h' | h' | h' | h' | h' | h' | h'
  all_goals first
    | omega
    | (exfalso; simp [show k ≠ 1 by omega, show k ≠ 2 by omega, show k ≠ 3 by omega, show k ≠ 4 by omega, show k ≠ 5 by omega, show k ≠ 6 by omega, show k ≠ 7 by omega, show k ≠ 8 by omega, show k ≠ 9 by omega, show k ≠ 10 by omega, show k ≠ 11 by omega, show k ≠ 12 by omega, show k ≠ 13 by omega, show k ≠ 14 by omega, show k ≠ 15 by omega, show k ≠ 16 by omega, show k ≠ 17 by omega] at h)
/-- Both texts, out of the kind. -/
theorem texts (k : Int) (h0 : 1 ≤ k) (h1 : k ≤ 17) : ∃ w n, w.length ≤ 1000 ∧ 0 ≤ n ∧ n ≤ 3 ∧ S_impl_stmtForm ((k, ()), ()) = some ((w, (n, ())), ()) ∧ S_spec_l16Many ((k, ()), ()) = some (n, ()) ∧
    ∃ ws, S_spec_l16Words ((), ()) = some (ws, ()) ∧ inR (subI .i64 k 1) (lenL ws) = true ∧ getL ws (subI .i64 k 1) (dflt .s) = w := by
  rcases kinds k with rfl | rfl | rfl | rfl | rfl | rfl | rfl | rfl | rfl | rfl | rfl | rfl | rfl | rfl | rfl | rfl | rfl | h
  all_goals first
    | exact ⟨_, _, by decide, by decide, by decide, rfl, rfl, _, rfl, by decide, by decide⟩
    | omega
theorem stmtText_same (s : Stm) (hk : 1 ≤ s.kind ∧ s.kind ≤ 17) (ha : I64 s.a) (hb : I64 s.b) (hc : I64 s.c) : ∃ t, S_impl_stmtText ((s, ()), ()) = some (t, ()) ∧ S_spec_l16Stmt ((s, ()), ()) = some (t, ()) := by
  obtain ⟨w, n, hw, hn0, hn3, e1, e2, ws, e3, e4, e5⟩ := texts s.kind hk.1 hk.2
  have hl : ∀ x ∈ takeL [s.a, s.b, s.c] n, I64 x := fun x hx => by
    have := List.mem_of_mem_take hx
    simp at this
    rcases this with rfl | rfl | rfl <;> assumption
  have hln : (takeL [s.a, s.b, s.c] n).length ≤ 16777216 := by unfold takeL; rw [List.length_take]; simp; omega
  refine ⟨w ++ numsL (takeL [s.a, s.b, s.c] n), ?_, ?_⟩
  · unfold S_impl_stmtText
    dsimp only
    rw [e1, bnd_s]
    dsimp only
    rw [br_pos (inC_t hn0 hn3), wordsLine_eq _ _ hw hln hl]; rfl
  · unfold S_spec_l16Stmt
    dsimp only
    rw [e3, bnd_s]
    dsimp only
    rw [br_pos e4, e2, bnd_s]
    dsimp only
    rw [br_pos (inC_t hn0 hn3), e5, l16Numbers_eq _ _ hw hln hl]; rfl
theorem pure_StmtText (y : VTL.Ty [.el .stm]) (h : VTL.wf [.el .stm] y) : S_laws_FnExactStmtText (y, ()) = some (true, ()) := by
  obtain ⟨s, _⟩ := y
  have hw : elWf .stm s := h.1
  obtain ⟨ha, hb, hc⟩ : I64 s.a ∧ I64 s.b ∧ I64 s.c := by
    obtain ⟨⟨_, _, w0⟩, ⟨n1, e1, w1⟩, ⟨n2, e2, w2⟩, ⟨n3, e3, w3⟩, _⟩ := hw
    have e1 : s.a = n1 := by injection e1
    have e2 : s.b = n2 := by injection e2
    have e3 : s.c = n3 := by injection e3
    rw [e1, e2, e3]
    exact ⟨wf64 w1, wf64 w2, wf64 w3⟩
  unfold S_laws_FnExactStmtText S_laws_toStmt
  dsimp only
  simp only [bnd_s]
  have e : ∃ t c, S_spec_StmtText ((s, ()), ()) = some ((t, (c, ())), ()) ∧ S_impl_StmtText ((s, ()), ()) = some ((t, (c, ())), ()) := by
    unfold S_spec_StmtText S_impl_StmtText
    dsimp only
    rw [impl_StmtOK_eq, spec_StmtOK_eq, bnd_s, bnd_s]
    dsimp only
    cases hs : stmtB s with
    | false => exact ⟨[], 1, rfl, rfl⟩
    | true =>
      obtain ⟨t, h1, h2⟩ := stmtText_same s (stmtB_kind hs) ha hb hc
      rw [h1, h2]
      exact ⟨t, 0, rfl, rfl⟩
  obtain ⟨t, c, e1, e2⟩ := e
  rw [e1, bnd_s, e2, bnd_s]
  have h1 : eqS t t = true := by simp [eqS]
  have h2 : eqI c c = true := by simp [eqI]
  dsimp only
  rw [h1, h2]
  rfl
end Go.Den.G
