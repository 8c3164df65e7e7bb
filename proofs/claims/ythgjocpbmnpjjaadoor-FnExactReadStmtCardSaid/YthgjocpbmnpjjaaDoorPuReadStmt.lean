/- Theory for the proofs of this claim: see its last text. -/
import Derived.Test.YthgjocpbmnpjjaaDoorFnReadStmt
import Derived.Test.YthgjocpbmnpjjaaDoorDenF
import Derived.Lib.Split
import Derived.Lib.IndexBytes
import Derived.Lib.IndexLaws
import Derived.Lib.AtoiAll
namespace Go.Den.G
open Go.Den

/-! ### digits -/
theorem dec_small {u : Nat} (h : u < 10) : Go.Lib.decDigits u = [UInt8.ofNat (48 + u)] := by rw [Go.Lib.decDigits, dif_pos h]
theorem dec_step {u : Nat} (h : ¬ u < 10) : Go.Lib.decDigits u = Go.Lib.decDigits (u / 10) ++ [UInt8.ofNat (48 + u % 10)] := by rw [Go.Lib.decDigits, dif_neg h]
end Go.Den.G
namespace Go.Den.G
open Go.Den

end Go.Den.G
namespace Go.Den.G
open Go.Den

/-! ### signs -/
/-- A number's lowest bits, as a number with a sign; `m`: the sign's place. -/
def sx (m : Nat) (v : Int) : Int := if (v % 2 ^ 64 / 2 ^ m) % 2 = 1 then v % 2 ^ (m + 1) - 2 ^ (m + 1) else v % 2 ^ (m + 1)

theorem wrapU_id {n : Int} (h0 : 0 ≤ n) (h1 : n < 2 ^ 64) : IntKind.wrap .u64 n = n := by
  simp only [IntKind.wrap, IntKind.bits, IntKind.signed, Bool.false_and, Bool.false_eq_true, if_false]
  exact Int.emod_eq_of_lt h0 h1
theorem wrapU_eq (n : Int) : IntKind.wrap .u64 n = n % 2 ^ 64 := by
  simp [IntKind.wrap, IntKind.bits, IntKind.signed]
theorem l01Bit_eq (v i : Int) (h0 : 0 ≤ i) (h1 : i ≤ 63) : S_spec_l01Bit ((v, (i, ())), ()) = some (v % 2 ^ 64 / 2 ^ i.toNat % 2, ()) := by
  unfold S_spec_l01Bit
  dsimp only
  have hw : wrapI IntKind.u64 i = i := wrapU_id h0 (by omega)
  rw [hw, br_pos (le_t h0)]
  have hi : min i.toNat 64 = i.toNat := by omega
  have e : remI (ishr IntKind.u64 (wrapI IntKind.u64 v) i) 2 = v % 2 ^ 64 / 2 ^ i.toNat % 2 := by
    unfold remI ishr wrapI
    rw [wrapU_eq]
    show Int.tmod (Int.fdiv (v % 2 ^ 64) (2 ^ (min i.toNat 64))) 2 = _
    rw [hi]
    have hp : (0 : Int) < 2 ^ i.toNat := Int.pow_pos (by decide)
    rw [Int.fdiv_eq_ediv_of_nonneg _ (Int.le_of_lt hp), Int.tmod_eq_emod_of_nonneg (Int.ediv_nonneg (Int.emod_nonneg _ (by decide)) (Int.le_of_lt hp))]
  rw [e]
  rcases Int.emod_two_eq (v % 2 ^ 64 / 2 ^ i.toNat) with h | h
  · rw [h, br_neg (eq_f (by decide))]
  · rw [h, br_pos (eq_t rfl)]
/-- The number with its sign spread over all bits. -/
def spread (m u : Nat) : Nat := 2 ^ (m + 1) * ((u / 2 ^ m % 2) * (2 ^ (63 - m) - 1)) + u % 2 ^ (m + 1)
theorem spread_bit (m u i : Nat) (hm : m ≤ 63) (hi : i ≤ 63) : spread m u / 2 ^ i % 2 = u / 2 ^ (min i m) % 2 := by
  have hb : ∀ a j : Nat, a / 2 ^ j % 2 = (a.testBit j).toNat := fun a j => by rw [Nat.testBit_eq_decide_div_mod_eq]; rcases Nat.mod_two_eq_zero_or_one (a / 2 ^ j) with h | h <;> simp [h]
  rw [hb, hb]
  congr 1
  unfold spread
  rw [Nat.testBit_two_pow_mul_add _ (Nat.mod_lt _ (Nat.two_pow_pos _))]
  split
  · rename_i h
    rw [Nat.testBit_mod_two_pow, show min i m = i by omega]
    simp [h]
  · rename_i h
    rw [show min i m = m by omega, hb]
    cases hs : u.testBit m with
    | false => simp
    | true =>
      simp only [Bool.toNat_true, Nat.one_mul]
      rw [Nat.testBit_two_pow_sub_one]
      simp; omega
theorem spread_lt (m u : Nat) (hm : m ≤ 63) : spread m u < 2 ^ 64 := by
  unfold spread
  have h1 : u % 2 ^ (m + 1) < 2 ^ (m + 1) := Nat.mod_lt _ (Nat.two_pow_pos _)
  have h2 : (u / 2 ^ m % 2) * (2 ^ (63 - m) - 1) ≤ 2 ^ (63 - m) - 1 := by
    have : u / 2 ^ m % 2 ≤ 1 := by omega
    calc _ ≤ 1 * (2 ^ (63 - m) - 1) := Nat.mul_le_mul_right _ this
      _ = _ := Nat.one_mul _
  have h3 : 2 ^ (m + 1) * 2 ^ (63 - m) = (2 : Nat) ^ 64 := by rw [← Nat.pow_add]; congr 1; omega
  have h4 : 2 ^ (m + 1) * ((u / 2 ^ m % 2) * (2 ^ (63 - m) - 1)) ≤ 2 ^ (m + 1) * (2 ^ (63 - m) - 1) := Nat.mul_le_mul_left _ h2
  have h6 : 2 ^ (m + 1) * (2 ^ (63 - m) - 1) = 2 ^ 64 - 2 ^ (m + 1) := by rw [Nat.mul_sub, Nat.mul_one, h3]
  rw [h6] at h4
  have h5 : (2 : Nat) ^ (m + 1) ≤ 2 ^ 64 := Nat.pow_le_pow_right (by decide) (by omega)
  omega
def uns (v : Int) : Nat := (v % 2 ^ 64).toNat
theorem uns_cast (v : Int) : ((uns v : Nat) : Int) = v % 2 ^ 64 := by unfold uns; have := Int.emod_nonneg v (show (2 : Int) ^ 64 ≠ 0 by decide); omega
theorem spread_sx (m : Nat) (v : Int) (hm : m ≤ 63) : IntKind.wrap .i64 (spread m (uns v) : Nat) = sx m v := by
  have hlt := spread_lt m (uns v) hm
  have hu := uns_cast v
  have hp : ((2 ^ m : Nat) : Int) = 2 ^ m := by simp
  have hp1 : ((2 ^ (m + 1) : Nat) : Int) = 2 ^ (m + 1) := by simp
  have hs : v % 2 ^ 64 / 2 ^ m % 2 = ((uns v / 2 ^ m % 2 : Nat) : Int) := by rw [← hu]; simp
  have hr : v % 2 ^ (m + 1) = ((uns v % 2 ^ (m + 1) : Nat) : Int) := by
    have h1 : v % 2 ^ (m + 1) = v % 2 ^ 64 % 2 ^ (m + 1) := by
      rw [Int.emod_emod_of_dvd]
      exact ⟨2 ^ (63 - m), by rw [← Int.pow_add]; congr 1; omega⟩
    rw [h1, ← hu]; simp
  have hmod : uns v % 2 ^ (m + 1) < 2 ^ (m + 1) := Nat.mod_lt _ (Nat.two_pow_pos _)
  have h64 : 2 ^ (m + 1) * 2 ^ (63 - m) = (2 : Nat) ^ 64 := by rw [← Nat.pow_add]; congr 1; omega
  unfold sx
  rw [hs, hr]
  have hle : (2 : Nat) ^ (m + 1) ≤ 2 ^ 64 := Nat.pow_le_pow_right (by decide) (by omega)
  have hdbl : (2 : Nat) ^ (m + 1) = 2 ^ m * 2 := Nat.pow_succ 2 m
  have hle2 : (2 : Nat) ^ m ≤ 2 ^ 63 := Nat.pow_le_pow_right (by decide) hm
  have hhi : uns v % 2 ^ (m + 1) / 2 ^ m = uns v / 2 ^ m % 2 := by rw [hdbl, Nat.mod_mul_right_div_self]
  rcases Nat.mod_two_eq_zero_or_one (uns v / 2 ^ m) with h | h
  · rw [h, if_neg (by decide)]
    have e : spread m (uns v) = uns v % 2 ^ (m + 1) := by unfold spread; rw [h]; simp
    rw [e]
    have : uns v % 2 ^ (m + 1) < 2 ^ m := by
      rw [h] at hhi
      exact (Nat.div_eq_zero_iff.1 hhi).resolve_left (by have := Nat.two_pow_pos m; omega)
    exact wrap64_id (by unfold I64; omega)
  · rw [h, if_pos (by rfl)]
    have e : spread m (uns v) + 2 ^ (m + 1) = 2 ^ 64 + uns v % 2 ^ (m + 1) := by
      unfold spread
      rw [h, Nat.one_mul, Nat.mul_sub, Nat.mul_one, h64]
      omega
    have h2 : 2 ^ m ≤ uns v % 2 ^ (m + 1) := by
      rw [h] at hhi
      have := Nat.div_mul_le_self (uns v % 2 ^ (m + 1)) (2 ^ m)
      rw [hhi] at this; omega
    have : ((spread m (uns v) : Nat) : Int) = ((uns v % 2 ^ (m + 1) : Nat) : Int) - 2 ^ (m + 1) + 2 ^ 64 := by rw [← hp1]; omega
    rw [this]
    have hw : ∀ n : Int, IntKind.wrap .i64 (n + 2 ^ 64) = IntKind.wrap .i64 n := fun n => by
      have h3 : (n + 2 ^ 64) % 2 ^ IntKind.i64.bits = n % 2 ^ IntKind.i64.bits := Int.add_emod_right ..
      simp only [IntKind.wrap, h3]
    rw [hw]
    rw [← hp1]
    exact wrap64_id (by unfold I64; omega)
/-- The reference's sign. -/
theorem l01Sign_eq (v n : Int) (h0 : 1 ≤ n) (h1 : n ≤ 8) : S_spec_l01Sign ((v, (n, ())), ()) = some (sx (8 * n - 1).toNat v, ()) := by
  unfold S_spec_l01Sign
  obtain ⟨k, hk⟩ : ∃ k : Nat, n = k := ⟨n.toNat, by omega⟩
  subst hk
  generalize hm : (8 * (k : Int) - 1).toNat = m
  have hm63 : m ≤ 63 := by omega
  refine (iter_eq (fun x => x.1.1 = v ∧ x.1.2.1 = (k : Int) ∧ -1 ≤ x.1.2.2.2.1 ∧ x.1.2.2.2.1 ≤ 63 ∧ x.1.2.2.1 = ((spread m (uns v) / 2 ^ (x.1.2.2.2.1 + 1).toNat : Nat) : Int)) (fun x => (x.1.2.2.2.1 + 1).toNat)
    (fun _ => some (sx m v, ())) ?_ F _ ⟨rfl, rfl, by show (-1 : Int) ≤ 63; decide, by show (63 : Int) ≤ 63; decide, ?_⟩ (by show ((63 : Int) + 1).toNat < F; decide)).trans rfl
  · rintro ⟨⟨v', k', acc, i, _⟩, _⟩ rec ⟨rfl, hk', h2, h3, hacc⟩ hrec
    dsimp only at hk' h2 h3 hacc hrec ⊢
    subst hk'
    by_cases hi : 0 ≤ i
    · obtain ⟨j, rfl⟩ := Int.eq_ofNat_of_zero_le hi
      rw [br_pos (le_t hi)]
      have e1 : subI .i64 (mulI .i64 8 (k : Int)) 1 = (m : Int) := by
        rw [mul_id (by unfold I64; omega), sub_id (by unfold I64; omega)]; omega
      rw [e1]
      have e2 : imin (j : Int) (m : Int) = ((min j m : Nat) : Int) := by unfold imin; split <;> omega
      rw [e2, l01Bit_eq _ _ (by omega) (by omega), bnd_s]
      dsimp only
      have e3 : v' % 2 ^ 64 / 2 ^ (((min j m : Nat) : Int)).toNat % 2 = ((spread m (uns v') / 2 ^ j % 2 : Nat) : Int) := by
        rw [spread_bit m _ j hm63 (by omega), ← uns_cast]; simp
      rw [e3]
      have hlt := spread_lt m (uns v') hm63
      have e4 : spread m (uns v') / 2 ^ (((j : Int) + 1).toNat) = spread m (uns v') / 2 ^ j / 2 := by
        rw [show ((j : Int) + 1).toNat = j + 1 by omega, Nat.pow_succ, Nat.div_div_eq_div_mul]
      rw [e4] at hacc
      generalize hq : spread m (uns v') / 2 ^ j = q at hacc ⊢
      have hq2 : q < 2 ^ 64 := by rw [← hq]; exact Nat.lt_of_le_of_lt (Nat.div_le_self _ _) hlt
      have e5 : addI .u64 (mulI .u64 2 acc) (wrapI .u64 ((q % 2 : Nat) : Int)) = (q : Int) := by
        unfold addI mulI wrapI
        rw [hacc, wrapU_id (n := 2 * ((q / 2 : Nat) : Int)) (by omega) (by omega), wrapU_id (n := ((q % 2 : Nat) : Int)) (by omega) (by omega), wrapU_id (by omega) (by omega)]
        omega
      rw [e5, sub_id (by unfold I64; omega)]
      refine hrec _ ⟨rfl, rfl, by dsimp only; omega, by dsimp only; omega, ?_⟩ (by dsimp only; omega)
      dsimp only
      rw [show ((j : Int) - 1 + 1).toNat = j by omega, hq]
    · rw [br_neg (le_f hi)]
      have : i = -1 := by omega
      subst this
      rw [hacc]
      have : spread m (uns v') / 2 ^ ((-1 : Int) + 1).toNat = spread m (uns v') := by simp
      rw [this]
      show some (IntKind.wrap .i64 _, ()) = _
      rw [spread_sx m v' hm63]
  · have hlt := spread_lt m (uns v) hm63
    show (0 : Int) = ((spread m (uns v) / 2 ^ ((63 : Int) + 1).toNat : Nat) : Int)
    rw [show ((63 : Int) + 1).toNat = 64 from rfl, Nat.div_eq_of_lt hlt]; rfl
/-- The program's sign. -/
theorem sign_eq (v n : Int) (h0 : 1 ≤ n) (h1 : n ≤ 8) : S_impl_sign ((v, (n, ())), ()) = some (sx (8 * n - 1).toNat v, ()) := by
  unfold S_impl_sign
  dsimp only
  have e : subI .i64 64 (mulI .i64 8 n) = 64 - 8 * n := by rw [mul_id (by unfold I64; omega), sub_id (by unfold I64; omega)]
  rw [e, br_pos (le_t (by omega)), br_pos (le_t (by omega))]
  congr 2
  obtain ⟨m, hm⟩ : ∃ m : Nat, 8 * n - 1 = m := ⟨(8 * n - 1).toNat, by omega⟩
  have hn : 64 - 8 * n = ((63 - m : Nat) : Int) := by omega
  rw [hm, hn]
  have hm63 : m ≤ 63 := by omega
  simp only [Int.toNat_natCast]
  unfold ishr ishl
  rw [show min (((63 - m : Nat) : Int)).toNat IntKind.i64.bits = 63 - m by simp [IntKind.bits]; omega]
  have hp : (0 : Int) < 2 ^ (63 - m) := Int.pow_pos (by decide)
  rw [Int.fdiv_eq_ediv_of_nonneg _ (Int.le_of_lt hp)]
  have h64 : (2 : Int) ^ (m + 1) * 2 ^ (63 - m) = 2 ^ 64 := by rw [← Int.pow_add]; congr 1; omega
  have h63 : (2 : Int) ^ m * 2 ^ (63 - m) = 2 ^ 63 := by rw [← Int.pow_add]; congr 1; omega
  have hr := Int.emod_nonneg v (show (2 : Int) ^ (m + 1) ≠ 0 from Int.ne_of_gt (Int.pow_pos (by decide)))
  have hr2 := Int.emod_lt_of_pos v (show (0 : Int) < 2 ^ (m + 1) from Int.pow_pos (by decide))
  -- the sign
  have hsv : v % 2 ^ 64 / 2 ^ m % 2 = v % 2 ^ (m + 1) / 2 ^ m := by
    have h1 : v % 2 ^ (m + 1) = v % 2 ^ 64 % 2 ^ (m + 1) := by
      rw [Int.emod_emod_of_dvd]
      exact ⟨2 ^ (63 - m), h64.symm⟩
    rw [h1, Int.pow_succ 2 m]
    have hu := uns_cast v
    rw [← hu]
    have : ((2 : Int) ^ m) = ((2 ^ m : Nat) : Int) := by simp
    rw [this]
    have h2 : ((2 ^ m : Nat) : Int) * 2 = ((2 ^ m * 2 : Nat) : Int) := by simp
    rw [h2]
    rw [← Int.natCast_ediv, ← Int.natCast_emod, ← Int.natCast_ediv, Nat.mod_mul_right_div_self]
    simp
  have hdm : v = v % 2 ^ (m + 1) + 2 ^ (m + 1) * (v / 2 ^ (m + 1)) := (Int.emod_add_mul_ediv ..).symm
  have hmul : v * 2 ^ (63 - m) % 2 ^ 64 = v % 2 ^ (m + 1) * 2 ^ (63 - m) := by
    rw [← h64, Int.mul_comm v, Int.mul_comm (2 ^ (m + 1)), Int.mul_emod_mul_of_pos _ _ hp, Int.mul_comm]
  unfold sx
  rw [hsv]
  generalize v % 2 ^ (m + 1) = r at *
  have hpm : (0 : Int) < 2 ^ m := Int.pow_pos (by decide)
  have hdbl : (2 : Int) ^ (m + 1) = 2 ^ m * 2 := Int.pow_succ 2 m
  simp only [IntKind.wrap, IntKind.bits, IntKind.signed, Bool.true_and, decide_eq_true_eq, ge_iff_le]
  rw [show ((64 : Nat) - 1) = 63 from rfl, hmul]
  by_cases hs : (2 : Int) ^ m ≤ r
  · have hq : r / 2 ^ m = 1 := by
      rw [Int.ediv_eq_iff_of_pos hpm]
      omega
    rw [hq, if_pos rfl]
    have hge : (2 : Int) ^ 63 ≤ r * 2 ^ (63 - m) := by rw [← h63]; exact Int.mul_le_mul_of_nonneg_right hs (Int.le_of_lt hp)
    rw [if_pos hge, ← h64, ← Int.sub_mul, Int.mul_ediv_cancel _ (Int.ne_of_gt hp)]
  · have hq : r / 2 ^ m = 0 := Int.ediv_eq_zero_of_lt hr (by omega)
    rw [hq]
    have hge : ¬ (2 : Int) ^ 63 ≤ r * 2 ^ (63 - m) := by
      rw [← h63, Int.not_le]
      exact Int.mul_lt_mul_of_pos_right (by omega) hp
    rw [if_neg hge, if_neg (by decide), Int.mul_ediv_cancel _ (Int.ne_of_gt hp)]
theorem fits_eq (v n : Int) (h0 : 1 ≤ n) (h1 : n ≤ 4) : S_impl_fits ((v, (n, ())), ()) = S_spec_l05Fits ((v, (n, ())), ()) := by
  unfold S_impl_fits S_spec_l05Fits
  dsimp only
  rw [sign_eq v n h0 (by omega), show imin n 4 = n by unfold imin; split <;> omega, l01Sign_eq v n h0 (by omega)]
def fitsB (v n : Int) : Bool := eqI (sx (8 * n - 1).toNat v) v
theorem l05Fits_eq (v n : Int) (h0 : 1 ≤ n) (h1 : n ≤ 4) : S_spec_l05Fits ((v, (n, ())), ()) = some (fitsB v n, ()) := by
  unfold S_spec_l05Fits
  dsimp only
  rw [show imin n 4 = n by unfold imin; split <;> omega, l01Sign_eq v n h0 (by omega), bnd_s]
  rfl
end Go.Den.G
namespace Go.Den.G
set_option linter.unusedSimpArgs false
open Go.Den

def inB (a b c : Int) : Bool := decide (b ≤ a) && decide (a ≤ c)
theorem l01In_eq (a b c : Int) : S_spec_l01In ((a, (b, (c, ()))), ()) = some (inB a b c, ()) := by
  unfold S_spec_l01In inB
  dsimp only
  by_cases h : b ≤ a
  · rw [br_pos (le_t h), bnd_s]; simp [leI, h]
  · rw [br_neg (le_f h), bnd_s]; simp [h]
theorem within_eq (a b c : Int) : S_impl_within ((a, (b, (c, ()))), ()) = some (inB a b c, ()) := l01In_eq a b c
theorem and_eq (a b : Bool) : br a (some b) (some false) = some (a && b) := by cases a <;> rfl
theorem or_eq (a b : Bool) : br a (some true) (some b) = some (a || b) := by cases a <;> rfl
theorem l14Label_eq (a : Int) : S_spec_l14Label ((a, ()), ()) = some (inB a 0 31, ()) := by
  unfold S_spec_l14Label; rw [l01In_eq]; rfl
theorem isLabel_eq (a : Int) : S_impl_isLabel ((a, ()), ()) = some (inB a 0 31, ()) := by
  unfold S_impl_isLabel; rw [within_eq]; rfl
def regB (a : Int) : Bool := inB a 0 14 && !eqI a 4 && !eqI a 5 && !eqI a 11
theorem l14Reg_eq (a : Int) : S_spec_l14Reg ((a, ()), ()) = some (regB a, ()) := by
  unfold S_spec_l14Reg regB
  rw [l01In_eq, bnd_s]
  simp only [and_eq, bnd_s, notB_not]
theorem isOwnReg_eq (a : Int) : S_impl_isOwnReg ((a, ()), ()) = some (regB a, ()) := by
  unfold S_impl_isOwnReg regB S_impl_isStackReg
  rw [within_eq, bnd_s]
  simp only [and_eq, or_eq, bnd_s, notB_not]
  congr 2
  simp [Bool.and_assoc]
theorem l14Disp_eq (a : Int) : S_spec_l14Disp ((a, ()), ()) = some (inB a (-2048) 2047, ()) := by
  unfold S_spec_l14Disp; rw [l01In_eq]; rfl
/-- Is it a statement? -/
def stmtB (s : Stm) : Bool :=
  if s.kind = 1 ∨ s.kind = 10 ∨ s.kind = 12 then inB s.a 0 31 && (eqI s.b 0 && eqI s.c 0)
  else if s.kind = 2 then regB s.a && (fitsB s.b 4 && eqI s.c 0)
  else if s.kind = 3 then regB s.a && (regB s.b && eqI s.c 0)
  else if s.kind = 4 then inB s.a 1 8 && (regB s.b && regB s.c)
  else if s.kind = 5 ∨ s.kind = 6 then regB s.a && (regB s.b && inB s.c (-2048) 2047)
  else if s.kind = 7 ∨ s.kind = 8 ∨ s.kind = 16 then regB s.a && (eqI s.b 0 && eqI s.c 0)
  else if s.kind = 9 then inB s.a (-256) 256 && (eqI (remI s.a 8) 0 && (eqI s.b 0 && eqI s.c 0))
  else if s.kind = 11 then inB s.a 0 15 && (inB s.b 0 31 && eqI s.c 0)
  else if s.kind = 13 ∨ s.kind = 15 then eqI s.a 0 && (eqI s.b 0 && eqI s.c 0)
  else if s.kind = 14 then inB s.a 0 7 && (eqI s.b 0 && eqI s.c 0)
  else if s.kind = 17 then regB s.a && (inB s.b 0 31 && eqI s.c 0)
  else false
theorem kinds (k : Int) : k = 1 ∨ k = 2 ∨ k = 3 ∨ k = 4 ∨ k = 5 ∨ k = 6 ∨ k = 7 ∨ k = 8 ∨ k = 9 ∨ k = 10 ∨ k = 11 ∨ k = 12 ∨ k = 13 ∨ k = 14 ∨ k = 15 ∨ k = 16 ∨ k = 17 ∨ (k < 1 ∨ 17 < k) := by omega
theorem fits4 (v : Int) : S_spec_l05Fits ((v, (4, ())), ()) = some (fitsB v 4, ()) := l05Fits_eq v 4 (by decide) (by decide)
theorem fits4' (v : Int) : S_impl_fits ((v, (4, ())), ()) = some (fitsB v 4, ()) := (fits_eq v 4 (by decide) (by decide)).trans (fits4 v)
theorem impl_StmtOK_eq (s : Stm) : S_impl_StmtOK ((s, ()), ()) = some (stmtB s, ()) := by
  obtain ⟨k, a, b, c⟩ := s
  unfold S_impl_StmtOK stmtB
  simp only [isOwnReg_eq, isLabel_eq, within_eq, fits4', bnd_s, and_eq]
  rcases kinds k with h | h | h | h | h | h | h | h | h | h | h | h | h | h | h | h | h | h
  all_goals first
    | (subst h; simp [isOwnReg_eq, isLabel_eq, within_eq, fits4', eqI, br_t, br_f, bnd_s, sumE_l, sumE_r, and_eq, Bool.and_assoc])
    | (simp [isOwnReg_eq, isLabel_eq, within_eq, fits4', eqI, br_t, br_f, bnd_s, sumE_l, sumE_r, and_eq, show k ≠ 1 by omega, show k ≠ 2 by omega, show k ≠ 3 by omega, show k ≠ 4 by omega, show k ≠ 5 by omega, show k ≠ 6 by omega, show k ≠ 7 by omega, show k ≠ 8 by omega, show k ≠ 9 by omega, show k ≠ 10 by omega, show k ≠ 11 by omega, show k ≠ 12 by omega, show k ≠ 13 by omega, show k ≠ 14 by omega, show k ≠ 15 by omega, show k ≠ 16 by omega, show k ≠ 17 by omega])
theorem spec_StmtOK_eq (s : Stm) : S_spec_StmtOK ((s, ()), ()) = some (stmtB s, ()) := by
  obtain ⟨k, a, b, c⟩ := s
  unfold S_spec_StmtOK stmtB
  simp only [l14Reg_eq, l14Label_eq, l01In_eq, l14Disp_eq, fits4, bnd_s, and_eq]
  rcases kinds k with h | h | h | h | h | h | h | h | h | h | h | h | h | h | h | h | h | h
  all_goals first
    | (subst h; simp [l14Reg_eq, l14Label_eq, l01In_eq, l14Disp_eq, fits4, eqI, br_t, br_f, bnd_s, sumE_l, sumE_r, and_eq]; try (cases decide (c = 0) <;> cases decide (b = 0) <;> simp [Bool.and_assoc, Bool.and_comm, Bool.and_left_comm]))
    | (simp [l14Reg_eq, l14Label_eq, l01In_eq, l14Disp_eq, fits4, eqI, br_t, br_f, bnd_s, sumE_l, sumE_r, and_eq, show k ≠ 1 by omega, show k ≠ 2 by omega, show k ≠ 3 by omega, show k ≠ 4 by omega, show k ≠ 5 by omega, show k ≠ 6 by omega, show k ≠ 7 by omega, show k ≠ 8 by omega, show k ≠ 9 by omega, show k ≠ 10 by omega, show k ≠ 11 by omega, show k ≠ 12 by omega, show k ≠ 13 by omega, show k ≠ 14 by omega, show k ≠ 15 by omega, show k ≠ 16 by omega, show k ≠ 17 by omega])
end Go.Den.G
namespace Go.Den.G
open Go.Den

end Go.Den.G
namespace Go.Den.G
open Go.Den

/-! ### a text's pieces between blanks, and its words -/
def pieces : List UInt8 → List (List UInt8)
  | [] => [[]]
  | c :: r => if c = 32 then [] :: pieces r else match pieces r with
    | p :: ps => (c :: p) :: ps
    | [] => [[c]]
def full (p : List UInt8) : Bool := !(p.isEmpty)
def wds (s : List UInt8) : List (List UInt8) := (pieces s).filter full
theorem pieces_none : ∀ {s : List UInt8}, (∀ c ∈ s, c ≠ 32) → pieces s = [s]
  | [], _ => rfl
  | c :: r, h => by
    unfold pieces
    rw [if_neg (h c (by simp)), pieces_none fun d hd => h d (by simp [hd])]
theorem pieces_cut : ∀ {a b : List UInt8}, (∀ c ∈ a, c ≠ 32) → pieces (a ++ 32 :: b) = a :: pieces b
  | [], b, _ => by simp [pieces]
  | c :: r, b, h => by
    rw [List.cons_append, pieces, if_neg (h c (by simp)), pieces_cut (a := r) (b := b) fun d hd => h d (by simp [hd])]
theorem pieces_len : ∀ s : List UInt8, (pieces s).length ≤ s.length + 1
  | [] => by simp [pieces]
  | c :: r => by
    have := pieces_len r
    unfold pieces
    split
    · simp; omega
    · split
      · rename_i h; rw [h] at this; simp at this ⊢; omega
      · simp
/-- What a cut at blanks comes to. -/
theorem splitK_pieces : ∀ (n : Nat) (s : List UInt8), s.length ≤ n → Go.Lib.splitK [32] 0 (Go.Lib.count s [32]) s = pieces s := by
  intro n
  induction n with
  | zero =>
    intro s hs
    have : s = [] := List.length_eq_zero_iff.1 (by omega)
    subst this
    rw [Go.Lib.count_miss (by rw [Go.Lib.index_one]; rfl)]
    rfl
  | succ n ih =>
    intro s hs
    by_cases h : Go.Lib.indexByte s 32 = -1
    · rw [Go.Lib.count_miss (by rw [Go.Lib.index_one]; exact h)]
      rw [pieces_none fun c hc e => ?_]
      · rfl
      · obtain ⟨k, hk⟩ := List.getElem?_of_mem hc
        exact Go.Lib.indexByte_none h k (by rw [hk, e])
    · obtain ⟨i, hi⟩ : ∃ i : Nat, Go.Lib.indexByte s 32 = i := by
        have := Go.Lib.indexByte_ge s 32
        exact ⟨(Go.Lib.indexByte s 32).toNat, by omega⟩
      obtain ⟨h1, h2⟩ := Go.Lib.indexByte_some hi
      have hx : Go.Lib.index s [32] = i := by rw [Go.Lib.index_one]; exact hi
      have hlt : i < s.length := by
        rcases Nat.lt_or_ge i s.length with g | g
        · exact g
        · rw [List.getElem?_eq_none g] at h1; cases h1
      rw [Go.Lib.count_hit (by simp) hx, Nat.add_comm 1, Go.Lib.splitK, if_neg (by rw [hx]; simp), hx]
      simp only [Int.toNat_natCast, List.length_cons, List.length_nil, Nat.add_zero, Nat.zero_add]
      rw [ih _ (by rw [List.length_drop]; omega)]
      have e : s = s.take i ++ 32 :: s.drop (i + 1) := by
        have h3 : s[i] = 32 := by rw [List.getElem?_eq_getElem hlt] at h1; exact Option.some.inj h1
        rw [← h3, ← List.drop_eq_getElem_cons hlt, List.take_append_drop]
      conv => rhs; rw [e]
      rw [pieces_cut fun c hc ec => ?_]
      obtain ⟨k, hk⟩ := List.getElem?_of_mem hc
      rw [List.getElem?_take] at hk
      split at hk
      · rename_i hki
        exact h2 k hki (by rw [hk, ec])
      · cases hk
theorem splitL_eq (s : List UInt8) : splitL s [32] = pieces s := by
  unfold splitL
  rw [show (fun b : ByteArray => b.data.toList) = (·.data.toList) from rfl, Go.Lib.splitB_data]
  show Go.Lib.splitK [32] 0 (Go.Lib.count _ _) _ = _
  exact splitK_pieces s.length s (Nat.le_refl _)

/-! ### empty pieces are left out -/
theorem empty_eq (t : List UInt8) : S_impl_wordsOf_1 ((t, ()), ()) = some (!full t, ()) := by
  unfold S_impl_wordsOf_1 full eqS
  cases t <;> simp
theorem indexEmpty (xs : List (List UInt8)) (hl : xs.length ≤ 1000000) :
    S_slices_IndexFunc_string_cimpl_wordsOf_1 ((xs, ()), ()) = some ((match xs.findIdx? (fun x => !full x) with | some n => (n : Int) | none => -1), ()) := by
  unfold S_slices_IndexFunc_string_cimpl_wordsOf_1
  refine (iter_eq (fun x => x.1.1 = xs ∧ x.1.2.1 = (xs.length : Int) ∧ 0 ≤ x.1.2.2.1 ∧ x.1.2.2.1 ≤ (xs.length : Int)) (fun x => xs.length - x.1.2.2.1.toNat)
    (fun x => some ((match (xs.drop x.1.2.2.1.toNat).findIdx? (fun x => !full x) with | some n => x.1.2.2.1 + (n : Int) | none => -1), ())) ?_ F _ ⟨rfl, rfl, Int.le_refl 0, by show (0 : Int) ≤ _; omega⟩ (by show xs.length - 0 < F; unfold F; omega)).trans ?_
  · rintro ⟨⟨ys, n, i, _⟩, _⟩ rec ⟨h2, h3, h0, h1⟩ hrec
    dsimp only at h0 h1 h2 h3 hrec ⊢
    subst h2 h3
    obtain ⟨j, rfl⟩ := Int.eq_ofNat_of_zero_le h0
    simp only [lenL_nat]
    by_cases hj : j < ys.length
    · rw [br_pos (lt_t (by omega)), br_pos (inR_t h0 (by omega)), getL_nat hj, empty_eq, bnd_s, Int.toNat_natCast, List.drop_eq_getElem_cons hj, List.findIdx?_cons]
      dsimp only
      cases hf : full ys[j] with
      | false => simp [br_t]
      | true =>
        rw [Bool.not_true, br_f, add_id (by unfold I64; omega), hrec _ ⟨rfl, rfl, by dsimp only; omega, by dsimp only; omega⟩ (by dsimp only; omega)]
        dsimp only
        rw [show ((j : Int) + 1).toNat = j + 1 by omega]
        cases (List.drop (j + 1) ys).findIdx? (fun x => !full x) with
        | none => rfl
        | some k => simp only [Option.map_some]; exact congrArg (fun z : Int => some (z, ())) (by show (j : Int) + 1 + k = j + ((k + 1 : Nat) : Int); omega)
    · rw [br_neg (lt_f (by omega)), Int.toNat_natCast, List.drop_eq_nil_of_le (by omega)]
      rfl
  · dsimp only
    simp only [Int.toNat_zero, List.drop_zero, Int.zero_add]
theorem filter_one {α : Type} {p : α → Bool} {x : α} : [x].filter p = if p x = true then [x] else [] := by
  cases h : p x <;> simp [h]
theorem filter_none {α : Type} {p : α → Bool} : ∀ {xs : List α}, xs.findIdx? (fun x => !p x) = none → xs.filter p = xs := fun {xs} h => by
  rw [List.findIdx?_eq_none_iff] at h
  exact List.filter_eq_self.2 fun x hx => by simpa using h x hx
theorem drop_cons4 {α : Type} {xs ys : List α} {j : Nat} (h : ys.drop j = xs.drop j) (h1 : j < xs.length) (h2 : j < ys.length) : ys[j] = xs[j] ∧ ys.drop (j + 1) = xs.drop (j + 1) := by
  rw [List.drop_eq_getElem_cons h1, List.drop_eq_getElem_cons h2] at h
  exact ⟨(List.cons.inj h).1, (List.cons.inj h).2⟩
theorem deleteEmpty (xs : List (List UInt8)) (hl : xs.length ≤ 1000000) : S_slices_DeleteFunc_string_cimpl_wordsOf_1 ((), (xs, ())) = some (xs.filter full, ()) := by
  unfold S_slices_DeleteFunc_string_cimpl_wordsOf_1
  dsimp only
  rw [indexEmpty xs hl, bnd_s]
  dsimp only
  cases hi : xs.findIdx? (fun x => !full x) with
  | none =>
    dsimp only
    rw [br_pos (eq_t rfl), filter_none hi]
  | some n =>
    rw [List.findIdx?_eq_some_iff_getElem] at hi
    obtain ⟨hn, hb, ha⟩ := hi
    dsimp only
    rw [br_neg (eq_f (by omega))]
    have e0 : (xs.take (n + 1)).filter full = xs.take n := by
      rw [List.take_succ_eq_append_getElem hn, List.filter_append, List.filter_eq_self.2, filter_one]
      · have : full xs[n] = false := by simpa using hb
        rw [this]; simp
      · intro x hx
        obtain ⟨k, hk⟩ := List.getElem_of_mem hx
        obtain ⟨hk1, hk2⟩ := hk
        rw [List.length_take] at hk1
        have := ha k (by omega)
        rw [List.getElem_take] at hk2
        rw [← hk2]; simpa using this
    refine iter_eq (fun x => 0 ≤ x.1.1 ∧ x.1.1 < x.1.2.1 ∧ x.1.2.1 ≤ (xs.length : Int) ∧ x.2.1.length = xs.length ∧ x.2.1.take x.1.1.toNat = (xs.take x.1.2.1.toNat).filter full ∧ x.2.1.drop x.1.2.1.toNat = xs.drop x.1.2.1.toNat)
      (fun x => xs.length - x.1.2.1.toNat) (fun _ => some (xs.filter full, ())) ?_ F _ ?_ (by show xs.length - _ < F; unfold F; omega)
    · rintro ⟨⟨i, j, _⟩, ys, _⟩ rec ⟨h0, h1, h2, h3, h4, h5⟩ hrec
      dsimp only at h0 h1 h2 h3 h4 h5 hrec ⊢
      obtain ⟨a, rfl⟩ := Int.eq_ofNat_of_zero_le h0
      obtain ⟨b, rfl⟩ := Int.eq_ofNat_of_zero_le (show 0 ≤ j by omega)
      simp only [Int.toNat_natCast] at h4 h5
      simp only [lenL_nat, h3]
      by_cases hb2 : b < xs.length
      · obtain ⟨e1, e2⟩ := drop_cons4 h5 hb2 (by omega)
        rw [br_pos (lt_t (by omega)), br_pos (inR_t (by omega) (by omega)), getL_nat (by omega), empty_eq, bnd_s]
        dsimp only
        rw [notB_not, Bool.not_not, e1]
        cases hf : full xs[b] with
        | false =>
          rw [br_f, bnd_s, sumE_l]
          dsimp only
          rw [add_id (by unfold I64; omega)]
          refine hrec _ ⟨by dsimp only; omega, by dsimp only; omega, by dsimp only; omega, h3, ?_, ?_⟩ (by dsimp only; omega)
          · dsimp only
            rw [show ((b : Int) + 1).toNat = b + 1 by omega, Int.toNat_natCast, h4, List.take_succ_eq_append_getElem hb2, List.filter_append, filter_one, hf]; simp
          · dsimp only
            rw [show ((b : Int) + 1).toNat = b + 1 by omega]; exact e2
        | true =>
          rw [br_t, br_pos (inR_t (by omega) (by omega)), bnd_s, sumE_l]
          dsimp only
          rw [add_id (by unfold I64; omega), add_id (by unfold I64; omega)]
          refine hrec _ ⟨by dsimp only; omega, by dsimp only; omega, by dsimp only; omega, by unfold setL; simpa using h3, ?_, ?_⟩ (by dsimp only; omega)
          · dsimp only
            rw [show ((b : Int) + 1).toNat = b + 1 by omega, show ((a : Int) + 1).toNat = a + 1 by omega]
            unfold setL
            rw [Int.toNat_natCast, List.take_succ_eq_append_getElem (by rw [List.length_set]; omega), List.getElem_set_self, List.take_set_of_le (Nat.le_refl a), h4, List.take_succ_eq_append_getElem hb2, List.filter_append, filter_one, hf]
            simp
          · dsimp only
            rw [show ((b : Int) + 1).toNat = b + 1 by omega]
            unfold setL
            rw [Int.toNat_natCast, List.drop_set_of_lt (by omega)]; exact e2
      · have hbl : b = xs.length := by omega
        subst hbl
        rw [br_neg (lt_f (by omega)), br_pos (inC_t (by omega) (by omega)), br_pos (lt_t (by omega))]
        have hcl : ((clrL ys (a : Int) (dflt .s)).length : Int) = xs.length := by
          unfold clrL takeL repL lenL
          simp; omega
        rw [br_pos (inC_t (by omega) (by omega))]
        unfold clrL takeL
        rw [List.take_length] at h4
        rw [Int.toNat_natCast, List.take_append_of_le_length (by rw [List.length_take]; omega), List.take_take, Nat.min_self, h4]
    · refine ⟨by dsimp only; omega, by dsimp only; rw [add_id (by unfold I64; omega)]; omega, by dsimp only; rw [add_id (by unfold I64; omega)]; omega, rfl, ?_, rfl⟩
      dsimp only
      rw [add_id (by unfold I64; omega), show ((n : Int) + 1).toNat = n + 1 by omega, e0, Int.toNat_natCast]
theorem wordsOf_eq (s : List UInt8) (hl : s.length ≤ 65536) : S_impl_wordsOf ((s, ()), ()) = some (wds s, ()) := by
  unfold S_impl_wordsOf
  dsimp only
  rw [br_pos (by unfold splitLim; simp; omega), splitL_eq, deleteEmpty _ (by have := pieces_len s; omega), bnd_s]
  rfl

/-! ### the reference's words -/
theorem byteAt_nat {s : List UInt8} {i : Nat} (h : i < s.length) : byteAt s (i : Int) = ((s[i].toNat : Nat) : Int) := by
  unfold byteAt; rw [Int.toNat_natCast, List.getD_eq_getElem?_getD, List.getElem?_eq_getElem h]; rfl
theorem blank_iff {c : UInt8} : ((c.toNat : Nat) : Int) = 32 ↔ c = 32 := by
  constructor
  · intro h
    have : c.toNat = 32 := by omega
    exact UInt8.toNat_inj.1 (by rw [this]; rfl)
  · rintro rfl; rfl
def cutL (s : List UInt8) (a b : Nat) : List UInt8 := (s.take b).drop a
theorem drop_split {s : List UInt8} {a i : Nat} (h : a ≤ i) (hi : i < s.length) : s.drop a = cutL s a i ++ s[i] :: s.drop (i + 1) := by
  unfold cutL
  rw [← List.drop_eq_getElem_cons hi]
  conv => lhs; rw [← List.take_append_drop i s]
  rw [List.drop_append_of_le_length (by rw [List.length_take]; omega)]
theorem cut_full {s : List UInt8} {a i : Nat} (h : a ≤ i) (hi : i ≤ s.length) : full (cutL s a i) = decide (a < i) := by
  unfold full cutL
  have hl : ((s.take i).drop a).length = i - a := by rw [List.length_drop, List.length_take]; omega
  by_cases g : a < i
  · rw [decide_eq_true g]
    cases hx : (s.take i).drop a with
    | nil => rw [hx] at hl; simp at hl; omega
    | cons => rfl
  · rw [decide_eq_false g]
    have : (s.take i).drop a = [] := List.length_eq_zero_iff.1 (by omega)
    rw [this]; rfl
theorem wds_cut {s : List UInt8} {a i : Nat} (h : a ≤ i) (hi : i < s.length) (hb : s[i] = 32) (hn : ∀ c ∈ cutL s a i, c ≠ 32) :
    wds (s.drop a) = (if a < i then [cutL s a i] else []) ++ wds (s.drop (i + 1)) := by
  rw [drop_split h hi, hb]
  unfold wds
  rw [pieces_cut hn, List.filter_cons, cut_full h (by omega)]
  by_cases g : a < i <;> simp [g]
theorem wds_end {s : List UInt8} {a : Nat} (h : a ≤ s.length) (hn : ∀ c ∈ cutL s a s.length, c ≠ 32) :
    wds (s.drop a) = if a < s.length then [cutL s a s.length] else [] := by
  have e : s.drop a = cutL s a s.length := by unfold cutL; rw [List.take_length]
  rw [e]
  unfold wds
  rw [pieces_none hn, filter_one, cut_full h (Nat.le_refl _)]
  by_cases g : a < s.length <;> simp [g]
theorem cut_next {s : List UInt8} {a i : Nat} (h : a ≤ i) (hi : i < s.length) : cutL s a (i + 1) = cutL s a i ++ [s[i]] := by
  unfold cutL
  rw [List.take_succ_eq_append_getElem hi, List.drop_append_of_le_length (by rw [List.length_take]; omega)]
theorem l00Words_eq (s : List UInt8) (hl : s.length ≤ 16777216) : S_spec_l00Words ((s, ()), ()) = some (wds s, ()) := by
  unfold S_spec_l00Words
  refine (iter_eq (fun x => x.1.1 = s ∧ 0 ≤ x.1.2.1 ∧ x.1.2.1 ≤ x.1.2.2.1 ∧ x.1.2.2.1 ≤ (s.length : Int) + 1 ∧ x.2.1.length ≤ x.1.2.1.toNat ∧
      (x.1.2.2.1 ≤ (s.length : Int) → (∀ c ∈ cutL s x.1.2.1.toNat x.1.2.2.1.toNat, c ≠ 32) ∧ x.2.1 ++ wds (s.drop x.1.2.1.toNat) = wds s) ∧
      ((s.length : Int) < x.1.2.2.1 → x.2.1 = wds s))
    (fun x => s.length + 1 - x.1.2.2.1.toNat) (fun _ => some (wds s, ())) ?_ F _ ?_ (by show s.length + 1 - 0 < F; unfold F; omega)).trans ?_
  · rintro ⟨⟨s', a, i, _⟩, out, _⟩ rec ⟨rfl, h0, h1, h2, h3, h4, h5⟩ hrec
    dsimp only at h0 h1 h2 h3 h4 h5 hrec hl ⊢
    obtain ⟨u, rfl⟩ := Int.eq_ofNat_of_zero_le h0
    obtain ⟨k, rfl⟩ := Int.eq_ofNat_of_zero_le (show 0 ≤ i by omega)
    simp only [Int.toNat_natCast] at h3 h4
    simp only [lenL_nat]
    by_cases hk : (k : Int) ≤ s'.length
    · obtain ⟨g2, g3⟩ := h4 hk
      have huk : u ≤ k := by omega
      have hcut : dropL (takeL s' (k : Int)) (u : Int) = cutL s' u k := by unfold dropL takeL cutL; simp
      have hfit : fits2 out (cutL s' u k :: ([] : List (List UInt8))) = true := fits2_t (by simp; omega)
      rw [br_pos (le_t hk)]
      by_cases e1 : k = s'.length
      · rw [br_pos (eq_t (by omega)), bnd_s, br_t]
        have hw := wds_end (s := s') (a := u) (by omega) (by rw [← e1]; exact g2)
        by_cases g : u < k
        · rw [br_pos (lt_t (by omega)), br_pos (inC_t (by omega) (by omega)), br_pos (inC_t (by omega) (by omega)), hcut, br_pos hfit]
          simp only [bnd_s, sumE_l]
          rw [add_id (by unfold I64; omega)]
          refine hrec _ ⟨rfl, by dsimp only; omega, Int.le_refl _, by dsimp only; omega, by simp [appL]; omega, fun h => by dsimp only at h; omega, fun _ => ?_⟩ (by dsimp only; omega)
          dsimp only
          rw [← g3, hw, if_pos (by omega), e1]; rfl
        · rw [br_neg (lt_f (by omega))]
          simp only [bnd_s, sumE_l]
          rw [add_id (by unfold I64; omega)]
          refine hrec _ ⟨rfl, by dsimp only; omega, Int.le_refl _, by dsimp only; omega, by dsimp only; omega, fun h => by dsimp only at h; omega, fun _ => ?_⟩ (by dsimp only; omega)
          dsimp only
          rw [← g3, hw, if_neg (by omega), List.append_nil]
      · have hks : k < s'.length := by omega
        rw [br_neg (eq_f (by omega)), br_pos (inR_t (by omega) (by omega)), bnd_s, byteAt_nat hks]
        by_cases e2 : s'[k] = 32
        · rw [br_pos (eq_t (blank_iff.2 e2))]
          have hw := wds_cut huk hks e2 g2
          by_cases g : u < k
          · rw [br_pos (lt_t (by omega)), br_pos (inC_t (by omega) (by omega)), br_pos (inC_t (by omega) (by omega)), hcut, br_pos hfit]
            simp only [bnd_s, sumE_l]
            rw [add_id (by unfold I64; omega)]
            refine hrec _ ⟨rfl, by dsimp only; omega, Int.le_refl _, by dsimp only; omega, by simp [appL]; omega, fun _ => ⟨?_, ?_⟩, fun h => by dsimp only at h; omega⟩ (by dsimp only; omega)
            · dsimp only; simp [cutL]
            · dsimp only
              rw [show ((k : Int) + 1).toNat = k + 1 by omega, ← g3, hw, if_pos g]
              simp [appL]
          · rw [br_neg (lt_f (by omega))]
            simp only [bnd_s, sumE_l]
            rw [add_id (by unfold I64; omega)]
            refine hrec _ ⟨rfl, by dsimp only; omega, Int.le_refl _, by dsimp only; omega, by dsimp only; omega, fun _ => ⟨?_, ?_⟩, fun h => by dsimp only at h; omega⟩ (by dsimp only; omega)
            · dsimp only; simp [cutL]
            · dsimp only
              rw [show ((k : Int) + 1).toNat = k + 1 by omega, ← g3, hw, if_neg g, List.nil_append]
        · rw [br_neg (eq_f fun h => e2 (blank_iff.1 h))]
          simp only [bnd_s, sumE_l]
          rw [add_id (by unfold I64; omega)]
          refine hrec _ ⟨rfl, by dsimp only; omega, by dsimp only; omega, by dsimp only; omega, by dsimp only; omega, fun _ => ⟨?_, ?_⟩, fun h => by dsimp only at h; omega⟩ (by dsimp only; omega)
          · dsimp only
            rw [show ((k : Int) + 1).toNat = k + 1 by omega, Int.toNat_natCast, cut_next huk hks]
            intro c hc
            rcases List.mem_append.1 hc with hc | hc
            · exact g2 c hc
            · rw [List.mem_singleton.1 hc]; exact e2
          · dsimp only
            rw [Int.toNat_natCast]; exact g3
    · rw [br_neg (le_f hk), h5 (by omega)]
  · refine ⟨rfl, Int.le_refl 0, Int.le_refl 0, by dsimp only; omega, by simp, fun _ => ⟨by simp [cutL], by simp⟩, fun h => by dsimp only at h; omega⟩
  · rfl
end Go.Den.G
namespace Go.Den.G
open Go.Den

/-! ### numbers out of their digits -/
def isD (c : UInt8) : Bool := decide (48 ≤ c.toNat) && decide (c.toNat ≤ 57)
def valF (a : Nat) (l : List UInt8) : Nat := l.foldl (fun a c => a * 10 + (c.toNat - 48)) a
theorem valF_cons (a : Nat) (c : UInt8) (r : List UInt8) : valF a (c :: r) = valF (a * 10 + (c.toNat - 48)) r := by unfold valF; rw [List.foldl_cons]
theorem valF_snoc (a : Nat) (l : List UInt8) (c : UInt8) : valF a (l ++ [c]) = valF a l * 10 + (c.toNat - 48) := by unfold valF; rw [List.foldl_append, List.foldl_cons, List.foldl_nil]
theorem valF_ge : ∀ (l : List UInt8) (a : Nat), a ≤ valF a l
  | [], _ => Nat.le_refl _
  | c :: r, a => by rw [valF_cons]; exact Nat.le_trans (by omega) (valF_ge r _)
theorem valF_lt : ∀ (l : List UInt8) (a n : Nat), (∀ c ∈ l, isD c = true) → a < 10 ^ n → valF a l < 10 ^ (n + l.length)
  | [], a, n, _, h => by simpa [valF] using h
  | c :: r, a, n, hd, h => by
    rw [valF_cons, List.length_cons, show n + (r.length + 1) = n + 1 + r.length by omega]
    refine valF_lt r _ (n + 1) (fun d hd' => hd d (by simp [hd'])) ?_
    have := hd c (by simp)
    simp only [isD, Bool.and_eq_true, decide_eq_true_eq] at this
    rw [Nat.pow_succ]; omega
/-- Digits, none needless ahead. -/
def canon (d : List UInt8) : Prop := d ≠ [] ∧ (∀ c ∈ d, isD c = true) ∧ (d.head? = some 48 → d.length = 1)
theorem ofNat_digit {k : Nat} (h : k < 10) : (UInt8.ofNat (48 + k)).toNat = 48 + k := by
  rw [UInt8.toNat_ofNat']; omega
theorem digit_ofNat {c : UInt8} (h : isD c = true) : UInt8.ofNat (48 + (c.toNat - 48)) = c := by
  simp only [isD, Bool.and_eq_true, decide_eq_true_eq] at h
  apply UInt8.toNat_inj.1
  rw [ofNat_digit (by omega)]; omega
theorem dec_canon : ∀ (n u : Nat), u ≤ n → canon (Go.Lib.decDigits u) ∧ (1 ≤ u → (Go.Lib.decDigits u).head? ≠ some 48) ∧ valF 0 (Go.Lib.decDigits u) = u := by
  intro n
  induction n with
  | zero =>
    intro u hu
    have : u = 0 := by omega
    subst this
    rw [dec_small (by omega)]
    exact ⟨⟨by simp, by decide, by simp⟩, by omega, by decide⟩
  | succ n ih =>
    intro u hu
    by_cases h : u < 10
    · rw [dec_small h]
      have e := ofNat_digit h
      refine ⟨⟨by simp, fun c hc => ?_, by simp⟩, fun h1 hx => ?_, ?_⟩
      · rw [List.mem_singleton.1 hc]; unfold isD; rw [e]; simp; omega
      · simp only [List.head?_cons, Option.some.injEq] at hx
        have := congrArg UInt8.toNat hx
        rw [e] at this
        have h48 : (48 : UInt8).toNat = 48 := rfl
        omega
      · show 0 * 10 + ((UInt8.ofNat (48 + u)).toNat - 48) = u
        rw [e]; omega
    · obtain ⟨⟨h1, h2, h3⟩, h4, h5⟩ := ih (u / 10) (by omega)
      have e := ofNat_digit (show u % 10 < 10 by omega)
      have hh : (Go.Lib.decDigits (u / 10) ++ [UInt8.ofNat (48 + u % 10)]).head? = (Go.Lib.decDigits (u / 10)).head? := by
        cases hx : Go.Lib.decDigits (u / 10) with
        | nil => exact absurd hx h1
        | cons => rfl
      rw [dec_step h]
      refine ⟨⟨by simp, fun c hc => ?_, fun hx => ?_⟩, fun _ hx => ?_, ?_⟩
      · rcases List.mem_append.1 hc with hc | hc
        · exact h2 c hc
        · rw [List.mem_singleton.1 hc]; unfold isD; rw [e]; simp; omega
      · rw [hh] at hx; exact absurd hx (h4 (by omega))
      · rw [hh] at hx; exact absurd hx (h4 (by omega))
      · rw [valF_snoc, h5, e]; omega
theorem dec_val : ∀ (n : Nat) (d : List UInt8), d.length ≤ n → canon d → Go.Lib.decDigits (valF 0 d) = d := by
  intro n
  induction n with
  | zero => intro d hd hc; exact absurd (List.length_eq_zero_iff.1 (by omega)) hc.1
  | succ n ih =>
    intro d hd ⟨h1, h2, h3⟩
    obtain ⟨d', c, rfl⟩ : ∃ d' c, d = d' ++ [c] := ⟨d.dropLast, d.getLast h1, (List.dropLast_concat_getLast h1).symm⟩
    have hc : isD c = true := h2 c (by simp)
    have hc' := hc
    simp only [isD, Bool.and_eq_true, decide_eq_true_eq] at hc'
    rw [valF_snoc]
    cases hd' : d' with
    | nil =>
      show Go.Lib.decDigits (0 * 10 + (c.toNat - 48)) = [c]
      rw [show 0 * 10 + (c.toNat - 48) = c.toNat - 48 by omega, dec_small (by omega), digit_ofNat hc]
    | cons a r =>
      subst hd'
      have ha : isD a = true := h2 a (by simp)
      simp only [isD, Bool.and_eq_true, decide_eq_true_eq] at ha
      have hne : a ≠ 48 := fun e => by
        have := h3 (by simp [e])
        simp at this
      have ha1 : 1 ≤ a.toNat - 48 := by
        have : a.toNat ≠ 48 := fun e => hne (UInt8.toNat_inj.1 e)
        omega
      have hv : 1 ≤ valF 0 (a :: r) := by rw [valF_cons]; exact Nat.le_trans (by omega) (valF_ge r _)
      have hi := ih (a :: r) (by simp at hd ⊢; omega) ⟨by simp, fun x hx => h2 x (by simp at hx ⊢; rcases hx with h | h <;> simp [h]), fun hx => by simp at hx; exact absurd hx hne⟩
      rw [dec_step (by omega), show (valF 0 (a :: r) * 10 + (c.toNat - 48)) / 10 = valF 0 (a :: r) by omega, show (valF 0 (a :: r) * 10 + (c.toNat - 48)) % 10 = c.toNat - 48 by omega, hi, digit_ofNat hc]

/-! ### the reference's reading -/
def numS (t : List UInt8) : Int := if t.head? = some 45 then -1 else 1
def numD (t : List UInt8) : List UInt8 := if t.head? = some 45 then t.drop 1 else t
def okN (d : List UInt8) (sg : Int) : Bool := !(d.isEmpty) && decide (d.length ≤ 18) && !(decide (d.head? = some 48) && (decide (1 < d.length) || decide (sg < 0))) && d.all isD
def inner (x4 : (List UInt8 × (Int × Unit)) × Unit) : Option ((Int × (Bool × Unit)) × Unit) :=
  (bnd (br (eqI (lenL x4.1.1) 0) (some true) (some (ltI 18 (lenL x4.1.1)))) (fun x5 => (bnd (br x5 (some true) (br (inR 0 (lenL x4.1.1)) (bnd (br (eqI (byteAt x4.1.1 0) 48) (bnd (br (ltI 1 (lenL x4.1.1)) (some true) (some (ltI x4.1.2.1 0))) (fun x6 => (some x6))) (some false)) (fun x7 => (some x7))) none)) (fun x8 => (br x8 (some ((0, (false, ())), ())) (iter (σ := (List UInt8 × (Int × (Int × (Int × Unit)))) × Unit) F (fun x9 => (fun x10 => (br (ltI x10.1.2.2.2.1 (lenL x10.1.1)) (br (inR x10.1.2.2.2.1 (lenL x10.1.1)) (bnd (br (ltI (byteAt x10.1.1 x10.1.2.2.2.1) 48) (some true) (br (inR x10.1.2.2.2.1 (lenL x10.1.1)) (some (ltI 57 (byteAt x10.1.1 x10.1.2.2.2.1))) none)) (fun x11 => (br x11 (some ((0, (false, ())), ())) (br (inR x10.1.2.2.2.1 (lenL x10.1.1)) (x9 ((x10.1.1, (x10.1.2.1, ((subI .i64 (addI .i64 (mulI .i64 x10.1.2.2.1 10) (wrapI .i64 (byteAt x10.1.1 x10.1.2.2.2.1))) 48), ((addI .i64 x10.1.2.2.2.1 1), ())))), ())) none)))) none) (some (((mulI .i64 x10.1.2.1 x10.1.2.2.1), (true, ())), ()))))) ((x4.1.1, (x4.1.2.1, (0, (0, ())))), ())))))))
theorem inner_eq (d : List UInt8) (sg : Int) (hl : d.length ≤ 16777216) (hs : sg = 1 ∨ sg = -1) : inner ((d, (sg, ())), ()) = some (if okN d sg = true then (sg * (valF 0 d : Int), (true, ())) else (0, (false, ())), ()) := by
  unfold inner
  dsimp only
  simp only [lenL_nat]
  cases hd : d with
  | nil => rfl
  | cons a r =>
    rw [← hd]
    have hne : 0 < d.length := by rw [hd]; simp
    have hb0 : byteAt d 0 = ((a.toNat : Nat) : Int) := by rw [hd]; rfl
    have hh : d.head? = some a := by rw [hd]; rfl
    have hem : d.isEmpty = false := by rw [hd]; rfl
    rw [br_neg (eq_f (by omega)), bnd_s]
    by_cases h18 : d.length ≤ 18
    · rw [lt_f (show ¬ (18 : Int) < d.length by omega), br_f, br_pos (inR_t (by omega) (by omega)), hb0]
      have h8 : bnd (br (eqI ((a.toNat : Nat) : Int) 48) (bnd (br (ltI 1 (d.length : Int)) (some true) (some (ltI sg 0))) (fun x6 => (some x6))) (some false)) (fun x7 => some x7) = some (decide (d.head? = some 48) && (decide (1 < d.length) || decide (sg < 0))) := by
        rw [hh]
        by_cases ha : a = 48
        · rw [br_pos (eq_t (by rw [ha]; rfl)), br_or, bnd_s, bnd_s]
          congr 1
          rw [ha, decide_eq_true rfl, Bool.true_and]
          unfold ltI
          congr 1
          exact decide_eq_decide.2 (by omega)
        · rw [br_neg (eq_f fun e => ha (UInt8.toNat_inj.1 (by have h48 : (48 : UInt8).toNat = 48 := rfl; omega))), bnd_s]
          simp [ha]
      rw [h8, bnd_s]
      unfold okN
      rw [hem, decide_eq_true h18, Bool.not_false, Bool.true_and, Bool.true_and]
      cases hc : (decide (d.head? = some 48) && (decide (1 < d.length) || decide (sg < 0))) with
      | true => rfl
      | false =>
        rw [br_f, Bool.not_false, Bool.true_and]
        refine (iter_eq (fun x => x.1.1 = d ∧ x.1.2.1 = sg ∧ 0 ≤ x.1.2.2.2.1 ∧ x.1.2.2.2.1 ≤ (d.length : Int) ∧ (∀ c ∈ d.take x.1.2.2.2.1.toNat, isD c = true) ∧ x.1.2.2.1 = (valF 0 (d.take x.1.2.2.2.1.toNat) : Int))
          (fun x => d.length - x.1.2.2.2.1.toNat) (fun _ => some (if d.all isD = true then (sg * (valF 0 d : Int), (true, ())) else (0, (false, ())), ())) ?_ F _ ⟨rfl, rfl, Int.le_refl 0, by dsimp only; omega, by simp, by simp [valF]⟩ (by show d.length - 0 < F; unfold F; omega))
        rintro ⟨⟨d', sg', v, i, _⟩, _⟩ rec ⟨rfl, rfl, h0, h1, h2, h3⟩ hrec
        dsimp only at h0 h1 h2 h3 h18 hs hrec ⊢
        obtain ⟨k, rfl⟩ := Int.eq_ofNat_of_zero_le h0
        rw [Int.toNat_natCast] at h2 h3
        have hvl : valF 0 (d'.take k) < 10 ^ (0 + 18) := Nat.lt_of_lt_of_le (valF_lt _ 0 0 h2 (by omega)) (Nat.pow_le_pow_right (by omega) (by rw [List.length_take]; omega))
        by_cases hk : k < d'.length
        · have hvl2 : valF 0 (d'.take k) < 10 ^ (0 + 17) := Nat.lt_of_lt_of_le (valF_lt _ 0 0 h2 (by omega)) (Nat.pow_le_pow_right (by omega) (by rw [List.length_take]; omega))
          rw [br_pos (lt_t (by omega)), br_pos (inR_t (by omega) (by omega)), byteAt_nat hk]
          have e1 : br (ltI ((d'[k].toNat : Nat) : Int) 48) (some true) (br (inR (k : Int) (d'.length : Int)) (some (ltI 57 ((d'[k].toNat : Nat) : Int))) none) = some (!isD d'[k]) := by
            rw [br_pos (inR_t (by omega) (by omega)), br_or]
            congr 1
            unfold isD ltI
            by_cases g1 : 48 ≤ d'[k].toNat <;> by_cases g2 : d'[k].toNat ≤ 57 <;> simp [g1, g2] <;> omega
          rw [e1, bnd_s]
          cases hq : isD d'[k] with
          | false =>
            rw [Bool.not_false, br_t, if_neg]
            intro hall
            have := List.all_eq_true.1 hall d'[k] (List.getElem_mem hk)
            rw [hq] at this; cases this
          | true =>
            have hq' := hq
            simp only [isD, Bool.and_eq_true, decide_eq_true_eq] at hq'
            rw [Bool.not_true, br_f, br_pos (inR_t (by omega) (by omega)), wrapI_id (by unfold I64; omega), h3, mul_id (by unfold I64; omega), add_id (by unfold I64; omega), sub_id (by unfold I64; omega), add_id (by unfold I64; omega)]
            refine hrec _ ⟨rfl, rfl, by dsimp only; omega, by dsimp only; omega, ?_, ?_⟩ (by dsimp only; omega)
            · dsimp only
              rw [show ((k : Int) + 1).toNat = k + 1 by omega, List.take_succ_eq_append_getElem hk]
              intro c hc
              rcases List.mem_append.1 hc with hc | hc
              · exact h2 c hc
              · rw [List.mem_singleton.1 hc]; exact hq
            · dsimp only
              rw [show ((k : Int) + 1).toNat = k + 1 by omega, List.take_succ_eq_append_getElem hk, valF_snoc]
              omega
        · have : k = d'.length := by omega
          subst this
          rw [List.take_length] at h2 h3 hvl
          rw [br_neg (lt_f (by omega)), if_pos (List.all_eq_true.2 h2), h3, mul_id]
          rcases hs with rfl | rfl <;> unfold I64 <;> omega
    · rw [lt_t (show (18 : Int) < d.length by omega), br_t, bnd_s, br_t]
      unfold okN
      rw [decide_eq_false h18]
      simp
/-- The number that a text tells. -/
def numO (t : List UInt8) : Option Int := if okN (numD t) (numS t) = true then some (numS t * (valF 0 (numD t) : Int)) else none
def numR : Option Int → (Int × (Bool × Unit)) × Unit
  | some v => ((v, (true, ())), ())
  | none => ((0, (false, ())), ())
theorem l00Number_eq (t : List UInt8) (hl : t.length ≤ 16777216) : S_spec_l00Number ((t, ()), ()) = some (numR (numO t)) := by
  have e : S_spec_l00Number ((t, ()), ()) = inner ((numD t, (numS t, ())), ()) := by
    unfold S_spec_l00Number numD numS
    dsimp only
    cases t with
    | nil => rfl
    | cons c r =>
      simp only [lenL_nat]
      rw [br_pos (lt_t (by simp)), br_pos (inR_t (Int.le_refl 0) (by simp)), bnd_s]
      by_cases hc : c = 45
      · subst hc
        rw [show eqI (byteAt (45 :: r) 0) 45 = true from rfl, br_t, br_pos (inC_t (by omega) (by simp; omega)), bnd_s, sumE_l]
        rfl
      · rw [br_neg (eq_f fun h => hc (UInt8.toNat_inj.1 (by have h45 : (45 : UInt8).toNat = 45 := rfl; have h' : ((c.toNat : Nat) : Int) = 45 := h; omega))), bnd_s, sumE_l, if_neg (by simpa using hc), if_neg (by simpa using hc)]
        rfl
  rw [e, inner_eq _ _ (by unfold numD; split <;> first | exact hl | (rw [List.length_drop]; omega)) (by unfold numS; split <;> simp)]
  unfold numO numR
  by_cases h : okN (numD t) (numS t) = true
  · rw [if_pos h, if_pos h]
  · rw [if_neg h, if_neg h]
theorem okN_canon {d : List UInt8} {sg : Int} (h : okN d sg = true) : canon d ∧ d.length ≤ 18 ∧ (sg < 0 → d.head? ≠ some 48) := by
  unfold okN at h
  rw [Bool.and_eq_true, Bool.and_eq_true, Bool.and_eq_true, decide_eq_true_eq, Bool.not_eq_true', Bool.not_eq_true'] at h
  obtain ⟨⟨⟨h1, h2⟩, h3⟩, h4⟩ := h
  have hne : d ≠ [] := fun e => by rw [e] at h1; cases h1
  have hp := List.length_pos_iff.2 hne
  refine ⟨⟨hne, List.all_eq_true.1 h4, fun e => ?_⟩, h2, fun hs e => ?_⟩
  · rw [decide_eq_true e, Bool.true_and, Bool.or_eq_false_iff] at h3
    have := of_decide_eq_false h3.1
    omega
  · rw [decide_eq_true e, Bool.true_and, Bool.or_eq_false_iff] at h3
    exact absurd hs (of_decide_eq_false h3.2)
theorem okN_of {d : List UInt8} {sg : Int} (h : canon d) (h18 : d.length ≤ 18) (hs : sg < 0 → d.head? ≠ some 48) : okN d sg = true := by
  unfold okN
  have h1 : d.isEmpty = false := by
    cases d with
    | nil => exact absurd rfl h.1
    | cons => rfl
  rw [h1, decide_eq_true h18, List.all_eq_true.2 h.2.1]
  by_cases e : d.head? = some 48
  · rw [decide_eq_true e, decide_eq_false (by rw [h.2.2 e]; omega), decide_eq_false fun g => hs g e]; rfl
  · rw [decide_eq_false e]; rfl
theorem dig_ne45 {d : List UInt8} (h : canon d) : d.head? ≠ some 45 := by
  cases d with
  | nil => simp
  | cons c r =>
    intro e
    have e : c = 45 := by simpa using e
    have := h.2.1 c (by simp)
    rw [e] at this
    exact absurd this (by decide)
/-- A text tells a number just if it is the number's digits, at most 18. -/
theorem numO_iff (t : List UInt8) (v : Int) : numO t = some v ↔ t = Go.Lib.itoa v ∧ (numD t).length ≤ 18 := by
  constructor
  · intro h
    unfold numO at h
    split at h
    · rename_i ho
      obtain ⟨h1, h2, h3⟩ := okN_canon ho
      refine ⟨?_, h2⟩
      have hv := Option.some.inj h
      have hd := dec_val _ _ (Nat.le_refl _) h1
      unfold numS at hv h3
      by_cases hh : t.head? = some 45
      · rw [if_pos hh] at hv h3
        have e : numD t = t.drop 1 := if_pos hh
        have hp : 1 ≤ valF 0 (numD t) := by
          cases hn : numD t with
          | nil => exact absurd hn h1.1
          | cons a r =>
            have ha := h1.2.1 a (by rw [hn]; simp)
            simp only [isD, Bool.and_eq_true, decide_eq_true_eq] at ha
            have hne : a ≠ 48 := fun e => h3 (by omega) (by rw [hn, e]; rfl)
            have : a.toNat ≠ 48 := fun e => hne (UInt8.toNat_inj.1 e)
            rw [valF_cons]
            exact Nat.le_trans (by omega) (valF_ge r _)
        unfold Go.Lib.itoa
        rw [← hv, if_pos (by omega), show (-1 * (valF 0 (numD t) : Int)).natAbs = valF 0 (numD t) by omega, hd, e]
        cases t with
        | nil => simp at hh
        | cons c r =>
          have : c = 45 := by simpa using hh
          rw [this]; rfl
      · rw [if_neg hh] at hv
        have e : numD t = t := if_neg hh
        unfold Go.Lib.itoa
        rw [← hv, if_neg (by omega), show (1 * (valF 0 (numD t) : Int)).toNat = valF 0 (numD t) by omega, hd, e]
    · cases h
  · rintro ⟨h1, h2⟩
    unfold numO
    by_cases hv : v < 0
    · have e : t = 45 :: Go.Lib.decDigits v.natAbs := by rw [h1]; unfold Go.Lib.itoa; rw [if_pos hv]
      have hD : numD t = Go.Lib.decDigits v.natAbs := by rw [e]; rfl
      have hS : numS t = -1 := by rw [e]; rfl
      obtain ⟨c1, c2, c3⟩ := dec_canon _ v.natAbs (Nat.le_refl _)
      rw [hD] at h2 ⊢
      rw [hS, if_pos (okN_of c1 h2 fun _ => c2 (by omega)), c3]
      congr 1; omega
    · have e : t = Go.Lib.decDigits v.toNat := by rw [h1]; unfold Go.Lib.itoa; rw [if_neg hv]
      obtain ⟨c1, c2, c3⟩ := dec_canon _ v.toNat (Nat.le_refl _)
      have hh : t.head? ≠ some 45 := by rw [e]; exact dig_ne45 c1
      have hD : numD t = Go.Lib.decDigits v.toNat := by unfold numD; rw [if_neg hh, e]
      have hS : numS t = 1 := if_neg hh
      rw [hD] at h2 ⊢
      rw [hS, if_pos (okN_of c1 h2 fun h => by omega), c3]
      congr 1; omega

theorem numO_i64 {t : List UInt8} {v : Int} (h : numO t = some v) : I64 v := by
  unfold numO at h
  split at h
  · rename_i ho
    obtain ⟨h1, h2, _⟩ := okN_canon ho
    have hv := Option.some.inj h
    have hlt := valF_lt (numD t) 0 0 h1.2.1 (by omega)
    have hle : 10 ^ (0 + (numD t).length) ≤ 10 ^ 18 := Nat.pow_le_pow_right (by omega) (by omega)
    have hb : valF 0 (numD t) < 10 ^ 18 := Nat.lt_of_lt_of_le hlt hle
    unfold numS at hv
    unfold I64
    split at hv <;> omega
  · cases h

/-! ### the library's reading -/
theorem pu_ok : ∀ (l : List UInt8) (a : Nat), (∀ c ∈ l, isD c = true) → valF a l < 18446744073709551616 → Go.Lib.parseUint10 a l = .ok (valF a l)
  | [], a, _, _ => rfl
  | c :: r, a, hd, h => by
    have hc := hd c (by simp)
    simp only [isD, Bool.and_eq_true, decide_eq_true_eq] at hc
    rw [valF_cons] at h ⊢
    have hge := valF_ge r (a * 10 + (c.toNat - 48))
    unfold Go.Lib.parseUint10
    rw [if_pos ⟨hc.1, hc.2⟩, if_neg (by omega), if_neg (by omega)]
    exact pu_ok r _ (fun x hx => hd x (by simp [hx])) h
theorem atoi_itoa {v : Int} (h : I64 v) : Go.Lib.atoiAll (Go.Lib.itoa v) = .ok v := by
  unfold I64 at h
  by_cases hv : v < 0
  · have e : Go.Lib.itoa v = 45 :: Go.Lib.decDigits v.natAbs := by unfold Go.Lib.itoa; rw [if_pos hv]
    obtain ⟨c1, c2, c3⟩ := dec_canon _ v.natAbs (Nat.le_refl _)
    rw [e]
    unfold Go.Lib.atoiAll
    dsimp only
    have h45 : (45 : UInt8).toNat = 45 := rfl
    rw [if_pos (.inr h45)]
    unfold Go.Lib.parseMag
    rw [if_neg c1.1, pu_ok _ _ c1.2.1 (by rw [c3]; omega), c3]
    dsimp only
    rw [if_neg (by simp), if_neg (by simp; omega), if_pos h45]
    congr 1; omega
  · have e : Go.Lib.itoa v = Go.Lib.decDigits v.toNat := by unfold Go.Lib.itoa; rw [if_neg hv]
    obtain ⟨c1, c2, c3⟩ := dec_canon _ v.toNat (Nat.le_refl _)
    rw [e]
    cases hd : Go.Lib.decDigits v.toNat with
    | nil => exact absurd hd c1.1
    | cons c r =>
      have hc : isD c = true := c1.2.1 c (by rw [hd]; simp)
      simp only [isD, Bool.and_eq_true, decide_eq_true_eq] at hc
      unfold Go.Lib.atoiAll
      dsimp only
      rw [if_neg (by omega), ← hd]
      unfold Go.Lib.parseMag
      rw [if_neg c1.1, pu_ok _ _ c1.2.1 (by rw [c3]; omega), c3]
      dsimp only
      rw [if_neg (by omega), if_neg (by omega), if_neg (by omega)]
      congr 1; omega
theorem atoi_i64 {t : List UInt8} {v : Int} (h : Go.Lib.atoiAll t = .ok v) : I64 v := by
  unfold Go.Lib.atoiAll at h
  split at h
  · cases h
  · dsimp only at h
    split at h
    · cases h
    · cases h
    · rename_i u hu
      have hlt := Go.Lib.parseMag_lt hu
      split at h
      · cases h
      · split at h
        · cases h
        · rename_i g1 g2
          injection h with h
          subst h
          unfold I64
          split <;> rename_i g3
          · simp only [g3, true_and] at g2; omega
          · simp only [g3, not_false_eq_true, true_and] at g1; omega
theorem trim_eq (t : List UInt8) : S_strings_TrimPrefix ((t, (([45] : List UInt8), ())), ()) = some (numD t, ()) := by
  unfold S_strings_TrimPrefix S_internal_stringslite_TrimPrefix S_internal_stringslite_HasPrefix numD
  dsimp only
  cases t with
  | nil => rfl
  | cons c r =>
    simp only [lenL_nat]
    rw [br_pos (le_t (by simp; omega)), br_pos (inC_t (by simp) (by simp; omega)), bnd_s, bnd_s]
    dsimp only
    by_cases hc : c = 45
    · subst hc
      rw [br_pos (by simp [eqS, takeL]), br_pos (inC_t (by simp) (by simp; omega)), if_pos (by rfl)]
      rfl
    · rw [br_neg (by simp [eqS, takeL, hc]), bnd_s, if_neg (by simpa using hc)]
theorem itoaS_eq {v : Int} (h : I64 v) : S_strconv_Itoa ((v, ()), ()) = some (Go.Lib.itoa v, ()) := by
  unfold S_strconv_Itoa pItoa i64B
  unfold I64 at h
  dsimp only
  rw [le_t h.1, le_t (by omega)]; rfl
theorem readNumber_eq (t : List UInt8) (hl : t.length ≤ 16777216) :
    ∃ v', S_impl_readNumber ((t, ()), ()) = some ((v', ((numO t).isSome, ())), ()) ∧ ∀ v, numO t = some v → v' = v ∧ I64 v := by
  unfold S_impl_readNumber
  dsimp only
  rw [br_pos (by unfold atoiLim; simp; omega)]
  cases ha : Go.Lib.atoiAll t with
  | ok u =>
    have e1 : atoiB t = true := by unfold atoiB; rw [ha]
    have e2 : atoiV t = u := by unfold atoiV; rw [ha]
    have hu := atoi_i64 ha
    rw [br_pos e1, e2, itoaS_eq hu, bnd_s, bnd_s, trim_eq, bnd_s]
    dsimp only
    by_cases ht : Go.Lib.itoa u = t
    · rw [br_pos (by unfold eqS; simp [ht]), bnd_s]
      by_cases h18 : (numD t).length ≤ 18
      · have hn := (numO_iff t u).2 ⟨ht.symm, h18⟩
        rw [hn]
        exact ⟨u, by rw [lenL_nat, le_t (by omega)]; rfl, fun v hv => ⟨Option.some.inj hv, by rw [← Option.some.inj hv]; exact hu⟩⟩
      · have hn : numO t = none := by
          cases hx : numO t with
          | none => rfl
          | some v => exact absurd ((numO_iff t v).1 hx).2 h18
        rw [hn]
        exact ⟨u, by rw [lenL_nat, le_f (by omega)]; rfl, fun v hv => by cases hv⟩
    · have hn : numO t = none := by
        cases hx : numO t with
        | none => rfl
        | some v =>
          have h1 := ((numO_iff t v).1 hx).1
          have h2 : I64 v := numO_i64 hx
          rw [h1, atoi_itoa h2] at ha
          injection ha with ha
          rw [← ha, ← h1] at ht
          exact absurd rfl ht
      rw [br_neg (by unfold eqS; simp [ht]), bnd_s, hn]
      exact ⟨u, rfl, fun v hv => by cases hv⟩
  | _ =>
    have e1 : atoiB t = false := by unfold atoiB; rw [ha]
    have hn : numO t = none := by
      cases hx : numO t with
      | none => rfl
      | some v =>
        have h1 := ((numO_iff t v).1 hx).1
        have h2 : I64 v := numO_i64 hx
        rw [h1, atoi_itoa h2] at ha
        cases ha
    rw [br_neg e1, hn]
    exact ⟨_, rfl, fun v hv => by cases hv⟩
end Go.Den.G
namespace Go.Den.G
open Go.Den
set_option maxRecDepth 10000

/-! ### the words of statements -/
def kw : List (List UInt8) := match S_spec_l16Words ((), ()) with | some (ws, _) => ws | none => []
def km : List Int := [1, 2, 2, 3, 3, 3, 1, 1, 1, 1, 2, 1, 0, 1, 0, 1, 2]
theorem l16Words_eq : S_spec_l16Words ((), ()) = some (kw, ()) := rfl
theorem kw_len : kw.length = 17 := rfl
theorem lt17 {k : Nat} (h : k < 17) : k = 0 ∨ k = 1 ∨ k = 2 ∨ k = 3 ∨ k = 4 ∨ k = 5 ∨ k = 6 ∨ k = 7 ∨ k = 8 ∨ k = 9 ∨ k = 10 ∨ k = 11 ∨ k = 12 ∨ k = 13 ∨ k = 14 ∨ k = 15 ∨ k = 16 := by omega
theorem form_eq {k : Nat} (h : k < 17) : S_impl_stmtForm ((((k : Int) + 1), ()), ()) = some ((kw.getD k [], (km.getD k 0, ())), ()) := by
  rcases lt17 h with rfl | rfl | rfl | rfl | rfl | rfl | rfl | rfl | rfl | rfl | rfl | rfl | rfl | rfl | rfl | rfl | rfl <;> rfl
theorem many_eq {k : Nat} (h : k < 17) : S_spec_l16Many ((((k : Int) + 1), ()), ()) = some (km.getD k 0, ()) := by
  rcases lt17 h with rfl | rfl | rfl | rfl | rfl | rfl | rfl | rfl | rfl | rfl | rfl | rfl | rfl | rfl | rfl | rfl | rfl <;> rfl
theorem km_range {k : Nat} (h : k < 17) : 0 ≤ km.getD k 0 ∧ km.getD k 0 ≤ 3 := by
  rcases lt17 h with rfl | rfl | rfl | rfl | rfl | rfl | rfl | rfl | rfl | rfl | rfl | rfl | rfl | rfl | rfl | rfl | rfl <;> decide
/-- Where a text first stands in a list. -/
def posL (xs : List (List UInt8)) (t : List UInt8) : Option Nat := xs.findIdx? (fun x => decide (x = t))
theorem l03At_eq (xs : List (List UInt8)) (t : List UInt8) (hl : xs.length ≤ 1000000) :
    S_spec_l03At ((xs, (t, ())), ()) = some ((match posL xs t with | some n => (n : Int) | none => -1), ()) := by
  unfold S_spec_l03At
  refine (iter_eq (fun x => x.1.1 = xs ∧ x.1.2.1 = t ∧ 0 ≤ x.1.2.2.1 ∧ x.1.2.2.1 ≤ (xs.length : Int)) (fun x => xs.length - x.1.2.2.1.toNat)
    (fun x => some ((match posL (xs.drop x.1.2.2.1.toNat) t with | some n => x.1.2.2.1 + (n : Int) | none => -1), ())) ?_ F _ ⟨rfl, rfl, Int.le_refl 0, by show (0 : Int) ≤ _; omega⟩ (by show xs.length - 0 < F; unfold F; omega)).trans ?_
  · rintro ⟨⟨ys, u, i, _⟩, _⟩ rec ⟨h2, h3, h0, h1⟩ hrec
    dsimp only at h0 h1 h2 h3 hrec ⊢
    subst h2 h3
    obtain ⟨j, rfl⟩ := Int.eq_ofNat_of_zero_le h0
    simp only [lenL_nat]
    by_cases hj : j < ys.length
    · rw [br_pos (lt_t (by omega)), br_pos (inR_t h0 (by omega)), getL_nat hj, Int.toNat_natCast, List.drop_eq_getElem_cons hj]
      unfold posL at hrec ⊢
      rw [List.findIdx?_cons]
      by_cases hf : ys[j] = u
      · rw [br_pos (by unfold eqS; exact decide_eq_true hf), decide_eq_true hf]; simp
      · rw [br_neg (by unfold eqS; exact decide_eq_false hf), decide_eq_false hf, add_id (by unfold I64; omega), hrec _ ⟨rfl, rfl, by dsimp only; omega, by dsimp only; omega⟩ (by dsimp only; omega)]
        dsimp only
        rw [show ((j : Int) + 1).toNat = j + 1 by omega]
        cases (List.drop (j + 1) ys).findIdx? (fun x => decide (x = u)) with
        | none => rfl
        | some k => exact congrArg (fun z : Int => some (z, ())) (by show (j : Int) + 1 + k = j + ((k + 1 : Nat) : Int); omega)
    · rw [br_neg (lt_f (by omega)), Int.toNat_natCast, List.drop_eq_nil_of_le (by omega)]
      rfl
  · dsimp only
    simp only [Int.toNat_zero, List.drop_zero, Int.zero_add]

/-! ### a statement out of words -/
def nums : List (List UInt8) → Option (List Int)
  | [] => some []
  | t :: r => match numO t, nums r with
    | some v, some l => some (v :: l)
    | _, _ => none
def stmOf (k : Int) (ns : List Int) : Stm := ⟨k, ns.getD 0 0, ns.getD 1 0, ns.getD 2 0⟩
def readW : List (List UInt8) → Option Stm
  | [] => none
  | w0 :: ws => match posL kw w0, nums ws with
    | some k, some ns => if (ws.length : Int) = km.getD k 0 ∧ stmtB (stmOf ((k : Int) + 1) ns) = true then some (stmOf ((k : Int) + 1) ns) else none
    | _, _ => none
def zS : Stm := ⟨0, 0, 0, 0⟩
def readR : Option Stm → (Stm × (Bool × Unit)) × Unit
  | some x => ((x, (true, ())), ())
  | none => ((zS, (false, ())), ())
theorem posL_lt {t : List UInt8} {k : Nat} (h : posL kw t = some k) : k < 17 ∧ kw.getD k [] = t ∧ ∀ j, j < k → kw.getD j [] ≠ t := by
  unfold posL at h
  rw [List.findIdx?_eq_some_iff_getElem] at h
  obtain ⟨hk, h1, h2⟩ := h
  have hk' : k < 17 := hk
  refine ⟨hk', by rw [List.getD_eq_getElem?_getD, List.getElem?_eq_getElem hk]; simpa using h1, fun j hj => ?_⟩
  rw [List.getD_eq_getElem?_getD, List.getElem?_eq_getElem (by omega)]
  simpa using h2 j hj
theorem posL_none {t : List UInt8} (h : posL kw t = none) : ∀ j, j < 17 → kw.getD j [] ≠ t := by
  unfold posL at h
  rw [List.findIdx?_eq_none_iff] at h
  intro j hj e
  have := h (kw.getD j []) (by rw [List.getD_eq_getElem?_getD, List.getElem?_eq_getElem (show j < kw.length from hj)]; exact List.getElem_mem _)
  rw [e] at this
  simp at this
theorem stmtB_zero (a b c : Int) : stmtB ⟨0, a, b, c⟩ = false := by simp [stmtB]
/-- What the reference does when all numbers are read. -/
theorem read_end (w : List (List UInt8)) (w0 : List UInt8) (ns : List Int) (hw : (w.length : Int) = ns.length + 1) (ns3 : List Int) (e0 : ns3.getD 0 0 = ns.getD 0 0) (e1 : ns3.getD 1 0 = ns.getD 1 0) (e2 : ns3.getD 2 0 = ns.getD 2 0) (kk : Int)
    (hkk : kk = (match posL kw w0 with | some n => (n : Int) | none => -1) + 1) :
    bnd (S_spec_StmtOK (((Stm.mk kk (getL ns3 0 (dflt .i)) (getL ns3 1 (dflt .i)) (getL ns3 2 (dflt .i))), ()), ())) (fun x9 => (bnd (br (notB x9.1) (some true) (bnd (S_spec_l16Many ((kk, ()), ())) (fun x10 => (some (notB (eqI (w.length : Int) (addI .i64 1 x10.1))))))) (fun x11 => (br x11 (some (((Stm.mk 0 0 0 0), (false, ())), ())) (some (((Stm.mk kk (getL ns3 0 (dflt .i)) (getL ns3 1 (dflt .i)) (getL ns3 2 (dflt .i))), (true, ())), ()))))))
    = some (readR (match posL kw w0 with
      | some k => if (ns.length : Int) = km.getD k 0 ∧ stmtB (stmOf ((k : Int) + 1) ns) = true then some (stmOf ((k : Int) + 1) ns) else none
      | none => none)) := by
  have hS : (Stm.mk kk (getL ns3 0 (dflt .i)) (getL ns3 1 (dflt .i)) (getL ns3 2 (dflt .i))) = stmOf kk ns := by
    unfold stmOf getL
    rw [← e0, ← e1, ← e2]; rfl
  rw [hS, spec_StmtOK_eq, bnd_s]
  cases hp : posL kw w0 with
  | none =>
    rw [hp] at hkk
    have : kk = 0 := by rw [hkk]; rfl
    subst this
    have : stmtB (stmOf 0 ns) = false := stmtB_zero _ _ _
    dsimp only
    rw [this]; rfl
  | some k =>
    rw [hp] at hkk
    have hkk' : kk = (k : Int) + 1 := hkk
    subst hkk'
    obtain ⟨hk, _, _⟩ := posL_lt hp
    have hr := km_range hk
    dsimp only
    cases hb : stmtB (stmOf ((k : Int) + 1) ns) with
    | false => rw [if_neg (fun h => by cases h.2)]; rfl
    | true =>
      rw [notB_not, Bool.not_true, br_f, many_eq hk, bnd_s, bnd_s]
      dsimp only
      rw [add_id (by unfold I64; omega)]
      by_cases hm : (ns.length : Int) = km.getD k 0
      · rw [if_pos ⟨hm, rfl⟩, eq_t (by omega)]; rfl
      · rw [if_neg (fun h => hm h.1), eq_f (by omega)]; rfl
theorem nums_snoc : ∀ (l : List (List UInt8)) (t : List UInt8) (vs : List Int) (v : Int), nums l = some vs → numO t = some v → nums (l ++ [t]) = some (vs ++ [v])
  | [], t, vs, v, h, h2 => by
    have : vs = [] := (Option.some.inj h).symm
    subst this
    simp [nums, h2]
  | a :: r, t, vs, v, h, h2 => by
    unfold nums at h
    split at h
    · rename_i u l hu hl
      have := Option.some.inj h
      subst this
      rw [List.cons_append, nums, hu, nums_snoc r t l v hl h2]; rfl
    · cases h
theorem nums_none : ∀ (l : List (List UInt8)) (t : List UInt8), t ∈ l → numO t = none → nums l = none
  | a :: r, t, h, h2 => by
    rcases List.mem_cons.1 h with rfl | h
    · simp [nums, h2]
    · rw [nums, nums_none r t h h2]
      split
      · rename_i h3; cases h3
      · rfl
theorem nums_len : ∀ (l : List (List UInt8)) (vs : List Int), nums l = some vs → vs.length = l.length
  | [], vs, h => by rw [← Option.some.inj h]; rfl
  | a :: r, vs, h => by
    unfold nums at h
    split at h
    · rename_i u l hu hl
      rw [← Option.some.inj h, List.length_cons, List.length_cons, nums_len r l hl]
    · cases h
def pad3 (vs : List Int) : List Int := vs ++ List.replicate (3 - vs.length) 0
theorem pad3_get (vs : List Int) (j : Nat) : (pad3 vs).getD j 0 = vs.getD j 0 := by
  unfold pad3
  rw [List.getD_eq_getElem?_getD, List.getD_eq_getElem?_getD]
  by_cases h : j < vs.length
  · rw [List.getElem?_append_left h]
  · rw [List.getElem?_append_right (by omega), List.getElem?_eq_none (show vs.length ≤ j by omega)]
    by_cases g : j - vs.length < 3 - vs.length
    · rw [List.getElem?_replicate, if_pos g]; rfl
    · rw [List.getElem?_replicate, if_neg g]
theorem pad3_set (vs : List Int) (v : Int) (h : vs.length < 3) : (pad3 vs).set vs.length v = pad3 (vs ++ [v]) := by
  unfold pad3
  rw [List.set_append, if_neg (by omega), Nat.sub_self, show 3 - vs.length = (3 - (vs ++ [v]).length) + 1 by simp; omega, List.replicate_succ, List.set_cons_zero]
  simp
theorem pad3_len (vs : List Int) (h : vs.length ≤ 3) : (pad3 vs).length = 3 := by unfold pad3; simp; omega
theorem pieces_mem : ∀ (s p : List UInt8), p ∈ pieces s → p.length ≤ s.length
  | [], p, h => by simp [pieces] at h; simp [h]
  | c :: r, p, h => by
    unfold pieces at h
    split at h
    · rcases List.mem_cons.1 h with rfl | h
      · simp
      · have := pieces_mem r p h; simp; omega
    · split at h
      · rename_i q ps hq
        rcases List.mem_cons.1 h with rfl | h
        · have := pieces_mem r q (by rw [hq]; simp); simp; omega
        · have := pieces_mem r p (by rw [hq]; simp [h]); simp; omega
      · simp at h; subst h; simp
theorem wds_mem {s p : List UInt8} (h : p ∈ wds s) : p.length ≤ s.length := pieces_mem s p (List.mem_filter.1 h).1
theorem l16Read_eq (t : List UInt8) (hl : t.length ≤ 16777216) : S_spec_l16Read ((t, ()), ()) = some (readR (readW (wds t))) := by
  unfold S_spec_l16Read
  rw [l00Words_eq t hl, bnd_s]
  dsimp only
  have hlen : ∀ p ∈ wds t, p.length ≤ 16777216 := fun p hp => by have := wds_mem hp; omega
  generalize wds t = w at hlen
  simp only [lenL_nat]
  by_cases h1 : (w.length : Int) < 1
  · have : w = [] := List.length_eq_zero_iff.1 (by omega)
    subst this; rfl
  rw [br_neg (lt_f h1), bnd_s]
  by_cases h4 : (4 : Int) < w.length
  · rw [lt_t h4, br_t]
    cases w with
    | nil => simp at h4
    | cons w0 ws =>
      congr 1
      unfold readW
      dsimp only
      cases hk : posL kw w0 with
      | none => rfl
      | some k =>
        cases hns : nums ws with
        | none => rfl
        | some ns =>
          dsimp only
          rw [if_neg]
          · rfl
          · rintro ⟨e, _⟩
            have := km_range (posL_lt hk).1
            rw [List.length_cons] at h4; omega
  rw [lt_f h4, br_f, br_pos (inR_t (by omega) (by omega)), l16Words_eq, bnd_s]
  cases w with
  | nil => simp at h1
  | cons w0 ws =>
    dsimp only
    rw [show getL (w0 :: ws) 0 (dflt .s) = w0 from rfl, l03At_eq _ _ (by rw [kw_len]; omega), bnd_s]
    dsimp only
    rw [List.length_cons] at h4
    have hkk : addI .i64 (match posL kw w0 with | some n => (n : Int) | none => -1) 1 = (match posL kw w0 with | some n => (n : Int) | none => -1) + 1 := by
      cases hk : posL kw w0 with
      | none => rfl
      | some k =>
        have := (posL_lt hk).1
        dsimp only
        rw [add_id (by unfold I64; omega)]
    rw [hkk]
    refine iter_eq (fun x => x.1.1 = w0 :: ws ∧ 1 ≤ x.1.2.1 ∧ x.1.2.1 ≤ (ws.length : Int) + 1 ∧ x.2.2.1.1 = (match posL kw w0 with | some n => (n : Int) | none => -1) + 1 ∧ ∃ vs, nums (ws.take (x.1.2.1 - 1).toNat) = some vs ∧ x.2.2.2.1 = pad3 vs)
      (fun x => ws.length + 1 - x.1.2.1.toNat) (fun _ => some (readR (readW (w0 :: ws)))) ?_ F _ ⟨rfl, Int.le_refl 1, by dsimp only; omega, rfl, [], by simp [nums], rfl⟩ (by show ws.length + 1 - 1 < F; unfold F; omega)
    rintro ⟨⟨w', i, _⟩, z, ⟨kk, a, b, c, _⟩, ns3, _⟩ rec ⟨rfl, h5, h6, h7, vs, h8, h9⟩ hrec
    dsimp only at h5 h6 h7 h8 h9 hrec ⊢
    obtain ⟨k, hk1⟩ := Int.eq_ofNat_of_zero_le (show 0 ≤ i - 1 by omega)
    obtain rfl : i = (k : Int) + 1 := by omega
    have hk2 : ((k : Int) + 1 - 1).toNat = k := by omega
    rw [hk2] at h8
    have hvl := nums_len _ _ h8
    rw [List.length_take] at hvl
    rw [List.length_cons]
    by_cases hi : k < ws.length
    · rw [br_pos (lt_t (by omega)), br_pos (inR_t (by omega) (by omega))]
      have hg : getL (w0 :: ws) ((k : Int) + 1) (dflt .s) = ws[k] := by
        unfold getL
        rw [show ((k : Int) + 1).toNat = k + 1 by omega, List.getD_cons_succ, List.getD_eq_getElem?_getD, List.getElem?_eq_getElem hi]; rfl
      rw [hg, l00Number_eq _ (hlen _ (by simp)), bnd_s]
      cases hn : numO ws[k] with
      | none =>
        have : nums ws = none := nums_none ws ws[k] (List.getElem_mem hi) hn
        show some _ = _
        congr 1
        unfold readW
        dsimp only
        rw [this]
        cases posL kw w0 <;> rfl
      | some v =>
        unfold numR
        dsimp only
        rw [notB_not, Bool.not_true, br_f, sub_id (by unfold I64; omega), show (k : Int) + 1 - 1 = k by omega, h9, pad3_len _ (by omega), br_pos (inR_t (by omega) (by omega)), add_id (by unfold I64; omega)]
        refine hrec _ ⟨rfl, by dsimp only; omega, by dsimp only; omega, h7, vs ++ [v], ?_, ?_⟩ (by dsimp only; omega)
        · dsimp only
          rw [show ((k : Int) + 1 + 1 - 1).toNat = k + 1 by omega, List.take_succ_eq_append_getElem hi]
          exact nums_snoc _ _ _ _ h8 hn
        · dsimp only
          unfold setL
          rw [Int.toNat_natCast, show k = vs.length by omega]
          exact pad3_set vs v (by omega)
    · have hkl : k = ws.length := by omega
      subst hkl
      rw [List.take_length] at h8
      rw [br_neg (lt_f (by omega)), h9, pad3_len _ (by omega), br_pos (inR_t (by omega) (by omega)), br_pos (inR_t (by omega) (by omega)), br_pos (inR_t (by omega) (by omega))]
      refine (read_end (w0 :: ws) w0 vs (by rw [List.length_cons]; omega) (pad3 vs) (pad3_get vs 0) (pad3_get vs 1) (pad3_get vs 2) kk h7).trans ?_
      congr 2
      unfold readW
      dsimp only
      rw [h8]
      cases posL kw w0 with
      | none => rfl
      | some k => dsimp only; rw [show vs.length = ws.length by omega]

/-! ### the program's reading -/
theorem kw_distinct : ∀ i, i < 17 → ∀ j, j < 17 → kw.getD i [] = kw.getD j [] → i = j := by decide +kernel
theorem posL_at {j : Nat} (h : j < 17) : posL kw (kw.getD j []) = some j := by
  cases hp : posL kw (kw.getD j []) with
  | none => exact absurd rfl (posL_none hp j h)
  | some k =>
    obtain ⟨h1, h2, _⟩ := posL_lt hp
    rw [kw_distinct k h1 j h h2]
/-- What the program finds: of an answer that is no, nothing is said. -/
def Reads (w : List (List UInt8)) (z : (Stm × (Bool × Unit)) × Unit) : Prop := z.1.2.1 = (readW w).isSome ∧ ∀ x, readW w = some x → z.1.1 = x
theorem reads_no {w : List (List UInt8)} {x : Stm} (h : readW w = none) : Reads w ((x, (false, ())), ()) := ⟨by rw [h]; rfl, fun y hy => by rw [h] at hy; cases hy⟩
theorem readW_at {j : Nat} (h : j < 17) {ws : List (List UInt8)} (hl : (ws.length : Int) = km.getD j 0) {w0 : List UInt8} (h0 : w0 = kw.getD j []) :
    readW (w0 :: ws) = match nums ws with
      | some ns => if stmtB (stmOf ((j : Int) + 1) ns) = true then some (stmOf ((j : Int) + 1) ns) else none
      | none => none := by
  unfold readW
  dsimp only
  rw [h0, posL_at h]
  cases nums ws with
  | none => rfl
  | some ns => dsimp only; simp only [hl, true_and]
theorem reads_end {w0 : List UInt8} {ws : List (List UInt8)} {j : Nat} (h : j < 17) (hl : (ws.length : Int) = km.getD j 0) (h0 : w0 = kw.getD j []) {ns : List Int} (hn : nums ws = some ns) {x : Stm} (hx : x = stmOf ((j : Int) + 1) ns) :
    Ret (bnd (S_impl_StmtOK ((x, ()), ())) fun x12 => some ((x, x12), ())) (Reads (w0 :: ws)) := by
  subst hx
  rw [impl_StmtOK_eq, bnd_s]
  refine Ret.some ?_
  unfold Reads
  rw [readW_at h hl h0, hn]
  dsimp only
  cases stmtB (stmOf ((j : Int) + 1) ns) with
  | false => exact ⟨rfl, fun y hy => by simp at hy⟩
  | true => exact ⟨rfl, fun y hy => by simpa using hy⟩
theorem reads_bad {w0 : List UInt8} {ws : List (List UInt8)} {t : List UInt8} (ht : t ∈ ws) (hn : numO t = none) {x : Stm} : Reads (w0 :: ws) ((x, (false, ())), ()) := by
  apply reads_no
  unfold readW
  dsimp only
  rw [nums_none ws t ht hn]
  cases posL kw w0 <;> rfl
theorem readStmt_eq (w : List (List UInt8)) (hw : w.length ≤ 16777216) (hlen : ∀ p ∈ w, p.length ≤ 16777216) : Ret (S_impl_readStmt ((w, ()), ())) (Reads w) := by
  unfold S_impl_readStmt
  refine Ret.iter (fun x => x.1.1 = w ∧ 1 ≤ x.1.2.1 ∧ x.1.2.1 ≤ 18 ∧ ∀ j : Nat, (j : Int) + 1 < x.1.2.1 → ¬ ((w.length : Int) = km.getD j 0 + 1 ∧ getL w 0 (dflt .s) = kw.getD j [])) (fun x => (18 - x.1.2.1).toNat) ?_ F _ ⟨rfl, Int.le_refl 1, by show (1 : Int) ≤ 18; omega, fun j hj => by dsimp only at hj; omega⟩ (by show (18 - 1 : Int).toNat < F; unfold F; omega)
  rintro ⟨⟨w', i, _⟩, z⟩ rec ⟨rfl, h5, h6, h7⟩ hrec
  dsimp only at h5 h6 h7 hrec ⊢
  obtain ⟨k, hk1⟩ := Int.eq_ofNat_of_zero_le (show 0 ≤ i - 1 by omega)
  obtain rfl : i = (k : Int) + 1 := by omega
  simp only [lenL_nat]
  dsimp only at hw hlen
  by_cases hk : k < 17
  · rw [br_pos (le_t (by omega)), form_eq hk, bnd_s]
    have hr := km_range hk
    dsimp only
    rw [add_id (by unfold I64; omega)]
    have hnext : ¬ ((w'.length : Int) = km.getD k 0 + 1 ∧ getL w' 0 (dflt .s) = kw.getD k []) → Ret (rec ((w', (addI .i64 ((k : Int) + 1) 1, ())), z)) (Reads w') := fun hno => by
      rw [add_id (by unfold I64; omega)]
      refine hrec _ ⟨rfl, by dsimp only; omega, by dsimp only; omega, fun j hj => ?_⟩ (by dsimp only; omega)
      dsimp only at hj
      by_cases hjk : j = k
      · subst hjk; exact hno
      · exact h7 j (by omega)
    by_cases hm : (w'.length : Int) = km.getD k 0 + 1
    · rw [eq_t hm, notB_not, Bool.not_true, br_f, br_pos (inR_t (Int.le_refl 0) (by omega)), bnd_s]
      by_cases h0 : getL w' 0 (dflt .s) = kw.getD k []
      · rw [show notB (eqS (getL w' 0 (dflt .s)) (kw.getD k [])) = false by unfold eqS; rw [decide_eq_true h0]; rfl, br_f, br_pos (inC_t hr.1 hr.2)]
        match w', hw, hlen, hm, h0 with
        | [], _, _, hm, _ => exfalso; have hm' : (0 : Int) = km.getD k 0 + 1 := hm; omega
        | w0 :: ws, hw, hlen, hm, h0 =>
          have h0' : w0 = kw.getD k [] := h0
          have hl : (ws.length : Int) = km.getD k 0 := by rw [List.length_cons] at hm; omega
          rw [← hl] at hr ⊢
          match ws, hr, hl, hlen with
          | [], hr, hl, hlen => exact reads_end hk hl h0' rfl rfl
          | [p], hr, hl, hlen =>
            obtain ⟨v, e, hv⟩ := readNumber_eq p (hlen p (by simp))
            rw [br_pos (lt_t (by simp)), br_pos (inR_t (by omega) (by simp)), br_pos (inR_t (by omega) (by simp)), show getL (w0 :: [p]) 1 (dflt .s) = p from rfl, e, bnd_s]
            dsimp only
            cases hn : numO p with
            | none => exact Ret.some (reads_bad (t := p) (by simp) hn)
            | some u =>
              obtain ⟨rfl, _⟩ := hv u hn
              exact reads_end hk hl h0' (ns := [v]) (by simp [nums, hn]) rfl
          | [p, q], hr, hl, hlen =>
            obtain ⟨v, e, hv⟩ := readNumber_eq p (hlen p (by simp))
            obtain ⟨v2, e2, hv2⟩ := readNumber_eq q (hlen q (by simp))
            rw [br_pos (lt_t (by simp)), br_pos (inR_t (by omega) (by simp)), br_pos (inR_t (by omega) (by simp)), show getL (w0 :: [p, q]) 1 (dflt .s) = p from rfl, show getL (w0 :: [p, q]) 2 (dflt .s) = q from rfl, e, bnd_s]
            dsimp only
            cases hn : numO p with
            | none => exact Ret.some (reads_bad (t := p) (by simp) hn)
            | some u =>
              obtain ⟨rfl, _⟩ := hv u hn
              rw [Option.isSome_some, notB_t, br_f, br_pos (lt_t (by simp)), br_pos (inR_t (by omega) (by simp)), br_pos (inR_t (by omega) (by simp)), e2, bnd_s]
              dsimp only
              cases hn2 : numO q with
              | none => exact Ret.some (reads_bad (t := q) (by simp) hn2)
              | some u2 =>
                obtain ⟨rfl, _⟩ := hv2 u2 hn2
                exact reads_end hk hl h0' (ns := [v, v2]) (by simp [nums, hn, hn2]) rfl
          | [p, q, r], hr, hl, hlen =>
            obtain ⟨v, e, hv⟩ := readNumber_eq p (hlen p (by simp))
            obtain ⟨v2, e2, hv2⟩ := readNumber_eq q (hlen q (by simp))
            obtain ⟨v3, e3, hv3⟩ := readNumber_eq r (hlen r (by simp))
            rw [br_pos (lt_t (by simp)), br_pos (inR_t (by omega) (by simp)), br_pos (inR_t (by omega) (by simp)), show getL (w0 :: [p, q, r]) 1 (dflt .s) = p from rfl, show getL (w0 :: [p, q, r]) 2 (dflt .s) = q from rfl, show getL (w0 :: [p, q, r]) 3 (dflt .s) = r from rfl, e, bnd_s]
            dsimp only
            cases hn : numO p with
            | none => exact Ret.some (reads_bad (t := p) (by simp) hn)
            | some u =>
              obtain ⟨rfl, _⟩ := hv u hn
              rw [Option.isSome_some, notB_t, br_f, br_pos (lt_t (by simp)), br_pos (inR_t (by omega) (by simp)), br_pos (inR_t (by omega) (by simp)), e2, bnd_s]
              dsimp only
              cases hn2 : numO q with
              | none => exact Ret.some (reads_bad (t := q) (by simp) hn2)
              | some u2 =>
                obtain ⟨rfl, _⟩ := hv2 u2 hn2
                rw [Option.isSome_some, notB_t, br_f, br_pos (lt_t (by simp)), br_pos (inR_t (by omega) (by simp)), br_pos (inR_t (by omega) (by simp)), e3, bnd_s]
                dsimp only
                cases hn3 : numO r with
                | none => exact Ret.some (reads_bad (t := r) (by simp) hn3)
                | some u3 =>
                  obtain ⟨rfl, _⟩ := hv3 u3 hn3
                  exact reads_end hk hl h0' (ns := [v, v2, v3]) (by simp [nums, hn, hn2, hn3]) rfl
          | p :: q :: r :: s :: y, hr, hl, hlen => exfalso; simp at hr; omega
      · rw [show notB (eqS (getL w' 0 (dflt .s)) (kw.getD k [])) = true by unfold eqS; rw [decide_eq_false h0]; rfl, br_t]
        exact hnext fun h => h0 h.2
    · rw [eq_f hm, notB_not, Bool.not_false, br_t, bnd_s, br_t]
      exact hnext fun h => hm h.1
  · rw [br_neg (le_f (by omega))]
    refine Ret.some (reads_no ?_)
    cases w' with
    | nil => rfl
    | cons w0 ws =>
      unfold readW
      dsimp only
      cases hp : posL kw w0 with
      | none => rfl
      | some j =>
        obtain ⟨hj1, hj2, _⟩ := posL_lt hp
        cases hns : nums ws with
        | none => rfl
        | some ns =>
          dsimp only
          rw [if_neg]
          rintro ⟨e, _⟩
          exact h7 j (by omega) ⟨by rw [List.length_cons]; omega, hj2.symm⟩
/-- What a line is read as. -/
def readS (t : List UInt8) : Stm × Int := if 65536 < t.length then (zS, 2) else match readW (wds t) with | some x => (x, 0) | none => (zS, 3)
theorem spec_ReadStmt_eq (t : List UInt8) : S_spec_ReadStmt ((t, ()), ()) = some (((readS t).1, ((readS t).2, ())), ()) := by
  unfold S_spec_ReadStmt readS
  dsimp only
  rw [lenL_nat]
  by_cases h : 65536 < t.length
  · rw [br_pos (lt_t (by omega)), if_pos h]; rfl
  · rw [br_neg (lt_f (by omega)), if_neg h, l16Read_eq t (by omega), bnd_s]
    cases readW (wds t) <;> rfl
theorem impl_ReadStmt_eq (t : List UInt8) : S_impl_ReadStmt ((t, ()), ()) = some (((readS t).1, ((readS t).2, ())), ()) := by
  unfold S_impl_ReadStmt readS
  dsimp only
  rw [lenL_nat]
  by_cases h : 65536 < t.length
  · rw [br_pos (lt_t (by omega)), if_pos h]; rfl
  · rw [br_neg (lt_f (by omega)), if_neg h, wordsOf_eq t (by omega), bnd_s]
    have hn : (wds t).length ≤ 16777216 := by
      have := pieces_len t
      have h2 : (wds t).length ≤ (pieces t).length := List.length_filter_le _ _
      omega
    obtain ⟨⟨⟨x, b, _⟩, _⟩, e, h1, h2⟩ := readStmt_eq (wds t) hn fun p hp => by have := wds_mem hp; omega
    rw [e, bnd_s]
    dsimp only at h1 h2 ⊢
    cases hr : readW (wds t) with
    | none => rw [hr] at h1; rw [h1]; rfl
    | some y => rw [hr] at h1; rw [h1, h2 y hr]; rfl
theorem eqStmt_refl (x : Stm) : S_laws_eqStmt ((x, (x, ())), ()) = some (true, ()) := by
  unfold S_laws_eqStmt
  simp [eqI, notB, br_f]
/-- The law: ReadStmt returns what the reference's returns. -/
theorem pure_ReadStmt (y : VTL.Ty [.str]) (_ : VTL.wf [.str] y) : S_laws_FnExactReadStmt (y, ()) = some (true, ()) := by
  obtain ⟨t, _⟩ := y
  unfold S_laws_FnExactReadStmt
  dsimp only
  rw [spec_ReadStmt_eq, bnd_s, impl_ReadStmt_eq, bnd_s]
  dsimp only
  rw [eqStmt_refl, bnd_s, show eqI (readS t).2 (readS t).2 = true from eq_t rfl]
  cases ltI 1048576 (lenL t) <;> rfl
end Go.Den.G
