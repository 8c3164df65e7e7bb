/- Theory for the proofs of this claim: see its last text. -/
import Derived.Test.YthgjocpbmnpjjaaDoorFnStmts
import Derived.Test.YthgjocpbmnpjjaaDoorDenF
import Derived.Lib.Split
import Derived.Lib.IndexBytes
import Derived.Lib.IndexLaws
import Derived.Lib.AtoiAll
namespace Go.Den.G
open Go.Den

/-! ### digits -/
theorem dec_small {u : Nat} (h : u < 10) : Go.Lib.decDigits u = [UInt8.ofNat (48 + u)] := by rw [Go.Lib.decDigits, dif_pos h]
theorem dec_step {u : Nat} (h : ¬ u < 10) : Go.Lib.decDigits u = Go.Lib.decDigits (u / 10) ++ [UInt8.ofNat (48 + u % 10)] := by rw [Go.Lib.decDigits, dif_neg h]
theorem dec_len : ∀ (k u : Nat), u < 10 ^ (k + 1) → (Go.Lib.decDigits u).length ≤ k + 1
  | 0, u, h => by rw [dec_small (by omega)]; simp
  | k + 1, u, h => by
    by_cases hu : u < 10
    · rw [dec_small hu]; simp
    · rw [dec_step hu, List.length_append]
      have := dec_len k (u / 10) (by rw [Nat.pow_succ] at h; omega)
      simp; omega
theorem byte1 {n : Int} (h0 : 0 ≤ n) (h1 : n < 10) : toStr [wrapI .u8 (addI .i64 48 n)] = [UInt8.ofNat (48 + n.toNat)] := by
  have e : wrapI .u8 (addI .i64 48 n) = 48 + n := by
    rw [add_id (by unfold I64; omega)]
    unfold wrapI
    simp only [IntKind.wrap, IntKind.bits, IntKind.signed, Bool.false_and, Bool.false_eq_true, if_false]
    exact Int.emod_eq_of_lt (by omega) (by omega)
  rw [e]
  unfold toStr
  rw [List.map_singleton, show (48 + n).toNat = 48 + n.toNat by omega]
theorem digits_nat : ∀ (k : Nat) (u : Nat), k ≤ 100 → u < 10 ^ (k + 1) → u < 9223372036854775808 → RS_spec_l00Digits (k + 1) (((u : Int), ()), ()) = some (Go.Lib.decDigits u, ())
  | k, u, hk, hu, h64 => by
    rw [RS_spec_l00Digits]
    dsimp only
    rw [br_neg (eq_f (by omega)), br_neg (lt_f (by omega))]
    by_cases h : u < 10
    · rw [br_pos (lt_t (by omega)), byte1 (by omega) (by omega), dec_small h]; rfl
    · rw [br_neg (lt_f (by omega))]
      cases k with
      | zero => exact absurd hu (by simpa using h)
      | succ k =>
        have hq : quoI .i64 (u : Int) 10 = ((u / 10 : Nat) : Int) := by
          unfold quoI
          rw [show ((u : Int).tdiv 10) = ((u / 10 : Nat) : Int) by rw [Int.tdiv_eq_ediv_of_nonneg (by omega)]; simp]
          exact wrap64_id (by unfold I64; omega)
        have hr : remI (u : Int) 10 = ((u % 10 : Nat) : Int) := by unfold remI; rw [Int.tmod_eq_emod_of_nonneg (by omega)]; simp
        rw [hq, digits_nat k (u / 10) (by omega) (by rw [Nat.pow_succ] at hu; omega) (by omega), bnd_s, hr]
        dsimp only
        rw [byte1 (by omega) (by omega), dec_step h]
        have hl := dec_len k (u / 10) (by rw [Nat.pow_succ] at hu; omega)
        rw [br_pos (by unfold fits2 lim; simp; omega), show (((u % 10 : Nat) : Int)).toNat = u % 10 from rfl]
        rfl
theorem itoa_len {n : Int} (h : I64 n) : (Go.Lib.itoa n).length ≤ 20 := by
  unfold I64 at h
  unfold Go.Lib.itoa
  split
  · have := dec_len 18 n.natAbs (by omega)
    simp; omega
  · have := dec_len 18 n.toNat (by omega)
    omega
theorem l00Digits_eq {n : Int} (h : I64 n) : S_spec_l00Digits ((n, ()), ()) = some (Go.Lib.itoa n, ()) := by
  unfold S_spec_l00Digits
  unfold I64 at h
  by_cases hm : n = -9223372036854775808
  · subst hm
    rw [RS_spec_l00Digits]
    dsimp only
    rw [br_pos (eq_t rfl)]
    unfold Go.Lib.itoa
    rw [if_pos (by decide)]
    congr 2
    show _ = 45 :: Go.Lib.decDigits 9223372036854775808
    simp [Go.Lib.decDigits]
  · by_cases h0 : 0 ≤ n
    · obtain ⟨u, rfl⟩ := Int.eq_ofNat_of_zero_le h0
      rw [digits_nat 99 u (by decide) (Nat.lt_of_lt_of_le (show u < 10 ^ 20 by omega) (Nat.pow_le_pow_right (by decide) (by decide))) (by omega)]
      unfold Go.Lib.itoa
      rw [if_neg (by omega)]
      simp
    · rw [RS_spec_l00Digits]
      dsimp only
      rw [br_neg (eq_f hm), br_pos (lt_t (by omega)), sub_id (by unfold I64; omega)]
      obtain ⟨u, hu⟩ := Int.eq_ofNat_of_zero_le (show 0 ≤ 0 - n by omega)
      rw [hu, digits_nat 98 u (by decide) (Nat.lt_of_lt_of_le (show u < 10 ^ 20 by omega) (Nat.pow_le_pow_right (by decide) (by decide))) (by omega), bnd_s]
      dsimp only
      have hl := dec_len 19 u (by omega)
      rw [br_pos (by unfold fits2 lim; simp; omega)]
      unfold Go.Lib.itoa
      rw [if_pos (by omega), show n.natAbs = u by omega]
      simp [appL]
end Go.Den.G
namespace Go.Den.G
open Go.Den

/-- A word and numbers, a blank ahead of each. -/
def numsL (l : List Int) : List UInt8 := l.flatMap fun n => 32 :: Go.Lib.itoa n
theorem numsL_len : ∀ {l : List Int}, (∀ n ∈ l, I64 n) → (numsL l).length ≤ 21 * l.length
  | [], _ => by simp [numsL]
  | a :: r, h => by
    have h1 := itoa_len (h a (by simp))
    have h2 := numsL_len (l := r) fun n hn => h n (by simp [hn])
    unfold numsL at h2 ⊢
    simp only [List.flatMap_cons, List.length_append, List.length_cons]
    omega
theorem drop_cons {α : Type} {l : List α} {i : Nat} (h : i < l.length) : l.drop i = l[i] :: l.drop (i + 1) := List.drop_eq_getElem_cons h
theorem l16Numbers_eq (name : List UInt8) (l : List Int) (hn : name.length ≤ 1000) (hl : l.length ≤ 16777216) (hw : ∀ n ∈ l, I64 n) :
    S_spec_l16Numbers ((name, (l, ())), ()) = some (name ++ numsL l, ()) := by
  unfold S_spec_l16Numbers
  refine (iter_eq (fun x => x.1.2.1 = l ∧ 0 ≤ x.1.2.2.1 ∧ x.1.2.2.1 ≤ (l.length : Int) ∧ (x.1.1.length : Int) ≤ 1000 + 21 * x.1.2.2.1) (fun x => ((l.length : Int) - x.1.2.2.1).toNat)
    (fun x => some (x.1.1 ++ numsL (l.drop x.1.2.2.1.toNat), ())) ?_ F _ ⟨rfl, Int.le_refl 0, by show (0 : Int) ≤ _; omega, by show (name.length : Int) ≤ 1000 + 21 * 0; omega⟩ (by show ((l.length : Int) - 0).toNat < F; unfold F; omega)).trans ?_
  · rintro ⟨⟨acc, l', i, _⟩, _⟩ rec ⟨rfl, h0, h1, h2⟩ hrec
    dsimp only at h0 h1 h2 hrec hl hw ⊢
    obtain ⟨j, rfl⟩ := Int.eq_ofNat_of_zero_le h0
    simp only [lenL_nat]
    by_cases hi : j < l'.length
    · rw [br_pos (lt_t (by omega)), br_pos (inR_t h0 (by omega)), getL_nat hi]
      have hwj := hw l'[j] (List.getElem_mem hi)
      have hlen := itoa_len hwj
      rw [l00Digits_eq hwj, bnd_s]
      dsimp only
      rw [br_pos (by unfold fits2 lim; simp; omega), br_pos (by unfold fits2 lim appL; simp; omega), add_id (by unfold I64; omega)]
      rw [hrec _ ⟨rfl, by dsimp only; omega, by dsimp only; omega, by dsimp only; simp only [appL, List.length_append, List.length_cons, List.length_nil]; omega⟩ (by dsimp only; omega)]
      dsimp only
      simp only [Int.toNat_natCast]
      rw [show ((j : Int) + 1).toNat = j + 1 by omega, drop_cons hi]
      simp only [appL, numsL, List.flatMap_cons, List.append_assoc, List.cons_append, List.nil_append]
    · rw [br_neg (lt_f (by omega))]
      simp only [Int.toNat_natCast]
      rw [List.drop_eq_nil_of_le (by omega)]
      simp [numsL]
  · simp
theorem wordsLine_eq (name : List UInt8) (l : List Int) (hn : name.length ≤ 1000) (hl : l.length ≤ 16777216) (hw : ∀ n ∈ l, I64 n) :
    S_impl_wordsLine ((name, (l, ())), ()) = some (name ++ numsL l, ()) := by
  unfold S_impl_wordsLine
  refine (iter_eq (fun x => x.1.2.1 = l ∧ x.1.2.2.1 = (l.length : Int) ∧ 0 ≤ x.1.2.2.2.1 ∧ x.1.2.2.2.1 ≤ (l.length : Int) ∧ (x.1.1.length : Int) ≤ 1000 + 21 * x.1.2.2.2.1) (fun x => ((l.length : Int) - x.1.2.2.2.1).toNat)
    (fun x => some (x.1.1 ++ numsL (l.drop x.1.2.2.2.1.toNat), ())) ?_ F _ ⟨rfl, rfl, Int.le_refl 0, by show (0 : Int) ≤ _; omega, by show (name.length : Int) ≤ 1000 + 21 * 0; omega⟩ (by show ((l.length : Int) - 0).toNat < F; unfold F; omega)).trans ?_
  · rintro ⟨⟨acc, l', n, i, _⟩, _⟩ rec ⟨rfl, h3, h0, h1, h2⟩ hrec
    dsimp only at h0 h1 h2 h3 hrec hl hw ⊢
    obtain ⟨j, rfl⟩ := Int.eq_ofNat_of_zero_le h0
    subst h3
    simp only [lenL_nat]
    by_cases hi : j < l'.length
    · rw [br_pos (lt_t (by omega)), br_pos (inR_t h0 (by omega)), getL_nat hi]
      have hwj := hw l'[j] (List.getElem_mem hi)
      have hlen := itoa_len hwj
      have e : S_strconv_Itoa ((l'[j], ()), ()) = some (Go.Lib.itoa l'[j], ()) := by
        unfold S_strconv_Itoa pItoa i64B
        unfold I64 at hwj
        dsimp only
        rw [le_t hwj.1, le_t (by omega)]; rfl
      rw [e, bnd_s]
      dsimp only
      rw [br_pos (by unfold fits2 lim; simp; omega), br_pos (by unfold fits2 lim appL; simp; omega), add_id (by unfold I64; omega)]
      rw [hrec _ ⟨rfl, rfl, by dsimp only; omega, by dsimp only; omega, by dsimp only; simp only [appL, List.length_append, List.length_cons, List.length_nil]; omega⟩ (by dsimp only; omega)]
      dsimp only
      simp only [Int.toNat_natCast]
      rw [show ((j : Int) + 1).toNat = j + 1 by omega, drop_cons hi]
      simp only [appL, numsL, List.flatMap_cons, List.append_assoc, List.cons_append, List.nil_append]
    · rw [br_neg (lt_f (by omega))]
      simp only [Int.toNat_natCast]
      rw [List.drop_eq_nil_of_le (by omega)]
      simp [numsL]
  · simp
end Go.Den.G
namespace Go.Den.G
open Go.Den

/-! ### signs -/
/-- A number's lowest bits, as a number with a sign; `m`: the sign's place. -/
def sx (m : Nat) (v : Int) : Int := if (v % 2 ^ 64 / 2 ^ m) % 2 = 1 then v % 2 ^ (m + 1) - 2 ^ (m + 1) else v % 2 ^ (m + 1)

theorem wrapU_id {n : Int} (h0 : 0 ≤ n) (h1 : n < 2 ^ 64) : IntKind.wrap .u64 n = n := by
  simp only [IntKind.wrap, IntKind.bits, IntKind.signed, Bool.false_and, Bool.false_eq_true, if_false]
  exact Int.emod_eq_of_lt h0 h1
theorem wrapU_eq (n : Int) : IntKind.wrap .u64 n = n % 2 ^ 64 := by
  simp [IntKind.wrap, IntKind.bits, IntKind.signed]
theorem l01Bit_eq (v i : Int) (h0 : 0 ≤ i) (h1 : i ≤ 63) : S_spec_l01Bit ((v, (i, ())), ()) = some (v % 2 ^ 64 / 2 ^ i.toNat % 2, ()) := by
  unfold S_spec_l01Bit
  dsimp only
  have hw : wrapI IntKind.u64 i = i := wrapU_id h0 (by omega)
  rw [hw, br_pos (le_t h0)]
  have hi : min i.toNat 64 = i.toNat := by omega
  have e : remI (ishr IntKind.u64 (wrapI IntKind.u64 v) i) 2 = v % 2 ^ 64 / 2 ^ i.toNat % 2 := by
    unfold remI ishr wrapI
    rw [wrapU_eq]
    show Int.tmod (Int.fdiv (v % 2 ^ 64) (2 ^ (min i.toNat 64))) 2 = _
    rw [hi]
    have hp : (0 : Int) < 2 ^ i.toNat := Int.pow_pos (by decide)
    rw [Int.fdiv_eq_ediv_of_nonneg _ (Int.le_of_lt hp), Int.tmod_eq_emod_of_nonneg (Int.ediv_nonneg (Int.emod_nonneg _ (by decide)) (Int.le_of_lt hp))]
  rw [e]
  rcases Int.emod_two_eq (v % 2 ^ 64 / 2 ^ i.toNat) with h | h
  · rw [h, br_neg (eq_f (by decide))]
  · rw [h, br_pos (eq_t rfl)]
/-- The number with its sign spread over all bits. -/
def spread (m u : Nat) : Nat := 2 ^ (m + 1) * ((u / 2 ^ m % 2) * (2 ^ (63 - m) - 1)) + u % 2 ^ (m + 1)
theorem spread_bit (m u i : Nat) (hm : m ≤ 63) (hi : i ≤ 63) : spread m u / 2 ^ i % 2 = u / 2 ^ (min i m) % 2 := by
  have hb : ∀ a j : Nat, a / 2 ^ j % 2 = (a.testBit j).toNat := fun a j => by rw [Nat.testBit_eq_decide_div_mod_eq]; rcases Nat.mod_two_eq_zero_or_one (a / 2 ^ j) with h | h <;> simp [h]
  rw [hb, hb]
  congr 1
  unfold spread
  rw [Nat.testBit_two_pow_mul_add _ (Nat.mod_lt _ (Nat.two_pow_pos _))]
  split
  · rename_i h
    rw [Nat.testBit_mod_two_pow, show min i m = i by omega]
    simp [h]
  · rename_i h
    rw [show min i m = m by omega, hb]
    cases hs : u.testBit m with
    | false => simp
    | true =>
      simp only [Bool.toNat_true, Nat.one_mul]
      rw [Nat.testBit_two_pow_sub_one]
      simp; omega
theorem spread_lt (m u : Nat) (hm : m ≤ 63) : spread m u < 2 ^ 64 := by
  unfold spread
  have h1 : u % 2 ^ (m + 1) < 2 ^ (m + 1) := Nat.mod_lt _ (Nat.two_pow_pos _)
  have h2 : (u / 2 ^ m % 2) * (2 ^ (63 - m) - 1) ≤ 2 ^ (63 - m) - 1 := by
    have : u / 2 ^ m % 2 ≤ 1 := by omega
    calc _ ≤ 1 * (2 ^ (63 - m) - 1) := Nat.mul_le_mul_right _ this
      _ = _ := Nat.one_mul _
  have h3 : 2 ^ (m + 1) * 2 ^ (63 - m) = (2 : Nat) ^ 64 := by rw [← Nat.pow_add]; congr 1; omega
  have h4 : 2 ^ (m + 1) * ((u / 2 ^ m % 2) * (2 ^ (63 - m) - 1)) ≤ 2 ^ (m + 1) * (2 ^ (63 - m) - 1) := Nat.mul_le_mul_left _ h2
  have h6 : 2 ^ (m + 1) * (2 ^ (63 - m) - 1) = 2 ^ 64 - 2 ^ (m + 1) := by rw [Nat.mul_sub, Nat.mul_one, h3]
  rw [h6] at h4
  have h5 : (2 : Nat) ^ (m + 1) ≤ 2 ^ 64 := Nat.pow_le_pow_right (by decide) (by omega)
  omega
def uns (v : Int) : Nat := (v % 2 ^ 64).toNat
theorem uns_cast (v : Int) : ((uns v : Nat) : Int) = v % 2 ^ 64 := by unfold uns; have := Int.emod_nonneg v (show (2 : Int) ^ 64 ≠ 0 by decide); omega
theorem spread_sx (m : Nat) (v : Int) (hm : m ≤ 63) : IntKind.wrap .i64 (spread m (uns v) : Nat) = sx m v := by
  have hlt := spread_lt m (uns v) hm
  have hu := uns_cast v
  have hp : ((2 ^ m : Nat) : Int) = 2 ^ m := by simp
  have hp1 : ((2 ^ (m + 1) : Nat) : Int) = 2 ^ (m + 1) := by simp
  have hs : v % 2 ^ 64 / 2 ^ m % 2 = ((uns v / 2 ^ m % 2 : Nat) : Int) := by rw [← hu]; simp
  have hr : v % 2 ^ (m + 1) = ((uns v % 2 ^ (m + 1) : Nat) : Int) := by
    have h1 : v % 2 ^ (m + 1) = v % 2 ^ 64 % 2 ^ (m + 1) := by
      rw [Int.emod_emod_of_dvd]
      exact ⟨2 ^ (63 - m), by rw [← Int.pow_add]; congr 1; omega⟩
    rw [h1, ← hu]; simp
  have hmod : uns v % 2 ^ (m + 1) < 2 ^ (m + 1) := Nat.mod_lt _ (Nat.two_pow_pos _)
  have h64 : 2 ^ (m + 1) * 2 ^ (63 - m) = (2 : Nat) ^ 64 := by rw [← Nat.pow_add]; congr 1; omega
  unfold sx
  rw [hs, hr]
  have hle : (2 : Nat) ^ (m + 1) ≤ 2 ^ 64 := Nat.pow_le_pow_right (by decide) (by omega)
  have hdbl : (2 : Nat) ^ (m + 1) = 2 ^ m * 2 := Nat.pow_succ 2 m
  have hle2 : (2 : Nat) ^ m ≤ 2 ^ 63 := Nat.pow_le_pow_right (by decide) hm
  have hhi : uns v % 2 ^ (m + 1) / 2 ^ m = uns v / 2 ^ m % 2 := by rw [hdbl, Nat.mod_mul_right_div_self]
  rcases Nat.mod_two_eq_zero_or_one (uns v / 2 ^ m) with h | h
  · rw [h, if_neg (by decide)]
    have e : spread m (uns v) = uns v % 2 ^ (m + 1) := by unfold spread; rw [h]; simp
    rw [e]
    have : uns v % 2 ^ (m + 1) < 2 ^ m := by
      rw [h] at hhi
      exact (Nat.div_eq_zero_iff.1 hhi).resolve_left (by have := Nat.two_pow_pos m; omega)
    exact wrap64_id (by unfold I64; omega)
  · rw [h, if_pos (by rfl)]
    have e : spread m (uns v) + 2 ^ (m + 1) = 2 ^ 64 + uns v % 2 ^ (m + 1) := by
      unfold spread
      rw [h, Nat.one_mul, Nat.mul_sub, Nat.mul_one, h64]
      omega
    have h2 : 2 ^ m ≤ uns v % 2 ^ (m + 1) := by
      rw [h] at hhi
      have := Nat.div_mul_le_self (uns v % 2 ^ (m + 1)) (2 ^ m)
      rw [hhi] at this; omega
    have : ((spread m (uns v) : Nat) : Int) = ((uns v % 2 ^ (m + 1) : Nat) : Int) - 2 ^ (m + 1) + 2 ^ 64 := by rw [← hp1]; omega
    rw [this]
    have hw : ∀ n : Int, IntKind.wrap .i64 (n + 2 ^ 64) = IntKind.wrap .i64 n := fun n => by
      have h3 : (n + 2 ^ 64) % 2 ^ IntKind.i64.bits = n % 2 ^ IntKind.i64.bits := Int.add_emod_right ..
      simp only [IntKind.wrap, h3]
    rw [hw]
    rw [← hp1]
    exact wrap64_id (by unfold I64; omega)
/-- The reference's sign. -/
theorem l01Sign_eq (v n : Int) (h0 : 1 ≤ n) (h1 : n ≤ 8) : S_spec_l01Sign ((v, (n, ())), ()) = some (sx (8 * n - 1).toNat v, ()) := by
  unfold S_spec_l01Sign
  obtain ⟨k, hk⟩ : ∃ k : Nat, n = k := ⟨n.toNat, by omega⟩
  subst hk
  generalize hm : (8 * (k : Int) - 1).toNat = m
  have hm63 : m ≤ 63 := by omega
  refine (iter_eq (fun x => x.1.1 = v ∧ x.1.2.1 = (k : Int) ∧ -1 ≤ x.1.2.2.2.1 ∧ x.1.2.2.2.1 ≤ 63 ∧ x.1.2.2.1 = ((spread m (uns v) / 2 ^ (x.1.2.2.2.1 + 1).toNat : Nat) : Int)) (fun x => (x.1.2.2.2.1 + 1).toNat)
    (fun _ => some (sx m v, ())) ?_ F _ ⟨rfl, rfl, by show (-1 : Int) ≤ 63; decide, by show (63 : Int) ≤ 63; decide, ?_⟩ (by show ((63 : Int) + 1).toNat < F; decide)).trans rfl
  · rintro ⟨⟨v', k', acc, i, _⟩, _⟩ rec ⟨rfl, hk', h2, h3, hacc⟩ hrec
    dsimp only at hk' h2 h3 hacc hrec ⊢
    subst hk'
    by_cases hi : 0 ≤ i
    · obtain ⟨j, rfl⟩ := Int.eq_ofNat_of_zero_le hi
      rw [br_pos (le_t hi)]
      have e1 : subI .i64 (mulI .i64 8 (k : Int)) 1 = (m : Int) := by
        rw [mul_id (by unfold I64; omega), sub_id (by unfold I64; omega)]; omega
      rw [e1]
      have e2 : imin (j : Int) (m : Int) = ((min j m : Nat) : Int) := by unfold imin; split <;> omega
      rw [e2, l01Bit_eq _ _ (by omega) (by omega), bnd_s]
      dsimp only
      have e3 : v' % 2 ^ 64 / 2 ^ (((min j m : Nat) : Int)).toNat % 2 = ((spread m (uns v') / 2 ^ j % 2 : Nat) : Int) := by
        rw [spread_bit m _ j hm63 (by omega), ← uns_cast]; simp
      rw [e3]
      have hlt := spread_lt m (uns v') hm63
      have e4 : spread m (uns v') / 2 ^ (((j : Int) + 1).toNat) = spread m (uns v') / 2 ^ j / 2 := by
        rw [show ((j : Int) + 1).toNat = j + 1 by omega, Nat.pow_succ, Nat.div_div_eq_div_mul]
      rw [e4] at hacc
      generalize hq : spread m (uns v') / 2 ^ j = q at hacc ⊢
      have hq2 : q < 2 ^ 64 := by rw [← hq]; exact Nat.lt_of_le_of_lt (Nat.div_le_self _ _) hlt
      have e5 : addI .u64 (mulI .u64 2 acc) (wrapI .u64 ((q % 2 : Nat) : Int)) = (q : Int) := by
        unfold addI mulI wrapI
        rw [hacc, wrapU_id (n := 2 * ((q / 2 : Nat) : Int)) (by omega) (by omega), wrapU_id (n := ((q % 2 : Nat) : Int)) (by omega) (by omega), wrapU_id (by omega) (by omega)]
        omega
      rw [e5, sub_id (by unfold I64; omega)]
      refine hrec _ ⟨rfl, rfl, by dsimp only; omega, by dsimp only; omega, ?_⟩ (by dsimp only; omega)
      dsimp only
      rw [show ((j : Int) - 1 + 1).toNat = j by omega, hq]
    · rw [br_neg (le_f hi)]
      have : i = -1 := by omega
      subst this
      rw [hacc]
      have : spread m (uns v') / 2 ^ ((-1 : Int) + 1).toNat = spread m (uns v') := by simp
      rw [this]
      show some (IntKind.wrap .i64 _, ()) = _
      rw [spread_sx m v' hm63]
  · have hlt := spread_lt m (uns v) hm63
    show (0 : Int) = ((spread m (uns v) / 2 ^ ((63 : Int) + 1).toNat : Nat) : Int)
    rw [show ((63 : Int) + 1).toNat = 64 from rfl, Nat.div_eq_of_lt hlt]; rfl
/-- The program's sign. -/
theorem sign_eq (v n : Int) (h0 : 1 ≤ n) (h1 : n ≤ 8) : S_impl_sign ((v, (n, ())), ()) = some (sx (8 * n - 1).toNat v, ()) := by
  unfold S_impl_sign
  dsimp only
  have e : subI .i64 64 (mulI .i64 8 n) = 64 - 8 * n := by rw [mul_id (by unfold I64; omega), sub_id (by unfold I64; omega)]
  rw [e, br_pos (le_t (by omega)), br_pos (le_t (by omega))]
  congr 2
  obtain ⟨m, hm⟩ : ∃ m : Nat, 8 * n - 1 = m := ⟨(8 * n - 1).toNat, by omega⟩
  have hn : 64 - 8 * n = ((63 - m : Nat) : Int) := by omega
  rw [hm, hn]
  have hm63 : m ≤ 63 := by omega
  simp only [Int.toNat_natCast]
  unfold ishr ishl
  rw [show min (((63 - m : Nat) : Int)).toNat IntKind.i64.bits = 63 - m by simp [IntKind.bits]; omega]
  have hp : (0 : Int) < 2 ^ (63 - m) := Int.pow_pos (by decide)
  rw [Int.fdiv_eq_ediv_of_nonneg _ (Int.le_of_lt hp)]
  have h64 : (2 : Int) ^ (m + 1) * 2 ^ (63 - m) = 2 ^ 64 := by rw [← Int.pow_add]; congr 1; omega
  have h63 : (2 : Int) ^ m * 2 ^ (63 - m) = 2 ^ 63 := by rw [← Int.pow_add]; congr 1; omega
  have hr := Int.emod_nonneg v (show (2 : Int) ^ (m + 1) ≠ 0 from Int.ne_of_gt (Int.pow_pos (by decide)))
  have hr2 := Int.emod_lt_of_pos v (show (0 : Int) < 2 ^ (m + 1) from Int.pow_pos (by decide))
  -- the sign
  have hsv : v % 2 ^ 64 / 2 ^ m % 2 = v % 2 ^ (m + 1) / 2 ^ m := by
    have h1 : v % 2 ^ (m + 1) = v % 2 ^ 64 % 2 ^ (m + 1) := by
      rw [Int.emod_emod_of_dvd]
      exact ⟨2 ^ (63 - m), h64.symm⟩
    rw [h1, Int.pow_succ 2 m]
    have hu := uns_cast v
    rw [← hu]
    have : ((2 : Int) ^ m) = ((2 ^ m : Nat) : Int) := by simp
    rw [this]
    have h2 : ((2 ^ m : Nat) : Int) * 2 = ((2 ^ m * 2 : Nat) : Int) := by simp
    rw [h2]
    rw [← Int.natCast_ediv, ← Int.natCast_emod, ← Int.natCast_ediv, Nat.mod_mul_right_div_self]
    simp
  have hdm : v = v % 2 ^ (m + 1) + 2 ^ (m + 1) * (v / 2 ^ (m + 1)) := (Int.emod_add_mul_ediv ..).symm
  have hmul : v * 2 ^ (63 - m) % 2 ^ 64 = v % 2 ^ (m + 1) * 2 ^ (63 - m) := by
    rw [← h64, Int.mul_comm v, Int.mul_comm (2 ^ (m + 1)), Int.mul_emod_mul_of_pos _ _ hp, Int.mul_comm]
  unfold sx
  rw [hsv]
  generalize v % 2 ^ (m + 1) = r at *
  have hpm : (0 : Int) < 2 ^ m := Int.pow_pos (by decide)
  have hdbl : (2 : Int) ^ (m + 1) = 2 ^ m * 2 := Int.pow_succ 2 m
  simp only [IntKind.wrap, IntKind.bits, IntKind.signed, Bool.true_and, decide_eq_true_eq, ge_iff_le]
  rw [show ((64 : Nat) - 1) = 63 from rfl, hmul]
  by_cases hs : (2 : Int) ^ m ≤ r
  · have hq : r / 2 ^ m = 1 := by
      rw [Int.ediv_eq_iff_of_pos hpm]
      omega
    rw [hq, if_pos rfl]
    have hge : (2 : Int) ^ 63 ≤ r * 2 ^ (63 - m) := by rw [← h63]; exact Int.mul_le_mul_of_nonneg_right hs (Int.le_of_lt hp)
    rw [if_pos hge, ← h64, ← Int.sub_mul, Int.mul_ediv_cancel _ (Int.ne_of_gt hp)]
  · have hq : r / 2 ^ m = 0 := Int.ediv_eq_zero_of_lt hr (by omega)
    rw [hq]
    have hge : ¬ (2 : Int) ^ 63 ≤ r * 2 ^ (63 - m) := by
      rw [← h63, Int.not_le]
      exact Int.mul_lt_mul_of_pos_right (by omega) hp
    rw [if_neg hge, if_neg (by decide), Int.mul_ediv_cancel _ (Int.ne_of_gt hp)]
theorem fits_eq (v n : Int) (h0 : 1 ≤ n) (h1 : n ≤ 4) : S_impl_fits ((v, (n, ())), ()) = S_spec_l05Fits ((v, (n, ())), ()) := by
  unfold S_impl_fits S_spec_l05Fits
  dsimp only
  rw [sign_eq v n h0 (by omega), show imin n 4 = n by unfold imin; split <;> omega, l01Sign_eq v n h0 (by omega)]
def fitsB (v n : Int) : Bool := eqI (sx (8 * n - 1).toNat v) v
theorem l05Fits_eq (v n : Int) (h0 : 1 ≤ n) (h1 : n ≤ 4) : S_spec_l05Fits ((v, (n, ())), ()) = some (fitsB v n, ()) := by
  unfold S_spec_l05Fits
  dsimp only
  rw [show imin n 4 = n by unfold imin; split <;> omega, l01Sign_eq v n h0 (by omega), bnd_s]
  rfl
end Go.Den.G
namespace Go.Den.G
set_option linter.unusedSimpArgs false
open Go.Den

def inB (a b c : Int) : Bool := decide (b ≤ a) && decide (a ≤ c)
theorem l01In_eq (a b c : Int) : S_spec_l01In ((a, (b, (c, ()))), ()) = some (inB a b c, ()) := by
  unfold S_spec_l01In inB
  dsimp only
  by_cases h : b ≤ a
  · rw [br_pos (le_t h), bnd_s]; simp [leI, h]
  · rw [br_neg (le_f h), bnd_s]; simp [h]
theorem within_eq (a b c : Int) : S_impl_within ((a, (b, (c, ()))), ()) = some (inB a b c, ()) := l01In_eq a b c
theorem and_eq (a b : Bool) : br a (some b) (some false) = some (a && b) := by cases a <;> rfl
theorem or_eq (a b : Bool) : br a (some true) (some b) = some (a || b) := by cases a <;> rfl
theorem l14Label_eq (a : Int) : S_spec_l14Label ((a, ()), ()) = some (inB a 0 31, ()) := by
  unfold S_spec_l14Label; rw [l01In_eq]; rfl
theorem isLabel_eq (a : Int) : S_impl_isLabel ((a, ()), ()) = some (inB a 0 31, ()) := by
  unfold S_impl_isLabel; rw [within_eq]; rfl
def regB (a : Int) : Bool := inB a 0 14 && !eqI a 4 && !eqI a 5 && !eqI a 11
theorem l14Reg_eq (a : Int) : S_spec_l14Reg ((a, ()), ()) = some (regB a, ()) := by
  unfold S_spec_l14Reg regB
  rw [l01In_eq, bnd_s]
  simp only [and_eq, bnd_s, notB_not]
theorem isOwnReg_eq (a : Int) : S_impl_isOwnReg ((a, ()), ()) = some (regB a, ()) := by
  unfold S_impl_isOwnReg regB S_impl_isStackReg
  rw [within_eq, bnd_s]
  simp only [and_eq, or_eq, bnd_s, notB_not]
  congr 2
  simp [Bool.and_assoc]
theorem l14Disp_eq (a : Int) : S_spec_l14Disp ((a, ()), ()) = some (inB a (-2048) 2047, ()) := by
  unfold S_spec_l14Disp; rw [l01In_eq]; rfl
/-- Is it a statement? -/
def stmtB (s : Stm) : Bool :=
  if s.kind = 1 ∨ s.kind = 10 ∨ s.kind = 12 then inB s.a 0 31 && (eqI s.b 0 && eqI s.c 0)
  else if s.kind = 2 then regB s.a && (fitsB s.b 4 && eqI s.c 0)
  else if s.kind = 3 then regB s.a && (regB s.b && eqI s.c 0)
  else if s.kind = 4 then inB s.a 1 8 && (regB s.b && regB s.c)
  else if s.kind = 5 ∨ s.kind = 6 then regB s.a && (regB s.b && inB s.c (-2048) 2047)
  else if s.kind = 7 ∨ s.kind = 8 ∨ s.kind = 16 then regB s.a && (eqI s.b 0 && eqI s.c 0)
  else if s.kind = 9 then inB s.a (-256) 256 && (eqI (remI s.a 8) 0 && (eqI s.b 0 && eqI s.c 0))
  else if s.kind = 11 then inB s.a 0 15 && (inB s.b 0 31 && eqI s.c 0)
  else if s.kind = 13 ∨ s.kind = 15 then eqI s.a 0 && (eqI s.b 0 && eqI s.c 0)
  else if s.kind = 14 then inB s.a 0 7 && (eqI s.b 0 && eqI s.c 0)
  else if s.kind = 17 then regB s.a && (inB s.b 0 31 && eqI s.c 0)
  else false
theorem kinds (k : Int) : k = 1 ∨ k = 2 ∨ k = 3 ∨ k = 4 ∨ k = 5 ∨ k = 6 ∨ k = 7 ∨ k = 8 ∨ k = 9 ∨ k = 10 ∨ k = 11 ∨ k = 12 ∨ k = 13 ∨ k = 14 ∨ k = 15 ∨ k = 16 ∨ k = 17 ∨ (k < 1 ∨ 17 < k) := by omega
theorem fits4 (v : Int) : S_spec_l05Fits ((v, (4, ())), ()) = some (fitsB v 4, ()) := l05Fits_eq v 4 (by decide) (by decide)
theorem fits4' (v : Int) : S_impl_fits ((v, (4, ())), ()) = some (fitsB v 4, ()) := (fits_eq v 4 (by decide) (by decide)).trans (fits4 v)
theorem impl_StmtOK_eq (s : Stm) : S_impl_StmtOK ((s, ()), ()) = some (stmtB s, ()) := by
  obtain ⟨k, a, b, c⟩ := s
  unfold S_impl_StmtOK stmtB
  simp only [isOwnReg_eq, isLabel_eq, within_eq, fits4', bnd_s, and_eq]
  rcases kinds k with h | h | h | h | h | h | h | h | h | h | h | h | h | h | h | h | h | h
  all_goals first
    | (subst h; simp [isOwnReg_eq, isLabel_eq, within_eq, fits4', eqI, br_t, br_f, bnd_s, sumE_l, sumE_r, and_eq, Bool.and_assoc])
    | (simp [isOwnReg_eq, isLabel_eq, within_eq, fits4', eqI, br_t, br_f, bnd_s, sumE_l, sumE_r, and_eq, show k ≠ 1 by omega, show k ≠ 2 by omega, show k ≠ 3 by omega, show k ≠ 4 by omega, show k ≠ 5 by omega, show k ≠ 6 by omega, show k ≠ 7 by omega, show k ≠ 8 by omega, show k ≠ 9 by omega, show k ≠ 10 by omega, show k ≠ 11 by omega, show k ≠ 12 by omega, show k ≠ 13 by omega, show k ≠ 14 by omega, show k ≠ 15 by omega, show k ≠ 16 by omega, show k ≠ 17 by omega])
theorem spec_StmtOK_eq (s : Stm) : S_spec_StmtOK ((s, ()), ()) = some (stmtB s, ()) := by
  obtain ⟨k, a, b, c⟩ := s
  unfold S_spec_StmtOK stmtB
  simp only [l14Reg_eq, l14Label_eq, l01In_eq, l14Disp_eq, fits4, bnd_s, and_eq]
  rcases kinds k with h | h | h | h | h | h | h | h | h | h | h | h | h | h | h | h | h | h
  all_goals first
    | (subst h; simp [l14Reg_eq, l14Label_eq, l01In_eq, l14Disp_eq, fits4, eqI, br_t, br_f, bnd_s, sumE_l, sumE_r, and_eq]; try (cases decide (c = 0) <;> cases decide (b = 0) <;> simp [Bool.and_assoc, Bool.and_comm, Bool.and_left_comm]))
    | (simp [l14Reg_eq, l14Label_eq, l01In_eq, l14Disp_eq, fits4, eqI, br_t, br_f, bnd_s, sumE_l, sumE_r, and_eq, show k ≠ 1 by omega, show k ≠ 2 by omega, show k ≠ 3 by omega, show k ≠ 4 by omega, show k ≠ 5 by omega, show k ≠ 6 by omega, show k ≠ 7 by omega, show k ≠ 8 by omega, show k ≠ 9 by omega, show k ≠ 10 by omega, show k ≠ 11 by omega, show k ≠ 12 by omega, show k ≠ 13 by omega, show k ≠ 14 by omega, show k ≠ 15 by omega, show k ≠ 16 by omega, show k ≠ 17 by omega])
end Go.Den.G
namespace Go.Den.G
open Go.Den

theorem stmtB_kind {s : Stm} (h : stmtB s = true) : 1 ≤ s.kind ∧ s.kind ≤ 17 := by
  unfold stmtB at h
  obtain ⟨k, a, b, c⟩ := s
  dsimp only at h ⊢
  rcases kinds k with h' | h' | h' | h' | h' | h' | h' | h' | h' | h' | h' | h' | h' | h' | h' | h' | h' | h'
  all_goals first
    | omega
    | (exfalso; simp [show k ≠ 1 by omega, show k ≠ 2 by omega, show k ≠ 3 by omega, show k ≠ 4 by omega, show k ≠ 5 by omega, show k ≠ 6 by omega, show k ≠ 7 by omega, show k ≠ 8 by omega, show k ≠ 9 by omega, show k ≠ 10 by omega, show k ≠ 11 by omega, show k ≠ 12 by omega, show k ≠ 13 by omega, show k ≠ 14 by omega, show k ≠ 15 by omega, show k ≠ 16 by omega, show k ≠ 17 by omega] at h)
/-- Both texts, out of the kind. -/
theorem texts (k : Int) (h0 : 1 ≤ k) (h1 : k ≤ 17) : ∃ w n, w.length ≤ 1000 ∧ 0 ≤ n ∧ n ≤ 3 ∧ S_impl_stmtForm ((k, ()), ()) = some ((w, (n, ())), ()) ∧ S_spec_l16Many ((k, ()), ()) = some (n, ()) ∧
    ∃ ws, S_spec_l16Words ((), ()) = some (ws, ()) ∧ inR (subI .i64 k 1) (lenL ws) = true ∧ getL ws (subI .i64 k 1) (dflt .s) = w := by
  rcases kinds k with rfl | rfl | rfl | rfl | rfl | rfl | rfl | rfl | rfl | rfl | rfl | rfl | rfl | rfl | rfl | rfl | rfl | h
  all_goals first
    | exact ⟨_, _, by decide, by decide, by decide, rfl, rfl, _, rfl, by decide, by decide⟩
    | omega
end Go.Den.G
namespace Go.Den.G
open Go.Den

/-! ### a text's pieces between blanks, and its words -/
def pieces : List UInt8 → List (List UInt8)
  | [] => [[]]
  | c :: r => if c = 32 then [] :: pieces r else match pieces r with
    | p :: ps => (c :: p) :: ps
    | [] => [[c]]
def full (p : List UInt8) : Bool := !(p.isEmpty)
def wds (s : List UInt8) : List (List UInt8) := (pieces s).filter full
theorem pieces_none : ∀ {s : List UInt8}, (∀ c ∈ s, c ≠ 32) → pieces s = [s]
  | [], _ => rfl
  | c :: r, h => by
    unfold pieces
    rw [if_neg (h c (by simp)), pieces_none fun d hd => h d (by simp [hd])]
theorem pieces_cut : ∀ {a b : List UInt8}, (∀ c ∈ a, c ≠ 32) → pieces (a ++ 32 :: b) = a :: pieces b
  | [], b, _ => by simp [pieces]
  | c :: r, b, h => by
    rw [List.cons_append, pieces, if_neg (h c (by simp)), pieces_cut (a := r) (b := b) fun d hd => h d (by simp [hd])]
theorem pieces_len : ∀ s : List UInt8, (pieces s).length ≤ s.length + 1
  | [] => by simp [pieces]
  | c :: r => by
    have := pieces_len r
    unfold pieces
    split
    · simp; omega
    · split
      · rename_i h; rw [h] at this; simp at this ⊢; omega
      · simp
/-- What a cut at blanks comes to. -/
theorem splitK_pieces : ∀ (n : Nat) (s : List UInt8), s.length ≤ n → Go.Lib.splitK [32] 0 (Go.Lib.count s [32]) s = pieces s := by
  intro n
  induction n with
  | zero =>
    intro s hs
    have : s = [] := List.length_eq_zero_iff.1 (by omega)
    subst this
    rw [Go.Lib.count_miss (by rw [Go.Lib.index_one]; rfl)]
    rfl
  | succ n ih =>
    intro s hs
    by_cases h : Go.Lib.indexByte s 32 = -1
    · rw [Go.Lib.count_miss (by rw [Go.Lib.index_one]; exact h)]
      rw [pieces_none fun c hc e => ?_]
      · rfl
      · obtain ⟨k, hk⟩ := List.getElem?_of_mem hc
        exact Go.Lib.indexByte_none h k (by rw [hk, e])
    · obtain ⟨i, hi⟩ : ∃ i : Nat, Go.Lib.indexByte s 32 = i := by
        have := Go.Lib.indexByte_ge s 32
        exact ⟨(Go.Lib.indexByte s 32).toNat, by omega⟩
      obtain ⟨h1, h2⟩ := Go.Lib.indexByte_some hi
      have hx : Go.Lib.index s [32] = i := by rw [Go.Lib.index_one]; exact hi
      have hlt : i < s.length := by
        rcases Nat.lt_or_ge i s.length with g | g
        · exact g
        · rw [List.getElem?_eq_none g] at h1; cases h1
      rw [Go.Lib.count_hit (by simp) hx, Nat.add_comm 1, Go.Lib.splitK, if_neg (by rw [hx]; simp), hx]
      simp only [Int.toNat_natCast, List.length_cons, List.length_nil, Nat.add_zero, Nat.zero_add]
      rw [ih _ (by rw [List.length_drop]; omega)]
      have e : s = s.take i ++ 32 :: s.drop (i + 1) := by
        have h3 : s[i] = 32 := by rw [List.getElem?_eq_getElem hlt] at h1; exact Option.some.inj h1
        rw [← h3, ← List.drop_eq_getElem_cons hlt, List.take_append_drop]
      conv => rhs; rw [e]
      rw [pieces_cut fun c hc ec => ?_]
      obtain ⟨k, hk⟩ := List.getElem?_of_mem hc
      rw [List.getElem?_take] at hk
      split at hk
      · rename_i hki
        exact h2 k hki (by rw [hk, ec])
      · cases hk
theorem splitL_eq (s : List UInt8) : splitL s [32] = pieces s := by
  unfold splitL
  rw [show (fun b : ByteArray => b.data.toList) = (·.data.toList) from rfl, Go.Lib.splitB_data]
  show Go.Lib.splitK [32] 0 (Go.Lib.count _ _) _ = _
  exact splitK_pieces s.length s (Nat.le_refl _)

/-! ### empty pieces are left out -/
theorem empty_eq (t : List UInt8) : S_impl_wordsOf_1 ((t, ()), ()) = some (!full t, ()) := by
  unfold S_impl_wordsOf_1 full eqS
  cases t <;> simp
theorem indexEmpty (xs : List (List UInt8)) (hl : xs.length ≤ 1000000) :
    S_slices_IndexFunc_string_cimpl_wordsOf_1 ((xs, ()), ()) = some ((match xs.findIdx? (fun x => !full x) with | some n => (n : Int) | none => -1), ()) := by
  unfold S_slices_IndexFunc_string_cimpl_wordsOf_1
  refine (iter_eq (fun x => x.1.1 = xs ∧ x.1.2.1 = (xs.length : Int) ∧ 0 ≤ x.1.2.2.1 ∧ x.1.2.2.1 ≤ (xs.length : Int)) (fun x => xs.length - x.1.2.2.1.toNat)
    (fun x => some ((match (xs.drop x.1.2.2.1.toNat).findIdx? (fun x => !full x) with | some n => x.1.2.2.1 + (n : Int) | none => -1), ())) ?_ F _ ⟨rfl, rfl, Int.le_refl 0, by show (0 : Int) ≤ _; omega⟩ (by show xs.length - 0 < F; unfold F; omega)).trans ?_
  · rintro ⟨⟨ys, n, i, _⟩, _⟩ rec ⟨h2, h3, h0, h1⟩ hrec
    dsimp only at h0 h1 h2 h3 hrec ⊢
    subst h2 h3
    obtain ⟨j, rfl⟩ := Int.eq_ofNat_of_zero_le h0
    simp only [lenL_nat]
    by_cases hj : j < ys.length
    · rw [br_pos (lt_t (by omega)), br_pos (inR_t h0 (by omega)), getL_nat hj, empty_eq, bnd_s, Int.toNat_natCast, List.drop_eq_getElem_cons hj, List.findIdx?_cons]
      dsimp only
      cases hf : full ys[j] with
      | false => simp [br_t]
      | true =>
        rw [Bool.not_true, br_f, add_id (by unfold I64; omega), hrec _ ⟨rfl, rfl, by dsimp only; omega, by dsimp only; omega⟩ (by dsimp only; omega)]
        dsimp only
        rw [show ((j : Int) + 1).toNat = j + 1 by omega]
        cases (List.drop (j + 1) ys).findIdx? (fun x => !full x) with
        | none => rfl
        | some k => simp only [Option.map_some]; exact congrArg (fun z : Int => some (z, ())) (by show (j : Int) + 1 + k = j + ((k + 1 : Nat) : Int); omega)
    · rw [br_neg (lt_f (by omega)), Int.toNat_natCast, List.drop_eq_nil_of_le (by omega)]
      rfl
  · dsimp only
    simp only [Int.toNat_zero, List.drop_zero, Int.zero_add]
theorem filter_one {α : Type} {p : α → Bool} {x : α} : [x].filter p = if p x = true then [x] else [] := by
  cases h : p x <;> simp [h]
theorem filter_none {α : Type} {p : α → Bool} : ∀ {xs : List α}, xs.findIdx? (fun x => !p x) = none → xs.filter p = xs := fun {xs} h => by
  rw [List.findIdx?_eq_none_iff] at h
  exact List.filter_eq_self.2 fun x hx => by simpa using h x hx
theorem drop_cons4 {α : Type} {xs ys : List α} {j : Nat} (h : ys.drop j = xs.drop j) (h1 : j < xs.length) (h2 : j < ys.length) : ys[j] = xs[j] ∧ ys.drop (j + 1) = xs.drop (j + 1) := by
  rw [List.drop_eq_getElem_cons h1, List.drop_eq_getElem_cons h2] at h
  exact ⟨(List.cons.inj h).1, (List.cons.inj h).2⟩
theorem deleteEmpty (xs : List (List UInt8)) (hl : xs.length ≤ 1000000) : S_slices_DeleteFunc_string_cimpl_wordsOf_1 ((), (xs, ())) = some (xs.filter full, ()) := by
  unfold S_slices_DeleteFunc_string_cimpl_wordsOf_1
  dsimp only
  rw [indexEmpty xs hl, bnd_s]
  dsimp only
  cases hi : xs.findIdx? (fun x => !full x) with
  | none =>
    dsimp only
    rw [br_pos (eq_t rfl), filter_none hi]
  | some n =>
    rw [List.findIdx?_eq_some_iff_getElem] at hi
    obtain ⟨hn, hb, ha⟩ := hi
    dsimp only
    rw [br_neg (eq_f (by omega))]
    have e0 : (xs.take (n + 1)).filter full = xs.take n := by
      rw [List.take_succ_eq_append_getElem hn, List.filter_append, List.filter_eq_self.2, filter_one]
      · have : full xs[n] = false := by simpa using hb
        rw [this]; simp
      · intro x hx
        obtain ⟨k, hk⟩ := List.getElem_of_mem hx
        obtain ⟨hk1, hk2⟩ := hk
        rw [List.length_take] at hk1
        have := ha k (by omega)
        rw [List.getElem_take] at hk2
        rw [← hk2]; simpa using this
    refine iter_eq (fun x => 0 ≤ x.1.1 ∧ x.1.1 < x.1.2.1 ∧ x.1.2.1 ≤ (xs.length : Int) ∧ x.2.1.length = xs.length ∧ x.2.1.take x.1.1.toNat = (xs.take x.1.2.1.toNat).filter full ∧ x.2.1.drop x.1.2.1.toNat = xs.drop x.1.2.1.toNat)
      (fun x => xs.length - x.1.2.1.toNat) (fun _ => some (xs.filter full, ())) ?_ F _ ?_ (by show xs.length - _ < F; unfold F; omega)
    · rintro ⟨⟨i, j, _⟩, ys, _⟩ rec ⟨h0, h1, h2, h3, h4, h5⟩ hrec
      dsimp only at h0 h1 h2 h3 h4 h5 hrec ⊢
      obtain ⟨a, rfl⟩ := Int.eq_ofNat_of_zero_le h0
      obtain ⟨b, rfl⟩ := Int.eq_ofNat_of_zero_le (show 0 ≤ j by omega)
      simp only [Int.toNat_natCast] at h4 h5
      simp only [lenL_nat, h3]
      by_cases hb2 : b < xs.length
      · obtain ⟨e1, e2⟩ := drop_cons4 h5 hb2 (by omega)
        rw [br_pos (lt_t (by omega)), br_pos (inR_t (by omega) (by omega)), getL_nat (by omega), empty_eq, bnd_s]
        dsimp only
        rw [notB_not, Bool.not_not, e1]
        cases hf : full xs[b] with
        | false =>
          rw [br_f, bnd_s, sumE_l]
          dsimp only
          rw [add_id (by unfold I64; omega)]
          refine hrec _ ⟨by dsimp only; omega, by dsimp only; omega, by dsimp only; omega, h3, ?_, ?_⟩ (by dsimp only; omega)
          · dsimp only
            rw [show ((b : Int) + 1).toNat = b + 1 by omega, Int.toNat_natCast, h4, List.take_succ_eq_append_getElem hb2, List.filter_append, filter_one, hf]; simp
          · dsimp only
            rw [show ((b : Int) + 1).toNat = b + 1 by omega]; exact e2
        | true =>
          rw [br_t, br_pos (inR_t (by omega) (by omega)), bnd_s, sumE_l]
          dsimp only
          rw [add_id (by unfold I64; omega), add_id (by unfold I64; omega)]
          refine hrec _ ⟨by dsimp only; omega, by dsimp only; omega, by dsimp only; omega, by unfold setL; simpa using h3, ?_, ?_⟩ (by dsimp only; omega)
          · dsimp only
            rw [show ((b : Int) + 1).toNat = b + 1 by omega, show ((a : Int) + 1).toNat = a + 1 by omega]
            unfold setL
            rw [Int.toNat_natCast, List.take_succ_eq_append_getElem (by rw [List.length_set]; omega), List.getElem_set_self, List.take_set_of_le (Nat.le_refl a), h4, List.take_succ_eq_append_getElem hb2, List.filter_append, filter_one, hf]
            simp
          · dsimp only
            rw [show ((b : Int) + 1).toNat = b + 1 by omega]
            unfold setL
            rw [Int.toNat_natCast, List.drop_set_of_lt (by omega)]; exact e2
      · have hbl : b = xs.length := by omega
        subst hbl
        rw [br_neg (lt_f (by omega)), br_pos (inC_t (by omega) (by omega)), br_pos (lt_t (by omega))]
        have hcl : ((clrL ys (a : Int) (dflt .s)).length : Int) = xs.length := by
          unfold clrL takeL repL lenL
          simp; omega
        rw [br_pos (inC_t (by omega) (by omega))]
        unfold clrL takeL
        rw [List.take_length] at h4
        rw [Int.toNat_natCast, List.take_append_of_le_length (by rw [List.length_take]; omega), List.take_take, Nat.min_self, h4]
    · refine ⟨by dsimp only; omega, by dsimp only; rw [add_id (by unfold I64; omega)]; omega, by dsimp only; rw [add_id (by unfold I64; omega)]; omega, rfl, ?_, rfl⟩
      dsimp only
      rw [add_id (by unfold I64; omega), show ((n : Int) + 1).toNat = n + 1 by omega, e0, Int.toNat_natCast]
theorem wordsOf_eq (s : List UInt8) (hl : s.length ≤ 65536) : S_impl_wordsOf ((s, ()), ()) = some (wds s, ()) := by
  unfold S_impl_wordsOf
  dsimp only
  rw [br_pos (by unfold splitLim; simp; omega), splitL_eq, deleteEmpty _ (by have := pieces_len s; omega), bnd_s]
  rfl

/-! ### the reference's words -/
theorem byteAt_nat {s : List UInt8} {i : Nat} (h : i < s.length) : byteAt s (i : Int) = ((s[i].toNat : Nat) : Int) := by
  unfold byteAt; rw [Int.toNat_natCast, List.getD_eq_getElem?_getD, List.getElem?_eq_getElem h]; rfl
theorem blank_iff {c : UInt8} : ((c.toNat : Nat) : Int) = 32 ↔ c = 32 := by
  constructor
  · intro h
    have : c.toNat = 32 := by omega
    exact UInt8.toNat_inj.1 (by rw [this]; rfl)
  · rintro rfl; rfl
def cutL (s : List UInt8) (a b : Nat) : List UInt8 := (s.take b).drop a
theorem drop_split {s : List UInt8} {a i : Nat} (h : a ≤ i) (hi : i < s.length) : s.drop a = cutL s a i ++ s[i] :: s.drop (i + 1) := by
  unfold cutL
  rw [← List.drop_eq_getElem_cons hi]
  conv => lhs; rw [← List.take_append_drop i s]
  rw [List.drop_append_of_le_length (by rw [List.length_take]; omega)]
theorem cut_full {s : List UInt8} {a i : Nat} (h : a ≤ i) (hi : i ≤ s.length) : full (cutL s a i) = decide (a < i) := by
  unfold full cutL
  have hl : ((s.take i).drop a).length = i - a := by rw [List.length_drop, List.length_take]; omega
  by_cases g : a < i
  · rw [decide_eq_true g]
    cases hx : (s.take i).drop a with
    | nil => rw [hx] at hl; simp at hl; omega
    | cons => rfl
  · rw [decide_eq_false g]
    have : (s.take i).drop a = [] := List.length_eq_zero_iff.1 (by omega)
    rw [this]; rfl
theorem wds_cut {s : List UInt8} {a i : Nat} (h : a ≤ i) (hi : i < s.length) (hb : s[i] = 32) (hn : ∀ c ∈ cutL s a i, c ≠ 32) :
    wds (s.drop a) = (if a < i then [cutL s a i] else []) ++ wds (s.drop (i + 1)) := by
  rw [drop_split h hi, hb]
  unfold wds
  rw [pieces_cut hn, List.filter_cons, cut_full h (by omega)]
  by_cases g : a < i <;> simp [g]
theorem wds_end {s : List UInt8} {a : Nat} (h : a ≤ s.length) (hn : ∀ c ∈ cutL s a s.length, c ≠ 32) :
    wds (s.drop a) = if a < s.length then [cutL s a s.length] else [] := by
  have e : s.drop a = cutL s a s.length := by unfold cutL; rw [List.take_length]
  rw [e]
  unfold wds
  rw [pieces_none hn, filter_one, cut_full h (Nat.le_refl _)]
  by_cases g : a < s.length <;> simp [g]
theorem cut_next {s : List UInt8} {a i : Nat} (h : a ≤ i) (hi : i < s.length) : cutL s a (i + 1) = cutL s a i ++ [s[i]] := by
  unfold cutL
  rw [List.take_succ_eq_append_getElem hi, List.drop_append_of_le_length (by rw [List.length_take]; omega)]
theorem l00Words_eq (s : List UInt8) (hl : s.length ≤ 16777216) : S_spec_l00Words ((s, ()), ()) = some (wds s, ()) := by
  unfold S_spec_l00Words
  refine (iter_eq (fun x => x.1.1 = s ∧ 0 ≤ x.1.2.1 ∧ x.1.2.1 ≤ x.1.2.2.1 ∧ x.1.2.2.1 ≤ (s.length : Int) + 1 ∧ x.2.1.length ≤ x.1.2.1.toNat ∧
      (x.1.2.2.1 ≤ (s.length : Int) → (∀ c ∈ cutL s x.1.2.1.toNat x.1.2.2.1.toNat, c ≠ 32) ∧ x.2.1 ++ wds (s.drop x.1.2.1.toNat) = wds s) ∧
      ((s.length : Int) < x.1.2.2.1 → x.2.1 = wds s))
    (fun x => s.length + 1 - x.1.2.2.1.toNat) (fun _ => some (wds s, ())) ?_ F _ ?_ (by show s.length + 1 - 0 < F; unfold F; omega)).trans ?_
  · rintro ⟨⟨s', a, i, _⟩, out, _⟩ rec ⟨rfl, h0, h1, h2, h3, h4, h5⟩ hrec
    dsimp only at h0 h1 h2 h3 h4 h5 hrec hl ⊢
    obtain ⟨u, rfl⟩ := Int.eq_ofNat_of_zero_le h0
    obtain ⟨k, rfl⟩ := Int.eq_ofNat_of_zero_le (show 0 ≤ i by omega)
    simp only [Int.toNat_natCast] at h3 h4
    simp only [lenL_nat]
    by_cases hk : (k : Int) ≤ s'.length
    · obtain ⟨g2, g3⟩ := h4 hk
      have huk : u ≤ k := by omega
      have hcut : dropL (takeL s' (k : Int)) (u : Int) = cutL s' u k := by unfold dropL takeL cutL; simp
      have hfit : fits2 out (cutL s' u k :: ([] : List (List UInt8))) = true := fits2_t (by simp; omega)
      rw [br_pos (le_t hk)]
      by_cases e1 : k = s'.length
      · rw [br_pos (eq_t (by omega)), bnd_s, br_t]
        have hw := wds_end (s := s') (a := u) (by omega) (by rw [← e1]; exact g2)
        by_cases g : u < k
        · rw [br_pos (lt_t (by omega)), br_pos (inC_t (by omega) (by omega)), br_pos (inC_t (by omega) (by omega)), hcut, br_pos hfit]
          simp only [bnd_s, sumE_l]
          rw [add_id (by unfold I64; omega)]
          refine hrec _ ⟨rfl, by dsimp only; omega, Int.le_refl _, by dsimp only; omega, by simp [appL]; omega, fun h => by dsimp only at h; omega, fun _ => ?_⟩ (by dsimp only; omega)
          dsimp only
          rw [← g3, hw, if_pos (by omega), e1]; rfl
        · rw [br_neg (lt_f (by omega))]
          simp only [bnd_s, sumE_l]
          rw [add_id (by unfold I64; omega)]
          refine hrec _ ⟨rfl, by dsimp only; omega, Int.le_refl _, by dsimp only; omega, by dsimp only; omega, fun h => by dsimp only at h; omega, fun _ => ?_⟩ (by dsimp only; omega)
          dsimp only
          rw [← g3, hw, if_neg (by omega), List.append_nil]
      · have hks : k < s'.length := by omega
        rw [br_neg (eq_f (by omega)), br_pos (inR_t (by omega) (by omega)), bnd_s, byteAt_nat hks]
        by_cases e2 : s'[k] = 32
        · rw [br_pos (eq_t (blank_iff.2 e2))]
          have hw := wds_cut huk hks e2 g2
          by_cases g : u < k
          · rw [br_pos (lt_t (by omega)), br_pos (inC_t (by omega) (by omega)), br_pos (inC_t (by omega) (by omega)), hcut, br_pos hfit]
            simp only [bnd_s, sumE_l]
            rw [add_id (by unfold I64; omega)]
            refine hrec _ ⟨rfl, by dsimp only; omega, Int.le_refl _, by dsimp only; omega, by simp [appL]; omega, fun _ => ⟨?_, ?_⟩, fun h => by dsimp only at h; omega⟩ (by dsimp only; omega)
            · dsimp only; simp [cutL]
            · dsimp only
              rw [show ((k : Int) + 1).toNat = k + 1 by omega, ← g3, hw, if_pos g]
              simp [appL]
          · rw [br_neg (lt_f (by omega))]
            simp only [bnd_s, sumE_l]
            rw [add_id (by unfold I64; omega)]
            refine hrec _ ⟨rfl, by dsimp only; omega, Int.le_refl _, by dsimp only; omega, by dsimp only; omega, fun _ => ⟨?_, ?_⟩, fun h => by dsimp only at h; omega⟩ (by dsimp only; omega)
            · dsimp only; simp [cutL]
            · dsimp only
              rw [show ((k : Int) + 1).toNat = k + 1 by omega, ← g3, hw, if_neg g, List.nil_append]
        · rw [br_neg (eq_f fun h => e2 (blank_iff.1 h))]
          simp only [bnd_s, sumE_l]
          rw [add_id (by unfold I64; omega)]
          refine hrec _ ⟨rfl, by dsimp only; omega, by dsimp only; omega, by dsimp only; omega, by dsimp only; omega, fun _ => ⟨?_, ?_⟩, fun h => by dsimp only at h; omega⟩ (by dsimp only; omega)
          · dsimp only
            rw [show ((k : Int) + 1).toNat = k + 1 by omega, Int.toNat_natCast, cut_next huk hks]
            intro c hc
            rcases List.mem_append.1 hc with hc | hc
            · exact g2 c hc
            · rw [List.mem_singleton.1 hc]; exact e2
          · dsimp only
            rw [Int.toNat_natCast]; exact g3
    · rw [br_neg (le_f hk), h5 (by omega)]
  · refine ⟨rfl, Int.le_refl 0, Int.le_refl 0, by dsimp only; omega, by simp, fun _ => ⟨by simp [cutL], by simp⟩, fun h => by dsimp only at h; omega⟩
  · rfl
end Go.Den.G
namespace Go.Den.G
open Go.Den

/-! ### numbers out of their digits -/
def isD (c : UInt8) : Bool := decide (48 ≤ c.toNat) && decide (c.toNat ≤ 57)
def valF (a : Nat) (l : List UInt8) : Nat := l.foldl (fun a c => a * 10 + (c.toNat - 48)) a
theorem valF_cons (a : Nat) (c : UInt8) (r : List UInt8) : valF a (c :: r) = valF (a * 10 + (c.toNat - 48)) r := by unfold valF; rw [List.foldl_cons]
theorem valF_snoc (a : Nat) (l : List UInt8) (c : UInt8) : valF a (l ++ [c]) = valF a l * 10 + (c.toNat - 48) := by unfold valF; rw [List.foldl_append, List.foldl_cons, List.foldl_nil]
theorem valF_ge : ∀ (l : List UInt8) (a : Nat), a ≤ valF a l
  | [], _ => Nat.le_refl _
  | c :: r, a => by rw [valF_cons]; exact Nat.le_trans (by omega) (valF_ge r _)
theorem valF_lt : ∀ (l : List UInt8) (a n : Nat), (∀ c ∈ l, isD c = true) → a < 10 ^ n → valF a l < 10 ^ (n + l.length)
  | [], a, n, _, h => by simpa [valF] using h
  | c :: r, a, n, hd, h => by
    rw [valF_cons, List.length_cons, show n + (r.length + 1) = n + 1 + r.length by omega]
    refine valF_lt r _ (n + 1) (fun d hd' => hd d (by simp [hd'])) ?_
    have := hd c (by simp)
    simp only [isD, Bool.and_eq_true, decide_eq_true_eq] at this
    rw [Nat.pow_succ]; omega
/-- Digits, none needless ahead. -/
def canon (d : List UInt8) : Prop := d ≠ [] ∧ (∀ c ∈ d, isD c = true) ∧ (d.head? = some 48 → d.length = 1)
theorem ofNat_digit {k : Nat} (h : k < 10) : (UInt8.ofNat (48 + k)).toNat = 48 + k := by
  rw [UInt8.toNat_ofNat']; omega
theorem digit_ofNat {c : UInt8} (h : isD c = true) : UInt8.ofNat (48 + (c.toNat - 48)) = c := by
  simp only [isD, Bool.and_eq_true, decide_eq_true_eq] at h
  apply UInt8.toNat_inj.1
  rw [ofNat_digit (by omega)]; omega
theorem dec_canon : ∀ (n u : Nat), u ≤ n → canon (Go.Lib.decDigits u) ∧ (1 ≤ u → (Go.Lib.decDigits u).head? ≠ some 48) ∧ valF 0 (Go.Lib.decDigits u) = u := by
  intro n
  induction n with
  | zero =>
    intro u hu
    have : u = 0 := by omega
    subst this
    rw [dec_small (by omega)]
    exact ⟨⟨by simp, by decide, by simp⟩, by omega, by decide⟩
  | succ n ih =>
    intro u hu
    by_cases h : u < 10
    · rw [dec_small h]
      have e := ofNat_digit h
      refine ⟨⟨by simp, fun c hc => ?_, by simp⟩, fun h1 hx => ?_, ?_⟩
      · rw [List.mem_singleton.1 hc]; unfold isD; rw [e]; simp; omega
      · simp only [List.head?_cons, Option.some.injEq] at hx
        have := congrArg UInt8.toNat hx
        rw [e] at this
        have h48 : (48 : UInt8).toNat = 48 := rfl
        omega
      · show 0 * 10 + ((UInt8.ofNat (48 + u)).toNat - 48) = u
        rw [e]; omega
    · obtain ⟨⟨h1, h2, h3⟩, h4, h5⟩ := ih (u / 10) (by omega)
      have e := ofNat_digit (show u % 10 < 10 by omega)
      have hh : (Go.Lib.decDigits (u / 10) ++ [UInt8.ofNat (48 + u % 10)]).head? = (Go.Lib.decDigits (u / 10)).head? := by
        cases hx : Go.Lib.decDigits (u / 10) with
        | nil => exact absurd hx h1
        | cons => rfl
      rw [dec_step h]
      refine ⟨⟨by simp, fun c hc => ?_, fun hx => ?_⟩, fun _ hx => ?_, ?_⟩
      · rcases List.mem_append.1 hc with hc | hc
        · exact h2 c hc
        · rw [List.mem_singleton.1 hc]; unfold isD; rw [e]; simp; omega
      · rw [hh] at hx; exact absurd hx (h4 (by omega))
      · rw [hh] at hx; exact absurd hx (h4 (by omega))
      · rw [valF_snoc, h5, e]; omega
theorem dec_val : ∀ (n : Nat) (d : List UInt8), d.length ≤ n → canon d → Go.Lib.decDigits (valF 0 d) = d := by
  intro n
  induction n with
  | zero => intro d hd hc; exact absurd (List.length_eq_zero_iff.1 (by omega)) hc.1
  | succ n ih =>
    intro d hd ⟨h1, h2, h3⟩
    obtain ⟨d', c, rfl⟩ : ∃ d' c, d = d' ++ [c] := ⟨d.dropLast, d.getLast h1, (List.dropLast_concat_getLast h1).symm⟩
    have hc : isD c = true := h2 c (by simp)
    have hc' := hc
    simp only [isD, Bool.and_eq_true, decide_eq_true_eq] at hc'
    rw [valF_snoc]
    cases hd' : d' with
    | nil =>
      show Go.Lib.decDigits (0 * 10 + (c.toNat - 48)) = [c]
      rw [show 0 * 10 + (c.toNat - 48) = c.toNat - 48 by omega, dec_small (by omega), digit_ofNat hc]
    | cons a r =>
      subst hd'
      have ha : isD a = true := h2 a (by simp)
      simp only [isD, Bool.and_eq_true, decide_eq_true_eq] at ha
      have hne : a ≠ 48 := fun e => by
        have := h3 (by simp [e])
        simp at this
      have ha1 : 1 ≤ a.toNat - 48 := by
        have : a.toNat ≠ 48 := fun e => hne (UInt8.toNat_inj.1 e)
        omega
      have hv : 1 ≤ valF 0 (a :: r) := by rw [valF_cons]; exact Nat.le_trans (by omega) (valF_ge r _)
      have hi := ih (a :: r) (by simp at hd ⊢; omega) ⟨by simp, fun x hx => h2 x (by simp at hx ⊢; rcases hx with h | h <;> simp [h]), fun hx => by simp at hx; exact absurd hx hne⟩
      rw [dec_step (by omega), show (valF 0 (a :: r) * 10 + (c.toNat - 48)) / 10 = valF 0 (a :: r) by omega, show (valF 0 (a :: r) * 10 + (c.toNat - 48)) % 10 = c.toNat - 48 by omega, hi, digit_ofNat hc]

/-! ### the reference's reading -/
def numS (t : List UInt8) : Int := if t.head? = some 45 then -1 else 1
def numD (t : List UInt8) : List UInt8 := if t.head? = some 45 then t.drop 1 else t
def okN (d : List UInt8) (sg : Int) : Bool := !(d.isEmpty) && decide (d.length ≤ 18) && !(decide (d.head? = some 48) && (decide (1 < d.length) || decide (sg < 0))) && d.all isD
def inner (x4 : (List UInt8 × (Int × Unit)) × Unit) : Option ((Int × (Bool × Unit)) × Unit) :=
  (bnd (br (eqI (lenL x4.1.1) 0) (some true) (some (ltI 18 (lenL x4.1.1)))) (fun x5 => (bnd (br x5 (some true) (br (inR 0 (lenL x4.1.1)) (bnd (br (eqI (byteAt x4.1.1 0) 48) (bnd (br (ltI 1 (lenL x4.1.1)) (some true) (some (ltI x4.1.2.1 0))) (fun x6 => (some x6))) (some false)) (fun x7 => (some x7))) none)) (fun x8 => (br x8 (some ((0, (false, ())), ())) (iter (σ := (List UInt8 × (Int × (Int × (Int × Unit)))) × Unit) F (fun x9 => (fun x10 => (br (ltI x10.1.2.2.2.1 (lenL x10.1.1)) (br (inR x10.1.2.2.2.1 (lenL x10.1.1)) (bnd (br (ltI (byteAt x10.1.1 x10.1.2.2.2.1) 48) (some true) (br (inR x10.1.2.2.2.1 (lenL x10.1.1)) (some (ltI 57 (byteAt x10.1.1 x10.1.2.2.2.1))) none)) (fun x11 => (br x11 (some ((0, (false, ())), ())) (br (inR x10.1.2.2.2.1 (lenL x10.1.1)) (x9 ((x10.1.1, (x10.1.2.1, ((subI .i64 (addI .i64 (mulI .i64 x10.1.2.2.1 10) (wrapI .i64 (byteAt x10.1.1 x10.1.2.2.2.1))) 48), ((addI .i64 x10.1.2.2.2.1 1), ())))), ())) none)))) none) (some (((mulI .i64 x10.1.2.1 x10.1.2.2.1), (true, ())), ()))))) ((x4.1.1, (x4.1.2.1, (0, (0, ())))), ())))))))
theorem inner_eq (d : List UInt8) (sg : Int) (hl : d.length ≤ 16777216) (hs : sg = 1 ∨ sg = -1) : inner ((d, (sg, ())), ()) = some (if okN d sg = true then (sg * (valF 0 d : Int), (true, ())) else (0, (false, ())), ()) := by
  unfold inner
  dsimp only
  simp only [lenL_nat]
  cases hd : d with
  | nil => rfl
  | cons a r =>
    rw [← hd]
    have hne : 0 < d.length := by rw [hd]; simp
    have hb0 : byteAt d 0 = ((a.toNat : Nat) : Int) := by rw [hd]; rfl
    have hh : d.head? = some a := by rw [hd]; rfl
    have hem : d.isEmpty = false := by rw [hd]; rfl
    rw [br_neg (eq_f (by omega)), bnd_s]
    by_cases h18 : d.length ≤ 18
    · rw [lt_f (show ¬ (18 : Int) < d.length by omega), br_f, br_pos (inR_t (by omega) (by omega)), hb0]
      have h8 : bnd (br (eqI ((a.toNat : Nat) : Int) 48) (bnd (br (ltI 1 (d.length : Int)) (some true) (some (ltI sg 0))) (fun x6 => (some x6))) (some false)) (fun x7 => some x7) = some (decide (d.head? = some 48) && (decide (1 < d.length) || decide (sg < 0))) := by
        rw [hh]
        by_cases ha : a = 48
        · rw [br_pos (eq_t (by rw [ha]; rfl)), br_or, bnd_s, bnd_s]
          congr 1
          rw [ha, decide_eq_true rfl, Bool.true_and]
          unfold ltI
          congr 1
          exact decide_eq_decide.2 (by omega)
        · rw [br_neg (eq_f fun e => ha (UInt8.toNat_inj.1 (by have h48 : (48 : UInt8).toNat = 48 := rfl; omega))), bnd_s]
          simp [ha]
      rw [h8, bnd_s]
      unfold okN
      rw [hem, decide_eq_true h18, Bool.not_false, Bool.true_and, Bool.true_and]
      cases hc : (decide (d.head? = some 48) && (decide (1 < d.length) || decide (sg < 0))) with
      | true => rfl
      | false =>
        rw [br_f, Bool.not_false, Bool.true_and]
        refine (iter_eq (fun x => x.1.1 = d ∧ x.1.2.1 = sg ∧ 0 ≤ x.1.2.2.2.1 ∧ x.1.2.2.2.1 ≤ (d.length : Int) ∧ (∀ c ∈ d.take x.1.2.2.2.1.toNat, isD c = true) ∧ x.1.2.2.1 = (valF 0 (d.take x.1.2.2.2.1.toNat) : Int))
          (fun x => d.length - x.1.2.2.2.1.toNat) (fun _ => some (if d.all isD = true then (sg * (valF 0 d : Int), (true, ())) else (0, (false, ())), ())) ?_ F _ ⟨rfl, rfl, Int.le_refl 0, by dsimp only; omega, by simp, by simp [valF]⟩ (by show d.length - 0 < F; unfold F; omega))
        rintro ⟨⟨d', sg', v, i, _⟩, _⟩ rec ⟨rfl, rfl, h0, h1, h2, h3⟩ hrec
        dsimp only at h0 h1 h2 h3 h18 hs hrec ⊢
        obtain ⟨k, rfl⟩ := Int.eq_ofNat_of_zero_le h0
        rw [Int.toNat_natCast] at h2 h3
        have hvl : valF 0 (d'.take k) < 10 ^ (0 + 18) := Nat.lt_of_lt_of_le (valF_lt _ 0 0 h2 (by omega)) (Nat.pow_le_pow_right (by omega) (by rw [List.length_take]; omega))
        by_cases hk : k < d'.length
        · have hvl2 : valF 0 (d'.take k) < 10 ^ (0 + 17) := Nat.lt_of_lt_of_le (valF_lt _ 0 0 h2 (by omega)) (Nat.pow_le_pow_right (by omega) (by rw [List.length_take]; omega))
          rw [br_pos (lt_t (by omega)), br_pos (inR_t (by omega) (by omega)), byteAt_nat hk]
          have e1 : br (ltI ((d'[k].toNat : Nat) : Int) 48) (some true) (br (inR (k : Int) (d'.length : Int)) (some (ltI 57 ((d'[k].toNat : Nat) : Int))) none) = some (!isD d'[k]) := by
            rw [br_pos (inR_t (by omega) (by omega)), br_or]
            congr 1
            unfold isD ltI
            by_cases g1 : 48 ≤ d'[k].toNat <;> by_cases g2 : d'[k].toNat ≤ 57 <;> simp [g1, g2] <;> omega
          rw [e1, bnd_s]
          cases hq : isD d'[k] with
          | false =>
            rw [Bool.not_false, br_t, if_neg]
            intro hall
            have := List.all_eq_true.1 hall d'[k] (List.getElem_mem hk)
            rw [hq] at this; cases this
          | true =>
            have hq' := hq
            simp only [isD, Bool.and_eq_true, decide_eq_true_eq] at hq'
            rw [Bool.not_true, br_f, br_pos (inR_t (by omega) (by omega)), wrapI_id (by unfold I64; omega), h3, mul_id (by unfold I64; omega), add_id (by unfold I64; omega), sub_id (by unfold I64; omega), add_id (by unfold I64; omega)]
            refine hrec _ ⟨rfl, rfl, by dsimp only; omega, by dsimp only; omega, ?_, ?_⟩ (by dsimp only; omega)
            · dsimp only
              rw [show ((k : Int) + 1).toNat = k + 1 by omega, List.take_succ_eq_append_getElem hk]
              intro c hc
              rcases List.mem_append.1 hc with hc | hc
              · exact h2 c hc
              · rw [List.mem_singleton.1 hc]; exact hq
            · dsimp only
              rw [show ((k : Int) + 1).toNat = k + 1 by omega, List.take_succ_eq_append_getElem hk, valF_snoc]
              omega
        · have : k = d'.length := by omega
          subst this
          rw [List.take_length] at h2 h3 hvl
          rw [br_neg (lt_f (by omega)), if_pos (List.all_eq_true.2 h2), h3, mul_id]
          rcases hs with rfl | rfl <;> unfold I64 <;> omega
    · rw [lt_t (show (18 : Int) < d.length by omega), br_t, bnd_s, br_t]
      unfold okN
      rw [decide_eq_false h18]
      simp
/-- The number that a text tells. -/
def numO (t : List UInt8) : Option Int := if okN (numD t) (numS t) = true then some (numS t * (valF 0 (numD t) : Int)) else none
def numR : Option Int → (Int × (Bool × Unit)) × Unit
  | some v => ((v, (true, ())), ())
  | none => ((0, (false, ())), ())
theorem l00Number_eq (t : List UInt8) (hl : t.length ≤ 16777216) : S_spec_l00Number ((t, ()), ()) = some (numR (numO t)) := by
  have e : S_spec_l00Number ((t, ()), ()) = inner ((numD t, (numS t, ())), ()) := by
    unfold S_spec_l00Number numD numS
    dsimp only
    cases t with
    | nil => rfl
    | cons c r =>
      simp only [lenL_nat]
      rw [br_pos (lt_t (by simp)), br_pos (inR_t (Int.le_refl 0) (by simp)), bnd_s]
      by_cases hc : c = 45
      · subst hc
        rw [show eqI (byteAt (45 :: r) 0) 45 = true from rfl, br_t, br_pos (inC_t (by omega) (by simp; omega)), bnd_s, sumE_l]
        rfl
      · rw [br_neg (eq_f fun h => hc (UInt8.toNat_inj.1 (by have h45 : (45 : UInt8).toNat = 45 := rfl; have h' : ((c.toNat : Nat) : Int) = 45 := h; omega))), bnd_s, sumE_l, if_neg (by simpa using hc), if_neg (by simpa using hc)]
        rfl
  rw [e, inner_eq _ _ (by unfold numD; split <;> first | exact hl | (rw [List.length_drop]; omega)) (by unfold numS; split <;> simp)]
  unfold numO numR
  by_cases h : okN (numD t) (numS t) = true
  · rw [if_pos h, if_pos h]
  · rw [if_neg h, if_neg h]
theorem okN_canon {d : List UInt8} {sg : Int} (h : okN d sg = true) : canon d ∧ d.length ≤ 18 ∧ (sg < 0 → d.head? ≠ some 48) := by
  unfold okN at h
  rw [Bool.and_eq_true, Bool.and_eq_true, Bool.and_eq_true, decide_eq_true_eq, Bool.not_eq_true', Bool.not_eq_true'] at h
  obtain ⟨⟨⟨h1, h2⟩, h3⟩, h4⟩ := h
  have hne : d ≠ [] := fun e => by rw [e] at h1; cases h1
  have hp := List.length_pos_iff.2 hne
  refine ⟨⟨hne, List.all_eq_true.1 h4, fun e => ?_⟩, h2, fun hs e => ?_⟩
  · rw [decide_eq_true e, Bool.true_and, Bool.or_eq_false_iff] at h3
    have := of_decide_eq_false h3.1
    omega
  · rw [decide_eq_true e, Bool.true_and, Bool.or_eq_false_iff] at h3
    exact absurd hs (of_decide_eq_false h3.2)
theorem okN_of {d : List UInt8} {sg : Int} (h : canon d) (h18 : d.length ≤ 18) (hs : sg < 0 → d.head? ≠ some 48) : okN d sg = true := by
  unfold okN
  have h1 : d.isEmpty = false := by
    cases d with
    | nil => exact absurd rfl h.1
    | cons => rfl
  rw [h1, decide_eq_true h18, List.all_eq_true.2 h.2.1]
  by_cases e : d.head? = some 48
  · rw [decide_eq_true e, decide_eq_false (by rw [h.2.2 e]; omega), decide_eq_false fun g => hs g e]; rfl
  · rw [decide_eq_false e]; rfl
theorem dig_ne45 {d : List UInt8} (h : canon d) : d.head? ≠ some 45 := by
  cases d with
  | nil => simp
  | cons c r =>
    intro e
    have e : c = 45 := by simpa using e
    have := h.2.1 c (by simp)
    rw [e] at this
    exact absurd this (by decide)
/-- A text tells a number just if it is the number's digits, at most 18. -/
theorem numO_iff (t : List UInt8) (v : Int) : numO t = some v ↔ t = Go.Lib.itoa v ∧ (numD t).length ≤ 18 := by
  constructor
  · intro h
    unfold numO at h
    split at h
    · rename_i ho
      obtain ⟨h1, h2, h3⟩ := okN_canon ho
      refine ⟨?_, h2⟩
      have hv := Option.some.inj h
      have hd := dec_val _ _ (Nat.le_refl _) h1
      unfold numS at hv h3
      by_cases hh : t.head? = some 45
      · rw [if_pos hh] at hv h3
        have e : numD t = t.drop 1 := if_pos hh
        have hp : 1 ≤ valF 0 (numD t) := by
          cases hn : numD t with
          | nil => exact absurd hn h1.1
          | cons a r =>
            have ha := h1.2.1 a (by rw [hn]; simp)
            simp only [isD, Bool.and_eq_true, decide_eq_true_eq] at ha
            have hne : a ≠ 48 := fun e => h3 (by omega) (by rw [hn, e]; rfl)
            have : a.toNat ≠ 48 := fun e => hne (UInt8.toNat_inj.1 e)
            rw [valF_cons]
            exact Nat.le_trans (by omega) (valF_ge r _)
        unfold Go.Lib.itoa
        rw [← hv, if_pos (by omega), show (-1 * (valF 0 (numD t) : Int)).natAbs = valF 0 (numD t) by omega, hd, e]
        cases t with
        | nil => simp at hh
        | cons c r =>
          have : c = 45 := by simpa using hh
          rw [this]; rfl
      · rw [if_neg hh] at hv
        have e : numD t = t := if_neg hh
        unfold Go.Lib.itoa
        rw [← hv, if_neg (by omega), show (1 * (valF 0 (numD t) : Int)).toNat = valF 0 (numD t) by omega, hd, e]
    · cases h
  · rintro ⟨h1, h2⟩
    unfold numO
    by_cases hv : v < 0
    · have e : t = 45 :: Go.Lib.decDigits v.natAbs := by rw [h1]; unfold Go.Lib.itoa; rw [if_pos hv]
      have hD : numD t = Go.Lib.decDigits v.natAbs := by rw [e]; rfl
      have hS : numS t = -1 := by rw [e]; rfl
      obtain ⟨c1, c2, c3⟩ := dec_canon _ v.natAbs (Nat.le_refl _)
      rw [hD] at h2 ⊢
      rw [hS, if_pos (okN_of c1 h2 fun _ => c2 (by omega)), c3]
      congr 1; omega
    · have e : t = Go.Lib.decDigits v.toNat := by rw [h1]; unfold Go.Lib.itoa; rw [if_neg hv]
      obtain ⟨c1, c2, c3⟩ := dec_canon _ v.toNat (Nat.le_refl _)
      have hh : t.head? ≠ some 45 := by rw [e]; exact dig_ne45 c1
      have hD : numD t = Go.Lib.decDigits v.toNat := by unfold numD; rw [if_neg hh, e]
      have hS : numS t = 1 := if_neg hh
      rw [hD] at h2 ⊢
      rw [hS, if_pos (okN_of c1 h2 fun h => by omega), c3]
      congr 1; omega

theorem numO_i64 {t : List UInt8} {v : Int} (h : numO t = some v) : I64 v := by
  unfold numO at h
  split at h
  · rename_i ho
    obtain ⟨h1, h2, _⟩ := okN_canon ho
    have hv := Option.some.inj h
    have hlt := valF_lt (numD t) 0 0 h1.2.1 (by omega)
    have hle : 10 ^ (0 + (numD t).length) ≤ 10 ^ 18 := Nat.pow_le_pow_right (by omega) (by omega)
    have hb : valF 0 (numD t) < 10 ^ 18 := Nat.lt_of_lt_of_le hlt hle
    unfold numS at hv
    unfold I64
    split at hv <;> omega
  · cases h

/-! ### the library's reading -/
theorem pu_ok : ∀ (l : List UInt8) (a : Nat), (∀ c ∈ l, isD c = true) → valF a l < 18446744073709551616 → Go.Lib.parseUint10 a l = .ok (valF a l)
  | [], a, _, _ => rfl
  | c :: r, a, hd, h => by
    have hc := hd c (by simp)
    simp only [isD, Bool.and_eq_true, decide_eq_true_eq] at hc
    rw [valF_cons] at h ⊢
    have hge := valF_ge r (a * 10 + (c.toNat - 48))
    unfold Go.Lib.parseUint10
    rw [if_pos ⟨hc.1, hc.2⟩, if_neg (by omega), if_neg (by omega)]
    exact pu_ok r _ (fun x hx => hd x (by simp [hx])) h
theorem atoi_itoa {v : Int} (h : I64 v) : Go.Lib.atoiAll (Go.Lib.itoa v) = .ok v := by
  unfold I64 at h
  by_cases hv : v < 0
  · have e : Go.Lib.itoa v = 45 :: Go.Lib.decDigits v.natAbs := by unfold Go.Lib.itoa; rw [if_pos hv]
    obtain ⟨c1, c2, c3⟩ := dec_canon _ v.natAbs (Nat.le_refl _)
    rw [e]
    unfold Go.Lib.atoiAll
    dsimp only
    have h45 : (45 : UInt8).toNat = 45 := rfl
    rw [if_pos (.inr h45)]
    unfold Go.Lib.parseMag
    rw [if_neg c1.1, pu_ok _ _ c1.2.1 (by rw [c3]; omega), c3]
    dsimp only
    rw [if_neg (by simp), if_neg (by simp; omega), if_pos h45]
    congr 1; omega
  · have e : Go.Lib.itoa v = Go.Lib.decDigits v.toNat := by unfold Go.Lib.itoa; rw [if_neg hv]
    obtain ⟨c1, c2, c3⟩ := dec_canon _ v.toNat (Nat.le_refl _)
    rw [e]
    cases hd : Go.Lib.decDigits v.toNat with
    | nil => exact absurd hd c1.1
    | cons c r =>
      have hc : isD c = true := c1.2.1 c (by rw [hd]; simp)
      simp only [isD, Bool.and_eq_true, decide_eq_true_eq] at hc
      unfold Go.Lib.atoiAll
      dsimp only
      rw [if_neg (by omega), ← hd]
      unfold Go.Lib.parseMag
      rw [if_neg c1.1, pu_ok _ _ c1.2.1 (by rw [c3]; omega), c3]
      dsimp only
      rw [if_neg (by omega), if_neg (by omega), if_neg (by omega)]
      congr 1; omega
theorem atoi_i64 {t : List UInt8} {v : Int} (h : Go.Lib.atoiAll t = .ok v) : I64 v := by
  unfold Go.Lib.atoiAll at h
  split at h
  · cases h
  · dsimp only at h
    split at h
    · cases h
    · cases h
    · rename_i u hu
      have hlt := Go.Lib.parseMag_lt hu
      split at h
      · cases h
      · split at h
        · cases h
        · rename_i g1 g2
          injection h with h
          subst h
          unfold I64
          split <;> rename_i g3
          · simp only [g3, true_and] at g2; omega
          · simp only [g3, not_false_eq_true, true_and] at g1; omega
theorem trim_eq (t : List UInt8) : S_strings_TrimPrefix ((t, (([45] : List UInt8), ())), ()) = some (numD t, ()) := by
  unfold S_strings_TrimPrefix S_internal_stringslite_TrimPrefix S_internal_stringslite_HasPrefix numD
  dsimp only
  cases t with
  | nil => rfl
  | cons c r =>
    simp only [lenL_nat]
    rw [br_pos (le_t (by simp; omega)), br_pos (inC_t (by simp) (by simp; omega)), bnd_s, bnd_s]
    dsimp only
    by_cases hc : c = 45
    · subst hc
      rw [br_pos (by simp [eqS, takeL]), br_pos (inC_t (by simp) (by simp; omega)), if_pos (by rfl)]
      rfl
    · rw [br_neg (by simp [eqS, takeL, hc]), bnd_s, if_neg (by simpa using hc)]
theorem itoaS_eq {v : Int} (h : I64 v) : S_strconv_Itoa ((v, ()), ()) = some (Go.Lib.itoa v, ()) := by
  unfold S_strconv_Itoa pItoa i64B
  unfold I64 at h
  dsimp only
  rw [le_t h.1, le_t (by omega)]; rfl
theorem readNumber_eq (t : List UInt8) (hl : t.length ≤ 16777216) :
    ∃ v', S_impl_readNumber ((t, ()), ()) = some ((v', ((numO t).isSome, ())), ()) ∧ ∀ v, numO t = some v → v' = v ∧ I64 v := by
  unfold S_impl_readNumber
  dsimp only
  rw [br_pos (by unfold atoiLim; simp; omega)]
  cases ha : Go.Lib.atoiAll t with
  | ok u =>
    have e1 : atoiB t = true := by unfold atoiB; rw [ha]
    have e2 : atoiV t = u := by unfold atoiV; rw [ha]
    have hu := atoi_i64 ha
    rw [br_pos e1, e2, itoaS_eq hu, bnd_s, bnd_s, trim_eq, bnd_s]
    dsimp only
    by_cases ht : Go.Lib.itoa u = t
    · rw [br_pos (by unfold eqS; simp [ht]), bnd_s]
      by_cases h18 : (numD t).length ≤ 18
      · have hn := (numO_iff t u).2 ⟨ht.symm, h18⟩
        rw [hn]
        exact ⟨u, by rw [lenL_nat, le_t (by omega)]; rfl, fun v hv => ⟨Option.some.inj hv, by rw [← Option.some.inj hv]; exact hu⟩⟩
      · have hn : numO t = none := by
          cases hx : numO t with
          | none => rfl
          | some v => exact absurd ((numO_iff t v).1 hx).2 h18
        rw [hn]
        exact ⟨u, by rw [lenL_nat, le_f (by omega)]; rfl, fun v hv => by cases hv⟩
    · have hn : numO t = none := by
        cases hx : numO t with
        | none => rfl
        | some v =>
          have h1 := ((numO_iff t v).1 hx).1
          have h2 : I64 v := numO_i64 hx
          rw [h1, atoi_itoa h2] at ha
          injection ha with ha
          rw [← ha, ← h1] at ht
          exact absurd rfl ht
      rw [br_neg (by unfold eqS; simp [ht]), bnd_s, hn]
      exact ⟨u, rfl, fun v hv => by cases hv⟩
  | _ =>
    have e1 : atoiB t = false := by unfold atoiB; rw [ha]
    have hn : numO t = none := by
      cases hx : numO t with
      | none => rfl
      | some v =>
        have h1 := ((numO_iff t v).1 hx).1
        have h2 : I64 v := numO_i64 hx
        rw [h1, atoi_itoa h2] at ha
        cases ha
    rw [br_neg e1, hn]
    exact ⟨_, rfl, fun v hv => by cases hv⟩
end Go.Den.G
namespace Go.Den.G
open Go.Den
set_option maxRecDepth 10000

/-! ### the words of statements -/
def kw : List (List UInt8) := match S_spec_l16Words ((), ()) with | some (ws, _) => ws | none => []
def km : List Int := [1, 2, 2, 3, 3, 3, 1, 1, 1, 1, 2, 1, 0, 1, 0, 1, 2]
theorem l16Words_eq : S_spec_l16Words ((), ()) = some (kw, ()) := rfl
theorem kw_len : kw.length = 17 := rfl
theorem lt17 {k : Nat} (h : k < 17) : k = 0 ∨ k = 1 ∨ k = 2 ∨ k = 3 ∨ k = 4 ∨ k = 5 ∨ k = 6 ∨ k = 7 ∨ k = 8 ∨ k = 9 ∨ k = 10 ∨ k = 11 ∨ k = 12 ∨ k = 13 ∨ k = 14 ∨ k = 15 ∨ k = 16 := by omega
theorem form_eq {k : Nat} (h : k < 17) : S_impl_stmtForm ((((k : Int) + 1), ()), ()) = some ((kw.getD k [], (km.getD k 0, ())), ()) := by
  rcases lt17 h with rfl | rfl | rfl | rfl | rfl | rfl | rfl | rfl | rfl | rfl | rfl | rfl | rfl | rfl | rfl | rfl | rfl <;> rfl
theorem many_eq {k : Nat} (h : k < 17) : S_spec_l16Many ((((k : Int) + 1), ()), ()) = some (km.getD k 0, ()) := by
  rcases lt17 h with rfl | rfl | rfl | rfl | rfl | rfl | rfl | rfl | rfl | rfl | rfl | rfl | rfl | rfl | rfl | rfl | rfl <;> rfl
theorem km_range {k : Nat} (h : k < 17) : 0 ≤ km.getD k 0 ∧ km.getD k 0 ≤ 3 := by
  rcases lt17 h with rfl | rfl | rfl | rfl | rfl | rfl | rfl | rfl | rfl | rfl | rfl | rfl | rfl | rfl | rfl | rfl | rfl <;> decide
/-- Where a text first stands in a list. -/
def posL (xs : List (List UInt8)) (t : List UInt8) : Option Nat := xs.findIdx? (fun x => decide (x = t))
theorem l03At_eq (xs : List (List UInt8)) (t : List UInt8) (hl : xs.length ≤ 1000000) :
    S_spec_l03At ((xs, (t, ())), ()) = some ((match posL xs t with | some n => (n : Int) | none => -1), ()) := by
  unfold S_spec_l03At
  refine (iter_eq (fun x => x.1.1 = xs ∧ x.1.2.1 = t ∧ 0 ≤ x.1.2.2.1 ∧ x.1.2.2.1 ≤ (xs.length : Int)) (fun x => xs.length - x.1.2.2.1.toNat)
    (fun x => some ((match posL (xs.drop x.1.2.2.1.toNat) t with | some n => x.1.2.2.1 + (n : Int) | none => -1), ())) ?_ F _ ⟨rfl, rfl, Int.le_refl 0, by show (0 : Int) ≤ _; omega⟩ (by show xs.length - 0 < F; unfold F; omega)).trans ?_
  · rintro ⟨⟨ys, u, i, _⟩, _⟩ rec ⟨h2, h3, h0, h1⟩ hrec
    dsimp only at h0 h1 h2 h3 hrec ⊢
    subst h2 h3
    obtain ⟨j, rfl⟩ := Int.eq_ofNat_of_zero_le h0
    simp only [lenL_nat]
    by_cases hj : j < ys.length
    · rw [br_pos (lt_t (by omega)), br_pos (inR_t h0 (by omega)), getL_nat hj, Int.toNat_natCast, List.drop_eq_getElem_cons hj]
      unfold posL at hrec ⊢
      rw [List.findIdx?_cons]
      by_cases hf : ys[j] = u
      · rw [br_pos (by unfold eqS; exact decide_eq_true hf), decide_eq_true hf]; simp
      · rw [br_neg (by unfold eqS; exact decide_eq_false hf), decide_eq_false hf, add_id (by unfold I64; omega), hrec _ ⟨rfl, rfl, by dsimp only; omega, by dsimp only; omega⟩ (by dsimp only; omega)]
        dsimp only
        rw [show ((j : Int) + 1).toNat = j + 1 by omega]
        cases (List.drop (j + 1) ys).findIdx? (fun x => decide (x = u)) with
        | none => rfl
        | some k => exact congrArg (fun z : Int => some (z, ())) (by show (j : Int) + 1 + k = j + ((k + 1 : Nat) : Int); omega)
    · rw [br_neg (lt_f (by omega)), Int.toNat_natCast, List.drop_eq_nil_of_le (by omega)]
      rfl
  · dsimp only
    simp only [Int.toNat_zero, List.drop_zero, Int.zero_add]

/-! ### a statement out of words -/
def nums : List (List UInt8) → Option (List Int)
  | [] => some []
  | t :: r => match numO t, nums r with
    | some v, some l => some (v :: l)
    | _, _ => none
def stmOf (k : Int) (ns : List Int) : Stm := ⟨k, ns.getD 0 0, ns.getD 1 0, ns.getD 2 0⟩
def readW : List (List UInt8) → Option Stm
  | [] => none
  | w0 :: ws => match posL kw w0, nums ws with
    | some k, some ns => if (ws.length : Int) = km.getD k 0 ∧ stmtB (stmOf ((k : Int) + 1) ns) = true then some (stmOf ((k : Int) + 1) ns) else none
    | _, _ => none
def zS : Stm := ⟨0, 0, 0, 0⟩
def readR : Option Stm → (Stm × (Bool × Unit)) × Unit
  | some x => ((x, (true, ())), ())
  | none => ((zS, (false, ())), ())
theorem posL_lt {t : List UInt8} {k : Nat} (h : posL kw t = some k) : k < 17 ∧ kw.getD k [] = t ∧ ∀ j, j < k → kw.getD j [] ≠ t := by
  unfold posL at h
  rw [List.findIdx?_eq_some_iff_getElem] at h
  obtain ⟨hk, h1, h2⟩ := h
  have hk' : k < 17 := hk
  refine ⟨hk', by rw [List.getD_eq_getElem?_getD, List.getElem?_eq_getElem hk]; simpa using h1, fun j hj => ?_⟩
  rw [List.getD_eq_getElem?_getD, List.getElem?_eq_getElem (by omega)]
  simpa using h2 j hj
theorem posL_none {t : List UInt8} (h : posL kw t = none) : ∀ j, j < 17 → kw.getD j [] ≠ t := by
  unfold posL at h
  rw [List.findIdx?_eq_none_iff] at h
  intro j hj e
  have := h (kw.getD j []) (by rw [List.getD_eq_getElem?_getD, List.getElem?_eq_getElem (show j < kw.length from hj)]; exact List.getElem_mem _)
  rw [e] at this
  simp at this
theorem stmtB_zero (a b c : Int) : stmtB ⟨0, a, b, c⟩ = false := by simp [stmtB]
/-- What the reference does when all numbers are read. -/
theorem read_end (w : List (List UInt8)) (w0 : List UInt8) (ns : List Int) (hw : (w.length : Int) = ns.length + 1) (ns3 : List Int) (e0 : ns3.getD 0 0 = ns.getD 0 0) (e1 : ns3.getD 1 0 = ns.getD 1 0) (e2 : ns3.getD 2 0 = ns.getD 2 0) (kk : Int)
    (hkk : kk = (match posL kw w0 with | some n => (n : Int) | none => -1) + 1) :
    bnd (S_spec_StmtOK (((Stm.mk kk (getL ns3 0 (dflt .i)) (getL ns3 1 (dflt .i)) (getL ns3 2 (dflt .i))), ()), ())) (fun x9 => (bnd (br (notB x9.1) (some true) (bnd (S_spec_l16Many ((kk, ()), ())) (fun x10 => (some (notB (eqI (w.length : Int) (addI .i64 1 x10.1))))))) (fun x11 => (br x11 (some (((Stm.mk 0 0 0 0), (false, ())), ())) (some (((Stm.mk kk (getL ns3 0 (dflt .i)) (getL ns3 1 (dflt .i)) (getL ns3 2 (dflt .i))), (true, ())), ()))))))
    = some (readR (match posL kw w0 with
      | some k => if (ns.length : Int) = km.getD k 0 ∧ stmtB (stmOf ((k : Int) + 1) ns) = true then some (stmOf ((k : Int) + 1) ns) else none
      | none => none)) := by
  have hS : (Stm.mk kk (getL ns3 0 (dflt .i)) (getL ns3 1 (dflt .i)) (getL ns3 2 (dflt .i))) = stmOf kk ns := by
    unfold stmOf getL
    rw [← e0, ← e1, ← e2]; rfl
  rw [hS, spec_StmtOK_eq, bnd_s]
  cases hp : posL kw w0 with
  | none =>
    rw [hp] at hkk
    have : kk = 0 := by rw [hkk]; rfl
    subst this
    have : stmtB (stmOf 0 ns) = false := stmtB_zero _ _ _
    dsimp only
    rw [this]; rfl
  | some k =>
    rw [hp] at hkk
    have hkk' : kk = (k : Int) + 1 := hkk
    subst hkk'
    obtain ⟨hk, _, _⟩ := posL_lt hp
    have hr := km_range hk
    dsimp only
    cases hb : stmtB (stmOf ((k : Int) + 1) ns) with
    | false => rw [if_neg (fun h => by cases h.2)]; rfl
    | true =>
      rw [notB_not, Bool.not_true, br_f, many_eq hk, bnd_s, bnd_s]
      dsimp only
      rw [add_id (by unfold I64; omega)]
      by_cases hm : (ns.length : Int) = km.getD k 0
      · rw [if_pos ⟨hm, rfl⟩, eq_t (by omega)]; rfl
      · rw [if_neg (fun h => hm h.1), eq_f (by omega)]; rfl
theorem nums_snoc : ∀ (l : List (List UInt8)) (t : List UInt8) (vs : List Int) (v : Int), nums l = some vs → numO t = some v → nums (l ++ [t]) = some (vs ++ [v])
  | [], t, vs, v, h, h2 => by
    have : vs = [] := (Option.some.inj h).symm
    subst this
    simp [nums, h2]
  | a :: r, t, vs, v, h, h2 => by
    unfold nums at h
    split at h
    · rename_i u l hu hl
      have := Option.some.inj h
      subst this
      rw [List.cons_append, nums, hu, nums_snoc r t l v hl h2]; rfl
    · cases h
theorem nums_none : ∀ (l : List (List UInt8)) (t : List UInt8), t ∈ l → numO t = none → nums l = none
  | a :: r, t, h, h2 => by
    rcases List.mem_cons.1 h with rfl | h
    · simp [nums, h2]
    · rw [nums, nums_none r t h h2]
      split
      · rename_i h3; cases h3
      · rfl
theorem nums_len : ∀ (l : List (List UInt8)) (vs : List Int), nums l = some vs → vs.length = l.length
  | [], vs, h => by rw [← Option.some.inj h]; rfl
  | a :: r, vs, h => by
    unfold nums at h
    split at h
    · rename_i u l hu hl
      rw [← Option.some.inj h, List.length_cons, List.length_cons, nums_len r l hl]
    · cases h
def pad3 (vs : List Int) : List Int := vs ++ List.replicate (3 - vs.length) 0
theorem pad3_get (vs : List Int) (j : Nat) : (pad3 vs).getD j 0 = vs.getD j 0 := by
  unfold pad3
  rw [List.getD_eq_getElem?_getD, List.getD_eq_getElem?_getD]
  by_cases h : j < vs.length
  · rw [List.getElem?_append_left h]
  · rw [List.getElem?_append_right (by omega), List.getElem?_eq_none (show vs.length ≤ j by omega)]
    by_cases g : j - vs.length < 3 - vs.length
    · rw [List.getElem?_replicate, if_pos g]; rfl
    · rw [List.getElem?_replicate, if_neg g]
theorem pad3_set (vs : List Int) (v : Int) (h : vs.length < 3) : (pad3 vs).set vs.length v = pad3 (vs ++ [v]) := by
  unfold pad3
  rw [List.set_append, if_neg (by omega), Nat.sub_self, show 3 - vs.length = (3 - (vs ++ [v]).length) + 1 by simp; omega, List.replicate_succ, List.set_cons_zero]
  simp
theorem pad3_len (vs : List Int) (h : vs.length ≤ 3) : (pad3 vs).length = 3 := by unfold pad3; simp; omega
theorem pieces_mem : ∀ (s p : List UInt8), p ∈ pieces s → p.length ≤ s.length
  | [], p, h => by simp [pieces] at h; simp [h]
  | c :: r, p, h => by
    unfold pieces at h
    split at h
    · rcases List.mem_cons.1 h with rfl | h
      · simp
      · have := pieces_mem r p h; simp; omega
    · split at h
      · rename_i q ps hq
        rcases List.mem_cons.1 h with rfl | h
        · have := pieces_mem r q (by rw [hq]; simp); simp; omega
        · have := pieces_mem r p (by rw [hq]; simp [h]); simp; omega
      · simp at h; subst h; simp
theorem wds_mem {s p : List UInt8} (h : p ∈ wds s) : p.length ≤ s.length := pieces_mem s p (List.mem_filter.1 h).1
theorem l16Read_eq (t : List UInt8) (hl : t.length ≤ 16777216) : S_spec_l16Read ((t, ()), ()) = some (readR (readW (wds t))) := by
  unfold S_spec_l16Read
  rw [l00Words_eq t hl, bnd_s]
  dsimp only
  have hlen : ∀ p ∈ wds t, p.length ≤ 16777216 := fun p hp => by have := wds_mem hp; omega
  generalize wds t = w at hlen
  simp only [lenL_nat]
  by_cases h1 : (w.length : Int) < 1
  · have : w = [] := List.length_eq_zero_iff.1 (by omega)
    subst this; rfl
  rw [br_neg (lt_f h1), bnd_s]
  by_cases h4 : (4 : Int) < w.length
  · rw [lt_t h4, br_t]
    cases w with
    | nil => simp at h4
    | cons w0 ws =>
      congr 1
      unfold readW
      dsimp only
      cases hk : posL kw w0 with
      | none => rfl
      | some k =>
        cases hns : nums ws with
        | none => rfl
        | some ns =>
          dsimp only
          rw [if_neg]
          · rfl
          · rintro ⟨e, _⟩
            have := km_range (posL_lt hk).1
            rw [List.length_cons] at h4; omega
  rw [lt_f h4, br_f, br_pos (inR_t (by omega) (by omega)), l16Words_eq, bnd_s]
  cases w with
  | nil => simp at h1
  | cons w0 ws =>
    dsimp only
    rw [show getL (w0 :: ws) 0 (dflt .s) = w0 from rfl, l03At_eq _ _ (by rw [kw_len]; omega), bnd_s]
    dsimp only
    rw [List.length_cons] at h4
    have hkk : addI .i64 (match posL kw w0 with | some n => (n : Int) | none => -1) 1 = (match posL kw w0 with | some n => (n : Int) | none => -1) + 1 := by
      cases hk : posL kw w0 with
      | none => rfl
      | some k =>
        have := (posL_lt hk).1
        dsimp only
        rw [add_id (by unfold I64; omega)]
    rw [hkk]
    refine iter_eq (fun x => x.1.1 = w0 :: ws ∧ 1 ≤ x.1.2.1 ∧ x.1.2.1 ≤ (ws.length : Int) + 1 ∧ x.2.2.1.1 = (match posL kw w0 with | some n => (n : Int) | none => -1) + 1 ∧ ∃ vs, nums (ws.take (x.1.2.1 - 1).toNat) = some vs ∧ x.2.2.2.1 = pad3 vs)
      (fun x => ws.length + 1 - x.1.2.1.toNat) (fun _ => some (readR (readW (w0 :: ws)))) ?_ F _ ⟨rfl, Int.le_refl 1, by dsimp only; omega, rfl, [], by simp [nums], rfl⟩ (by show ws.length + 1 - 1 < F; unfold F; omega)
    rintro ⟨⟨w', i, _⟩, z, ⟨kk, a, b, c, _⟩, ns3, _⟩ rec ⟨rfl, h5, h6, h7, vs, h8, h9⟩ hrec
    dsimp only at h5 h6 h7 h8 h9 hrec ⊢
    obtain ⟨k, hk1⟩ := Int.eq_ofNat_of_zero_le (show 0 ≤ i - 1 by omega)
    obtain rfl : i = (k : Int) + 1 := by omega
    have hk2 : ((k : Int) + 1 - 1).toNat = k := by omega
    rw [hk2] at h8
    have hvl := nums_len _ _ h8
    rw [List.length_take] at hvl
    rw [List.length_cons]
    by_cases hi : k < ws.length
    · rw [br_pos (lt_t (by omega)), br_pos (inR_t (by omega) (by omega))]
      have hg : getL (w0 :: ws) ((k : Int) + 1) (dflt .s) = ws[k] := by
        unfold getL
        rw [show ((k : Int) + 1).toNat = k + 1 by omega, List.getD_cons_succ, List.getD_eq_getElem?_getD, List.getElem?_eq_getElem hi]; rfl
      rw [hg, l00Number_eq _ (hlen _ (by simp)), bnd_s]
      cases hn : numO ws[k] with
      | none =>
        have : nums ws = none := nums_none ws ws[k] (List.getElem_mem hi) hn
        show some _ = _
        congr 1
        unfold readW
        dsimp only
        rw [this]
        cases posL kw w0 <;> rfl
      | some v =>
        unfold numR
        dsimp only
        rw [notB_not, Bool.not_true, br_f, sub_id (by unfold I64; omega), show (k : Int) + 1 - 1 = k by omega, h9, pad3_len _ (by omega), br_pos (inR_t (by omega) (by omega)), add_id (by unfold I64; omega)]
        refine hrec _ ⟨rfl, by dsimp only; omega, by dsimp only; omega, h7, vs ++ [v], ?_, ?_⟩ (by dsimp only; omega)
        · dsimp only
          rw [show ((k : Int) + 1 + 1 - 1).toNat = k + 1 by omega, List.take_succ_eq_append_getElem hi]
          exact nums_snoc _ _ _ _ h8 hn
        · dsimp only
          unfold setL
          rw [Int.toNat_natCast, show k = vs.length by omega]
          exact pad3_set vs v (by omega)
    · have hkl : k = ws.length := by omega
      subst hkl
      rw [List.take_length] at h8
      rw [br_neg (lt_f (by omega)), h9, pad3_len _ (by omega), br_pos (inR_t (by omega) (by omega)), br_pos (inR_t (by omega) (by omega)), br_pos (inR_t (by omega) (by omega))]
      refine (read_end (w0 :: ws) w0 vs (by rw [List.length_cons]; omega) (pad3 vs) (pad3_get vs 0) (pad3_get vs 1) (pad3_get vs 2) kk h7).trans ?_
      congr 2
      unfold readW
      dsimp only
      rw [h8]
      cases posL kw w0 with
      | none => rfl
      | some k => dsimp only; rw [show vs.length = ws.length by omega]

/-! ### the program's reading -/
theorem kw_distinct : ∀ i, i < 17 → ∀ j, j < 17 → kw.getD i [] = kw.getD j [] → i = j := by decide +kernel
theorem posL_at {j : Nat} (h : j < 17) : posL kw (kw.getD j []) = some j := by
  cases hp : posL kw (kw.getD j []) with
  | none => exact absurd rfl (posL_none hp j h)
  | some k =>
    obtain ⟨h1, h2, _⟩ := posL_lt hp
    rw [kw_distinct k h1 j h h2]
/-- What the program finds: of an answer that is no, nothing is said. -/
def Reads (w : List (List UInt8)) (z : (Stm × (Bool × Unit)) × Unit) : Prop := z.1.2.1 = (readW w).isSome ∧ ∀ x, readW w = some x → z.1.1 = x
theorem reads_no {w : List (List UInt8)} {x : Stm} (h : readW w = none) : Reads w ((x, (false, ())), ()) := ⟨by rw [h]; rfl, fun y hy => by rw [h] at hy; cases hy⟩
theorem readW_at {j : Nat} (h : j < 17) {ws : List (List UInt8)} (hl : (ws.length : Int) = km.getD j 0) {w0 : List UInt8} (h0 : w0 = kw.getD j []) :
    readW (w0 :: ws) = match nums ws with
      | some ns => if stmtB (stmOf ((j : Int) + 1) ns) = true then some (stmOf ((j : Int) + 1) ns) else none
      | none => none := by
  unfold readW
  dsimp only
  rw [h0, posL_at h]
  cases nums ws with
  | none => rfl
  | some ns => dsimp only; simp only [hl, true_and]
theorem reads_end {w0 : List UInt8} {ws : List (List UInt8)} {j : Nat} (h : j < 17) (hl : (ws.length : Int) = km.getD j 0) (h0 : w0 = kw.getD j []) {ns : List Int} (hn : nums ws = some ns) {x : Stm} (hx : x = stmOf ((j : Int) + 1) ns) :
    Ret (bnd (S_impl_StmtOK ((x, ()), ())) fun x12 => some ((x, x12), ())) (Reads (w0 :: ws)) := by
  subst hx
  rw [impl_StmtOK_eq, bnd_s]
  refine Ret.some ?_
  unfold Reads
  rw [readW_at h hl h0, hn]
  dsimp only
  cases stmtB (stmOf ((j : Int) + 1) ns) with
  | false => exact ⟨rfl, fun y hy => by simp at hy⟩
  | true => exact ⟨rfl, fun y hy => by simpa using hy⟩
theorem reads_bad {w0 : List UInt8} {ws : List (List UInt8)} {t : List UInt8} (ht : t ∈ ws) (hn : numO t = none) {x : Stm} : Reads (w0 :: ws) ((x, (false, ())), ()) := by
  apply reads_no
  unfold readW
  dsimp only
  rw [nums_none ws t ht hn]
  cases posL kw w0 <;> rfl
theorem readStmt_eq (w : List (List UInt8)) (hw : w.length ≤ 16777216) (hlen : ∀ p ∈ w, p.length ≤ 16777216) : Ret (S_impl_readStmt ((w, ()), ())) (Reads w) := by
  unfold S_impl_readStmt
  refine Ret.iter (fun x => x.1.1 = w ∧ 1 ≤ x.1.2.1 ∧ x.1.2.1 ≤ 18 ∧ ∀ j : Nat, (j : Int) + 1 < x.1.2.1 → ¬ ((w.length : Int) = km.getD j 0 + 1 ∧ getL w 0 (dflt .s) = kw.getD j [])) (fun x => (18 - x.1.2.1).toNat) ?_ F _ ⟨rfl, Int.le_refl 1, by show (1 : Int) ≤ 18; omega, fun j hj => by dsimp only at hj; omega⟩ (by show (18 - 1 : Int).toNat < F; unfold F; omega)
  rintro ⟨⟨w', i, _⟩, z⟩ rec ⟨rfl, h5, h6, h7⟩ hrec
  dsimp only at h5 h6 h7 hrec ⊢
  obtain ⟨k, hk1⟩ := Int.eq_ofNat_of_zero_le (show 0 ≤ i - 1 by omega)
  obtain rfl : i = (k : Int) + 1 := by omega
  simp only [lenL_nat]
  dsimp only at hw hlen
  by_cases hk : k < 17
  · rw [br_pos (le_t (by omega)), form_eq hk, bnd_s]
    have hr := km_range hk
    dsimp only
    rw [add_id (by unfold I64; omega)]
    have hnext : ¬ ((w'.length : Int) = km.getD k 0 + 1 ∧ getL w' 0 (dflt .s) = kw.getD k []) → Ret (rec ((w', (addI .i64 ((k : Int) + 1) 1, ())), z)) (Reads w') := fun hno => by
      rw [add_id (by unfold I64; omega)]
      refine hrec _ ⟨rfl, by dsimp only; omega, by dsimp only; omega, fun j hj => ?_⟩ (by dsimp only; omega)
      dsimp only at hj
      by_cases hjk : j = k
      · subst hjk; exact hno
      · exact h7 j (by omega)
    by_cases hm : (w'.length : Int) = km.getD k 0 + 1
    · rw [eq_t hm, notB_not, Bool.not_true, br_f, br_pos (inR_t (Int.le_refl 0) (by omega)), bnd_s]
      by_cases h0 : getL w' 0 (dflt .s) = kw.getD k []
      · rw [show notB (eqS (getL w' 0 (dflt .s)) (kw.getD k [])) = false by unfold eqS; rw [decide_eq_true h0]; rfl, br_f, br_pos (inC_t hr.1 hr.2)]
        match w', hw, hlen, hm, h0 with
        | [], _, _, hm, _ => exfalso; have hm' : (0 : Int) = km.getD k 0 + 1 := hm; omega
        | w0 :: ws, hw, hlen, hm, h0 =>
          have h0' : w0 = kw.getD k [] := h0
          have hl : (ws.length : Int) = km.getD k 0 := by rw [List.length_cons] at hm; omega
          rw [← hl] at hr ⊢
          match ws, hr, hl, hlen with
          | [], hr, hl, hlen => exact reads_end hk hl h0' rfl rfl
          | [p], hr, hl, hlen =>
            obtain ⟨v, e, hv⟩ := readNumber_eq p (hlen p (by simp))
            rw [br_pos (lt_t (by simp)), br_pos (inR_t (by omega) (by simp)), br_pos (inR_t (by omega) (by simp)), show getL (w0 :: [p]) 1 (dflt .s) = p from rfl, e, bnd_s]
            dsimp only
            cases hn : numO p with
            | none => exact Ret.some (reads_bad (t := p) (by simp) hn)
            | some u =>
              obtain ⟨rfl, _⟩ := hv u hn
              exact reads_end hk hl h0' (ns := [v]) (by simp [nums, hn]) rfl
          | [p, q], hr, hl, hlen =>
            obtain ⟨v, e, hv⟩ := readNumber_eq p (hlen p (by simp))
            obtain ⟨v2, e2, hv2⟩ := readNumber_eq q (hlen q (by simp))
            rw [br_pos (lt_t (by simp)), br_pos (inR_t (by omega) (by simp)), br_pos (inR_t (by omega) (by simp)), show getL (w0 :: [p, q]) 1 (dflt .s) = p from rfl, show getL (w0 :: [p, q]) 2 (dflt .s) = q from rfl, e, bnd_s]
            dsimp only
            cases hn : numO p with
            | none => exact Ret.some (reads_bad (t := p) (by simp) hn)
            | some u =>
              obtain ⟨rfl, _⟩ := hv u hn
              rw [Option.isSome_some, notB_t, br_f, br_pos (lt_t (by simp)), br_pos (inR_t (by omega) (by simp)), br_pos (inR_t (by omega) (by simp)), e2, bnd_s]
              dsimp only
              cases hn2 : numO q with
              | none => exact Ret.some (reads_bad (t := q) (by simp) hn2)
              | some u2 =>
                obtain ⟨rfl, _⟩ := hv2 u2 hn2
                exact reads_end hk hl h0' (ns := [v, v2]) (by simp [nums, hn, hn2]) rfl
          | [p, q, r], hr, hl, hlen =>
            obtain ⟨v, e, hv⟩ := readNumber_eq p (hlen p (by simp))
            obtain ⟨v2, e2, hv2⟩ := readNumber_eq q (hlen q (by simp))
            obtain ⟨v3, e3, hv3⟩ := readNumber_eq r (hlen r (by simp))
            rw [br_pos (lt_t (by simp)), br_pos (inR_t (by omega) (by simp)), br_pos (inR_t (by omega) (by simp)), show getL (w0 :: [p, q, r]) 1 (dflt .s) = p from rfl, show getL (w0 :: [p, q, r]) 2 (dflt .s) = q from rfl, show getL (w0 :: [p, q, r]) 3 (dflt .s) = r from rfl, e, bnd_s]
            dsimp only
            cases hn : numO p with
            | none => exact Ret.some (reads_bad (t := p) (by simp) hn)
            | some u =>
              obtain ⟨rfl, _⟩ := hv u hn
              rw [Option.isSome_some, notB_t, br_f, br_pos (lt_t (by simp)), br_pos (inR_t (by omega) (by simp)), br_pos (inR_t (by omega) (by simp)), e2, bnd_s]
              dsimp only
              cases hn2 : numO q with
              | none => exact Ret.some (reads_bad (t := q) (by simp) hn2)
              | some u2 =>
                obtain ⟨rfl, _⟩ := hv2 u2 hn2
                rw [Option.isSome_some, notB_t, br_f, br_pos (lt_t (by simp)), br_pos (inR_t (by omega) (by simp)), br_pos (inR_t (by omega) (by simp)), e3, bnd_s]
                dsimp only
                cases hn3 : numO r with
                | none => exact Ret.some (reads_bad (t := r) (by simp) hn3)
                | some u3 =>
                  obtain ⟨rfl, _⟩ := hv3 u3 hn3
                  exact reads_end hk hl h0' (ns := [v, v2, v3]) (by simp [nums, hn, hn2, hn3]) rfl
          | p :: q :: r :: s :: y, hr, hl, hlen => exfalso; simp at hr; omega
      · rw [show notB (eqS (getL w' 0 (dflt .s)) (kw.getD k [])) = true by unfold eqS; rw [decide_eq_false h0]; rfl, br_t]
        exact hnext fun h => h0 h.2
    · rw [eq_f hm, notB_not, Bool.not_false, br_t, bnd_s, br_t]
      exact hnext fun h => hm h.1
  · rw [br_neg (le_f (by omega))]
    refine Ret.some (reads_no ?_)
    cases w' with
    | nil => rfl
    | cons w0 ws =>
      unfold readW
      dsimp only
      cases hp : posL kw w0 with
      | none => rfl
      | some j =>
        obtain ⟨hj1, hj2, _⟩ := posL_lt hp
        cases hns : nums ws with
        | none => rfl
        | some ns =>
          dsimp only
          rw [if_neg]
          rintro ⟨e, _⟩
          exact h7 j (by omega) ⟨by rw [List.length_cons]; omega, hj2.symm⟩
/-- What a line is read as. -/
def readS (t : List UInt8) : Stm × Int := if 65536 < t.length then (zS, 2) else match readW (wds t) with | some x => (x, 0) | none => (zS, 3)
theorem spec_ReadStmt_eq (t : List UInt8) : S_spec_ReadStmt ((t, ()), ()) = some (((readS t).1, ((readS t).2, ())), ()) := by
  unfold S_spec_ReadStmt readS
  dsimp only
  rw [lenL_nat]
  by_cases h : 65536 < t.length
  · rw [br_pos (lt_t (by omega)), if_pos h]; rfl
  · rw [br_neg (lt_f (by omega)), if_neg h, l16Read_eq t (by omega), bnd_s]
    cases readW (wds t) <;> rfl
theorem impl_ReadStmt_eq (t : List UInt8) : S_impl_ReadStmt ((t, ()), ()) = some (((readS t).1, ((readS t).2, ())), ()) := by
  unfold S_impl_ReadStmt readS
  dsimp only
  rw [lenL_nat]
  by_cases h : 65536 < t.length
  · rw [br_pos (lt_t (by omega)), if_pos h]; rfl
  · rw [br_neg (lt_f (by omega)), if_neg h, wordsOf_eq t (by omega), bnd_s]
    have hn : (wds t).length ≤ 16777216 := by
      have := pieces_len t
      have h2 : (wds t).length ≤ (pieces t).length := List.length_filter_le _ _
      omega
    obtain ⟨⟨⟨x, b, _⟩, _⟩, e, h1, h2⟩ := readStmt_eq (wds t) hn fun p hp => by have := wds_mem hp; omega
    rw [e, bnd_s]
    dsimp only at h1 h2 ⊢
    cases hr : readW (wds t) with
    | none => rw [hr] at h1; rw [h1]; rfl
    | some y => rw [hr] at h1; rw [h1, h2 y hr]; rfl
end Go.Den.G
namespace Go.Den.G
open Go.Den
/-- A drawing source: its code, how far it has been read, its seed. -/
structure Src (code : List Int) (k : Int) (s : List Int × (Int × (Int × Unit))) : Prop where
  code : s.1 = code
  at0 : 0 ≤ s.2.1
  atk : s.2.1 ≤ k
  sd0 : 0 ≤ s.2.2.1
  sd1 : s.2.2.1 < 2147483648
/-- A code whose elements are bytes. -/
def Bytes (code : List Int) : Prop := (∀ b ∈ code, 0 ≤ b ∧ b ≤ 255) ∧ code.length ≤ 1048576
theorem Src.mono {code : List Int} {k j : Int} {s : List Int × (Int × (Int × Unit))} (h : Src code k s) (hk : k ≤ j) : Src code j s := ⟨h.code, h.at0, Int.le_trans h.atk hk, h.sd0, h.sd1⟩
theorem source_ret {code : List Int} (_hc : Bytes code) : Ret (S_spec_l00Source ((code, ()), ())) fun r => Src code 0 r.2.1 := by
  unfold S_spec_l00Source
  dsimp only
  refine Ret.some ⟨rfl, by simp, by simp, ?_, ?_⟩
  · dsimp only; rw [lenL_nat, remI_pos (by omega)]; omega
  · dsimp only; rw [lenL_nat, remI_pos (by omega)]; omega
theorem byte_ret {code : List Int} (hc : Bytes code) {k : Int} (hk : k ≤ 4611686018427387904) {s : List Int × (Int × (Int × Unit))} (h : Src code k s) :
    Ret (S_spec_l00Src_byte ((), (s, ()))) fun r => 0 ≤ r.1 ∧ r.1 ≤ 255 ∧ Src code (k + 1) r.2.1 := by
  obtain ⟨c, at_, sd, _⟩ := s
  obtain ⟨h1, h2, h3, h4, h5⟩ := h
  dsimp only at h1 h2 h3 h4 h5
  subst h1
  unfold S_spec_l00Src_byte
  dsimp only
  rw [addI_id (by omega) (by omega)]
  refine Ret.br (fun hl => ?_) fun hl => ?_
  · rw [le_iff, lenL_nat] at hl
    have e1 : subI .i64 (at_ + 1) 1 = at_ := by rw [subI_id (by omega) (by omega)]; omega
    rw [e1]
    obtain ⟨n, rfl⟩ := Int.eq_ofNat_of_zero_le h2
    have hn : n < c.length := by omega
    have hb := hc.1 _ (List.getElem_mem hn)
    refine Ret.need (inR_t h2 (by rw [lenL_nat]; omega)) (Ret.need (inR_t h2 (by rw [lenL_nat]; omega)) ?_)
    rw [getL_nat hn, wrapII_id (by omega) (by omega), mulI_id (by omega) (by omega), addI_id (a := sd * 31) (by omega) (by omega), addI_id (by omega) (by omega), remI_pos (by omega)]
    exact Ret.some ⟨hb.1, hb.2, rfl, by dsimp only; omega, by dsimp only; omega, by dsimp only; omega, by dsimp only; omega⟩
  · refine Ret.br (fun hl2 => Ret.some ⟨by dsimp only; omega, by dsimp only; omega, rfl, by dsimp only; omega, by dsimp only; omega, h4, h5⟩) fun hl2 => ?_
    rw [mulI_id (by omega) (by omega), addI_id (by omega) (by omega), remI_pos (a := sd * 1103515245 + 12345) (by omega), quoI_pos (by omega) (by omega) (by omega), remI_pos (by omega)]
    exact Ret.some ⟨by dsimp only; omega, by dsimp only; omega, rfl, by dsimp only; omega, by dsimp only; omega, by dsimp only; omega, by dsimp only; omega⟩
theorem next_ret {code : List Int} (hc : Bytes code) {k : Int} (hk : k ≤ 4611686018427387000) {s : List Int × (Int × (Int × Unit))} (h : Src code k s) (n : Int) (hn : 1 ≤ n) :
    Ret (S_spec_l00Src_next ((n, ()), (s, ()))) fun r => 0 ≤ r.1 ∧ r.1 < n ∧ Src code (k + 3) r.2.1 := by
  unfold S_spec_l00Src_next
  dsimp only
  have hs : ∀ {j} {s' : List Int × (Int × (Int × Unit))}, Src code j s' → (s.1, s'.2) = s' := fun h' => by rw [h.code, ← h'.code]
  refine Ret.br (fun h1 => ?_) fun h1 => Ret.br (fun h2 => ?_) fun h2 => ?_
  · rw [le_iff] at h1
    exact Ret.some ⟨by dsimp only; omega, by dsimp only; omega, h.mono (by omega)⟩
  · refine Ret.bnd (byte_ret hc (by omega) h) fun r hr => ?_
    obtain ⟨a, b, c⟩ := hr
    refine Ret.need (by rw [eq_f (by rw [le_nf] at h1; omega)]; rfl) ?_
    rw [le_nf] at h1
    rw [remI_pos a]
    have e1 := Int.emod_nonneg r.1 (show n ≠ 0 by omega)
    have e2 := Int.emod_lt_of_pos r.1 (show 0 < n by omega)
    refine Ret.some ⟨e1, e2, ?_⟩
    dsimp only; rw [hs c]; exact c.mono (by omega)
  · refine Ret.bnd (byte_ret hc (by omega) h) fun r hr => ?_
    obtain ⟨a, b, c⟩ := hr
    rw [hs c]
    refine Ret.bnd (byte_ret hc (by omega) c) fun r2 hr2 => ?_
    obtain ⟨a2, b2, c2⟩ := hr2
    rw [hs c2]
    refine Ret.bnd (byte_ret hc (by omega) c2) fun r3 hr3 => ?_
    obtain ⟨a3, b3, c3⟩ := hr3
    rw [le_nf] at h1
    refine Ret.need (by rw [eq_f (by omega)]; rfl) ?_
    rw [mulI_id (by omega) (by omega), mulI_id (by omega) (by omega), addI_id (a := r.1 * 65536) (by omega) (by omega), addI_id (by omega) (by omega), remI_pos (by omega)]
    have e1 := Int.emod_nonneg (r.1 * 65536 + r2.1 * 256 + r3.1) (show n ≠ 0 by omega)
    have e2 := Int.emod_lt_of_pos (r.1 * 65536 + r2.1 * 256 + r3.1) (show 0 < n by omega)
    refine Ret.some ⟨e1, e2, ?_⟩
    dsimp only; rw [hs c3]; exact c3.mono (by omega)
end Go.Den.G
namespace Go.Den.G
open Go.Den
abbrev SrcT := List Int × (Int × (Int × Unit))
theorem Src.put {code : List Int} {k j : Int} {s s' : List Int × (Int × (Int × Unit))} (h : Src code k s) (h' : Src code j s') : (s.1, s'.2) = s' := by rw [h.code, ← h'.code]
theorem word_ret {code : List Int} (hc : Bytes code) {k : Int} (hk : k ≤ 4611686018427387000) {s : List Int × (Int × (Int × Unit))} (h : Src code k s) :
    Ret (S_spec_l00Src_word ((), (s, ()))) fun r => 0 ≤ r.1 ∧ r.1 < 4294967296 ∧ Src code (k + 4) r.2.1 := by
  unfold S_spec_l00Src_word
  dsimp only
  refine Ret.bnd (byte_ret hc (by omega) h) fun r1 hr1 => ?_
  obtain ⟨a1, b1, c1⟩ := hr1
  rw [h.put c1]
  refine Ret.bnd (byte_ret hc (by omega) c1) fun r2 hr2 => ?_
  obtain ⟨a2, b2, c2⟩ := hr2
  rw [h.put c2]
  refine Ret.bnd (byte_ret hc (by omega) c2) fun r3 hr3 => ?_
  obtain ⟨a3, b3, c3⟩ := hr3
  rw [h.put c3]
  refine Ret.bnd (byte_ret hc (by omega) c3) fun r4 hr4 => ?_
  obtain ⟨a4, b4, c4⟩ := hr4
  rw [h.put c4, mulI_id (by omega) (by omega), mulI_id (by omega) (by omega), mulI_id (by omega) (by omega), addI_id (a := r1.1) (by omega) (by omega), addI_id (a := r1.1 + 256 * r2.1) (by omega) (by omega), addI_id (by omega) (by omega)]
  exact Ret.some ⟨by dsimp only; omega, by dsimp only; omega, c4.mono (by omega)⟩
theorem getL_all {P : Int → Prop} {xs : List Int} {i : Int} {d : Int} (h0 : 0 ≤ i) (h1 : i < (xs.length : Int)) (h : ∀ x ∈ xs, P x) : P (getL xs i d) := by
  obtain ⟨hi, e⟩ := getL_get (d := d) h0 h1
  rw [e]; exact h _ (List.getElem_mem hi)
theorem elWf_u {x : Int} (h : elWf .u x) : 0 ≤ x ∧ x ≤ 255 := by
  obtain ⟨⟨n, e, w⟩, _⟩ := h
  cases e
  simp only [Lit.wf, Bool.and_eq_true, decide_eq_true_eq] at w
  simp only [IntKind.min, IntKind.max, IntKind.signed, IntKind.bits] at w
  simp at w
  omega
theorem pick_ret {code : List Int} (hc : Bytes code) {k : Int} (hk : k ≤ 4611686018427387000) {s : List Int × (Int × (Int × Unit))} (h : Src code k s) (xs : List (List UInt8)) (hx : 1 ≤ xs.length) :
    Ret (S_spec_l00Src_pick ((xs, ()), (s, ()))) fun r => r.1 ∈ xs ∧ Src code (k + 3) r.2.1 := by
  unfold S_spec_l00Src_pick
  dsimp only
  simp only [lenL_nat]
  refine Ret.not (eq_f (by omega)) (Ret.bnd (next_ret hc hk h _ (by omega)) fun r hr => ?_)
  obtain ⟨a, b, c⟩ := hr
  refine Ret.need (inR_t a b) (Ret.some ⟨?_, ?_⟩)
  · obtain ⟨hi, e⟩ := getL_get (d := dflt .s) a b
    dsimp only
    rw [e]; exact List.getElem_mem hi
  · dsimp only; rw [h.put c]; exact c
theorem next_r {code : List Int} (hc : Bytes code) {k : Int} (hk : k ≤ 4611686018427387000) {s s0 : List Int × (Int × (Int × Unit))} (h0 : s0.1 = code) (h : Src code k s) (n : Int) (hn : 1 ≤ n) :
    Ret (S_spec_l00Src_next ((n, ()), (s, ()))) fun r => 0 ≤ r.1 ∧ r.1 < n ∧ Src code (k + 3) (s0.1, r.2.1.2) :=
  (next_ret hc hk h n hn).mono fun r hr => ⟨hr.1, hr.2.1, by have := hr.2.2; rw [show (s0.1, r.2.1.2) = r.2.1 from by rw [h0, ← this.code]]; exact this⟩
end Go.Den.G
namespace Go.Den.G
open Go.Den

/-- A way that stands for the first of two. -/
theorem Ret.bndl {α γ β : Type} {o : Option (Sum α γ)} {f : Sum α γ → Option β} {R : β → Prop} (Q : α → Prop) (h : Ret o (fun z => sumE z Q fun _ => False)) (k : ∀ x, Q x → Ret (f (.inl x)) R) : Ret (bnd o f) R := by
  obtain ⟨z, rfl, hz⟩ := h
  cases z with
  | inl x => exact k x hz
  | inr x => exact hz.elim

/-! ### statements that are drawn -/
theorem named_ret {code : List Int} (hc : Bytes code) {k : Int} (hk : k ≤ 4611686018427380000) {s : SrcT} (h : Src code k s) :
    Ret (S_spec_l00Src_named ((), (s, ()))) fun r => regB r.1 = true ∧ 0 ≤ r.1 ∧ r.1 ≤ 14 ∧ Src code (k + 3) (s.1, r.2.1.2) := by
  unfold S_spec_l00Src_named
  dsimp only
  refine Ret.bnd (next_r hc (by omega) h.code h 12 (by omega)) fun r hr => ?_
  obtain ⟨a, b, c⟩ := hr
  refine Ret.need (inR_t a b) (Ret.some ?_)
  dsimp only
  have hg := getL_all (P := fun x => regB x = true ∧ 0 ≤ x ∧ x ≤ 14) (xs := [0, 1, 2, 3, 6, 7, 8, 9, 10, 12, 13, 14]) (d := dflt .i) a b (by decide)
  exact ⟨hg.1, hg.2.1, hg.2.2, c⟩
/-- A statement's numbers are small. -/
def smallS (s : Stm) : Prop := (-4294967296 ≤ s.a ∧ s.a ≤ 4294967296) ∧ (-4294967296 ≤ s.b ∧ s.b ≤ 4294967296) ∧ (-4294967296 ≤ s.c ∧ s.c ≤ 4294967296)
def goodS (s : Stm) : Prop := stmtB s = true ∧ smallS s
theorem fitsB_of {v : Int} (h : -2147483648 ≤ v) (k : v < 2147483648) : fitsB v 4 = true := by
  unfold fitsB sx
  apply eq_t
  rw [show ((8 * 4 - 1 : Int)).toNat = 31 from rfl]
  split <;> rename_i g <;> omega
theorem inB_of {a b c : Int} (h : b ≤ a) (k : a ≤ c) : inB a b c = true := by unfold inB; rw [decide_eq_true h, decide_eq_true k]; rfl
theorem good_set {r n : Int} (hr : regB r = true) (h0 : 0 ≤ r) (h1 : r ≤ 14) (h2 : -2147483648 ≤ n) (h3 : n < 2147483648) : goodS ⟨2, r, n, 0⟩ := by
  refine ⟨?_, ⟨by dsimp only; omega, by dsimp only; omega⟩, ⟨by dsimp only; omega, by dsimp only; omega⟩, by dsimp only; omega⟩
  simp [stmtB, hr, fitsB_of h2 h3, eqI]
theorem good_two {k r n : Int} (hk : k = 3 ∨ k = 17 ∨ k = 11) (hr : k ≠ 11 → regB r = true) (h0 : 0 ≤ r) (h1 : r ≤ 15) (hn : k = 3 → regB n = true) (h2 : 0 ≤ n) (h3 : n ≤ 14) : goodS ⟨k, r, n, 0⟩ := by
  refine ⟨?_, ⟨by dsimp only; omega, by dsimp only; omega⟩, ⟨by dsimp only; omega, by dsimp only; omega⟩, by dsimp only; omega⟩
  rcases hk with rfl | rfl | rfl
  · simp [stmtB, hr (by omega), hn rfl, eqI]
  · simp [stmtB, hr (by omega), inB_of h2 (show n ≤ 31 by omega), eqI]
  · simp [stmtB, inB_of h0 h1, inB_of h2 (show n ≤ 31 by omega), eqI]
theorem good_three {k a r n : Int} (hk : k = 4 ∨ k = 5 ∨ k = 6) (ha : k ≠ 4 → regB a = true) (ha4 : k = 4 → 1 ≤ a ∧ a ≤ 8) (h4 : 0 ≤ a) (h5 : a ≤ 14) (hr : regB r = true) (h0 : 0 ≤ r) (h1 : r ≤ 14) (hn : k = 4 → regB n = true) (h2 : -2048 ≤ n) (h3 : n ≤ 2047) : goodS ⟨k, a, r, n⟩ := by
  refine ⟨?_, ⟨by dsimp only; omega, by dsimp only; omega⟩, ⟨by dsimp only; omega, by dsimp only; omega⟩, by dsimp only; omega⟩
  rcases hk with rfl | rfl | rfl
  · simp [stmtB, hr, hn rfl, inB_of (ha4 rfl).1 (ha4 rfl).2]
  · simp [stmtB, hr, ha (by omega), inB_of h2 h3]
  · simp [stmtB, hr, ha (by omega), inB_of h2 h3]
theorem good_one {k a : Int} (hk : (k = 7 ∨ k = 8 ∨ k = 16) ∧ regB a = true ∨ k = 9 ∧ a % 8 = 0 ∨ k = 14 ∧ 0 ≤ a ∧ a ≤ 7 ∨ (k = 10 ∨ k = 12) ∧ 0 ≤ a ∧ a ≤ 31 ∨ k = 13 ∧ a = 0) (h0 : -256 ≤ a) (h1 : a ≤ 256) : goodS ⟨k, a, 0, 0⟩ := by
  refine ⟨?_, ⟨by dsimp only; omega, by dsimp only; omega⟩, by dsimp only; omega, by dsimp only; omega⟩
  rcases hk with ⟨rfl | rfl | rfl, h⟩ | ⟨rfl, h⟩ | ⟨rfl, h, h'⟩ | ⟨rfl | rfl, h, h'⟩ | ⟨rfl, rfl⟩
  · simp [stmtB, h, eqI]
  · simp [stmtB, h, eqI]
  · simp [stmtB, h, eqI]
  · have : remI a 8 = 0 := by
      obtain ⟨q, rfl⟩ : ∃ q, a = 8 * q := ⟨a / 8, by omega⟩
      exact Int.mul_tmod_right 8 q
    simp [stmtB, inB_of h0 h1, this, eqI]
  · simp [stmtB, inB_of h h', eqI]
  · simp [stmtB, inB_of h h', eqI]
  · simp [stmtB, inB_of h h', eqI]
  · simp [stmtB, eqI]
theorem stmt_ret {code : List Int} (hc : Bytes code) {k : Int} (hk : k ≤ 4611686018427370000) {s : SrcT} (h : Src code k s) (many : Int) (hm0 : 0 ≤ many) (hm : many ≤ 15) :
    Ret (S_spec_l00Src_stmt ((many, ()), (s, ()))) fun r => goodS r.1 ∧ Src code (k + 60) (s.1, r.2.1.2) := by
  unfold S_spec_l00Src_stmt
  dsimp only
  refine Ret.bnd (named_ret hc (by omega) h) fun r1 ⟨p1, q1, u1, c1⟩ => ?_
  refine Ret.bnd (named_ret hc (by omega) c1) fun r2 ⟨p2, q2, u2, c2⟩ => ?_
  dsimp only at c2
  refine Ret.bnd (next_r hc (by omega) h.code c2 18 (by omega)) fun r3 ⟨q3, u3, c3⟩ => ?_
  refine Ret.bndl (fun x6 => x6.1.1 = many ∧ x6.1.2.1 = r1.1 ∧ x6.1.2.2.1 = r2.1 ∧ x6.2.1 = (s.1, r3.2.1.2)) (Ret.br (fun _ => Ret.some ⟨rfl, rfl, rfl, rfl⟩) fun _ => Ret.some ⟨rfl, rfl, rfl, rfl⟩) ?_
  rintro ⟨⟨m, g1, g2, g3, fl, _⟩, s', zz⟩ ⟨e1, e2, e3, e4⟩
  dsimp only at e1 e2 e3 e4
  subst e1 e2 e3 e4
  rw [sumE_l]
  dsimp only
  refine Ret.br (fun _ => ?_) fun _ => ?_
  · refine Ret.bnd (next_r hc (by omega) h.code c3 4096 (by omega)) fun r4 ⟨q4, u4, c4⟩ => ?_
    refine Ret.bnd (next_r hc (by omega) h.code c4 50 (by omega)) fun r5 ⟨q5, u5, c5⟩ => ?_
    refine Ret.bnd (word_ret hc (by omega) c5) fun r6 ⟨q6, u6, c6⟩ => ?_
    rw [show ((s.1, r6.2.1.2) : SrcT) = r6.2.1 from by rw [h.code, ← c6.code]]
    refine Ret.bnd (next_r hc (by omega) h.code c6 60 (by omega)) fun r7 ⟨q7, u7, c7⟩ => ?_
    refine Ret.bnd (next_r hc (by omega) h.code c7 4 (by omega)) fun r8 ⟨q8, u8, c8⟩ => ?_
    refine Ret.need (inR_t q8 u8) (Ret.some ?_)
    dsimp only
    rw [subI_id (by omega) (by omega), mulI_id (by omega) (by omega), addI_id (by omega) (by omega)]
    have hg := getL_all (P := fun x => -2147483648 ≤ x ∧ x < 2147483648) (xs := [r4.1, r5.1, r6.1 - 2147483648, 3584 + 8 * r7.1]) (d := dflt .i) q8 u8 (by simp; omega)
    exact ⟨good_set p1 q1 u1 hg.1 hg.2, c8.mono (by omega)⟩
  refine Ret.br (fun _ => Ret.some ⟨good_two (.inl rfl) (fun _ => p1) q1 (by omega) (fun _ => p2) q2 u2, c3.mono (by omega)⟩) fun _ => ?_
  refine Ret.bndl (fun x6 => x6.1.1 = m ∧ x6.1.2.1 = r1.1 ∧ x6.1.2.2.1 = r2.1 ∧ x6.2.1 = (s.1, r3.2.1.2)) (Ret.br (fun _ => Ret.some ⟨rfl, rfl, rfl, rfl⟩) fun _ => Ret.some ⟨rfl, rfl, rfl, rfl⟩) ?_
  rintro ⟨⟨m, g1, g2, g3, fl, _⟩, s', zz⟩ ⟨e1, e2, e3, e4⟩
  dsimp only at e1 e2 e3 e4
  subst e1 e2 e3 e4
  rw [sumE_l]
  dsimp only
  refine Ret.br (fun _ => ?_) fun _ => ?_
  · refine Ret.bnd (next_r hc (by omega) h.code c3 8 (by omega)) fun r4 ⟨q4, u4, c4⟩ => Ret.some ?_
    dsimp only
    rw [addI_id (by omega) (by omega)]
    exact ⟨good_three (.inl rfl) (fun h => absurd rfl h) (fun _ => by omega) (by omega) (by omega) p1 q1 u1 (fun _ => p2) (by omega) (by omega), c4.mono (by omega)⟩
  refine Ret.br (fun _ => ?_) fun _ => Ret.br (fun _ => ?_) fun _ => ?_
  · refine Ret.bnd (next_r hc (by omega) h.code c3 40 (by omega)) fun r4 ⟨q4, u4, c4⟩ => ?_
    refine Ret.bnd (next_r hc (by omega) h.code c4 4096 (by omega)) fun r5 ⟨q5, u5, c5⟩ => ?_
    refine Ret.bnd (next_r hc (by omega) h.code c5 3 (by omega)) fun r6 ⟨q6, u6, c6⟩ => ?_
    refine Ret.need (inR_t q6 u6) (Ret.some ?_)
    dsimp only
    rw [mulI_id (by omega) (by omega), subI_id (by omega) (by omega)]
    have hg := getL_all (P := fun x => -2048 ≤ x ∧ x ≤ 2047) (xs := [0, 8 * r4.1, r5.1 - 2048]) (d := dflt .i) q6 u6 (by simp; omega)
    exact ⟨good_three (.inr (.inl rfl)) (fun _ => p1) (fun h => by omega) q1 u1 p2 q2 u2 (fun h => by omega) hg.1 hg.2, c6.mono (by omega)⟩
  · refine Ret.bnd (next_r hc (by omega) h.code c3 40 (by omega)) fun r4 ⟨q4, u4, c4⟩ => ?_
    refine Ret.bnd (next_r hc (by omega) h.code c4 4096 (by omega)) fun r5 ⟨q5, u5, c5⟩ => ?_
    refine Ret.bnd (next_r hc (by omega) h.code c5 3 (by omega)) fun r6 ⟨q6, u6, c6⟩ => ?_
    refine Ret.need (inR_t q6 u6) (Ret.some ?_)
    dsimp only
    rw [mulI_id (by omega) (by omega), subI_id (by omega) (by omega)]
    have hg := getL_all (P := fun x => -2048 ≤ x ∧ x ≤ 2047) (xs := [0, 8 * r4.1, r5.1 - 2048]) (d := dflt .i) q6 u6 (by simp; omega)
    exact ⟨good_three (.inr (.inr rfl)) (fun _ => p1) (fun h => by omega) q1 u1 p2 q2 u2 (fun h => by omega) hg.1 hg.2, c6.mono (by omega)⟩
  refine Ret.br (fun _ => Ret.some ⟨good_one (.inl ⟨.inl rfl, p1⟩) (by omega) (by omega), c3.mono (by omega)⟩) fun _ => Ret.br (fun _ => Ret.some ⟨good_one (.inl ⟨.inr (.inl rfl), p1⟩) (by omega) (by omega), c3.mono (by omega)⟩) fun _ => Ret.br (fun _ => ?_) fun _ => Ret.br (fun _ => ?_) fun _ => ?_
  · refine Ret.bnd (next_r hc (by omega) h.code c3 20 (by omega)) fun r4 ⟨q4, u4, c4⟩ => Ret.some ?_
    dsimp only
    rw [subI_id (by omega) (by omega), mulI_id (by omega) (by omega)]
    exact ⟨good_one (.inr (.inl ⟨rfl, by omega⟩)) (by omega) (by omega), c4.mono (by omega)⟩
  · refine Ret.bnd (next_r hc (by omega) h.code c3 8 (by omega)) fun r4 ⟨q4, u4, c4⟩ => Ret.some ?_
    exact ⟨good_one (.inr (.inr (.inl ⟨rfl, q4, by omega⟩))) (by omega) (by omega), c4.mono (by omega)⟩
  refine Ret.br (fun _ => ?_) fun hz => ?_
  · refine Ret.bnd (next_r hc (by omega) h.code c3 100 (by omega)) fun r4 ⟨q4, u4, c4⟩ => Ret.some ?_
    exact ⟨good_set p1 q1 u1 (by omega) (by omega), c4.mono (by omega)⟩
  rw [eq_nf] at hz
  refine Ret.bnd (next_r hc (by omega) h.code c3 m (by omega)) fun r4 ⟨q4, u4, c4⟩ => ?_
  refine Ret.bnd (next_r hc (by omega) h.code c4 7 (by omega)) fun r5 ⟨q5, u5, c5⟩ => ?_
  refine Ret.br (fun _ => Ret.some ⟨good_one (.inr (.inr (.inr (.inl ⟨.inl rfl, q4, by omega⟩)))) (by omega) (by omega), c5.mono (by omega)⟩) fun _ => ?_
  refine Ret.bndl (fun x6 => x6.1.1 = r1.1 ∧ x6.1.2.1 = r4.1 ∧ x6.2.1 = (s.1, r5.2.1.2)) (Ret.br (fun _ => Ret.some ⟨rfl, rfl, rfl⟩) fun _ => Ret.some ⟨rfl, rfl, rfl⟩) ?_
  rintro ⟨⟨g1, g2, g3, fl, _⟩, s', zz⟩ ⟨e2, e3, e4⟩
  dsimp only at e2 e3 e4
  subst e2 e3 e4
  rw [sumE_l]
  dsimp only
  refine Ret.br (fun _ => ?_) fun _ => ?_
  · refine Ret.bnd (next_r hc (by omega) h.code c5 16 (by omega)) fun r6 ⟨q6, u6, c6⟩ => Ret.some ?_
    exact ⟨good_two (.inr (.inr rfl)) (fun h => absurd rfl h) q6 (by omega) (fun h => by omega) q4 (by omega), c6.mono (by omega)⟩
  refine Ret.br (fun _ => Ret.some ⟨good_one (.inr (.inr (.inr (.inl ⟨.inr rfl, q4, by omega⟩)))) (by omega) (by omega), c5.mono (by omega)⟩) fun _ => ?_
  refine Ret.br (fun _ => Ret.some ⟨good_one (.inr (.inr (.inr (.inr ⟨rfl, rfl⟩)))) (by omega) (by omega), c5.mono (by omega)⟩) fun _ => ?_
  refine Ret.br (fun _ => Ret.some ⟨good_one (.inl ⟨.inr (.inr rfl), p1⟩) (by omega) (by omega), c5.mono (by omega)⟩) fun _ => ?_
  exact Ret.some ⟨good_two (.inr (.inl rfl)) (fun _ => p1) q1 (by omega) (fun h => by omega) q4 (by omega), c5.mono (by omega)⟩
end Go.Den.G
namespace Go.Den.G
open Go.Den

/-! ### words of a text that was put together -/
def nb (p : List UInt8) : Prop := p ≠ [] ∧ ∀ c ∈ p, c ≠ 32
theorem wds_blank (r : List UInt8) : wds (32 :: r) = wds r := by
  unfold wds
  rw [pieces, if_pos rfl, List.filter_cons]; rfl
theorem nb_full {p : List UInt8} (h : nb p) : full p = true := by
  cases p with
  | nil => exact absurd rfl h.1
  | cons => rfl
theorem wds_word {p : List UInt8} (h : nb p) (r : List UInt8) : wds (p ++ 32 :: r) = p :: wds r := by
  unfold wds
  rw [pieces_cut h.2, List.filter_cons, nb_full h]; rfl
theorem itoa_nb (v : Int) : nb (Go.Lib.itoa v) := by
  have hd : ∀ u, nb (Go.Lib.decDigits u) := fun u => by
    obtain ⟨⟨h1, h2, _⟩, _⟩ := dec_canon u u (Nat.le_refl _)
    exact ⟨h1, fun c hc e => by have := h2 c hc; rw [e] at this; exact absurd this (by decide)⟩
  unfold Go.Lib.itoa
  split
  · exact ⟨by simp, fun c hc => by
      rcases List.mem_cons.1 hc with rfl | hc
      · decide
      · exact (hd _).2 c hc⟩
  · exact hd _
theorem wds_nums2 (r : List UInt8) : ∀ (l : List Int) (p : List UInt8), nb p → wds (p ++ numsL l ++ 32 :: r) = p :: (l.map Go.Lib.itoa ++ wds r)
  | [], p, h => by simp [numsL, wds_word h]
  | a :: l, p, h => by
    have e : numsL (a :: l) = 32 :: (Go.Lib.itoa a ++ numsL l) := by simp [numsL]
    rw [e, List.append_assoc, List.cons_append, wds_word h, wds_nums2 r l _ (itoa_nb a)]; rfl
def small (v : Int) : Prop := -4294967296 ≤ v ∧ v ≤ 4294967296
theorem numO_itoa {v : Int} (h : small v) : numO (Go.Lib.itoa v) = some v := by
  unfold small at h
  refine (numO_iff _ v).2 ⟨rfl, ?_⟩
  by_cases hv : v < 0
  · have e : Go.Lib.itoa v = 45 :: Go.Lib.decDigits v.natAbs := by unfold Go.Lib.itoa; rw [if_pos hv]
    have hD : numD (Go.Lib.itoa v) = Go.Lib.decDigits v.natAbs := by rw [e]; rfl
    rw [hD]
    exact dec_len 17 _ (by omega)
  · have e : Go.Lib.itoa v = Go.Lib.decDigits v.toNat := by unfold Go.Lib.itoa; rw [if_neg hv]
    have hD : numD (Go.Lib.itoa v) = Go.Lib.decDigits v.toNat := by unfold numD; rw [e, if_neg (dig_ne45 (dec_canon _ _ (Nat.le_refl _)).1)]
    rw [hD]
    exact dec_len 17 _ (by omega)
theorem nums_itoa : ∀ (l : List Int), (∀ v ∈ l, small v) → nums (l.map Go.Lib.itoa) = some l
  | [], _ => rfl
  | a :: l, h => by
    rw [List.map_cons, nums, numO_itoa (h a (by simp)), nums_itoa l fun v hv => h v (by simp [hv])]
theorem kw_nb {k : Nat} (h : k < 17) : nb (kw.getD k []) ∧ (kw.getD k []).length ≤ 7 := by
  rcases lt17 h with rfl | rfl | rfl | rfl | rfl | rfl | rfl | rfl | rfl | rfl | rfl | rfl | rfl | rfl | rfl | rfl | rfl <;> exact ⟨⟨by decide +kernel, by decide +kernel⟩, by decide +kernel⟩

/-! ### a statement's text -/
def numsOf (s : Stm) (k : Nat) : List Int := takeL [s.a, s.b, s.c] (km.getD k 0)
def textOf (s : Stm) (k : Nat) : List UInt8 := kw.getD k [] ++ numsL (numsOf s k)
theorem numsOf_mem {s : Stm} {k : Nat} {P : Int → Prop} (ha : P s.a) (hb : P s.b) (hc : P s.c) : ∀ x ∈ numsOf s k, P x := fun x hx => by
  have := List.mem_of_mem_take hx
  simp at this
  rcases this with rfl | rfl | rfl <;> assumption
theorem numsOf_len (s : Stm) (k : Nat) : (numsOf s k).length ≤ 3 := by unfold numsOf takeL; rw [List.length_take]; simp; omega
theorem small_i64 {v : Int} (h : small v) : I64 v := by unfold small at h; unfold I64; omega
theorem texts_eq {s : Stm} {k : Nat} (hk : k < 17) (hs : s.kind = (k : Int) + 1) (hm : smallS s) : S_impl_stmtText ((s, ()), ()) = some (textOf s k, ()) ∧ S_spec_l16Stmt ((s, ()), ()) = some (textOf s k, ()) := by
  have hr := km_range hk
  have hn := kw_nb hk
  have hl : ∀ x ∈ numsOf s k, I64 x := numsOf_mem (small_i64 hm.1) (small_i64 hm.2.1) (small_i64 hm.2.2)
  have hln := numsOf_len s k
  refine ⟨?_, ?_⟩
  · unfold S_impl_stmtText
    dsimp only
    rw [hs, form_eq hk, bnd_s]
    dsimp only
    rw [br_pos (inC_t hr.1 hr.2)]
    show bnd (S_impl_wordsLine ((kw.getD k [], (numsOf s k, ())), ())) _ = _
    rw [wordsLine_eq _ _ (by omega) (by omega) hl]; rfl
  · unfold S_spec_l16Stmt
    dsimp only
    rw [hs, l16Words_eq, bnd_s]
    dsimp only
    rw [sub_id (by unfold I64; omega), show (k : Int) + 1 - 1 = k by omega, lenL_nat, br_pos (inR_t (by omega) (by rw [kw_len]; omega)), many_eq hk, bnd_s]
    dsimp only
    rw [br_pos (inC_t hr.1 hr.2), getD_nat]
    show bnd (S_spec_l16Numbers ((kw.getD k [], (numsOf s k, ())), ())) _ = _
    rw [l16Numbers_eq _ _ (by omega) (by omega) hl]; rfl
theorem textOf_len {s : Stm} {k : Nat} (hk : k < 17) (hm : smallS s) : (textOf s k).length ≤ 70 := by
  have hn := (kw_nb hk).2
  have hl := numsL_len (l := numsOf s k) (numsOf_mem (small_i64 hm.1) (small_i64 hm.2.1) (small_i64 hm.2.2))
  have := numsOf_len s k
  unfold textOf
  rw [List.length_append]; omega
/-- The numbers that its text leaves out are nought. -/
theorem stm_trim {k : Nat} (hk : k < 17) {a b c : Int} (h : stmtB ⟨(k : Int) + 1, a, b, c⟩ = true) :
    stmOf ((k : Int) + 1) (takeL [a, b, c] (km.getD k 0)) = ⟨(k : Int) + 1, a, b, c⟩ ∧ ((takeL [a, b, c] (km.getD k 0)).length : Int) = km.getD k 0 := by
  rcases lt17 hk with rfl | rfl | rfl | rfl | rfl | rfl | rfl | rfl | rfl | rfl | rfl | rfl | rfl | rfl | rfl | rfl | rfl <;>
    simp [stmtB, eqI] at h <;> simp [stmOf, takeL, km, h]
theorem read_text {s : Stm} {k : Nat} (hk : k < 17) (hs : s.kind = (k : Int) + 1) (hg : goodS s) : readW (kw.getD k [] :: (numsOf s k).map Go.Lib.itoa) = some s := by
  obtain ⟨kk, a, b, c⟩ := s
  have hs : kk = (k : Int) + 1 := hs
  subst hs
  obtain ⟨e1, e2⟩ := stm_trim hk hg.1
  have hl : (((numsOf ⟨(k : Int) + 1, a, b, c⟩ k).map Go.Lib.itoa).length : Int) = km.getD k 0 := by rw [List.length_map]; exact e2
  rw [readW_at hk hl rfl, nums_itoa _ (numsOf_mem hg.2.1 hg.2.2.1 hg.2.2.2)]
  dsimp only
  rw [show numsOf ⟨(k : Int) + 1, a, b, c⟩ k = takeL [a, b, c] (km.getD k 0) from rfl, e1, if_pos hg.1]
theorem read_more {s : Stm} {k : Nat} (hk : k < 17) (hs : s.kind = (k : Int) + 1) (hg : goodS s) (t : List UInt8) : readW (kw.getD k [] :: ((numsOf s k).map Go.Lib.itoa ++ [t])) = none := by
  obtain ⟨kk, a, b, c⟩ := s
  have hs : kk = (k : Int) + 1 := hs
  subst hs
  obtain ⟨e1, e2⟩ := stm_trim hk hg.1
  unfold readW
  dsimp only
  rw [posL_at hk]
  cases hn : nums ((numsOf ⟨(k : Int) + 1, a, b, c⟩ k).map Go.Lib.itoa ++ [t]) with
  | none => rfl
  | some ns =>
    dsimp only
    rw [if_neg]
    rintro ⟨h, _⟩
    rw [List.length_append, List.length_map] at h
    have e3 : ((numsOf ⟨(k : Int) + 1, a, b, c⟩ k).length : Int) = km.getD k 0 := e2
    rw [List.length_singleton] at h
    push_cast at h
    omega
theorem kind_nat {s : Stm} (hg : goodS s) : ∃ k : Nat, k < 17 ∧ s.kind = (k : Int) + 1 := by
  have := stmtB_kind hg.1
  exact ⟨(s.kind - 1).toNat, by omega, by omega⟩
theorem line_ret {code : List Int} (hc : Bytes code) : Ret (S_spec_StmtLine ((code, ()), ())) fun _ => True := by
  unfold S_spec_StmtLine
  refine Ret.bnd (source_ret hc) fun r0 h0 => ?_
  obtain ⟨u0, s0, _⟩ := r0
  dsimp only at h0 ⊢
  refine Ret.bnd (Q := fun _ => True) ?_ fun _ _ => Ret.some trivial
  unfold S_spec_l00Src_stmtLine
  dsimp only
  refine Ret.bnd (stmt_ret hc (by omega) h0 4 (by omega) (by omega)) fun r1 ⟨g1, c1⟩ => ?_
  obtain ⟨k, hk, hs⟩ := kind_nat g1
  rw [(texts_eq hk hs g1.2).2, bnd_s]
  have hl := textOf_len hk g1.2
  dsimp only
  refine Ret.bnd (next_r hc (by omega) h0.code c1 12 (by omega)) fun r2 ⟨q2, u2, c2⟩ => ?_
  refine Ret.br (fun _ => Ret.need (fits2_t (by simp; omega)) (Ret.need (fits2_t (by simp [appL]; omega)) (Ret.some trivial))) fun _ => Ret.br (fun _ => Ret.need (fits2_t (by simp; omega)) (Ret.some trivial)) fun _ => Ret.br (fun _ => ?_) fun _ => Ret.some trivial
  exact Ret.bnd (pick_ret hc (by omega) c2 _ (by simp)) fun r3 _ => Ret.some trivial
theorem drawn_ret {code : List Int} (hc : Bytes code) : Ret (S_spec_StmtDrawn ((code, ()), ())) fun r => goodS r.1 := by
  unfold S_spec_StmtDrawn
  refine Ret.bnd (source_ret hc) fun r0 h0 => ?_
  obtain ⟨u0, s0, _⟩ := r0
  dsimp only at h0 ⊢
  exact Ret.bnd (stmt_ret hc (by omega) h0 4 (by omega) (by omega)) fun r1 ⟨g1, _⟩ => Ret.some g1
theorem stmtsLaw (code more : List Int) (h1 : ∀ b ∈ code, 0 ≤ b ∧ b ≤ 255) (h2 : ∀ b ∈ more, 0 ≤ b ∧ b ≤ 255) : S_laws_FnStmts ((code, (more, ())), ()) = some (true, ()) := by
  apply Ret.eq
  unfold S_laws_FnStmts
  dsimp only
  rw [br_or, bnd_s]
  refine Ret.br (fun _ => Ret.some rfl) fun hl => ?_
  rw [Bool.or_eq_false_iff, lt_nf, lt_nf, lenL_nat, lenL_nat] at hl
  have hc : Bytes code := ⟨h1, by omega⟩
  have hm : Bytes more := ⟨h2, by omega⟩
  refine Ret.bnd (line_ret hc) fun r0 _ => ?_
  obtain ⟨t, _⟩ := r0
  rw [impl_ReadStmt_eq, bnd_s, spec_ReadStmt_eq, bnd_s]
  dsimp only
  rw [eq_t rfl, eq_t rfl, eq_t rfl, eq_t rfl, eq_t rfl, notB_t, br_f, bnd_s, show notB (andB true (andB true (andB true true))) = false from rfl, br_f]
  refine Ret.bnd (drawn_ret hm) fun r1 g => ?_
  obtain ⟨x, _⟩ := r1
  have g : goodS x := g
  obtain ⟨k, hk, hs⟩ := kind_nat g
  obtain ⟨e1, e2⟩ := texts_eq hk hs g.2
  have ei : S_impl_StmtText ((x, ()), ()) = some ((textOf x k, (0, ())), ()) := by
    unfold S_impl_StmtText
    rw [impl_StmtOK_eq, bnd_s]
    dsimp only
    rw [g.1, notB_t, br_f, e1]; rfl
  have es : S_spec_StmtText ((x, ()), ()) = some ((textOf x k, (0, ())), ()) := by
    unfold S_spec_StmtText
    rw [spec_StmtOK_eq, bnd_s]
    dsimp only
    rw [g.1, notB_t, br_f, e2]; rfl
  have hl := textOf_len hk g.2
  rw [ei, bnd_s, es, bnd_s]
  dsimp only
  refine Ret.need (fits2_t (by simp; omega)) (Ret.need (fits2_t (by simp [appL]; omega)) ?_)
  have r1 : readS (appL (appL [32] (textOf x k)) [32, 32]) = (x, 0) := by
    unfold readS
    rw [if_neg (by simp [appL]; omega)]
    have : wds (appL (appL [32] (textOf x k)) [32, 32]) = kw.getD k [] :: (numsOf x k).map Go.Lib.itoa := by
      show wds (32 :: (textOf x k ++ 32 :: [32])) = _
      rw [wds_blank]
      unfold textOf
      rw [wds_nums2 _ _ _ (kw_nb hk).1, wds_blank]
      simp [wds, pieces, full]
    rw [this, read_text hk hs g]
  have r2 : readS (appL (textOf x k) [32, 49]) = (zS, 3) := by
    unfold readS
    rw [if_neg (by simp [appL]; omega)]
    have : wds (appL (textOf x k) [32, 49]) = kw.getD k [] :: ((numsOf x k).map Go.Lib.itoa ++ [[49]]) := by
      show wds (textOf x k ++ 32 :: [49]) = _
      unfold textOf
      rw [wds_nums2 _ _ _ (kw_nb hk).1]
      rfl
    rw [this, read_more hk hs g]
  rw [impl_ReadStmt_eq, bnd_s, r1]
  dsimp only
  refine Ret.need (fits2_t (by simp; omega)) ?_
  rw [impl_ReadStmt_eq, bnd_s, r2]
  dsimp only
  rw [eq_t rfl, eq_t rfl, eq_t rfl, eq_t rfl, eq_t rfl, show eqS (textOf x k) (textOf x k) = true by unfold eqS; exact decide_eq_true rfl, br_t, bnd_s, br_t, bnd_s, br_t, bnd_s, show andB true (andB true (andB true true)) = true from rfl, br_t, bnd_s]
  exact Ret.some rfl
/-- The law: statements are read back from their texts. -/
theorem pure_Stmts (y : VTL.Ty [.list .u, .list .u]) (h : VTL.wf [.list .u, .list .u] y) : S_laws_FnStmts (y, ()) = some (true, ()) := by
  obtain ⟨code, more, _⟩ := y
  obtain ⟨h1, h2, _⟩ := h
  exact stmtsLaw code more (fun b hb => elWf_u (h1.2 b hb)) fun b hb => elWf_u (h2.2 b hb)
end Go.Den.G
