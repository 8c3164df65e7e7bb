/- Theory for the proofs of this claim: see its last text. -/
import Derived.Test.YthgjocpbmnpjjaaDoorFnBoxLines
import Derived.Test.YthgjocpbmnpjjaaDoorDenF
import Derived.KernelRfl
namespace Go.Den.G
open Go.Den

/-! ### digits -/
theorem dec_small {u : Nat} (h : u < 10) : Go.Lib.decDigits u = [UInt8.ofNat (48 + u)] := by rw [Go.Lib.decDigits, dif_pos h]
theorem dec_step {u : Nat} (h : ¬ u < 10) : Go.Lib.decDigits u = Go.Lib.decDigits (u / 10) ++ [UInt8.ofNat (48 + u % 10)] := by rw [Go.Lib.decDigits, dif_neg h]
theorem dec_len : ∀ (k u : Nat), u < 10 ^ (k + 1) → (Go.Lib.decDigits u).length ≤ k + 1
  | 0, u, h => by rw [dec_small (by omega)]; simp
  | k + 1, u, h => by
    by_cases hu : u < 10
    · rw [dec_small hu]; simp
    · rw [dec_step hu, List.length_append]
      have := dec_len k (u / 10) (by rw [Nat.pow_succ] at h; omega)
      simp; omega
theorem byte1 {n : Int} (h0 : 0 ≤ n) (h1 : n < 10) : toStr [wrapI .u8 (addI .i64 48 n)] = [UInt8.ofNat (48 + n.toNat)] := by
  have e : wrapI .u8 (addI .i64 48 n) = 48 + n := by
    rw [add_id (by unfold I64; omega)]
    unfold wrapI
    simp only [IntKind.wrap, IntKind.bits, IntKind.signed, Bool.false_and, Bool.false_eq_true, if_false]
    exact Int.emod_eq_of_lt (by omega) (by omega)
  rw [e]
  unfold toStr
  rw [List.map_singleton, show (48 + n).toNat = 48 + n.toNat by omega]
theorem digits_nat : ∀ (k : Nat) (u : Nat), k ≤ 100 → u < 10 ^ (k + 1) → u < 9223372036854775808 → RS_spec_l00Digits (k + 1) (((u : Int), ()), ()) = some (Go.Lib.decDigits u, ())
  | k, u, hk, hu, h64 => by
    rw [RS_spec_l00Digits]
    dsimp only
    rw [br_neg (eq_f (by omega)), br_neg (lt_f (by omega))]
    by_cases h : u < 10
    · rw [br_pos (lt_t (by omega)), byte1 (by omega) (by omega), dec_small h]; rfl
    · rw [br_neg (lt_f (by omega))]
      cases k with
      | zero => exact absurd hu (by simpa using h)
      | succ k =>
        have hq : quoI .i64 (u : Int) 10 = ((u / 10 : Nat) : Int) := by
          unfold quoI
          rw [show ((u : Int).tdiv 10) = ((u / 10 : Nat) : Int) by rw [Int.tdiv_eq_ediv_of_nonneg (by omega)]; simp]
          exact wrap64_id (by unfold I64; omega)
        have hr : remI (u : Int) 10 = ((u % 10 : Nat) : Int) := by unfold remI; rw [Int.tmod_eq_emod_of_nonneg (by omega)]; simp
        rw [hq, digits_nat k (u / 10) (by omega) (by rw [Nat.pow_succ] at hu; omega) (by omega), bnd_s, hr]
        dsimp only
        rw [byte1 (by omega) (by omega), dec_step h]
        have hl := dec_len k (u / 10) (by rw [Nat.pow_succ] at hu; omega)
        rw [br_pos (by unfold fits2 lim; simp; omega), show (((u % 10 : Nat) : Int)).toNat = u % 10 from rfl]
        rfl
theorem itoa_len {n : Int} (h : I64 n) : (Go.Lib.itoa n).length ≤ 20 := by
  unfold I64 at h
  unfold Go.Lib.itoa
  split
  · have := dec_len 18 n.natAbs (by omega)
    simp; omega
  · have := dec_len 18 n.toNat (by omega)
    omega
theorem l00Digits_eq {n : Int} (h : I64 n) : S_spec_l00Digits ((n, ()), ()) = some (Go.Lib.itoa n, ()) := by
  unfold S_spec_l00Digits
  unfold I64 at h
  by_cases hm : n = -9223372036854775808
  · subst hm
    rw [RS_spec_l00Digits]
    dsimp only
    rw [br_pos (eq_t rfl)]
    unfold Go.Lib.itoa
    rw [if_pos (by decide)]
    congr 2
    show _ = 45 :: Go.Lib.decDigits 9223372036854775808
    simp [Go.Lib.decDigits]
  · by_cases h0 : 0 ≤ n
    · obtain ⟨u, rfl⟩ := Int.eq_ofNat_of_zero_le h0
      rw [digits_nat 99 u (by decide) (Nat.lt_of_lt_of_le (show u < 10 ^ 20 by omega) (Nat.pow_le_pow_right (by decide) (by decide))) (by omega)]
      unfold Go.Lib.itoa
      rw [if_neg (by omega)]
      simp
    · rw [RS_spec_l00Digits]
      dsimp only
      rw [br_neg (eq_f hm), br_pos (lt_t (by omega)), sub_id (by unfold I64; omega)]
      obtain ⟨u, hu⟩ := Int.eq_ofNat_of_zero_le (show 0 ≤ 0 - n by omega)
      rw [hu, digits_nat 98 u (by decide) (Nat.lt_of_lt_of_le (show u < 10 ^ 20 by omega) (Nat.pow_le_pow_right (by decide) (by decide))) (by omega), bnd_s]
      dsimp only
      have hl := dec_len 19 u (by omega)
      rw [br_pos (by unfold fits2 lim; simp; omega)]
      unfold Go.Lib.itoa
      rw [if_pos (by omega), show n.natAbs = u by omega]
      simp [appL]
end Go.Den.G
namespace Go.Den.G
open Go.Den
set_option maxRecDepth 100000

/-! ### sizes and ranges -/
theorem isSize_dec (n : Int) : S_impl_isSize ((n, ()), ()) = some (decide (n = 1 ∨ n = 2 ∨ n = 4 ∨ n = 8), ()) := by
  unfold S_impl_isSize
  simp only [br_or, bnd_s, eqI, ← Bool.decide_or, or_assoc]
theorem l01Size_isSize : S_spec_l01Size = S_impl_isSize := rfl
theorem within_dec (n a b : Int) : S_impl_within ((n, (a, (b, ()))), ()) = some (decide (a ≤ n ∧ n ≤ b), ()) := by
  unfold S_impl_within
  simp only [br_and, bnd_s, leI, Bool.decide_and]
theorem l01In_within : S_spec_l01In = S_impl_within := rfl

/-! ### the names of the registers -/
def regL1 : List (List UInt8) := [[97, 108], [99, 108], [100, 108], [98, 108], [115, 112, 108], [98, 112, 108], [115, 105, 108], [100, 105, 108], [114, 56, 98], [114, 57, 98], [114, 49, 48, 98], [114, 49, 49, 98], [114, 49, 50, 98], [114, 49, 51, 98], [114, 49, 52, 98], [114, 49, 53, 98], [97, 104], [99, 104], [100, 104], [98, 104]]
def regL2 : List (List UInt8) := [[97, 120], [99, 120], [100, 120], [98, 120], [115, 112], [98, 112], [115, 105], [100, 105], [114, 56, 119], [114, 57, 119], [114, 49, 48, 119], [114, 49, 49, 119], [114, 49, 50, 119], [114, 49, 51, 119], [114, 49, 52, 119], [114, 49, 53, 119]]
def regL4 : List (List UInt8) := [[101, 97, 120], [101, 99, 120], [101, 100, 120], [101, 98, 120], [101, 115, 112], [101, 98, 112], [101, 115, 105], [101, 100, 105], [114, 56, 100], [114, 57, 100], [114, 49, 48, 100], [114, 49, 49, 100], [114, 49, 50, 100], [114, 49, 51, 100], [114, 49, 52, 100], [114, 49, 53, 100]]
def regL8 : List (List UInt8) := [[114, 97, 120], [114, 99, 120], [114, 100, 120], [114, 98, 120], [114, 115, 112], [114, 98, 112], [114, 115, 105], [114, 100, 105], [114, 56], [114, 57], [114, 49, 48], [114, 49, 49], [114, 49, 50], [114, 49, 51], [114, 49, 52], [114, 49, 53]]
theorem regNames1 : S_impl_regNames ((1, ()), ()) = some (regL1, ()) := by kernel_rfl
theorem l03Regs1 : S_spec_l03Regs ((1, ()), ()) = some (regL1, ()) := by kernel_rfl
theorem regNames2 : S_impl_regNames ((2, ()), ()) = some (regL2, ()) := by kernel_rfl
theorem l03Regs2 : S_spec_l03Regs ((2, ()), ()) = some (regL2, ()) := by kernel_rfl
theorem regNames4 : S_impl_regNames ((4, ()), ()) = some (regL4, ()) := by kernel_rfl
theorem l03Regs4 : S_spec_l03Regs ((4, ()), ()) = some (regL4, ()) := by kernel_rfl
theorem regNames8 : S_impl_regNames ((8, ()), ()) = some (regL8, ()) := by kernel_rfl
theorem l03Regs8 : S_spec_l03Regs ((8, ()), ()) = some (regL8, ()) := by kernel_rfl
def regL (s : Int) : List (List UInt8) := if s = 1 then regL1 else if s = 2 then regL2 else if s = 4 then regL4 else regL8
def sizeP (s : Int) : Prop := s = 1 ∨ s = 2 ∨ s = 4 ∨ s = 8
instance (s : Int) : Decidable (sizeP s) := by unfold sizeP; infer_instance
def regP (r s : Int) : Prop := 0 ≤ r ∧ r < (regL s).length
instance (r s : Int) : Decidable (regP r s) := by unfold regP; infer_instance
def nameOf (r s : Int) : List UInt8 := if regP r s then (regL s).getD r.toNat [] else []
theorem regNames_eq {s : Int} (h : sizeP s) : S_impl_regNames ((s, ()), ()) = some (regL s, ()) := by
  rcases h with rfl | rfl | rfl | rfl
  · exact regNames1
  · exact regNames2
  · exact regNames4
  · exact regNames8
theorem l03Regs_eq {s : Int} (h : sizeP s) : S_spec_l03Regs ((s, ()), ()) = some (regL s, ()) := by
  rcases h with rfl | rfl | rfl | rfl
  · exact l03Regs1
  · exact l03Regs2
  · exact l03Regs4
  · exact l03Regs8
theorem isReg_eq (r s : Int) : S_impl_isReg ((r, (s, ())), ()) = some (decide (sizeP s ∧ (0 ≤ r ∧ r ≤ 15 ∨ s = 1 ∧ 16 ≤ r ∧ r ≤ 19)), ()) := by
  unfold S_impl_isReg S_impl_isHigh
  simp only [isSize_dec, within_dec, bnd_s, br_or, br_and, eqI]
  congr 2
  rw [Bool.eq_iff_iff]
  unfold sizeP
  simp
theorem regP_iff {r s : Int} (h : sizeP s) : (0 ≤ r ∧ r ≤ 15 ∨ s = 1 ∧ 16 ≤ r ∧ r ≤ 19) ↔ regP r s := by
  unfold regP
  rcases h with rfl | rfl | rfl | rfl
  · rw [show (regL 1).length = 20 from rfl]; omega
  · rw [show (regL 2).length = 16 from rfl]; omega
  · rw [show (regL 4).length = 16 from rfl]; omega
  · rw [show (regL 8).length = 16 from rfl]; omega
theorem RegName_eq (r : Int) {s : Int} (h : sizeP s) : S_impl_RegName ((r, (s, ())), ()) = some (nameOf r s, ()) := by
  unfold S_impl_RegName nameOf
  rw [isReg_eq, bnd_s]
  dsimp only
  by_cases hr : regP r s
  · rw [if_pos hr, decide_eq_true ⟨h, (regP_iff h).2 hr⟩, notB_t, br_neg rfl, regNames_eq h, bnd_s]
    dsimp only
    rw [br_pos (by unfold regP at hr; simp [inR, lenL, hr.1, hr.2])]
    rfl
  · rw [if_neg hr, decide_eq_false (fun x => hr ((regP_iff h).1 x.2)), notB_f, br_pos rfl]
theorem sRegName_eq (r : Int) {s : Int} (h : sizeP s) : S_spec_RegName ((r, (s, ())), ()) = some (nameOf r s, ()) := by
  unfold S_spec_RegName nameOf
  rw [l01Size_isSize, isSize_dec, bnd_s]
  dsimp only
  rw [decide_eq_true (show s = 1 ∨ s = 2 ∨ s = 4 ∨ s = 8 from h), notB_t, br_neg rfl, l03Regs_eq h, bnd_s]
  dsimp only
  rw [br_or, bnd_s]
  by_cases hr : regP r s
  · rw [if_pos hr]
    unfold regP at hr
    have e : (ltI r 0 || leI (lenL (regL s)) r) = false := by unfold ltI leI lenL; simp; omega
    rw [e, br_neg rfl, br_pos (by simp [inR, lenL, hr.1, hr.2])]
    rfl
  · rw [if_neg hr]
    unfold regP at hr
    have e : (ltI r 0 || leI (lenL (regL s)) r) = true := by unfold ltI leI lenL; simp; omega
    rw [e, br_pos rfl]
theorem name_lens : (∀ i, i < 20 → 1 ≤ (regL1.getD i []).length ∧ (regL1.getD i []).length ≤ 4) ∧ (∀ i, i < 16 → 1 ≤ (regL2.getD i []).length ∧ (regL2.getD i []).length ≤ 4) ∧
    (∀ i, i < 16 → 1 ≤ (regL4.getD i []).length ∧ (regL4.getD i []).length ≤ 4) ∧ ∀ i, i < 16 → 1 ≤ (regL8.getD i []).length ∧ (regL8.getD i []).length ≤ 4 := by decide +kernel
theorem nameOf_len (r : Int) {s : Int} (h : sizeP s) : (nameOf r s).length ≤ 4 ∧ (regP r s → 1 ≤ (nameOf r s).length) := by
  unfold nameOf
  by_cases hr : regP r s
  · rw [if_pos hr]
    have hk := hr
    unfold regP at hr
    obtain ⟨n1, n2, n4, n8⟩ := name_lens
    rcases h with rfl | rfl | rfl | rfl
    · have := n1 r.toNat (by have : (regL 1).length = 20 := rfl; omega); exact ⟨this.2, fun _ => this.1⟩
    · have := n2 r.toNat (by have : (regL 2).length = 16 := rfl; omega); exact ⟨this.2, fun _ => this.1⟩
    · have := n4 r.toNat (by have : (regL 4).length = 16 := rfl; omega); exact ⟨this.2, fun _ => this.1⟩
    · have := n8 r.toNat (by have : (regL 8).length = 16 := rfl; omega); exact ⟨this.2, fun _ => this.1⟩
  · rw [if_neg hr]; exact ⟨by simp, fun h => absurd h hr⟩
end Go.Den.G
namespace Go.Den.G
open Go.Den

/-! ### which operands there are -/
theorem fits4_eq {d : Int} (h : I64 d) : S_impl_fits ((d, (4, ())), ()) = some (decide (-2147483648 ≤ d ∧ d ≤ 2147483647), ()) := by
  unfold I64 at h
  unfold S_impl_fits S_impl_sign
  have e : subI .i64 64 (mulI .i64 8 4) = 32 := by decide
  simp only [e]
  rw [br_pos (by decide), br_pos (by decide), bnd_s]
  congr 2
  unfold eqI ishr ishl
  rw [show min (32 : Int).toNat (IntKind.bits .i64) = 32 from by decide, IntKind.wrap_i64, Int.fdiv_eq_ediv_of_nonneg _ (by decide)]
  rw [Bool.eq_iff_iff]
  simp only [decide_eq_true_eq]
  omega
/-- What makes an operand in memory. -/
def memP (k r b i s d m : Int) : Prop := k = 2 ∧ r = 0 ∧ m = 0 ∧ -1 ≤ b ∧ b ≤ 16 ∧ -1 ≤ i ∧ i ≤ 15 ∧ i ≠ 4 ∧ (s = 1 ∨ i ≠ -1 ∧ (s = 2 ∨ s = 4 ∨ s = 8)) ∧ (b ≠ 16 ∨ i = -1) ∧ -2147483648 ≤ d ∧ d ≤ 2147483647
instance (k r b i s d m : Int) : Decidable (memP k r b i s d m) := by unfold memP; infer_instance
def opOK (k r b i s d m z : Int) : Prop := sizeP z ∧
  (k = 1 ∧ b = 0 ∧ i = 0 ∧ s = 0 ∧ d = 0 ∧ m = 0 ∧ regP r z ∨ memP k r b i s d m ∨ k = 3 ∧ r = 0 ∧ b = 0 ∧ i = 0 ∧ s = 0 ∧ d = 0 ∨ k = 0 ∧ r = 0 ∧ b = 0 ∧ i = 0 ∧ s = 0 ∧ d = 0 ∧ m = 0)
instance (k r b i s d m z : Int) : Decidable (opOK k r b i s d m z) := by unfold opOK; infer_instance
end Go.Den.G
namespace Go.Den.G
open Go.Den
set_option maxRecDepth 100000

/-! ### the text of an operand -/
theorem size8 : sizeP 8 := .inr (.inr (.inr rfl))
theorem smallF {α β : Type} {xs : List α} {ys : List β} (h1 : xs.length ≤ 1000) (h2 : ys.length ≤ 1000) : fits2 xs ys = true := fits2_t (by omega)
end Go.Den.G
namespace Go.Den.G
open Go.Den

/-! ### signs -/
/-- A number's lowest bits, as a number with a sign; `m`: the sign's place. -/
def sx (m : Nat) (v : Int) : Int := if (v % 2 ^ 64 / 2 ^ m) % 2 = 1 then v % 2 ^ (m + 1) - 2 ^ (m + 1) else v % 2 ^ (m + 1)

theorem wrapU_id {n : Int} (h0 : 0 ≤ n) (h1 : n < 2 ^ 64) : IntKind.wrap .u64 n = n := by
  simp only [IntKind.wrap, IntKind.bits, IntKind.signed, Bool.false_and, Bool.false_eq_true, if_false]
  exact Int.emod_eq_of_lt h0 h1
theorem wrapU_eq (n : Int) : IntKind.wrap .u64 n = n % 2 ^ 64 := by
  simp [IntKind.wrap, IntKind.bits, IntKind.signed]
theorem l01Bit_eq (v i : Int) (h0 : 0 ≤ i) (h1 : i ≤ 63) : S_spec_l01Bit ((v, (i, ())), ()) = some (v % 2 ^ 64 / 2 ^ i.toNat % 2, ()) := by
  unfold S_spec_l01Bit
  dsimp only
  have hw : wrapI IntKind.u64 i = i := wrapU_id h0 (by omega)
  rw [hw, br_pos (le_t h0)]
  have hi : min i.toNat 64 = i.toNat := by omega
  have e : remI (ishr IntKind.u64 (wrapI IntKind.u64 v) i) 2 = v % 2 ^ 64 / 2 ^ i.toNat % 2 := by
    unfold remI ishr wrapI
    rw [wrapU_eq]
    show Int.tmod (Int.fdiv (v % 2 ^ 64) (2 ^ (min i.toNat 64))) 2 = _
    rw [hi]
    have hp : (0 : Int) < 2 ^ i.toNat := Int.pow_pos (by decide)
    rw [Int.fdiv_eq_ediv_of_nonneg _ (Int.le_of_lt hp), Int.tmod_eq_emod_of_nonneg (Int.ediv_nonneg (Int.emod_nonneg _ (by decide)) (Int.le_of_lt hp))]
  rw [e]
  rcases Int.emod_two_eq (v % 2 ^ 64 / 2 ^ i.toNat) with h | h
  · rw [h, br_neg (eq_f (by decide))]
  · rw [h, br_pos (eq_t rfl)]
/-- The number with its sign spread over all bits. -/
def spread (m u : Nat) : Nat := 2 ^ (m + 1) * ((u / 2 ^ m % 2) * (2 ^ (63 - m) - 1)) + u % 2 ^ (m + 1)
theorem spread_bit (m u i : Nat) (hm : m ≤ 63) (hi : i ≤ 63) : spread m u / 2 ^ i % 2 = u / 2 ^ (min i m) % 2 := by
  have hb : ∀ a j : Nat, a / 2 ^ j % 2 = (a.testBit j).toNat := fun a j => by rw [Nat.testBit_eq_decide_div_mod_eq]; rcases Nat.mod_two_eq_zero_or_one (a / 2 ^ j) with h | h <;> simp [h]
  rw [hb, hb]
  congr 1
  unfold spread
  rw [Nat.testBit_two_pow_mul_add _ (Nat.mod_lt _ (Nat.two_pow_pos _))]
  split
  · rename_i h
    rw [Nat.testBit_mod_two_pow, show min i m = i by omega]
    simp [h]
  · rename_i h
    rw [show min i m = m by omega, hb]
    cases hs : u.testBit m with
    | false => simp
    | true =>
      simp only [Bool.toNat_true, Nat.one_mul]
      rw [Nat.testBit_two_pow_sub_one]
      simp; omega
theorem spread_lt (m u : Nat) (hm : m ≤ 63) : spread m u < 2 ^ 64 := by
  unfold spread
  have h1 : u % 2 ^ (m + 1) < 2 ^ (m + 1) := Nat.mod_lt _ (Nat.two_pow_pos _)
  have h2 : (u / 2 ^ m % 2) * (2 ^ (63 - m) - 1) ≤ 2 ^ (63 - m) - 1 := by
    have : u / 2 ^ m % 2 ≤ 1 := by omega
    calc _ ≤ 1 * (2 ^ (63 - m) - 1) := Nat.mul_le_mul_right _ this
      _ = _ := Nat.one_mul _
  have h3 : 2 ^ (m + 1) * 2 ^ (63 - m) = (2 : Nat) ^ 64 := by rw [← Nat.pow_add]; congr 1; omega
  have h4 : 2 ^ (m + 1) * ((u / 2 ^ m % 2) * (2 ^ (63 - m) - 1)) ≤ 2 ^ (m + 1) * (2 ^ (63 - m) - 1) := Nat.mul_le_mul_left _ h2
  have h6 : 2 ^ (m + 1) * (2 ^ (63 - m) - 1) = 2 ^ 64 - 2 ^ (m + 1) := by rw [Nat.mul_sub, Nat.mul_one, h3]
  rw [h6] at h4
  have h5 : (2 : Nat) ^ (m + 1) ≤ 2 ^ 64 := Nat.pow_le_pow_right (by decide) (by omega)
  omega
def uns (v : Int) : Nat := (v % 2 ^ 64).toNat
theorem uns_cast (v : Int) : ((uns v : Nat) : Int) = v % 2 ^ 64 := by unfold uns; have := Int.emod_nonneg v (show (2 : Int) ^ 64 ≠ 0 by decide); omega
theorem spread_sx (m : Nat) (v : Int) (hm : m ≤ 63) : IntKind.wrap .i64 (spread m (uns v) : Nat) = sx m v := by
  have hlt := spread_lt m (uns v) hm
  have hu := uns_cast v
  have hp : ((2 ^ m : Nat) : Int) = 2 ^ m := by simp
  have hp1 : ((2 ^ (m + 1) : Nat) : Int) = 2 ^ (m + 1) := by simp
  have hs : v % 2 ^ 64 / 2 ^ m % 2 = ((uns v / 2 ^ m % 2 : Nat) : Int) := by rw [← hu]; simp
  have hr : v % 2 ^ (m + 1) = ((uns v % 2 ^ (m + 1) : Nat) : Int) := by
    have h1 : v % 2 ^ (m + 1) = v % 2 ^ 64 % 2 ^ (m + 1) := by
      rw [Int.emod_emod_of_dvd]
      exact ⟨2 ^ (63 - m), by rw [← Int.pow_add]; congr 1; omega⟩
    rw [h1, ← hu]; simp
  have hmod : uns v % 2 ^ (m + 1) < 2 ^ (m + 1) := Nat.mod_lt _ (Nat.two_pow_pos _)
  have h64 : 2 ^ (m + 1) * 2 ^ (63 - m) = (2 : Nat) ^ 64 := by rw [← Nat.pow_add]; congr 1; omega
  unfold sx
  rw [hs, hr]
  have hle : (2 : Nat) ^ (m + 1) ≤ 2 ^ 64 := Nat.pow_le_pow_right (by decide) (by omega)
  have hdbl : (2 : Nat) ^ (m + 1) = 2 ^ m * 2 := Nat.pow_succ 2 m
  have hle2 : (2 : Nat) ^ m ≤ 2 ^ 63 := Nat.pow_le_pow_right (by decide) hm
  have hhi : uns v % 2 ^ (m + 1) / 2 ^ m = uns v / 2 ^ m % 2 := by rw [hdbl, Nat.mod_mul_right_div_self]
  rcases Nat.mod_two_eq_zero_or_one (uns v / 2 ^ m) with h | h
  · rw [h, if_neg (by decide)]
    have e : spread m (uns v) = uns v % 2 ^ (m + 1) := by unfold spread; rw [h]; simp
    rw [e]
    have : uns v % 2 ^ (m + 1) < 2 ^ m := by
      rw [h] at hhi
      exact (Nat.div_eq_zero_iff.1 hhi).resolve_left (by have := Nat.two_pow_pos m; omega)
    exact wrap64_id (by unfold I64; omega)
  · rw [h, if_pos (by rfl)]
    have e : spread m (uns v) + 2 ^ (m + 1) = 2 ^ 64 + uns v % 2 ^ (m + 1) := by
      unfold spread
      rw [h, Nat.one_mul, Nat.mul_sub, Nat.mul_one, h64]
      omega
    have h2 : 2 ^ m ≤ uns v % 2 ^ (m + 1) := by
      rw [h] at hhi
      have := Nat.div_mul_le_self (uns v % 2 ^ (m + 1)) (2 ^ m)
      rw [hhi] at this; omega
    have : ((spread m (uns v) : Nat) : Int) = ((uns v % 2 ^ (m + 1) : Nat) : Int) - 2 ^ (m + 1) + 2 ^ 64 := by rw [← hp1]; omega
    rw [this]
    have hw : ∀ n : Int, IntKind.wrap .i64 (n + 2 ^ 64) = IntKind.wrap .i64 n := fun n => by
      have h3 : (n + 2 ^ 64) % 2 ^ IntKind.i64.bits = n % 2 ^ IntKind.i64.bits := Int.add_emod_right ..
      simp only [IntKind.wrap, h3]
    rw [hw]
    rw [← hp1]
    exact wrap64_id (by unfold I64; omega)
/-- The reference's sign. -/
theorem l01Sign_eq (v n : Int) (h0 : 1 ≤ n) (h1 : n ≤ 8) : S_spec_l01Sign ((v, (n, ())), ()) = some (sx (8 * n - 1).toNat v, ()) := by
  unfold S_spec_l01Sign
  obtain ⟨k, hk⟩ : ∃ k : Nat, n = k := ⟨n.toNat, by omega⟩
  subst hk
  generalize hm : (8 * (k : Int) - 1).toNat = m
  have hm63 : m ≤ 63 := by omega
  refine (iter_eq (fun x => x.1.1 = v ∧ x.1.2.1 = (k : Int) ∧ -1 ≤ x.1.2.2.2.1 ∧ x.1.2.2.2.1 ≤ 63 ∧ x.1.2.2.1 = ((spread m (uns v) / 2 ^ (x.1.2.2.2.1 + 1).toNat : Nat) : Int)) (fun x => (x.1.2.2.2.1 + 1).toNat)
    (fun _ => some (sx m v, ())) ?_ F _ ⟨rfl, rfl, by show (-1 : Int) ≤ 63; decide, by show (63 : Int) ≤ 63; decide, ?_⟩ (by show ((63 : Int) + 1).toNat < F; decide)).trans rfl
  · rintro ⟨⟨v', k', acc, i, _⟩, _⟩ rec ⟨rfl, hk', h2, h3, hacc⟩ hrec
    dsimp only at hk' h2 h3 hacc hrec ⊢
    subst hk'
    by_cases hi : 0 ≤ i
    · obtain ⟨j, rfl⟩ := Int.eq_ofNat_of_zero_le hi
      rw [br_pos (le_t hi)]
      have e1 : subI .i64 (mulI .i64 8 (k : Int)) 1 = (m : Int) := by
        rw [mul_id (by unfold I64; omega), sub_id (by unfold I64; omega)]; omega
      rw [e1]
      have e2 : imin (j : Int) (m : Int) = ((min j m : Nat) : Int) := by unfold imin; split <;> omega
      rw [e2, l01Bit_eq _ _ (by omega) (by omega), bnd_s]
      dsimp only
      have e3 : v' % 2 ^ 64 / 2 ^ (((min j m : Nat) : Int)).toNat % 2 = ((spread m (uns v') / 2 ^ j % 2 : Nat) : Int) := by
        rw [spread_bit m _ j hm63 (by omega), ← uns_cast]; simp
      rw [e3]
      have hlt := spread_lt m (uns v') hm63
      have e4 : spread m (uns v') / 2 ^ (((j : Int) + 1).toNat) = spread m (uns v') / 2 ^ j / 2 := by
        rw [show ((j : Int) + 1).toNat = j + 1 by omega, Nat.pow_succ, Nat.div_div_eq_div_mul]
      rw [e4] at hacc
      generalize hq : spread m (uns v') / 2 ^ j = q at hacc ⊢
      have hq2 : q < 2 ^ 64 := by rw [← hq]; exact Nat.lt_of_le_of_lt (Nat.div_le_self _ _) hlt
      have e5 : addI .u64 (mulI .u64 2 acc) (wrapI .u64 ((q % 2 : Nat) : Int)) = (q : Int) := by
        unfold addI mulI wrapI
        rw [hacc, wrapU_id (n := 2 * ((q / 2 : Nat) : Int)) (by omega) (by omega), wrapU_id (n := ((q % 2 : Nat) : Int)) (by omega) (by omega), wrapU_id (by omega) (by omega)]
        omega
      rw [e5, sub_id (by unfold I64; omega)]
      refine hrec _ ⟨rfl, rfl, by dsimp only; omega, by dsimp only; omega, ?_⟩ (by dsimp only; omega)
      dsimp only
      rw [show ((j : Int) - 1 + 1).toNat = j by omega, hq]
    · rw [br_neg (le_f hi)]
      have : i = -1 := by omega
      subst this
      rw [hacc]
      have : spread m (uns v') / 2 ^ ((-1 : Int) + 1).toNat = spread m (uns v') := by simp
      rw [this]
      show some (IntKind.wrap .i64 _, ()) = _
      rw [spread_sx m v' hm63]
  · have hlt := spread_lt m (uns v) hm63
    show (0 : Int) = ((spread m (uns v) / 2 ^ ((63 : Int) + 1).toNat : Nat) : Int)
    rw [show ((63 : Int) + 1).toNat = 64 from rfl, Nat.div_eq_of_lt hlt]; rfl
/-- The program's sign. -/
theorem sign_eq (v n : Int) (h0 : 1 ≤ n) (h1 : n ≤ 8) : S_impl_sign ((v, (n, ())), ()) = some (sx (8 * n - 1).toNat v, ()) := by
  unfold S_impl_sign
  dsimp only
  have e : subI .i64 64 (mulI .i64 8 n) = 64 - 8 * n := by rw [mul_id (by unfold I64; omega), sub_id (by unfold I64; omega)]
  rw [e, br_pos (le_t (by omega)), br_pos (le_t (by omega))]
  congr 2
  obtain ⟨m, hm⟩ : ∃ m : Nat, 8 * n - 1 = m := ⟨(8 * n - 1).toNat, by omega⟩
  have hn : 64 - 8 * n = ((63 - m : Nat) : Int) := by omega
  rw [hm, hn]
  have hm63 : m ≤ 63 := by omega
  simp only [Int.toNat_natCast]
  unfold ishr ishl
  rw [show min (((63 - m : Nat) : Int)).toNat IntKind.i64.bits = 63 - m by simp [IntKind.bits]; omega]
  have hp : (0 : Int) < 2 ^ (63 - m) := Int.pow_pos (by decide)
  rw [Int.fdiv_eq_ediv_of_nonneg _ (Int.le_of_lt hp)]
  have h64 : (2 : Int) ^ (m + 1) * 2 ^ (63 - m) = 2 ^ 64 := by rw [← Int.pow_add]; congr 1; omega
  have h63 : (2 : Int) ^ m * 2 ^ (63 - m) = 2 ^ 63 := by rw [← Int.pow_add]; congr 1; omega
  have hr := Int.emod_nonneg v (show (2 : Int) ^ (m + 1) ≠ 0 from Int.ne_of_gt (Int.pow_pos (by decide)))
  have hr2 := Int.emod_lt_of_pos v (show (0 : Int) < 2 ^ (m + 1) from Int.pow_pos (by decide))
  -- the sign
  have hsv : v % 2 ^ 64 / 2 ^ m % 2 = v % 2 ^ (m + 1) / 2 ^ m := by
    have h1 : v % 2 ^ (m + 1) = v % 2 ^ 64 % 2 ^ (m + 1) := by
      rw [Int.emod_emod_of_dvd]
      exact ⟨2 ^ (63 - m), h64.symm⟩
    rw [h1, Int.pow_succ 2 m]
    have hu := uns_cast v
    rw [← hu]
    have : ((2 : Int) ^ m) = ((2 ^ m : Nat) : Int) := by simp
    rw [this]
    have h2 : ((2 ^ m : Nat) : Int) * 2 = ((2 ^ m * 2 : Nat) : Int) := by simp
    rw [h2]
    rw [← Int.natCast_ediv, ← Int.natCast_emod, ← Int.natCast_ediv, Nat.mod_mul_right_div_self]
    simp
  have hdm : v = v % 2 ^ (m + 1) + 2 ^ (m + 1) * (v / 2 ^ (m + 1)) := (Int.emod_add_mul_ediv ..).symm
  have hmul : v * 2 ^ (63 - m) % 2 ^ 64 = v % 2 ^ (m + 1) * 2 ^ (63 - m) := by
    rw [← h64, Int.mul_comm v, Int.mul_comm (2 ^ (m + 1)), Int.mul_emod_mul_of_pos _ _ hp, Int.mul_comm]
  unfold sx
  rw [hsv]
  generalize v % 2 ^ (m + 1) = r at *
  have hpm : (0 : Int) < 2 ^ m := Int.pow_pos (by decide)
  have hdbl : (2 : Int) ^ (m + 1) = 2 ^ m * 2 := Int.pow_succ 2 m
  simp only [IntKind.wrap, IntKind.bits, IntKind.signed, Bool.true_and, decide_eq_true_eq, ge_iff_le]
  rw [show ((64 : Nat) - 1) = 63 from rfl, hmul]
  by_cases hs : (2 : Int) ^ m ≤ r
  · have hq : r / 2 ^ m = 1 := by
      rw [Int.ediv_eq_iff_of_pos hpm]
      omega
    rw [hq, if_pos rfl]
    have hge : (2 : Int) ^ 63 ≤ r * 2 ^ (63 - m) := by rw [← h63]; exact Int.mul_le_mul_of_nonneg_right hs (Int.le_of_lt hp)
    rw [if_pos hge, ← h64, ← Int.sub_mul, Int.mul_ediv_cancel _ (Int.ne_of_gt hp)]
  · have hq : r / 2 ^ m = 0 := Int.ediv_eq_zero_of_lt hr (by omega)
    rw [hq]
    have hge : ¬ (2 : Int) ^ 63 ≤ r * 2 ^ (63 - m) := by
      rw [← h63, Int.not_le]
      exact Int.mul_lt_mul_of_pos_right (by omega) hp
    rw [if_neg hge, if_neg (by decide), Int.mul_ediv_cancel _ (Int.ne_of_gt hp)]
end Go.Den.G
namespace Go.Den.G
open Go.Den

def pg (m : List Page) (i : Int) : Page := getL m i (dflt .page)
def inB (a b c : Int) : Bool := decide (b ≤ a) && decide (a ≤ c)
theorem l01In_eq (a b c : Int) : S_spec_l01In ((a, (b, (c, ()))), ()) = some (inB a b c, ()) := by
  unfold S_spec_l01In inB
  dsimp only
  by_cases h : b ≤ a
  · rw [br_pos (le_t h), bnd_s]; simp [leI, h]
  · rw [br_neg (le_f h), bnd_s]; simp [h]
def isBase (b : Int) : Bool := inB b 0 65535 && eqI (remI b 256) 0
def isPerm (p : Int) : Bool := inB p 0 7
theorem l02Base_eq (b : Int) : S_spec_l02Base ((b, ()), ()) = some (isBase b, ()) := by
  unfold S_spec_l02Base isBase
  rw [l01In_eq, bnd_s]
  dsimp only
  cases inB b 0 65535 <;> simp [br_t, br_f, bnd_s]
theorem isBase_eq (b : Int) : S_impl_isBase ((b, ()), ()) = some (isBase b, ()) := l02Base_eq b
theorem l02Perm_eq (b : Int) : S_spec_l02Perm ((b, ()), ()) = some (isPerm b, ()) := by
  unfold S_spec_l02Perm isPerm
  rw [l01In_eq, bnd_s]
theorem isPerm_eq (b : Int) : S_impl_isPerm ((b, ()), ()) = some (isPerm b, ()) := l02Perm_eq b

/-- Is the page right, behind the one ahead of it? -/
def good (m : List Page) (i : Int) : Bool :=
  isBase (pg m i).base && (isPerm (pg m i).perm && (eqI ((pg m i).data.length : Int) 256 && (!decide (0 < i) || ltI (pg m (i - 1)).base (pg m i).base)))
def okFrom (m : List Page) (i : Nat) : Bool := (List.range' i (m.length - i)).all fun j => good m j
theorem okFrom_step {m : List Page} {i : Nat} (h : i < m.length) : okFrom m i = (good m i && okFrom m (i + 1)) := by
  unfold okFrom
  rw [show m.length - i = (m.length - (i + 1)) + 1 by omega, List.range'_succ]
  rfl
theorem okFrom_end {m : List Page} {i : Nat} (h : m.length ≤ i) : okFrom m i = true := by
  unfold okFrom
  rw [show m.length - i = 0 by omega]; rfl
def memOK (m : List Page) : Bool := decide ((m.length : Int) ≤ 32) && okFrom m 0
/-- One page more is looked at. -/
theorem good_cases (m : List Page) (i : Nat) : good m i = (isBase (pg m i).base && (isPerm (pg m i).perm && (eqI ((pg m i).data.length : Int) 256 && (!decide (0 < (i : Int)) || ltI (pg m ((i : Int) - 1)).base (pg m i).base)))) := rfl
theorem le_not_lt (a b : Int) : leI a b = !ltI b a := by unfold leI ltI; by_cases h : a ≤ b <;> simp [h] <;> omega

theorem spec_MemoryOK_eq (m : List Page) (hm : (m.length : Int) < 4611686018427387904) : S_spec_MemoryOK (((m, ()), ()), ()) = some (memOK m, ()) := by
  unfold S_spec_MemoryOK memOK
  simp only [lenL_nat]
  by_cases h32 : (32 : Int) < m.length
  · rw [br_pos (lt_t h32)]; simp [show ¬ (m.length : Int) ≤ 32 by omega]
  · rw [br_neg (lt_f h32)]
    refine (iter_eq (fun x => x.2.1.1 = m ∧ 0 ≤ x.1.1 ∧ x.1.1 ≤ (m.length : Int)) (fun x => m.length - x.1.1.toNat) (fun x => some (okFrom m x.1.1.toNat, ())) ?_ F _ ?_ ?_).trans ?_
    · rintro ⟨⟨i, _⟩, ⟨xs, _⟩, _⟩ rec ⟨rfl, h0, h1⟩ hrec
      dsimp only at h0 h1 hrec hm h32 ⊢
      by_cases hi : i < xs.length
      · obtain ⟨n, rfl⟩ := Int.eq_ofNat_of_zero_le h0
        have hn : n < xs.length := by omega
        rw [br_pos (lt_t hi), br_pos (inR_t h0 hi), l02Base_eq, bnd_s]
        dsimp only
        have hst : rec (((addI IntKind.i64 (n : Int) 1), ()), ((xs, ()), ())) = some (okFrom xs (n + 1), ()) := by
          rw [add_id (by unfold I64; omega)]
          rw [hrec _ ⟨rfl, by dsimp only; omega, by dsimp only; omega⟩ (by dsimp only; omega)]
          rfl
        rw [hst, Int.toNat_natCast, okFrom_step hn, good_cases]
        show _ = some ((isBase (getL xs (n : Int) (dflt .page)).base && _) && _, ())
        cases isBase (getL xs (n : Int) (dflt .page)).base
        · rfl
        · rw [notB_not, Bool.not_true, br_f, l02Perm_eq, bnd_s]
          dsimp only
          show _ = some ((true && (isPerm (getL xs (n : Int) (dflt .page)).perm && _)) && _, ())
          cases isPerm (getL xs (n : Int) (dflt .page)).perm
          · rfl
          · rw [notB_not, Bool.not_true, br_f, notB_not]
            show _ = some ((true && (true && (eqI ((getL xs (n : Int) (dflt .page)).data.length : Int) 256 && _))) && _, ())
            cases eqI ((getL xs (n : Int) (dflt .page)).data.length : Int) 256
            · rfl
            · rw [Bool.not_true, br_f]
              by_cases hp : 0 < (n : Int)
              · rw [br_pos (lt_t hp), sub_id (by unfold I64; omega), br_pos (inR_t (by omega) (by omega)), le_not_lt]
                show _ = some ((true && (true && (true && (!decide (0 < (n : Int)) || ltI (getL xs ((n : Int) - 1) (dflt .page)).base (getL xs (n : Int) (dflt .page)).base)))) && _, ())
                rw [show decide (0 < (n : Int)) = true from decide_eq_true hp]
                cases ltI (getL xs ((n : Int) - 1) (dflt .page)).base (getL xs (n : Int) (dflt .page)).base
                · simp [br_t]
                · simp [br_f]
              · rw [br_neg (lt_f hp), show decide (0 < (n : Int)) = false from decide_eq_false hp]; simp
      · rw [br_neg (lt_f hi), okFrom_end (by omega)]
    · exact ⟨rfl, by simp, by simp⟩
    · simp [F]; omega
    · simp [show (m.length : Int) ≤ 32 by omega]
theorem impl_MemoryOK_eq (m : List Page) (hm : (m.length : Int) < 4611686018427387904) (hF : m.length < F) : S_impl_MemoryOK (((m, ()), ()), ()) = some (memOK m, ()) := by
  unfold S_impl_MemoryOK memOK
  simp only [lenL_nat]
  refine (iter_eq (fun x => x.2.1.1 = m ∧ x.1.1 = m ∧ x.1.2.1 = (m.length : Int) ∧ 0 ≤ x.1.2.2.1 ∧ x.1.2.2.1 ≤ (m.length : Int)) (fun x => m.length - x.1.2.2.1.toNat) (fun x => some (decide ((m.length : Int) ≤ 32) && okFrom m x.1.2.2.1.toNat, ())) ?_ F _ ?_ ?_).trans ?_
  · rintro ⟨⟨ys, len, i, _⟩, ⟨xs, _⟩, _⟩ rec ⟨rfl, h2, h3, h0, h1⟩ hrec
    dsimp only at h0 h1 h2 h3 hrec hm hF ⊢
    subst h2
    subst h3
    by_cases hi : i < ys.length
    · obtain ⟨n, rfl⟩ := Int.eq_ofNat_of_zero_le h0
      have hn : n < ys.length := by omega
      rw [br_pos (lt_t hi), br_pos (inR_t h0 hi), isBase_eq, bnd_s]
      dsimp only
      have hst : rec ((ys, ((ys.length : Int), ((addI IntKind.i64 (n : Int) 1), ()))), ((ys, ()), ())) = some (decide ((ys.length : Int) ≤ 32) && okFrom ys (n + 1), ()) := by
        rw [add_id (by unfold I64; omega)]
        rw [hrec _ ⟨rfl, rfl, rfl, by dsimp only; omega, by dsimp only; omega⟩ (by dsimp only; omega)]
        rfl
      rw [hst, Int.toNat_natCast, okFrom_step hn, good_cases]
      show _ = some (_ && ((isBase (getL ys (n : Int) (dflt .page)).base && _) && _), ())
      cases isBase (getL ys (n : Int) (dflt .page)).base
      · simp [notB_not, br_t]
      · rw [notB_not, Bool.not_true, br_f, isPerm_eq, bnd_s]
        dsimp only
        show _ = some (_ && ((true && (isPerm (getL ys (n : Int) (dflt .page)).perm && _)) && _), ())
        cases isPerm (getL ys (n : Int) (dflt .page)).perm
        · simp [notB_not, br_t]
        · rw [notB_not, Bool.not_true, br_f, notB_not]
          show _ = some (_ && ((true && (true && (eqI ((getL ys (n : Int) (dflt .page)).data.length : Int) 256 && _))) && _), ())
          cases eqI ((getL ys (n : Int) (dflt .page)).data.length : Int) 256
          · simp [br_t]
          · rw [Bool.not_true, br_f]
            by_cases hp : 0 < (n : Int)
            · rw [br_pos (lt_t hp), sub_id (by unfold I64; omega), br_pos (inR_t (by omega) (by omega)), le_not_lt]
              show _ = some (_ && ((true && (true && (true && (!decide (0 < (n : Int)) || ltI (getL ys ((n : Int) - 1) (dflt .page)).base (getL ys (n : Int) (dflt .page)).base)))) && _), ())
              rw [show decide (0 < (n : Int)) = true from decide_eq_true hp]
              cases ltI (getL ys ((n : Int) - 1) (dflt .page)).base (getL ys (n : Int) (dflt .page)).base
              · simp [br_t]
              · simp [br_f]
            · rw [br_neg (lt_f hp), show decide (0 < (n : Int)) = false from decide_eq_false hp]; simp
    · rw [br_neg (lt_f hi), okFrom_end (by omega)]
      simp [leI]
  · exact ⟨rfl, rfl, rfl, by simp, by simp⟩
  · simpa using hF
  · simp
end Go.Den.G
namespace Go.Den.G
open Go.Den

/-! ### flags -/
theorem wrap_nat {n : Nat} (h : n < 9223372036854775808) : IntKind.i64.wrap (n : Int) = n := wrap64_id ⟨by omega, by omega⟩
theorem and_self_iff (X M : BitVec 64) : X &&& ~~~M = 0#64 ↔ X &&& M = X := by
  constructor
  · intro h
    apply BitVec.eq_of_getLsbD_eq
    intro i hi
    have := congrArg (fun z : BitVec 64 => z.getLsbD i) h
    simp only [BitVec.getLsbD_and, BitVec.getLsbD_not, hi, decide_true, Bool.true_and, BitVec.getLsbD_zero] at this
    rw [BitVec.getLsbD_and]
    cases h1 : X.getLsbD i <;> cases h2 : M.getLsbD i <;> simp_all
  · intro h
    apply BitVec.eq_of_getLsbD_eq
    intro i hi
    have := congrArg (fun z : BitVec 64 => z.getLsbD i) h
    simp only [BitVec.getLsbD_and] at this
    simp only [BitVec.getLsbD_and, BitVec.getLsbD_not, hi, decide_true, Bool.true_and, BitVec.getLsbD_zero]
    cases h1 : X.getLsbD i <;> cases h2 : M.getLsbD i <;> simp_all
def flagsB (x : Int) : Bool := eqI (iandn .i64 x 2245) 0
theorem iandn64 (x : Int) : iandn .i64 x 2245 = IntKind.i64.wrap ((BitVec.ofInt 64 x &&& ~~~2245#64).toNat : Int) := rfl
theorem iand64 (x : Int) : iand .i64 x 2245 = IntKind.i64.wrap ((BitVec.ofInt 64 x &&& 2245#64).toNat : Int) := rfl
theorem flags_eq {x : Int} (h : I64 x) : (decide (0 ≤ x) && eqI (iand .i64 x 2245) x) = flagsB x := by
  unfold I64 at h
  unfold flagsB eqI
  rw [iandn64, iand64]
  generalize hX : BitVec.ofInt 64 x = X
  have hXi : X.toInt = x := by rw [← hX, BitVec.toInt_ofInt]; rw [Int.bmod_def]; split <;> omega
  have hle : (X &&& 2245#64).toNat ≤ 2245 := by rw [BitVec.toNat_and]; exact Nat.and_le_right
  have hw1 : IntKind.i64.wrap ((X &&& 2245#64).toNat : Int) = (X &&& 2245#64).toNat := wrap_nat (by omega)
  have hz : IntKind.i64.wrap ((X &&& ~~~2245#64).toNat : Int) = 0 ↔ X &&& ~~~2245#64 = 0#64 := by
    have hlt : (X &&& ~~~2245#64).toNat < 2 ^ 64 := BitVec.isLt _
    rw [IntKind.wrap_i64]
    constructor
    · intro e
      apply BitVec.eq_of_toNat_eq
      rw [BitVec.toNat_zero]
      omega
    · intro e; rw [e, BitVec.toNat_zero]; decide
  rw [Bool.eq_iff_iff]
  simp only [Bool.and_eq_true, decide_eq_true_eq]
  rw [hw1, hz, and_self_iff]
  have hXn : (X.toNat : Int) = x ∨ (X.toNat : Int) = x + 18446744073709551616 := by
    rw [BitVec.toInt_eq_toNat_cond] at hXi
    split at hXi <;> omega
  constructor
  · rintro ⟨h0, e⟩
    apply BitVec.eq_of_toNat_eq
    have := X.isLt
    omega
  · intro e
    rw [e] at hle ⊢
    omega
theorem CpuOK_eq {c : List Int} {p f : Int} : S_impl_CpuOK (((c, (p, (f, ()))), ()), ()) = some (flagsB f, ()) := by
  unfold S_impl_CpuOK S_impl_areFlags
  rfl
theorem sCpuOK_eq {c : List Int} {p f : Int} (h : I64 f) : S_spec_CpuOK (((c, (p, (f, ()))), ()), ()) = some (flagsB f, ()) := by
  unfold S_spec_CpuOK S_spec_l06Flags
  dsimp only
  rw [br_and, bnd_s]
  have := flags_eq h
  unfold leI
  rw [this]
  rfl

/-! ### bytes in hex -/
def hexD : List UInt8 := [48, 49, 50, 51, 52, 53, 54, 55, 56, 57, 97, 98, 99, 100, 101, 102]
def hexI (s : List UInt8) : List Int := s.flatMap fun b => [byteAt hexD (b.toNat / 16 : Nat), byteAt hexD (b.toNat % 16 : Nat)]
theorem byte_bits : ∀ n : Nat, n < 256 → ishr .u8 (n : Int) 4 = ((n / 16 : Nat) : Int) ∧ iand .u8 (n : Int) 15 = ((n % 16 : Nat) : Int) ∧ quoI .u8 (n : Int) 16 = ((n / 16 : Nat) : Int) ∧ remI (n : Int) 16 = ((n % 16 : Nat) : Int) := by decide +kernel
theorem hexI_len (s : List UInt8) : (hexI s).length = 2 * s.length := by
  unfold hexI
  induction s with
  | nil => rfl
  | cons b r ih => rw [List.flatMap_cons, List.length_append, ih]; simp; omega
theorem byteAt_get {s : List UInt8} {i : Nat} (h : i < s.length) : byteAt s (i : Int) = (s[i].toNat : Int) := by simp [byteAt, h]
theorem hexI_take {s : List UInt8} {i : Nat} (h : i < s.length) : hexI (s.take (i + 1)) = hexI (s.take i) ++ [byteAt hexD (s[i].toNat / 16 : Nat), byteAt hexD (s[i].toNat % 16 : Nat)] := by
  unfold hexI
  rw [List.take_succ_eq_append_getElem h, List.flatMap_append]
  simp
theorem smallF2 {α β : Type} {xs : List α} {ys : List β} (h1 : xs.length ≤ 5000) (h2 : ys.length ≤ 5000) : fits2 xs ys = true := fits2_t (by omega)
theorem l01Hex_eq {s : List UInt8} (hs : s.length ≤ 1000) : S_spec_l01Hex ((s, ()), ()) = some (toStr (hexI s), ()) := by
  unfold S_spec_l01Hex
  dsimp only
  refine (Ret.iter (fun y => ∃ i : Nat, i ≤ s.length ∧ y = ((s, ((i : Int), ())), (hexI (s.take i), ()))) (fun y => (s.length : Int).toNat - y.1.2.1.toNat) ?_ F _ ⟨0, by omega, rfl⟩ (by unfold F; simp; omega)).eq
  rintro _ rec ⟨i, hi, rfl⟩ hrec
  dsimp only
  by_cases h : i < s.length
  · have hb := byteAt_get h
    have hlt := s[i].toNat_lt
    obtain ⟨g1, g2, g3, g4⟩ := byte_bits s[i].toNat hlt
    rw [br_pos (lt_t (by unfold lenL; omega)), br_pos (by simp [inR, lenL]; omega), br_pos (show notB (eqI 16 0) = true by decide), hb, g3, g4]
    rw [br_pos (by simp [inR]; omega), br_pos (by simp [inR, lenL]; omega), br_pos (show notB (eqI 16 0) = true by decide), br_pos (by simp [inR]; omega)]
    have hl := hexI_len (s.take i)
    rw [br_pos (smallF2 (by rw [hl, List.length_take]; omega) (by simp))]
    rw [addI_id (by omega) (by omega)]
    refine hrec _ ⟨i + 1, by omega, ?_⟩ (by simp; omega)
    rw [hexI_take h]
    simp [appL, hexD]
  · rw [br_neg (lt_f (by unfold lenL; omega)), List.take_of_length_le (by omega)]
    exact Ret.some rfl
theorem hexText_eq {s : List UInt8} (hs : s.length ≤ 1000) : S_impl_hexText ((s, ()), ()) = some (toStr (hexI s), ()) := by
  unfold S_impl_hexText
  dsimp only
  have hm : mulI .i64 2 (lenL s) = 2 * s.length := by unfold lenL; exact mulI_id (by omega) (by omega)
  rw [hm, br_pos (by simp [inC]; omega), br_pos (by unfold inLim; exact decide_eq_true (by unfold lim; omega))]
  refine (Ret.iter (fun y => ∃ i : Nat, i ≤ s.length ∧ y = ((s, ((lenL s), ((i : Int), ()))), (hexI (s.take i), ()))) (fun y => (s.length : Int).toNat - y.1.2.2.1.toNat) ?_ F _ ⟨0, by omega, rfl⟩ (by unfold F; simp; omega)).eq
  rintro _ rec ⟨i, hi, rfl⟩ hrec
  dsimp only
  by_cases h : i < s.length
  · have hb := byteAt_get h
    have hlt := s[i].toNat_lt
    obtain ⟨g1, g2, g3, g4⟩ := byte_bits s[i].toNat hlt
    rw [br_pos (lt_t (by unfold lenL; omega)), br_pos (by simp [inR, lenL]; omega), br_pos (show leI 0 4 = true by decide), hb, g1, g2]
    rw [br_pos (by simp [inR]; omega), br_pos (by simp [inR, lenL]; omega), br_pos (by simp [inR]; omega)]
    have hl := hexI_len (s.take i)
    rw [br_pos (smallF2 (by rw [hl, List.length_take]; omega) (by simp))]
    rw [addI_id (by omega) (by omega)]
    refine hrec _ ⟨i + 1, by omega, ?_⟩ (by simp; omega)
    rw [hexI_take h]
    simp [appL, hexD]
  · rw [br_neg (lt_f (by unfold lenL; omega)), List.take_of_length_le (by omega)]
    exact Ret.some rfl
end Go.Den.G
namespace Go.Den.G
open Go.Den
set_option maxRecDepth 100000

/-! ### which boxes there are -/
def endP (st cd ft wh : Int) : Prop := st = 1 ∧ cd = 0 ∧ ft = 0 ∧ wh = 0 ∨ st = 2 ∧ -2147483648 ≤ cd ∧ cd ≤ 2147483647 ∧ ft = 0 ∧ wh = 0 ∨ st = 3 ∧ cd = 0 ∧ 1 ≤ ft ∧ ft ≤ 35
instance (st cd ft wh : Int) : Decidable (endP st cd ft wh) := by unfold endP; infer_instance
def boxP (f : Int) (ms : List Page) (heap brk : Int) (inp : List UInt8) (pos : Int) (out : List UInt8) (clk seed st cd ft wh : Int) : Prop :=
  flagsB f = true ∧ memOK ms = true ∧ 512 ≤ heap ∧ heap ≤ 3584 ∧ heap ≤ brk ∧ brk ≤ 3584 ∧ (inp.length : Int) ≤ 1024 ∧ 0 ≤ pos ∧ pos ≤ (inp.length : Int) ∧ (out.length : Int) ≤ 512 ∧ 0 ≤ clk ∧ clk ≤ 1000000 ∧ 0 ≤ seed ∧ seed ≤ 2147483647 ∧ endP st cd ft wh
instance (f : Int) (ms : List Page) (heap brk : Int) (inp : List UInt8) (pos : Int) (out : List UInt8) (clk seed st cd ft wh : Int) : Decidable (boxP f ms heap brk inp pos out clk seed st cd ft wh) := by unfold boxP; infer_instance
theorem sx4 {v : Int} (h : I64 v) : eqI (sx (8 * 4 - 1 : Int).toNat v) v = decide (-2147483648 ≤ v ∧ v ≤ 2147483647) := by
  have h1 := fits4_eq h
  unfold S_impl_fits at h1
  rw [sign_eq v 4 (by decide) (by decide), bnd_s] at h1
  simpa using h1
theorem isEnd_eq {c : List Int} {p f : Int} {ms : List Page} {heap brk : Int} {inp : List UInt8} {pos : Int} {out : List UInt8} {clk seed st cd ft wh : Int} (h : I64 cd) :
    S_impl_Box_isEnd (((c, (p, (f, (ms, (heap, (brk, (inp, (pos, (out, (clk, (seed, (st, (cd, (ft, (wh, ()))))))))))))))), ()), ()) = some (decide (endP st cd ft wh), ()) := by
  unfold S_impl_Box_isEnd
  dsimp only [p11, p12, p13, p14]
  by_cases h1 : st = 1
  · rw [br_pos (eq_t h1)]
    simp only [br_and, bnd_s, eqI]
    congr 2
    rw [Bool.eq_iff_iff, decide_eq_true_eq]
    simp only [Bool.and_eq_true, decide_eq_true_eq]
    unfold endP
    omega
  · rw [br_neg (eq_f h1)]
    by_cases h2 : st = 2
    · rw [br_pos (eq_t h2), fits4_eq h]
      simp only [br_and, bnd_s, eqI]
      congr 2
      rw [Bool.eq_iff_iff, decide_eq_true_eq]
      simp only [Bool.and_eq_true, decide_eq_true_eq]
      unfold endP
      omega
    · rw [br_neg (eq_f h2)]
      by_cases h3 : st = 3
      · rw [br_pos (eq_t h3), within_dec]
        simp only [br_and, bnd_s, eqI]
        congr 2
        rw [Bool.eq_iff_iff, decide_eq_true_eq]
        simp only [Bool.and_eq_true, decide_eq_true_eq]
        unfold endP
        omega
      · rw [br_neg (eq_f h3)]
        congr 2
        symm
        refine decide_eq_false fun h => ?_
        unfold endP at h
        omega
theorem BoxOK_eq {c : List Int} {p f : Int} {ms : List Page} {heap brk : Int} {inp : List UInt8} {pos : Int} {out : List UInt8} {clk seed st cd ft wh : Int} (h : I64 cd) (hm : ms.length ≤ 1048576) :
    S_impl_BoxOK (((c, (p, (f, (ms, (heap, (brk, (inp, (pos, (out, (clk, (seed, (st, (cd, (ft, (wh, ()))))))))))))))), ()), ()) = some (decide (boxP f ms heap brk inp pos out clk seed st cd ft wh), ()) := by
  unfold S_impl_BoxOK S_impl_isHeap S_impl_isSeed
  dsimp only [p5, p6, p7, p8, p9, p10]
  simp only [CpuOK_eq, impl_MemoryOK_eq ms (by omega) (by unfold F; omega), within_dec, isEnd_eq h, br_and, bnd_s]
  congr 2
  rw [Bool.eq_iff_iff, decide_eq_true_eq]
  simp only [Bool.and_eq_true, decide_eq_true_eq, le_iff, and_assoc]
  unfold boxP
  exact Iff.rfl
theorem sBoxOK_eq {c : List Int} {p f : Int} {ms : List Page} {heap brk : Int} {inp : List UInt8} {pos : Int} {out : List UInt8} {clk seed st cd ft wh : Int} (h : I64 cd) (hf : I64 f) (hm : ms.length ≤ 1048576) :
    S_spec_BoxOK (((c, (p, (f, (ms, (heap, (brk, (inp, (pos, (out, (clk, (seed, (st, (cd, (ft, (wh, ()))))))))))))))), ()), ()) = some (decide (boxP f ms heap brk inp pos out clk seed st cd ft wh), ()) := by
  unfold S_spec_BoxOK
  dsimp only [p5, p6, p7, p8, p9, p10, p11, p12, p13, p14]
  rw [l01In_within]
  simp only [sCpuOK_eq hf, spec_MemoryOK_eq ms (by omega), within_dec, br_or, br_and, bnd_s, l01Sign_eq cd 4 (by decide) (by decide), sx4 h]
  by_cases hA : flagsB f = true ∧ memOK ms = true ∧ 512 ≤ heap ∧ heap ≤ 3584 ∧ heap ≤ brk ∧ brk ≤ 3584 ∧ (inp.length : Int) ≤ 1024 ∧ 0 ≤ pos ∧ pos ≤ (inp.length : Int) ∧ (out.length : Int) ≤ 512 ∧ 0 ≤ clk ∧ clk ≤ 1000000 ∧ 0 ≤ seed ∧ seed ≤ 2147483647 ∧ 1 ≤ st ∧ st ≤ 3
  · obtain ⟨a1, a2, a3, a4, a5, a6, a7, a8, a9, a10, a11, a12, a13, a14, a15, a16⟩ := hA
    have e : boxP f ms heap brk inp pos out clk seed st cd ft wh ↔ endP st cd ft wh := by unfold boxP; simp [*]
    have b1 : ltI 1024 (lenL inp) = false := lt_no (by unfold lenL; omega)
    have b2 : ltI 512 (lenL out) = false := lt_no (by unfold lenL; omega)
    rw [br_neg (by simp [notB, lenL, *]; exact ⟨b1, b2⟩)]
    have ee : decide (boxP f ms heap brk inp pos out clk seed st cd ft wh) = decide (endP st cd ft wh) := by rw [Bool.eq_iff_iff, decide_eq_true_eq, decide_eq_true_eq, e]
    rw [ee]
    clear ee e a1 a2 a3 a4 a5 a6 a7 a8 a9 a10 a11 a12 a13 a14 b1 b2
    by_cases h2 : st = 2
    · subst h2
      by_cases hc : -2147483648 ≤ cd ∧ cd ≤ 2147483647
      · rw [eq_t rfl, notB_t, br_neg rfl, decide_eq_true hc, notB_t, br_neg rfl, eq_f (by decide), notB_f, br_pos rfl]
        congr 2
        rw [Bool.eq_iff_iff, decide_eq_true_eq]
        simp only [Bool.and_eq_true, eq_iff]
        unfold endP
        omega
      · rw [eq_t rfl, notB_t, br_neg rfl, decide_eq_false hc, notB_f, br_pos rfl]
        congr 2
        symm
        exact decide_eq_false (by unfold endP; omega)
    · rw [eq_f h2, notB_f, br_pos rfl]
      by_cases hc : cd = 0
      · rw [eq_t hc, notB_t, br_neg rfl, decide_eq_true (by omega), notB_t, br_neg rfl]
        by_cases h3 : st = 3
        · rw [eq_t h3, notB_t, br_neg rfl]
          congr 2
          rw [Bool.eq_iff_iff, decide_eq_true_eq, decide_eq_true_eq]
          unfold endP
          omega
        · rw [eq_f h3, notB_f, br_pos rfl]
          congr 2
          rw [Bool.eq_iff_iff, decide_eq_true_eq]
          simp only [Bool.and_eq_true, eq_iff]
          unfold endP
          omega
      · rw [eq_f hc, notB_f, br_pos rfl]
        congr 2
        symm
        exact decide_eq_false (by unfold endP; omega)
  · rw [br_pos ?_]
    · congr 2
      symm
      refine decide_eq_false fun hb => hA ?_
      unfold boxP endP at hb
      obtain ⟨a1, a2, a3, a4, a5, a6, a7, a8, a9, a10, a11, a12, a13, a14, a15⟩ := hb
      exact ⟨a1, a2, a3, a4, a5, a6, a7, a8, a9, a10, a11, a12, a13, a14, by omega, by omega⟩
    · revert hA
      unfold lenL
      cases flagsB f <;> cases memOK ms <;> simp [notB, lt_iff] <;> omega
end Go.Den.G
namespace Go.Den.G
open Go.Den

/-- A word and numbers, a blank ahead of each. -/
def numsL (l : List Int) : List UInt8 := l.flatMap fun n => 32 :: Go.Lib.itoa n
theorem drop_cons {α : Type} {l : List α} {i : Nat} (h : i < l.length) : l.drop i = l[i] :: l.drop (i + 1) := List.drop_eq_getElem_cons h
theorem wordsLine_eq (name : List UInt8) (l : List Int) (hn : name.length ≤ 1000) (hl : l.length ≤ 16777216) (hw : ∀ n ∈ l, I64 n) :
    S_impl_wordsLine ((name, (l, ())), ()) = some (name ++ numsL l, ()) := by
  unfold S_impl_wordsLine
  refine (iter_eq (fun x => x.1.2.1 = l ∧ x.1.2.2.1 = (l.length : Int) ∧ 0 ≤ x.1.2.2.2.1 ∧ x.1.2.2.2.1 ≤ (l.length : Int) ∧ (x.1.1.length : Int) ≤ 1000 + 21 * x.1.2.2.2.1) (fun x => ((l.length : Int) - x.1.2.2.2.1).toNat)
    (fun x => some (x.1.1 ++ numsL (l.drop x.1.2.2.2.1.toNat), ())) ?_ F _ ⟨rfl, rfl, Int.le_refl 0, by show (0 : Int) ≤ _; omega, by show (name.length : Int) ≤ 1000 + 21 * 0; omega⟩ (by show ((l.length : Int) - 0).toNat < F; unfold F; omega)).trans ?_
  · rintro ⟨⟨acc, l', n, i, _⟩, _⟩ rec ⟨rfl, h3, h0, h1, h2⟩ hrec
    dsimp only at h0 h1 h2 h3 hrec hl hw ⊢
    obtain ⟨j, rfl⟩ := Int.eq_ofNat_of_zero_le h0
    subst h3
    simp only [lenL_nat]
    by_cases hi : j < l'.length
    · rw [br_pos (lt_t (by omega)), br_pos (inR_t h0 (by omega)), getL_nat hi]
      have hwj := hw l'[j] (List.getElem_mem hi)
      have hlen := itoa_len hwj
      have e : S_strconv_Itoa ((l'[j], ()), ()) = some (Go.Lib.itoa l'[j], ()) := by
        unfold S_strconv_Itoa pItoa i64B
        unfold I64 at hwj
        dsimp only
        rw [le_t hwj.1, le_t (by omega)]; rfl
      rw [e, bnd_s]
      dsimp only
      rw [br_pos (by unfold fits2 lim; simp; omega), br_pos (by unfold fits2 lim appL; simp; omega), add_id (by unfold I64; omega)]
      rw [hrec _ ⟨rfl, rfl, by dsimp only; omega, by dsimp only; omega, by dsimp only; simp only [appL, List.length_append, List.length_cons, List.length_nil]; omega⟩ (by dsimp only; omega)]
      dsimp only
      simp only [Int.toNat_natCast]
      rw [show ((j : Int) + 1).toNat = j + 1 by omega, drop_cons hi]
      simp only [appL, numsL, List.flatMap_cons, List.append_assoc, List.cons_append, List.nil_append]
    · rw [br_neg (lt_f (by omega))]
      simp only [Int.toNat_natCast]
      rw [List.drop_eq_nil_of_le (by omega)]
      simp [numsL]
  · simp
end Go.Den.G
namespace Go.Den.G
open Go.Den
set_option maxRecDepth 100000

/-! ### the lines of a box -/
def codeL : List (List UInt8) := match S_impl_codeWords ((), ()) with
  | some x => x.1
  | none => []
theorem codeWords_eq : S_impl_codeWords ((), ()) = some (codeL, ()) := rfl
theorem codeL_len : codeL.length = 36 ∧ ∀ i, i < 36 → (codeL.getD i []).length ≤ 20 := by decide +kernel
def codeT (n : Int) : List UInt8 := codeL.getD n.toNat []
theorem codeT_len {n : Int} (h0 : 0 ≤ n) (h1 : n ≤ 35) : (codeT n).length ≤ 20 := codeL_len.2 n.toNat (by omega)
theorem CodeWord_eq {n : Int} (h0 : 0 ≤ n) (h1 : n ≤ 35) : S_impl_CodeWord ((n, ()), ()) = some (codeT n, ()) := by
  unfold S_impl_CodeWord
  dsimp only
  rw [within_dec, bnd_s]
  dsimp only
  rw [decide_eq_true (by omega), notB_t, br_neg rfl, codeWords_eq, bnd_s]
  dsimp only
  rw [br_pos (by unfold inR lenL; rw [codeL_len.1]; simp; omega)]
  rfl
theorem sCodeWord_eq {n : Int} (h0 : 0 ≤ n) (h1 : n ≤ 35) : S_spec_CodeWord ((n, ()), ()) = some (codeT n, ()) := by
  unfold S_spec_CodeWord
  dsimp only
  rw [br_or, bnd_s, lt_f (by omega), le_f (by omega)]
  rw [br_neg (show (false || false) = false from rfl), br_pos (by unfold inR; simp; omega)]
  rfl
theorem nums1 (n : Int) : numsL [n] = 32 :: Go.Lib.itoa n := by simp [numsL]
theorem word1 (w : List UInt8) {n : Int} (hw : w.length ≤ 1000) (h : I64 n) : S_impl_wordsLine ((w, ([n], ())), ()) = some (w ++ 32 :: Go.Lib.itoa n, ()) := by
  rw [wordsLine_eq w [n] hw (by simp) (by simpa using h), nums1]
def stTxt (st cd ft wh : Int) : List UInt8 := if st = 2 then [101, 120, 105, 116] ++ 32 :: Go.Lib.itoa cd else if st = 3 then [102, 97, 117, 108, 116, 32] ++ codeT ft ++ [32, 97, 116] ++ 32 :: Go.Lib.itoa wh else [114, 117, 110]
section
variable {c : List Int} {p f : Int} {ms : List Page} {heap brk : Int} {inp : List UInt8} {pos : Int} {out : List UInt8} {clk seed st cd ft wh : Int}
theorem stTxt_len (hc : I64 cd) (hw : I64 wh) (he : endP st cd ft wh) : (stTxt st cd ft wh).length ≤ 60 := by
  have h1 := itoa_len hc
  have h2 := itoa_len hw
  unfold stTxt
  split
  · simp; omega
  · split
    · have := codeT_len (n := ft) (by unfold endP at he; omega) (by unfold endP at he; omega)
      simp; omega
    · simp
theorem stateText_eq (hc : I64 cd) (hw : I64 wh) (he : endP st cd ft wh) :
    S_impl_stateText (((c, (p, (f, (ms, (heap, (brk, (inp, (pos, (out, (clk, (seed, (st, (cd, (ft, (wh, ()))))))))))))))), ()), ()) = some (stTxt st cd ft wh, ()) := by
  unfold S_impl_stateText stTxt
  dsimp only [p11, p12, p13, p14]
  by_cases h2 : st = 2
  · rw [br_pos (eq_t h2), if_pos h2, word1 _ (by simp) hc]; rfl
  · rw [br_neg (eq_f h2), if_neg h2]
    by_cases h3 : st = 3
    · have h0 : 0 ≤ ft ∧ ft ≤ 35 := by unfold endP at he; omega
      have hl := codeT_len h0.1 h0.2
      rw [br_pos (eq_t h3), if_pos h3, CodeWord_eq h0.1 h0.2, bnd_s]
      dsimp only
      rw [br_pos (smallF (by simp) (by omega)), br_pos (smallF (by simp [appL]; omega) (by simp)), word1 _ (by simp [appL]; omega) hw]
      simp [appL, bnd_s]
    · rw [br_neg (eq_f h3), if_neg h3]
theorem l16State_eq (hc : I64 cd) (hw : I64 wh) (he : endP st cd ft wh) :
    S_spec_l16State (((c, (p, (f, (ms, (heap, (brk, (inp, (pos, (out, (clk, (seed, (st, (cd, (ft, (wh, ()))))))))))))))), ()), ()) = some (stTxt st cd ft wh, ()) := by
  have h1 := itoa_len hc
  have h4 := itoa_len hw
  unfold S_spec_l16State stTxt
  dsimp only [p11, p12, p13, d14]
  by_cases h2 : st = 2
  · rw [br_pos (eq_t h2), if_pos h2, l00Digits_eq hc, bnd_s]
    dsimp only
    rw [br_pos (smallF (by simp) (by omega))]
    simp [appL]
  · rw [br_neg (eq_f h2), if_neg h2]
    by_cases h3 : st = 3
    · have h0 : 0 ≤ ft ∧ ft ≤ 35 := by unfold endP at he; omega
      have hl := codeT_len h0.1 h0.2
      rw [br_pos (eq_t h3), if_pos h3, sCodeWord_eq h0.1 h0.2, bnd_s]
      dsimp only
      rw [br_pos (smallF (by simp) (by omega)), br_pos (smallF (by simp [appL]; omega) (by simp)), l00Digits_eq hw, bnd_s]
      dsimp only
      rw [br_pos (smallF (by simp [appL]; omega) (by omega))]
      simp [appL]
    · rw [br_neg (eq_f h3), if_neg h3]
def regLn (c : List Int) (i : Nat) : List (List UInt8) := if c.getD i 0 = 0 then [] else [nameOf (i : Int) 8 ++ 32 :: Go.Lib.itoa (c.getD i 0)]
def regLs (c : List Int) (k : Nat) : List (List UInt8) := (List.range k).flatMap (regLn c)
theorem regLs_succ (k : Nat) : regLs c (k + 1) = regLs c k ++ regLn c k := by unfold regLs; rw [List.range_succ, List.flatMap_append]; simp
theorem regLs_len : ∀ k, (regLs c k).length ≤ k
  | 0 => by simp [regLs]
  | k + 1 => by
    have := regLs_len k
    have h1 : (regLn c k).length ≤ 1 := by unfold regLn; split <;> simp
    rw [regLs_succ, List.length_append]; omega
def fstL (st cd ft wh p f : Int) : List UInt8 := stTxt st cd ft wh ++ ([32, 114, 105, 112] ++ 32 :: Go.Lib.itoa p) ++ ([32, 102, 108, 97, 103, 115] ++ 32 :: Go.Lib.itoa f)
def brkL (brk pos clk : Int) : List UInt8 := ([98, 114, 107] ++ 32 :: Go.Lib.itoa brk) ++ ([32, 114, 101, 97, 100] ++ 32 :: Go.Lib.itoa pos) ++ ([32, 99, 108, 111, 99, 107] ++ 32 :: Go.Lib.itoa clk)
def outL (out : List UInt8) : List UInt8 := [111, 117, 116, 112, 117, 116, 32] ++ toStr (hexI out)
def boxLs (c : List Int) (p f brk pos : Int) (out : List UInt8) (clk st cd ft wh : Int) : List (List UInt8) := (fstL st cd ft wh p f :: regLs c 16) ++ [brkL brk pos clk, outL out]
theorem hexT_len (s : List UInt8) : (toStr (hexI s)).length = 2 * s.length := by unfold toStr; rw [List.length_map, hexI_len]
theorem boxLines_eq (hr : ∀ i, I64 (c.getD i 0)) (hp : I64 p) (hf : I64 f) (hb : I64 brk) (hs : I64 pos) (hk : I64 clk) (hc : I64 cd) (hw : I64 wh) (he : endP st cd ft wh) (ho : (out.length : Int) ≤ 512) :
    S_impl_boxLines (((c, (p, (f, (ms, (heap, (brk, (inp, (pos, (out, (clk, (seed, (st, (cd, (ft, (wh, ()))))))))))))))), ()), ()) = some ((), (boxLs c p f brk pos out clk st cd ft wh, ())) := by
  have l1 := itoa_len hp
  have l2 := itoa_len hf
  have l3 := itoa_len hb
  have l4 := itoa_len hs
  have l5 := itoa_len hk
  have l6 := stTxt_len (ft := ft) hc hw he
  unfold S_impl_boxLines
  dsimp only
  rw [stateText_eq hc hw he, bnd_s]
  dsimp only
  rw [word1 _ (by simp) hp, bnd_s]
  dsimp only
  rw [br_pos (smallF (by omega) (by simp; omega)), word1 _ (by simp) hf, bnd_s]
  dsimp only
  rw [br_pos (smallF (by simp [appL]; omega) (by simp; omega))]
  refine (Ret.iter (fun y => ∃ i : Nat, i ≤ 16 ∧ y = (((c, ()), ((i : Int), ())), ((c, (p, (f, (ms, (heap, (brk, (inp, (pos, (out, (clk, (seed, (st, (cd, (ft, (wh, ()))))))))))))))), (fstL st cd ft wh p f :: regLs c i, ())))) (fun y => 16 - y.1.2.1.toNat) ?_ F _ ⟨0, by omega, rfl⟩ (by unfold F; simp)).eq
  rintro _ rec ⟨i, hi, rfl⟩ hrec
  dsimp only [p5, p7, p8, p9]
  have hn := regLs_len (c := c) i
  by_cases h : i < 16
  · rw [br_pos (lt_t (by omega)), br_pos (by simp [inR]; omega), getD_nat]
    refine Ret.bnd (Q := fun y => y = Sum.inl (((c, ()), ((i : Int), ())), ((c, (p, (f, (ms, (heap, (brk, (inp, (pos, (out, (clk, (seed, (st, (cd, (ft, (wh, ()))))))))))))))), (fstL st cd ft wh p f :: regLs c (i + 1), ())))) ?_ ?_
    · rw [regLs_succ]
      unfold regLn
      show Ret (br (notB (eqI (c.getD i 0) 0)) _ _) _
      by_cases hz : c.getD i 0 = 0
      · rw [if_pos hz, eq_t hz, notB_t, br_neg rfl, List.append_nil]
        exact Ret.some rfl
      · rw [if_neg hz, eq_f hz, notB_f, br_pos rfl, RegName_eq _ size8, bnd_s]
        dsimp only
        have := (nameOf_len (i : Int) size8).1
        rw [show (dflt Tag.i : El Tag.i) = (0 : Int) from rfl, word1 _ (by omega) (hr i), bnd_s]
        dsimp only
        rw [br_pos (smallF (by simp; omega) (by simp))]
        exact Ret.some rfl
    · rintro _ rfl
      rw [sumE_l]
      dsimp only
      rw [addI_id (by omega) (by omega)]
      exact hrec _ ⟨i + 1, by omega, rfl⟩ (by simp; omega)
  · obtain rfl : i = 16 := by omega
    rw [br_neg (lt_f (by omega)), word1 _ (by simp) hb, bnd_s]
    dsimp only
    rw [word1 _ (by simp) hs, bnd_s]
    dsimp only
    rw [br_pos (smallF (by simp; omega) (by simp; omega)), word1 _ (by simp) hk, bnd_s]
    dsimp only
    rw [br_pos (smallF (by simp [appL]; omega) (by simp; omega))]
    have hx : S_impl_HexOf ((out, ()), ()) = some (toStr (hexI out), ()) := by
      unfold S_impl_HexOf
      dsimp only
      rw [br_neg (lt_f (by unfold lenL; omega)), hexText_eq (by omega)]; rfl
    rw [hx, bnd_s]
    dsimp only
    rw [br_pos (smallF2 (by simp) (by rw [hexT_len]; omega)), br_pos (smallF (by simp; omega) (by simp))]
    exact Ret.some rfl
theorem l16Box_eq (hr : ∀ i, I64 (c.getD i 0)) (hp : I64 p) (hf : I64 f) (hb : I64 brk) (hs : I64 pos) (hk : I64 clk) (hc : I64 cd) (hw : I64 wh) (he : endP st cd ft wh) (ho : (out.length : Int) ≤ 512) :
    S_spec_l16Box (((c, (p, (f, (ms, (heap, (brk, (inp, (pos, (out, (clk, (seed, (st, (cd, (ft, (wh, ()))))))))))))))), ()), ()) = some (boxLs c p f brk pos out clk st cd ft wh, ()) := by
  have l1 := itoa_len hp
  have l2 := itoa_len hf
  have l3 := itoa_len hb
  have l4 := itoa_len hs
  have l5 := itoa_len hk
  have l6 := stTxt_len (ft := ft) hc hw he
  unfold S_spec_l16Box
  dsimp only
  rw [l16State_eq hc hw he, bnd_s]
  dsimp only
  rw [br_pos (smallF (by omega) (by simp)), l00Digits_eq hp, bnd_s]
  dsimp only
  rw [br_pos (smallF (by simp [appL]; omega) (by omega)), br_pos (smallF (by simp [appL]; omega) (by simp)), l00Digits_eq hf, bnd_s]
  dsimp only
  rw [br_pos (smallF (by simp [appL]; omega) (by omega))]
  refine (Ret.iter (fun y => ∃ i : Nat, i ≤ 16 ∧ y = (((i : Int), ()), ((c, (p, (f, (ms, (heap, (brk, (inp, (pos, (out, (clk, (seed, (st, (cd, (ft, (wh, ()))))))))))))))), (fstL st cd ft wh p f :: regLs c i, ())))) (fun y => 16 - y.1.1.toNat) ?_ F _ ⟨0, by omega, by simp [fstL, appL, regLs]⟩ (by unfold F; simp)).eq
  rintro _ rec ⟨i, hi, rfl⟩ hrec
  dsimp only [p5, p7, p8, p9]
  have hn := regLs_len (c := c) i
  by_cases h : i < 16
  · rw [br_pos (lt_t (by omega)), br_pos (by simp [inR]; omega), getD_nat]
    refine Ret.bnd (Q := fun y => y = Sum.inl (((i : Int), ()), ((c, (p, (f, (ms, (heap, (brk, (inp, (pos, (out, (clk, (seed, (st, (cd, (ft, (wh, ()))))))))))))))), (fstL st cd ft wh p f :: regLs c (i + 1), ())))) ?_ ?_
    · rw [regLs_succ]
      unfold regLn
      show Ret (br (notB (eqI (c.getD i 0) 0)) _ _) _
      by_cases hz : c.getD i 0 = 0
      · rw [if_pos hz, eq_t hz, notB_t, br_neg rfl, List.append_nil]
        exact Ret.some rfl
      · have hv := itoa_len (hr i)
        rw [if_neg hz, eq_f hz, notB_f, br_pos rfl, br_pos (by simp [inR]; omega), sRegName_eq _ size8, bnd_s]
        dsimp only
        have := (nameOf_len (i : Int) size8).1
        rw [br_pos (smallF (by omega) (by simp)), show (dflt Tag.i : El Tag.i) = (0 : Int) from rfl, l00Digits_eq (hr i), bnd_s]
        dsimp only
        rw [br_pos (smallF (by simp [appL]; omega) (by omega)), br_pos (smallF (by simp; omega) (by simp))]
        exact Ret.some (by simp [appL])
    · rintro _ rfl
      rw [sumE_l]
      dsimp only
      rw [addI_id (by omega) (by omega)]
      exact hrec _ ⟨i + 1, by omega, rfl⟩ (by simp; omega)
  · obtain rfl : i = 16 := by omega
    rw [br_neg (lt_f (by omega)), l00Digits_eq hb, bnd_s]
    dsimp only
    rw [br_pos (smallF (by simp) (by omega)), br_pos (smallF (by simp [appL]; omega) (by simp)), l00Digits_eq hs, bnd_s]
    dsimp only
    rw [br_pos (smallF (by simp [appL]; omega) (by omega)), br_pos (smallF (by simp [appL]; omega) (by simp)), l00Digits_eq hk, bnd_s]
    dsimp only
    rw [br_pos (smallF (by simp [appL]; omega) (by omega)), l01Hex_eq (by omega), bnd_s]
    dsimp only
    rw [br_pos (smallF2 (by simp) (by rw [hexT_len]; omega)), br_pos (smallF (by simp; omega) (by simp))]
    exact Ret.some (by simp [boxLs, brkL, outL, appL])
end
end Go.Den.G
namespace Go.Den.G
open Go.Den

/-! ### what a law marks, and finds again -/
theorem drop_cons2 {α : Type} {l : List α} {i : Nat} (h : i < l.length) : l.drop i = l[i] :: l.drop (i + 1) := List.drop_eq_getElem_cons h
theorem eqStringS_refl (l : List (List UInt8)) (hl : l.length ≤ 1073741824) : S_laws_eqStringS ((l, (l, ())), ()) = some (true, ()) := by
  unfold S_laws_eqStringS
  dsimp only
  rw [br_neg (by simp [eqI, notB])]
  refine iter_eq (fun x => x.1.1 = l ∧ x.1.2.1 = l ∧ 0 ≤ x.1.2.2.1 ∧ x.1.2.2.1 ≤ (l.length : Int)) (fun x => ((l.length : Int) - x.1.2.2.1).toNat) (fun _ => some (true, ())) ?_ F _ ⟨rfl, rfl, Int.le_refl 0, by show (0 : Int) ≤ _; omega⟩ (by show ((l.length : Int) - 0).toNat < F; unfold F; omega)
  rintro ⟨⟨a, b, i, _⟩, _⟩ rec ⟨ha, hb, h0, h1⟩ hrec
  dsimp only at ha hb h0 h1 hrec hl ⊢
  rw [ha, hb]
  obtain ⟨j, rfl⟩ := Int.eq_ofNat_of_zero_le h0
  simp only [lenL_nat]
  by_cases hi : j < l.length
  · rw [br_pos (lt_t (by omega)), br_pos (inR_t h0 (by omega)), br_pos (inR_t h0 (by omega)), br_neg (by simp [eqS, notB]), add_id (by unfold I64; omega)]
    exact hrec _ ⟨rfl, rfl, by dsimp only; omega, by dsimp only; omega⟩ (by dsimp only; omega)
  · rw [br_neg (lt_f (by omega))]
theorem markText_ok (n : Int) (h0 : 1 ≤ n) (h1 : n ≤ 274877906944) : ∃ t, S_laws_markText ((n, ()), ()) = some (t, ()) := by
  unfold S_laws_markText
  dsimp only
  rw [br_neg (le_f (by omega))]
  refine iter_ind (fun x => 0 ≤ x.1.1 ∧ (x.1.2.1.length : Int) + x.1.1 ≤ n) (fun x => x.1.1.toNat) (fun _ r => ∃ t, r = some (t, ())) ?_ F _ ⟨by show (0 : Int) ≤ n; omega, by show ((0 : Nat) : Int) + n ≤ n; omega⟩ (by show n.toNat < F; unfold F; omega)
  rintro ⟨⟨x, s, _⟩, _⟩ rec ⟨h2, h3⟩ hrec
  dsimp only at h2 h3 hrec ⊢
  by_cases hx : 0 < x
  · have hq : quoI .i64 x 10 = x / 10 := by
      unfold quoI
      rw [Int.tdiv_eq_ediv_of_nonneg h2]
      exact wrap64_id (by unfold I64; omega)
    rw [br_pos (lt_t hx), br_pos (by unfold fits2 lim toStr; simp; omega), hq]
    exact hrec _ ⟨by dsimp only; omega, by dsimp only; unfold appL toStr; simp; omega⟩ (by dsimp only; omega)
  · rw [br_neg (lt_f hx), br_pos (by unfold fits2 lim; simp; omega)]
    exact ⟨_, rfl⟩
noncomputable def mt (n : Int) : List UInt8 := match S_laws_markText ((n, ()), ()) with
  | some x => x.1
  | none => []
theorem markText_eq (n : Int) (h0 : 1 ≤ n) (h1 : n ≤ 274877906944) : S_laws_markText ((n, ()), ()) = some (mt n, ()) := by
  obtain ⟨t, h⟩ := markText_ok n h0 h1
  unfold mt; rw [h]
noncomputable def mts (m : Int) (n : Nat) : List (List UInt8) := (List.range n).map fun i => mt (m + (i : Nat))
theorem mts_len (m : Int) (n : Nat) : (mts m n).length = n := by simp [mts]
theorem markStringS_eq (m : Int) (l : List (List UInt8)) (h0 : 1 ≤ m) (h1 : m ≤ 137438953472) (hl : l.length ≤ 1073741824) :
    S_laws_markStringS ((m, ()), (l, ())) = some (m + l.length, (mts m l.length, ())) := by
  unfold S_laws_markStringS
  refine iter_eq (fun x => 0 ≤ x.1.2.1 ∧ x.1.2.1 ≤ (l.length : Int) ∧ x.1.1 = m + x.1.2.1 ∧ x.2.1 = mts m x.1.2.1.toNat ++ l.drop x.1.2.1.toNat) (fun x => ((l.length : Int) - x.1.2.1).toNat)
    (fun _ => some (m + l.length, (mts m l.length, ()))) ?_ F _ ⟨Int.le_refl 0, by show (0 : Int) ≤ _; omega, by show m = m + 0; omega, by show l = mts m 0 ++ l.drop 0; simp [mts]⟩ (by show ((l.length : Int) - 0).toNat < F; unfold F; omega)
  rintro ⟨⟨q, i, _⟩, a, _⟩ rec ⟨h2, h3, h4, h5⟩ hrec
  dsimp only at h2 h3 h4 h5 hrec ⊢
  obtain ⟨j, rfl⟩ := Int.eq_ofNat_of_zero_le h2
  simp only [Int.toNat_natCast] at h5
  have hlen : a.length = l.length := by rw [h5, List.length_append, mts_len, List.length_drop]; omega
  simp only [lenL_nat, hlen]
  by_cases hi : j < l.length
  · rw [br_pos (lt_t (by omega)), markText_eq q (by omega) (by omega), bnd_s, br_pos (inR_t h2 (by omega)), add_id (by unfold I64; omega), add_id (by unfold I64; omega)]
    refine hrec _ ⟨by dsimp only; omega, by dsimp only; omega, by dsimp only; omega, ?_⟩ (by dsimp only; omega)
    dsimp only
    rw [show ((j : Int) + 1).toNat = j + 1 by omega, h5, drop_cons2 hi]
    unfold setL
    rw [Int.toNat_natCast, List.set_append, if_neg (by rw [mts_len]; omega), mts_len, Nat.sub_self, List.set_cons_zero]
    unfold mts
    rw [List.range_succ, List.map_append, h4]
    simp
  · rw [br_neg (lt_f (by omega))]
    have : j = l.length := by omega
    subst this
    rw [h4, h5]; simp
theorem heldStringS_eq (m : Int) (n : Nat) (h0 : 1 ≤ m) (h1 : m ≤ 137438953472) (hl : n ≤ 1073741824) : S_laws_heldStringS ((mts m n, (m, ())), ()) = some (m + n, ()) := by
  unfold S_laws_heldStringS
  refine iter_eq (fun x => x.1.1 = mts m n ∧ 0 ≤ x.1.2.2.1 ∧ x.1.2.2.1 ≤ (n : Int) ∧ x.1.2.1 = m + x.1.2.2.1) (fun x => ((n : Int) - x.1.2.2.1).toNat)
    (fun _ => some (m + n, ())) ?_ F _ ⟨rfl, Int.le_refl 0, by show (0 : Int) ≤ _; omega, by show m = m + 0; omega⟩ (by show ((n : Int) - 0).toNat < F; unfold F; omega)
  rintro ⟨⟨a, q, i, _⟩, _⟩ rec ⟨h5, h2, h3, h4⟩ hrec
  dsimp only at h2 h3 h4 h5 hrec ⊢
  obtain ⟨j, rfl⟩ := Int.eq_ofNat_of_zero_le h2
  subst h5
  simp only [lenL_nat, mts_len]
  by_cases hi : j < n
  · rw [br_pos (lt_t (by omega)), br_pos (inR_t h2 (by omega)), markText_eq q (by omega) (by omega), bnd_s]
    dsimp only
    have e : getL (mts m n) (j : Int) (dflt .s) = mt q := by
      rw [getL_nat (by rw [mts_len]; exact hi)]
      simp [mts, h4]
    rw [e, br_neg (by simp [eqS, notB]), add_id (by unfold I64; omega), add_id (by unfold I64; omega)]
    exact hrec _ ⟨rfl, by dsimp only; omega, by dsimp only; omega, by dsimp only; omega⟩ (by dsimp only; omega)
  · rw [br_neg (lt_f (by omega)), h4, show (j : Int) = n by omega]
end Go.Den.G
namespace Go.Den.G
open Go.Den
set_option maxRecDepth 100000
theorem szPage_eq (x : Page) (left : Int) (h0 : 0 ≤ left) (h1 : left ≤ 1048576) (hd : x.data.length ≤ maxLen) : S_laws_szPage ((x, (left, ())), ()) = some (if left - x.data.length < 0 then -1 else left - x.data.length, ()) := by
  unfold S_laws_szPage
  simp only [lenL_nat]
  rw [sub_id (by unfold I64 maxLen at *; omega)]
  by_cases h : left - (x.data.length : Int) < 0
  · rw [br_pos (lt_t h), if_pos h]
  · rw [br_neg (lt_f h), if_neg h]
theorem szPageS_ex (xs : List Page) (hx : xs.length ≤ maxLen) (hd : ∀ x ∈ xs, x.data.length ≤ maxLen) : ∃ r : Int, S_laws_szPageS ((xs, (1048576, ())), ()) = some (r, ()) ∧ (0 ≤ r → xs.length ≤ 1048576) := by
  unfold S_laws_szPageS
  simp only [lenL_nat]
  rw [sub_id (by unfold I64 maxLen at *; omega)]
  by_cases h : 1048576 - (xs.length : Int) < 0
  · rw [br_pos (lt_t h)]
    exact ⟨-1, rfl, fun h => absurd h (by decide)⟩
  · rw [br_neg (lt_f h)]
    refine iter_ind (fun x => x.1.1 = xs ∧ 0 ≤ x.1.2.1 ∧ x.1.2.1 ≤ 1048576 ∧ 0 ≤ x.1.2.2.1 ∧ x.1.2.2.1 ≤ (xs.length : Int)) (fun x => xs.length - x.1.2.2.1.toNat) (fun _ o => ∃ r : Int, o = some (r, ()) ∧ (0 ≤ r → xs.length ≤ 1048576)) ?_ F _ ?_ ?_
    · rintro ⟨⟨ys, left, i, _⟩, _⟩ rec ⟨h2, h3, h4, h0, h1⟩ hrec
      dsimp only at h0 h1 h2 h3 h4 hrec ⊢
      subst h2
      by_cases hi : i < ys.length
      · obtain ⟨n, rfl⟩ := Int.eq_ofNat_of_zero_le h0
        have hn : n < ys.length := by omega
        rw [br_pos (lt_t hi), br_pos (inR_t h0 hi), getL_nat hn, szPage_eq _ _ h3 h4 (hd _ (List.getElem_mem hn)), bnd_s]
        dsimp only
        by_cases hl : left - (ys[n].data.length : Int) < 0
        · rw [if_pos hl]
          exact ⟨-1, rfl, fun h => absurd h (by decide)⟩
        · rw [if_neg hl, br_neg (lt_f hl), add_id (by unfold I64; omega)]
          exact hrec _ ⟨rfl, by dsimp only; omega, by dsimp only; omega, by dsimp only; omega, by dsimp only; omega⟩ (by dsimp only; omega)
      · rw [br_neg (lt_f hi)]
        exact ⟨left, rfl, fun _ => by omega⟩
    · exact ⟨rfl, by dsimp only; omega, by dsimp only; omega, by simp, by simp⟩
    · simp [F]; omega
theorem szMemory_ex (xs : List Page) (hx : xs.length ≤ maxLen) (hd : ∀ x ∈ xs, x.data.length ≤ maxLen) : ∃ r : Int, S_laws_szMemory (((xs, ()), (1048576, ())), ()) = some (r, ()) ∧ (0 ≤ r → xs.length ≤ 1048576) := by
  obtain ⟨r, h1, h2⟩ := szPageS_ex xs hx hd
  unfold S_laws_szMemory
  dsimp only
  rw [h1, bnd_s]
  by_cases h : r < 0
  · rw [br_pos (lt_t h)]; exact ⟨-1, rfl, fun h => absurd h (by decide)⟩
  · rw [br_neg (lt_f h)]; exact ⟨r, rfl, h2⟩
theorem toPageS_eq (xs : List Page) (hx : xs.length ≤ 1048576) : S_laws_toPageS ((xs, ()), ()) = some ((), (xs, ())) := by
  unfold S_laws_toPageS S_laws_toPage
  simp only [lenL_nat]
  rw [br_pos (inC_t (by omega) (Int.le_refl _)), br_pos (inLim_t (by omega))]
  refine iter_eq (fun x => x.1.1 = xs ∧ 0 ≤ x.1.2.1 ∧ x.1.2.1 ≤ (xs.length : Int) ∧ x.2.1 = xs.take x.1.2.1.toNat ++ List.replicate (xs.length - x.1.2.1.toNat) (dflt .page)) (fun x => xs.length - x.1.2.1.toNat) (fun _ => some ((), (xs, ()))) ?_ F _ ?_ ?_
  · rintro ⟨⟨ys, i, _⟩, out, _⟩ rec ⟨h2, h0, h1, h3⟩ hrec
    dsimp only at h0 h1 h2 h3 hrec ⊢
    subst h2
    by_cases hi : i < ys.length
    · obtain ⟨n, rfl⟩ := Int.eq_ofNat_of_zero_le h0
      have hn : n < ys.length := by omega
      rw [Int.toNat_natCast] at h3
      have hol : out.length = ys.length := by rw [h3]; simp; omega
      rw [br_pos (lt_t hi), br_pos (inR_t h0 hi), bnd_s, br_pos (inR_t h0 (by rw [hol]; exact hi)), add_id (by unfold I64; omega)]
      refine hrec _ ⟨rfl, by dsimp only; omega, by dsimp only; omega, ?_⟩ (by dsimp only; omega)
      dsimp only
      rw [getL_nat hn, show ((n : Int) + 1).toNat = n + 1 by omega, h3]
      unfold setL
      rw [Int.toNat_natCast, List.set_append_right _ _ (by simp; omega), List.length_take, Nat.min_eq_left (by omega), Nat.sub_self, show ys.length - n = (ys.length - (n + 1)) + 1 by omega, List.replicate_succ, ← List.take_append_getElem hn, List.append_assoc]
      rfl
    · have : i = ys.length := by omega
      subst this
      rw [br_neg (lt_f hi), h3, Int.toNat_natCast]; simp
  · exact ⟨rfl, by simp, by simp, by simp [repL]⟩
  · simp [F]; omega
theorem toMemory_eq (xs : List Page) (hx : xs.length ≤ 1048576) : S_laws_toMemory (((xs, ()), ()), ()) = some ((), (xs, ())) := by
  unfold S_laws_toMemory
  dsimp only
  rw [toPageS_eq xs hx, bnd_s]
theorem eqPage_self (x : Page) : S_laws_eqPage ((x, (x, ())), ()) = some (true, ()) := by
  unfold S_laws_eqPage
  dsimp only
  rw [eq_t rfl, eq_t rfl, show eqS x.data x.data = true from decide_eq_true rfl]
  rfl
theorem eqPageS_self (xs : List Page) (hx : xs.length ≤ 1048576) : S_laws_eqPageS ((xs, (xs, ())), ()) = some (true, ()) := by
  unfold S_laws_eqPageS
  simp only [lenL_nat]
  rw [eq_t rfl, notB_not, Bool.not_true, br_f]
  refine iter_eq (fun x => x.1.1 = xs ∧ x.1.2.1 = xs ∧ 0 ≤ x.1.2.2.1 ∧ x.1.2.2.1 ≤ (xs.length : Int)) (fun x => xs.length - x.1.2.2.1.toNat) (fun _ => some (true, ())) ?_ F _ ?_ ?_
  · rintro ⟨⟨ys, zs, i, _⟩, _⟩ rec ⟨h2, h3, h0, h1⟩ hrec
    dsimp only at h0 h1 h2 h3 hrec ⊢
    subst h2
    subst h3
    by_cases hi : i < zs.length
    · rw [br_pos (lt_t hi), br_pos (inR_t h0 hi), br_pos (inR_t h0 hi), eqPage_self, bnd_s, notB_not, Bool.not_true, br_f, add_id (by unfold I64; omega)]
      exact hrec _ ⟨rfl, rfl, by dsimp only; omega, by dsimp only; omega⟩ (by dsimp only; omega)
    · rw [br_neg (lt_f hi)]
  · exact ⟨rfl, rfl, by simp, by simp⟩
  · simp [F]; omega
theorem eqMemory_self (xs : List Page) (hx : xs.length ≤ 1048576) : S_laws_eqMemory (((xs, ()), ((xs, ()), ())), ()) = some (true, ()) := by
  unfold S_laws_eqMemory
  dsimp only
  rw [eqPageS_self xs hx, bnd_s, notB_not, Bool.not_true, br_f]

theorem elWf_page {x : Page} (h : elWf .page x) : I64 x.base ∧ I64 x.perm ∧ x.data.length ≤ maxLen := by
  obtain ⟨⟨n, e1, w1⟩, ⟨k, e2, w2⟩, ⟨s, e3, w3⟩, _⟩ := h
  cases e1; cases e2; cases e3
  exact ⟨wf64 w1, wf64 w2, w3⟩
/-- The law: LoadAt returns what the reference's returns. -/

theorem toIntA16_all (a0 a1 a2 a3 a4 a5 a6 a7 a8 a9 a10 a11 a12 a13 a14 a15 : Int) : S_laws_toIntA16 ((([a0, a1, a2, a3, a4, a5, a6, a7, a8, a9, a10, a11, a12, a13, a14, a15], ()), ()), ()) = some (([a0, a1, a2, a3, a4, a5, a6, a7, a8, a9, a10, a11, a12, a13, a14, a15], ()), ()) := by kernel_rfl
theorem toIntA16_eq {c : List Int} (h : c.length = 16) : S_laws_toIntA16 (((c, ()), ()), ()) = some ((c, ()), ()) := by
  match c, h with
  | [a0, a1, a2, a3, a4, a5, a6, a7, a8, a9, a10, a11, a12, a13, a14, a15], _ => exact toIntA16_all a0 a1 a2 a3 a4 a5 a6 a7 a8 a9 a10 a11 a12 a13 a14 a15
theorem toCpu_eq {c : List Int} (p f : Int) (h : c.length = 16) : S_laws_toCpu (((c, (p, (f, ()))), ()), ()) = some ((c, (p, (f, ()))), ()) := by
  unfold S_laws_toCpu
  dsimp only
  rw [toIntA16_eq h, bnd_s]
theorem eqIntA16_self (c : List Int) : S_laws_eqIntA16 (((c, ()), ((c, ()), ())), ()) = some (true, ()) := by
  unfold S_laws_eqIntA16
  dsimp only
  refine (Ret.iter (fun y => ∃ i : Nat, i ≤ 16 ∧ y = (((i : Int), ()), ((c, ()), ((c, ()), ())))) (fun y => 16 - y.1.1.toNat) ?_ F _ ⟨0, by omega, rfl⟩ (by unfold F; simp)).eq
  rintro _ rec ⟨i, hi, rfl⟩ hrec
  dsimp only
  by_cases h : i < 16
  · rw [br_pos (lt_t (by omega)), br_pos (by simp [inR]; omega), br_pos (by simp [inR]; omega), eq_t rfl, notB_t, br_neg rfl, addI_id (by omega) (by omega)]
    exact hrec _ ⟨i + 1, by omega, rfl⟩ (by simp; omega)
  · rw [br_neg (lt_f (by omega))]
    exact Ret.some rfl
theorem markPageS_ok (xs : List Page) (hx : xs.length ≤ 1048576) : Ret (S_laws_markPageS ((1, ()), (xs, ()))) (fun r => 0 ≤ r.1) := by
  unfold S_laws_markPageS
  dsimp only
  refine Ret.iter (fun y => ∃ i : Nat, i ≤ xs.length ∧ ∃ a : List Page, a.length = xs.length ∧ y = ((1 + 3 * (i : Int), ((i : Int), ())), (a, ()))) (fun y => xs.length - y.1.2.1.toNat) ?_ F _ ⟨0, by omega, xs, rfl, rfl⟩ (by unfold F; simp; omega)
  rintro _ rec ⟨i, hi, a, ha, rfl⟩ hrec
  dsimp only
  have hs : ∀ (l : List Page) (x : Page), (setL l (i : Int) x).length = l.length := fun l x => by simp [setL]
  simp only [lenL_nat, hs, ha]
  by_cases h : i < xs.length
  · rw [br_pos (lt_t (by omega)), br_pos (by simp [inR]; omega), br_pos (by simp [inR]; omega)]
    have e1 : addI .i64 (1 + 3 * (i : Int)) 1 = 2 + 3 * i := by rw [addI_id (by omega) (by omega)]; omega
    have e2 : addI .i64 (2 + 3 * (i : Int)) 1 = 3 + 3 * i := by rw [addI_id (by omega) (by omega)]; omega
    have e3 : addI .i64 (3 + 3 * (i : Int)) 1 = 1 + 3 * ((i + 1 : Nat) : Int) := by rw [addI_id (by omega) (by omega)]; omega
    rw [e1, e2]
    obtain ⟨t, ht⟩ := markText_ok (3 + 3 * (i : Int)) (by omega) (by omega)
    rw [ht, bnd_s]
    dsimp only
    rw [br_pos (by simp [inR]; omega), e3, addI_id (by omega) (by omega)]
    exact hrec _ ⟨i + 1, by omega, _, by rw [hs, hs, hs]; exact ha, rfl⟩ (by simp; omega)
  · rw [br_neg (lt_f (by omega))]
    exact Ret.some (by show (0 : Int) ≤ 1 + 3 * (i : Int); omega)
/-- The law: BoxLines returns what the reference's returns. -/
theorem pure_BoxLines (y : VTL.Ty [.agg [.arr .i 16, .int .i64, .int .i64, .list .page, .int .i64, .int .i64, .str, .int .i64, .str, .int .i64, .int .i64, .int .i64, .int .i64, .int .i64, .int .i64]])
    (h : VTL.wf [.agg [.arr .i 16, .int .i64, .int .i64, .list .page, .int .i64, .int .i64, .str, .int .i64, .str, .int .i64, .int .i64, .int .i64, .int .i64, .int .i64, .int .i64]] y) : S_laws_FnExactBoxLines (y, ()) = some (true, ()) := by
  obtain ⟨⟨c, p, f, ms, heap, brk, inp, pos, out, clk, seed, st, cd, ft, wh, _⟩, _⟩ := y
  obtain ⟨⟨⟨w0, w1⟩, w2, w3, ⟨w4, w5⟩, _, w6, w7, w8, w9, w10, _, _, w11, _, w12, _⟩, _⟩ := h
  have el : ∀ x : Int, elWf .i x → I64 x := fun x hx => by
    obtain ⟨⟨n, e, w⟩, _⟩ := hx
    have e : x = n := by injection e
    rw [e]; exact wf64 w
  have w0 : c.length = 16 := w0
  have hr : ∀ i, I64 (c.getD i 0) := fun i => by
    rw [List.getD_eq_getElem?_getD]
    cases hci : c[i]? with
    | none => exact ⟨by decide, by decide⟩
    | some v => exact el v (w1 v (List.mem_of_getElem? hci))
  have hp : I64 p := wf64 w2
  have hf : I64 f := wf64 w3
  have hb : I64 brk := wf64 w6
  have hs : I64 pos := wf64 w8
  have hk : I64 clk := wf64 w10
  have hc : I64 cd := wf64 w11
  have hw : I64 wh := wf64 w12
  have w4 : ms.length ≤ maxLen := w4
  have w7 : inp.length ≤ maxLen := w7
  have w9 : out.length ≤ maxLen := w9
  unfold S_laws_FnExactBoxLines
  dsimp only
  have hsz : ∃ r : Int, S_laws_szBox (((c, (p, (f, (ms, (heap, (brk, (inp, (pos, (out, (clk, (seed, (st, (cd, (ft, (wh, ()))))))))))))))), (1048576, ())), ()) = some (r, ()) ∧ (0 ≤ r → ms.length ≤ 1048576) := by
    unfold S_laws_szBox
    dsimp only [p6, p8]
    obtain ⟨r, e, hr⟩ := szMemory_ex ms w4 (fun x hx => (elWf_page (w5 x hx)).2.2)
    rw [e, bnd_s]
    dsimp only
    by_cases h1 : r < 0
    · rw [br_pos (lt_t h1)]; exact ⟨-1, rfl, fun h => absurd h (by decide)⟩
    · rw [br_neg (lt_f h1)]
      have hm := hr (by omega)
      by_cases h2 : ltI (subI .i64 r (lenL inp)) 0 = true
      · rw [br_pos h2]; exact ⟨-1, rfl, fun h => absurd h (by decide)⟩
      · rw [br_neg (by simpa using h2)]
        by_cases h3 : ltI (subI .i64 (subI .i64 r (lenL inp)) (lenL out)) 0 = true
        · rw [br_pos h3]; exact ⟨-1, rfl, fun h => absurd h (by decide)⟩
        · rw [br_neg (by simpa using h3)]; exact ⟨_, rfl, fun _ => hm⟩
  obtain ⟨r, e, hm⟩ := hsz
  rw [e, bnd_s]
  dsimp only
  by_cases h0 : r < 0
  · rw [br_pos (lt_t h0)]
  · rw [br_neg (lt_f h0)]
    have hm := hm (by omega)
    have hto : S_laws_toBox (((c, (p, (f, (ms, (heap, (brk, (inp, (pos, (out, (clk, (seed, (st, (cd, (ft, (wh, ()))))))))))))))), ()), ()) = some ((c, (p, (f, (heap, (brk, (inp, (pos, (out, (clk, (seed, (st, (cd, (ft, (wh, ())))))))))))))), (ms, ())) := by
      unfold S_laws_toBox
      dsimp only
      rw [toCpu_eq p f w0, bnd_s, toMemory_eq ms hm, bnd_s]
    have hbox : S_laws_eqBox (((c, (p, (f, (ms, (heap, (brk, (inp, (pos, (out, (clk, (seed, (st, (cd, (ft, (wh, ()))))))))))))))), ((c, (p, (f, (ms, (heap, (brk, (inp, (pos, (out, (clk, (seed, (st, (cd, (ft, (wh, ()))))))))))))))), ())), ()) = some (true, ()) := by
      unfold S_laws_eqBox S_laws_eqCpu
      dsimp only [p5, p6, p7, p8, p9, p10, p11, p12, p13, p14]
      simp only [eqIntA16_self, eqMemory_self ms hm, bnd_s, notB_t, br_f, eq_t rfl, show eqS inp inp = true from decide_eq_true rfl, show eqS out out = true from decide_eq_true rfl]
    obtain ⟨rm, hmk, hm0⟩ := markPageS_ok ms hm
    have hmark : S_laws_markBox (((c, (p, (f, (heap, (brk, (inp, (pos, (out, (clk, (seed, (st, (cd, (ft, (wh, ())))))))))))))), (1, ())), (ms, ())) = some rm := by
      unfold S_laws_markBox S_laws_markMemory
      dsimp only
      rw [hmk, bnd_s, bnd_s]
    obtain ⟨t, cc, ht, e1, e2⟩ : ∃ (t : List (List UInt8)) (cc : Int), t.length ≤ 19 ∧ S_spec_BoxLines (((c, (p, (f, (ms, (heap, (brk, (inp, (pos, (out, (clk, (seed, (st, (cd, (ft, (wh, ()))))))))))))))), ()), ()) = some ((t, (cc, ())), ()) ∧ S_impl_BoxLines (((c, (p, (f, (ms, (heap, (brk, (inp, (pos, (out, (clk, (seed, (st, (cd, (ft, (wh, ()))))))))))))))), ()), ()) = some ((cc, ()), (t, ())) := by
      unfold S_spec_BoxLines S_impl_BoxLines
      rw [sBoxOK_eq hc hf hm, BoxOK_eq hc hm, bnd_s, bnd_s]
      dsimp only
      by_cases hB : boxP f ms heap brk inp pos out clk seed st cd ft wh
      · rw [decide_eq_true hB, notB_t, br_neg rfl, br_neg rfl]
        have he : endP st cd ft wh ∧ (out.length : Int) ≤ 512 := by unfold boxP at hB; exact ⟨hB.2.2.2.2.2.2.2.2.2.2.2.2.2.2, hB.2.2.2.2.2.2.2.2.2.1⟩
        rw [l16Box_eq hr hp hf hb hs hk hc hw he.1 he.2, boxLines_eq hr hp hf hb hs hk hc hw he.1 he.2, bnd_s, bnd_s]
        have := regLs_len (c := c) 16
        exact ⟨_, 0, by unfold boxLs; simp; omega, rfl, rfl⟩
      · rw [decide_eq_false hB, notB_f, br_pos rfl, br_pos rfl]
        exact ⟨[], 1, by simp, rfl, rfl⟩
    rw [hto, bnd_s]
    dsimp only
    rw [e1, bnd_s]
    dsimp only
    rw [bnd_s, e2, bnd_s]
    have heq : S_laws_eqStringS ((t, (t, ())), ()) = some (true, ()) := eqStringS_refl t (by omega)
    have hcc : notB (eqI cc cc) = false := by simp [eqI, notB]
    have hms := markStringS_eq 1 t (by decide) (by decide) (by omega)
    have hheld := heldStringS_eq 1 t.length (by decide) (by decide) (by omega)
    have hlt : ltI (1 + (t.length : Int)) 0 = false := lt_f (by omega)
    have heq2 : notB (eqI (1 + (t.length : Int)) (1 + (t.length : Int))) = false := by simp [eqI, notB]
    have hr0 : ltI rm.1 0 = false := lt_f (by omega)
    simp only [heq, hcc, hbox, hmark, hms, hheld, hlt, heq2, hr0, e2, bnd_s, notB_t, br_f]
end Go.Den.G
