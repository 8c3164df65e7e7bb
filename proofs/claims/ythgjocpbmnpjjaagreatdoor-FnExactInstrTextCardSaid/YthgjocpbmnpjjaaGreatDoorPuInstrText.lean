/- Theory for the proofs of this claim: see its last text. -/
import Derived.Test.YthgjocpbmnpjjaaGreatDoorFnInstrText
import Derived.Test.YthgjocpbmnpjjaaGreatDoorDenF
import Derived.KernelRfl
namespace Go.Den.G
open Go.Den

/-! ### digits -/
theorem dec_small {u : Nat} (h : u < 10) : Go.Lib.decDigits u = [UInt8.ofNat (48 + u)] := by rw [Go.Lib.decDigits, dif_pos h]
theorem dec_step {u : Nat} (h : ¬ u < 10) : Go.Lib.decDigits u = Go.Lib.decDigits (u / 10) ++ [UInt8.ofNat (48 + u % 10)] := by rw [Go.Lib.decDigits, dif_neg h]
theorem dec_len : ∀ (k u : Nat), u < 10 ^ (k + 1) → (Go.Lib.decDigits u).length ≤ k + 1
  | 0, u, h => by rw [dec_small (by omega)]; simp
  | k + 1, u, h => by
    by_cases hu : u < 10
    · rw [dec_small hu]; simp
    · rw [dec_step hu, List.length_append]
      have := dec_len k (u / 10) (by rw [Nat.pow_succ] at h; omega)
      simp; omega
theorem byte1 {n : Int} (h0 : 0 ≤ n) (h1 : n < 10) : toStr [wrapI .u8 (addI .i64 48 n)] = [UInt8.ofNat (48 + n.toNat)] := by
  have e : wrapI .u8 (addI .i64 48 n) = 48 + n := by
    rw [add_id (by unfold I64; omega)]
    unfold wrapI
    simp only [IntKind.wrap, IntKind.bits, IntKind.signed, Bool.false_and, Bool.false_eq_true, if_false]
    exact Int.emod_eq_of_lt (by omega) (by omega)
  rw [e]
  unfold toStr
  rw [List.map_singleton, show (48 + n).toNat = 48 + n.toNat by omega]
theorem digits_nat : ∀ (k : Nat) (u : Nat), k ≤ 100 → u < 10 ^ (k + 1) → u < 9223372036854775808 → RS_spec_l00Digits (k + 1) (((u : Int), ()), ()) = some (Go.Lib.decDigits u, ())
  | k, u, hk, hu, h64 => by
    rw [RS_spec_l00Digits]
    dsimp only
    rw [br_neg (eq_f (by omega)), br_neg (lt_f (by omega))]
    by_cases h : u < 10
    · rw [br_pos (lt_t (by omega)), byte1 (by omega) (by omega), dec_small h]; rfl
    · rw [br_neg (lt_f (by omega))]
      cases k with
      | zero => exact absurd hu (by simpa using h)
      | succ k =>
        have hq : quoI .i64 (u : Int) 10 = ((u / 10 : Nat) : Int) := by
          unfold quoI
          rw [show ((u : Int).tdiv 10) = ((u / 10 : Nat) : Int) by rw [Int.tdiv_eq_ediv_of_nonneg (by omega)]; simp]
          exact wrap64_id (by unfold I64; omega)
        have hr : remI (u : Int) 10 = ((u % 10 : Nat) : Int) := by unfold remI; rw [Int.tmod_eq_emod_of_nonneg (by omega)]; simp
        rw [hq, digits_nat k (u / 10) (by omega) (by rw [Nat.pow_succ] at hu; omega) (by omega), bnd_s, hr]
        dsimp only
        rw [byte1 (by omega) (by omega), dec_step h]
        have hl := dec_len k (u / 10) (by rw [Nat.pow_succ] at hu; omega)
        rw [br_pos (by unfold fits2 lim; simp; omega), show (((u % 10 : Nat) : Int)).toNat = u % 10 from rfl]
        rfl
theorem itoa_len {n : Int} (h : I64 n) : (Go.Lib.itoa n).length ≤ 20 := by
  unfold I64 at h
  unfold Go.Lib.itoa
  split
  · have := dec_len 18 n.natAbs (by omega)
    simp; omega
  · have := dec_len 18 n.toNat (by omega)
    omega
theorem l00Digits_eq {n : Int} (h : I64 n) : S_spec_l00Digits ((n, ()), ()) = some (Go.Lib.itoa n, ()) := by
  unfold S_spec_l00Digits
  unfold I64 at h
  by_cases hm : n = -9223372036854775808
  · subst hm
    rw [RS_spec_l00Digits]
    dsimp only
    rw [br_pos (eq_t rfl)]
    unfold Go.Lib.itoa
    rw [if_pos (by decide)]
    congr 2
    show _ = 45 :: Go.Lib.decDigits 9223372036854775808
    simp [Go.Lib.decDigits]
  · by_cases h0 : 0 ≤ n
    · obtain ⟨u, rfl⟩ := Int.eq_ofNat_of_zero_le h0
      rw [digits_nat 99 u (by decide) (Nat.lt_of_lt_of_le (show u < 10 ^ 20 by omega) (Nat.pow_le_pow_right (by decide) (by decide))) (by omega)]
      unfold Go.Lib.itoa
      rw [if_neg (by omega)]
      simp
    · rw [RS_spec_l00Digits]
      dsimp only
      rw [br_neg (eq_f hm), br_pos (lt_t (by omega)), sub_id (by unfold I64; omega)]
      obtain ⟨u, hu⟩ := Int.eq_ofNat_of_zero_le (show 0 ≤ 0 - n by omega)
      rw [hu, digits_nat 98 u (by decide) (Nat.lt_of_lt_of_le (show u < 10 ^ 20 by omega) (Nat.pow_le_pow_right (by decide) (by decide))) (by omega), bnd_s]
      dsimp only
      have hl := dec_len 19 u (by omega)
      rw [br_pos (by unfold fits2 lim; simp; omega)]
      unfold Go.Lib.itoa
      rw [if_pos (by omega), show n.natAbs = u by omega]
      simp [appL]
end Go.Den.G
namespace Go.Den.G
open Go.Den
set_option maxRecDepth 100000

/-! ### sizes and ranges -/
theorem isSize_dec (n : Int) : S_impl_isSize ((n, ()), ()) = some (decide (n = 1 ∨ n = 2 ∨ n = 4 ∨ n = 8), ()) := by
  unfold S_impl_isSize
  simp only [br_or, bnd_s, eqI, ← Bool.decide_or, or_assoc]
theorem l01Size_isSize : S_spec_l01Size = S_impl_isSize := rfl
theorem within_dec (n a b : Int) : S_impl_within ((n, (a, (b, ()))), ()) = some (decide (a ≤ n ∧ n ≤ b), ()) := by
  unfold S_impl_within
  simp only [br_and, bnd_s, leI, Bool.decide_and]
theorem l01In_within : S_spec_l01In = S_impl_within := rfl

/-! ### the names of the registers -/
def regL1 : List (List UInt8) := [[97, 108], [99, 108], [100, 108], [98, 108], [115, 112, 108], [98, 112, 108], [115, 105, 108], [100, 105, 108], [114, 56, 98], [114, 57, 98], [114, 49, 48, 98], [114, 49, 49, 98], [114, 49, 50, 98], [114, 49, 51, 98], [114, 49, 52, 98], [114, 49, 53, 98], [97, 104], [99, 104], [100, 104], [98, 104]]
def regL2 : List (List UInt8) := [[97, 120], [99, 120], [100, 120], [98, 120], [115, 112], [98, 112], [115, 105], [100, 105], [114, 56, 119], [114, 57, 119], [114, 49, 48, 119], [114, 49, 49, 119], [114, 49, 50, 119], [114, 49, 51, 119], [114, 49, 52, 119], [114, 49, 53, 119]]
def regL4 : List (List UInt8) := [[101, 97, 120], [101, 99, 120], [101, 100, 120], [101, 98, 120], [101, 115, 112], [101, 98, 112], [101, 115, 105], [101, 100, 105], [114, 56, 100], [114, 57, 100], [114, 49, 48, 100], [114, 49, 49, 100], [114, 49, 50, 100], [114, 49, 51, 100], [114, 49, 52, 100], [114, 49, 53, 100]]
def regL8 : List (List UInt8) := [[114, 97, 120], [114, 99, 120], [114, 100, 120], [114, 98, 120], [114, 115, 112], [114, 98, 112], [114, 115, 105], [114, 100, 105], [114, 56], [114, 57], [114, 49, 48], [114, 49, 49], [114, 49, 50], [114, 49, 51], [114, 49, 52], [114, 49, 53]]
theorem regNames1 : S_impl_regNames ((1, ()), ()) = some (regL1, ()) := by kernel_rfl
theorem l03Regs1 : S_spec_l03Regs ((1, ()), ()) = some (regL1, ()) := by kernel_rfl
theorem regNames2 : S_impl_regNames ((2, ()), ()) = some (regL2, ()) := by kernel_rfl
theorem l03Regs2 : S_spec_l03Regs ((2, ()), ()) = some (regL2, ()) := by kernel_rfl
theorem regNames4 : S_impl_regNames ((4, ()), ()) = some (regL4, ()) := by kernel_rfl
theorem l03Regs4 : S_spec_l03Regs ((4, ()), ()) = some (regL4, ()) := by kernel_rfl
theorem regNames8 : S_impl_regNames ((8, ()), ()) = some (regL8, ()) := by kernel_rfl
theorem l03Regs8 : S_spec_l03Regs ((8, ()), ()) = some (regL8, ()) := by kernel_rfl
def regL (s : Int) : List (List UInt8) := if s = 1 then regL1 else if s = 2 then regL2 else if s = 4 then regL4 else regL8
def sizeP (s : Int) : Prop := s = 1 ∨ s = 2 ∨ s = 4 ∨ s = 8
instance (s : Int) : Decidable (sizeP s) := by unfold sizeP; infer_instance
def regP (r s : Int) : Prop := 0 ≤ r ∧ r < (regL s).length
instance (r s : Int) : Decidable (regP r s) := by unfold regP; infer_instance
def nameOf (r s : Int) : List UInt8 := if regP r s then (regL s).getD r.toNat [] else []
theorem regNames_eq {s : Int} (h : sizeP s) : S_impl_regNames ((s, ()), ()) = some (regL s, ()) := by
  rcases h with rfl | rfl | rfl | rfl
  · exact regNames1
  · exact regNames2
  · exact regNames4
  · exact regNames8
theorem l03Regs_eq {s : Int} (h : sizeP s) : S_spec_l03Regs ((s, ()), ()) = some (regL s, ()) := by
  rcases h with rfl | rfl | rfl | rfl
  · exact l03Regs1
  · exact l03Regs2
  · exact l03Regs4
  · exact l03Regs8
theorem isReg_eq (r s : Int) : S_impl_isReg ((r, (s, ())), ()) = some (decide (sizeP s ∧ (0 ≤ r ∧ r ≤ 15 ∨ s = 1 ∧ 16 ≤ r ∧ r ≤ 19)), ()) := by
  unfold S_impl_isReg S_impl_isHigh
  simp only [isSize_dec, within_dec, bnd_s, br_or, br_and, eqI]
  congr 2
  rw [Bool.eq_iff_iff]
  unfold sizeP
  simp
theorem regP_iff {r s : Int} (h : sizeP s) : (0 ≤ r ∧ r ≤ 15 ∨ s = 1 ∧ 16 ≤ r ∧ r ≤ 19) ↔ regP r s := by
  unfold regP
  rcases h with rfl | rfl | rfl | rfl
  · rw [show (regL 1).length = 20 from rfl]; omega
  · rw [show (regL 2).length = 16 from rfl]; omega
  · rw [show (regL 4).length = 16 from rfl]; omega
  · rw [show (regL 8).length = 16 from rfl]; omega
theorem RegName_eq (r : Int) {s : Int} (h : sizeP s) : S_impl_RegName ((r, (s, ())), ()) = some (nameOf r s, ()) := by
  unfold S_impl_RegName nameOf
  rw [isReg_eq, bnd_s]
  dsimp only
  by_cases hr : regP r s
  · rw [if_pos hr, decide_eq_true ⟨h, (regP_iff h).2 hr⟩, notB_t, br_neg rfl, regNames_eq h, bnd_s]
    dsimp only
    rw [br_pos (by unfold regP at hr; simp [inR, lenL, hr.1, hr.2])]
    rfl
  · rw [if_neg hr, decide_eq_false (fun x => hr ((regP_iff h).1 x.2)), notB_f, br_pos rfl]
theorem sRegName_eq (r : Int) {s : Int} (h : sizeP s) : S_spec_RegName ((r, (s, ())), ()) = some (nameOf r s, ()) := by
  unfold S_spec_RegName nameOf
  rw [l01Size_isSize, isSize_dec, bnd_s]
  dsimp only
  rw [decide_eq_true (show s = 1 ∨ s = 2 ∨ s = 4 ∨ s = 8 from h), notB_t, br_neg rfl, l03Regs_eq h, bnd_s]
  dsimp only
  rw [br_or, bnd_s]
  by_cases hr : regP r s
  · rw [if_pos hr]
    unfold regP at hr
    have e : (ltI r 0 || leI (lenL (regL s)) r) = false := by unfold ltI leI lenL; simp; omega
    rw [e, br_neg rfl, br_pos (by simp [inR, lenL, hr.1, hr.2])]
    rfl
  · rw [if_neg hr]
    unfold regP at hr
    have e : (ltI r 0 || leI (lenL (regL s)) r) = true := by unfold ltI leI lenL; simp; omega
    rw [e, br_pos rfl]
theorem name_lens : (∀ i, i < 20 → 1 ≤ (regL1.getD i []).length ∧ (regL1.getD i []).length ≤ 4) ∧ (∀ i, i < 16 → 1 ≤ (regL2.getD i []).length ∧ (regL2.getD i []).length ≤ 4) ∧
    (∀ i, i < 16 → 1 ≤ (regL4.getD i []).length ∧ (regL4.getD i []).length ≤ 4) ∧ ∀ i, i < 16 → 1 ≤ (regL8.getD i []).length ∧ (regL8.getD i []).length ≤ 4 := by decide +kernel
theorem nameOf_len (r : Int) {s : Int} (h : sizeP s) : (nameOf r s).length ≤ 4 ∧ (regP r s → 1 ≤ (nameOf r s).length) := by
  unfold nameOf
  by_cases hr : regP r s
  · rw [if_pos hr]
    have hk := hr
    unfold regP at hr
    obtain ⟨n1, n2, n4, n8⟩ := name_lens
    rcases h with rfl | rfl | rfl | rfl
    · have := n1 r.toNat (by have : (regL 1).length = 20 := rfl; omega); exact ⟨this.2, fun _ => this.1⟩
    · have := n2 r.toNat (by have : (regL 2).length = 16 := rfl; omega); exact ⟨this.2, fun _ => this.1⟩
    · have := n4 r.toNat (by have : (regL 4).length = 16 := rfl; omega); exact ⟨this.2, fun _ => this.1⟩
    · have := n8 r.toNat (by have : (regL 8).length = 16 := rfl; omega); exact ⟨this.2, fun _ => this.1⟩
  · rw [if_neg hr]; exact ⟨by simp, fun h => absurd h hr⟩
end Go.Den.G
namespace Go.Den.G
open Go.Den

/-! ### which operands there are -/
theorem fits4_eq {d : Int} (h : I64 d) : S_impl_fits ((d, (4, ())), ()) = some (decide (-2147483648 ≤ d ∧ d ≤ 2147483647), ()) := by
  unfold I64 at h
  unfold S_impl_fits S_impl_sign
  have e : subI .i64 64 (mulI .i64 8 4) = 32 := by decide
  simp only [e]
  rw [br_pos (by decide), br_pos (by decide), bnd_s]
  congr 2
  unfold eqI ishr ishl
  rw [show min (32 : Int).toNat (IntKind.bits .i64) = 32 from by decide, IntKind.wrap_i64, Int.fdiv_eq_ediv_of_nonneg _ (by decide)]
  rw [Bool.eq_iff_iff]
  simp only [decide_eq_true_eq]
  omega
/-- What makes an operand in memory. -/
def memP (k r b i s d m : Int) : Prop := k = 2 ∧ r = 0 ∧ m = 0 ∧ -1 ≤ b ∧ b ≤ 16 ∧ -1 ≤ i ∧ i ≤ 15 ∧ i ≠ 4 ∧ (s = 1 ∨ i ≠ -1 ∧ (s = 2 ∨ s = 4 ∨ s = 8)) ∧ (b ≠ 16 ∨ i = -1) ∧ -2147483648 ≤ d ∧ d ≤ 2147483647
instance (k r b i s d m : Int) : Decidable (memP k r b i s d m) := by unfold memP; infer_instance
theorem isMem_eq {k r b i s d m : Int} (h : I64 d) : S_impl_Operand_isMem (((k, (r, (b, (i, (s, (d, (m, ()))))))), ()), ()) = some (decide (memP k r b i s d m), ()) := by
  unfold S_impl_Operand_isMem
  dsimp only [p5, p6]
  simp only [within_dec, fits4_eq h, br_or, br_and, bnd_s, eqI]
  congr 2
  rw [Bool.eq_iff_iff, decide_eq_true_eq]
  unfold memP
  simp only [Bool.and_eq_true, Bool.or_eq_true, decide_eq_true_eq, notB_iff, decide_eq_false_iff_not]
  omega
def opOK (k r b i s d m z : Int) : Prop := sizeP z ∧
  (k = 1 ∧ b = 0 ∧ i = 0 ∧ s = 0 ∧ d = 0 ∧ m = 0 ∧ regP r z ∨ memP k r b i s d m ∨ k = 3 ∧ r = 0 ∧ b = 0 ∧ i = 0 ∧ s = 0 ∧ d = 0 ∨ k = 0 ∧ r = 0 ∧ b = 0 ∧ i = 0 ∧ s = 0 ∧ d = 0 ∧ m = 0)
instance (k r b i s d m z : Int) : Decidable (opOK k r b i s d m z) := by unfold opOK; infer_instance
theorem andB_iff {a b : Bool} : andB a b = true ↔ a = true ∧ b = true := by cases a <;> cases b <;> simp [andB]
theorem OperandOK_eq {k r b i s d m z : Int} (h : I64 d) : S_impl_OperandOK (((k, (r, (b, (i, (s, (d, (m, ()))))))), (z, ())), ()) = some (decide (opOK k r b i s d m z), ()) := by
  unfold S_impl_OperandOK S_impl_regOf S_impl_immOf
  dsimp only [p5, p6, d6]
  rw [isSize_dec, bnd_s]
  dsimp only
  by_cases hz : sizeP z
  · rw [decide_eq_true (show z = 1 ∨ z = 2 ∨ z = 4 ∨ z = 8 from hz), notB_t, br_neg rfl]
    have hr := regP_iff (r := r) hz
    by_cases h1 : k = 1
    · subst h1
      rw [br_pos (eq_t rfl), bnd_s]
      dsimp only
      rw [isReg_eq, bnd_s]
      cases hc : andB (eqI 1 1) (andB (eqI r r) (andB (eqI b 0) (andB (eqI i 0) (andB (eqI s 0) (andB (eqI d 0) (eqI m 0)))))) with
      | true =>
        rw [br_pos rfl]
        simp only [andB_iff, eq_iff] at hc
        congr 2
        rw [Bool.eq_iff_iff, decide_eq_true_eq, decide_eq_true_eq, hr]
        unfold opOK memP
        simp [hz, hc.2.2.1, hc.2.2.2.1, hc.2.2.2.2.1, hc.2.2.2.2.2.1, hc.2.2.2.2.2.2]
      | false =>
        rw [br_neg rfl]
        congr 2
        symm
        refine decide_eq_false fun ho => ?_
        have : andB (eqI 1 1) (andB (eqI r r) (andB (eqI b 0) (andB (eqI i 0) (andB (eqI s 0) (andB (eqI d 0) (eqI m 0)))))) = true := by
          unfold opOK memP at ho
          simp only [andB_iff, eq_iff]
          have h2 := ho.2
          simp at h2
          simp [h2]
        rw [this] at hc; cases hc
    · rw [br_neg (eq_f h1)]
      by_cases h2 : k = 2
      · subst h2
        rw [br_pos (eq_t rfl), isMem_eq h, bnd_s]
        congr 2
        rw [Bool.eq_iff_iff, decide_eq_true_eq, decide_eq_true_eq]
        unfold opOK
        simp [hz]
      · rw [br_neg (eq_f h2)]
        by_cases h3 : k = 3
        · subst h3
          rw [br_pos (eq_t rfl), bnd_s]
          congr 2
          rw [Bool.eq_iff_iff, decide_eq_true_eq]
          simp only [andB_iff, eq_iff]
          unfold opOK memP
          simp [hz]
        · rw [br_neg (eq_f h3)]
          congr 2
          rw [Bool.eq_iff_iff, decide_eq_true_eq]
          simp only [andB_iff, eq_iff]
          unfold opOK memP
          simp [hz, h1, h2, h3]
  · rw [decide_eq_false (show ¬ (z = 1 ∨ z = 2 ∨ z = 4 ∨ z = 8) from hz), notB_f, br_pos rfl]
    congr 2
    symm
    exact decide_eq_false fun h => hz h.1
theorem brF {α : Type} {c e : Bool} {u : α} : br c (some (false, u)) (some (e, u)) = some (!c && e, u) := by cases c <;> rfl
end Go.Den.G
namespace Go.Den.G
open Go.Den
set_option maxRecDepth 100000

/-! ### the text of an operand -/
theorem itoa_eq {n : Int} (h : I64 n) : S_strconv_Itoa ((n, ()), ()) = some (Go.Lib.itoa n, ()) := by
  unfold I64 at h
  unfold S_strconv_Itoa pItoa
  unfold i64B
  dsimp only
  rw [le_t h.1, le_t (by omega)]; rfl
def wordOf (z : Int) : List UInt8 := if z = 1 then [98, 121, 116, 101] else if z = 2 then [119, 111, 114, 100] else if z = 4 then [100, 119, 111, 114, 100] else [113, 119, 111, 114, 100]
theorem wordOf_len (z : Int) : (wordOf z).length ≤ 5 := by unfold wordOf; split <;> (try split) <;> (try split) <;> decide
theorem sizeWord_eq {z : Int} (h : sizeP z) : S_impl_sizeWord ((z, ()), ()) = some (wordOf z, ()) := by
  rcases h with rfl | rfl | rfl | rfl <;> rfl
theorem l16Size_eq {z : Int} (h : sizeP z) : S_spec_l16Size ((z, ()), ()) = some (wordOf z, ()) := by
  rcases h with rfl | rfl | rfl | rfl <;> rfl
def ripS : List UInt8 := [114, 105, 112]
def p1 (b : Int) : List (List UInt8) := if b = 16 then [ripS] else if 0 ≤ b then [nameOf b 8] else []
def p2 (i s : Int) : List (List UInt8) := if 0 ≤ i then [nameOf i 8 ++ [42] ++ Go.Lib.itoa s] else []
def p3 (d : Int) (q : List (List UInt8)) : List (List UInt8) := if d ≠ 0 ∨ q = [] then [Go.Lib.itoa d] else []
def pieces (b i s d : Int) : List (List UInt8) := (p1 b ++ p2 i s) ++ p3 d (p1 b ++ p2 i s)
def memTxt (b i s d z : Int) : List UInt8 := wordOf z ++ [32, 91] ++ Go.Lib.join (pieces b i s d) [43] ++ [93]
theorem size8 : sizeP 8 := .inr (.inr (.inr rfl))
theorem join_more (x y p : List UInt8) (r : List (List UInt8)) : Go.Lib.join (x :: y :: r) p = x ++ (p ++ Go.Lib.join (y :: r) p) := by
  rw [Go.Lib.join_cons, Go.Lib.join_cons]
  simp [Go.Lib.joinTail]
theorem join_len : ∀ (l : List (List UInt8)), (∀ x ∈ l, x.length ≤ 30) → (Go.Lib.join l [43]).length ≤ 31 * l.length
  | [], _ => by simp [Go.Lib.join]
  | [x], h => by have := h x (by simp); rw [Go.Lib.join_one]; simp; omega
  | x :: y :: r, h => by
    have h1 := h x (by simp)
    have h2 := join_len (y :: r) fun z hz => h z (List.mem_cons_of_mem _ hz)
    rw [join_more]
    simp only [List.length_append, List.length_cons, List.length_nil] at h2 ⊢
    omega
theorem p1_len (b : Int) : (p1 b).length ≤ 1 ∧ ∀ x ∈ p1 b, x.length ≤ 30 := by
  unfold p1
  split
  · exact ⟨by simp, by simp [ripS]⟩
  · split
    · have := (nameOf_len b size8).1
      exact ⟨by simp, by simp; omega⟩
    · simp
theorem p2_len {i s : Int} (hs : I64 s) : (p2 i s).length ≤ 1 ∧ ∀ x ∈ p2 i s, x.length ≤ 30 := by
  unfold p2
  split
  · have := (nameOf_len i size8).1
    have := itoa_len hs
    exact ⟨by simp, by simp; omega⟩
  · simp
theorem p3_len {d : Int} (hd : I64 d) (q : List (List UInt8)) : (p3 d q).length ≤ 1 ∧ ∀ x ∈ p3 d q, x.length ≤ 30 := by
  unfold p3
  split
  · have := itoa_len hd
    exact ⟨by simp, by simp; omega⟩
  · simp
theorem pieces_len {b i s d : Int} (hs : I64 s) (hd : I64 d) : (pieces b i s d).length ≤ 3 ∧ (Go.Lib.join (pieces b i s d) [43]).length ≤ 93 := by
  have h1 := p1_len b
  have h2 := p2_len (i := i) hs
  have h3 := p3_len hd (p1 b ++ p2 i s)
  have hl : (pieces b i s d).length ≤ 3 := by unfold pieces; simp only [List.length_append]; omega
  refine ⟨hl, Nat.le_trans (join_len _ fun x hx => ?_) (by omega)⟩
  unfold pieces at hx
  rcases List.mem_append.1 hx with hx | hx
  · rcases List.mem_append.1 hx with hx | hx
    · exact h1.2 x hx
    · exact h2.2 x hx
  · exact h3.2 x hx
theorem smallF {α β : Type} {xs : List α} {ys : List β} (h1 : xs.length ≤ 1000) (h2 : ys.length ≤ 1000) : fits2 xs ys = true := fits2_t (by omega)
theorem operandText_mem {r b i s d m z : Int} (hz : sizeP z) (h : memP 2 r b i s d m) : S_impl_operandText (((2, (r, (b, (i, (s, (d, (m, ()))))))), (z, ())), ()) = some (memTxt b i s d z, ()) := by
  have hd : I64 d := by unfold memP at h; unfold I64; omega
  have hs : I64 s := by unfold memP at h; unfold I64; omega
  unfold S_impl_operandText
  dsimp only [p5, p6, d6]
  rw [br_neg (eq_f (by decide)), br_neg (eq_f (by decide)), br_pos (eq_t rfl)]
  refine (Ret.bnd (Q := fun y => y = Sum.inl ((z, ()), ((2, (r, (b, (i, (s, (d, (m, ()))))))), (p1 b, ())))) ?_ ?_).eq
  · unfold p1
    by_cases hb : b = 16
    · rw [br_pos (eq_t hb), if_pos hb]
      exact Ret.need (smallF (by simp) (by simp)) (Ret.some rfl)
    · rw [br_neg (eq_f hb), if_neg hb]
      refine Ret.bnd (Q := fun y => y = Sum.inl ((z, ()), ((2, (r, (b, (i, (s, (d, (m, ()))))))), ((if 0 ≤ b then [nameOf b 8] else []), ())))) ?_ (fun y hy => by subst hy; exact Ret.some rfl)
      by_cases h0 : 0 ≤ b
      · rw [br_pos (le_t h0), if_pos h0, RegName_eq b size8, bnd_s]
        dsimp only
        exact Ret.need (smallF (by simp) (by simp)) (Ret.some rfl)
      · rw [br_neg (le_f (by omega)), if_neg h0]
        exact Ret.some rfl
  · rintro _ rfl
    rw [sumE_l]
    dsimp only
    refine Ret.bnd (Q := fun y => y = Sum.inl ((z, ()), ((2, (r, (b, (i, (s, (d, (m, ()))))))), (p1 b ++ p2 i s, ())))) ?_ ?_
    · unfold p2
      by_cases h0 : 0 ≤ i
      · have hn := (nameOf_len i size8).1
        have hi := itoa_len hs
        have h1 := (p1_len b).1
        rw [br_pos (le_t h0), if_pos h0, RegName_eq i size8, bnd_s]
        dsimp only
        rw [br_pos (smallF (by omega) (by simp)), itoa_eq hs, bnd_s]
        dsimp only
        rw [br_pos (smallF (by simp [appL]; omega) (by omega)), br_pos (smallF (by omega) (by simp))]
        exact Ret.some rfl
      · rw [br_neg (le_f (by omega)), if_neg h0, List.append_nil]
        exact Ret.some rfl
    · rintro _ rfl
      rw [sumE_l]
      dsimp only
      have hq1 := (p1_len b).1
      have hq2 := (p2_len (i := i) hs).1
      have hq : (p1 b ++ p2 i s).length ≤ 2 := by simp only [List.length_append]; omega
      rw [br_or, bnd_s]
      refine Ret.bnd (Q := fun y => y = Sum.inl ((z, ()), (pieces b i s d, ()))) ?_ ?_
      · unfold pieces p3
        generalize p1 b ++ p2 i s = q at hq
        by_cases hc : d ≠ 0 ∨ q = []
        · have e : (notB (eqI d 0) || eqI (lenL q) 0) = true := by
            rcases hc with hc | hc
            · rw [eq_f hc]; rfl
            · subst hc; simp [eqI, lenL]
          rw [e, br_pos rfl, if_pos hc, itoa_eq hd, bnd_s]
          dsimp only
          rw [br_pos (smallF (by omega) (by simp))]
          exact Ret.some rfl
        · have e : (notB (eqI d 0) || eqI (lenL q) 0) = false := by
            have hd0 : d = 0 := by apply Classical.byContradiction; intro h; exact hc (.inl h)
            have hqn : q ≠ [] := fun h => hc (.inr h)
            rw [eq_t hd0]
            have : 0 < q.length := List.length_pos_iff.2 hqn
            simp [notB, eqI, lenL]; omega
          rw [e, br_neg rfl, if_neg hc, List.append_nil]
          exact Ret.some rfl
      · rintro _ rfl
        rw [sumE_l]
        dsimp only
        have hp := pieces_len (b := b) (i := i) hs hd
        have hw := wordOf_len z
        rw [sizeWord_eq hz, bnd_s]
        dsimp only
        rw [br_pos (smallF (by omega) (by simp)), br_pos (by unfold joinLim; exact decide_eq_true ⟨by omega, by omega⟩), br_pos (smallF (by simp [appL]; omega) (by unfold joinS; omega)), br_pos (smallF (by simp [appL, joinS]; omega) (by simp))]
        exact Ret.some rfl
def ne (q : List (List UInt8)) : Prop := ∀ y ∈ q, y ≠ []
theorem join_snoc (x p : List UInt8) : ∀ q : List (List UInt8), Go.Lib.join (q ++ [x]) p = if q = [] then x else Go.Lib.join q p ++ p ++ x
  | [] => by rw [List.nil_append, Go.Lib.join_one, if_pos rfl]
  | [y] => by rw [if_neg (by simp), List.singleton_append, join_more, Go.Lib.join_one, Go.Lib.join_one]; simp
  | y :: z :: r => by
    have := join_snoc x p (z :: r)
    rw [if_neg (by simp)] at this
    rw [if_neg (by simp), List.cons_append, List.cons_append, join_more, ← List.cons_append, this, join_more]
    simp
theorem join_none (p : List UInt8) {q : List (List UInt8)} (h : ne q) : Go.Lib.join q p = [] ↔ q = [] := by
  cases q with
  | nil => simp [Go.Lib.join_nil]
  | cons y r =>
    refine ⟨fun e => ?_, fun e => by cases e⟩
    exfalso
    have hy := h y (by simp)
    cases r with
    | nil => rw [Go.Lib.join_one] at e; exact hy e
    | cons z r => rw [join_more] at e; exact hy (List.append_eq_nil_iff.1 e).1
theorem eqS_iff {a b : List UInt8} : eqS a b = true ↔ a = b := by unfold eqS; simp
theorem eqS_nf {a b : List UInt8} : eqS a b = false ↔ a ≠ b := by unfold eqS; simp
theorem l16Memory_eq {r b i s d m : Int} (h : memP 2 r b i s d m) : S_spec_l16Memory (((2, (r, (b, (i, (s, (d, (m, ()))))))), ()), ()) = some ([91] ++ Go.Lib.join (pieces b i s d) [43] ++ [93], ()) := by
  have hd : I64 d := by unfold memP at h; unfold I64; omega
  have hs : I64 s := by unfold memP at h; unfold I64; omega
  have n1 : ne (p1 b) := by
    unfold p1
    split
    · intro y hy; rw [List.mem_singleton.1 hy]; decide
    · split
      · rename_i h1 h2
        intro y hy
        rw [List.mem_singleton.1 hy]
        have := (nameOf_len b size8).2 ((regP_iff size8).1 (.inl (by unfold memP at h; omega)))
        intro e; rw [e] at this; simp at this
      · intro y hy; cases hy
  have n2 : ne (p1 b ++ p2 i s) := by
    intro y hy
    rcases List.mem_append.1 hy with hy | hy
    · exact n1 y hy
    · unfold p2 at hy
      split at hy
      · rw [List.mem_singleton.1 hy]; simp
      · cases hy
  have l1 := p1_len b
  have l2 := p2_len (i := i) hs
  have j1 : (Go.Lib.join (p1 b) [43]).length ≤ 31 := Nat.le_trans (join_len _ l1.2) (by omega)
  have j2 : (Go.Lib.join (p1 b ++ p2 i s) [43]).length ≤ 62 := Nat.le_trans (join_len _ fun x hx => (List.mem_append.1 hx).elim (l1.2 x) (l2.2 x)) (by simp only [List.length_append]; omega)
  have j3 := pieces_len (b := b) (i := i) hs hd
  unfold S_spec_l16Memory
  dsimp only [p5, p6, d6]
  refine (Ret.bnd (Q := fun y => y = Sum.inl ((Go.Lib.join (p1 b) [43], ()), ((2, (r, (b, (i, (s, (d, (m, ()))))))), ()))) ?_ ?_).eq
  · unfold p1
    by_cases hb : b = 16
    · rw [br_pos (eq_t hb), if_pos hb, Go.Lib.join_one]
      exact Ret.some rfl
    · rw [br_neg (eq_f hb), if_neg hb]
      by_cases h0 : 0 ≤ b
      · rw [br_pos (le_t h0), if_pos h0, Go.Lib.join_one, sRegName_eq b size8, bnd_s]
        exact Ret.some rfl
      · rw [br_neg (le_f (by omega)), if_neg h0, Go.Lib.join_nil]
        exact Ret.some rfl
  · rintro _ rfl
    rw [sumE_l]
    dsimp only
    refine Ret.bnd (Q := fun y => y = Sum.inl ((Go.Lib.join (p1 b ++ p2 i s) [43], ()), ((2, (r, (b, (i, (s, (d, (m, ()))))))), ()))) ?_ ?_
    · unfold p2
      by_cases h0 : 0 ≤ i
      · have hn := (nameOf_len i size8).1
        have hi := itoa_len hs
        rw [br_pos (le_t h0), if_pos h0, join_snoc]
        refine Ret.bnd (Q := fun y => y = Sum.inl (((if p1 b = [] then [] else Go.Lib.join (p1 b) [43] ++ [43]), ()), ((2, (r, (b, (i, (s, (d, (m, ()))))))), ()))) ?_ ?_
        · by_cases hq : p1 b = []
          · rw [if_pos hq, eqS_iff.2 ((join_none _ n1).2 hq), notB_t, br_neg rfl, (join_none _ n1).2 hq]
            exact Ret.some rfl
          · rw [if_neg hq, eqS_nf.2 (fun e => hq ((join_none _ n1).1 e)), notB_f, br_pos rfl, br_pos (smallF (by omega) (by simp))]
            exact Ret.some rfl
        · rintro _ rfl
          rw [sumE_l]
          dsimp only
          rw [sRegName_eq i size8, bnd_s]
          dsimp only
          have hx : (if p1 b = [] then [] else Go.Lib.join (p1 b) [43] ++ [43]).length ≤ 40 := by split <;> simp; omega
          rw [br_pos (smallF (by omega) (by simp)), l00Digits_eq hs, bnd_s]
          dsimp only
          rw [br_pos (smallF (by simp [appL]; omega) (by omega)), br_pos (smallF (by omega) (by simp [appL]; omega))]
          refine Ret.some ?_
          congr 2
          by_cases hq : p1 b = []
          · simp [hq, appL]
          · simp [hq, appL]
      · rw [br_neg (le_f (by omega)), if_neg h0, List.append_nil]
        exact Ret.some rfl
    · rintro _ rfl
      rw [sumE_l]
      dsimp only
      rw [br_or, bnd_s]
      refine Ret.bnd (Q := fun y => y = Sum.inl ((Go.Lib.join (pieces b i s d) [43], ()), ())) ?_ ?_
      · unfold pieces p3
        revert n2 j2
        generalize p1 b ++ p2 i s = q
        intro n2 j2
        by_cases hc : d ≠ 0 ∨ q = []
        · have e : (notB (eqI d 0) || eqS (Go.Lib.join q [43]) []) = true := by
            rcases hc with hc | hc
            · rw [eq_f hc]; rfl
            · rw [eqS_iff.2 ((join_none _ n2).2 hc)]; simp
          rw [e, br_pos rfl, if_pos hc, join_snoc]
          have hi := itoa_len hd
          refine Ret.bnd (Q := fun y => y = Sum.inl (((if q = [] then [] else Go.Lib.join q [43] ++ [43]), ()), ((2, (r, (b, (i, (s, (d, (m, ()))))))), ()))) ?_ ?_
          · by_cases hq : q = []
            · rw [if_pos hq, eqS_iff.2 ((join_none _ n2).2 hq), notB_t, br_neg rfl, (join_none _ n2).2 hq]
              exact Ret.some rfl
            · rw [if_neg hq, eqS_nf.2 (fun e => hq ((join_none _ n2).1 e)), notB_f, br_pos rfl, br_pos (smallF (by omega) (by simp))]
              exact Ret.some rfl
          · rintro _ rfl
            rw [sumE_l]
            dsimp only
            have hx : (if q = [] then [] else Go.Lib.join q [43] ++ [43]).length ≤ 70 := by split <;> simp; omega
            rw [l00Digits_eq hd, bnd_s]
            dsimp only
            rw [br_pos (smallF (by omega) (by omega))]
            refine Ret.some ?_
            congr 2
            by_cases hq : q = []
            · simp [hq, appL]
            · simp [hq, appL]
        · have e : (notB (eqI d 0) || eqS (Go.Lib.join q [43]) []) = false := by
            have hd0 : d = 0 := by apply Classical.byContradiction; intro h; exact hc (.inl h)
            have hqn : q ≠ [] := fun h => hc (.inr h)
            rw [eq_t hd0, eqS_nf.2 fun e => hqn ((join_none _ n2).1 e)]; rfl
          rw [e, br_neg rfl, if_neg hc, List.append_nil]
          exact Ret.some rfl
      · rintro _ rfl
        rw [sumE_l]
        dsimp only
        rw [br_pos (smallF (by simp) (by omega)), br_pos (smallF (by simp [appL]; omega) (by simp))]
        exact Ret.some rfl
/-- The text of an operand that is right. -/
def opTxt (k r b i s d m z : Int) : List UInt8 := if k = 1 then nameOf r z else if k = 2 then memTxt b i s d z else if k = 3 then Go.Lib.itoa m else []
theorem operandText_eq {k r b i s d m z : Int} (hm : I64 m) (h : opOK k r b i s d m z) : S_impl_operandText (((k, (r, (b, (i, (s, (d, (m, ()))))))), (z, ())), ()) = some (opTxt k r b i s d m z, ()) := by
  obtain ⟨hz, h⟩ := h
  unfold opTxt
  by_cases h2 : k = 2
  · subst h2
    rw [if_neg (by decide), if_pos rfl]
    exact operandText_mem hz (by rcases h with h | h | h | h <;> first | exact h | exact absurd h.1 (by decide))
  · unfold S_impl_operandText
    dsimp only [p5, p6, d6]
    by_cases h1 : k = 1
    · rw [br_pos (eq_t h1), if_pos h1, RegName_eq r hz]; rfl
    · rw [br_neg (eq_f h1), if_neg h1, if_neg h2]
      by_cases h3 : k = 3
      · rw [br_pos (eq_t h3), if_pos h3, itoa_eq hm]; rfl
      · rw [br_neg (eq_f h3), br_neg (eq_f h2), if_neg h3]
theorem l16Operand_eq {k r b i s d m z : Int} (hm : I64 m) (h : opOK k r b i s d m z) : S_spec_l16Operand (((k, (r, (b, (i, (s, (d, (m, ()))))))), (z, ())), ()) = some (opTxt k r b i s d m z, ()) := by
  obtain ⟨hz, h⟩ := h
  unfold opTxt S_spec_l16Operand
  dsimp only [p5, p6, d6]
  by_cases h1 : k = 1
  · rw [br_pos (eq_t h1), if_pos h1, sRegName_eq r hz]; rfl
  · rw [br_neg (eq_f h1), if_neg h1]
    by_cases h2 : k = 2
    · subst h2
      have hmem : memP 2 r b i s d m := by rcases h with h | h | h | h <;> first | exact h | exact absurd h.1 (by decide)
      have hw := wordOf_len z
      have hj := pieces_len (b := b) (i := i) (s := s) (d := d) (by unfold memP at hmem; unfold I64; omega) (by unfold memP at hmem; unfold I64; omega)
      rw [br_pos (eq_t rfl), if_pos rfl, l16Size_eq hz, bnd_s]
      dsimp only
      rw [br_pos (smallF (by omega) (by simp)), l16Memory_eq hmem, bnd_s]
      dsimp only
      rw [br_pos (smallF (by simp [appL]; omega) (by simp; omega))]
      unfold memTxt appL
      simp
    · rw [br_neg (eq_f h2), if_neg h2]
      by_cases h3 : k = 3
      · rw [br_pos (eq_t h3), if_pos h3, l00Digits_eq hm]; rfl
      · rw [br_neg (eq_f h3), if_neg h3]
end Go.Den.G
namespace Go.Den.G
open Go.Den

/-! ### signs -/
/-- A number's lowest bits, as a number with a sign; `m`: the sign's place. -/
def sx (m : Nat) (v : Int) : Int := if (v % 2 ^ 64 / 2 ^ m) % 2 = 1 then v % 2 ^ (m + 1) - 2 ^ (m + 1) else v % 2 ^ (m + 1)

theorem wrapU_id {n : Int} (h0 : 0 ≤ n) (h1 : n < 2 ^ 64) : IntKind.wrap .u64 n = n := by
  simp only [IntKind.wrap, IntKind.bits, IntKind.signed, Bool.false_and, Bool.false_eq_true, if_false]
  exact Int.emod_eq_of_lt h0 h1
theorem wrapU_eq (n : Int) : IntKind.wrap .u64 n = n % 2 ^ 64 := by
  simp [IntKind.wrap, IntKind.bits, IntKind.signed]
theorem l01Bit_eq (v i : Int) (h0 : 0 ≤ i) (h1 : i ≤ 63) : S_spec_l01Bit ((v, (i, ())), ()) = some (v % 2 ^ 64 / 2 ^ i.toNat % 2, ()) := by
  unfold S_spec_l01Bit
  dsimp only
  have hw : wrapI IntKind.u64 i = i := wrapU_id h0 (by omega)
  rw [hw, br_pos (le_t h0)]
  have hi : min i.toNat 64 = i.toNat := by omega
  have e : remI (ishr IntKind.u64 (wrapI IntKind.u64 v) i) 2 = v % 2 ^ 64 / 2 ^ i.toNat % 2 := by
    unfold remI ishr wrapI
    rw [wrapU_eq]
    show Int.tmod (Int.fdiv (v % 2 ^ 64) (2 ^ (min i.toNat 64))) 2 = _
    rw [hi]
    have hp : (0 : Int) < 2 ^ i.toNat := Int.pow_pos (by decide)
    rw [Int.fdiv_eq_ediv_of_nonneg _ (Int.le_of_lt hp), Int.tmod_eq_emod_of_nonneg (Int.ediv_nonneg (Int.emod_nonneg _ (by decide)) (Int.le_of_lt hp))]
  rw [e]
  rcases Int.emod_two_eq (v % 2 ^ 64 / 2 ^ i.toNat) with h | h
  · rw [h, br_neg (eq_f (by decide))]
  · rw [h, br_pos (eq_t rfl)]
/-- The number with its sign spread over all bits. -/
def spread (m u : Nat) : Nat := 2 ^ (m + 1) * ((u / 2 ^ m % 2) * (2 ^ (63 - m) - 1)) + u % 2 ^ (m + 1)
theorem spread_bit (m u i : Nat) (hm : m ≤ 63) (hi : i ≤ 63) : spread m u / 2 ^ i % 2 = u / 2 ^ (min i m) % 2 := by
  have hb : ∀ a j : Nat, a / 2 ^ j % 2 = (a.testBit j).toNat := fun a j => by rw [Nat.testBit_eq_decide_div_mod_eq]; rcases Nat.mod_two_eq_zero_or_one (a / 2 ^ j) with h | h <;> simp [h]
  rw [hb, hb]
  congr 1
  unfold spread
  rw [Nat.testBit_two_pow_mul_add _ (Nat.mod_lt _ (Nat.two_pow_pos _))]
  split
  · rename_i h
    rw [Nat.testBit_mod_two_pow, show min i m = i by omega]
    simp [h]
  · rename_i h
    rw [show min i m = m by omega, hb]
    cases hs : u.testBit m with
    | false => simp
    | true =>
      simp only [Bool.toNat_true, Nat.one_mul]
      rw [Nat.testBit_two_pow_sub_one]
      simp; omega
theorem spread_lt (m u : Nat) (hm : m ≤ 63) : spread m u < 2 ^ 64 := by
  unfold spread
  have h1 : u % 2 ^ (m + 1) < 2 ^ (m + 1) := Nat.mod_lt _ (Nat.two_pow_pos _)
  have h2 : (u / 2 ^ m % 2) * (2 ^ (63 - m) - 1) ≤ 2 ^ (63 - m) - 1 := by
    have : u / 2 ^ m % 2 ≤ 1 := by omega
    calc _ ≤ 1 * (2 ^ (63 - m) - 1) := Nat.mul_le_mul_right _ this
      _ = _ := Nat.one_mul _
  have h3 : 2 ^ (m + 1) * 2 ^ (63 - m) = (2 : Nat) ^ 64 := by rw [← Nat.pow_add]; congr 1; omega
  have h4 : 2 ^ (m + 1) * ((u / 2 ^ m % 2) * (2 ^ (63 - m) - 1)) ≤ 2 ^ (m + 1) * (2 ^ (63 - m) - 1) := Nat.mul_le_mul_left _ h2
  have h6 : 2 ^ (m + 1) * (2 ^ (63 - m) - 1) = 2 ^ 64 - 2 ^ (m + 1) := by rw [Nat.mul_sub, Nat.mul_one, h3]
  rw [h6] at h4
  have h5 : (2 : Nat) ^ (m + 1) ≤ 2 ^ 64 := Nat.pow_le_pow_right (by decide) (by omega)
  omega
def uns (v : Int) : Nat := (v % 2 ^ 64).toNat
theorem uns_cast (v : Int) : ((uns v : Nat) : Int) = v % 2 ^ 64 := by unfold uns; have := Int.emod_nonneg v (show (2 : Int) ^ 64 ≠ 0 by decide); omega
theorem spread_sx (m : Nat) (v : Int) (hm : m ≤ 63) : IntKind.wrap .i64 (spread m (uns v) : Nat) = sx m v := by
  have hlt := spread_lt m (uns v) hm
  have hu := uns_cast v
  have hp : ((2 ^ m : Nat) : Int) = 2 ^ m := by simp
  have hp1 : ((2 ^ (m + 1) : Nat) : Int) = 2 ^ (m + 1) := by simp
  have hs : v % 2 ^ 64 / 2 ^ m % 2 = ((uns v / 2 ^ m % 2 : Nat) : Int) := by rw [← hu]; simp
  have hr : v % 2 ^ (m + 1) = ((uns v % 2 ^ (m + 1) : Nat) : Int) := by
    have h1 : v % 2 ^ (m + 1) = v % 2 ^ 64 % 2 ^ (m + 1) := by
      rw [Int.emod_emod_of_dvd]
      exact ⟨2 ^ (63 - m), by rw [← Int.pow_add]; congr 1; omega⟩
    rw [h1, ← hu]; simp
  have hmod : uns v % 2 ^ (m + 1) < 2 ^ (m + 1) := Nat.mod_lt _ (Nat.two_pow_pos _)
  have h64 : 2 ^ (m + 1) * 2 ^ (63 - m) = (2 : Nat) ^ 64 := by rw [← Nat.pow_add]; congr 1; omega
  unfold sx
  rw [hs, hr]
  have hle : (2 : Nat) ^ (m + 1) ≤ 2 ^ 64 := Nat.pow_le_pow_right (by decide) (by omega)
  have hdbl : (2 : Nat) ^ (m + 1) = 2 ^ m * 2 := Nat.pow_succ 2 m
  have hle2 : (2 : Nat) ^ m ≤ 2 ^ 63 := Nat.pow_le_pow_right (by decide) hm
  have hhi : uns v % 2 ^ (m + 1) / 2 ^ m = uns v / 2 ^ m % 2 := by rw [hdbl, Nat.mod_mul_right_div_self]
  rcases Nat.mod_two_eq_zero_or_one (uns v / 2 ^ m) with h | h
  · rw [h, if_neg (by decide)]
    have e : spread m (uns v) = uns v % 2 ^ (m + 1) := by unfold spread; rw [h]; simp
    rw [e]
    have : uns v % 2 ^ (m + 1) < 2 ^ m := by
      rw [h] at hhi
      exact (Nat.div_eq_zero_iff.1 hhi).resolve_left (by have := Nat.two_pow_pos m; omega)
    exact wrap64_id (by unfold I64; omega)
  · rw [h, if_pos (by rfl)]
    have e : spread m (uns v) + 2 ^ (m + 1) = 2 ^ 64 + uns v % 2 ^ (m + 1) := by
      unfold spread
      rw [h, Nat.one_mul, Nat.mul_sub, Nat.mul_one, h64]
      omega
    have h2 : 2 ^ m ≤ uns v % 2 ^ (m + 1) := by
      rw [h] at hhi
      have := Nat.div_mul_le_self (uns v % 2 ^ (m + 1)) (2 ^ m)
      rw [hhi] at this; omega
    have : ((spread m (uns v) : Nat) : Int) = ((uns v % 2 ^ (m + 1) : Nat) : Int) - 2 ^ (m + 1) + 2 ^ 64 := by rw [← hp1]; omega
    rw [this]
    have hw : ∀ n : Int, IntKind.wrap .i64 (n + 2 ^ 64) = IntKind.wrap .i64 n := fun n => by
      have h3 : (n + 2 ^ 64) % 2 ^ IntKind.i64.bits = n % 2 ^ IntKind.i64.bits := Int.add_emod_right ..
      simp only [IntKind.wrap, h3]
    rw [hw]
    rw [← hp1]
    exact wrap64_id (by unfold I64; omega)
/-- The reference's sign. -/
theorem l01Sign_eq (v n : Int) (h0 : 1 ≤ n) (h1 : n ≤ 8) : S_spec_l01Sign ((v, (n, ())), ()) = some (sx (8 * n - 1).toNat v, ()) := by
  unfold S_spec_l01Sign
  obtain ⟨k, hk⟩ : ∃ k : Nat, n = k := ⟨n.toNat, by omega⟩
  subst hk
  generalize hm : (8 * (k : Int) - 1).toNat = m
  have hm63 : m ≤ 63 := by omega
  refine (iter_eq (fun x => x.1.1 = v ∧ x.1.2.1 = (k : Int) ∧ -1 ≤ x.1.2.2.2.1 ∧ x.1.2.2.2.1 ≤ 63 ∧ x.1.2.2.1 = ((spread m (uns v) / 2 ^ (x.1.2.2.2.1 + 1).toNat : Nat) : Int)) (fun x => (x.1.2.2.2.1 + 1).toNat)
    (fun _ => some (sx m v, ())) ?_ F _ ⟨rfl, rfl, by show (-1 : Int) ≤ 63; decide, by show (63 : Int) ≤ 63; decide, ?_⟩ (by show ((63 : Int) + 1).toNat < F; decide)).trans rfl
  · rintro ⟨⟨v', k', acc, i, _⟩, _⟩ rec ⟨rfl, hk', h2, h3, hacc⟩ hrec
    dsimp only at hk' h2 h3 hacc hrec ⊢
    subst hk'
    by_cases hi : 0 ≤ i
    · obtain ⟨j, rfl⟩ := Int.eq_ofNat_of_zero_le hi
      rw [br_pos (le_t hi)]
      have e1 : subI .i64 (mulI .i64 8 (k : Int)) 1 = (m : Int) := by
        rw [mul_id (by unfold I64; omega), sub_id (by unfold I64; omega)]; omega
      rw [e1]
      have e2 : imin (j : Int) (m : Int) = ((min j m : Nat) : Int) := by unfold imin; split <;> omega
      rw [e2, l01Bit_eq _ _ (by omega) (by omega), bnd_s]
      dsimp only
      have e3 : v' % 2 ^ 64 / 2 ^ (((min j m : Nat) : Int)).toNat % 2 = ((spread m (uns v') / 2 ^ j % 2 : Nat) : Int) := by
        rw [spread_bit m _ j hm63 (by omega), ← uns_cast]; simp
      rw [e3]
      have hlt := spread_lt m (uns v') hm63
      have e4 : spread m (uns v') / 2 ^ (((j : Int) + 1).toNat) = spread m (uns v') / 2 ^ j / 2 := by
        rw [show ((j : Int) + 1).toNat = j + 1 by omega, Nat.pow_succ, Nat.div_div_eq_div_mul]
      rw [e4] at hacc
      generalize hq : spread m (uns v') / 2 ^ j = q at hacc ⊢
      have hq2 : q < 2 ^ 64 := by rw [← hq]; exact Nat.lt_of_le_of_lt (Nat.div_le_self _ _) hlt
      have e5 : addI .u64 (mulI .u64 2 acc) (wrapI .u64 ((q % 2 : Nat) : Int)) = (q : Int) := by
        unfold addI mulI wrapI
        rw [hacc, wrapU_id (n := 2 * ((q / 2 : Nat) : Int)) (by omega) (by omega), wrapU_id (n := ((q % 2 : Nat) : Int)) (by omega) (by omega), wrapU_id (by omega) (by omega)]
        omega
      rw [e5, sub_id (by unfold I64; omega)]
      refine hrec _ ⟨rfl, rfl, by dsimp only; omega, by dsimp only; omega, ?_⟩ (by dsimp only; omega)
      dsimp only
      rw [show ((j : Int) - 1 + 1).toNat = j by omega, hq]
    · rw [br_neg (le_f hi)]
      have : i = -1 := by omega
      subst this
      rw [hacc]
      have : spread m (uns v') / 2 ^ ((-1 : Int) + 1).toNat = spread m (uns v') := by simp
      rw [this]
      show some (IntKind.wrap .i64 _, ()) = _
      rw [spread_sx m v' hm63]
  · have hlt := spread_lt m (uns v) hm63
    show (0 : Int) = ((spread m (uns v) / 2 ^ ((63 : Int) + 1).toNat : Nat) : Int)
    rw [show ((63 : Int) + 1).toNat = 64 from rfl, Nat.div_eq_of_lt hlt]; rfl
/-- The program's sign. -/
theorem sign_eq (v n : Int) (h0 : 1 ≤ n) (h1 : n ≤ 8) : S_impl_sign ((v, (n, ())), ()) = some (sx (8 * n - 1).toNat v, ()) := by
  unfold S_impl_sign
  dsimp only
  have e : subI .i64 64 (mulI .i64 8 n) = 64 - 8 * n := by rw [mul_id (by unfold I64; omega), sub_id (by unfold I64; omega)]
  rw [e, br_pos (le_t (by omega)), br_pos (le_t (by omega))]
  congr 2
  obtain ⟨m, hm⟩ : ∃ m : Nat, 8 * n - 1 = m := ⟨(8 * n - 1).toNat, by omega⟩
  have hn : 64 - 8 * n = ((63 - m : Nat) : Int) := by omega
  rw [hm, hn]
  have hm63 : m ≤ 63 := by omega
  simp only [Int.toNat_natCast]
  unfold ishr ishl
  rw [show min (((63 - m : Nat) : Int)).toNat IntKind.i64.bits = 63 - m by simp [IntKind.bits]; omega]
  have hp : (0 : Int) < 2 ^ (63 - m) := Int.pow_pos (by decide)
  rw [Int.fdiv_eq_ediv_of_nonneg _ (Int.le_of_lt hp)]
  have h64 : (2 : Int) ^ (m + 1) * 2 ^ (63 - m) = 2 ^ 64 := by rw [← Int.pow_add]; congr 1; omega
  have h63 : (2 : Int) ^ m * 2 ^ (63 - m) = 2 ^ 63 := by rw [← Int.pow_add]; congr 1; omega
  have hr := Int.emod_nonneg v (show (2 : Int) ^ (m + 1) ≠ 0 from Int.ne_of_gt (Int.pow_pos (by decide)))
  have hr2 := Int.emod_lt_of_pos v (show (0 : Int) < 2 ^ (m + 1) from Int.pow_pos (by decide))
  -- the sign
  have hsv : v % 2 ^ 64 / 2 ^ m % 2 = v % 2 ^ (m + 1) / 2 ^ m := by
    have h1 : v % 2 ^ (m + 1) = v % 2 ^ 64 % 2 ^ (m + 1) := by
      rw [Int.emod_emod_of_dvd]
      exact ⟨2 ^ (63 - m), h64.symm⟩
    rw [h1, Int.pow_succ 2 m]
    have hu := uns_cast v
    rw [← hu]
    have : ((2 : Int) ^ m) = ((2 ^ m : Nat) : Int) := by simp
    rw [this]
    have h2 : ((2 ^ m : Nat) : Int) * 2 = ((2 ^ m * 2 : Nat) : Int) := by simp
    rw [h2]
    rw [← Int.natCast_ediv, ← Int.natCast_emod, ← Int.natCast_ediv, Nat.mod_mul_right_div_self]
    simp
  have hdm : v = v % 2 ^ (m + 1) + 2 ^ (m + 1) * (v / 2 ^ (m + 1)) := (Int.emod_add_mul_ediv ..).symm
  have hmul : v * 2 ^ (63 - m) % 2 ^ 64 = v % 2 ^ (m + 1) * 2 ^ (63 - m) := by
    rw [← h64, Int.mul_comm v, Int.mul_comm (2 ^ (m + 1)), Int.mul_emod_mul_of_pos _ _ hp, Int.mul_comm]
  unfold sx
  rw [hsv]
  generalize v % 2 ^ (m + 1) = r at *
  have hpm : (0 : Int) < 2 ^ m := Int.pow_pos (by decide)
  have hdbl : (2 : Int) ^ (m + 1) = 2 ^ m * 2 := Int.pow_succ 2 m
  simp only [IntKind.wrap, IntKind.bits, IntKind.signed, Bool.true_and, decide_eq_true_eq, ge_iff_le]
  rw [show ((64 : Nat) - 1) = 63 from rfl, hmul]
  by_cases hs : (2 : Int) ^ m ≤ r
  · have hq : r / 2 ^ m = 1 := by
      rw [Int.ediv_eq_iff_of_pos hpm]
      omega
    rw [hq, if_pos rfl]
    have hge : (2 : Int) ^ 63 ≤ r * 2 ^ (63 - m) := by rw [← h63]; exact Int.mul_le_mul_of_nonneg_right hs (Int.le_of_lt hp)
    rw [if_pos hge, ← h64, ← Int.sub_mul, Int.mul_ediv_cancel _ (Int.ne_of_gt hp)]
  · have hq : r / 2 ^ m = 0 := Int.ediv_eq_zero_of_lt hr (by omega)
    rw [hq]
    have hge : ¬ (2 : Int) ^ 63 ≤ r * 2 ^ (63 - m) := by
      rw [← h63, Int.not_le]
      exact Int.mul_lt_mul_of_pos_right (by omega) hp
    rw [if_neg hge, if_neg (by decide), Int.mul_ediv_cancel _ (Int.ne_of_gt hp)]
theorem fits_eq (v n : Int) (h0 : 1 ≤ n) (h1 : n ≤ 4) : S_impl_fits ((v, (n, ())), ()) = S_spec_l05Fits ((v, (n, ())), ()) := by
  unfold S_impl_fits S_spec_l05Fits
  dsimp only
  rw [sign_eq v n h0 (by omega), show imin n 4 = n by unfold imin; split <;> omega, l01Sign_eq v n h0 (by omega)]
def fitsB (v n : Int) : Bool := eqI (sx (8 * n - 1).toNat v) v
theorem l05Fits_eq (v n : Int) (h0 : 1 ≤ n) (h1 : n ≤ 4) : S_spec_l05Fits ((v, (n, ())), ()) = some (fitsB v n, ()) := by
  unfold S_spec_l05Fits
  dsimp only
  rw [show imin n 4 = n by unfold imin; split <;> omega, l01Sign_eq v n h0 (by omega), bnd_s]
  rfl
end Go.Den.G
namespace Go.Den.G
open Go.Den
set_option maxRecDepth 100000

/-! ### kinds by letters -/
def chars : List UInt8 := [114, 109, 105, 48]
theorem has_closed : ∀ c ∈ chars, ∀ d ∈ chars, S_spec_l05Has (([c], ((d.toNat : Int), ())), ()) = some (decide (c = d), ()) := by decide +kernel
def kindP (k : Int) (c : UInt8) : Prop := k = 1 ∧ c = 114 ∨ k = 2 ∧ c = 109 ∨ k = 3 ∧ c = 105 ∨ k = 0 ∧ c = 48
instance (k : Int) (c : UInt8) : Decidable (kindP k c) := by unfold kindP; infer_instance
theorem l05Kind_eq {k r b i s d m : Int} {c : UInt8} (hc : c ∈ chars) : S_spec_l05Kind (((k, (r, (b, (i, (s, (d, (m, ()))))))), ([c], ())), ()) = some (decide (kindP k c), ()) := by
  unfold S_spec_l05Kind
  dsimp only
  have h1 := has_closed c hc 114 (by decide)
  have h2 := has_closed c hc 109 (by decide)
  have h3 := has_closed c hc 105 (by decide)
  have h4 := has_closed c hc 48 (by decide)
  simp only [show ((114 : UInt8).toNat : Int) = 114 from rfl, show ((109 : UInt8).toNat : Int) = 109 from rfl, show ((105 : UInt8).toNat : Int) = 105 from rfl, show ((48 : UInt8).toNat : Int) = 48 from rfl] at h1 h2 h3 h4
  simp only [h1, h2, h3, h4, bnd_s, br_and, br_or]
  congr 2
  rw [Bool.eq_iff_iff, decide_eq_true_eq]
  simp only [Bool.or_eq_true, Bool.and_eq_true, eq_iff, decide_eq_true_eq]
  unfold kindP
  simp only [or_assoc]
def pairB (kd ks : Int) (q : List UInt8) : Bool := match q with
  | [a, b] => decide (kindP kd a) && decide (kindP ks b)
  | _ => false
def okPairs (ps : List (List UInt8)) : Prop := ∀ q ∈ ps, ∃ a ∈ chars, ∃ b ∈ chars, q = [a, b]
theorem l05Two_eq (x : Ins) (ps : List (List UInt8)) (hp : okPairs ps) (hl : ps.length ≤ 100) : S_spec_l05Two ((x, (ps, ())), ()) = some (ps.any (pairB x.dst.kind x.src.kind), ()) := by
  unfold S_spec_l05Two
  dsimp only [tIns, tOpd]
  refine (Ret.iter (fun y => ∃ i : Nat, i ≤ ps.length ∧ (ps.drop i).any (pairB x.dst.kind x.src.kind) = ps.any (pairB x.dst.kind x.src.kind) ∧ y = ((ps, ((i : Int), ())), ((tIns x ()), ()))) (fun y => ps.length - y.1.2.1.toNat) ?_ F _ ⟨0, by omega, rfl, rfl⟩ (by unfold F; simp; omega)).eq
  rintro _ rec ⟨i, hi, ha, rfl⟩ hrec
  dsimp only [tIns, tOpd, cp7, d11]
  by_cases h : i < ps.length
  · obtain ⟨a, hca, b, hcb, e⟩ := hp ps[i] (List.getElem_mem h)
    have hg : getL ps (i : Int) (dflt .s) = [a, b] := by rw [getL_nat h, e]
    rw [br_pos (lt_t (by unfold lenL; omega)), br_pos (by simp [inR, lenL]; omega), hg, br_pos (show inC 1 (lenL [a, b]) = true from rfl)]
    rw [show takeL [a, b] 1 = [a] from rfl, l05Kind_eq hca, bnd_s]
    dsimp only
    rw [List.drop_eq_getElem_cons h, e, List.any_cons] at ha
    have next : (ps.drop (i + 1)).any (pairB x.dst.kind x.src.kind) = ps.any (pairB x.dst.kind x.src.kind) → Ret (rec ((ps, (addI .i64 (i : Int) 1, ())), ((tIns x ()), ()))) (fun z => z = (ps.any (pairB x.dst.kind x.src.kind), ())) := fun h2 => by
      rw [addI_id (by omega) (by omega)]
      exact hrec _ ⟨i + 1, by omega, h2, rfl⟩ (by simp; omega)
    by_cases h1 : kindP x.dst.kind a
    · rw [decide_eq_true h1, br_pos rfl, br_pos (by simp [inR, lenL]; omega), br_pos (show inC 1 (lenL [a, b]) = true from rfl)]
      rw [show dropL [a, b] 1 = [b] from rfl, l05Kind_eq hcb, bnd_s]
      dsimp only
      by_cases h2 : kindP x.src.kind b
      · rw [decide_eq_true h2, br_pos rfl]
        refine Ret.some ?_
        rw [← ha]
        simp [pairB, h1, h2]
      · rw [decide_eq_false h2, br_neg rfl]
        refine next ?_
        rw [← ha]
        simp [pairB, h2]
    · rw [decide_eq_false h1, br_neg rfl]
      refine next ?_
      rw [← ha]
      simp [pairB, h1]
  · rw [br_neg (lt_f (by unfold lenL; omega))]
    refine Ret.some ?_
    rw [← ha, List.drop_of_length_le (by omega)]
    rfl
end Go.Den.G
namespace Go.Den.G
open Go.Den
set_option maxRecDepth 100000

/-! ### the forms of an operation -/
def fz (n : Nat) : List Int × List UInt8 := match S_impl_formsOf (((n : Int), ()), ()) with
  | some x => (x.1.1, x.1.2.1)
  | none => ([], [])
theorem forms_closed : ∀ n : Nat, n < 45 → (S_impl_formsOf (((n : Int), ()), ())).isSome = true := by decide +kernel
theorem formsOf_eq {n : Nat} (h : n < 45) : S_impl_formsOf (((n : Int), ()), ()) = some (((fz n).1, ((fz n).2, ())), ()) := by
  have := forms_closed n h
  unfold fz
  cases hx : S_impl_formsOf (((n : Int), ()), ()) with
  | none => rw [hx] at this; cases this
  | some x => obtain ⟨⟨a, b, _⟩, _⟩ := x; rfl
/-- Which sizes: all of them, no byte, eight, one, none. -/
def szK (n : Nat) : Nat := if n ≤ 16 ∨ n = 18 ∨ n = 19 ∨ (20 ≤ n ∧ n ≤ 24) ∨ n = 28 then 0 else if n = 17 ∨ n = 25 ∨ n = 26 ∨ n = 27 ∨ n = 36 ∨ n = 39 ∨ n = 40 then 1 else if 29 ≤ n ∧ n ≤ 32 then 2 else if n = 35 ∨ n = 41 ∨ n = 42 then 3 else 4
def szL (k : Nat) : List Int := if k = 0 then [1, 2, 4, 8] else if k = 1 then [2, 4, 8] else if k = 2 then [8] else if k = 3 then [1] else [0]
/-- Which kinds of operands go together. -/
def prK (n : Nat) : List (List UInt8) :=
  if n ≤ 9 then [[114, 114], [109, 114], [114, 109], [114, 105], [109, 105]]
  else if n = 10 ∨ (20 ≤ n ∧ n ≤ 24) then [[114, 114], [109, 114], [114, 105], [109, 105]]
  else if n = 28 then [[114, 114], [109, 114]]
  else if n = 11 ∨ n = 12 ∨ n = 18 ∨ n = 19 ∨ n = 30 ∨ n = 35 then [[114, 48], [109, 48]]
  else if 13 ≤ n ∧ n ≤ 16 then [[48, 114], [48, 109]]
  else if n = 17 ∨ n = 36 ∨ n = 26 ∨ n = 27 then [[114, 114], [114, 109]]
  else if n = 25 then [[114, 109]]
  else if n = 29 ∨ n = 31 ∨ n = 32 then [[48, 114], [48, 109], [48, 105]]
  else if n = 33 ∨ n = 44 then [[48, 105]]
  else [[48, 48]]
theorem fz_sizes : ∀ n, n < 45 → 1 ≤ n → (fz n).1 = szL (szK n) := by decide +kernel
def letK (k : Nat) : UInt8 := if k = 1 then 114 else if k = 2 then 109 else if k = 3 then 105 else 45
theorem fz_forms : ∀ n, n < 45 → 1 ≤ n → (fz n).2.length ≤ 20 ∧ ∀ a, a < 4 → ∀ b, b < 4 → hasS ([32] ++ (fz n).2 ++ [32]) ([32] ++ [letK a, letK b] ++ [32]) = (prK n).any (pairB (a : Int) (b : Int)) := by decide +kernel
theorem prK_ok : ∀ n, n < 45 → okPairs (prK n) := by
  intro n _
  unfold prK
  repeat' split
  all_goals
    intro q hq
    simp only [List.mem_cons, List.not_mem_nil, or_false] at hq
    rcases hq with rfl | rfl | rfl | rfl | rfl <;> exact ⟨_, by decide, _, by decide, rfl⟩
end Go.Den.G
namespace Go.Den.G
open Go.Den
set_option maxRecDepth 100000

/-! ### an operand beside its size -/
def regX (r z : Int) : Prop := 0 ≤ r ∧ r ≤ 15 ∨ z = 1 ∧ 16 ≤ r ∧ r ≤ 19
def opB (k r b i s d m z : Int) : Prop :=
  k = 1 ∧ b = 0 ∧ i = 0 ∧ s = 0 ∧ d = 0 ∧ m = 0 ∧ regX r z ∨ memP k r b i s d m ∨ k = 3 ∧ r = 0 ∧ b = 0 ∧ i = 0 ∧ s = 0 ∧ d = 0 ∨ k = 0 ∧ r = 0 ∧ b = 0 ∧ i = 0 ∧ s = 0 ∧ d = 0 ∧ m = 0
instance (r z : Int) : Decidable (regX r z) := by unfold regX; infer_instance
instance (k r b i s d m z : Int) : Decidable (opB k r b i s d m z) := by unfold opB; infer_instance
theorem opOK_iff {k r b i s d m z : Int} : opOK k r b i s d m z ↔ sizeP z ∧ opB k r b i s d m z := by
  unfold opOK opB
  constructor
  · rintro ⟨h, g⟩
    exact ⟨h, g.imp (fun ⟨a1, a2, a3, a4, a5, a6, a7⟩ => ⟨a1, a2, a3, a4, a5, a6, (regP_iff h).2 a7⟩) id⟩
  · rintro ⟨h, g⟩
    exact ⟨h, g.imp (fun ⟨a1, a2, a3, a4, a5, a6, a7⟩ => ⟨a1, a2, a3, a4, a5, a6, (regP_iff h).1 a7⟩) id⟩
theorem l04Operand_eq {k r b i s d m z : Int} : S_spec_l04Operand (((k, (r, (b, (i, (s, (d, (m, ()))))))), (z, ())), ()) = some (decide (opB k r b i s d m z), ()) := by
  unfold S_spec_l04Operand
  dsimp only [p5, p6]
  rw [l01In_within, l01Size_isSize]
  by_cases h1 : k = 1
  · subst h1
    rw [br_pos (eq_t rfl)]
    have hx : (br (eqI z 1) (some (Sum.inl ((19, ()), ((1, (r, (b, (i, (s, (d, (m, ()))))))), ())) : Sum ((Int × Unit) × ((Int × (Int × (Int × (Int × (Int × (Int × (Int × Unit))))))) × Unit)) (Bool × Unit))) (some (Sum.inl ((15, ()), ((1, (r, (b, (i, (s, (d, (m, ()))))))), ())))))
        = some (Sum.inl ((if z = 1 then 19 else 15, ()), ((1, (r, (b, (i, (s, (d, (m, ()))))))), ()))) := by
      by_cases h : z = 1
      · rw [br_pos (eq_t h), if_pos h]
      · rw [br_neg (eq_f h), if_neg h]
    rw [hx]
    simp only [bnd_s, sumE_l, within_dec, br_and]
    congr 2
    rw [Bool.eq_iff_iff, decide_eq_true_eq]
    simp only [Bool.and_eq_true, andB_iff, eq_iff, decide_eq_true_eq]
    unfold opB regX memP
    by_cases h : z = 1
    · rw [if_pos h]; simp only [true_and]; omega
    · rw [if_neg h]; simp only [true_and]; omega
  · rw [br_neg (eq_f h1)]
    by_cases h2 : k = 2
    · subst h2
      rw [br_pos (eq_t rfl)]
      simp only [within_dec, isSize_dec, br_or, br_and, bnd_s, eqI, ltI, leI]
      rw [brF]
      congr 2
      have e : opB 2 r b i s d m z ↔ memP 2 r b i s d m := by unfold opB; simp
      rw [Bool.eq_iff_iff, decide_eq_true_eq, e]
      unfold memP
      simp only [Bool.and_eq_true, Bool.or_eq_true, Bool.not_eq_true', Bool.or_eq_false_iff, decide_eq_true_eq, notB_iff, notB_nf, decide_eq_false_iff_not]
      clear h1 e
      constructor
      · rintro ⟨⟨⟨⟨⟨⟨⟨g1, g2⟩, g3⟩, g4⟩, g5⟩, g6⟩, g7⟩, g8, g9⟩
        refine ⟨trivial, g1, g2, g3.1, g3.2, g4.1, g4.2, g5, ?_, ?_, g7.1, g7.2⟩
        · omega
        · omega
      · rintro ⟨_, g1, g2, g3, g4, g5, g6, g7, g8, g9, g10, g11⟩
        refine ⟨⟨⟨⟨⟨⟨⟨g1, g2⟩, ⟨g3, g4⟩⟩, ⟨g5, g6⟩⟩, g7⟩, ?_⟩, ⟨g10, g11⟩⟩, ?_, ?_⟩
        · omega
        · omega
        · omega
    · rw [br_neg (eq_f h2)]
      by_cases h3 : k = 3
      · subst h3
        rw [br_pos (eq_t rfl)]
        congr 2
        rw [Bool.eq_iff_iff, decide_eq_true_eq]
        simp only [andB_iff, eq_iff]
        unfold opB memP
        simp
      · rw [br_neg (eq_f h3)]
        congr 2
        rw [Bool.eq_iff_iff, decide_eq_true_eq]
        simp only [andB_iff, eq_iff]
        unfold opB memP
        simp [h1, h2, h3]
end Go.Den.G
namespace Go.Den.G
open Go.Den
set_option maxRecDepth 100000
set_option maxHeartbeats 1000000
set_option linter.unusedSimpArgs false

/-! ### what the reference asks of kinds, sizes and numbers -/
theorem br_t {α : Type} {x y : α} : br true x y = x := rfl
def fitB (v z : Int) : Bool := fitsB v (imin z 4)
theorem l05Fits_z {v z : Int} (h : 1 ≤ z) : S_spec_l05Fits ((v, (z, ())), ()) = some (fitB v z, ()) := by
  unfold fitB
  by_cases h4 : z ≤ 4
  · rw [imin_l h4]; exact l05Fits_eq v z h h4
  · rw [imin_r (by omega), ← l05Fits_eq v 4 (by decide) (by decide)]
    unfold S_spec_l05Fits
    dsimp only
    rw [imin_r (by omega), imin_r (by decide)]
section
variable (x : Ins)
theorem insT_tIns : insT (tIns x ()) = x := rfl
theorem tI1 : (tIns x ()).1 = x.op := rfl
theorem tI2 : (tIns x ()).2.1 = x.size := rfl
theorem tI4 : (tIns x ()).2.2.2.1 = x.frm := rfl
theorem tI11 : p11 (tIns x ()) = x.src.kind := rfl
theorem tI12 : p12 (tIns x ()) = x.src.reg := rfl
theorem eqI_d (a b : Int) : eqI a b = decide (a = b) := rfl
theorem leI_d (a b : Int) : leI a b = decide (a ≤ b) := rfl
theorem ltI_d (a b : Int) : ltI a b = decide (a < b) := rfl
end
def numB (x : Ins) (n : Nat) : Bool :=
  if n ≤ 8 ∨ n = 10 then fitB x.src.imm x.size
  else if n = 9 then decide (x.size = 8 ∧ x.dst.kind = 1) || fitB x.src.imm x.size
  else if 20 ≤ n ∧ n ≤ 24 then decide (¬ (x.src.kind = 1 ∧ x.src.reg ≠ 1) ∧ 0 ≤ x.src.imm ∧ x.src.imm ≤ 255)
  else if n = 26 then decide (x.frm = 1 ∨ x.frm = 2 ∧ 2 < x.size)
  else if n = 27 then decide (x.frm = 1 ∨ x.frm = 2 ∧ 2 < x.size ∨ x.frm = 4 ∧ x.size = 8)
  else if n = 29 ∨ n = 31 ∨ n = 32 ∨ n = 33 then fitB x.src.imm 4
  else if n = 44 then decide (0 ≤ x.src.imm ∧ x.src.imm ≤ 255)
  else true
def shB (x : Ins) (n : Nat) : Bool := decide (x.size ∈ szL (szK n)) && ((prK n).any (pairB x.dst.kind x.src.kind) && numB x n)
theorem two_eq (x : Ins) (ps : List (List UInt8)) (n : Nat) (hn : n < 45) (h : prK n = ps) (hl : ps.length ≤ 100) : S_spec_l05Two ((x, (ps, ())), ()) = some (ps.any (pairB x.dst.kind x.src.kind), ()) :=
  l05Two_eq x ps (h ▸ prK_ok n hn) hl
theorem any_eq (n : Nat) (ps : List (List UInt8)) (h : prK n = ps) (x : Ins) : (prK n).any (pairB x.dst.kind x.src.kind) = ps.any (pairB x.dst.kind x.src.kind) := by rw [h]
theorem shape1 (x : Ins) (h : x.op = 1) : S_spec_l05Shape ((x, ()), ()) = some (shB x 1, ()) := by
  have h2 := two_eq x [[114, 114], [109, 114], [114, 109], [114, 105], [109, 105]] 1 (by decide) rfl (by decide)
  unfold shB
  rw [any_eq 1 [[114, 114], [109, 114], [114, 109], [114, 105], [109, 105]] rfl]
  generalize [[114, 114], [109, 114], [114, 109], [114, 105], [109, 105]].any (pairB x.dst.kind x.src.kind) = A at h2 ⊢
  unfold S_spec_l05Shape
  dsimp only
  rw [l01Size_isSize, isSize_dec, bnd_s]
  dsimp only
  by_cases hs : x.size = 1 ∨ x.size = 2 ∨ x.size = 4 ∨ x.size = 8
  · have h3 := l05Fits_z (v := x.src.imm) (z := x.size) (by omega)
    have h4 := l05Fits_z (v := x.src.imm) (z := 4) (by decide)
    simp only [h, h2, h3, h4, decide_eq_true hs, br_and, br_or, bnd_s, br_f, br_t, sumE_l, sumE_r, tI1, tI2, tI4, tI11, tI12, insT_tIns, Int.reduceEq, Int.reduceLE, Int.reduceLT, decide_true, decide_false, and_false, and_true, true_and, false_and, l01In_within, within_dec, show leI 1 8 = true from rfl, show eqI 1 9 = false from rfl, show eqI 1 10 = false from rfl, show eqI 1 28 = false from rfl, show eqI 1 11 = false from rfl, show eqI 1 12 = false from rfl, show eqI 1 18 = false from rfl, show eqI 1 19 = false from rfl, show eqI 1 17 = false from rfl, show eqI 1 36 = false from rfl, show eqI 1 25 = false from rfl, show eqI 1 26 = false from rfl, show eqI 1 27 = false from rfl, show eqI 1 29 = false from rfl, show eqI 1 31 = false from rfl, show eqI 1 32 = false from rfl, show eqI 1 30 = false from rfl, show eqI 1 33 = false from rfl, show eqI 1 35 = false from rfl, show eqI 1 39 = false from rfl, show eqI 1 40 = false from rfl, show eqI 1 41 = false from rfl, show eqI 1 42 = false from rfl, show eqI 1 44 = false from rfl]
    have hq : decide (x.size ∈ szL (szK 1)) = decide (x.size ∈ szL 0) := rfl
    rw [hq]
    rcases hs with hs | hs | hs | hs <;> simp [brF, szL, numB, notB, eqI_d, leI_d, ltI_d, hs, Bool.and_comm, Bool.and_left_comm, Bool.and_assoc, Bool.or_assoc]
  · have h4 := l05Fits_z (v := x.src.imm) (z := 4) (by decide)
    simp only [h, h2, h4, decide_eq_false hs, br_and, br_or, bnd_s, br_f, br_t, sumE_l, sumE_r, tI1, tI2, tI4, tI11, tI12, insT_tIns, Int.reduceEq, Int.reduceLE, Int.reduceLT, decide_true, decide_false, and_false, and_true, true_and, false_and, l01In_within, within_dec, show leI 1 8 = true from rfl, show eqI 1 9 = false from rfl, show eqI 1 10 = false from rfl, show eqI 1 28 = false from rfl, show eqI 1 11 = false from rfl, show eqI 1 12 = false from rfl, show eqI 1 18 = false from rfl, show eqI 1 19 = false from rfl, show eqI 1 17 = false from rfl, show eqI 1 36 = false from rfl, show eqI 1 25 = false from rfl, show eqI 1 26 = false from rfl, show eqI 1 27 = false from rfl, show eqI 1 29 = false from rfl, show eqI 1 31 = false from rfl, show eqI 1 32 = false from rfl, show eqI 1 30 = false from rfl, show eqI 1 33 = false from rfl, show eqI 1 35 = false from rfl, show eqI 1 39 = false from rfl, show eqI 1 40 = false from rfl, show eqI 1 41 = false from rfl, show eqI 1 42 = false from rfl, show eqI 1 44 = false from rfl]
    have hz : x.size ≠ 1 ∧ x.size ≠ 2 ∧ x.size ≠ 4 ∧ x.size ≠ 8 := by omega
    simp [brF, szL, szK, numB, notB, eqI_d, leI_d, ltI_d, hz, Bool.and_comm, Bool.and_left_comm, Bool.and_assoc, Bool.or_assoc]
theorem shape2 (x : Ins) (h : x.op = 2) : S_spec_l05Shape ((x, ()), ()) = some (shB x 2, ()) := by
  have h2 := two_eq x [[114, 114], [109, 114], [114, 109], [114, 105], [109, 105]] 2 (by decide) rfl (by decide)
  unfold shB
  rw [any_eq 2 [[114, 114], [109, 114], [114, 109], [114, 105], [109, 105]] rfl]
  generalize [[114, 114], [109, 114], [114, 109], [114, 105], [109, 105]].any (pairB x.dst.kind x.src.kind) = A at h2 ⊢
  unfold S_spec_l05Shape
  dsimp only
  rw [l01Size_isSize, isSize_dec, bnd_s]
  dsimp only
  by_cases hs : x.size = 1 ∨ x.size = 2 ∨ x.size = 4 ∨ x.size = 8
  · have h3 := l05Fits_z (v := x.src.imm) (z := x.size) (by omega)
    have h4 := l05Fits_z (v := x.src.imm) (z := 4) (by decide)
    simp only [h, h2, h3, h4, decide_eq_true hs, br_and, br_or, bnd_s, br_f, br_t, sumE_l, sumE_r, tI1, tI2, tI4, tI11, tI12, insT_tIns, Int.reduceEq, Int.reduceLE, Int.reduceLT, decide_true, decide_false, and_false, and_true, true_and, false_and, l01In_within, within_dec, show leI 2 8 = true from rfl, show eqI 2 9 = false from rfl, show eqI 2 10 = false from rfl, show eqI 2 28 = false from rfl, show eqI 2 11 = false from rfl, show eqI 2 12 = false from rfl, show eqI 2 18 = false from rfl, show eqI 2 19 = false from rfl, show eqI 2 17 = false from rfl, show eqI 2 36 = false from rfl, show eqI 2 25 = false from rfl, show eqI 2 26 = false from rfl, show eqI 2 27 = false from rfl, show eqI 2 29 = false from rfl, show eqI 2 31 = false from rfl, show eqI 2 32 = false from rfl, show eqI 2 30 = false from rfl, show eqI 2 33 = false from rfl, show eqI 2 35 = false from rfl, show eqI 2 39 = false from rfl, show eqI 2 40 = false from rfl, show eqI 2 41 = false from rfl, show eqI 2 42 = false from rfl, show eqI 2 44 = false from rfl]
    have hq : decide (x.size ∈ szL (szK 2)) = decide (x.size ∈ szL 0) := rfl
    rw [hq]
    rcases hs with hs | hs | hs | hs <;> simp [brF, szL, numB, notB, eqI_d, leI_d, ltI_d, hs, Bool.and_comm, Bool.and_left_comm, Bool.and_assoc, Bool.or_assoc]
  · have h4 := l05Fits_z (v := x.src.imm) (z := 4) (by decide)
    simp only [h, h2, h4, decide_eq_false hs, br_and, br_or, bnd_s, br_f, br_t, sumE_l, sumE_r, tI1, tI2, tI4, tI11, tI12, insT_tIns, Int.reduceEq, Int.reduceLE, Int.reduceLT, decide_true, decide_false, and_false, and_true, true_and, false_and, l01In_within, within_dec, show leI 2 8 = true from rfl, show eqI 2 9 = false from rfl, show eqI 2 10 = false from rfl, show eqI 2 28 = false from rfl, show eqI 2 11 = false from rfl, show eqI 2 12 = false from rfl, show eqI 2 18 = false from rfl, show eqI 2 19 = false from rfl, show eqI 2 17 = false from rfl, show eqI 2 36 = false from rfl, show eqI 2 25 = false from rfl, show eqI 2 26 = false from rfl, show eqI 2 27 = false from rfl, show eqI 2 29 = false from rfl, show eqI 2 31 = false from rfl, show eqI 2 32 = false from rfl, show eqI 2 30 = false from rfl, show eqI 2 33 = false from rfl, show eqI 2 35 = false from rfl, show eqI 2 39 = false from rfl, show eqI 2 40 = false from rfl, show eqI 2 41 = false from rfl, show eqI 2 42 = false from rfl, show eqI 2 44 = false from rfl]
    have hz : x.size ≠ 1 ∧ x.size ≠ 2 ∧ x.size ≠ 4 ∧ x.size ≠ 8 := by omega
    simp [brF, szL, szK, numB, notB, eqI_d, leI_d, ltI_d, hz, Bool.and_comm, Bool.and_left_comm, Bool.and_assoc, Bool.or_assoc]
theorem shape3 (x : Ins) (h : x.op = 3) : S_spec_l05Shape ((x, ()), ()) = some (shB x 3, ()) := by
  have h2 := two_eq x [[114, 114], [109, 114], [114, 109], [114, 105], [109, 105]] 3 (by decide) rfl (by decide)
  unfold shB
  rw [any_eq 3 [[114, 114], [109, 114], [114, 109], [114, 105], [109, 105]] rfl]
  generalize [[114, 114], [109, 114], [114, 109], [114, 105], [109, 105]].any (pairB x.dst.kind x.src.kind) = A at h2 ⊢
  unfold S_spec_l05Shape
  dsimp only
  rw [l01Size_isSize, isSize_dec, bnd_s]
  dsimp only
  by_cases hs : x.size = 1 ∨ x.size = 2 ∨ x.size = 4 ∨ x.size = 8
  · have h3 := l05Fits_z (v := x.src.imm) (z := x.size) (by omega)
    have h4 := l05Fits_z (v := x.src.imm) (z := 4) (by decide)
    simp only [h, h2, h3, h4, decide_eq_true hs, br_and, br_or, bnd_s, br_f, br_t, sumE_l, sumE_r, tI1, tI2, tI4, tI11, tI12, insT_tIns, Int.reduceEq, Int.reduceLE, Int.reduceLT, decide_true, decide_false, and_false, and_true, true_and, false_and, l01In_within, within_dec, show leI 3 8 = true from rfl, show eqI 3 9 = false from rfl, show eqI 3 10 = false from rfl, show eqI 3 28 = false from rfl, show eqI 3 11 = false from rfl, show eqI 3 12 = false from rfl, show eqI 3 18 = false from rfl, show eqI 3 19 = false from rfl, show eqI 3 17 = false from rfl, show eqI 3 36 = false from rfl, show eqI 3 25 = false from rfl, show eqI 3 26 = false from rfl, show eqI 3 27 = false from rfl, show eqI 3 29 = false from rfl, show eqI 3 31 = false from rfl, show eqI 3 32 = false from rfl, show eqI 3 30 = false from rfl, show eqI 3 33 = false from rfl, show eqI 3 35 = false from rfl, show eqI 3 39 = false from rfl, show eqI 3 40 = false from rfl, show eqI 3 41 = false from rfl, show eqI 3 42 = false from rfl, show eqI 3 44 = false from rfl]
    have hq : decide (x.size ∈ szL (szK 3)) = decide (x.size ∈ szL 0) := rfl
    rw [hq]
    rcases hs with hs | hs | hs | hs <;> simp [brF, szL, numB, notB, eqI_d, leI_d, ltI_d, hs, Bool.and_comm, Bool.and_left_comm, Bool.and_assoc, Bool.or_assoc]
  · have h4 := l05Fits_z (v := x.src.imm) (z := 4) (by decide)
    simp only [h, h2, h4, decide_eq_false hs, br_and, br_or, bnd_s, br_f, br_t, sumE_l, sumE_r, tI1, tI2, tI4, tI11, tI12, insT_tIns, Int.reduceEq, Int.reduceLE, Int.reduceLT, decide_true, decide_false, and_false, and_true, true_and, false_and, l01In_within, within_dec, show leI 3 8 = true from rfl, show eqI 3 9 = false from rfl, show eqI 3 10 = false from rfl, show eqI 3 28 = false from rfl, show eqI 3 11 = false from rfl, show eqI 3 12 = false from rfl, show eqI 3 18 = false from rfl, show eqI 3 19 = false from rfl, show eqI 3 17 = false from rfl, show eqI 3 36 = false from rfl, show eqI 3 25 = false from rfl, show eqI 3 26 = false from rfl, show eqI 3 27 = false from rfl, show eqI 3 29 = false from rfl, show eqI 3 31 = false from rfl, show eqI 3 32 = false from rfl, show eqI 3 30 = false from rfl, show eqI 3 33 = false from rfl, show eqI 3 35 = false from rfl, show eqI 3 39 = false from rfl, show eqI 3 40 = false from rfl, show eqI 3 41 = false from rfl, show eqI 3 42 = false from rfl, show eqI 3 44 = false from rfl]
    have hz : x.size ≠ 1 ∧ x.size ≠ 2 ∧ x.size ≠ 4 ∧ x.size ≠ 8 := by omega
    simp [brF, szL, szK, numB, notB, eqI_d, leI_d, ltI_d, hz, Bool.and_comm, Bool.and_left_comm, Bool.and_assoc, Bool.or_assoc]
theorem shape4 (x : Ins) (h : x.op = 4) : S_spec_l05Shape ((x, ()), ()) = some (shB x 4, ()) := by
  have h2 := two_eq x [[114, 114], [109, 114], [114, 109], [114, 105], [109, 105]] 4 (by decide) rfl (by decide)
  unfold shB
  rw [any_eq 4 [[114, 114], [109, 114], [114, 109], [114, 105], [109, 105]] rfl]
  generalize [[114, 114], [109, 114], [114, 109], [114, 105], [109, 105]].any (pairB x.dst.kind x.src.kind) = A at h2 ⊢
  unfold S_spec_l05Shape
  dsimp only
  rw [l01Size_isSize, isSize_dec, bnd_s]
  dsimp only
  by_cases hs : x.size = 1 ∨ x.size = 2 ∨ x.size = 4 ∨ x.size = 8
  · have h3 := l05Fits_z (v := x.src.imm) (z := x.size) (by omega)
    have h4 := l05Fits_z (v := x.src.imm) (z := 4) (by decide)
    simp only [h, h2, h3, h4, decide_eq_true hs, br_and, br_or, bnd_s, br_f, br_t, sumE_l, sumE_r, tI1, tI2, tI4, tI11, tI12, insT_tIns, Int.reduceEq, Int.reduceLE, Int.reduceLT, decide_true, decide_false, and_false, and_true, true_and, false_and, l01In_within, within_dec, show leI 4 8 = true from rfl, show eqI 4 9 = false from rfl, show eqI 4 10 = false from rfl, show eqI 4 28 = false from rfl, show eqI 4 11 = false from rfl, show eqI 4 12 = false from rfl, show eqI 4 18 = false from rfl, show eqI 4 19 = false from rfl, show eqI 4 17 = false from rfl, show eqI 4 36 = false from rfl, show eqI 4 25 = false from rfl, show eqI 4 26 = false from rfl, show eqI 4 27 = false from rfl, show eqI 4 29 = false from rfl, show eqI 4 31 = false from rfl, show eqI 4 32 = false from rfl, show eqI 4 30 = false from rfl, show eqI 4 33 = false from rfl, show eqI 4 35 = false from rfl, show eqI 4 39 = false from rfl, show eqI 4 40 = false from rfl, show eqI 4 41 = false from rfl, show eqI 4 42 = false from rfl, show eqI 4 44 = false from rfl]
    have hq : decide (x.size ∈ szL (szK 4)) = decide (x.size ∈ szL 0) := rfl
    rw [hq]
    rcases hs with hs | hs | hs | hs <;> simp [brF, szL, numB, notB, eqI_d, leI_d, ltI_d, hs, Bool.and_comm, Bool.and_left_comm, Bool.and_assoc, Bool.or_assoc]
  · have h4 := l05Fits_z (v := x.src.imm) (z := 4) (by decide)
    simp only [h, h2, h4, decide_eq_false hs, br_and, br_or, bnd_s, br_f, br_t, sumE_l, sumE_r, tI1, tI2, tI4, tI11, tI12, insT_tIns, Int.reduceEq, Int.reduceLE, Int.reduceLT, decide_true, decide_false, and_false, and_true, true_and, false_and, l01In_within, within_dec, show leI 4 8 = true from rfl, show eqI 4 9 = false from rfl, show eqI 4 10 = false from rfl, show eqI 4 28 = false from rfl, show eqI 4 11 = false from rfl, show eqI 4 12 = false from rfl, show eqI 4 18 = false from rfl, show eqI 4 19 = false from rfl, show eqI 4 17 = false from rfl, show eqI 4 36 = false from rfl, show eqI 4 25 = false from rfl, show eqI 4 26 = false from rfl, show eqI 4 27 = false from rfl, show eqI 4 29 = false from rfl, show eqI 4 31 = false from rfl, show eqI 4 32 = false from rfl, show eqI 4 30 = false from rfl, show eqI 4 33 = false from rfl, show eqI 4 35 = false from rfl, show eqI 4 39 = false from rfl, show eqI 4 40 = false from rfl, show eqI 4 41 = false from rfl, show eqI 4 42 = false from rfl, show eqI 4 44 = false from rfl]
    have hz : x.size ≠ 1 ∧ x.size ≠ 2 ∧ x.size ≠ 4 ∧ x.size ≠ 8 := by omega
    simp [brF, szL, szK, numB, notB, eqI_d, leI_d, ltI_d, hz, Bool.and_comm, Bool.and_left_comm, Bool.and_assoc, Bool.or_assoc]
theorem shape5 (x : Ins) (h : x.op = 5) : S_spec_l05Shape ((x, ()), ()) = some (shB x 5, ()) := by
  have h2 := two_eq x [[114, 114], [109, 114], [114, 109], [114, 105], [109, 105]] 5 (by decide) rfl (by decide)
  unfold shB
  rw [any_eq 5 [[114, 114], [109, 114], [114, 109], [114, 105], [109, 105]] rfl]
  generalize [[114, 114], [109, 114], [114, 109], [114, 105], [109, 105]].any (pairB x.dst.kind x.src.kind) = A at h2 ⊢
  unfold S_spec_l05Shape
  dsimp only
  rw [l01Size_isSize, isSize_dec, bnd_s]
  dsimp only
  by_cases hs : x.size = 1 ∨ x.size = 2 ∨ x.size = 4 ∨ x.size = 8
  · have h3 := l05Fits_z (v := x.src.imm) (z := x.size) (by omega)
    have h4 := l05Fits_z (v := x.src.imm) (z := 4) (by decide)
    simp only [h, h2, h3, h4, decide_eq_true hs, br_and, br_or, bnd_s, br_f, br_t, sumE_l, sumE_r, tI1, tI2, tI4, tI11, tI12, insT_tIns, Int.reduceEq, Int.reduceLE, Int.reduceLT, decide_true, decide_false, and_false, and_true, true_and, false_and, l01In_within, within_dec, show leI 5 8 = true from rfl, show eqI 5 9 = false from rfl, show eqI 5 10 = false from rfl, show eqI 5 28 = false from rfl, show eqI 5 11 = false from rfl, show eqI 5 12 = false from rfl, show eqI 5 18 = false from rfl, show eqI 5 19 = false from rfl, show eqI 5 17 = false from rfl, show eqI 5 36 = false from rfl, show eqI 5 25 = false from rfl, show eqI 5 26 = false from rfl, show eqI 5 27 = false from rfl, show eqI 5 29 = false from rfl, show eqI 5 31 = false from rfl, show eqI 5 32 = false from rfl, show eqI 5 30 = false from rfl, show eqI 5 33 = false from rfl, show eqI 5 35 = false from rfl, show eqI 5 39 = false from rfl, show eqI 5 40 = false from rfl, show eqI 5 41 = false from rfl, show eqI 5 42 = false from rfl, show eqI 5 44 = false from rfl]
    have hq : decide (x.size ∈ szL (szK 5)) = decide (x.size ∈ szL 0) := rfl
    rw [hq]
    rcases hs with hs | hs | hs | hs <;> simp [brF, szL, numB, notB, eqI_d, leI_d, ltI_d, hs, Bool.and_comm, Bool.and_left_comm, Bool.and_assoc, Bool.or_assoc]
  · have h4 := l05Fits_z (v := x.src.imm) (z := 4) (by decide)
    simp only [h, h2, h4, decide_eq_false hs, br_and, br_or, bnd_s, br_f, br_t, sumE_l, sumE_r, tI1, tI2, tI4, tI11, tI12, insT_tIns, Int.reduceEq, Int.reduceLE, Int.reduceLT, decide_true, decide_false, and_false, and_true, true_and, false_and, l01In_within, within_dec, show leI 5 8 = true from rfl, show eqI 5 9 = false from rfl, show eqI 5 10 = false from rfl, show eqI 5 28 = false from rfl, show eqI 5 11 = false from rfl, show eqI 5 12 = false from rfl, show eqI 5 18 = false from rfl, show eqI 5 19 = false from rfl, show eqI 5 17 = false from rfl, show eqI 5 36 = false from rfl, show eqI 5 25 = false from rfl, show eqI 5 26 = false from rfl, show eqI 5 27 = false from rfl, show eqI 5 29 = false from rfl, show eqI 5 31 = false from rfl, show eqI 5 32 = false from rfl, show eqI 5 30 = false from rfl, show eqI 5 33 = false from rfl, show eqI 5 35 = false from rfl, show eqI 5 39 = false from rfl, show eqI 5 40 = false from rfl, show eqI 5 41 = false from rfl, show eqI 5 42 = false from rfl, show eqI 5 44 = false from rfl]
    have hz : x.size ≠ 1 ∧ x.size ≠ 2 ∧ x.size ≠ 4 ∧ x.size ≠ 8 := by omega
    simp [brF, szL, szK, numB, notB, eqI_d, leI_d, ltI_d, hz, Bool.and_comm, Bool.and_left_comm, Bool.and_assoc, Bool.or_assoc]
theorem shape6 (x : Ins) (h : x.op = 6) : S_spec_l05Shape ((x, ()), ()) = some (shB x 6, ()) := by
  have h2 := two_eq x [[114, 114], [109, 114], [114, 109], [114, 105], [109, 105]] 6 (by decide) rfl (by decide)
  unfold shB
  rw [any_eq 6 [[114, 114], [109, 114], [114, 109], [114, 105], [109, 105]] rfl]
  generalize [[114, 114], [109, 114], [114, 109], [114, 105], [109, 105]].any (pairB x.dst.kind x.src.kind) = A at h2 ⊢
  unfold S_spec_l05Shape
  dsimp only
  rw [l01Size_isSize, isSize_dec, bnd_s]
  dsimp only
  by_cases hs : x.size = 1 ∨ x.size = 2 ∨ x.size = 4 ∨ x.size = 8
  · have h3 := l05Fits_z (v := x.src.imm) (z := x.size) (by omega)
    have h4 := l05Fits_z (v := x.src.imm) (z := 4) (by decide)
    simp only [h, h2, h3, h4, decide_eq_true hs, br_and, br_or, bnd_s, br_f, br_t, sumE_l, sumE_r, tI1, tI2, tI4, tI11, tI12, insT_tIns, Int.reduceEq, Int.reduceLE, Int.reduceLT, decide_true, decide_false, and_false, and_true, true_and, false_and, l01In_within, within_dec, show leI 6 8 = true from rfl, show eqI 6 9 = false from rfl, show eqI 6 10 = false from rfl, show eqI 6 28 = false from rfl, show eqI 6 11 = false from rfl, show eqI 6 12 = false from rfl, show eqI 6 18 = false from rfl, show eqI 6 19 = false from rfl, show eqI 6 17 = false from rfl, show eqI 6 36 = false from rfl, show eqI 6 25 = false from rfl, show eqI 6 26 = false from rfl, show eqI 6 27 = false from rfl, show eqI 6 29 = false from rfl, show eqI 6 31 = false from rfl, show eqI 6 32 = false from rfl, show eqI 6 30 = false from rfl, show eqI 6 33 = false from rfl, show eqI 6 35 = false from rfl, show eqI 6 39 = false from rfl, show eqI 6 40 = false from rfl, show eqI 6 41 = false from rfl, show eqI 6 42 = false from rfl, show eqI 6 44 = false from rfl]
    have hq : decide (x.size ∈ szL (szK 6)) = decide (x.size ∈ szL 0) := rfl
    rw [hq]
    rcases hs with hs | hs | hs | hs <;> simp [brF, szL, numB, notB, eqI_d, leI_d, ltI_d, hs, Bool.and_comm, Bool.and_left_comm, Bool.and_assoc, Bool.or_assoc]
  · have h4 := l05Fits_z (v := x.src.imm) (z := 4) (by decide)
    simp only [h, h2, h4, decide_eq_false hs, br_and, br_or, bnd_s, br_f, br_t, sumE_l, sumE_r, tI1, tI2, tI4, tI11, tI12, insT_tIns, Int.reduceEq, Int.reduceLE, Int.reduceLT, decide_true, decide_false, and_false, and_true, true_and, false_and, l01In_within, within_dec, show leI 6 8 = true from rfl, show eqI 6 9 = false from rfl, show eqI 6 10 = false from rfl, show eqI 6 28 = false from rfl, show eqI 6 11 = false from rfl, show eqI 6 12 = false from rfl, show eqI 6 18 = false from rfl, show eqI 6 19 = false from rfl, show eqI 6 17 = false from rfl, show eqI 6 36 = false from rfl, show eqI 6 25 = false from rfl, show eqI 6 26 = false from rfl, show eqI 6 27 = false from rfl, show eqI 6 29 = false from rfl, show eqI 6 31 = false from rfl, show eqI 6 32 = false from rfl, show eqI 6 30 = false from rfl, show eqI 6 33 = false from rfl, show eqI 6 35 = false from rfl, show eqI 6 39 = false from rfl, show eqI 6 40 = false from rfl, show eqI 6 41 = false from rfl, show eqI 6 42 = false from rfl, show eqI 6 44 = false from rfl]
    have hz : x.size ≠ 1 ∧ x.size ≠ 2 ∧ x.size ≠ 4 ∧ x.size ≠ 8 := by omega
    simp [brF, szL, szK, numB, notB, eqI_d, leI_d, ltI_d, hz, Bool.and_comm, Bool.and_left_comm, Bool.and_assoc, Bool.or_assoc]
theorem shape7 (x : Ins) (h : x.op = 7) : S_spec_l05Shape ((x, ()), ()) = some (shB x 7, ()) := by
  have h2 := two_eq x [[114, 114], [109, 114], [114, 109], [114, 105], [109, 105]] 7 (by decide) rfl (by decide)
  unfold shB
  rw [any_eq 7 [[114, 114], [109, 114], [114, 109], [114, 105], [109, 105]] rfl]
  generalize [[114, 114], [109, 114], [114, 109], [114, 105], [109, 105]].any (pairB x.dst.kind x.src.kind) = A at h2 ⊢
  unfold S_spec_l05Shape
  dsimp only
  rw [l01Size_isSize, isSize_dec, bnd_s]
  dsimp only
  by_cases hs : x.size = 1 ∨ x.size = 2 ∨ x.size = 4 ∨ x.size = 8
  · have h3 := l05Fits_z (v := x.src.imm) (z := x.size) (by omega)
    have h4 := l05Fits_z (v := x.src.imm) (z := 4) (by decide)
    simp only [h, h2, h3, h4, decide_eq_true hs, br_and, br_or, bnd_s, br_f, br_t, sumE_l, sumE_r, tI1, tI2, tI4, tI11, tI12, insT_tIns, Int.reduceEq, Int.reduceLE, Int.reduceLT, decide_true, decide_false, and_false, and_true, true_and, false_and, l01In_within, within_dec, show leI 7 8 = true from rfl, show eqI 7 9 = false from rfl, show eqI 7 10 = false from rfl, show eqI 7 28 = false from rfl, show eqI 7 11 = false from rfl, show eqI 7 12 = false from rfl, show eqI 7 18 = false from rfl, show eqI 7 19 = false from rfl, show eqI 7 17 = false from rfl, show eqI 7 36 = false from rfl, show eqI 7 25 = false from rfl, show eqI 7 26 = false from rfl, show eqI 7 27 = false from rfl, show eqI 7 29 = false from rfl, show eqI 7 31 = false from rfl, show eqI 7 32 = false from rfl, show eqI 7 30 = false from rfl, show eqI 7 33 = false from rfl, show eqI 7 35 = false from rfl, show eqI 7 39 = false from rfl, show eqI 7 40 = false from rfl, show eqI 7 41 = false from rfl, show eqI 7 42 = false from rfl, show eqI 7 44 = false from rfl]
    have hq : decide (x.size ∈ szL (szK 7)) = decide (x.size ∈ szL 0) := rfl
    rw [hq]
    rcases hs with hs | hs | hs | hs <;> simp [brF, szL, numB, notB, eqI_d, leI_d, ltI_d, hs, Bool.and_comm, Bool.and_left_comm, Bool.and_assoc, Bool.or_assoc]
  · have h4 := l05Fits_z (v := x.src.imm) (z := 4) (by decide)
    simp only [h, h2, h4, decide_eq_false hs, br_and, br_or, bnd_s, br_f, br_t, sumE_l, sumE_r, tI1, tI2, tI4, tI11, tI12, insT_tIns, Int.reduceEq, Int.reduceLE, Int.reduceLT, decide_true, decide_false, and_false, and_true, true_and, false_and, l01In_within, within_dec, show leI 7 8 = true from rfl, show eqI 7 9 = false from rfl, show eqI 7 10 = false from rfl, show eqI 7 28 = false from rfl, show eqI 7 11 = false from rfl, show eqI 7 12 = false from rfl, show eqI 7 18 = false from rfl, show eqI 7 19 = false from rfl, show eqI 7 17 = false from rfl, show eqI 7 36 = false from rfl, show eqI 7 25 = false from rfl, show eqI 7 26 = false from rfl, show eqI 7 27 = false from rfl, show eqI 7 29 = false from rfl, show eqI 7 31 = false from rfl, show eqI 7 32 = false from rfl, show eqI 7 30 = false from rfl, show eqI 7 33 = false from rfl, show eqI 7 35 = false from rfl, show eqI 7 39 = false from rfl, show eqI 7 40 = false from rfl, show eqI 7 41 = false from rfl, show eqI 7 42 = false from rfl, show eqI 7 44 = false from rfl]
    have hz : x.size ≠ 1 ∧ x.size ≠ 2 ∧ x.size ≠ 4 ∧ x.size ≠ 8 := by omega
    simp [brF, szL, szK, numB, notB, eqI_d, leI_d, ltI_d, hz, Bool.and_comm, Bool.and_left_comm, Bool.and_assoc, Bool.or_assoc]
theorem shape8 (x : Ins) (h : x.op = 8) : S_spec_l05Shape ((x, ()), ()) = some (shB x 8, ()) := by
  have h2 := two_eq x [[114, 114], [109, 114], [114, 109], [114, 105], [109, 105]] 8 (by decide) rfl (by decide)
  unfold shB
  rw [any_eq 8 [[114, 114], [109, 114], [114, 109], [114, 105], [109, 105]] rfl]
  generalize [[114, 114], [109, 114], [114, 109], [114, 105], [109, 105]].any (pairB x.dst.kind x.src.kind) = A at h2 ⊢
  unfold S_spec_l05Shape
  dsimp only
  rw [l01Size_isSize, isSize_dec, bnd_s]
  dsimp only
  by_cases hs : x.size = 1 ∨ x.size = 2 ∨ x.size = 4 ∨ x.size = 8
  · have h3 := l05Fits_z (v := x.src.imm) (z := x.size) (by omega)
    have h4 := l05Fits_z (v := x.src.imm) (z := 4) (by decide)
    simp only [h, h2, h3, h4, decide_eq_true hs, br_and, br_or, bnd_s, br_f, br_t, sumE_l, sumE_r, tI1, tI2, tI4, tI11, tI12, insT_tIns, Int.reduceEq, Int.reduceLE, Int.reduceLT, decide_true, decide_false, and_false, and_true, true_and, false_and, l01In_within, within_dec, show leI 8 8 = true from rfl, show eqI 8 9 = false from rfl, show eqI 8 10 = false from rfl, show eqI 8 28 = false from rfl, show eqI 8 11 = false from rfl, show eqI 8 12 = false from rfl, show eqI 8 18 = false from rfl, show eqI 8 19 = false from rfl, show eqI 8 17 = false from rfl, show eqI 8 36 = false from rfl, show eqI 8 25 = false from rfl, show eqI 8 26 = false from rfl, show eqI 8 27 = false from rfl, show eqI 8 29 = false from rfl, show eqI 8 31 = false from rfl, show eqI 8 32 = false from rfl, show eqI 8 30 = false from rfl, show eqI 8 33 = false from rfl, show eqI 8 35 = false from rfl, show eqI 8 39 = false from rfl, show eqI 8 40 = false from rfl, show eqI 8 41 = false from rfl, show eqI 8 42 = false from rfl, show eqI 8 44 = false from rfl]
    have hq : decide (x.size ∈ szL (szK 8)) = decide (x.size ∈ szL 0) := rfl
    rw [hq]
    rcases hs with hs | hs | hs | hs <;> simp [brF, szL, numB, notB, eqI_d, leI_d, ltI_d, hs, Bool.and_comm, Bool.and_left_comm, Bool.and_assoc, Bool.or_assoc]
  · have h4 := l05Fits_z (v := x.src.imm) (z := 4) (by decide)
    simp only [h, h2, h4, decide_eq_false hs, br_and, br_or, bnd_s, br_f, br_t, sumE_l, sumE_r, tI1, tI2, tI4, tI11, tI12, insT_tIns, Int.reduceEq, Int.reduceLE, Int.reduceLT, decide_true, decide_false, and_false, and_true, true_and, false_and, l01In_within, within_dec, show leI 8 8 = true from rfl, show eqI 8 9 = false from rfl, show eqI 8 10 = false from rfl, show eqI 8 28 = false from rfl, show eqI 8 11 = false from rfl, show eqI 8 12 = false from rfl, show eqI 8 18 = false from rfl, show eqI 8 19 = false from rfl, show eqI 8 17 = false from rfl, show eqI 8 36 = false from rfl, show eqI 8 25 = false from rfl, show eqI 8 26 = false from rfl, show eqI 8 27 = false from rfl, show eqI 8 29 = false from rfl, show eqI 8 31 = false from rfl, show eqI 8 32 = false from rfl, show eqI 8 30 = false from rfl, show eqI 8 33 = false from rfl, show eqI 8 35 = false from rfl, show eqI 8 39 = false from rfl, show eqI 8 40 = false from rfl, show eqI 8 41 = false from rfl, show eqI 8 42 = false from rfl, show eqI 8 44 = false from rfl]
    have hz : x.size ≠ 1 ∧ x.size ≠ 2 ∧ x.size ≠ 4 ∧ x.size ≠ 8 := by omega
    simp [brF, szL, szK, numB, notB, eqI_d, leI_d, ltI_d, hz, Bool.and_comm, Bool.and_left_comm, Bool.and_assoc, Bool.or_assoc]
theorem shape9 (x : Ins) (h : x.op = 9) : S_spec_l05Shape ((x, ()), ()) = some (shB x 9, ()) := by
  have h2 := two_eq x [[114, 114], [109, 114], [114, 109], [114, 105], [109, 105]] 9 (by decide) rfl (by decide)
  unfold shB
  rw [any_eq 9 [[114, 114], [109, 114], [114, 109], [114, 105], [109, 105]] rfl]
  generalize [[114, 114], [109, 114], [114, 109], [114, 105], [109, 105]].any (pairB x.dst.kind x.src.kind) = A at h2 ⊢
  unfold S_spec_l05Shape
  dsimp only
  rw [l01Size_isSize, isSize_dec, bnd_s]
  dsimp only
  by_cases hs : x.size = 1 ∨ x.size = 2 ∨ x.size = 4 ∨ x.size = 8
  · have h3 := l05Fits_z (v := x.src.imm) (z := x.size) (by omega)
    have h4 := l05Fits_z (v := x.src.imm) (z := 4) (by decide)
    simp only [h, h2, h3, h4, decide_eq_true hs, br_and, br_or, bnd_s, br_f, br_t, sumE_l, sumE_r, tI1, tI2, tI4, tI11, tI12, insT_tIns, Int.reduceEq, Int.reduceLE, Int.reduceLT, decide_true, decide_false, and_false, and_true, true_and, false_and, l01In_within, within_dec, show leI 9 8 = false from rfl, show eqI 9 9 = true from rfl, show eqI 9 10 = false from rfl, show eqI 9 28 = false from rfl, show eqI 9 11 = false from rfl, show eqI 9 12 = false from rfl, show eqI 9 18 = false from rfl, show eqI 9 19 = false from rfl, show eqI 9 17 = false from rfl, show eqI 9 36 = false from rfl, show eqI 9 25 = false from rfl, show eqI 9 26 = false from rfl, show eqI 9 27 = false from rfl, show eqI 9 29 = false from rfl, show eqI 9 31 = false from rfl, show eqI 9 32 = false from rfl, show eqI 9 30 = false from rfl, show eqI 9 33 = false from rfl, show eqI 9 35 = false from rfl, show eqI 9 39 = false from rfl, show eqI 9 40 = false from rfl, show eqI 9 41 = false from rfl, show eqI 9 42 = false from rfl, show eqI 9 44 = false from rfl]
    have hq : decide (x.size ∈ szL (szK 9)) = decide (x.size ∈ szL 0) := rfl
    rw [hq]
    rcases hs with hs | hs | hs | hs <;> simp [brF, szL, numB, notB, eqI_d, leI_d, ltI_d, hs, Bool.and_comm, Bool.and_left_comm, Bool.and_assoc, Bool.or_assoc]
  · have h4 := l05Fits_z (v := x.src.imm) (z := 4) (by decide)
    simp only [h, h2, h4, decide_eq_false hs, br_and, br_or, bnd_s, br_f, br_t, sumE_l, sumE_r, tI1, tI2, tI4, tI11, tI12, insT_tIns, Int.reduceEq, Int.reduceLE, Int.reduceLT, decide_true, decide_false, and_false, and_true, true_and, false_and, l01In_within, within_dec, show leI 9 8 = false from rfl, show eqI 9 9 = true from rfl, show eqI 9 10 = false from rfl, show eqI 9 28 = false from rfl, show eqI 9 11 = false from rfl, show eqI 9 12 = false from rfl, show eqI 9 18 = false from rfl, show eqI 9 19 = false from rfl, show eqI 9 17 = false from rfl, show eqI 9 36 = false from rfl, show eqI 9 25 = false from rfl, show eqI 9 26 = false from rfl, show eqI 9 27 = false from rfl, show eqI 9 29 = false from rfl, show eqI 9 31 = false from rfl, show eqI 9 32 = false from rfl, show eqI 9 30 = false from rfl, show eqI 9 33 = false from rfl, show eqI 9 35 = false from rfl, show eqI 9 39 = false from rfl, show eqI 9 40 = false from rfl, show eqI 9 41 = false from rfl, show eqI 9 42 = false from rfl, show eqI 9 44 = false from rfl]
    have hz : x.size ≠ 1 ∧ x.size ≠ 2 ∧ x.size ≠ 4 ∧ x.size ≠ 8 := by omega
    simp [brF, szL, szK, numB, notB, eqI_d, leI_d, ltI_d, hz, Bool.and_comm, Bool.and_left_comm, Bool.and_assoc, Bool.or_assoc]
theorem shape10 (x : Ins) (h : x.op = 10) : S_spec_l05Shape ((x, ()), ()) = some (shB x 10, ()) := by
  have h2 := two_eq x [[114, 114], [109, 114], [114, 105], [109, 105]] 10 (by decide) rfl (by decide)
  unfold shB
  rw [any_eq 10 [[114, 114], [109, 114], [114, 105], [109, 105]] rfl]
  generalize [[114, 114], [109, 114], [114, 105], [109, 105]].any (pairB x.dst.kind x.src.kind) = A at h2 ⊢
  unfold S_spec_l05Shape
  dsimp only
  rw [l01Size_isSize, isSize_dec, bnd_s]
  dsimp only
  by_cases hs : x.size = 1 ∨ x.size = 2 ∨ x.size = 4 ∨ x.size = 8
  · have h3 := l05Fits_z (v := x.src.imm) (z := x.size) (by omega)
    have h4 := l05Fits_z (v := x.src.imm) (z := 4) (by decide)
    simp only [h, h2, h3, h4, decide_eq_true hs, br_and, br_or, bnd_s, br_f, br_t, sumE_l, sumE_r, tI1, tI2, tI4, tI11, tI12, insT_tIns, Int.reduceEq, Int.reduceLE, Int.reduceLT, decide_true, decide_false, and_false, and_true, true_and, false_and, l01In_within, within_dec, show leI 10 8 = false from rfl, show eqI 10 9 = false from rfl, show eqI 10 10 = true from rfl, show eqI 10 28 = false from rfl, show eqI 10 11 = false from rfl, show eqI 10 12 = false from rfl, show eqI 10 18 = false from rfl, show eqI 10 19 = false from rfl, show eqI 10 17 = false from rfl, show eqI 10 36 = false from rfl, show eqI 10 25 = false from rfl, show eqI 10 26 = false from rfl, show eqI 10 27 = false from rfl, show eqI 10 29 = false from rfl, show eqI 10 31 = false from rfl, show eqI 10 32 = false from rfl, show eqI 10 30 = false from rfl, show eqI 10 33 = false from rfl, show eqI 10 35 = false from rfl, show eqI 10 39 = false from rfl, show eqI 10 40 = false from rfl, show eqI 10 41 = false from rfl, show eqI 10 42 = false from rfl, show eqI 10 44 = false from rfl]
    have hq : decide (x.size ∈ szL (szK 10)) = decide (x.size ∈ szL 0) := rfl
    rw [hq]
    rcases hs with hs | hs | hs | hs <;> simp [brF, szL, numB, notB, eqI_d, leI_d, ltI_d, hs, Bool.and_comm, Bool.and_left_comm, Bool.and_assoc, Bool.or_assoc]
  · have h4 := l05Fits_z (v := x.src.imm) (z := 4) (by decide)
    simp only [h, h2, h4, decide_eq_false hs, br_and, br_or, bnd_s, br_f, br_t, sumE_l, sumE_r, tI1, tI2, tI4, tI11, tI12, insT_tIns, Int.reduceEq, Int.reduceLE, Int.reduceLT, decide_true, decide_false, and_false, and_true, true_and, false_and, l01In_within, within_dec, show leI 10 8 = false from rfl, show eqI 10 9 = false from rfl, show eqI 10 10 = true from rfl, show eqI 10 28 = false from rfl, show eqI 10 11 = false from rfl, show eqI 10 12 = false from rfl, show eqI 10 18 = false from rfl, show eqI 10 19 = false from rfl, show eqI 10 17 = false from rfl, show eqI 10 36 = false from rfl, show eqI 10 25 = false from rfl, show eqI 10 26 = false from rfl, show eqI 10 27 = false from rfl, show eqI 10 29 = false from rfl, show eqI 10 31 = false from rfl, show eqI 10 32 = false from rfl, show eqI 10 30 = false from rfl, show eqI 10 33 = false from rfl, show eqI 10 35 = false from rfl, show eqI 10 39 = false from rfl, show eqI 10 40 = false from rfl, show eqI 10 41 = false from rfl, show eqI 10 42 = false from rfl, show eqI 10 44 = false from rfl]
    have hz : x.size ≠ 1 ∧ x.size ≠ 2 ∧ x.size ≠ 4 ∧ x.size ≠ 8 := by omega
    simp [brF, szL, szK, numB, notB, eqI_d, leI_d, ltI_d, hz, Bool.and_comm, Bool.and_left_comm, Bool.and_assoc, Bool.or_assoc]
theorem shape11 (x : Ins) (h : x.op = 11) : S_spec_l05Shape ((x, ()), ()) = some (shB x 11, ()) := by
  have h2 := two_eq x [[114, 48], [109, 48]] 11 (by decide) rfl (by decide)
  unfold shB
  rw [any_eq 11 [[114, 48], [109, 48]] rfl]
  generalize [[114, 48], [109, 48]].any (pairB x.dst.kind x.src.kind) = A at h2 ⊢
  unfold S_spec_l05Shape
  dsimp only
  rw [l01Size_isSize, isSize_dec, bnd_s]
  dsimp only
  by_cases hs : x.size = 1 ∨ x.size = 2 ∨ x.size = 4 ∨ x.size = 8
  · have h3 := l05Fits_z (v := x.src.imm) (z := x.size) (by omega)
    have h4 := l05Fits_z (v := x.src.imm) (z := 4) (by decide)
    simp only [h, h2, h3, h4, decide_eq_true hs, br_and, br_or, bnd_s, br_f, br_t, sumE_l, sumE_r, tI1, tI2, tI4, tI11, tI12, insT_tIns, Int.reduceEq, Int.reduceLE, Int.reduceLT, decide_true, decide_false, and_false, and_true, true_and, false_and, l01In_within, within_dec, show leI 11 8 = false from rfl, show eqI 11 9 = false from rfl, show eqI 11 10 = false from rfl, show eqI 11 28 = false from rfl, show eqI 11 11 = true from rfl, show eqI 11 12 = false from rfl, show eqI 11 18 = false from rfl, show eqI 11 19 = false from rfl, show eqI 11 17 = false from rfl, show eqI 11 36 = false from rfl, show eqI 11 25 = false from rfl, show eqI 11 26 = false from rfl, show eqI 11 27 = false from rfl, show eqI 11 29 = false from rfl, show eqI 11 31 = false from rfl, show eqI 11 32 = false from rfl, show eqI 11 30 = false from rfl, show eqI 11 33 = false from rfl, show eqI 11 35 = false from rfl, show eqI 11 39 = false from rfl, show eqI 11 40 = false from rfl, show eqI 11 41 = false from rfl, show eqI 11 42 = false from rfl, show eqI 11 44 = false from rfl]
    have hq : decide (x.size ∈ szL (szK 11)) = decide (x.size ∈ szL 0) := rfl
    rw [hq]
    rcases hs with hs | hs | hs | hs <;> simp [brF, szL, numB, notB, eqI_d, leI_d, ltI_d, hs, Bool.and_comm, Bool.and_left_comm, Bool.and_assoc, Bool.or_assoc]
  · have h4 := l05Fits_z (v := x.src.imm) (z := 4) (by decide)
    simp only [h, h2, h4, decide_eq_false hs, br_and, br_or, bnd_s, br_f, br_t, sumE_l, sumE_r, tI1, tI2, tI4, tI11, tI12, insT_tIns, Int.reduceEq, Int.reduceLE, Int.reduceLT, decide_true, decide_false, and_false, and_true, true_and, false_and, l01In_within, within_dec, show leI 11 8 = false from rfl, show eqI 11 9 = false from rfl, show eqI 11 10 = false from rfl, show eqI 11 28 = false from rfl, show eqI 11 11 = true from rfl, show eqI 11 12 = false from rfl, show eqI 11 18 = false from rfl, show eqI 11 19 = false from rfl, show eqI 11 17 = false from rfl, show eqI 11 36 = false from rfl, show eqI 11 25 = false from rfl, show eqI 11 26 = false from rfl, show eqI 11 27 = false from rfl, show eqI 11 29 = false from rfl, show eqI 11 31 = false from rfl, show eqI 11 32 = false from rfl, show eqI 11 30 = false from rfl, show eqI 11 33 = false from rfl, show eqI 11 35 = false from rfl, show eqI 11 39 = false from rfl, show eqI 11 40 = false from rfl, show eqI 11 41 = false from rfl, show eqI 11 42 = false from rfl, show eqI 11 44 = false from rfl]
    have hz : x.size ≠ 1 ∧ x.size ≠ 2 ∧ x.size ≠ 4 ∧ x.size ≠ 8 := by omega
    simp [brF, szL, szK, numB, notB, eqI_d, leI_d, ltI_d, hz, Bool.and_comm, Bool.and_left_comm, Bool.and_assoc, Bool.or_assoc]
theorem shape12 (x : Ins) (h : x.op = 12) : S_spec_l05Shape ((x, ()), ()) = some (shB x 12, ()) := by
  have h2 := two_eq x [[114, 48], [109, 48]] 12 (by decide) rfl (by decide)
  unfold shB
  rw [any_eq 12 [[114, 48], [109, 48]] rfl]
  generalize [[114, 48], [109, 48]].any (pairB x.dst.kind x.src.kind) = A at h2 ⊢
  unfold S_spec_l05Shape
  dsimp only
  rw [l01Size_isSize, isSize_dec, bnd_s]
  dsimp only
  by_cases hs : x.size = 1 ∨ x.size = 2 ∨ x.size = 4 ∨ x.size = 8
  · have h3 := l05Fits_z (v := x.src.imm) (z := x.size) (by omega)
    have h4 := l05Fits_z (v := x.src.imm) (z := 4) (by decide)
    simp only [h, h2, h3, h4, decide_eq_true hs, br_and, br_or, bnd_s, br_f, br_t, sumE_l, sumE_r, tI1, tI2, tI4, tI11, tI12, insT_tIns, Int.reduceEq, Int.reduceLE, Int.reduceLT, decide_true, decide_false, and_false, and_true, true_and, false_and, l01In_within, within_dec, show leI 12 8 = false from rfl, show eqI 12 9 = false from rfl, show eqI 12 10 = false from rfl, show eqI 12 28 = false from rfl, show eqI 12 11 = false from rfl, show eqI 12 12 = true from rfl, show eqI 12 18 = false from rfl, show eqI 12 19 = false from rfl, show eqI 12 17 = false from rfl, show eqI 12 36 = false from rfl, show eqI 12 25 = false from rfl, show eqI 12 26 = false from rfl, show eqI 12 27 = false from rfl, show eqI 12 29 = false from rfl, show eqI 12 31 = false from rfl, show eqI 12 32 = false from rfl, show eqI 12 30 = false from rfl, show eqI 12 33 = false from rfl, show eqI 12 35 = false from rfl, show eqI 12 39 = false from rfl, show eqI 12 40 = false from rfl, show eqI 12 41 = false from rfl, show eqI 12 42 = false from rfl, show eqI 12 44 = false from rfl]
    have hq : decide (x.size ∈ szL (szK 12)) = decide (x.size ∈ szL 0) := rfl
    rw [hq]
    rcases hs with hs | hs | hs | hs <;> simp [brF, szL, numB, notB, eqI_d, leI_d, ltI_d, hs, Bool.and_comm, Bool.and_left_comm, Bool.and_assoc, Bool.or_assoc]
  · have h4 := l05Fits_z (v := x.src.imm) (z := 4) (by decide)
    simp only [h, h2, h4, decide_eq_false hs, br_and, br_or, bnd_s, br_f, br_t, sumE_l, sumE_r, tI1, tI2, tI4, tI11, tI12, insT_tIns, Int.reduceEq, Int.reduceLE, Int.reduceLT, decide_true, decide_false, and_false, and_true, true_and, false_and, l01In_within, within_dec, show leI 12 8 = false from rfl, show eqI 12 9 = false from rfl, show eqI 12 10 = false from rfl, show eqI 12 28 = false from rfl, show eqI 12 11 = false from rfl, show eqI 12 12 = true from rfl, show eqI 12 18 = false from rfl, show eqI 12 19 = false from rfl, show eqI 12 17 = false from rfl, show eqI 12 36 = false from rfl, show eqI 12 25 = false from rfl, show eqI 12 26 = false from rfl, show eqI 12 27 = false from rfl, show eqI 12 29 = false from rfl, show eqI 12 31 = false from rfl, show eqI 12 32 = false from rfl, show eqI 12 30 = false from rfl, show eqI 12 33 = false from rfl, show eqI 12 35 = false from rfl, show eqI 12 39 = false from rfl, show eqI 12 40 = false from rfl, show eqI 12 41 = false from rfl, show eqI 12 42 = false from rfl, show eqI 12 44 = false from rfl]
    have hz : x.size ≠ 1 ∧ x.size ≠ 2 ∧ x.size ≠ 4 ∧ x.size ≠ 8 := by omega
    simp [brF, szL, szK, numB, notB, eqI_d, leI_d, ltI_d, hz, Bool.and_comm, Bool.and_left_comm, Bool.and_assoc, Bool.or_assoc]
theorem shape13 (x : Ins) (h : x.op = 13) : S_spec_l05Shape ((x, ()), ()) = some (shB x 13, ()) := by
  have h2 := two_eq x [[48, 114], [48, 109]] 13 (by decide) rfl (by decide)
  unfold shB
  rw [any_eq 13 [[48, 114], [48, 109]] rfl]
  generalize [[48, 114], [48, 109]].any (pairB x.dst.kind x.src.kind) = A at h2 ⊢
  unfold S_spec_l05Shape
  dsimp only
  rw [l01Size_isSize, isSize_dec, bnd_s]
  dsimp only
  by_cases hs : x.size = 1 ∨ x.size = 2 ∨ x.size = 4 ∨ x.size = 8
  · have h3 := l05Fits_z (v := x.src.imm) (z := x.size) (by omega)
    have h4 := l05Fits_z (v := x.src.imm) (z := 4) (by decide)
    simp only [h, h2, h3, h4, decide_eq_true hs, br_and, br_or, bnd_s, br_f, br_t, sumE_l, sumE_r, tI1, tI2, tI4, tI11, tI12, insT_tIns, Int.reduceEq, Int.reduceLE, Int.reduceLT, decide_true, decide_false, and_false, and_true, true_and, false_and, l01In_within, within_dec, show leI 13 8 = false from rfl, show eqI 13 9 = false from rfl, show eqI 13 10 = false from rfl, show eqI 13 28 = false from rfl, show eqI 13 11 = false from rfl, show eqI 13 12 = false from rfl, show eqI 13 18 = false from rfl, show eqI 13 19 = false from rfl, show eqI 13 17 = false from rfl, show eqI 13 36 = false from rfl, show eqI 13 25 = false from rfl, show eqI 13 26 = false from rfl, show eqI 13 27 = false from rfl, show eqI 13 29 = false from rfl, show eqI 13 31 = false from rfl, show eqI 13 32 = false from rfl, show eqI 13 30 = false from rfl, show eqI 13 33 = false from rfl, show eqI 13 35 = false from rfl, show eqI 13 39 = false from rfl, show eqI 13 40 = false from rfl, show eqI 13 41 = false from rfl, show eqI 13 42 = false from rfl, show eqI 13 44 = false from rfl]
    have hq : decide (x.size ∈ szL (szK 13)) = decide (x.size ∈ szL 0) := rfl
    rw [hq]
    rcases hs with hs | hs | hs | hs <;> simp [brF, szL, numB, notB, eqI_d, leI_d, ltI_d, hs, Bool.and_comm, Bool.and_left_comm, Bool.and_assoc, Bool.or_assoc]
  · have h4 := l05Fits_z (v := x.src.imm) (z := 4) (by decide)
    simp only [h, h2, h4, decide_eq_false hs, br_and, br_or, bnd_s, br_f, br_t, sumE_l, sumE_r, tI1, tI2, tI4, tI11, tI12, insT_tIns, Int.reduceEq, Int.reduceLE, Int.reduceLT, decide_true, decide_false, and_false, and_true, true_and, false_and, l01In_within, within_dec, show leI 13 8 = false from rfl, show eqI 13 9 = false from rfl, show eqI 13 10 = false from rfl, show eqI 13 28 = false from rfl, show eqI 13 11 = false from rfl, show eqI 13 12 = false from rfl, show eqI 13 18 = false from rfl, show eqI 13 19 = false from rfl, show eqI 13 17 = false from rfl, show eqI 13 36 = false from rfl, show eqI 13 25 = false from rfl, show eqI 13 26 = false from rfl, show eqI 13 27 = false from rfl, show eqI 13 29 = false from rfl, show eqI 13 31 = false from rfl, show eqI 13 32 = false from rfl, show eqI 13 30 = false from rfl, show eqI 13 33 = false from rfl, show eqI 13 35 = false from rfl, show eqI 13 39 = false from rfl, show eqI 13 40 = false from rfl, show eqI 13 41 = false from rfl, show eqI 13 42 = false from rfl, show eqI 13 44 = false from rfl]
    have hz : x.size ≠ 1 ∧ x.size ≠ 2 ∧ x.size ≠ 4 ∧ x.size ≠ 8 := by omega
    simp [brF, szL, szK, numB, notB, eqI_d, leI_d, ltI_d, hz, Bool.and_comm, Bool.and_left_comm, Bool.and_assoc, Bool.or_assoc]
theorem shape14 (x : Ins) (h : x.op = 14) : S_spec_l05Shape ((x, ()), ()) = some (shB x 14, ()) := by
  have h2 := two_eq x [[48, 114], [48, 109]] 14 (by decide) rfl (by decide)
  unfold shB
  rw [any_eq 14 [[48, 114], [48, 109]] rfl]
  generalize [[48, 114], [48, 109]].any (pairB x.dst.kind x.src.kind) = A at h2 ⊢
  unfold S_spec_l05Shape
  dsimp only
  rw [l01Size_isSize, isSize_dec, bnd_s]
  dsimp only
  by_cases hs : x.size = 1 ∨ x.size = 2 ∨ x.size = 4 ∨ x.size = 8
  · have h3 := l05Fits_z (v := x.src.imm) (z := x.size) (by omega)
    have h4 := l05Fits_z (v := x.src.imm) (z := 4) (by decide)
    simp only [h, h2, h3, h4, decide_eq_true hs, br_and, br_or, bnd_s, br_f, br_t, sumE_l, sumE_r, tI1, tI2, tI4, tI11, tI12, insT_tIns, Int.reduceEq, Int.reduceLE, Int.reduceLT, decide_true, decide_false, and_false, and_true, true_and, false_and, l01In_within, within_dec, show leI 14 8 = false from rfl, show eqI 14 9 = false from rfl, show eqI 14 10 = false from rfl, show eqI 14 28 = false from rfl, show eqI 14 11 = false from rfl, show eqI 14 12 = false from rfl, show eqI 14 18 = false from rfl, show eqI 14 19 = false from rfl, show eqI 14 17 = false from rfl, show eqI 14 36 = false from rfl, show eqI 14 25 = false from rfl, show eqI 14 26 = false from rfl, show eqI 14 27 = false from rfl, show eqI 14 29 = false from rfl, show eqI 14 31 = false from rfl, show eqI 14 32 = false from rfl, show eqI 14 30 = false from rfl, show eqI 14 33 = false from rfl, show eqI 14 35 = false from rfl, show eqI 14 39 = false from rfl, show eqI 14 40 = false from rfl, show eqI 14 41 = false from rfl, show eqI 14 42 = false from rfl, show eqI 14 44 = false from rfl]
    have hq : decide (x.size ∈ szL (szK 14)) = decide (x.size ∈ szL 0) := rfl
    rw [hq]
    rcases hs with hs | hs | hs | hs <;> simp [brF, szL, numB, notB, eqI_d, leI_d, ltI_d, hs, Bool.and_comm, Bool.and_left_comm, Bool.and_assoc, Bool.or_assoc]
  · have h4 := l05Fits_z (v := x.src.imm) (z := 4) (by decide)
    simp only [h, h2, h4, decide_eq_false hs, br_and, br_or, bnd_s, br_f, br_t, sumE_l, sumE_r, tI1, tI2, tI4, tI11, tI12, insT_tIns, Int.reduceEq, Int.reduceLE, Int.reduceLT, decide_true, decide_false, and_false, and_true, true_and, false_and, l01In_within, within_dec, show leI 14 8 = false from rfl, show eqI 14 9 = false from rfl, show eqI 14 10 = false from rfl, show eqI 14 28 = false from rfl, show eqI 14 11 = false from rfl, show eqI 14 12 = false from rfl, show eqI 14 18 = false from rfl, show eqI 14 19 = false from rfl, show eqI 14 17 = false from rfl, show eqI 14 36 = false from rfl, show eqI 14 25 = false from rfl, show eqI 14 26 = false from rfl, show eqI 14 27 = false from rfl, show eqI 14 29 = false from rfl, show eqI 14 31 = false from rfl, show eqI 14 32 = false from rfl, show eqI 14 30 = false from rfl, show eqI 14 33 = false from rfl, show eqI 14 35 = false from rfl, show eqI 14 39 = false from rfl, show eqI 14 40 = false from rfl, show eqI 14 41 = false from rfl, show eqI 14 42 = false from rfl, show eqI 14 44 = false from rfl]
    have hz : x.size ≠ 1 ∧ x.size ≠ 2 ∧ x.size ≠ 4 ∧ x.size ≠ 8 := by omega
    simp [brF, szL, szK, numB, notB, eqI_d, leI_d, ltI_d, hz, Bool.and_comm, Bool.and_left_comm, Bool.and_assoc, Bool.or_assoc]
theorem shape15 (x : Ins) (h : x.op = 15) : S_spec_l05Shape ((x, ()), ()) = some (shB x 15, ()) := by
  have h2 := two_eq x [[48, 114], [48, 109]] 15 (by decide) rfl (by decide)
  unfold shB
  rw [any_eq 15 [[48, 114], [48, 109]] rfl]
  generalize [[48, 114], [48, 109]].any (pairB x.dst.kind x.src.kind) = A at h2 ⊢
  unfold S_spec_l05Shape
  dsimp only
  rw [l01Size_isSize, isSize_dec, bnd_s]
  dsimp only
  by_cases hs : x.size = 1 ∨ x.size = 2 ∨ x.size = 4 ∨ x.size = 8
  · have h3 := l05Fits_z (v := x.src.imm) (z := x.size) (by omega)
    have h4 := l05Fits_z (v := x.src.imm) (z := 4) (by decide)
    simp only [h, h2, h3, h4, decide_eq_true hs, br_and, br_or, bnd_s, br_f, br_t, sumE_l, sumE_r, tI1, tI2, tI4, tI11, tI12, insT_tIns, Int.reduceEq, Int.reduceLE, Int.reduceLT, decide_true, decide_false, and_false, and_true, true_and, false_and, l01In_within, within_dec, show leI 15 8 = false from rfl, show eqI 15 9 = false from rfl, show eqI 15 10 = false from rfl, show eqI 15 28 = false from rfl, show eqI 15 11 = false from rfl, show eqI 15 12 = false from rfl, show eqI 15 18 = false from rfl, show eqI 15 19 = false from rfl, show eqI 15 17 = false from rfl, show eqI 15 36 = false from rfl, show eqI 15 25 = false from rfl, show eqI 15 26 = false from rfl, show eqI 15 27 = false from rfl, show eqI 15 29 = false from rfl, show eqI 15 31 = false from rfl, show eqI 15 32 = false from rfl, show eqI 15 30 = false from rfl, show eqI 15 33 = false from rfl, show eqI 15 35 = false from rfl, show eqI 15 39 = false from rfl, show eqI 15 40 = false from rfl, show eqI 15 41 = false from rfl, show eqI 15 42 = false from rfl, show eqI 15 44 = false from rfl]
    have hq : decide (x.size ∈ szL (szK 15)) = decide (x.size ∈ szL 0) := rfl
    rw [hq]
    rcases hs with hs | hs | hs | hs <;> simp [brF, szL, numB, notB, eqI_d, leI_d, ltI_d, hs, Bool.and_comm, Bool.and_left_comm, Bool.and_assoc, Bool.or_assoc]
  · have h4 := l05Fits_z (v := x.src.imm) (z := 4) (by decide)
    simp only [h, h2, h4, decide_eq_false hs, br_and, br_or, bnd_s, br_f, br_t, sumE_l, sumE_r, tI1, tI2, tI4, tI11, tI12, insT_tIns, Int.reduceEq, Int.reduceLE, Int.reduceLT, decide_true, decide_false, and_false, and_true, true_and, false_and, l01In_within, within_dec, show leI 15 8 = false from rfl, show eqI 15 9 = false from rfl, show eqI 15 10 = false from rfl, show eqI 15 28 = false from rfl, show eqI 15 11 = false from rfl, show eqI 15 12 = false from rfl, show eqI 15 18 = false from rfl, show eqI 15 19 = false from rfl, show eqI 15 17 = false from rfl, show eqI 15 36 = false from rfl, show eqI 15 25 = false from rfl, show eqI 15 26 = false from rfl, show eqI 15 27 = false from rfl, show eqI 15 29 = false from rfl, show eqI 15 31 = false from rfl, show eqI 15 32 = false from rfl, show eqI 15 30 = false from rfl, show eqI 15 33 = false from rfl, show eqI 15 35 = false from rfl, show eqI 15 39 = false from rfl, show eqI 15 40 = false from rfl, show eqI 15 41 = false from rfl, show eqI 15 42 = false from rfl, show eqI 15 44 = false from rfl]
    have hz : x.size ≠ 1 ∧ x.size ≠ 2 ∧ x.size ≠ 4 ∧ x.size ≠ 8 := by omega
    simp [brF, szL, szK, numB, notB, eqI_d, leI_d, ltI_d, hz, Bool.and_comm, Bool.and_left_comm, Bool.and_assoc, Bool.or_assoc]
theorem shape16 (x : Ins) (h : x.op = 16) : S_spec_l05Shape ((x, ()), ()) = some (shB x 16, ()) := by
  have h2 := two_eq x [[48, 114], [48, 109]] 16 (by decide) rfl (by decide)
  unfold shB
  rw [any_eq 16 [[48, 114], [48, 109]] rfl]
  generalize [[48, 114], [48, 109]].any (pairB x.dst.kind x.src.kind) = A at h2 ⊢
  unfold S_spec_l05Shape
  dsimp only
  rw [l01Size_isSize, isSize_dec, bnd_s]
  dsimp only
  by_cases hs : x.size = 1 ∨ x.size = 2 ∨ x.size = 4 ∨ x.size = 8
  · have h3 := l05Fits_z (v := x.src.imm) (z := x.size) (by omega)
    have h4 := l05Fits_z (v := x.src.imm) (z := 4) (by decide)
    simp only [h, h2, h3, h4, decide_eq_true hs, br_and, br_or, bnd_s, br_f, br_t, sumE_l, sumE_r, tI1, tI2, tI4, tI11, tI12, insT_tIns, Int.reduceEq, Int.reduceLE, Int.reduceLT, decide_true, decide_false, and_false, and_true, true_and, false_and, l01In_within, within_dec, show leI 16 8 = false from rfl, show eqI 16 9 = false from rfl, show eqI 16 10 = false from rfl, show eqI 16 28 = false from rfl, show eqI 16 11 = false from rfl, show eqI 16 12 = false from rfl, show eqI 16 18 = false from rfl, show eqI 16 19 = false from rfl, show eqI 16 17 = false from rfl, show eqI 16 36 = false from rfl, show eqI 16 25 = false from rfl, show eqI 16 26 = false from rfl, show eqI 16 27 = false from rfl, show eqI 16 29 = false from rfl, show eqI 16 31 = false from rfl, show eqI 16 32 = false from rfl, show eqI 16 30 = false from rfl, show eqI 16 33 = false from rfl, show eqI 16 35 = false from rfl, show eqI 16 39 = false from rfl, show eqI 16 40 = false from rfl, show eqI 16 41 = false from rfl, show eqI 16 42 = false from rfl, show eqI 16 44 = false from rfl]
    have hq : decide (x.size ∈ szL (szK 16)) = decide (x.size ∈ szL 0) := rfl
    rw [hq]
    rcases hs with hs | hs | hs | hs <;> simp [brF, szL, numB, notB, eqI_d, leI_d, ltI_d, hs, Bool.and_comm, Bool.and_left_comm, Bool.and_assoc, Bool.or_assoc]
  · have h4 := l05Fits_z (v := x.src.imm) (z := 4) (by decide)
    simp only [h, h2, h4, decide_eq_false hs, br_and, br_or, bnd_s, br_f, br_t, sumE_l, sumE_r, tI1, tI2, tI4, tI11, tI12, insT_tIns, Int.reduceEq, Int.reduceLE, Int.reduceLT, decide_true, decide_false, and_false, and_true, true_and, false_and, l01In_within, within_dec, show leI 16 8 = false from rfl, show eqI 16 9 = false from rfl, show eqI 16 10 = false from rfl, show eqI 16 28 = false from rfl, show eqI 16 11 = false from rfl, show eqI 16 12 = false from rfl, show eqI 16 18 = false from rfl, show eqI 16 19 = false from rfl, show eqI 16 17 = false from rfl, show eqI 16 36 = false from rfl, show eqI 16 25 = false from rfl, show eqI 16 26 = false from rfl, show eqI 16 27 = false from rfl, show eqI 16 29 = false from rfl, show eqI 16 31 = false from rfl, show eqI 16 32 = false from rfl, show eqI 16 30 = false from rfl, show eqI 16 33 = false from rfl, show eqI 16 35 = false from rfl, show eqI 16 39 = false from rfl, show eqI 16 40 = false from rfl, show eqI 16 41 = false from rfl, show eqI 16 42 = false from rfl, show eqI 16 44 = false from rfl]
    have hz : x.size ≠ 1 ∧ x.size ≠ 2 ∧ x.size ≠ 4 ∧ x.size ≠ 8 := by omega
    simp [brF, szL, szK, numB, notB, eqI_d, leI_d, ltI_d, hz, Bool.and_comm, Bool.and_left_comm, Bool.and_assoc, Bool.or_assoc]
theorem shape17 (x : Ins) (h : x.op = 17) : S_spec_l05Shape ((x, ()), ()) = some (shB x 17, ()) := by
  have h2 := two_eq x [[114, 114], [114, 109]] 17 (by decide) rfl (by decide)
  unfold shB
  rw [any_eq 17 [[114, 114], [114, 109]] rfl]
  generalize [[114, 114], [114, 109]].any (pairB x.dst.kind x.src.kind) = A at h2 ⊢
  unfold S_spec_l05Shape
  dsimp only
  rw [l01Size_isSize, isSize_dec, bnd_s]
  dsimp only
  by_cases hs : x.size = 1 ∨ x.size = 2 ∨ x.size = 4 ∨ x.size = 8
  · have h3 := l05Fits_z (v := x.src.imm) (z := x.size) (by omega)
    have h4 := l05Fits_z (v := x.src.imm) (z := 4) (by decide)
    simp only [h, h2, h3, h4, decide_eq_true hs, br_and, br_or, bnd_s, br_f, br_t, sumE_l, sumE_r, tI1, tI2, tI4, tI11, tI12, insT_tIns, Int.reduceEq, Int.reduceLE, Int.reduceLT, decide_true, decide_false, and_false, and_true, true_and, false_and, l01In_within, within_dec, show leI 17 8 = false from rfl, show eqI 17 9 = false from rfl, show eqI 17 10 = false from rfl, show eqI 17 28 = false from rfl, show eqI 17 11 = false from rfl, show eqI 17 12 = false from rfl, show eqI 17 18 = false from rfl, show eqI 17 19 = false from rfl, show eqI 17 17 = true from rfl, show eqI 17 36 = false from rfl, show eqI 17 25 = false from rfl, show eqI 17 26 = false from rfl, show eqI 17 27 = false from rfl, show eqI 17 29 = false from rfl, show eqI 17 31 = false from rfl, show eqI 17 32 = false from rfl, show eqI 17 30 = false from rfl, show eqI 17 33 = false from rfl, show eqI 17 35 = false from rfl, show eqI 17 39 = false from rfl, show eqI 17 40 = false from rfl, show eqI 17 41 = false from rfl, show eqI 17 42 = false from rfl, show eqI 17 44 = false from rfl]
    have hq : decide (x.size ∈ szL (szK 17)) = decide (x.size ∈ szL 1) := rfl
    rw [hq]
    rcases hs with hs | hs | hs | hs <;> simp [brF, szL, numB, notB, eqI_d, leI_d, ltI_d, hs, Bool.and_comm, Bool.and_left_comm, Bool.and_assoc, Bool.or_assoc]
  · have h4 := l05Fits_z (v := x.src.imm) (z := 4) (by decide)
    simp only [h, h2, h4, decide_eq_false hs, br_and, br_or, bnd_s, br_f, br_t, sumE_l, sumE_r, tI1, tI2, tI4, tI11, tI12, insT_tIns, Int.reduceEq, Int.reduceLE, Int.reduceLT, decide_true, decide_false, and_false, and_true, true_and, false_and, l01In_within, within_dec, show leI 17 8 = false from rfl, show eqI 17 9 = false from rfl, show eqI 17 10 = false from rfl, show eqI 17 28 = false from rfl, show eqI 17 11 = false from rfl, show eqI 17 12 = false from rfl, show eqI 17 18 = false from rfl, show eqI 17 19 = false from rfl, show eqI 17 17 = true from rfl, show eqI 17 36 = false from rfl, show eqI 17 25 = false from rfl, show eqI 17 26 = false from rfl, show eqI 17 27 = false from rfl, show eqI 17 29 = false from rfl, show eqI 17 31 = false from rfl, show eqI 17 32 = false from rfl, show eqI 17 30 = false from rfl, show eqI 17 33 = false from rfl, show eqI 17 35 = false from rfl, show eqI 17 39 = false from rfl, show eqI 17 40 = false from rfl, show eqI 17 41 = false from rfl, show eqI 17 42 = false from rfl, show eqI 17 44 = false from rfl]
    have hz : x.size ≠ 1 ∧ x.size ≠ 2 ∧ x.size ≠ 4 ∧ x.size ≠ 8 := by omega
    simp [brF, szL, szK, numB, notB, eqI_d, leI_d, ltI_d, hz, Bool.and_comm, Bool.and_left_comm, Bool.and_assoc, Bool.or_assoc]
theorem shape18 (x : Ins) (h : x.op = 18) : S_spec_l05Shape ((x, ()), ()) = some (shB x 18, ()) := by
  have h2 := two_eq x [[114, 48], [109, 48]] 18 (by decide) rfl (by decide)
  unfold shB
  rw [any_eq 18 [[114, 48], [109, 48]] rfl]
  generalize [[114, 48], [109, 48]].any (pairB x.dst.kind x.src.kind) = A at h2 ⊢
  unfold S_spec_l05Shape
  dsimp only
  rw [l01Size_isSize, isSize_dec, bnd_s]
  dsimp only
  by_cases hs : x.size = 1 ∨ x.size = 2 ∨ x.size = 4 ∨ x.size = 8
  · have h3 := l05Fits_z (v := x.src.imm) (z := x.size) (by omega)
    have h4 := l05Fits_z (v := x.src.imm) (z := 4) (by decide)
    simp only [h, h2, h3, h4, decide_eq_true hs, br_and, br_or, bnd_s, br_f, br_t, sumE_l, sumE_r, tI1, tI2, tI4, tI11, tI12, insT_tIns, Int.reduceEq, Int.reduceLE, Int.reduceLT, decide_true, decide_false, and_false, and_true, true_and, false_and, l01In_within, within_dec, show leI 18 8 = false from rfl, show eqI 18 9 = false from rfl, show eqI 18 10 = false from rfl, show eqI 18 28 = false from rfl, show eqI 18 11 = false from rfl, show eqI 18 12 = false from rfl, show eqI 18 18 = true from rfl, show eqI 18 19 = false from rfl, show eqI 18 17 = false from rfl, show eqI 18 36 = false from rfl, show eqI 18 25 = false from rfl, show eqI 18 26 = false from rfl, show eqI 18 27 = false from rfl, show eqI 18 29 = false from rfl, show eqI 18 31 = false from rfl, show eqI 18 32 = false from rfl, show eqI 18 30 = false from rfl, show eqI 18 33 = false from rfl, show eqI 18 35 = false from rfl, show eqI 18 39 = false from rfl, show eqI 18 40 = false from rfl, show eqI 18 41 = false from rfl, show eqI 18 42 = false from rfl, show eqI 18 44 = false from rfl]
    have hq : decide (x.size ∈ szL (szK 18)) = decide (x.size ∈ szL 0) := rfl
    rw [hq]
    rcases hs with hs | hs | hs | hs <;> simp [brF, szL, numB, notB, eqI_d, leI_d, ltI_d, hs, Bool.and_comm, Bool.and_left_comm, Bool.and_assoc, Bool.or_assoc]
  · have h4 := l05Fits_z (v := x.src.imm) (z := 4) (by decide)
    simp only [h, h2, h4, decide_eq_false hs, br_and, br_or, bnd_s, br_f, br_t, sumE_l, sumE_r, tI1, tI2, tI4, tI11, tI12, insT_tIns, Int.reduceEq, Int.reduceLE, Int.reduceLT, decide_true, decide_false, and_false, and_true, true_and, false_and, l01In_within, within_dec, show leI 18 8 = false from rfl, show eqI 18 9 = false from rfl, show eqI 18 10 = false from rfl, show eqI 18 28 = false from rfl, show eqI 18 11 = false from rfl, show eqI 18 12 = false from rfl, show eqI 18 18 = true from rfl, show eqI 18 19 = false from rfl, show eqI 18 17 = false from rfl, show eqI 18 36 = false from rfl, show eqI 18 25 = false from rfl, show eqI 18 26 = false from rfl, show eqI 18 27 = false from rfl, show eqI 18 29 = false from rfl, show eqI 18 31 = false from rfl, show eqI 18 32 = false from rfl, show eqI 18 30 = false from rfl, show eqI 18 33 = false from rfl, show eqI 18 35 = false from rfl, show eqI 18 39 = false from rfl, show eqI 18 40 = false from rfl, show eqI 18 41 = false from rfl, show eqI 18 42 = false from rfl, show eqI 18 44 = false from rfl]
    have hz : x.size ≠ 1 ∧ x.size ≠ 2 ∧ x.size ≠ 4 ∧ x.size ≠ 8 := by omega
    simp [brF, szL, szK, numB, notB, eqI_d, leI_d, ltI_d, hz, Bool.and_comm, Bool.and_left_comm, Bool.and_assoc, Bool.or_assoc]
theorem shape19 (x : Ins) (h : x.op = 19) : S_spec_l05Shape ((x, ()), ()) = some (shB x 19, ()) := by
  have h2 := two_eq x [[114, 48], [109, 48]] 19 (by decide) rfl (by decide)
  unfold shB
  rw [any_eq 19 [[114, 48], [109, 48]] rfl]
  generalize [[114, 48], [109, 48]].any (pairB x.dst.kind x.src.kind) = A at h2 ⊢
  unfold S_spec_l05Shape
  dsimp only
  rw [l01Size_isSize, isSize_dec, bnd_s]
  dsimp only
  by_cases hs : x.size = 1 ∨ x.size = 2 ∨ x.size = 4 ∨ x.size = 8
  · have h3 := l05Fits_z (v := x.src.imm) (z := x.size) (by omega)
    have h4 := l05Fits_z (v := x.src.imm) (z := 4) (by decide)
    simp only [h, h2, h3, h4, decide_eq_true hs, br_and, br_or, bnd_s, br_f, br_t, sumE_l, sumE_r, tI1, tI2, tI4, tI11, tI12, insT_tIns, Int.reduceEq, Int.reduceLE, Int.reduceLT, decide_true, decide_false, and_false, and_true, true_and, false_and, l01In_within, within_dec, show leI 19 8 = false from rfl, show eqI 19 9 = false from rfl, show eqI 19 10 = false from rfl, show eqI 19 28 = false from rfl, show eqI 19 11 = false from rfl, show eqI 19 12 = false from rfl, show eqI 19 18 = false from rfl, show eqI 19 19 = true from rfl, show eqI 19 17 = false from rfl, show eqI 19 36 = false from rfl, show eqI 19 25 = false from rfl, show eqI 19 26 = false from rfl, show eqI 19 27 = false from rfl, show eqI 19 29 = false from rfl, show eqI 19 31 = false from rfl, show eqI 19 32 = false from rfl, show eqI 19 30 = false from rfl, show eqI 19 33 = false from rfl, show eqI 19 35 = false from rfl, show eqI 19 39 = false from rfl, show eqI 19 40 = false from rfl, show eqI 19 41 = false from rfl, show eqI 19 42 = false from rfl, show eqI 19 44 = false from rfl]
    have hq : decide (x.size ∈ szL (szK 19)) = decide (x.size ∈ szL 0) := rfl
    rw [hq]
    rcases hs with hs | hs | hs | hs <;> simp [brF, szL, numB, notB, eqI_d, leI_d, ltI_d, hs, Bool.and_comm, Bool.and_left_comm, Bool.and_assoc, Bool.or_assoc]
  · have h4 := l05Fits_z (v := x.src.imm) (z := 4) (by decide)
    simp only [h, h2, h4, decide_eq_false hs, br_and, br_or, bnd_s, br_f, br_t, sumE_l, sumE_r, tI1, tI2, tI4, tI11, tI12, insT_tIns, Int.reduceEq, Int.reduceLE, Int.reduceLT, decide_true, decide_false, and_false, and_true, true_and, false_and, l01In_within, within_dec, show leI 19 8 = false from rfl, show eqI 19 9 = false from rfl, show eqI 19 10 = false from rfl, show eqI 19 28 = false from rfl, show eqI 19 11 = false from rfl, show eqI 19 12 = false from rfl, show eqI 19 18 = false from rfl, show eqI 19 19 = true from rfl, show eqI 19 17 = false from rfl, show eqI 19 36 = false from rfl, show eqI 19 25 = false from rfl, show eqI 19 26 = false from rfl, show eqI 19 27 = false from rfl, show eqI 19 29 = false from rfl, show eqI 19 31 = false from rfl, show eqI 19 32 = false from rfl, show eqI 19 30 = false from rfl, show eqI 19 33 = false from rfl, show eqI 19 35 = false from rfl, show eqI 19 39 = false from rfl, show eqI 19 40 = false from rfl, show eqI 19 41 = false from rfl, show eqI 19 42 = false from rfl, show eqI 19 44 = false from rfl]
    have hz : x.size ≠ 1 ∧ x.size ≠ 2 ∧ x.size ≠ 4 ∧ x.size ≠ 8 := by omega
    simp [brF, szL, szK, numB, notB, eqI_d, leI_d, ltI_d, hz, Bool.and_comm, Bool.and_left_comm, Bool.and_assoc, Bool.or_assoc]
theorem shape20 (x : Ins) (h : x.op = 20) : S_spec_l05Shape ((x, ()), ()) = some (shB x 20, ()) := by
  have h2 := two_eq x [[114, 114], [109, 114], [114, 105], [109, 105]] 20 (by decide) rfl (by decide)
  unfold shB
  rw [any_eq 20 [[114, 114], [109, 114], [114, 105], [109, 105]] rfl]
  generalize [[114, 114], [109, 114], [114, 105], [109, 105]].any (pairB x.dst.kind x.src.kind) = A at h2 ⊢
  unfold S_spec_l05Shape
  dsimp only
  rw [l01Size_isSize, isSize_dec, bnd_s]
  dsimp only
  by_cases hs : x.size = 1 ∨ x.size = 2 ∨ x.size = 4 ∨ x.size = 8
  · have h3 := l05Fits_z (v := x.src.imm) (z := x.size) (by omega)
    have h4 := l05Fits_z (v := x.src.imm) (z := 4) (by decide)
    simp only [h, h2, h3, h4, decide_eq_true hs, br_and, br_or, bnd_s, br_f, br_t, sumE_l, sumE_r, tI1, tI2, tI4, tI11, tI12, insT_tIns, Int.reduceEq, Int.reduceLE, Int.reduceLT, decide_true, decide_false, and_false, and_true, true_and, false_and, l01In_within, within_dec, show leI 20 8 = false from rfl, show eqI 20 9 = false from rfl, show eqI 20 10 = false from rfl, show eqI 20 28 = false from rfl, show eqI 20 11 = false from rfl, show eqI 20 12 = false from rfl, show eqI 20 18 = false from rfl, show eqI 20 19 = false from rfl, show eqI 20 17 = false from rfl, show eqI 20 36 = false from rfl, show eqI 20 25 = false from rfl, show eqI 20 26 = false from rfl, show eqI 20 27 = false from rfl, show eqI 20 29 = false from rfl, show eqI 20 31 = false from rfl, show eqI 20 32 = false from rfl, show eqI 20 30 = false from rfl, show eqI 20 33 = false from rfl, show eqI 20 35 = false from rfl, show eqI 20 39 = false from rfl, show eqI 20 40 = false from rfl, show eqI 20 41 = false from rfl, show eqI 20 42 = false from rfl, show eqI 20 44 = false from rfl]
    have hq : decide (x.size ∈ szL (szK 20)) = decide (x.size ∈ szL 0) := rfl
    rw [hq]
    rcases hs with hs | hs | hs | hs <;> simp [brF, szL, numB, notB, eqI_d, leI_d, ltI_d, hs, Bool.and_comm, Bool.and_left_comm, Bool.and_assoc, Bool.or_assoc]
  · have h4 := l05Fits_z (v := x.src.imm) (z := 4) (by decide)
    simp only [h, h2, h4, decide_eq_false hs, br_and, br_or, bnd_s, br_f, br_t, sumE_l, sumE_r, tI1, tI2, tI4, tI11, tI12, insT_tIns, Int.reduceEq, Int.reduceLE, Int.reduceLT, decide_true, decide_false, and_false, and_true, true_and, false_and, l01In_within, within_dec, show leI 20 8 = false from rfl, show eqI 20 9 = false from rfl, show eqI 20 10 = false from rfl, show eqI 20 28 = false from rfl, show eqI 20 11 = false from rfl, show eqI 20 12 = false from rfl, show eqI 20 18 = false from rfl, show eqI 20 19 = false from rfl, show eqI 20 17 = false from rfl, show eqI 20 36 = false from rfl, show eqI 20 25 = false from rfl, show eqI 20 26 = false from rfl, show eqI 20 27 = false from rfl, show eqI 20 29 = false from rfl, show eqI 20 31 = false from rfl, show eqI 20 32 = false from rfl, show eqI 20 30 = false from rfl, show eqI 20 33 = false from rfl, show eqI 20 35 = false from rfl, show eqI 20 39 = false from rfl, show eqI 20 40 = false from rfl, show eqI 20 41 = false from rfl, show eqI 20 42 = false from rfl, show eqI 20 44 = false from rfl]
    have hz : x.size ≠ 1 ∧ x.size ≠ 2 ∧ x.size ≠ 4 ∧ x.size ≠ 8 := by omega
    simp [brF, szL, szK, numB, notB, eqI_d, leI_d, ltI_d, hz, Bool.and_comm, Bool.and_left_comm, Bool.and_assoc, Bool.or_assoc]
theorem shape21 (x : Ins) (h : x.op = 21) : S_spec_l05Shape ((x, ()), ()) = some (shB x 21, ()) := by
  have h2 := two_eq x [[114, 114], [109, 114], [114, 105], [109, 105]] 21 (by decide) rfl (by decide)
  unfold shB
  rw [any_eq 21 [[114, 114], [109, 114], [114, 105], [109, 105]] rfl]
  generalize [[114, 114], [109, 114], [114, 105], [109, 105]].any (pairB x.dst.kind x.src.kind) = A at h2 ⊢
  unfold S_spec_l05Shape
  dsimp only
  rw [l01Size_isSize, isSize_dec, bnd_s]
  dsimp only
  by_cases hs : x.size = 1 ∨ x.size = 2 ∨ x.size = 4 ∨ x.size = 8
  · have h3 := l05Fits_z (v := x.src.imm) (z := x.size) (by omega)
    have h4 := l05Fits_z (v := x.src.imm) (z := 4) (by decide)
    simp only [h, h2, h3, h4, decide_eq_true hs, br_and, br_or, bnd_s, br_f, br_t, sumE_l, sumE_r, tI1, tI2, tI4, tI11, tI12, insT_tIns, Int.reduceEq, Int.reduceLE, Int.reduceLT, decide_true, decide_false, and_false, and_true, true_and, false_and, l01In_within, within_dec, show leI 21 8 = false from rfl, show eqI 21 9 = false from rfl, show eqI 21 10 = false from rfl, show eqI 21 28 = false from rfl, show eqI 21 11 = false from rfl, show eqI 21 12 = false from rfl, show eqI 21 18 = false from rfl, show eqI 21 19 = false from rfl, show eqI 21 17 = false from rfl, show eqI 21 36 = false from rfl, show eqI 21 25 = false from rfl, show eqI 21 26 = false from rfl, show eqI 21 27 = false from rfl, show eqI 21 29 = false from rfl, show eqI 21 31 = false from rfl, show eqI 21 32 = false from rfl, show eqI 21 30 = false from rfl, show eqI 21 33 = false from rfl, show eqI 21 35 = false from rfl, show eqI 21 39 = false from rfl, show eqI 21 40 = false from rfl, show eqI 21 41 = false from rfl, show eqI 21 42 = false from rfl, show eqI 21 44 = false from rfl]
    have hq : decide (x.size ∈ szL (szK 21)) = decide (x.size ∈ szL 0) := rfl
    rw [hq]
    rcases hs with hs | hs | hs | hs <;> simp [brF, szL, numB, notB, eqI_d, leI_d, ltI_d, hs, Bool.and_comm, Bool.and_left_comm, Bool.and_assoc, Bool.or_assoc]
  · have h4 := l05Fits_z (v := x.src.imm) (z := 4) (by decide)
    simp only [h, h2, h4, decide_eq_false hs, br_and, br_or, bnd_s, br_f, br_t, sumE_l, sumE_r, tI1, tI2, tI4, tI11, tI12, insT_tIns, Int.reduceEq, Int.reduceLE, Int.reduceLT, decide_true, decide_false, and_false, and_true, true_and, false_and, l01In_within, within_dec, show leI 21 8 = false from rfl, show eqI 21 9 = false from rfl, show eqI 21 10 = false from rfl, show eqI 21 28 = false from rfl, show eqI 21 11 = false from rfl, show eqI 21 12 = false from rfl, show eqI 21 18 = false from rfl, show eqI 21 19 = false from rfl, show eqI 21 17 = false from rfl, show eqI 21 36 = false from rfl, show eqI 21 25 = false from rfl, show eqI 21 26 = false from rfl, show eqI 21 27 = false from rfl, show eqI 21 29 = false from rfl, show eqI 21 31 = false from rfl, show eqI 21 32 = false from rfl, show eqI 21 30 = false from rfl, show eqI 21 33 = false from rfl, show eqI 21 35 = false from rfl, show eqI 21 39 = false from rfl, show eqI 21 40 = false from rfl, show eqI 21 41 = false from rfl, show eqI 21 42 = false from rfl, show eqI 21 44 = false from rfl]
    have hz : x.size ≠ 1 ∧ x.size ≠ 2 ∧ x.size ≠ 4 ∧ x.size ≠ 8 := by omega
    simp [brF, szL, szK, numB, notB, eqI_d, leI_d, ltI_d, hz, Bool.and_comm, Bool.and_left_comm, Bool.and_assoc, Bool.or_assoc]
theorem shape22 (x : Ins) (h : x.op = 22) : S_spec_l05Shape ((x, ()), ()) = some (shB x 22, ()) := by
  have h2 := two_eq x [[114, 114], [109, 114], [114, 105], [109, 105]] 22 (by decide) rfl (by decide)
  unfold shB
  rw [any_eq 22 [[114, 114], [109, 114], [114, 105], [109, 105]] rfl]
  generalize [[114, 114], [109, 114], [114, 105], [109, 105]].any (pairB x.dst.kind x.src.kind) = A at h2 ⊢
  unfold S_spec_l05Shape
  dsimp only
  rw [l01Size_isSize, isSize_dec, bnd_s]
  dsimp only
  by_cases hs : x.size = 1 ∨ x.size = 2 ∨ x.size = 4 ∨ x.size = 8
  · have h3 := l05Fits_z (v := x.src.imm) (z := x.size) (by omega)
    have h4 := l05Fits_z (v := x.src.imm) (z := 4) (by decide)
    simp only [h, h2, h3, h4, decide_eq_true hs, br_and, br_or, bnd_s, br_f, br_t, sumE_l, sumE_r, tI1, tI2, tI4, tI11, tI12, insT_tIns, Int.reduceEq, Int.reduceLE, Int.reduceLT, decide_true, decide_false, and_false, and_true, true_and, false_and, l01In_within, within_dec, show leI 22 8 = false from rfl, show eqI 22 9 = false from rfl, show eqI 22 10 = false from rfl, show eqI 22 28 = false from rfl, show eqI 22 11 = false from rfl, show eqI 22 12 = false from rfl, show eqI 22 18 = false from rfl, show eqI 22 19 = false from rfl, show eqI 22 17 = false from rfl, show eqI 22 36 = false from rfl, show eqI 22 25 = false from rfl, show eqI 22 26 = false from rfl, show eqI 22 27 = false from rfl, show eqI 22 29 = false from rfl, show eqI 22 31 = false from rfl, show eqI 22 32 = false from rfl, show eqI 22 30 = false from rfl, show eqI 22 33 = false from rfl, show eqI 22 35 = false from rfl, show eqI 22 39 = false from rfl, show eqI 22 40 = false from rfl, show eqI 22 41 = false from rfl, show eqI 22 42 = false from rfl, show eqI 22 44 = false from rfl]
    have hq : decide (x.size ∈ szL (szK 22)) = decide (x.size ∈ szL 0) := rfl
    rw [hq]
    rcases hs with hs | hs | hs | hs <;> simp [brF, szL, numB, notB, eqI_d, leI_d, ltI_d, hs, Bool.and_comm, Bool.and_left_comm, Bool.and_assoc, Bool.or_assoc]
  · have h4 := l05Fits_z (v := x.src.imm) (z := 4) (by decide)
    simp only [h, h2, h4, decide_eq_false hs, br_and, br_or, bnd_s, br_f, br_t, sumE_l, sumE_r, tI1, tI2, tI4, tI11, tI12, insT_tIns, Int.reduceEq, Int.reduceLE, Int.reduceLT, decide_true, decide_false, and_false, and_true, true_and, false_and, l01In_within, within_dec, show leI 22 8 = false from rfl, show eqI 22 9 = false from rfl, show eqI 22 10 = false from rfl, show eqI 22 28 = false from rfl, show eqI 22 11 = false from rfl, show eqI 22 12 = false from rfl, show eqI 22 18 = false from rfl, show eqI 22 19 = false from rfl, show eqI 22 17 = false from rfl, show eqI 22 36 = false from rfl, show eqI 22 25 = false from rfl, show eqI 22 26 = false from rfl, show eqI 22 27 = false from rfl, show eqI 22 29 = false from rfl, show eqI 22 31 = false from rfl, show eqI 22 32 = false from rfl, show eqI 22 30 = false from rfl, show eqI 22 33 = false from rfl, show eqI 22 35 = false from rfl, show eqI 22 39 = false from rfl, show eqI 22 40 = false from rfl, show eqI 22 41 = false from rfl, show eqI 22 42 = false from rfl, show eqI 22 44 = false from rfl]
    have hz : x.size ≠ 1 ∧ x.size ≠ 2 ∧ x.size ≠ 4 ∧ x.size ≠ 8 := by omega
    simp [brF, szL, szK, numB, notB, eqI_d, leI_d, ltI_d, hz, Bool.and_comm, Bool.and_left_comm, Bool.and_assoc, Bool.or_assoc]
theorem shape23 (x : Ins) (h : x.op = 23) : S_spec_l05Shape ((x, ()), ()) = some (shB x 23, ()) := by
  have h2 := two_eq x [[114, 114], [109, 114], [114, 105], [109, 105]] 23 (by decide) rfl (by decide)
  unfold shB
  rw [any_eq 23 [[114, 114], [109, 114], [114, 105], [109, 105]] rfl]
  generalize [[114, 114], [109, 114], [114, 105], [109, 105]].any (pairB x.dst.kind x.src.kind) = A at h2 ⊢
  unfold S_spec_l05Shape
  dsimp only
  rw [l01Size_isSize, isSize_dec, bnd_s]
  dsimp only
  by_cases hs : x.size = 1 ∨ x.size = 2 ∨ x.size = 4 ∨ x.size = 8
  · have h3 := l05Fits_z (v := x.src.imm) (z := x.size) (by omega)
    have h4 := l05Fits_z (v := x.src.imm) (z := 4) (by decide)
    simp only [h, h2, h3, h4, decide_eq_true hs, br_and, br_or, bnd_s, br_f, br_t, sumE_l, sumE_r, tI1, tI2, tI4, tI11, tI12, insT_tIns, Int.reduceEq, Int.reduceLE, Int.reduceLT, decide_true, decide_false, and_false, and_true, true_and, false_and, l01In_within, within_dec, show leI 23 8 = false from rfl, show eqI 23 9 = false from rfl, show eqI 23 10 = false from rfl, show eqI 23 28 = false from rfl, show eqI 23 11 = false from rfl, show eqI 23 12 = false from rfl, show eqI 23 18 = false from rfl, show eqI 23 19 = false from rfl, show eqI 23 17 = false from rfl, show eqI 23 36 = false from rfl, show eqI 23 25 = false from rfl, show eqI 23 26 = false from rfl, show eqI 23 27 = false from rfl, show eqI 23 29 = false from rfl, show eqI 23 31 = false from rfl, show eqI 23 32 = false from rfl, show eqI 23 30 = false from rfl, show eqI 23 33 = false from rfl, show eqI 23 35 = false from rfl, show eqI 23 39 = false from rfl, show eqI 23 40 = false from rfl, show eqI 23 41 = false from rfl, show eqI 23 42 = false from rfl, show eqI 23 44 = false from rfl]
    have hq : decide (x.size ∈ szL (szK 23)) = decide (x.size ∈ szL 0) := rfl
    rw [hq]
    rcases hs with hs | hs | hs | hs <;> simp [brF, szL, numB, notB, eqI_d, leI_d, ltI_d, hs, Bool.and_comm, Bool.and_left_comm, Bool.and_assoc, Bool.or_assoc]
  · have h4 := l05Fits_z (v := x.src.imm) (z := 4) (by decide)
    simp only [h, h2, h4, decide_eq_false hs, br_and, br_or, bnd_s, br_f, br_t, sumE_l, sumE_r, tI1, tI2, tI4, tI11, tI12, insT_tIns, Int.reduceEq, Int.reduceLE, Int.reduceLT, decide_true, decide_false, and_false, and_true, true_and, false_and, l01In_within, within_dec, show leI 23 8 = false from rfl, show eqI 23 9 = false from rfl, show eqI 23 10 = false from rfl, show eqI 23 28 = false from rfl, show eqI 23 11 = false from rfl, show eqI 23 12 = false from rfl, show eqI 23 18 = false from rfl, show eqI 23 19 = false from rfl, show eqI 23 17 = false from rfl, show eqI 23 36 = false from rfl, show eqI 23 25 = false from rfl, show eqI 23 26 = false from rfl, show eqI 23 27 = false from rfl, show eqI 23 29 = false from rfl, show eqI 23 31 = false from rfl, show eqI 23 32 = false from rfl, show eqI 23 30 = false from rfl, show eqI 23 33 = false from rfl, show eqI 23 35 = false from rfl, show eqI 23 39 = false from rfl, show eqI 23 40 = false from rfl, show eqI 23 41 = false from rfl, show eqI 23 42 = false from rfl, show eqI 23 44 = false from rfl]
    have hz : x.size ≠ 1 ∧ x.size ≠ 2 ∧ x.size ≠ 4 ∧ x.size ≠ 8 := by omega
    simp [brF, szL, szK, numB, notB, eqI_d, leI_d, ltI_d, hz, Bool.and_comm, Bool.and_left_comm, Bool.and_assoc, Bool.or_assoc]
theorem shape24 (x : Ins) (h : x.op = 24) : S_spec_l05Shape ((x, ()), ()) = some (shB x 24, ()) := by
  have h2 := two_eq x [[114, 114], [109, 114], [114, 105], [109, 105]] 24 (by decide) rfl (by decide)
  unfold shB
  rw [any_eq 24 [[114, 114], [109, 114], [114, 105], [109, 105]] rfl]
  generalize [[114, 114], [109, 114], [114, 105], [109, 105]].any (pairB x.dst.kind x.src.kind) = A at h2 ⊢
  unfold S_spec_l05Shape
  dsimp only
  rw [l01Size_isSize, isSize_dec, bnd_s]
  dsimp only
  by_cases hs : x.size = 1 ∨ x.size = 2 ∨ x.size = 4 ∨ x.size = 8
  · have h3 := l05Fits_z (v := x.src.imm) (z := x.size) (by omega)
    have h4 := l05Fits_z (v := x.src.imm) (z := 4) (by decide)
    simp only [h, h2, h3, h4, decide_eq_true hs, br_and, br_or, bnd_s, br_f, br_t, sumE_l, sumE_r, tI1, tI2, tI4, tI11, tI12, insT_tIns, Int.reduceEq, Int.reduceLE, Int.reduceLT, decide_true, decide_false, and_false, and_true, true_and, false_and, l01In_within, within_dec, show leI 24 8 = false from rfl, show eqI 24 9 = false from rfl, show eqI 24 10 = false from rfl, show eqI 24 28 = false from rfl, show eqI 24 11 = false from rfl, show eqI 24 12 = false from rfl, show eqI 24 18 = false from rfl, show eqI 24 19 = false from rfl, show eqI 24 17 = false from rfl, show eqI 24 36 = false from rfl, show eqI 24 25 = false from rfl, show eqI 24 26 = false from rfl, show eqI 24 27 = false from rfl, show eqI 24 29 = false from rfl, show eqI 24 31 = false from rfl, show eqI 24 32 = false from rfl, show eqI 24 30 = false from rfl, show eqI 24 33 = false from rfl, show eqI 24 35 = false from rfl, show eqI 24 39 = false from rfl, show eqI 24 40 = false from rfl, show eqI 24 41 = false from rfl, show eqI 24 42 = false from rfl, show eqI 24 44 = false from rfl]
    have hq : decide (x.size ∈ szL (szK 24)) = decide (x.size ∈ szL 0) := rfl
    rw [hq]
    rcases hs with hs | hs | hs | hs <;> simp [brF, szL, numB, notB, eqI_d, leI_d, ltI_d, hs, Bool.and_comm, Bool.and_left_comm, Bool.and_assoc, Bool.or_assoc]
  · have h4 := l05Fits_z (v := x.src.imm) (z := 4) (by decide)
    simp only [h, h2, h4, decide_eq_false hs, br_and, br_or, bnd_s, br_f, br_t, sumE_l, sumE_r, tI1, tI2, tI4, tI11, tI12, insT_tIns, Int.reduceEq, Int.reduceLE, Int.reduceLT, decide_true, decide_false, and_false, and_true, true_and, false_and, l01In_within, within_dec, show leI 24 8 = false from rfl, show eqI 24 9 = false from rfl, show eqI 24 10 = false from rfl, show eqI 24 28 = false from rfl, show eqI 24 11 = false from rfl, show eqI 24 12 = false from rfl, show eqI 24 18 = false from rfl, show eqI 24 19 = false from rfl, show eqI 24 17 = false from rfl, show eqI 24 36 = false from rfl, show eqI 24 25 = false from rfl, show eqI 24 26 = false from rfl, show eqI 24 27 = false from rfl, show eqI 24 29 = false from rfl, show eqI 24 31 = false from rfl, show eqI 24 32 = false from rfl, show eqI 24 30 = false from rfl, show eqI 24 33 = false from rfl, show eqI 24 35 = false from rfl, show eqI 24 39 = false from rfl, show eqI 24 40 = false from rfl, show eqI 24 41 = false from rfl, show eqI 24 42 = false from rfl, show eqI 24 44 = false from rfl]
    have hz : x.size ≠ 1 ∧ x.size ≠ 2 ∧ x.size ≠ 4 ∧ x.size ≠ 8 := by omega
    simp [brF, szL, szK, numB, notB, eqI_d, leI_d, ltI_d, hz, Bool.and_comm, Bool.and_left_comm, Bool.and_assoc, Bool.or_assoc]
theorem shape25 (x : Ins) (h : x.op = 25) : S_spec_l05Shape ((x, ()), ()) = some (shB x 25, ()) := by
  have h2 := two_eq x [[114, 109]] 25 (by decide) rfl (by decide)
  unfold shB
  rw [any_eq 25 [[114, 109]] rfl]
  generalize [[114, 109]].any (pairB x.dst.kind x.src.kind) = A at h2 ⊢
  unfold S_spec_l05Shape
  dsimp only
  rw [l01Size_isSize, isSize_dec, bnd_s]
  dsimp only
  by_cases hs : x.size = 1 ∨ x.size = 2 ∨ x.size = 4 ∨ x.size = 8
  · have h3 := l05Fits_z (v := x.src.imm) (z := x.size) (by omega)
    have h4 := l05Fits_z (v := x.src.imm) (z := 4) (by decide)
    simp only [h, h2, h3, h4, decide_eq_true hs, br_and, br_or, bnd_s, br_f, br_t, sumE_l, sumE_r, tI1, tI2, tI4, tI11, tI12, insT_tIns, Int.reduceEq, Int.reduceLE, Int.reduceLT, decide_true, decide_false, and_false, and_true, true_and, false_and, l01In_within, within_dec, show leI 25 8 = false from rfl, show eqI 25 9 = false from rfl, show eqI 25 10 = false from rfl, show eqI 25 28 = false from rfl, show eqI 25 11 = false from rfl, show eqI 25 12 = false from rfl, show eqI 25 18 = false from rfl, show eqI 25 19 = false from rfl, show eqI 25 17 = false from rfl, show eqI 25 36 = false from rfl, show eqI 25 25 = true from rfl, show eqI 25 26 = false from rfl, show eqI 25 27 = false from rfl, show eqI 25 29 = false from rfl, show eqI 25 31 = false from rfl, show eqI 25 32 = false from rfl, show eqI 25 30 = false from rfl, show eqI 25 33 = false from rfl, show eqI 25 35 = false from rfl, show eqI 25 39 = false from rfl, show eqI 25 40 = false from rfl, show eqI 25 41 = false from rfl, show eqI 25 42 = false from rfl, show eqI 25 44 = false from rfl]
    have hq : decide (x.size ∈ szL (szK 25)) = decide (x.size ∈ szL 1) := rfl
    rw [hq]
    rcases hs with hs | hs | hs | hs <;> simp [brF, szL, numB, notB, eqI_d, leI_d, ltI_d, hs, Bool.and_comm, Bool.and_left_comm, Bool.and_assoc, Bool.or_assoc]
  · have h4 := l05Fits_z (v := x.src.imm) (z := 4) (by decide)
    simp only [h, h2, h4, decide_eq_false hs, br_and, br_or, bnd_s, br_f, br_t, sumE_l, sumE_r, tI1, tI2, tI4, tI11, tI12, insT_tIns, Int.reduceEq, Int.reduceLE, Int.reduceLT, decide_true, decide_false, and_false, and_true, true_and, false_and, l01In_within, within_dec, show leI 25 8 = false from rfl, show eqI 25 9 = false from rfl, show eqI 25 10 = false from rfl, show eqI 25 28 = false from rfl, show eqI 25 11 = false from rfl, show eqI 25 12 = false from rfl, show eqI 25 18 = false from rfl, show eqI 25 19 = false from rfl, show eqI 25 17 = false from rfl, show eqI 25 36 = false from rfl, show eqI 25 25 = true from rfl, show eqI 25 26 = false from rfl, show eqI 25 27 = false from rfl, show eqI 25 29 = false from rfl, show eqI 25 31 = false from rfl, show eqI 25 32 = false from rfl, show eqI 25 30 = false from rfl, show eqI 25 33 = false from rfl, show eqI 25 35 = false from rfl, show eqI 25 39 = false from rfl, show eqI 25 40 = false from rfl, show eqI 25 41 = false from rfl, show eqI 25 42 = false from rfl, show eqI 25 44 = false from rfl]
    have hz : x.size ≠ 1 ∧ x.size ≠ 2 ∧ x.size ≠ 4 ∧ x.size ≠ 8 := by omega
    simp [brF, szL, szK, numB, notB, eqI_d, leI_d, ltI_d, hz, Bool.and_comm, Bool.and_left_comm, Bool.and_assoc, Bool.or_assoc]
theorem shape26 (x : Ins) (h : x.op = 26) : S_spec_l05Shape ((x, ()), ()) = some (shB x 26, ()) := by
  have h2 := two_eq x [[114, 114], [114, 109]] 26 (by decide) rfl (by decide)
  unfold shB
  rw [any_eq 26 [[114, 114], [114, 109]] rfl]
  generalize [[114, 114], [114, 109]].any (pairB x.dst.kind x.src.kind) = A at h2 ⊢
  unfold S_spec_l05Shape
  dsimp only
  rw [l01Size_isSize, isSize_dec, bnd_s]
  dsimp only
  by_cases hs : x.size = 1 ∨ x.size = 2 ∨ x.size = 4 ∨ x.size = 8
  · have h3 := l05Fits_z (v := x.src.imm) (z := x.size) (by omega)
    have h4 := l05Fits_z (v := x.src.imm) (z := 4) (by decide)
    simp only [h, h2, h3, h4, decide_eq_true hs, br_and, br_or, bnd_s, br_f, br_t, sumE_l, sumE_r, tI1, tI2, tI4, tI11, tI12, insT_tIns, Int.reduceEq, Int.reduceLE, Int.reduceLT, decide_true, decide_false, and_false, and_true, true_and, false_and, l01In_within, within_dec, show leI 26 8 = false from rfl, show eqI 26 9 = false from rfl, show eqI 26 10 = false from rfl, show eqI 26 28 = false from rfl, show eqI 26 11 = false from rfl, show eqI 26 12 = false from rfl, show eqI 26 18 = false from rfl, show eqI 26 19 = false from rfl, show eqI 26 17 = false from rfl, show eqI 26 36 = false from rfl, show eqI 26 25 = false from rfl, show eqI 26 26 = true from rfl, show eqI 26 27 = false from rfl, show eqI 26 29 = false from rfl, show eqI 26 31 = false from rfl, show eqI 26 32 = false from rfl, show eqI 26 30 = false from rfl, show eqI 26 33 = false from rfl, show eqI 26 35 = false from rfl, show eqI 26 39 = false from rfl, show eqI 26 40 = false from rfl, show eqI 26 41 = false from rfl, show eqI 26 42 = false from rfl, show eqI 26 44 = false from rfl]
    have hq : decide (x.size ∈ szL (szK 26)) = decide (x.size ∈ szL 1) := rfl
    rw [hq]
    rcases hs with hs | hs | hs | hs <;> simp [brF, szL, numB, notB, eqI_d, leI_d, ltI_d, hs, Bool.and_comm, Bool.and_left_comm, Bool.and_assoc, Bool.or_assoc]
  · have h4 := l05Fits_z (v := x.src.imm) (z := 4) (by decide)
    simp only [h, h2, h4, decide_eq_false hs, br_and, br_or, bnd_s, br_f, br_t, sumE_l, sumE_r, tI1, tI2, tI4, tI11, tI12, insT_tIns, Int.reduceEq, Int.reduceLE, Int.reduceLT, decide_true, decide_false, and_false, and_true, true_and, false_and, l01In_within, within_dec, show leI 26 8 = false from rfl, show eqI 26 9 = false from rfl, show eqI 26 10 = false from rfl, show eqI 26 28 = false from rfl, show eqI 26 11 = false from rfl, show eqI 26 12 = false from rfl, show eqI 26 18 = false from rfl, show eqI 26 19 = false from rfl, show eqI 26 17 = false from rfl, show eqI 26 36 = false from rfl, show eqI 26 25 = false from rfl, show eqI 26 26 = true from rfl, show eqI 26 27 = false from rfl, show eqI 26 29 = false from rfl, show eqI 26 31 = false from rfl, show eqI 26 32 = false from rfl, show eqI 26 30 = false from rfl, show eqI 26 33 = false from rfl, show eqI 26 35 = false from rfl, show eqI 26 39 = false from rfl, show eqI 26 40 = false from rfl, show eqI 26 41 = false from rfl, show eqI 26 42 = false from rfl, show eqI 26 44 = false from rfl]
    have hz : x.size ≠ 1 ∧ x.size ≠ 2 ∧ x.size ≠ 4 ∧ x.size ≠ 8 := by omega
    simp [brF, szL, szK, numB, notB, eqI_d, leI_d, ltI_d, hz, Bool.and_comm, Bool.and_left_comm, Bool.and_assoc, Bool.or_assoc]
theorem shape27 (x : Ins) (h : x.op = 27) : S_spec_l05Shape ((x, ()), ()) = some (shB x 27, ()) := by
  have h2 := two_eq x [[114, 114], [114, 109]] 27 (by decide) rfl (by decide)
  unfold shB
  rw [any_eq 27 [[114, 114], [114, 109]] rfl]
  generalize [[114, 114], [114, 109]].any (pairB x.dst.kind x.src.kind) = A at h2 ⊢
  unfold S_spec_l05Shape
  dsimp only
  rw [l01Size_isSize, isSize_dec, bnd_s]
  dsimp only
  by_cases hs : x.size = 1 ∨ x.size = 2 ∨ x.size = 4 ∨ x.size = 8
  · have h3 := l05Fits_z (v := x.src.imm) (z := x.size) (by omega)
    have h4 := l05Fits_z (v := x.src.imm) (z := 4) (by decide)
    simp only [h, h2, h3, h4, decide_eq_true hs, br_and, br_or, bnd_s, br_f, br_t, sumE_l, sumE_r, tI1, tI2, tI4, tI11, tI12, insT_tIns, Int.reduceEq, Int.reduceLE, Int.reduceLT, decide_true, decide_false, and_false, and_true, true_and, false_and, l01In_within, within_dec, show leI 27 8 = false from rfl, show eqI 27 9 = false from rfl, show eqI 27 10 = false from rfl, show eqI 27 28 = false from rfl, show eqI 27 11 = false from rfl, show eqI 27 12 = false from rfl, show eqI 27 18 = false from rfl, show eqI 27 19 = false from rfl, show eqI 27 17 = false from rfl, show eqI 27 36 = false from rfl, show eqI 27 25 = false from rfl, show eqI 27 26 = false from rfl, show eqI 27 27 = true from rfl, show eqI 27 29 = false from rfl, show eqI 27 31 = false from rfl, show eqI 27 32 = false from rfl, show eqI 27 30 = false from rfl, show eqI 27 33 = false from rfl, show eqI 27 35 = false from rfl, show eqI 27 39 = false from rfl, show eqI 27 40 = false from rfl, show eqI 27 41 = false from rfl, show eqI 27 42 = false from rfl, show eqI 27 44 = false from rfl]
    have hq : decide (x.size ∈ szL (szK 27)) = decide (x.size ∈ szL 1) := rfl
    rw [hq]
    rcases hs with hs | hs | hs | hs <;> simp [brF, szL, numB, notB, eqI_d, leI_d, ltI_d, hs, Bool.and_comm, Bool.and_left_comm, Bool.and_assoc, Bool.or_assoc]
  · have h4 := l05Fits_z (v := x.src.imm) (z := 4) (by decide)
    simp only [h, h2, h4, decide_eq_false hs, br_and, br_or, bnd_s, br_f, br_t, sumE_l, sumE_r, tI1, tI2, tI4, tI11, tI12, insT_tIns, Int.reduceEq, Int.reduceLE, Int.reduceLT, decide_true, decide_false, and_false, and_true, true_and, false_and, l01In_within, within_dec, show leI 27 8 = false from rfl, show eqI 27 9 = false from rfl, show eqI 27 10 = false from rfl, show eqI 27 28 = false from rfl, show eqI 27 11 = false from rfl, show eqI 27 12 = false from rfl, show eqI 27 18 = false from rfl, show eqI 27 19 = false from rfl, show eqI 27 17 = false from rfl, show eqI 27 36 = false from rfl, show eqI 27 25 = false from rfl, show eqI 27 26 = false from rfl, show eqI 27 27 = true from rfl, show eqI 27 29 = false from rfl, show eqI 27 31 = false from rfl, show eqI 27 32 = false from rfl, show eqI 27 30 = false from rfl, show eqI 27 33 = false from rfl, show eqI 27 35 = false from rfl, show eqI 27 39 = false from rfl, show eqI 27 40 = false from rfl, show eqI 27 41 = false from rfl, show eqI 27 42 = false from rfl, show eqI 27 44 = false from rfl]
    have hz : x.size ≠ 1 ∧ x.size ≠ 2 ∧ x.size ≠ 4 ∧ x.size ≠ 8 := by omega
    simp [brF, szL, szK, numB, notB, eqI_d, leI_d, ltI_d, hz, Bool.and_comm, Bool.and_left_comm, Bool.and_assoc, Bool.or_assoc]
theorem shape28 (x : Ins) (h : x.op = 28) : S_spec_l05Shape ((x, ()), ()) = some (shB x 28, ()) := by
  have h2 := two_eq x [[114, 114], [109, 114]] 28 (by decide) rfl (by decide)
  unfold shB
  rw [any_eq 28 [[114, 114], [109, 114]] rfl]
  generalize [[114, 114], [109, 114]].any (pairB x.dst.kind x.src.kind) = A at h2 ⊢
  unfold S_spec_l05Shape
  dsimp only
  rw [l01Size_isSize, isSize_dec, bnd_s]
  dsimp only
  by_cases hs : x.size = 1 ∨ x.size = 2 ∨ x.size = 4 ∨ x.size = 8
  · have h3 := l05Fits_z (v := x.src.imm) (z := x.size) (by omega)
    have h4 := l05Fits_z (v := x.src.imm) (z := 4) (by decide)
    simp only [h, h2, h3, h4, decide_eq_true hs, br_and, br_or, bnd_s, br_f, br_t, sumE_l, sumE_r, tI1, tI2, tI4, tI11, tI12, insT_tIns, Int.reduceEq, Int.reduceLE, Int.reduceLT, decide_true, decide_false, and_false, and_true, true_and, false_and, l01In_within, within_dec, show leI 28 8 = false from rfl, show eqI 28 9 = false from rfl, show eqI 28 10 = false from rfl, show eqI 28 28 = true from rfl, show eqI 28 11 = false from rfl, show eqI 28 12 = false from rfl, show eqI 28 18 = false from rfl, show eqI 28 19 = false from rfl, show eqI 28 17 = false from rfl, show eqI 28 36 = false from rfl, show eqI 28 25 = false from rfl, show eqI 28 26 = false from rfl, show eqI 28 27 = false from rfl, show eqI 28 29 = false from rfl, show eqI 28 31 = false from rfl, show eqI 28 32 = false from rfl, show eqI 28 30 = false from rfl, show eqI 28 33 = false from rfl, show eqI 28 35 = false from rfl, show eqI 28 39 = false from rfl, show eqI 28 40 = false from rfl, show eqI 28 41 = false from rfl, show eqI 28 42 = false from rfl, show eqI 28 44 = false from rfl]
    have hq : decide (x.size ∈ szL (szK 28)) = decide (x.size ∈ szL 0) := rfl
    rw [hq]
    rcases hs with hs | hs | hs | hs <;> simp [brF, szL, numB, notB, eqI_d, leI_d, ltI_d, hs, Bool.and_comm, Bool.and_left_comm, Bool.and_assoc, Bool.or_assoc]
  · have h4 := l05Fits_z (v := x.src.imm) (z := 4) (by decide)
    simp only [h, h2, h4, decide_eq_false hs, br_and, br_or, bnd_s, br_f, br_t, sumE_l, sumE_r, tI1, tI2, tI4, tI11, tI12, insT_tIns, Int.reduceEq, Int.reduceLE, Int.reduceLT, decide_true, decide_false, and_false, and_true, true_and, false_and, l01In_within, within_dec, show leI 28 8 = false from rfl, show eqI 28 9 = false from rfl, show eqI 28 10 = false from rfl, show eqI 28 28 = true from rfl, show eqI 28 11 = false from rfl, show eqI 28 12 = false from rfl, show eqI 28 18 = false from rfl, show eqI 28 19 = false from rfl, show eqI 28 17 = false from rfl, show eqI 28 36 = false from rfl, show eqI 28 25 = false from rfl, show eqI 28 26 = false from rfl, show eqI 28 27 = false from rfl, show eqI 28 29 = false from rfl, show eqI 28 31 = false from rfl, show eqI 28 32 = false from rfl, show eqI 28 30 = false from rfl, show eqI 28 33 = false from rfl, show eqI 28 35 = false from rfl, show eqI 28 39 = false from rfl, show eqI 28 40 = false from rfl, show eqI 28 41 = false from rfl, show eqI 28 42 = false from rfl, show eqI 28 44 = false from rfl]
    have hz : x.size ≠ 1 ∧ x.size ≠ 2 ∧ x.size ≠ 4 ∧ x.size ≠ 8 := by omega
    simp [brF, szL, szK, numB, notB, eqI_d, leI_d, ltI_d, hz, Bool.and_comm, Bool.and_left_comm, Bool.and_assoc, Bool.or_assoc]
theorem shape29 (x : Ins) (h : x.op = 29) : S_spec_l05Shape ((x, ()), ()) = some (shB x 29, ()) := by
  have h2 := two_eq x [[48, 114], [48, 109], [48, 105]] 29 (by decide) rfl (by decide)
  unfold shB
  rw [any_eq 29 [[48, 114], [48, 109], [48, 105]] rfl]
  generalize [[48, 114], [48, 109], [48, 105]].any (pairB x.dst.kind x.src.kind) = A at h2 ⊢
  unfold S_spec_l05Shape
  dsimp only
  rw [l01Size_isSize, isSize_dec, bnd_s]
  dsimp only
  by_cases hs : x.size = 1 ∨ x.size = 2 ∨ x.size = 4 ∨ x.size = 8
  · have h3 := l05Fits_z (v := x.src.imm) (z := x.size) (by omega)
    have h4 := l05Fits_z (v := x.src.imm) (z := 4) (by decide)
    simp only [h, h2, h3, h4, decide_eq_true hs, br_and, br_or, bnd_s, br_f, br_t, sumE_l, sumE_r, tI1, tI2, tI4, tI11, tI12, insT_tIns, Int.reduceEq, Int.reduceLE, Int.reduceLT, decide_true, decide_false, and_false, and_true, true_and, false_and, l01In_within, within_dec, show leI 29 8 = false from rfl, show eqI 29 9 = false from rfl, show eqI 29 10 = false from rfl, show eqI 29 28 = false from rfl, show eqI 29 11 = false from rfl, show eqI 29 12 = false from rfl, show eqI 29 18 = false from rfl, show eqI 29 19 = false from rfl, show eqI 29 17 = false from rfl, show eqI 29 36 = false from rfl, show eqI 29 25 = false from rfl, show eqI 29 26 = false from rfl, show eqI 29 27 = false from rfl, show eqI 29 29 = true from rfl, show eqI 29 31 = false from rfl, show eqI 29 32 = false from rfl, show eqI 29 30 = false from rfl, show eqI 29 33 = false from rfl, show eqI 29 35 = false from rfl, show eqI 29 39 = false from rfl, show eqI 29 40 = false from rfl, show eqI 29 41 = false from rfl, show eqI 29 42 = false from rfl, show eqI 29 44 = false from rfl]
    have hq : decide (x.size ∈ szL (szK 29)) = decide (x.size ∈ szL 2) := rfl
    rw [hq]
    rcases hs with hs | hs | hs | hs <;> simp [brF, szL, numB, notB, eqI_d, leI_d, ltI_d, hs, Bool.and_comm, Bool.and_left_comm, Bool.and_assoc, Bool.or_assoc]
  · have h4 := l05Fits_z (v := x.src.imm) (z := 4) (by decide)
    simp only [h, h2, h4, decide_eq_false hs, br_and, br_or, bnd_s, br_f, br_t, sumE_l, sumE_r, tI1, tI2, tI4, tI11, tI12, insT_tIns, Int.reduceEq, Int.reduceLE, Int.reduceLT, decide_true, decide_false, and_false, and_true, true_and, false_and, l01In_within, within_dec, show leI 29 8 = false from rfl, show eqI 29 9 = false from rfl, show eqI 29 10 = false from rfl, show eqI 29 28 = false from rfl, show eqI 29 11 = false from rfl, show eqI 29 12 = false from rfl, show eqI 29 18 = false from rfl, show eqI 29 19 = false from rfl, show eqI 29 17 = false from rfl, show eqI 29 36 = false from rfl, show eqI 29 25 = false from rfl, show eqI 29 26 = false from rfl, show eqI 29 27 = false from rfl, show eqI 29 29 = true from rfl, show eqI 29 31 = false from rfl, show eqI 29 32 = false from rfl, show eqI 29 30 = false from rfl, show eqI 29 33 = false from rfl, show eqI 29 35 = false from rfl, show eqI 29 39 = false from rfl, show eqI 29 40 = false from rfl, show eqI 29 41 = false from rfl, show eqI 29 42 = false from rfl, show eqI 29 44 = false from rfl]
    have hz : x.size ≠ 1 ∧ x.size ≠ 2 ∧ x.size ≠ 4 ∧ x.size ≠ 8 := by omega
    simp [brF, szL, szK, numB, notB, eqI_d, leI_d, ltI_d, hz, Bool.and_comm, Bool.and_left_comm, Bool.and_assoc, Bool.or_assoc]
theorem shape30 (x : Ins) (h : x.op = 30) : S_spec_l05Shape ((x, ()), ()) = some (shB x 30, ()) := by
  have h2 := two_eq x [[114, 48], [109, 48]] 30 (by decide) rfl (by decide)
  unfold shB
  rw [any_eq 30 [[114, 48], [109, 48]] rfl]
  generalize [[114, 48], [109, 48]].any (pairB x.dst.kind x.src.kind) = A at h2 ⊢
  unfold S_spec_l05Shape
  dsimp only
  rw [l01Size_isSize, isSize_dec, bnd_s]
  dsimp only
  by_cases hs : x.size = 1 ∨ x.size = 2 ∨ x.size = 4 ∨ x.size = 8
  · have h3 := l05Fits_z (v := x.src.imm) (z := x.size) (by omega)
    have h4 := l05Fits_z (v := x.src.imm) (z := 4) (by decide)
    simp only [h, h2, h3, h4, decide_eq_true hs, br_and, br_or, bnd_s, br_f, br_t, sumE_l, sumE_r, tI1, tI2, tI4, tI11, tI12, insT_tIns, Int.reduceEq, Int.reduceLE, Int.reduceLT, decide_true, decide_false, and_false, and_true, true_and, false_and, l01In_within, within_dec, show leI 30 8 = false from rfl, show eqI 30 9 = false from rfl, show eqI 30 10 = false from rfl, show eqI 30 28 = false from rfl, show eqI 30 11 = false from rfl, show eqI 30 12 = false from rfl, show eqI 30 18 = false from rfl, show eqI 30 19 = false from rfl, show eqI 30 17 = false from rfl, show eqI 30 36 = false from rfl, show eqI 30 25 = false from rfl, show eqI 30 26 = false from rfl, show eqI 30 27 = false from rfl, show eqI 30 29 = false from rfl, show eqI 30 31 = false from rfl, show eqI 30 32 = false from rfl, show eqI 30 30 = true from rfl, show eqI 30 33 = false from rfl, show eqI 30 35 = false from rfl, show eqI 30 39 = false from rfl, show eqI 30 40 = false from rfl, show eqI 30 41 = false from rfl, show eqI 30 42 = false from rfl, show eqI 30 44 = false from rfl]
    have hq : decide (x.size ∈ szL (szK 30)) = decide (x.size ∈ szL 2) := rfl
    rw [hq]
    rcases hs with hs | hs | hs | hs <;> simp [brF, szL, numB, notB, eqI_d, leI_d, ltI_d, hs, Bool.and_comm, Bool.and_left_comm, Bool.and_assoc, Bool.or_assoc]
  · have h4 := l05Fits_z (v := x.src.imm) (z := 4) (by decide)
    simp only [h, h2, h4, decide_eq_false hs, br_and, br_or, bnd_s, br_f, br_t, sumE_l, sumE_r, tI1, tI2, tI4, tI11, tI12, insT_tIns, Int.reduceEq, Int.reduceLE, Int.reduceLT, decide_true, decide_false, and_false, and_true, true_and, false_and, l01In_within, within_dec, show leI 30 8 = false from rfl, show eqI 30 9 = false from rfl, show eqI 30 10 = false from rfl, show eqI 30 28 = false from rfl, show eqI 30 11 = false from rfl, show eqI 30 12 = false from rfl, show eqI 30 18 = false from rfl, show eqI 30 19 = false from rfl, show eqI 30 17 = false from rfl, show eqI 30 36 = false from rfl, show eqI 30 25 = false from rfl, show eqI 30 26 = false from rfl, show eqI 30 27 = false from rfl, show eqI 30 29 = false from rfl, show eqI 30 31 = false from rfl, show eqI 30 32 = false from rfl, show eqI 30 30 = true from rfl, show eqI 30 33 = false from rfl, show eqI 30 35 = false from rfl, show eqI 30 39 = false from rfl, show eqI 30 40 = false from rfl, show eqI 30 41 = false from rfl, show eqI 30 42 = false from rfl, show eqI 30 44 = false from rfl]
    have hz : x.size ≠ 1 ∧ x.size ≠ 2 ∧ x.size ≠ 4 ∧ x.size ≠ 8 := by omega
    simp [brF, szL, szK, numB, notB, eqI_d, leI_d, ltI_d, hz, Bool.and_comm, Bool.and_left_comm, Bool.and_assoc, Bool.or_assoc]
theorem shape31 (x : Ins) (h : x.op = 31) : S_spec_l05Shape ((x, ()), ()) = some (shB x 31, ()) := by
  have h2 := two_eq x [[48, 114], [48, 109], [48, 105]] 31 (by decide) rfl (by decide)
  unfold shB
  rw [any_eq 31 [[48, 114], [48, 109], [48, 105]] rfl]
  generalize [[48, 114], [48, 109], [48, 105]].any (pairB x.dst.kind x.src.kind) = A at h2 ⊢
  unfold S_spec_l05Shape
  dsimp only
  rw [l01Size_isSize, isSize_dec, bnd_s]
  dsimp only
  by_cases hs : x.size = 1 ∨ x.size = 2 ∨ x.size = 4 ∨ x.size = 8
  · have h3 := l05Fits_z (v := x.src.imm) (z := x.size) (by omega)
    have h4 := l05Fits_z (v := x.src.imm) (z := 4) (by decide)
    simp only [h, h2, h3, h4, decide_eq_true hs, br_and, br_or, bnd_s, br_f, br_t, sumE_l, sumE_r, tI1, tI2, tI4, tI11, tI12, insT_tIns, Int.reduceEq, Int.reduceLE, Int.reduceLT, decide_true, decide_false, and_false, and_true, true_and, false_and, l01In_within, within_dec, show leI 31 8 = false from rfl, show eqI 31 9 = false from rfl, show eqI 31 10 = false from rfl, show eqI 31 28 = false from rfl, show eqI 31 11 = false from rfl, show eqI 31 12 = false from rfl, show eqI 31 18 = false from rfl, show eqI 31 19 = false from rfl, show eqI 31 17 = false from rfl, show eqI 31 36 = false from rfl, show eqI 31 25 = false from rfl, show eqI 31 26 = false from rfl, show eqI 31 27 = false from rfl, show eqI 31 29 = false from rfl, show eqI 31 31 = true from rfl, show eqI 31 32 = false from rfl, show eqI 31 30 = false from rfl, show eqI 31 33 = false from rfl, show eqI 31 35 = false from rfl, show eqI 31 39 = false from rfl, show eqI 31 40 = false from rfl, show eqI 31 41 = false from rfl, show eqI 31 42 = false from rfl, show eqI 31 44 = false from rfl]
    have hq : decide (x.size ∈ szL (szK 31)) = decide (x.size ∈ szL 2) := rfl
    rw [hq]
    rcases hs with hs | hs | hs | hs <;> simp [brF, szL, numB, notB, eqI_d, leI_d, ltI_d, hs, Bool.and_comm, Bool.and_left_comm, Bool.and_assoc, Bool.or_assoc]
  · have h4 := l05Fits_z (v := x.src.imm) (z := 4) (by decide)
    simp only [h, h2, h4, decide_eq_false hs, br_and, br_or, bnd_s, br_f, br_t, sumE_l, sumE_r, tI1, tI2, tI4, tI11, tI12, insT_tIns, Int.reduceEq, Int.reduceLE, Int.reduceLT, decide_true, decide_false, and_false, and_true, true_and, false_and, l01In_within, within_dec, show leI 31 8 = false from rfl, show eqI 31 9 = false from rfl, show eqI 31 10 = false from rfl, show eqI 31 28 = false from rfl, show eqI 31 11 = false from rfl, show eqI 31 12 = false from rfl, show eqI 31 18 = false from rfl, show eqI 31 19 = false from rfl, show eqI 31 17 = false from rfl, show eqI 31 36 = false from rfl, show eqI 31 25 = false from rfl, show eqI 31 26 = false from rfl, show eqI 31 27 = false from rfl, show eqI 31 29 = false from rfl, show eqI 31 31 = true from rfl, show eqI 31 32 = false from rfl, show eqI 31 30 = false from rfl, show eqI 31 33 = false from rfl, show eqI 31 35 = false from rfl, show eqI 31 39 = false from rfl, show eqI 31 40 = false from rfl, show eqI 31 41 = false from rfl, show eqI 31 42 = false from rfl, show eqI 31 44 = false from rfl]
    have hz : x.size ≠ 1 ∧ x.size ≠ 2 ∧ x.size ≠ 4 ∧ x.size ≠ 8 := by omega
    simp [brF, szL, szK, numB, notB, eqI_d, leI_d, ltI_d, hz, Bool.and_comm, Bool.and_left_comm, Bool.and_assoc, Bool.or_assoc]
theorem shape32 (x : Ins) (h : x.op = 32) : S_spec_l05Shape ((x, ()), ()) = some (shB x 32, ()) := by
  have h2 := two_eq x [[48, 114], [48, 109], [48, 105]] 32 (by decide) rfl (by decide)
  unfold shB
  rw [any_eq 32 [[48, 114], [48, 109], [48, 105]] rfl]
  generalize [[48, 114], [48, 109], [48, 105]].any (pairB x.dst.kind x.src.kind) = A at h2 ⊢
  unfold S_spec_l05Shape
  dsimp only
  rw [l01Size_isSize, isSize_dec, bnd_s]
  dsimp only
  by_cases hs : x.size = 1 ∨ x.size = 2 ∨ x.size = 4 ∨ x.size = 8
  · have h3 := l05Fits_z (v := x.src.imm) (z := x.size) (by omega)
    have h4 := l05Fits_z (v := x.src.imm) (z := 4) (by decide)
    simp only [h, h2, h3, h4, decide_eq_true hs, br_and, br_or, bnd_s, br_f, br_t, sumE_l, sumE_r, tI1, tI2, tI4, tI11, tI12, insT_tIns, Int.reduceEq, Int.reduceLE, Int.reduceLT, decide_true, decide_false, and_false, and_true, true_and, false_and, l01In_within, within_dec, show leI 32 8 = false from rfl, show eqI 32 9 = false from rfl, show eqI 32 10 = false from rfl, show eqI 32 28 = false from rfl, show eqI 32 11 = false from rfl, show eqI 32 12 = false from rfl, show eqI 32 18 = false from rfl, show eqI 32 19 = false from rfl, show eqI 32 17 = false from rfl, show eqI 32 36 = false from rfl, show eqI 32 25 = false from rfl, show eqI 32 26 = false from rfl, show eqI 32 27 = false from rfl, show eqI 32 29 = false from rfl, show eqI 32 31 = false from rfl, show eqI 32 32 = true from rfl, show eqI 32 30 = false from rfl, show eqI 32 33 = false from rfl, show eqI 32 35 = false from rfl, show eqI 32 39 = false from rfl, show eqI 32 40 = false from rfl, show eqI 32 41 = false from rfl, show eqI 32 42 = false from rfl, show eqI 32 44 = false from rfl]
    have hq : decide (x.size ∈ szL (szK 32)) = decide (x.size ∈ szL 2) := rfl
    rw [hq]
    rcases hs with hs | hs | hs | hs <;> simp [brF, szL, numB, notB, eqI_d, leI_d, ltI_d, hs, Bool.and_comm, Bool.and_left_comm, Bool.and_assoc, Bool.or_assoc]
  · have h4 := l05Fits_z (v := x.src.imm) (z := 4) (by decide)
    simp only [h, h2, h4, decide_eq_false hs, br_and, br_or, bnd_s, br_f, br_t, sumE_l, sumE_r, tI1, tI2, tI4, tI11, tI12, insT_tIns, Int.reduceEq, Int.reduceLE, Int.reduceLT, decide_true, decide_false, and_false, and_true, true_and, false_and, l01In_within, within_dec, show leI 32 8 = false from rfl, show eqI 32 9 = false from rfl, show eqI 32 10 = false from rfl, show eqI 32 28 = false from rfl, show eqI 32 11 = false from rfl, show eqI 32 12 = false from rfl, show eqI 32 18 = false from rfl, show eqI 32 19 = false from rfl, show eqI 32 17 = false from rfl, show eqI 32 36 = false from rfl, show eqI 32 25 = false from rfl, show eqI 32 26 = false from rfl, show eqI 32 27 = false from rfl, show eqI 32 29 = false from rfl, show eqI 32 31 = false from rfl, show eqI 32 32 = true from rfl, show eqI 32 30 = false from rfl, show eqI 32 33 = false from rfl, show eqI 32 35 = false from rfl, show eqI 32 39 = false from rfl, show eqI 32 40 = false from rfl, show eqI 32 41 = false from rfl, show eqI 32 42 = false from rfl, show eqI 32 44 = false from rfl]
    have hz : x.size ≠ 1 ∧ x.size ≠ 2 ∧ x.size ≠ 4 ∧ x.size ≠ 8 := by omega
    simp [brF, szL, szK, numB, notB, eqI_d, leI_d, ltI_d, hz, Bool.and_comm, Bool.and_left_comm, Bool.and_assoc, Bool.or_assoc]
theorem shape33 (x : Ins) (h : x.op = 33) : S_spec_l05Shape ((x, ()), ()) = some (shB x 33, ()) := by
  have h2 := two_eq x [[48, 105]] 33 (by decide) rfl (by decide)
  unfold shB
  rw [any_eq 33 [[48, 105]] rfl]
  generalize [[48, 105]].any (pairB x.dst.kind x.src.kind) = A at h2 ⊢
  unfold S_spec_l05Shape
  dsimp only
  rw [l01Size_isSize, isSize_dec, bnd_s]
  dsimp only
  by_cases hs : x.size = 1 ∨ x.size = 2 ∨ x.size = 4 ∨ x.size = 8
  · have h3 := l05Fits_z (v := x.src.imm) (z := x.size) (by omega)
    have h4 := l05Fits_z (v := x.src.imm) (z := 4) (by decide)
    simp only [h, h2, h3, h4, decide_eq_true hs, br_and, br_or, bnd_s, br_f, br_t, sumE_l, sumE_r, tI1, tI2, tI4, tI11, tI12, insT_tIns, Int.reduceEq, Int.reduceLE, Int.reduceLT, decide_true, decide_false, and_false, and_true, true_and, false_and, l01In_within, within_dec, show leI 33 8 = false from rfl, show eqI 33 9 = false from rfl, show eqI 33 10 = false from rfl, show eqI 33 28 = false from rfl, show eqI 33 11 = false from rfl, show eqI 33 12 = false from rfl, show eqI 33 18 = false from rfl, show eqI 33 19 = false from rfl, show eqI 33 17 = false from rfl, show eqI 33 36 = false from rfl, show eqI 33 25 = false from rfl, show eqI 33 26 = false from rfl, show eqI 33 27 = false from rfl, show eqI 33 29 = false from rfl, show eqI 33 31 = false from rfl, show eqI 33 32 = false from rfl, show eqI 33 30 = false from rfl, show eqI 33 33 = true from rfl, show eqI 33 35 = false from rfl, show eqI 33 39 = false from rfl, show eqI 33 40 = false from rfl, show eqI 33 41 = false from rfl, show eqI 33 42 = false from rfl, show eqI 33 44 = false from rfl]
    have hq : decide (x.size ∈ szL (szK 33)) = decide (x.size ∈ szL 4) := rfl
    rw [hq]
    rcases hs with hs | hs | hs | hs <;> simp [brF, szL, numB, notB, eqI_d, leI_d, ltI_d, hs, Bool.and_comm, Bool.and_left_comm, Bool.and_assoc, Bool.or_assoc]
  · have h4 := l05Fits_z (v := x.src.imm) (z := 4) (by decide)
    simp only [h, h2, h4, decide_eq_false hs, br_and, br_or, bnd_s, br_f, br_t, sumE_l, sumE_r, tI1, tI2, tI4, tI11, tI12, insT_tIns, Int.reduceEq, Int.reduceLE, Int.reduceLT, decide_true, decide_false, and_false, and_true, true_and, false_and, l01In_within, within_dec, show leI 33 8 = false from rfl, show eqI 33 9 = false from rfl, show eqI 33 10 = false from rfl, show eqI 33 28 = false from rfl, show eqI 33 11 = false from rfl, show eqI 33 12 = false from rfl, show eqI 33 18 = false from rfl, show eqI 33 19 = false from rfl, show eqI 33 17 = false from rfl, show eqI 33 36 = false from rfl, show eqI 33 25 = false from rfl, show eqI 33 26 = false from rfl, show eqI 33 27 = false from rfl, show eqI 33 29 = false from rfl, show eqI 33 31 = false from rfl, show eqI 33 32 = false from rfl, show eqI 33 30 = false from rfl, show eqI 33 33 = true from rfl, show eqI 33 35 = false from rfl, show eqI 33 39 = false from rfl, show eqI 33 40 = false from rfl, show eqI 33 41 = false from rfl, show eqI 33 42 = false from rfl, show eqI 33 44 = false from rfl]
    have hz : x.size ≠ 1 ∧ x.size ≠ 2 ∧ x.size ≠ 4 ∧ x.size ≠ 8 := by omega
    simp [brF, szL, szK, numB, notB, eqI_d, leI_d, ltI_d, hz, Bool.and_comm, Bool.and_left_comm, Bool.and_assoc, Bool.or_assoc]
theorem shape34 (x : Ins) (h : x.op = 34) : S_spec_l05Shape ((x, ()), ()) = some (shB x 34, ()) := by
  have h2 := two_eq x [[48, 48]] 34 (by decide) rfl (by decide)
  unfold shB
  rw [any_eq 34 [[48, 48]] rfl]
  generalize [[48, 48]].any (pairB x.dst.kind x.src.kind) = A at h2 ⊢
  unfold S_spec_l05Shape
  dsimp only
  rw [l01Size_isSize, isSize_dec, bnd_s]
  dsimp only
  by_cases hs : x.size = 1 ∨ x.size = 2 ∨ x.size = 4 ∨ x.size = 8
  · have h3 := l05Fits_z (v := x.src.imm) (z := x.size) (by omega)
    have h4 := l05Fits_z (v := x.src.imm) (z := 4) (by decide)
    simp only [h, h2, h3, h4, decide_eq_true hs, br_and, br_or, bnd_s, br_f, br_t, sumE_l, sumE_r, tI1, tI2, tI4, tI11, tI12, insT_tIns, Int.reduceEq, Int.reduceLE, Int.reduceLT, decide_true, decide_false, and_false, and_true, true_and, false_and, l01In_within, within_dec, show leI 34 8 = false from rfl, show eqI 34 9 = false from rfl, show eqI 34 10 = false from rfl, show eqI 34 28 = false from rfl, show eqI 34 11 = false from rfl, show eqI 34 12 = false from rfl, show eqI 34 18 = false from rfl, show eqI 34 19 = false from rfl, show eqI 34 17 = false from rfl, show eqI 34 36 = false from rfl, show eqI 34 25 = false from rfl, show eqI 34 26 = false from rfl, show eqI 34 27 = false from rfl, show eqI 34 29 = false from rfl, show eqI 34 31 = false from rfl, show eqI 34 32 = false from rfl, show eqI 34 30 = false from rfl, show eqI 34 33 = false from rfl, show eqI 34 35 = false from rfl, show eqI 34 39 = false from rfl, show eqI 34 40 = false from rfl, show eqI 34 41 = false from rfl, show eqI 34 42 = false from rfl, show eqI 34 44 = false from rfl]
    have hq : decide (x.size ∈ szL (szK 34)) = decide (x.size ∈ szL 4) := rfl
    rw [hq]
    rcases hs with hs | hs | hs | hs <;> simp [brF, szL, numB, notB, eqI_d, leI_d, ltI_d, hs, Bool.and_comm, Bool.and_left_comm, Bool.and_assoc, Bool.or_assoc]
  · have h4 := l05Fits_z (v := x.src.imm) (z := 4) (by decide)
    simp only [h, h2, h4, decide_eq_false hs, br_and, br_or, bnd_s, br_f, br_t, sumE_l, sumE_r, tI1, tI2, tI4, tI11, tI12, insT_tIns, Int.reduceEq, Int.reduceLE, Int.reduceLT, decide_true, decide_false, and_false, and_true, true_and, false_and, l01In_within, within_dec, show leI 34 8 = false from rfl, show eqI 34 9 = false from rfl, show eqI 34 10 = false from rfl, show eqI 34 28 = false from rfl, show eqI 34 11 = false from rfl, show eqI 34 12 = false from rfl, show eqI 34 18 = false from rfl, show eqI 34 19 = false from rfl, show eqI 34 17 = false from rfl, show eqI 34 36 = false from rfl, show eqI 34 25 = false from rfl, show eqI 34 26 = false from rfl, show eqI 34 27 = false from rfl, show eqI 34 29 = false from rfl, show eqI 34 31 = false from rfl, show eqI 34 32 = false from rfl, show eqI 34 30 = false from rfl, show eqI 34 33 = false from rfl, show eqI 34 35 = false from rfl, show eqI 34 39 = false from rfl, show eqI 34 40 = false from rfl, show eqI 34 41 = false from rfl, show eqI 34 42 = false from rfl, show eqI 34 44 = false from rfl]
    have hz : x.size ≠ 1 ∧ x.size ≠ 2 ∧ x.size ≠ 4 ∧ x.size ≠ 8 := by omega
    simp [brF, szL, szK, numB, notB, eqI_d, leI_d, ltI_d, hz, Bool.and_comm, Bool.and_left_comm, Bool.and_assoc, Bool.or_assoc]
theorem shape35 (x : Ins) (h : x.op = 35) : S_spec_l05Shape ((x, ()), ()) = some (shB x 35, ()) := by
  have h2 := two_eq x [[114, 48], [109, 48]] 35 (by decide) rfl (by decide)
  unfold shB
  rw [any_eq 35 [[114, 48], [109, 48]] rfl]
  generalize [[114, 48], [109, 48]].any (pairB x.dst.kind x.src.kind) = A at h2 ⊢
  unfold S_spec_l05Shape
  dsimp only
  rw [l01Size_isSize, isSize_dec, bnd_s]
  dsimp only
  by_cases hs : x.size = 1 ∨ x.size = 2 ∨ x.size = 4 ∨ x.size = 8
  · have h3 := l05Fits_z (v := x.src.imm) (z := x.size) (by omega)
    have h4 := l05Fits_z (v := x.src.imm) (z := 4) (by decide)
    simp only [h, h2, h3, h4, decide_eq_true hs, br_and, br_or, bnd_s, br_f, br_t, sumE_l, sumE_r, tI1, tI2, tI4, tI11, tI12, insT_tIns, Int.reduceEq, Int.reduceLE, Int.reduceLT, decide_true, decide_false, and_false, and_true, true_and, false_and, l01In_within, within_dec, show leI 35 8 = false from rfl, show eqI 35 9 = false from rfl, show eqI 35 10 = false from rfl, show eqI 35 28 = false from rfl, show eqI 35 11 = false from rfl, show eqI 35 12 = false from rfl, show eqI 35 18 = false from rfl, show eqI 35 19 = false from rfl, show eqI 35 17 = false from rfl, show eqI 35 36 = false from rfl, show eqI 35 25 = false from rfl, show eqI 35 26 = false from rfl, show eqI 35 27 = false from rfl, show eqI 35 29 = false from rfl, show eqI 35 31 = false from rfl, show eqI 35 32 = false from rfl, show eqI 35 30 = false from rfl, show eqI 35 33 = false from rfl, show eqI 35 35 = true from rfl, show eqI 35 39 = false from rfl, show eqI 35 40 = false from rfl, show eqI 35 41 = false from rfl, show eqI 35 42 = false from rfl, show eqI 35 44 = false from rfl]
    have hq : decide (x.size ∈ szL (szK 35)) = decide (x.size ∈ szL 3) := rfl
    rw [hq]
    rcases hs with hs | hs | hs | hs <;> simp [brF, szL, numB, notB, eqI_d, leI_d, ltI_d, hs, Bool.and_comm, Bool.and_left_comm, Bool.and_assoc, Bool.or_assoc]
  · have h4 := l05Fits_z (v := x.src.imm) (z := 4) (by decide)
    simp only [h, h2, h4, decide_eq_false hs, br_and, br_or, bnd_s, br_f, br_t, sumE_l, sumE_r, tI1, tI2, tI4, tI11, tI12, insT_tIns, Int.reduceEq, Int.reduceLE, Int.reduceLT, decide_true, decide_false, and_false, and_true, true_and, false_and, l01In_within, within_dec, show leI 35 8 = false from rfl, show eqI 35 9 = false from rfl, show eqI 35 10 = false from rfl, show eqI 35 28 = false from rfl, show eqI 35 11 = false from rfl, show eqI 35 12 = false from rfl, show eqI 35 18 = false from rfl, show eqI 35 19 = false from rfl, show eqI 35 17 = false from rfl, show eqI 35 36 = false from rfl, show eqI 35 25 = false from rfl, show eqI 35 26 = false from rfl, show eqI 35 27 = false from rfl, show eqI 35 29 = false from rfl, show eqI 35 31 = false from rfl, show eqI 35 32 = false from rfl, show eqI 35 30 = false from rfl, show eqI 35 33 = false from rfl, show eqI 35 35 = true from rfl, show eqI 35 39 = false from rfl, show eqI 35 40 = false from rfl, show eqI 35 41 = false from rfl, show eqI 35 42 = false from rfl, show eqI 35 44 = false from rfl]
    have hz : x.size ≠ 1 ∧ x.size ≠ 2 ∧ x.size ≠ 4 ∧ x.size ≠ 8 := by omega
    simp [brF, szL, szK, numB, notB, eqI_d, leI_d, ltI_d, hz, Bool.and_comm, Bool.and_left_comm, Bool.and_assoc, Bool.or_assoc]
theorem shape36 (x : Ins) (h : x.op = 36) : S_spec_l05Shape ((x, ()), ()) = some (shB x 36, ()) := by
  have h2 := two_eq x [[114, 114], [114, 109]] 36 (by decide) rfl (by decide)
  unfold shB
  rw [any_eq 36 [[114, 114], [114, 109]] rfl]
  generalize [[114, 114], [114, 109]].any (pairB x.dst.kind x.src.kind) = A at h2 ⊢
  unfold S_spec_l05Shape
  dsimp only
  rw [l01Size_isSize, isSize_dec, bnd_s]
  dsimp only
  by_cases hs : x.size = 1 ∨ x.size = 2 ∨ x.size = 4 ∨ x.size = 8
  · have h3 := l05Fits_z (v := x.src.imm) (z := x.size) (by omega)
    have h4 := l05Fits_z (v := x.src.imm) (z := 4) (by decide)
    simp only [h, h2, h3, h4, decide_eq_true hs, br_and, br_or, bnd_s, br_f, br_t, sumE_l, sumE_r, tI1, tI2, tI4, tI11, tI12, insT_tIns, Int.reduceEq, Int.reduceLE, Int.reduceLT, decide_true, decide_false, and_false, and_true, true_and, false_and, l01In_within, within_dec, show leI 36 8 = false from rfl, show eqI 36 9 = false from rfl, show eqI 36 10 = false from rfl, show eqI 36 28 = false from rfl, show eqI 36 11 = false from rfl, show eqI 36 12 = false from rfl, show eqI 36 18 = false from rfl, show eqI 36 19 = false from rfl, show eqI 36 17 = false from rfl, show eqI 36 36 = true from rfl, show eqI 36 25 = false from rfl, show eqI 36 26 = false from rfl, show eqI 36 27 = false from rfl, show eqI 36 29 = false from rfl, show eqI 36 31 = false from rfl, show eqI 36 32 = false from rfl, show eqI 36 30 = false from rfl, show eqI 36 33 = false from rfl, show eqI 36 35 = false from rfl, show eqI 36 39 = false from rfl, show eqI 36 40 = false from rfl, show eqI 36 41 = false from rfl, show eqI 36 42 = false from rfl, show eqI 36 44 = false from rfl]
    have hq : decide (x.size ∈ szL (szK 36)) = decide (x.size ∈ szL 1) := rfl
    rw [hq]
    rcases hs with hs | hs | hs | hs <;> simp [brF, szL, numB, notB, eqI_d, leI_d, ltI_d, hs, Bool.and_comm, Bool.and_left_comm, Bool.and_assoc, Bool.or_assoc]
  · have h4 := l05Fits_z (v := x.src.imm) (z := 4) (by decide)
    simp only [h, h2, h4, decide_eq_false hs, br_and, br_or, bnd_s, br_f, br_t, sumE_l, sumE_r, tI1, tI2, tI4, tI11, tI12, insT_tIns, Int.reduceEq, Int.reduceLE, Int.reduceLT, decide_true, decide_false, and_false, and_true, true_and, false_and, l01In_within, within_dec, show leI 36 8 = false from rfl, show eqI 36 9 = false from rfl, show eqI 36 10 = false from rfl, show eqI 36 28 = false from rfl, show eqI 36 11 = false from rfl, show eqI 36 12 = false from rfl, show eqI 36 18 = false from rfl, show eqI 36 19 = false from rfl, show eqI 36 17 = false from rfl, show eqI 36 36 = true from rfl, show eqI 36 25 = false from rfl, show eqI 36 26 = false from rfl, show eqI 36 27 = false from rfl, show eqI 36 29 = false from rfl, show eqI 36 31 = false from rfl, show eqI 36 32 = false from rfl, show eqI 36 30 = false from rfl, show eqI 36 33 = false from rfl, show eqI 36 35 = false from rfl, show eqI 36 39 = false from rfl, show eqI 36 40 = false from rfl, show eqI 36 41 = false from rfl, show eqI 36 42 = false from rfl, show eqI 36 44 = false from rfl]
    have hz : x.size ≠ 1 ∧ x.size ≠ 2 ∧ x.size ≠ 4 ∧ x.size ≠ 8 := by omega
    simp [brF, szL, szK, numB, notB, eqI_d, leI_d, ltI_d, hz, Bool.and_comm, Bool.and_left_comm, Bool.and_assoc, Bool.or_assoc]
theorem shape37 (x : Ins) (h : x.op = 37) : S_spec_l05Shape ((x, ()), ()) = some (shB x 37, ()) := by
  have h2 := two_eq x [[48, 48]] 37 (by decide) rfl (by decide)
  unfold shB
  rw [any_eq 37 [[48, 48]] rfl]
  generalize [[48, 48]].any (pairB x.dst.kind x.src.kind) = A at h2 ⊢
  unfold S_spec_l05Shape
  dsimp only
  rw [l01Size_isSize, isSize_dec, bnd_s]
  dsimp only
  by_cases hs : x.size = 1 ∨ x.size = 2 ∨ x.size = 4 ∨ x.size = 8
  · have h3 := l05Fits_z (v := x.src.imm) (z := x.size) (by omega)
    have h4 := l05Fits_z (v := x.src.imm) (z := 4) (by decide)
    simp only [h, h2, h3, h4, decide_eq_true hs, br_and, br_or, bnd_s, br_f, br_t, sumE_l, sumE_r, tI1, tI2, tI4, tI11, tI12, insT_tIns, Int.reduceEq, Int.reduceLE, Int.reduceLT, decide_true, decide_false, and_false, and_true, true_and, false_and, l01In_within, within_dec, show leI 37 8 = false from rfl, show eqI 37 9 = false from rfl, show eqI 37 10 = false from rfl, show eqI 37 28 = false from rfl, show eqI 37 11 = false from rfl, show eqI 37 12 = false from rfl, show eqI 37 18 = false from rfl, show eqI 37 19 = false from rfl, show eqI 37 17 = false from rfl, show eqI 37 36 = false from rfl, show eqI 37 25 = false from rfl, show eqI 37 26 = false from rfl, show eqI 37 27 = false from rfl, show eqI 37 29 = false from rfl, show eqI 37 31 = false from rfl, show eqI 37 32 = false from rfl, show eqI 37 30 = false from rfl, show eqI 37 33 = false from rfl, show eqI 37 35 = false from rfl, show eqI 37 39 = false from rfl, show eqI 37 40 = false from rfl, show eqI 37 41 = false from rfl, show eqI 37 42 = false from rfl, show eqI 37 44 = false from rfl]
    have hq : decide (x.size ∈ szL (szK 37)) = decide (x.size ∈ szL 4) := rfl
    rw [hq]
    rcases hs with hs | hs | hs | hs <;> simp [brF, szL, numB, notB, eqI_d, leI_d, ltI_d, hs, Bool.and_comm, Bool.and_left_comm, Bool.and_assoc, Bool.or_assoc]
  · have h4 := l05Fits_z (v := x.src.imm) (z := 4) (by decide)
    simp only [h, h2, h4, decide_eq_false hs, br_and, br_or, bnd_s, br_f, br_t, sumE_l, sumE_r, tI1, tI2, tI4, tI11, tI12, insT_tIns, Int.reduceEq, Int.reduceLE, Int.reduceLT, decide_true, decide_false, and_false, and_true, true_and, false_and, l01In_within, within_dec, show leI 37 8 = false from rfl, show eqI 37 9 = false from rfl, show eqI 37 10 = false from rfl, show eqI 37 28 = false from rfl, show eqI 37 11 = false from rfl, show eqI 37 12 = false from rfl, show eqI 37 18 = false from rfl, show eqI 37 19 = false from rfl, show eqI 37 17 = false from rfl, show eqI 37 36 = false from rfl, show eqI 37 25 = false from rfl, show eqI 37 26 = false from rfl, show eqI 37 27 = false from rfl, show eqI 37 29 = false from rfl, show eqI 37 31 = false from rfl, show eqI 37 32 = false from rfl, show eqI 37 30 = false from rfl, show eqI 37 33 = false from rfl, show eqI 37 35 = false from rfl, show eqI 37 39 = false from rfl, show eqI 37 40 = false from rfl, show eqI 37 41 = false from rfl, show eqI 37 42 = false from rfl, show eqI 37 44 = false from rfl]
    have hz : x.size ≠ 1 ∧ x.size ≠ 2 ∧ x.size ≠ 4 ∧ x.size ≠ 8 := by omega
    simp [brF, szL, szK, numB, notB, eqI_d, leI_d, ltI_d, hz, Bool.and_comm, Bool.and_left_comm, Bool.and_assoc, Bool.or_assoc]
theorem shape38 (x : Ins) (h : x.op = 38) : S_spec_l05Shape ((x, ()), ()) = some (shB x 38, ()) := by
  have h2 := two_eq x [[48, 48]] 38 (by decide) rfl (by decide)
  unfold shB
  rw [any_eq 38 [[48, 48]] rfl]
  generalize [[48, 48]].any (pairB x.dst.kind x.src.kind) = A at h2 ⊢
  unfold S_spec_l05Shape
  dsimp only
  rw [l01Size_isSize, isSize_dec, bnd_s]
  dsimp only
  by_cases hs : x.size = 1 ∨ x.size = 2 ∨ x.size = 4 ∨ x.size = 8
  · have h3 := l05Fits_z (v := x.src.imm) (z := x.size) (by omega)
    have h4 := l05Fits_z (v := x.src.imm) (z := 4) (by decide)
    simp only [h, h2, h3, h4, decide_eq_true hs, br_and, br_or, bnd_s, br_f, br_t, sumE_l, sumE_r, tI1, tI2, tI4, tI11, tI12, insT_tIns, Int.reduceEq, Int.reduceLE, Int.reduceLT, decide_true, decide_false, and_false, and_true, true_and, false_and, l01In_within, within_dec, show leI 38 8 = false from rfl, show eqI 38 9 = false from rfl, show eqI 38 10 = false from rfl, show eqI 38 28 = false from rfl, show eqI 38 11 = false from rfl, show eqI 38 12 = false from rfl, show eqI 38 18 = false from rfl, show eqI 38 19 = false from rfl, show eqI 38 17 = false from rfl, show eqI 38 36 = false from rfl, show eqI 38 25 = false from rfl, show eqI 38 26 = false from rfl, show eqI 38 27 = false from rfl, show eqI 38 29 = false from rfl, show eqI 38 31 = false from rfl, show eqI 38 32 = false from rfl, show eqI 38 30 = false from rfl, show eqI 38 33 = false from rfl, show eqI 38 35 = false from rfl, show eqI 38 39 = false from rfl, show eqI 38 40 = false from rfl, show eqI 38 41 = false from rfl, show eqI 38 42 = false from rfl, show eqI 38 44 = false from rfl]
    have hq : decide (x.size ∈ szL (szK 38)) = decide (x.size ∈ szL 4) := rfl
    rw [hq]
    rcases hs with hs | hs | hs | hs <;> simp [brF, szL, numB, notB, eqI_d, leI_d, ltI_d, hs, Bool.and_comm, Bool.and_left_comm, Bool.and_assoc, Bool.or_assoc]
  · have h4 := l05Fits_z (v := x.src.imm) (z := 4) (by decide)
    simp only [h, h2, h4, decide_eq_false hs, br_and, br_or, bnd_s, br_f, br_t, sumE_l, sumE_r, tI1, tI2, tI4, tI11, tI12, insT_tIns, Int.reduceEq, Int.reduceLE, Int.reduceLT, decide_true, decide_false, and_false, and_true, true_and, false_and, l01In_within, within_dec, show leI 38 8 = false from rfl, show eqI 38 9 = false from rfl, show eqI 38 10 = false from rfl, show eqI 38 28 = false from rfl, show eqI 38 11 = false from rfl, show eqI 38 12 = false from rfl, show eqI 38 18 = false from rfl, show eqI 38 19 = false from rfl, show eqI 38 17 = false from rfl, show eqI 38 36 = false from rfl, show eqI 38 25 = false from rfl, show eqI 38 26 = false from rfl, show eqI 38 27 = false from rfl, show eqI 38 29 = false from rfl, show eqI 38 31 = false from rfl, show eqI 38 32 = false from rfl, show eqI 38 30 = false from rfl, show eqI 38 33 = false from rfl, show eqI 38 35 = false from rfl, show eqI 38 39 = false from rfl, show eqI 38 40 = false from rfl, show eqI 38 41 = false from rfl, show eqI 38 42 = false from rfl, show eqI 38 44 = false from rfl]
    have hz : x.size ≠ 1 ∧ x.size ≠ 2 ∧ x.size ≠ 4 ∧ x.size ≠ 8 := by omega
    simp [brF, szL, szK, numB, notB, eqI_d, leI_d, ltI_d, hz, Bool.and_comm, Bool.and_left_comm, Bool.and_assoc, Bool.or_assoc]
theorem shape39 (x : Ins) (h : x.op = 39) : S_spec_l05Shape ((x, ()), ()) = some (shB x 39, ()) := by
  have h2 := two_eq x [[48, 48]] 39 (by decide) rfl (by decide)
  unfold shB
  rw [any_eq 39 [[48, 48]] rfl]
  generalize [[48, 48]].any (pairB x.dst.kind x.src.kind) = A at h2 ⊢
  unfold S_spec_l05Shape
  dsimp only
  rw [l01Size_isSize, isSize_dec, bnd_s]
  dsimp only
  by_cases hs : x.size = 1 ∨ x.size = 2 ∨ x.size = 4 ∨ x.size = 8
  · have h3 := l05Fits_z (v := x.src.imm) (z := x.size) (by omega)
    have h4 := l05Fits_z (v := x.src.imm) (z := 4) (by decide)
    simp only [h, h2, h3, h4, decide_eq_true hs, br_and, br_or, bnd_s, br_f, br_t, sumE_l, sumE_r, tI1, tI2, tI4, tI11, tI12, insT_tIns, Int.reduceEq, Int.reduceLE, Int.reduceLT, decide_true, decide_false, and_false, and_true, true_and, false_and, l01In_within, within_dec, show leI 39 8 = false from rfl, show eqI 39 9 = false from rfl, show eqI 39 10 = false from rfl, show eqI 39 28 = false from rfl, show eqI 39 11 = false from rfl, show eqI 39 12 = false from rfl, show eqI 39 18 = false from rfl, show eqI 39 19 = false from rfl, show eqI 39 17 = false from rfl, show eqI 39 36 = false from rfl, show eqI 39 25 = false from rfl, show eqI 39 26 = false from rfl, show eqI 39 27 = false from rfl, show eqI 39 29 = false from rfl, show eqI 39 31 = false from rfl, show eqI 39 32 = false from rfl, show eqI 39 30 = false from rfl, show eqI 39 33 = false from rfl, show eqI 39 35 = false from rfl, show eqI 39 39 = true from rfl, show eqI 39 40 = false from rfl, show eqI 39 41 = false from rfl, show eqI 39 42 = false from rfl, show eqI 39 44 = false from rfl]
    have hq : decide (x.size ∈ szL (szK 39)) = decide (x.size ∈ szL 1) := rfl
    rw [hq]
    rcases hs with hs | hs | hs | hs <;> simp [brF, szL, numB, notB, eqI_d, leI_d, ltI_d, hs, Bool.and_comm, Bool.and_left_comm, Bool.and_assoc, Bool.or_assoc]
  · have h4 := l05Fits_z (v := x.src.imm) (z := 4) (by decide)
    simp only [h, h2, h4, decide_eq_false hs, br_and, br_or, bnd_s, br_f, br_t, sumE_l, sumE_r, tI1, tI2, tI4, tI11, tI12, insT_tIns, Int.reduceEq, Int.reduceLE, Int.reduceLT, decide_true, decide_false, and_false, and_true, true_and, false_and, l01In_within, within_dec, show leI 39 8 = false from rfl, show eqI 39 9 = false from rfl, show eqI 39 10 = false from rfl, show eqI 39 28 = false from rfl, show eqI 39 11 = false from rfl, show eqI 39 12 = false from rfl, show eqI 39 18 = false from rfl, show eqI 39 19 = false from rfl, show eqI 39 17 = false from rfl, show eqI 39 36 = false from rfl, show eqI 39 25 = false from rfl, show eqI 39 26 = false from rfl, show eqI 39 27 = false from rfl, show eqI 39 29 = false from rfl, show eqI 39 31 = false from rfl, show eqI 39 32 = false from rfl, show eqI 39 30 = false from rfl, show eqI 39 33 = false from rfl, show eqI 39 35 = false from rfl, show eqI 39 39 = true from rfl, show eqI 39 40 = false from rfl, show eqI 39 41 = false from rfl, show eqI 39 42 = false from rfl, show eqI 39 44 = false from rfl]
    have hz : x.size ≠ 1 ∧ x.size ≠ 2 ∧ x.size ≠ 4 ∧ x.size ≠ 8 := by omega
    simp [brF, szL, szK, numB, notB, eqI_d, leI_d, ltI_d, hz, Bool.and_comm, Bool.and_left_comm, Bool.and_assoc, Bool.or_assoc]
theorem shape40 (x : Ins) (h : x.op = 40) : S_spec_l05Shape ((x, ()), ()) = some (shB x 40, ()) := by
  have h2 := two_eq x [[48, 48]] 40 (by decide) rfl (by decide)
  unfold shB
  rw [any_eq 40 [[48, 48]] rfl]
  generalize [[48, 48]].any (pairB x.dst.kind x.src.kind) = A at h2 ⊢
  unfold S_spec_l05Shape
  dsimp only
  rw [l01Size_isSize, isSize_dec, bnd_s]
  dsimp only
  by_cases hs : x.size = 1 ∨ x.size = 2 ∨ x.size = 4 ∨ x.size = 8
  · have h3 := l05Fits_z (v := x.src.imm) (z := x.size) (by omega)
    have h4 := l05Fits_z (v := x.src.imm) (z := 4) (by decide)
    simp only [h, h2, h3, h4, decide_eq_true hs, br_and, br_or, bnd_s, br_f, br_t, sumE_l, sumE_r, tI1, tI2, tI4, tI11, tI12, insT_tIns, Int.reduceEq, Int.reduceLE, Int.reduceLT, decide_true, decide_false, and_false, and_true, true_and, false_and, l01In_within, within_dec, show leI 40 8 = false from rfl, show eqI 40 9 = false from rfl, show eqI 40 10 = false from rfl, show eqI 40 28 = false from rfl, show eqI 40 11 = false from rfl, show eqI 40 12 = false from rfl, show eqI 40 18 = false from rfl, show eqI 40 19 = false from rfl, show eqI 40 17 = false from rfl, show eqI 40 36 = false from rfl, show eqI 40 25 = false from rfl, show eqI 40 26 = false from rfl, show eqI 40 27 = false from rfl, show eqI 40 29 = false from rfl, show eqI 40 31 = false from rfl, show eqI 40 32 = false from rfl, show eqI 40 30 = false from rfl, show eqI 40 33 = false from rfl, show eqI 40 35 = false from rfl, show eqI 40 39 = false from rfl, show eqI 40 40 = true from rfl, show eqI 40 41 = false from rfl, show eqI 40 42 = false from rfl, show eqI 40 44 = false from rfl]
    have hq : decide (x.size ∈ szL (szK 40)) = decide (x.size ∈ szL 1) := rfl
    rw [hq]
    rcases hs with hs | hs | hs | hs <;> simp [brF, szL, numB, notB, eqI_d, leI_d, ltI_d, hs, Bool.and_comm, Bool.and_left_comm, Bool.and_assoc, Bool.or_assoc]
  · have h4 := l05Fits_z (v := x.src.imm) (z := 4) (by decide)
    simp only [h, h2, h4, decide_eq_false hs, br_and, br_or, bnd_s, br_f, br_t, sumE_l, sumE_r, tI1, tI2, tI4, tI11, tI12, insT_tIns, Int.reduceEq, Int.reduceLE, Int.reduceLT, decide_true, decide_false, and_false, and_true, true_and, false_and, l01In_within, within_dec, show leI 40 8 = false from rfl, show eqI 40 9 = false from rfl, show eqI 40 10 = false from rfl, show eqI 40 28 = false from rfl, show eqI 40 11 = false from rfl, show eqI 40 12 = false from rfl, show eqI 40 18 = false from rfl, show eqI 40 19 = false from rfl, show eqI 40 17 = false from rfl, show eqI 40 36 = false from rfl, show eqI 40 25 = false from rfl, show eqI 40 26 = false from rfl, show eqI 40 27 = false from rfl, show eqI 40 29 = false from rfl, show eqI 40 31 = false from rfl, show eqI 40 32 = false from rfl, show eqI 40 30 = false from rfl, show eqI 40 33 = false from rfl, show eqI 40 35 = false from rfl, show eqI 40 39 = false from rfl, show eqI 40 40 = true from rfl, show eqI 40 41 = false from rfl, show eqI 40 42 = false from rfl, show eqI 40 44 = false from rfl]
    have hz : x.size ≠ 1 ∧ x.size ≠ 2 ∧ x.size ≠ 4 ∧ x.size ≠ 8 := by omega
    simp [brF, szL, szK, numB, notB, eqI_d, leI_d, ltI_d, hz, Bool.and_comm, Bool.and_left_comm, Bool.and_assoc, Bool.or_assoc]
theorem shape41 (x : Ins) (h : x.op = 41) : S_spec_l05Shape ((x, ()), ()) = some (shB x 41, ()) := by
  have h2 := two_eq x [[48, 48]] 41 (by decide) rfl (by decide)
  unfold shB
  rw [any_eq 41 [[48, 48]] rfl]
  generalize [[48, 48]].any (pairB x.dst.kind x.src.kind) = A at h2 ⊢
  unfold S_spec_l05Shape
  dsimp only
  rw [l01Size_isSize, isSize_dec, bnd_s]
  dsimp only
  by_cases hs : x.size = 1 ∨ x.size = 2 ∨ x.size = 4 ∨ x.size = 8
  · have h3 := l05Fits_z (v := x.src.imm) (z := x.size) (by omega)
    have h4 := l05Fits_z (v := x.src.imm) (z := 4) (by decide)
    simp only [h, h2, h3, h4, decide_eq_true hs, br_and, br_or, bnd_s, br_f, br_t, sumE_l, sumE_r, tI1, tI2, tI4, tI11, tI12, insT_tIns, Int.reduceEq, Int.reduceLE, Int.reduceLT, decide_true, decide_false, and_false, and_true, true_and, false_and, l01In_within, within_dec, show leI 41 8 = false from rfl, show eqI 41 9 = false from rfl, show eqI 41 10 = false from rfl, show eqI 41 28 = false from rfl, show eqI 41 11 = false from rfl, show eqI 41 12 = false from rfl, show eqI 41 18 = false from rfl, show eqI 41 19 = false from rfl, show eqI 41 17 = false from rfl, show eqI 41 36 = false from rfl, show eqI 41 25 = false from rfl, show eqI 41 26 = false from rfl, show eqI 41 27 = false from rfl, show eqI 41 29 = false from rfl, show eqI 41 31 = false from rfl, show eqI 41 32 = false from rfl, show eqI 41 30 = false from rfl, show eqI 41 33 = false from rfl, show eqI 41 35 = false from rfl, show eqI 41 39 = false from rfl, show eqI 41 40 = false from rfl, show eqI 41 41 = true from rfl, show eqI 41 42 = false from rfl, show eqI 41 44 = false from rfl]
    have hq : decide (x.size ∈ szL (szK 41)) = decide (x.size ∈ szL 3) := rfl
    rw [hq]
    rcases hs with hs | hs | hs | hs <;> simp [brF, szL, numB, notB, eqI_d, leI_d, ltI_d, hs, Bool.and_comm, Bool.and_left_comm, Bool.and_assoc, Bool.or_assoc]
  · have h4 := l05Fits_z (v := x.src.imm) (z := 4) (by decide)
    simp only [h, h2, h4, decide_eq_false hs, br_and, br_or, bnd_s, br_f, br_t, sumE_l, sumE_r, tI1, tI2, tI4, tI11, tI12, insT_tIns, Int.reduceEq, Int.reduceLE, Int.reduceLT, decide_true, decide_false, and_false, and_true, true_and, false_and, l01In_within, within_dec, show leI 41 8 = false from rfl, show eqI 41 9 = false from rfl, show eqI 41 10 = false from rfl, show eqI 41 28 = false from rfl, show eqI 41 11 = false from rfl, show eqI 41 12 = false from rfl, show eqI 41 18 = false from rfl, show eqI 41 19 = false from rfl, show eqI 41 17 = false from rfl, show eqI 41 36 = false from rfl, show eqI 41 25 = false from rfl, show eqI 41 26 = false from rfl, show eqI 41 27 = false from rfl, show eqI 41 29 = false from rfl, show eqI 41 31 = false from rfl, show eqI 41 32 = false from rfl, show eqI 41 30 = false from rfl, show eqI 41 33 = false from rfl, show eqI 41 35 = false from rfl, show eqI 41 39 = false from rfl, show eqI 41 40 = false from rfl, show eqI 41 41 = true from rfl, show eqI 41 42 = false from rfl, show eqI 41 44 = false from rfl]
    have hz : x.size ≠ 1 ∧ x.size ≠ 2 ∧ x.size ≠ 4 ∧ x.size ≠ 8 := by omega
    simp [brF, szL, szK, numB, notB, eqI_d, leI_d, ltI_d, hz, Bool.and_comm, Bool.and_left_comm, Bool.and_assoc, Bool.or_assoc]
theorem shape42 (x : Ins) (h : x.op = 42) : S_spec_l05Shape ((x, ()), ()) = some (shB x 42, ()) := by
  have h2 := two_eq x [[48, 48]] 42 (by decide) rfl (by decide)
  unfold shB
  rw [any_eq 42 [[48, 48]] rfl]
  generalize [[48, 48]].any (pairB x.dst.kind x.src.kind) = A at h2 ⊢
  unfold S_spec_l05Shape
  dsimp only
  rw [l01Size_isSize, isSize_dec, bnd_s]
  dsimp only
  by_cases hs : x.size = 1 ∨ x.size = 2 ∨ x.size = 4 ∨ x.size = 8
  · have h3 := l05Fits_z (v := x.src.imm) (z := x.size) (by omega)
    have h4 := l05Fits_z (v := x.src.imm) (z := 4) (by decide)
    simp only [h, h2, h3, h4, decide_eq_true hs, br_and, br_or, bnd_s, br_f, br_t, sumE_l, sumE_r, tI1, tI2, tI4, tI11, tI12, insT_tIns, Int.reduceEq, Int.reduceLE, Int.reduceLT, decide_true, decide_false, and_false, and_true, true_and, false_and, l01In_within, within_dec, show leI 42 8 = false from rfl, show eqI 42 9 = false from rfl, show eqI 42 10 = false from rfl, show eqI 42 28 = false from rfl, show eqI 42 11 = false from rfl, show eqI 42 12 = false from rfl, show eqI 42 18 = false from rfl, show eqI 42 19 = false from rfl, show eqI 42 17 = false from rfl, show eqI 42 36 = false from rfl, show eqI 42 25 = false from rfl, show eqI 42 26 = false from rfl, show eqI 42 27 = false from rfl, show eqI 42 29 = false from rfl, show eqI 42 31 = false from rfl, show eqI 42 32 = false from rfl, show eqI 42 30 = false from rfl, show eqI 42 33 = false from rfl, show eqI 42 35 = false from rfl, show eqI 42 39 = false from rfl, show eqI 42 40 = false from rfl, show eqI 42 41 = false from rfl, show eqI 42 42 = true from rfl, show eqI 42 44 = false from rfl]
    have hq : decide (x.size ∈ szL (szK 42)) = decide (x.size ∈ szL 3) := rfl
    rw [hq]
    rcases hs with hs | hs | hs | hs <;> simp [brF, szL, numB, notB, eqI_d, leI_d, ltI_d, hs, Bool.and_comm, Bool.and_left_comm, Bool.and_assoc, Bool.or_assoc]
  · have h4 := l05Fits_z (v := x.src.imm) (z := 4) (by decide)
    simp only [h, h2, h4, decide_eq_false hs, br_and, br_or, bnd_s, br_f, br_t, sumE_l, sumE_r, tI1, tI2, tI4, tI11, tI12, insT_tIns, Int.reduceEq, Int.reduceLE, Int.reduceLT, decide_true, decide_false, and_false, and_true, true_and, false_and, l01In_within, within_dec, show leI 42 8 = false from rfl, show eqI 42 9 = false from rfl, show eqI 42 10 = false from rfl, show eqI 42 28 = false from rfl, show eqI 42 11 = false from rfl, show eqI 42 12 = false from rfl, show eqI 42 18 = false from rfl, show eqI 42 19 = false from rfl, show eqI 42 17 = false from rfl, show eqI 42 36 = false from rfl, show eqI 42 25 = false from rfl, show eqI 42 26 = false from rfl, show eqI 42 27 = false from rfl, show eqI 42 29 = false from rfl, show eqI 42 31 = false from rfl, show eqI 42 32 = false from rfl, show eqI 42 30 = false from rfl, show eqI 42 33 = false from rfl, show eqI 42 35 = false from rfl, show eqI 42 39 = false from rfl, show eqI 42 40 = false from rfl, show eqI 42 41 = false from rfl, show eqI 42 42 = true from rfl, show eqI 42 44 = false from rfl]
    have hz : x.size ≠ 1 ∧ x.size ≠ 2 ∧ x.size ≠ 4 ∧ x.size ≠ 8 := by omega
    simp [brF, szL, szK, numB, notB, eqI_d, leI_d, ltI_d, hz, Bool.and_comm, Bool.and_left_comm, Bool.and_assoc, Bool.or_assoc]
theorem shape43 (x : Ins) (h : x.op = 43) : S_spec_l05Shape ((x, ()), ()) = some (shB x 43, ()) := by
  have h2 := two_eq x [[48, 48]] 43 (by decide) rfl (by decide)
  unfold shB
  rw [any_eq 43 [[48, 48]] rfl]
  generalize [[48, 48]].any (pairB x.dst.kind x.src.kind) = A at h2 ⊢
  unfold S_spec_l05Shape
  dsimp only
  rw [l01Size_isSize, isSize_dec, bnd_s]
  dsimp only
  by_cases hs : x.size = 1 ∨ x.size = 2 ∨ x.size = 4 ∨ x.size = 8
  · have h3 := l05Fits_z (v := x.src.imm) (z := x.size) (by omega)
    have h4 := l05Fits_z (v := x.src.imm) (z := 4) (by decide)
    simp only [h, h2, h3, h4, decide_eq_true hs, br_and, br_or, bnd_s, br_f, br_t, sumE_l, sumE_r, tI1, tI2, tI4, tI11, tI12, insT_tIns, Int.reduceEq, Int.reduceLE, Int.reduceLT, decide_true, decide_false, and_false, and_true, true_and, false_and, l01In_within, within_dec, show leI 43 8 = false from rfl, show eqI 43 9 = false from rfl, show eqI 43 10 = false from rfl, show eqI 43 28 = false from rfl, show eqI 43 11 = false from rfl, show eqI 43 12 = false from rfl, show eqI 43 18 = false from rfl, show eqI 43 19 = false from rfl, show eqI 43 17 = false from rfl, show eqI 43 36 = false from rfl, show eqI 43 25 = false from rfl, show eqI 43 26 = false from rfl, show eqI 43 27 = false from rfl, show eqI 43 29 = false from rfl, show eqI 43 31 = false from rfl, show eqI 43 32 = false from rfl, show eqI 43 30 = false from rfl, show eqI 43 33 = false from rfl, show eqI 43 35 = false from rfl, show eqI 43 39 = false from rfl, show eqI 43 40 = false from rfl, show eqI 43 41 = false from rfl, show eqI 43 42 = false from rfl, show eqI 43 44 = false from rfl]
    have hq : decide (x.size ∈ szL (szK 43)) = decide (x.size ∈ szL 4) := rfl
    rw [hq]
    rcases hs with hs | hs | hs | hs <;> simp [brF, szL, numB, notB, eqI_d, leI_d, ltI_d, hs, Bool.and_comm, Bool.and_left_comm, Bool.and_assoc, Bool.or_assoc]
  · have h4 := l05Fits_z (v := x.src.imm) (z := 4) (by decide)
    simp only [h, h2, h4, decide_eq_false hs, br_and, br_or, bnd_s, br_f, br_t, sumE_l, sumE_r, tI1, tI2, tI4, tI11, tI12, insT_tIns, Int.reduceEq, Int.reduceLE, Int.reduceLT, decide_true, decide_false, and_false, and_true, true_and, false_and, l01In_within, within_dec, show leI 43 8 = false from rfl, show eqI 43 9 = false from rfl, show eqI 43 10 = false from rfl, show eqI 43 28 = false from rfl, show eqI 43 11 = false from rfl, show eqI 43 12 = false from rfl, show eqI 43 18 = false from rfl, show eqI 43 19 = false from rfl, show eqI 43 17 = false from rfl, show eqI 43 36 = false from rfl, show eqI 43 25 = false from rfl, show eqI 43 26 = false from rfl, show eqI 43 27 = false from rfl, show eqI 43 29 = false from rfl, show eqI 43 31 = false from rfl, show eqI 43 32 = false from rfl, show eqI 43 30 = false from rfl, show eqI 43 33 = false from rfl, show eqI 43 35 = false from rfl, show eqI 43 39 = false from rfl, show eqI 43 40 = false from rfl, show eqI 43 41 = false from rfl, show eqI 43 42 = false from rfl, show eqI 43 44 = false from rfl]
    have hz : x.size ≠ 1 ∧ x.size ≠ 2 ∧ x.size ≠ 4 ∧ x.size ≠ 8 := by omega
    simp [brF, szL, szK, numB, notB, eqI_d, leI_d, ltI_d, hz, Bool.and_comm, Bool.and_left_comm, Bool.and_assoc, Bool.or_assoc]
theorem shape44 (x : Ins) (h : x.op = 44) : S_spec_l05Shape ((x, ()), ()) = some (shB x 44, ()) := by
  have h2 := two_eq x [[48, 105]] 44 (by decide) rfl (by decide)
  unfold shB
  rw [any_eq 44 [[48, 105]] rfl]
  generalize [[48, 105]].any (pairB x.dst.kind x.src.kind) = A at h2 ⊢
  unfold S_spec_l05Shape
  dsimp only
  rw [l01Size_isSize, isSize_dec, bnd_s]
  dsimp only
  by_cases hs : x.size = 1 ∨ x.size = 2 ∨ x.size = 4 ∨ x.size = 8
  · have h3 := l05Fits_z (v := x.src.imm) (z := x.size) (by omega)
    have h4 := l05Fits_z (v := x.src.imm) (z := 4) (by decide)
    simp only [h, h2, h3, h4, decide_eq_true hs, br_and, br_or, bnd_s, br_f, br_t, sumE_l, sumE_r, tI1, tI2, tI4, tI11, tI12, insT_tIns, Int.reduceEq, Int.reduceLE, Int.reduceLT, decide_true, decide_false, and_false, and_true, true_and, false_and, l01In_within, within_dec, show leI 44 8 = false from rfl, show eqI 44 9 = false from rfl, show eqI 44 10 = false from rfl, show eqI 44 28 = false from rfl, show eqI 44 11 = false from rfl, show eqI 44 12 = false from rfl, show eqI 44 18 = false from rfl, show eqI 44 19 = false from rfl, show eqI 44 17 = false from rfl, show eqI 44 36 = false from rfl, show eqI 44 25 = false from rfl, show eqI 44 26 = false from rfl, show eqI 44 27 = false from rfl, show eqI 44 29 = false from rfl, show eqI 44 31 = false from rfl, show eqI 44 32 = false from rfl, show eqI 44 30 = false from rfl, show eqI 44 33 = false from rfl, show eqI 44 35 = false from rfl, show eqI 44 39 = false from rfl, show eqI 44 40 = false from rfl, show eqI 44 41 = false from rfl, show eqI 44 42 = false from rfl, show eqI 44 44 = true from rfl]
    have hq : decide (x.size ∈ szL (szK 44)) = decide (x.size ∈ szL 4) := rfl
    rw [hq]
    rcases hs with hs | hs | hs | hs <;> simp [brF, szL, numB, notB, eqI_d, leI_d, ltI_d, hs, Bool.and_comm, Bool.and_left_comm, Bool.and_assoc, Bool.or_assoc]
  · have h4 := l05Fits_z (v := x.src.imm) (z := 4) (by decide)
    simp only [h, h2, h4, decide_eq_false hs, br_and, br_or, bnd_s, br_f, br_t, sumE_l, sumE_r, tI1, tI2, tI4, tI11, tI12, insT_tIns, Int.reduceEq, Int.reduceLE, Int.reduceLT, decide_true, decide_false, and_false, and_true, true_and, false_and, l01In_within, within_dec, show leI 44 8 = false from rfl, show eqI 44 9 = false from rfl, show eqI 44 10 = false from rfl, show eqI 44 28 = false from rfl, show eqI 44 11 = false from rfl, show eqI 44 12 = false from rfl, show eqI 44 18 = false from rfl, show eqI 44 19 = false from rfl, show eqI 44 17 = false from rfl, show eqI 44 36 = false from rfl, show eqI 44 25 = false from rfl, show eqI 44 26 = false from rfl, show eqI 44 27 = false from rfl, show eqI 44 29 = false from rfl, show eqI 44 31 = false from rfl, show eqI 44 32 = false from rfl, show eqI 44 30 = false from rfl, show eqI 44 33 = false from rfl, show eqI 44 35 = false from rfl, show eqI 44 39 = false from rfl, show eqI 44 40 = false from rfl, show eqI 44 41 = false from rfl, show eqI 44 42 = false from rfl, show eqI 44 44 = true from rfl]
    have hz : x.size ≠ 1 ∧ x.size ≠ 2 ∧ x.size ≠ 4 ∧ x.size ≠ 8 := by omega
    simp [brF, szL, szK, numB, notB, eqI_d, leI_d, ltI_d, hz, Bool.and_comm, Bool.and_left_comm, Bool.and_assoc, Bool.or_assoc]
theorem shape_eq (x : Ins) {n : Nat} (h1 : 1 ≤ n) (h2 : n < 45) (h : x.op = n) : S_spec_l05Shape ((x, ()), ()) = some (shB x n, ()) := by
  match n, h1, h2, h with
  | 1, _, _, h => exact shape1 x h
  | 2, _, _, h => exact shape2 x h
  | 3, _, _, h => exact shape3 x h
  | 4, _, _, h => exact shape4 x h
  | 5, _, _, h => exact shape5 x h
  | 6, _, _, h => exact shape6 x h
  | 7, _, _, h => exact shape7 x h
  | 8, _, _, h => exact shape8 x h
  | 9, _, _, h => exact shape9 x h
  | 10, _, _, h => exact shape10 x h
  | 11, _, _, h => exact shape11 x h
  | 12, _, _, h => exact shape12 x h
  | 13, _, _, h => exact shape13 x h
  | 14, _, _, h => exact shape14 x h
  | 15, _, _, h => exact shape15 x h
  | 16, _, _, h => exact shape16 x h
  | 17, _, _, h => exact shape17 x h
  | 18, _, _, h => exact shape18 x h
  | 19, _, _, h => exact shape19 x h
  | 20, _, _, h => exact shape20 x h
  | 21, _, _, h => exact shape21 x h
  | 22, _, _, h => exact shape22 x h
  | 23, _, _, h => exact shape23 x h
  | 24, _, _, h => exact shape24 x h
  | 25, _, _, h => exact shape25 x h
  | 26, _, _, h => exact shape26 x h
  | 27, _, _, h => exact shape27 x h
  | 28, _, _, h => exact shape28 x h
  | 29, _, _, h => exact shape29 x h
  | 30, _, _, h => exact shape30 x h
  | 31, _, _, h => exact shape31 x h
  | 32, _, _, h => exact shape32 x h
  | 33, _, _, h => exact shape33 x h
  | 34, _, _, h => exact shape34 x h
  | 35, _, _, h => exact shape35 x h
  | 36, _, _, h => exact shape36 x h
  | 37, _, _, h => exact shape37 x h
  | 38, _, _, h => exact shape38 x h
  | 39, _, _, h => exact shape39 x h
  | 40, _, _, h => exact shape40 x h
  | 41, _, _, h => exact shape41 x h
  | 42, _, _, h => exact shape42 x h
  | 43, _, _, h => exact shape43 x h
  | 44, _, _, h => exact shape44 x h
  | n + 45, _, h2, _ => omega
end Go.Den.G
namespace Go.Den.G
open Go.Den
set_option maxRecDepth 100000

/-! ### which instructions there are: the reference -/
def rexP (k r b i z : Int) : Prop := k = 1 ∧ (8 ≤ r ∧ r ≤ 15 ∨ z = 1 ∧ 4 ≤ r ∧ r ≤ 7) ∨ k = 2 ∧ (8 ≤ b ∧ b ≤ 15 ∨ 8 ≤ i)
instance (k r b i z : Int) : Decidable (rexP k r b i z) := by unfold rexP; infer_instance
def noP (k r : Int) : Prop := k = 1 ∧ 16 ≤ r
instance (k r : Int) : Decidable (noP k r) := by unfold noP; infer_instance
theorem l05Rex_eq {k r b i s d m z : Int} : S_spec_l05Rex (((k, (r, (b, (i, (s, (d, (m, ()))))))), (z, ())), ()) = some ((decide (rexP k r b i z), (decide (noP k r), ())), ()) := by
  unfold S_spec_l05Rex
  dsimp only
  rw [l01In_within]
  by_cases h1 : k = 1
  · subst h1
    have e2 : leI 16 r = decide (noP 1 r) := by rw [Bool.eq_iff_iff, decide_eq_true_eq, le_iff]; unfold noP; omega
    rw [br_pos (eq_t rfl), within_dec, bnd_s, e2]
    dsimp only
    by_cases h : 8 ≤ r ∧ r ≤ 15
    · rw [decide_eq_true h, br_pos rfl]
      have : decide (rexP 1 r b i z) = true := decide_eq_true (by unfold rexP; omega)
      rw [this]
    · rw [decide_eq_false h, br_neg rfl]
      by_cases hz : z = 1
      · rw [br_pos (eq_t hz), within_dec, bnd_s]
        have : decide (4 ≤ r ∧ r ≤ 7) = decide (rexP 1 r b i z) := by rw [Bool.eq_iff_iff, decide_eq_true_eq, decide_eq_true_eq]; unfold rexP; omega
        rw [this]
      · rw [br_neg (eq_f hz)]
        have : decide (rexP 1 r b i z) = false := decide_eq_false (by unfold rexP; omega)
        rw [this]
  · rw [br_neg (eq_f h1)]
    have e2 : decide (noP k r) = false := decide_eq_false (by unfold noP; omega)
    rw [e2]
    by_cases h2 : k = 2
    · subst h2
      rw [br_pos (eq_t rfl), within_dec, bnd_s]
      dsimp only
      rw [br_or, bnd_s]
      have : (decide (8 ≤ b ∧ b ≤ 15) || leI 8 i) = decide (rexP 2 r b i z) := by
        rw [Bool.eq_iff_iff, decide_eq_true_eq]
        simp only [Bool.or_eq_true, decide_eq_true_eq, le_iff]
        unfold rexP; omega
      rw [this]
    · rw [br_neg (eq_f h2)]
      have : decide (rexP k r b i z) = false := decide_eq_false (by unfold rexP; omega)
      rw [this]
def sSz (x : Ins) (n : Nat) : Int := if 20 ≤ n ∧ n ≤ 24 then 8 else if 0 < x.frm then x.frm else x.size
def opBo (o : Opd) (z : Int) : Prop := opB o.kind o.reg o.base o.index o.scale o.disp o.imm z
def rexPo (o : Opd) (z : Int) : Prop := rexP o.kind o.reg o.base o.index z
def noPo (o : Opd) : Prop := noP o.kind o.reg
instance (o : Opd) (z : Int) : Decidable (opBo o z) := by unfold opBo; infer_instance
instance (o : Opd) (z : Int) : Decidable (rexPo o z) := by unfold rexPo; infer_instance
instance (o : Opd) : Decidable (noPo o) := by unfold noPo; infer_instance
def insP (x : Ins) (n : Nat) : Prop :=
  0 ≤ x.len ∧ x.len ≤ 15 ∧ shB x n = true ∧ ((n = 26 ∨ n = 27) ∨ x.frm = 0) ∧ ((n = 33 ∨ n = 35 ∨ n = 36) ∨ x.cond = 0) ∧ 0 ≤ x.cond ∧ x.cond ≤ 15 ∧ opBo x.dst x.size ∧ opBo x.src (sSz x n) ∧
  (¬ (noPo x.dst ∨ noPo x.src) ∨ ¬ rexPo x.dst x.size ∧ ¬ rexPo x.src (sSz x n) ∧ (x.size ≠ 8 ∨ 29 ≤ n ∧ n ≤ 32))
instance (x : Ins) (n : Nat) : Decidable (insP x n) := by unfold insP; infer_instance
theorem l05Sizes_eq (x : Ins) {n : Nat} (h : x.op = n) : S_spec_l05Sizes ((x, ()), ()) = some ((x.size, (sSz x n, ())), ()) := by
  unfold S_spec_l05Sizes S_spec_l05From sSz
  dsimp only
  rw [l01In_within, h]
  by_cases hf : 0 < x.frm
  · rw [br_pos (lt_t hf), bnd_s, within_dec, bnd_s, if_pos hf]
    dsimp only
    by_cases hn : 20 ≤ n ∧ n ≤ 24
    · rw [decide_eq_true (by omega), br_pos rfl, bnd_s, if_pos hn, sumE_l]
    · rw [decide_eq_false (by omega), br_neg rfl, bnd_s, if_neg hn, sumE_l]
  · rw [br_neg (lt_f hf), bnd_s, within_dec, bnd_s, if_neg hf]
    dsimp only
    by_cases hn : 20 ≤ n ∧ n ≤ 24
    · rw [decide_eq_true (by omega), br_pos rfl, bnd_s, if_pos hn, sumE_l]
    · rw [decide_eq_false (by omega), br_neg rfl, bnd_s, if_neg hn, sumE_l]
theorem l05OK_eq (x : Ins) {n : Nat} (h1 : 1 ≤ n) (h2 : n < 45) (h : x.op = n) : S_spec_l05OK ((x, ()), ()) = some (decide (insP x n), ()) := by
  unfold S_spec_l05OK S_spec_l03Op S_spec_l05Wide
  dsimp only [tOpd]
  rw [l01In_within, h, within_dec, bnd_s, bnd_s]
  dsimp only
  rw [decide_eq_true (by omega), notB_t, within_dec, shape_eq x h1 h2 h, l05Sizes_eq x h]
  simp only [br_f, bnd_s, within_dec, l04Operand_eq, l05Rex_eq, br_or, br_and]
  have go : ∀ {q : Prop} [Decidable q] {c : Bool} {rest : Option (Bool × Unit)}, (c = true → ¬ q) → (c = false → rest = some (decide q, ())) → br c (some (false, ())) rest = some (decide q, ()) := by
    intro q _ c rest h1 h2
    cases c
    · exact h2 rfl
    · rw [decide_eq_false (h1 rfl)]; rfl
  refine go (fun hc hq => ?_) fun hc => ?_
  · unfold insP at hq
    simp only [Bool.or_eq_true, notB_iff, decide_eq_false_iff_not] at hc
    rcases hc with hc | hc
    · exact hc ⟨hq.1, hq.2.1⟩
    · rw [hq.2.2.1] at hc; cases hc
  · simp only [Bool.or_eq_false_iff, notB_nf, decide_eq_true_eq] at hc
    refine go (fun hd hq => ?_) fun hd => ?_
    · unfold insP at hq
      simp only [Bool.and_eq_true, notB_iff, eq_nf] at hd
      omega
    · refine go (fun he hq => ?_) fun he => ?_
      · unfold insP at hq
        simp only [Bool.and_eq_true, Bool.or_eq_true, notB_iff, eq_nf, decide_eq_false_iff_not] at he
        omega
      · refine go (fun hf hq => ?_) fun hf => ?_
        · unfold insP at hq
          simp only [Bool.or_eq_true, notB_iff, decide_eq_false_iff_not] at hf
          rcases hf with hf | hf
          · exact hf hq.2.2.2.2.2.2.2.1
          · exact hf hq.2.2.2.2.2.2.2.2.1
        · simp only [Bool.or_eq_false_iff, notB_nf, decide_eq_true_eq] at hf
          congr 2
          rw [Bool.eq_iff_iff, decide_eq_true_eq]
          simp only [Bool.and_eq_false_iff, Bool.or_eq_false_iff, notB_nf, eq_iff, decide_eq_true_eq] at hd he
          unfold insP
          simp only [Bool.and_eq_true, Bool.or_eq_true, notB_iff, Bool.or_eq_false_iff, decide_eq_false_iff_not, eq_iff, eq_nf]
          have w : (x.size ≠ 8 ∨ (((n : Int) = 29 ∨ (n : Int) = 30) ∨ (n : Int) = 31) ∨ (n : Int) = 32) ↔ (x.size ≠ 8 ∨ 29 ≤ n ∧ n ≤ 32) := by omega
          rw [w]
          constructor
          · intro g
            exact ⟨hc.1.1, hc.1.2, hc.2, by omega, by omega, he.2.1, he.2.2, hf.1, hf.2, g.imp (fun g a => a.elim g.1 g.2) fun g => ⟨g.1.1, g.1.2, g.2⟩⟩
          · rintro ⟨_, _, _, _, _, _, _, _, _, g⟩
            exact g.imp (fun g => ⟨fun a => g (.inl a), fun a => g (.inr a)⟩) fun g => ⟨⟨g.1, g.2.1⟩, g.2.2⟩
end Go.Den.G
namespace Go.Den.G
open Go.Den
set_option maxRecDepth 100000

/-! ### which instructions there are: the program's parts -/
def kc (k : Int) : Nat := if k = 1 then 1 else if k = 2 then 2 else if k = 3 then 3 else 0
theorem letter_eq (o : Opd) : S_impl_Operand_letter ((tOpd o (), ()), ()) = some ([letK (kc o.kind)], ()) := by
  unfold S_impl_Operand_letter kc
  dsimp only [tOpd]
  by_cases h1 : o.kind = 1
  · rw [br_pos (eq_t h1), if_pos h1]; rfl
  · rw [br_neg (eq_f h1), if_neg h1]
    by_cases h2 : o.kind = 2
    · rw [br_pos (eq_t h2), if_pos h2]; rfl
    · rw [br_neg (eq_f h2), if_neg h2]
      by_cases h3 : o.kind = 3
      · rw [br_pos (eq_t h3), if_pos h3]; rfl
      · rw [br_neg (eq_f h3), if_neg h3]; rfl
theorem kc_lt (k : Int) : kc k < 4 := by unfold kc; (repeat' split) <;> omega
theorem kc_eq {k : Int} (h : 0 ≤ k ∧ k ≤ 3) : (kc k : Int) = k := by unfold kc; (repeat' split) <;> omega
def fromB (x : Ins) (n : Nat) : Prop := if n = 26 then x.frm = 1 ∨ x.frm = 2 ∧ 2 < x.size else if n = 27 then x.frm = 1 ∨ x.frm = 2 ∧ 2 < x.size ∨ x.frm = 4 ∧ x.size = 8 else x.frm = 0
instance (x : Ins) (n : Nat) : Decidable (fromB x n) := by unfold fromB; infer_instance
theorem isFrom_eq (x : Ins) {n : Nat} (h : x.op = n) : S_impl_isFrom ((x, ()), ()) = some (decide (fromB x n), ()) := by
  unfold S_impl_isFrom
  dsimp only
  rw [h]
  by_cases h1 : n = 26
  · rw [br_pos (eq_t (by omega))]
    simp only [br_and, br_or, bnd_s]
    congr 2
    rw [Bool.eq_iff_iff, decide_eq_true_eq]
    simp only [Bool.or_eq_true, Bool.and_eq_true, eq_iff, lt_iff]
    unfold fromB
    rw [if_pos h1]
  · rw [br_neg (eq_f (by omega))]
    by_cases h2 : n = 27
    · rw [br_pos (eq_t (by omega))]
      simp only [br_and, br_or, bnd_s]
      congr 2
      rw [Bool.eq_iff_iff, decide_eq_true_eq]
      simp only [Bool.or_eq_true, Bool.and_eq_true, eq_iff, lt_iff]
      unfold fromB
      rw [if_neg h1, if_pos h2, or_assoc]
    · rw [br_neg (eq_f (by omega))]
      congr 2
      rw [Bool.eq_iff_iff, decide_eq_true_eq, eq_iff]
      unfold fromB
      rw [if_neg h1, if_neg h2]
theorem isShift_eq (n : Int) : S_impl_isShift ((n, ()), ()) = some (decide (20 ≤ n ∧ n ≤ 24), ()) := by
  unfold S_impl_isShift
  dsimp only
  rw [within_dec, bnd_s]
def iSz (x : Ins) (n : Nat) : Int := if x.frm ≠ 0 then x.frm else if (20 ≤ n ∧ n ≤ 24) ∨ x.size = 0 then 8 else x.size
theorem srcSize_eq (x : Ins) {n : Nat} (h : x.op = n) : S_impl_srcSize ((x, ()), ()) = some (iSz x n, ()) := by
  unfold S_impl_srcSize iSz
  dsimp only
  rw [h, isShift_eq]
  by_cases hf : x.frm = 0
  · rw [eq_t hf, notB_t, br_neg rfl, bnd_s, if_neg (by simp [hf])]
    dsimp only
    rw [br_or, bnd_s]
    by_cases hc : (20 ≤ n ∧ n ≤ 24) ∨ x.size = 0
    · rw [if_pos hc, br_pos (by simp only [Bool.or_eq_true, decide_eq_true_eq, eq_iff]; omega)]
    · rw [if_neg hc, br_neg (by simp only [Bool.or_eq_false_iff, decide_eq_false_iff_not, eq_nf]; omega)]
  · rw [eq_f hf, notB_f, br_pos rfl, if_pos hf]
def hiP (o : Opd) : Prop := o.kind = 1 ∧ 16 ≤ o.reg ∧ o.reg ≤ 19
instance (o : Opd) : Decidable (hiP o) := by unfold hiP; infer_instance
theorem hasHigh_eq (o : Opd) : S_impl_hasHigh ((tOpd o (), ()), ()) = some (decide (hiP o), ()) := by
  unfold S_impl_hasHigh S_impl_isHigh
  dsimp only [tOpd]
  simp only [within_dec, bnd_s, br_and]
  congr 2
  rw [Bool.eq_iff_iff, decide_eq_true_eq]
  simp only [Bool.and_eq_true, eq_iff, decide_eq_true_eq]
  unfold hiP
  omega
def askP (o : Opd) (z : Int) : Prop := o.kind = 1 ∧ (8 ≤ o.reg ∧ o.reg ≤ 15 ∨ z = 1 ∧ 4 ≤ o.reg ∧ o.reg ≤ 7) ∨ o.kind = 2 ∧ (8 ≤ o.base ∧ o.base ≤ 15 ∨ 8 ≤ o.index ∧ o.index ≤ 15)
instance (o : Opd) (z : Int) : Decidable (askP o z) := by unfold askP; infer_instance
theorem asksRex_eq (o : Opd) (z : Int) : S_impl_asksRex ((tOpd o (), (z, ())), ()) = some (decide (askP o z), ()) := by
  unfold S_impl_asksRex S_impl_asksRex_1 S_impl_isLowByte
  dsimp only [tOpd]
  by_cases h1 : o.kind = 1
  · rw [br_pos (eq_t h1)]
    simp only [within_dec, bnd_s, br_and, br_or]
    congr 2
    rw [Bool.eq_iff_iff, decide_eq_true_eq]
    simp only [Bool.or_eq_true, Bool.and_eq_true, eq_iff, decide_eq_true_eq]
    unfold askP
    omega
  · rw [br_neg (eq_f h1)]
    by_cases h2 : o.kind = 2
    · rw [br_pos (eq_t h2)]
      simp only [within_dec, bnd_s, br_or]
      congr 2
      rw [Bool.eq_iff_iff, decide_eq_true_eq]
      simp only [Bool.or_eq_true, decide_eq_true_eq]
      unfold askP
      omega
    · rw [br_neg (eq_f h2)]
      congr 2
      symm
      exact decide_eq_false (by unfold askP; omega)
theorem fixed_closed : ∀ n : Nat, n < 45 → (S_impl_fixedSize (((n : Int), ()), ())).map (fun y => y.1.2.1) = some (decide ((29 ≤ n ∧ n ≤ 34) ∨ n = 37 ∨ n = 38 ∨ n = 43 ∨ n = 44)) := by decide +kernel
def fixP (n : Nat) : Prop := (29 ≤ n ∧ n ≤ 34) ∨ n = 37 ∨ n = 38 ∨ n = 43 ∨ n = 44
instance (n : Nat) : Decidable (fixP n) := by unfold fixP; infer_instance
theorem isWide_eq (x : Ins) {n : Nat} (h2 : n < 45) (h : x.op = n) : S_impl_isWide ((x, ()), ()) = some (decide (x.size = 8 ∧ ¬ fixP n), ()) := by
  unfold S_impl_isWide
  dsimp only
  rw [h]
  have := fixed_closed n h2
  cases hx : S_impl_fixedSize (((n : Int), ()), ()) with
  | none => rw [hx] at this; cases this
  | some y =>
    rw [hx] at this
    simp only [Option.map_some, Option.some.injEq] at this
    rw [bnd_s]
    simp only [this, br_and, bnd_s]
    congr 2
    rw [Bool.eq_iff_iff, decide_eq_true_eq]
    simp only [Bool.and_eq_true, eq_iff, notB_iff, decide_eq_false_iff_not]
    exact Iff.rfl
theorem needsRex_eq (x : Ins) {n : Nat} (h2 : n < 45) (h : x.op = n) : S_impl_needsRex ((x, ()), ()) = some (decide ((x.size = 8 ∧ ¬ fixP n) ∨ askP x.dst x.size ∨ askP x.src (iSz x n)), ()) := by
  unfold S_impl_needsRex
  dsimp only
  rw [isWide_eq x h2 h, bnd_s]
  dsimp only
  by_cases h1 : x.size = 8 ∧ ¬ fixP n
  · rw [decide_eq_true h1, br_pos rfl, decide_eq_true (.inl h1)]
  · rw [decide_eq_false h1, br_neg rfl, asksRex_eq, bnd_s]
    dsimp only
    by_cases h3 : askP x.dst x.size
    · rw [decide_eq_true h3, br_pos rfl, decide_eq_true (.inr (.inl h3))]
    · rw [decide_eq_false h3, br_neg rfl, srcSize_eq x h, bnd_s, asksRex_eq, bnd_s]
      congr 2
      rw [Bool.eq_iff_iff, decide_eq_true_eq, decide_eq_true_eq]
      simp [h1, h3]
end Go.Den.G
namespace Go.Den.G
open Go.Den
set_option maxRecDepth 100000

/-! ### numbers, and all of it -/
def numI (x : Ins) (n : Nat) : Bool :=
  if (20 ≤ n ∧ n ≤ 24) ∨ n = 44 then decide (0 ≤ x.src.imm ∧ x.src.imm ≤ 255)
  else if n = 9 ∧ x.size = 8 ∧ x.dst.kind = 1 then true
  else if x.size = 0 then fitB x.src.imm 4 else fitB x.src.imm x.size
theorem fits_z {v z : Int} (h : 1 ≤ z) : S_impl_fits ((v, (imin 4 z, ())), ()) = some (fitB v z, ()) := by
  have e : imin 4 z = imin z 4 := by unfold imin; split <;> split <;> omega
  have hb : 1 ≤ imin z 4 ∧ imin z 4 ≤ 4 := by unfold imin; split <;> omega
  rw [e, fits_eq v _ hb.1 hb.2, l05Fits_eq v _ hb.1 hb.2]
  rfl
theorem isNumber_eq (x : Ins) {n : Nat} (h : x.op = n) (hs : 0 ≤ x.size) : S_impl_isNumber ((x, ()), ()) = some (numI x n, ()) := by
  unfold S_impl_isNumber S_impl_isByte numI
  dsimp only
  rw [h, isShift_eq, bnd_s]
  dsimp only
  rw [br_or, bnd_s]
  by_cases h1 : (20 ≤ n ∧ n ≤ 24) ∨ n = 44
  · rw [if_pos h1, br_pos (by simp only [Bool.or_eq_true, decide_eq_true_eq, eq_iff]; omega), within_dec, bnd_s, bnd_s]
  · rw [if_neg h1, br_neg (by simp only [Bool.or_eq_false_iff, decide_eq_false_iff_not, eq_nf]; omega), br_and, bnd_s, br_and, bnd_s]
    by_cases h2 : n = 9 ∧ x.size = 8 ∧ x.dst.kind = 1
    · rw [if_pos h2, br_pos (by simp only [Bool.and_eq_true, eq_iff]; omega)]
    · rw [if_neg h2, br_neg (by rw [← Bool.not_eq_true]; simp only [Bool.and_eq_true, eq_iff]; omega)]
      by_cases h3 : x.size = 0
      · rw [if_pos h3, br_pos (eq_t h3)]
        have := fits_z (v := x.src.imm) (z := 4) (by decide)
        rw [imin_r (by decide)] at this
        rw [this, bnd_s]
      · rw [if_neg h3, br_neg (eq_f h3), fits_z (by omega), bnd_s]
theorem hasCond_eq (n : Int) : S_impl_hasCond ((n, ()), ()) = some (decide (n = 33 ∨ n = 35 ∨ n = 36), ()) := by
  unfold S_impl_hasCond
  dsimp only
  simp only [br_or, bnd_s]
  congr 2
  rw [Bool.eq_iff_iff, decide_eq_true_eq]
  simp only [Bool.or_eq_true, eq_iff, or_assoc]
theorem cpD (x : Ins) : cp7 (tIns x ()).2.2.2.2 () = tOpd x.dst () := rfl
theorem cpS (x : Ins) : cp7 (d11 (tIns x ())) () = tOpd x.src () := rfl
theorem OperandOK_o (o : Opd) (z : Int) (h : I64 o.disp) : S_impl_OperandOK ((tOpd o (), (z, ())), ()) = some (decide (sizeP z ∧ opBo o z), ()) := by
  have := OperandOK_eq (k := o.kind) (r := o.reg) (b := o.base) (i := o.index) (s := o.scale) (d := o.disp) (m := o.imm) (z := z) h
  refine this.trans ?_
  congr 2
  rw [Bool.eq_iff_iff, decide_eq_true_eq, decide_eq_true_eq]
  exact opOK_iff
/-- The program's conditions, one by one. -/
def insI (x : Ins) (n : Nat) : Prop :=
  (0 ≤ x.len ∧ x.len ≤ 15) ∧ (0 ≤ x.cond ∧ x.cond ≤ 15) ∧ (x.cond = 0 ∨ n = 33 ∨ n = 35 ∨ n = 36) ∧ x.size ∈ szL (szK n) ∧ fromB x n ∧ (prK n).any (pairB (kc x.dst.kind) (kc x.src.kind)) = true ∧
  (sizeP (imax 1 x.size) ∧ opBo x.dst (imax 1 x.size)) ∧ (sizeP (iSz x n) ∧ opBo x.src (iSz x n)) ∧ (x.src.kind = 3 → numI x n = true) ∧ (20 ≤ n ∧ n ≤ 24 → x.src.kind = 1 → x.src.reg = 1) ∧
  (¬ (hiP x.dst ∨ hiP x.src) ∨ ¬ ((x.size = 8 ∧ ¬ fixP n) ∨ askP x.dst x.size ∨ askP x.src (iSz x n)))
instance (x : Ins) (n : Nat) : Decidable (insI x n) := by unfold insI; infer_instance
theorem guard {q : Prop} [Decidable q] {c : Bool} {rest : Option (Bool × Unit)} (h1 : c = true → ¬ q) (h2 : c = false → Ret rest (· = (decide q, ()))) : Ret (br c (some (false, ())) rest) (· = (decide q, ())) := by
  cases c
  · exact h2 rfl
  · rw [decide_eq_false (h1 rfl)]; exact Ret.some rfl
theorem szL_ge {n : Nat} {z : Int} (h : z ∈ szL (szK n)) : z = 0 ∨ z = 1 ∨ z = 2 ∨ z = 4 ∨ z = 8 := by
  unfold szL at h
  repeat' split at h
  all_goals (simp only [List.mem_cons, List.not_mem_nil, or_false] at h; omega)
theorem InstrOK_i (x : Ins) {n : Nat} (h1 : 1 ≤ n) (h2 : n < 45) (h : x.op = n) (hd : I64 x.dst.disp) (hs : I64 x.src.disp) : Ret (S_impl_InstrOK ((x, ()), ())) (· = (decide (insI x n), ())) := by
  obtain ⟨fl, hf⟩ := fz_forms n h2 h1
  unfold S_impl_InstrOK S_impl_isOp
  dsimp only
  rw [h, within_dec, bnd_s, bnd_s]
  dsimp only
  rw [decide_eq_true (by omega), notB_t]
  simp only [br_f, within_dec, bnd_s, hasCond_eq, br_or, br_and]
  refine guard (fun hc hq => ?_) fun hc => ?_
  · unfold insI at hq
    simp only [Bool.or_eq_true, Bool.and_eq_true, notB_iff, decide_eq_false_iff_not, eq_nf] at hc
    omega
  · simp only [Bool.or_eq_false_iff, Bool.and_eq_false_iff, notB_nf, decide_eq_true_eq, eq_iff] at hc
    rw [formsOf_eq h2, bnd_s]
    dsimp only
    rw [fz_sizes n h2 h1]
    have hln : (szL (szK n)).length ≤ 4 := by unfold szL; (repeat' split) <;> decide
    refine Ret.iter (fun y => ∃ i : Nat, i ≤ (szL (szK n)).length ∧ y = (((fz n).2, (decide (x.size ∈ (szL (szK n)).take i), (szL (szK n), (lenL (szL (szK n)), ((i : Int), ()))))), ((tIns x ()), ()))) (fun y => (szL (szK n)).length - y.1.2.2.2.2.1.toNat) ?_ F _ ⟨0, by omega, by simp⟩ (by unfold F; simp; omega)
    rintro _ rec ⟨i, hi, rfl⟩ hrec
    dsimp only
    by_cases hlt : i < (szL (szK n)).length
    · rw [br_pos (lt_t (by unfold lenL; omega)), br_pos (by simp [inR, lenL]; omega), getL_nat hlt, addI_id (by omega) (by omega)]
      refine hrec _ ⟨i + 1, by omega, ?_⟩ (by simp; omega)
      have e : (decide (x.size ∈ (szL (szK n)).take i) || eqI (szL (szK n))[i] (tIns x ()).2.1) = decide (x.size ∈ (szL (szK n)).take (i + 1)) := by
        rw [Bool.eq_iff_iff, List.take_succ_eq_append_getElem hlt]
        simp only [Bool.or_eq_true, decide_eq_true_eq, eq_iff, List.mem_append, List.mem_singleton, tI2]
        exact or_congr Iff.rfl eq_comm
      rw [e]
      rfl
    · have : i = (szL (szK n)).length := by omega
      subst this
      rw [br_neg (lt_f (by unfold lenL; omega)), List.take_length]
      rw [cpD, cpS, letter_eq, letter_eq, insT_tIns, tI2, tI11, tI12, tI1, h]
      clear hrec rec hi hlt hln
      rw [bnd_s, bnd_s]
      dsimp only
      have hh : hasS (appL (appL [32] (fz n).2) [32]) (appL (appL [32] (appL [letK (kc x.dst.kind)] [letK (kc x.src.kind)])) [32]) = (prK n).any (pairB (kc x.dst.kind) (kc x.src.kind)) := hf _ (kc_lt _) _ (kc_lt _)
      have f1 : fits2 [letK (kc x.dst.kind)] [letK (kc x.src.kind)] = true := smallF (by simp) (by simp)
      have f2 : fits2 ([32] : List UInt8) (fz n).2 = true := smallF (by simp) (by omega)
      have f3 : fits2 (appL [32] (fz n).2) ([32] : List UInt8) = true := smallF (by simp [appL]; omega) (by simp)
      have f4 : fits2 ([32] : List UInt8) (appL [letK (kc x.dst.kind)] [letK (kc x.src.kind)]) = true := smallF (by simp) (by simp [appL])
      have f5 : fits2 (appL [32] (appL [letK (kc x.dst.kind)] [letK (kc x.src.kind)])) ([32] : List UInt8) = true := smallF (by simp [appL]) (by simp)
      have f6 : hasLim (appL (appL [32] (fz n).2) [32]) = true := by unfold hasLim appL; exact decide_eq_true (by simp; omega)
      rw [f1, f2, f3, f4, f5, f6, hh]
      simp only [br_t]
      rw [isFrom_eq x h, bnd_s, br_or, bnd_s, br_or, bnd_s]
      refine guard (fun hc2 hq => ?_) fun hc2 => ?_
      · unfold insI at hq
        simp only [Bool.or_eq_true, notB_iff, decide_eq_false_iff_not] at hc2
        rcases hc2 with (g | g) | g
        · exact g hq.2.2.2.1
        · exact g hq.2.2.2.2.1
        · rw [hq.2.2.2.2.2.1] at g; cases g
      · simp only [Bool.or_eq_false_iff, notB_nf, decide_eq_true_eq] at hc2
        have hsz := szL_ge hc2.1.1
        rw [OperandOK_o _ _ hd, bnd_s]
        refine guard (fun g hq => ?_) fun hc3 => ?_
        · unfold insI at hq
          simp only [notB_iff, decide_eq_false_iff_not] at g
          exact g hq.2.2.2.2.2.2.1
        · simp only [notB_nf, decide_eq_true_eq] at hc3
          rw [srcSize_eq x h, bnd_s, OperandOK_o _ _ hs, bnd_s]
          refine guard (fun g hq => ?_) fun hc4 => ?_
          · unfold insI at hq
            simp only [notB_iff, decide_eq_false_iff_not] at g
            exact g hq.2.2.2.2.2.2.2.1
          · simp only [notB_nf, decide_eq_true_eq] at hc4
            rw [isNumber_eq x h (by omega), bnd_s, br_and, bnd_s]
            refine guard (fun g hq => ?_) fun hc5 => ?_
            · unfold insI at hq
              simp only [Bool.and_eq_true, eq_iff, notB_iff] at g
              rw [hq.2.2.2.2.2.2.2.2.1 g.1] at g
              cases g.2
            · have hc5 : x.src.kind = 3 → numI x n = true := fun hk => by
                rw [eq_t hk] at hc5
                cases hv : numI x n with
                | true => rfl
                | false => rw [hv] at hc5; cases hc5
              rw [isShift_eq, bnd_s]
              refine guard (fun g hq => ?_) fun hc6 => ?_
              · unfold insI at hq
                simp only [Bool.and_eq_true, eq_iff, notB_iff, decide_eq_true_eq, eq_nf] at g
                exact g.2 (hq.2.2.2.2.2.2.2.2.2.1 (by omega) g.1.2)
              · have hc6 : 20 ≤ n ∧ n ≤ 24 → x.src.kind = 1 → x.src.reg = 1 := fun a b => by
                  apply Classical.byContradiction
                  intro hr
                  rw [decide_eq_true (by omega), eq_t b, eq_f hr] at hc6
                  cases hc6
                rw [hasHigh_eq, hasHigh_eq, bnd_s, bnd_s]
                dsimp only
                rw [br_or, bnd_s, needsRex_eq x h2 h, bnd_s, br_or, bnd_s]
                refine Ret.some (congrArg (fun b : Bool => (b, ())) ?_)
                rw [Bool.eq_iff_iff, decide_eq_true_eq]
                simp only [Bool.or_eq_true, notB_iff, Bool.or_eq_false_iff, decide_eq_false_iff_not]
                unfold insI
                constructor
                · intro g
                  exact ⟨hc.1.1, hc.1.2, by omega, hc2.1.1, hc2.1.2, hc2.2, hc3, hc4, hc5, hc6, g.imp (fun g a => a.elim g.1 g.2) id⟩
                · rintro ⟨_, _, _, _, _, _, _, _, _, _, g⟩
                  exact g.imp (fun g => ⟨fun a => g (.inl a), fun a => g (.inr a)⟩) id
end Go.Den.G
namespace Go.Den.G
open Go.Den
set_option maxRecDepth 100000

/-! ### both sides are one -/
theorem opB_z {k r b i s d m z z' : Int} (h : k ≠ 1) : opB k r b i s d m z ↔ opB k r b i s d m z' := by
  unfold opB
  constructor <;> (rintro (g | g); exact absurd g.1 h; exact .inr g)
theorem opB_kind {k r b i s d m z : Int} (h : opB k r b i s d m z) : 0 ≤ k ∧ k ≤ 3 := by
  unfold opB memP at h
  rcases h with h | h | h | h <;> omega
theorem opB_imm {k r b i s d m z : Int} (h : opB k r b i s d m z) (hk : k ≠ 3) : m = 0 := by
  unfold opB memP at h
  rcases h with h | h | h | h <;> omega
theorem fitB_zero (z : Int) : fitB 0 z = true := by unfold fitB fitsB sx; simp [eqI]
theorem none_closed0 : ∀ n : Nat, n < 45 → (!((szL (szK n)).any fun z => decide (z = 0)) || decide (n = 0) || decide (prK n = [[48, 105]]) || decide (prK n = [[48, 48]])) = true := by decide +kernel
theorem none_closed (n : Nat) (h : n < 45) (h1 : 1 ≤ n) (hz : (0 : Int) ∈ szL (szK n)) : prK n = [[48, 105]] ∨ prK n = [[48, 48]] := by
  have := none_closed0 n h
  have e : ((szL (szK n)).any fun z => decide (z = 0)) = true := List.any_eq_true.2 ⟨0, hz, rfl⟩
  rw [e] at this
  simp only [Bool.not_true, Bool.false_or, Bool.or_eq_true, decide_eq_true_eq] at this
  rcases this with (h | h) | h
  · omega
  · exact .inl h
  · exact .inr h
theorem kindP48 {k : Int} (h : kindP k 48) : k = 0 := by
  unfold kindP at h
  rcases h with h | h | h | h
  · exact absurd h.2 (by decide)
  · exact absurd h.2 (by decide)
  · exact absurd h.2 (by decide)
  · exact h.1
theorem kindP105 {k : Int} (h : kindP k 105) : k = 3 := by
  unfold kindP at h
  rcases h with h | h | h | h
  · exact absurd h.2 (by decide)
  · exact absurd h.2 (by decide)
  · exact h.1
  · exact absurd h.2 (by decide)
theorem zero_kinds {n : Nat} (h2 : n < 45) (h1 : 1 ≤ n) {k l : Int} (hs : (0 : Int) ∈ szL (szK n)) (ha : (prK n).any (pairB k l) = true) : k = 0 ∧ (l = 0 ∨ l = 3) := by
  rcases none_closed n h2 h1 hs with e | e <;> rw [e] at ha <;> simp only [List.any_cons, List.any_nil, Bool.or_false, pairB, Bool.and_eq_true, decide_eq_true_eq] at ha
  · exact ⟨kindP48 ha.1, .inr (kindP105 ha.2)⟩
  · exact ⟨kindP48 ha.1, .inl (kindP48 ha.2)⟩
theorem size_closed0 : ∀ n : Nat, n < 45 → ((szL (szK n)).all fun z => decide (1 ≤ n → (n ≤ 10 → z ≠ 0) ∧ (20 ≤ n ∧ n ≤ 24 → z ≠ 0) ∧ ((n = 33 ∨ n = 34 ∨ n = 37 ∨ n = 38 ∨ n = 43 ∨ n = 44) → z = 0) ∧ (n = 26 ∨ n = 27 → z ≠ 0) ∧ (29 ≤ n ∧ n ≤ 32 → z = 8))) = true := by decide +kernel
theorem size_closed (n : Nat) (h : n < 45) (h1 : 1 ≤ n) (z : Int) (hz : z ∈ szL (szK n)) : (n ≤ 10 → z ≠ 0) ∧ (20 ≤ n ∧ n ≤ 24 → z ≠ 0) ∧ ((n = 33 ∨ n = 34 ∨ n = 37 ∨ n = 38 ∨ n = 43 ∨ n = 44) → z = 0) ∧ (n = 26 ∨ n = 27 → z ≠ 0) ∧ (29 ≤ n ∧ n ≤ 32 → z = 8) :=
  of_decide_eq_true (List.all_eq_true.1 (size_closed0 n h) z hz) h1
theorem no_imm0 : ∀ n : Nat, n < 45 → (decide (n ≤ 10) || decide (20 ≤ n ∧ n ≤ 24) || decide (n = 29 ∨ n = 31 ∨ n = 32 ∨ n = 33 ∨ n = 44) || (prK n).all fun q => !decide (q.getD 1 0 = 105)) = true := by decide +kernel
theorem no_imm {n : Nat} (h : n < 45) (hn : ¬ (n ≤ 10 ∨ (20 ≤ n ∧ n ≤ 24) ∨ n = 29 ∨ n = 31 ∨ n = 32 ∨ n = 33 ∨ n = 44)) {k l : Int} (ha : (prK n).any (pairB k l) = true) : l ≠ 3 := by
  have h0 := no_imm0 n h
  simp only [Bool.or_eq_true, decide_eq_true_eq] at h0
  have h1 : ((prK n).all fun q => !decide (q.getD 1 0 = 105)) = true := by
    rcases h0 with ((h | h) | h) | h
    · exact absurd (.inl h) hn
    · exact absurd (.inr (.inl h)) hn
    · exact absurd (.inr (.inr h)) hn
    · exact h
  obtain ⟨q, hq, hp⟩ := List.any_eq_true.1 ha
  have h2 := List.all_eq_true.1 h1 q hq
  obtain ⟨a, _, b, _, rfl⟩ := prK_ok n h q hq
  simp only [pairB, Bool.and_eq_true, decide_eq_true_eq] at hp
  have hb : b ≠ 105 := by simpa using h2
  have := hp.2
  unfold kindP at this
  rcases this with g | g | g | g
  · omega
  · omega
  · exact absurd g.2 hb
  · omega
/-- What both have in common. -/
structure Com (x : Ins) (n : Nat) : Prop where
  sz : x.size ∈ szL (szK n)
  any : (prK n).any (pairB x.dst.kind x.src.kind) = true
  frm : fromB x n
variable {x : Ins} {n : Nat}
theorem Com.dst (h : Com x n) (h1 : 1 ≤ n) (h2 : n < 45) : (sizeP (imax 1 x.size) ∧ opBo x.dst (imax 1 x.size)) ↔ opBo x.dst x.size := by
  have hs := szL_ge h.sz
  by_cases h0 : x.size = 0
  · have hk := zero_kinds h2 h1 (h0 ▸ h.sz) h.any
    have e : imax 1 x.size = 1 := by rw [h0]; rfl
    rw [e]
    have : opBo x.dst 1 ↔ opBo x.dst x.size := opB_z (by omega)
    rw [this]
    exact ⟨fun g => g.2, fun g => ⟨.inl rfl, g⟩⟩
  · have e : imax 1 x.size = x.size := imax_r (by omega)
    rw [e]
    exact ⟨fun g => g.2, fun g => ⟨by unfold sizeP; omega, g⟩⟩
theorem Com.sizes (h : Com x n) (h1 : 1 ≤ n) (h2 : n < 45) : (iSz x n = sSz x n ∧ sizeP (iSz x n)) ∨ (x.size = 0 ∧ x.src.kind ≠ 1 ∧ x.src.kind ≠ 2 ∧ sizeP (iSz x n)) := by
  have hs := szL_ge h.sz
  obtain ⟨_, c2, _, c4, _⟩ := size_closed n h2 h1 x.size h.sz
  have hf := h.frm
  unfold fromB at hf
  unfold iSz sSz sizeP
  by_cases hn : 20 ≤ n ∧ n ≤ 24
  · rw [if_neg (by omega), if_neg (by omega)] at hf
    left
    rw [if_neg (by omega), if_pos (.inl hn), if_pos hn]
    omega
  · by_cases hm : n = 26 ∨ n = 27
    · have hfr : x.frm = 1 ∨ x.frm = 2 ∨ x.frm = 4 := by
        rcases hm with hm | hm
        · rw [if_pos hm] at hf; omega
        · rw [if_neg (by omega), if_pos hm] at hf; omega
      left
      rw [if_pos (by omega), if_neg hn, if_pos (by omega)]
      omega
    · rw [if_neg (by omega), if_neg (by omega)] at hf
      by_cases h0 : x.size = 0
      · right
        have hk := zero_kinds h2 h1 (h0 ▸ h.sz) h.any
        rw [if_neg (by omega), if_pos (.inr h0)]
        omega
      · left
        rw [if_neg (by omega), if_neg (by omega), if_neg hn, if_neg (by omega)]
        omega
theorem Com.src (h : Com x n) (h1 : 1 ≤ n) (h2 : n < 45) : (sizeP (iSz x n) ∧ opBo x.src (iSz x n)) ↔ opBo x.src (sSz x n) := by
  rcases h.sizes h1 h2 with ⟨e, hz⟩ | ⟨h0, hk, _, hz⟩
  · rw [e] at hz ⊢
    exact ⟨fun g => g.2, fun g => ⟨hz, g⟩⟩
  · have : opBo x.src (iSz x n) ↔ opBo x.src (sSz x n) := opB_z hk
    rw [this]
    exact ⟨fun g => g.2, fun g => ⟨hz, g⟩⟩
theorem hi_no {o : Opd} {z : Int} (h : opBo o z) : hiP o ↔ noPo o := by
  unfold opBo opB regX at h
  unfold hiP noPo noP
  constructor
  · intro g; exact ⟨g.1, g.2.1⟩
  · intro g
    rcases h with h | h | h | h
    · exact ⟨g.1, g.2, by omega⟩
    · unfold memP at h; omega
    · omega
    · omega
theorem ask_rex {o : Opd} {z y : Int} (h : opBo o z) (hy : y = z ∨ o.kind ≠ 1) : askP o y ↔ rexPo o z := by
  unfold opBo opB regX memP at h
  unfold askP rexPo rexP
  rcases h with h | h | h | h <;> omega
theorem Com.rex (h : Com x n) (h1 : 1 ≤ n) (h2 : n < 45) (hd : opBo x.dst x.size) (hs : opBo x.src (sSz x n)) :
    (¬ (hiP x.dst ∨ hiP x.src) ∨ ¬ ((x.size = 8 ∧ ¬ fixP n) ∨ askP x.dst x.size ∨ askP x.src (iSz x n))) ↔
    (¬ (noPo x.dst ∨ noPo x.src) ∨ ¬ rexPo x.dst x.size ∧ ¬ rexPo x.src (sSz x n) ∧ (x.size ≠ 8 ∨ 29 ≤ n ∧ n ≤ 32)) := by
  obtain ⟨_, _, c3, _, _⟩ := size_closed n h2 h1 x.size h.sz
  have e : iSz x n = sSz x n ∨ x.src.kind ≠ 1 := (h.sizes h1 h2).imp (·.1) (·.2.1)
  rw [hi_no hd, hi_no hs, ask_rex hd (.inl rfl), ask_rex hs e]
  have w : (x.size = 8 ∧ ¬ fixP n) ↔ ¬ (x.size ≠ 8 ∨ 29 ≤ n ∧ n ≤ 32) := by unfold fixP; omega
  rw [w]
  refine or_congr Iff.rfl ?_
  constructor
  · intro g
    exact ⟨fun a => g (.inr (.inl a)), fun a => g (.inr (.inr a)), Classical.byContradiction fun a => g (.inl a)⟩
  · rintro ⟨g1, g2, g3⟩ (a | a | a)
    · exact a g3
    · exact g1 a
    · exact g2 a
theorem Com.num (h : Com x n) (h1 : 1 ≤ n) (h2 : n < 45) (hs : opBo x.src (sSz x n)) : numB x n = true ↔ (x.src.kind = 3 → numI x n = true) ∧ (20 ≤ n ∧ n ≤ 24 → x.src.kind = 1 → x.src.reg = 1) := by
  obtain ⟨c1, c2, c3, c4, c5⟩ := size_closed n h2 h1 x.size h.sz
  have hi : x.src.kind ≠ 3 → x.src.imm = 0 := opB_imm hs
  have hf := h.frm
  unfold fromB at hf
  have f8 : fitB x.src.imm 8 = fitB x.src.imm 4 := rfl
  have f0 : x.src.kind ≠ 3 → ∀ z, fitB x.src.imm z = true := fun hk z => by rw [hi hk]; exact fitB_zero z
  unfold numB numI
  by_cases n1 : n ≤ 8 ∨ n = 10
  · rw [if_pos n1, if_neg (by omega), if_neg (by omega), if_neg (c1 (by omega))]
    constructor
    · intro g; exact ⟨fun _ => g, fun a => by omega⟩
    · intro g
      by_cases hk : x.src.kind = 3
      · exact g.1 hk
      · exact f0 hk _
  · rw [if_neg n1]
    by_cases n2 : n = 9
    · rw [if_pos n2, if_neg (by omega), if_neg (c1 (by omega)), Bool.or_eq_true, decide_eq_true_eq]
      constructor
      · intro g
        refine ⟨fun _ => ?_, fun a => by omega⟩
        split
        · rfl
        · rename_i hn
          exact g.resolve_left fun a => hn ⟨n2, a⟩
      · intro g
        by_cases hk : x.src.kind = 3
        · have := g.1 hk
          split at this
          · rename_i hn; exact .inl hn.2
          · exact .inr this
        · exact .inr (f0 hk _)
    · rw [if_neg n2]
      by_cases n3 : 20 ≤ n ∧ n ≤ 24
      · rw [if_pos n3, if_pos (.inl n3), decide_eq_true_eq, decide_eq_true_eq]
        constructor
        · intro g; exact ⟨fun _ => g.2, fun _ a => Classical.byContradiction fun b => g.1 ⟨a, b⟩⟩
        · intro g
          refine ⟨fun a => a.2 (g.2 n3 a.1), ?_⟩
          by_cases hk : x.src.kind = 3
          · exact g.1 hk
          · rw [hi hk]; decide
      · rw [if_neg n3]
        have none : (¬ (n = 29 ∨ n = 31 ∨ n = 32 ∨ n = 33 ∨ n = 44)) → x.src.kind ≠ 3 := fun hn => no_imm h2 (by omega) h.any
        by_cases n4 : n = 26
        · rw [if_pos n4] at hf
          rw [if_pos n4, decide_eq_true_eq]
          exact ⟨fun _ => ⟨fun a => absurd a (none (by omega)), fun a => absurd a n3⟩, fun _ => hf⟩
        · rw [if_neg n4] at hf ⊢
          by_cases n5 : n = 27
          · rw [if_pos n5] at hf
            rw [if_pos n5, decide_eq_true_eq]
            exact ⟨fun _ => ⟨fun a => absurd a (none (by omega)), fun a => absurd a n3⟩, fun _ => hf⟩
          · rw [if_neg n5]
            by_cases n6 : n = 29 ∨ n = 31 ∨ n = 32 ∨ n = 33
            · have e : (if (20 ≤ n ∧ n ≤ 24) ∨ n = 44 then decide (0 ≤ x.src.imm ∧ x.src.imm ≤ 255) else if n = 9 ∧ x.size = 8 ∧ x.dst.kind = 1 then true else if x.size = 0 then fitB x.src.imm 4 else fitB x.src.imm x.size) = fitB x.src.imm 4 := by
                rw [if_neg (by omega), if_neg (by omega)]
                by_cases h0 : x.size = 0
                · rw [if_pos h0]
                · rw [if_neg h0]
                  have : x.size = 8 := by
                    rcases n6 with m | m | m | m
                    · exact c5 (by omega)
                    · exact c5 (by omega)
                    · exact c5 (by omega)
                    · exact absurd (c3 (.inl m)) h0
                  rw [this, f8]
              rw [if_pos n6, e]
              constructor
              · intro g; exact ⟨fun _ => g, fun a => absurd a n3⟩
              · intro g
                by_cases hk : x.src.kind = 3
                · exact g.1 hk
                · exact f0 hk _
            · rw [if_neg n6]
              by_cases n7 : n = 44
              · rw [if_pos n7, if_pos (.inr n7)]
                constructor
                · intro g; exact ⟨fun _ => g, fun a => absurd a n3⟩
                · intro g
                  by_cases hk : x.src.kind = 3
                  · exact g.1 hk
                  · rw [hi hk]; decide
              · rw [if_neg n7]
                exact ⟨fun _ => ⟨fun a => absurd a (none (by omega)), fun a => absurd a n3⟩, fun _ => rfl⟩
theorem ins_iff (h1 : 1 ≤ n) (h2 : n < 45) : insI x n ↔ insP x n := by
  have hkc : ∀ {o : Opd} {z : Int}, opBo o z → (kc o.kind : Int) = o.kind := fun g => kc_eq (opB_kind g)
  constructor
  · rintro ⟨⟨a1, a2⟩, ⟨a3, a4⟩, a5, a6, a7, a8, a9, a10, a11, a12, a13⟩
    rw [hkc a9.2, hkc a10.2] at a8
    have C : Com x n := ⟨a6, a8, a7⟩
    have d := (C.dst h1 h2).1 a9
    have e := (C.src h1 h2).1 a10
    have hn := (C.num h1 h2 e).2 ⟨a11, a12⟩
    refine ⟨a1, a2, by unfold shB; rw [decide_eq_true a6, a8, hn]; rfl, ?_, by omega, a3, a4, d, e, (C.rex h1 h2 d e).1 a13⟩
    unfold fromB at a7
    by_cases m : n = 26 ∨ n = 27
    · exact .inl m
    · rw [if_neg (by omega), if_neg (by omega)] at a7; exact .inr a7
  · rintro ⟨a1, a2, a3, a4, a5, a6, a7, a8, a9, a10⟩
    unfold shB at a3
    simp only [Bool.and_eq_true, decide_eq_true_eq] at a3
    obtain ⟨b1, b2, b3⟩ := a3
    have fr : fromB x n := by
      unfold fromB
      unfold numB at b3
      by_cases m : n = 26
      · rw [if_neg (by omega), if_neg (by omega), if_neg (by omega), if_pos m, decide_eq_true_eq] at b3
        rw [if_pos m]; exact b3
      · by_cases m2 : n = 27
        · rw [if_neg (by omega), if_neg (by omega), if_neg (by omega), if_neg m, if_pos m2, decide_eq_true_eq] at b3
          rw [if_neg m, if_pos m2]; exact b3
        · rw [if_neg m, if_neg m2]
          exact a4.resolve_left (by omega)
    have C : Com x n := ⟨b1, b2, fr⟩
    have q := (C.num h1 h2 a9).1 b3
    exact ⟨⟨a1, a2⟩, ⟨a6, a7⟩, by omega, b1, fr, by rw [hkc a8, hkc a9]; exact b2, (C.dst h1 h2).2 a8, (C.src h1 h2).2 a9, q.1, q.2, (C.rex h1 h2 a8 a9).2 a10⟩
/-- Both sides take the same instructions. -/
theorem InstrOK_eq (x : Ins) {n : Nat} (h1 : 1 ≤ n) (h2 : n < 45) (h : x.op = n) (hd : I64 x.dst.disp) (hs : I64 x.src.disp) : S_impl_InstrOK ((x, ()), ()) = some (decide (insP x n), ()) := by
  rw [(InstrOK_i x h1 h2 h hd hs).eq]
  congr 2
  rw [Bool.eq_iff_iff, decide_eq_true_eq, decide_eq_true_eq]
  exact ins_iff h1 h2
theorem InstrOK_no (x : Ins) (h : ¬ (1 ≤ x.op ∧ x.op ≤ 44)) : S_impl_InstrOK ((x, ()), ()) = some (false, ()) ∧ S_spec_l05OK ((x, ()), ()) = some (false, ()) := by
  constructor
  · unfold S_impl_InstrOK S_impl_isOp
    dsimp only
    rw [within_dec, bnd_s, bnd_s]
    dsimp only
    rw [decide_eq_false h, notB_f]
    rfl
  · unfold S_spec_l05OK S_spec_l03Op
    dsimp only
    rw [l01In_within, within_dec, bnd_s, bnd_s]
    dsimp only
    rw [decide_eq_false h, notB_f]
    rfl
end Go.Den.G
namespace Go.Den.G
open Go.Den
set_option maxRecDepth 100000

/-! ### the text of an instruction -/
theorem cond_closed : ∀ c : Nat, c < 16 → S_impl_CondName (((c : Int), ()), ()) = S_spec_CondName (((c : Int), ()), ()) ∧ (match S_impl_CondName (((c : Int), ()), ()) with | some y => decide (y.1.length ≤ 10) | none => false) = true := by decide +kernel
theorem op_closed : ∀ n : Nat, n < 45 → S_impl_OpName (((n : Int), ()), ()) = S_spec_OpName (((n : Int), ()), ()) ∧ (match S_impl_OpName (((n : Int), ()), ()) with | some y => decide (y.1.length ≤ 10) | none => false) = true := by decide +kernel
theorem cond_ex {c : Int} (h0 : 0 ≤ c) (h1 : c ≤ 15) : ∃ t : List UInt8, t.length ≤ 10 ∧ S_impl_CondName ((c, ()), ()) = some (t, ()) ∧ S_spec_CondName ((c, ()), ()) = some (t, ()) := by
  obtain ⟨k, rfl⟩ := Int.eq_ofNat_of_zero_le h0
  obtain ⟨e, hl⟩ := cond_closed k (by omega)
  split at hl
  · rename_i y hy
    exact ⟨y.1, of_decide_eq_true hl, hy, e ▸ hy⟩
  · cases hl
theorem op_ex {n : Nat} (h : n < 45) : ∃ t : List UInt8, t.length ≤ 10 ∧ S_impl_OpName (((n : Int), ()), ()) = some (t, ()) ∧ S_spec_OpName (((n : Int), ()), ()) = some (t, ()) := by
  obtain ⟨e, hl⟩ := op_closed n h
  split at hl
  · rename_i y hy
    exact ⟨y.1, of_decide_eq_true hl, hy, e ▸ hy⟩
  · cases hl
variable {x : Ins} {n : Nat}
def nameT (n : Nat) (c o : List UInt8) (z : Int) : List UInt8 := if n = 33 then appL [106] c else if n = 35 then appL [115, 101, 116] c else if n = 36 then appL [99, 109, 111, 118] c else if n = 39 ∨ n = 40 then appL (appL o [32]) (wordOf z) else o
theorem iname (h : x.op = n) {c o : List UInt8} (cl : c.length ≤ 10) (ol : o.length ≤ 10) (c1 : S_impl_CondName ((x.cond, ()), ()) = some (c, ())) (o1 : S_impl_OpName (((n : Int), ()), ()) = some (o, ())) (hz : n = 39 ∨ n = 40 → sizeP x.size) :
    S_impl_instrName ((x, ()), ()) = some (nameT n c o x.size, ()) := by
  have hw := wordOf_len x.size
  have g1 : fits2 ([106] : List UInt8) c = true := smallF (by simp) (by omega)
  have g2 : fits2 ([115, 101, 116] : List UInt8) c = true := smallF (by simp) (by omega)
  have g3 : fits2 ([99, 109, 111, 118] : List UInt8) c = true := smallF (by simp) (by omega)
  have g4 : fits2 o ([32] : List UInt8) = true := smallF (by omega) (by simp)
  have g5 : fits2 (appL o [32]) (wordOf x.size) = true := smallF (by simp [appL]; omega) (by omega)
  unfold S_impl_instrName nameT
  rw [h]
  by_cases n33 : n = 33
  · rw [br_pos (eq_t (by omega)), if_pos n33, c1, bnd_s, g1, br_t]
  · rw [br_neg (eq_f (by omega)), if_neg n33]
    by_cases n35 : n = 35
    · rw [br_pos (eq_t (by omega)), if_pos n35, c1, bnd_s, g2, br_t]
    · rw [br_neg (eq_f (by omega)), if_neg n35]
      by_cases n36 : n = 36
      · rw [br_pos (eq_t (by omega)), if_pos n36, c1, bnd_s, g3, br_t]
      · rw [br_neg (eq_f (by omega)), if_neg n36]
        by_cases n39 : n = 39 ∨ n = 40
        · rw [if_pos n39]
          refine (Ret.bnd (Q := fun y => y = Sum.inl ((true, ()), (tIns x (), ()))) ?_ ?_).eq
          · by_cases m : n = 39
            · rw [br_pos (eq_t (by omega)), eq_t (by omega)]; exact Ret.some rfl
            · rw [br_neg (eq_f (by omega)), eq_t (by omega)]; exact Ret.some rfl
          · rintro _ rfl
            rw [sumE_l]
            refine Ret.bnd (Q := fun y => y = Sum.inr (appL (appL o [32]) (wordOf x.size), ())) ?_ ?_
            · rw [br_t, tI1, h, o1, bnd_s, g4, br_t, tI2, sizeWord_eq (hz n39), bnd_s, g5, br_t]
              exact Ret.some rfl
            · rintro _ rfl
              rw [sumE_r]
              exact Ret.some rfl
        · rw [if_neg n39]
          refine (Ret.bnd (Q := fun y => y = Sum.inl ((false, ()), (tIns x (), ()))) ?_ ?_).eq
          · rw [br_neg (eq_f (by omega)), eq_f (by omega)]; exact Ret.some rfl
          · rintro _ rfl
            rw [sumE_l]
            refine Ret.bnd (Q := fun y => y = Sum.inl ((false, ()), (tIns x (), ()))) ?_ ?_
            · rw [br_f]; exact Ret.some rfl
            · rintro _ rfl
              rw [sumE_l, tI1, h, o1, bnd_s]
              exact Ret.some rfl
theorem sname (h : x.op = n) {c o : List UInt8} (cl : c.length ≤ 10) (ol : o.length ≤ 10) (c1 : S_spec_CondName ((x.cond, ()), ()) = some (c, ())) (o1 : S_spec_OpName (((n : Int), ()), ()) = some (o, ())) (hz : n = 39 ∨ n = 40 → sizeP x.size) :
    S_spec_l16Name ((x, ()), ()) = some (nameT n c o x.size, ()) := by
  have hw := wordOf_len x.size
  have g1 : fits2 ([106] : List UInt8) c = true := smallF (by simp) (by omega)
  have g2 : fits2 ([115, 101, 116] : List UInt8) c = true := smallF (by simp) (by omega)
  have g3 : fits2 ([99, 109, 111, 118] : List UInt8) c = true := smallF (by simp) (by omega)
  have g4 : fits2 o ([32] : List UInt8) = true := smallF (by omega) (by simp)
  have g5 : fits2 (appL o [32]) (wordOf x.size) = true := smallF (by simp [appL]; omega) (by omega)
  unfold S_spec_l16Name nameT
  rw [h]
  by_cases n33 : n = 33
  · rw [br_pos (eq_t (by omega)), if_pos n33, c1, bnd_s, g1, br_t]
  · rw [br_neg (eq_f (by omega)), if_neg n33]
    by_cases n35 : n = 35
    · rw [br_pos (eq_t (by omega)), if_pos n35, c1, bnd_s, g2, br_t]
    · rw [br_neg (eq_f (by omega)), if_neg n35]
      by_cases n36 : n = 36
      · rw [br_pos (eq_t (by omega)), if_pos n36, c1, bnd_s, g3, br_t]
      · rw [br_neg (eq_f (by omega)), if_neg n36]
        by_cases n39 : n = 39 ∨ n = 40
        · rw [if_pos n39]
          refine (Ret.bnd (Q := fun y => y = Sum.inl ((true, ()), (tIns x (), ()))) ?_ ?_).eq
          · by_cases m : n = 39
            · rw [br_pos (eq_t (by omega)), eq_t (by omega)]; exact Ret.some rfl
            · rw [br_neg (eq_f (by omega)), eq_t (by omega)]; exact Ret.some rfl
          · rintro _ rfl
            rw [sumE_l]
            refine Ret.bnd (Q := fun y => y = Sum.inr (appL (appL o [32]) (wordOf x.size), ())) ?_ ?_
            · rw [br_t, tI1, h, o1, bnd_s, g4, br_t, tI2, l16Size_eq (hz n39), bnd_s, g5, br_t]
              exact Ret.some rfl
            · rintro _ rfl
              rw [sumE_r]
              exact Ret.some rfl
        · rw [if_neg n39]
          refine (Ret.bnd (Q := fun y => y = Sum.inl ((false, ()), (tIns x (), ()))) ?_ ?_).eq
          · rw [br_neg (eq_f (by omega)), eq_f (by omega)]; exact Ret.some rfl
          · rintro _ rfl
            rw [sumE_l]
            refine Ret.bnd (Q := fun y => y = Sum.inl ((false, ()), (tIns x (), ()))) ?_ ?_
            · rw [br_f]; exact Ret.some rfl
            · rintro _ rfl
              rw [sumE_l, tI1, h, o1, bnd_s]
              exact Ret.some rfl
theorem name_ex (h2 : n < 45) (h : x.op = n) (hc : 0 ≤ x.cond ∧ x.cond ≤ 15) (hz : n = 39 ∨ n = 40 → sizeP x.size) :
    ∃ t : List UInt8, t.length ≤ 30 ∧ S_impl_instrName ((x, ()), ()) = some (t, ()) ∧ S_spec_l16Name ((x, ()), ()) = some (t, ()) := by
  obtain ⟨c, cl, c1, c2⟩ := cond_ex hc.1 hc.2
  obtain ⟨o, ol, o1, o2⟩ := op_ex h2
  refine ⟨nameT n c o x.size, ?_, iname h cl ol c1 o1 hz, sname h cl ol c2 o2 hz⟩
  have hw := wordOf_len x.size
  unfold nameT appL
  (repeat' split) <;> simp <;> omega
def oT (o : Opd) (z : Int) : List UInt8 := opTxt o.kind o.reg o.base o.index o.scale o.disp o.imm z
theorem opd_txt {o : Opd} {z : Int} (hm : I64 o.imm) (hz : sizeP z) (hb : opBo o z) : S_impl_operandText ((tOpd o (), (z, ())), ()) = some (oT o z, ()) ∧ S_spec_l16Operand ((tOpd o (), (z, ())), ()) = some (oT o z, ()) :=
  ⟨operandText_eq hm (opOK_iff.2 ⟨hz, hb⟩), l16Operand_eq hm (opOK_iff.2 ⟨hz, hb⟩)⟩
theorem opd_imm {o : Opd} {z z' : Int} (hm : I64 o.imm) (hk : o.kind = 3) : S_impl_operandText ((tOpd o (), (z, ())), ()) = some (Go.Lib.itoa o.imm, ()) ∧ S_spec_l16Operand ((tOpd o (), (z', ())), ()) = some (Go.Lib.itoa o.imm, ()) := by
  unfold S_impl_operandText S_spec_l16Operand
  dsimp only [tOpd, d6]
  rw [hk, br_neg (eq_f (by decide)), br_pos (eq_t rfl), br_neg (eq_f (by decide)), br_neg (eq_f (by decide)), br_pos (eq_t rfl), itoa_eq hm, l00Digits_eq hm]
  exact ⟨rfl, rfl⟩
theorem oT_len {o : Opd} {z : Int} (hm : I64 o.imm) (hz : sizeP z) (hb : opBo o z) : (oT o z).length ≤ 130 := by
  unfold oT opTxt
  split
  · have := (nameOf_len o.reg hz).1; omega
  · split
    · rename_i hk
      have hmem : memP o.kind o.reg o.base o.index o.scale o.disp o.imm := by
        unfold opBo opB at hb
        rcases hb with g | g | g | g
        · omega
        · exact g
        · omega
        · omega
      have hw := wordOf_len z
      have hj := (pieces_len (b := o.base) (i := o.index) (s := o.scale) (d := o.disp) (by unfold memP at hmem; unfold I64; omega) (by unfold memP at hmem; unfold I64; omega)).2
      unfold memTxt
      simp; omega
    · split
      · have := itoa_len hm; omega
      · simp
end Go.Den.G
namespace Go.Den.G
open Go.Den
set_option maxRecDepth 100000
variable {x : Ins} {n : Nat}
theorem insP_com (h1 : 1 ≤ n) (h2 : n < 45) (hP : insP x n) : Com x n := by
  have hI := (ins_iff h1 h2).2 hP
  have h3 := hP.2.2.1
  unfold shB at h3
  simp only [Bool.and_eq_true, decide_eq_true_eq] at h3
  exact ⟨h3.1, h3.2.1, hI.2.2.2.2.1⟩
def fSz (x : Ins) : Int := if 0 < x.frm then x.frm else x.size
theorem l05From_eq (x : Ins) : S_spec_l05From ((x, ()), ()) = some (fSz x, ()) := by
  unfold S_spec_l05From fSz
  dsimp only
  by_cases h : 0 < x.frm
  · rw [br_pos (lt_t h), if_pos h]
  · rw [br_neg (lt_f h), if_neg h]
def zI (x : Ins) (n : Nat) : Int := if 20 ≤ n ∧ n ≤ 24 then 1 else iSz x n
def zS (x : Ins) (n : Nat) : Int := if 20 ≤ n ∧ n ≤ 24 then 1 else fSz x
theorem src_ex (h1 : 1 ≤ n) (h2 : n < 45) (hP : insP x n) (hm : I64 x.src.imm) (hk : x.src.kind ≠ 0) :
    ∃ t : List UInt8, t.length ≤ 130 ∧ S_impl_operandText ((tOpd x.src (), (zI x n, ())), ()) = some (t, ()) ∧ S_spec_l16Operand ((tOpd x.src (), (zS x n, ())), ()) = some (t, ()) := by
  have C := insP_com h1 h2 hP
  have hb := hP.2.2.2.2.2.2.2.2.1
  by_cases k3 : x.src.kind = 3
  · obtain ⟨a, b⟩ := opd_imm (z := zI x n) (z' := zS x n) hm k3
    exact ⟨_, by have := itoa_len hm; omega, a, b⟩
  · have hkr := opB_kind hb
    rcases C.sizes h1 h2 with ⟨e, hz⟩ | ⟨_, g1, g2, _⟩
    · by_cases hn : 20 ≤ n ∧ n ≤ 24
      · have b1 : opBo x.src 1 := by
          unfold sSz at hb
          rw [if_pos hn] at hb
          unfold opBo opB regX at hb ⊢
          rcases hb with g | g | g | g
          · exact .inl ⟨g.1, g.2.1, g.2.2.1, g.2.2.2.1, g.2.2.2.2.1, g.2.2.2.2.2.1, by have := g.2.2.2.2.2.2; omega⟩
          · exact .inr (.inl g)
          · exact .inr (.inr (.inl g))
          · exact .inr (.inr (.inr g))
        unfold zI zS
        rw [if_pos hn, if_pos hn]
        obtain ⟨a, b⟩ := opd_txt hm (.inl rfl) b1
        exact ⟨_, oT_len hm (.inl rfl) b1, a, b⟩
      · have e2 : sSz x n = fSz x := by unfold sSz fSz; rw [if_neg hn]
        rw [← e] at hb
        unfold zI zS
        rw [if_neg hn, if_neg hn, ← e2, ← e]
        obtain ⟨a, b⟩ := opd_txt hm hz hb
        exact ⟨_, oT_len hm hz hb, a, b⟩
    · omega
theorem dst_ex (h1 : 1 ≤ n) (h2 : n < 45) (hP : insP x n) (hm : I64 x.dst.imm) (hk : x.dst.kind ≠ 0) :
    ∃ t : List UInt8, t.length ≤ 130 ∧ S_impl_operandText ((tOpd x.dst (), (x.size, ())), ()) = some (t, ()) ∧ S_spec_l16Operand ((tOpd x.dst (), (x.size, ())), ()) = some (t, ()) := by
  have C := insP_com h1 h2 hP
  have hb := hP.2.2.2.2.2.2.2.1
  have hs := szL_ge C.sz
  have h0 : x.size ≠ 0 := fun e => hk (zero_kinds h2 h1 (e ▸ C.sz) C.any).1
  have hz : sizeP x.size := by unfold sizeP; omega
  obtain ⟨a, b⟩ := opd_txt hm hz hb
  exact ⟨_, oT_len hm hz hb, a, b⟩
theorem text_ex (h1 : 1 ≤ n) (h2 : n < 45) (h : x.op = n) (hP : insP x n) (hmd : I64 x.dst.imm) (hms : I64 x.src.imm) :
    ∃ t : List UInt8, S_impl_instrText ((x, ()), ()) = some (t, ()) ∧ S_spec_l16Instr ((x, ()), ()) = some (t, ()) := by
  have C := insP_com h1 h2 hP
  have hs := szL_ge C.sz
  have hdk := opB_kind hP.2.2.2.2.2.2.2.1
  have hsk := opB_kind hP.2.2.2.2.2.2.2.2.1
  obtain ⟨t, tl, t1, t2⟩ := name_ex h2 h ⟨hP.2.2.2.2.2.1, hP.2.2.2.2.2.2.1⟩ (fun m => by
    have hsz := C.sz
    have e : szK n = 1 := by rcases m with rfl | rfl <;> rfl
    rw [e] at hsz
    have : x.size = 2 ∨ x.size = 4 ∨ x.size = 8 := by simpa [szL] using hsz
    unfold sizeP; omega)
  obtain ⟨D, Dl, hD⟩ : ∃ D : List UInt8, D.length ≤ 130 ∧ (x.dst.kind ≠ 0 → S_impl_operandText ((tOpd x.dst (), (x.size, ())), ()) = some (D, ()) ∧ S_spec_l16Operand ((tOpd x.dst (), (x.size, ())), ()) = some (D, ())) := by
    by_cases hk : x.dst.kind = 0
    · exact ⟨[], by simp, fun g => absurd hk g⟩
    · obtain ⟨D, Dl, e1, e2⟩ := dst_ex h1 h2 hP hmd hk
      exact ⟨D, Dl, fun _ => ⟨e1, e2⟩⟩
  obtain ⟨S, Sl, hS⟩ : ∃ S : List UInt8, S.length ≤ 130 ∧ (x.src.kind ≠ 0 → S_impl_operandText ((tOpd x.src (), (zI x n, ())), ()) = some (S, ()) ∧ S_spec_l16Operand ((tOpd x.src (), (zS x n, ())), ()) = some (S, ())) := by
    by_cases hk : x.src.kind = 0
    · exact ⟨[], by simp, fun g => absurd hk g⟩
    · obtain ⟨D, Dl, e1, e2⟩ := src_ex h1 h2 hP hms hk
      exact ⟨D, Dl, fun _ => ⟨e1, e2⟩⟩
  have f1 : fits2 ([32] : List UInt8) D = true := smallF (by simp) (by omega)
  have f2 : fits2 t (appL [32] D) = true := smallF (by omega) (by simp [appL]; omega)
  obtain ⟨T, hT⟩ : ∃ T : List UInt8, T = if x.dst.kind = 0 then t else appL t (appL [32] D) := ⟨_, rfl⟩
  have Tl : T.length ≤ 200 := by
    rw [hT]; split
    · omega
    · simp [appL]; omega
  obtain ⟨U, hU⟩ : ∃ U : List UInt8, U = if x.dst.kind = 0 then T else appL T [44] := ⟨_, rfl⟩
  have Ul : U.length ≤ 201 := by
    rw [hU]; split
    · omega
    · simp [appL]; omega
  have f3 : fits2 T ([44] : List UInt8) = true := smallF (by omega) (by simp)
  have f4 : fits2 U ([32] : List UInt8) = true := smallF (by omega) (by simp)
  have f5 : fits2 (appL U [32]) S = true := smallF (by simp [appL]; omega) (by omega)
  have f6 : fits2 ([32] : List UInt8) S = true := smallF (by simp) (by omega)
  have f7 : fits2 U (appL [32] S) = true := smallF (by omega) (by simp [appL]; omega)
  refine ⟨if x.src.kind = 0 then T else appL (appL U [32]) S, ?_, ?_⟩
  · unfold S_impl_instrText
    rw [t1, bnd_s]
    refine (Ret.bnd (Q := fun y => y = Sum.inl ((T, ()), (tIns x (), ()))) ?_ ?_).eq
    · dsimp only
      by_cases hk : x.dst.kind = 0
      · rw [eq_t hk, notB_t, br_f]
        exact Ret.some (by rw [hT, if_pos hk])
      · rw [eq_f hk, notB_f, br_t, (hD hk).1, bnd_s]
        simp only [f1, f2, br_t]
        exact Ret.some (by rw [hT, if_neg hk])
    · rintro _ rfl
      rw [sumE_l, tI11]
      by_cases hk : x.src.kind = 0
      · rw [eq_t hk, br_t, if_pos hk]
        exact Ret.some rfl
      · rw [eq_f hk, br_f, if_neg hk]
        refine Ret.bnd (Q := fun y => y = Sum.inl ((U, ()), (tIns x (), ()))) ?_ ?_
        · show Ret (br (notB (eqI x.dst.kind 0)) _ _) _
          by_cases hd : x.dst.kind = 0
          · rw [eq_t hd, notB_t, br_f]
            exact Ret.some (by rw [hU, if_pos hd])
          · rw [eq_f hd, notB_f, br_t]
            dsimp only
            rw [f3, br_t]
            exact Ret.some (by rw [hU, if_neg hd])
        · rintro _ rfl
          rw [sumE_l, insT_tIns, srcSize_eq x h, bnd_s, tI1, h, isShift_eq, bnd_s]
          refine Ret.bnd (Q := fun y => y = Sum.inl ((U, (zI x n, ())), (tIns x (), ()))) ?_ ?_
          · unfold zI
            by_cases hn : 20 ≤ n ∧ n ≤ 24
            · rw [if_pos hn, decide_eq_true (by omega), br_t]; exact Ret.some rfl
            · rw [if_neg hn, decide_eq_false (by omega), br_f]; exact Ret.some rfl
          · rintro _ rfl
            rw [sumE_l, cpS, (hS hk).1]
            dsimp only
            rw [f4, br_t, bnd_s, f5, br_t]
            exact Ret.some rfl
  · unfold S_spec_l16Instr
    rw [t2, bnd_s, l05From_eq, bnd_s]
    dsimp only
    rw [l01In_within, h, within_dec, bnd_s]
    refine (Ret.bnd (Q := fun y => y = Sum.inl ((t, (zS x n, ())), (tIns x (), ()))) ?_ ?_).eq
    · unfold zS
      by_cases hn : 20 ≤ n ∧ n ≤ 24
      · rw [if_pos hn, decide_eq_true (by omega), br_t]; exact Ret.some rfl
      · rw [if_neg hn, decide_eq_false (by omega), br_f]; exact Ret.some rfl
    · rintro _ rfl
      rw [sumE_l, cpD, tI2]
      refine Ret.bnd (Q := fun y => y = Sum.inl ((T, (zS x n, ())), (tIns x (), ()))) ?_ ?_
      · show Ret (br (ltI 0 x.dst.kind) _ _) _
        by_cases hk : x.dst.kind = 0
        · rw [lt_f (by omega), br_f]
          exact Ret.some (by rw [hT, if_pos hk])
        · rw [lt_t (by omega), br_t, (hD hk).2, bnd_s]
          dsimp only
          rw [f1, br_t, f2, br_t]
          exact Ret.some (by rw [hT, if_neg hk])
      · rintro _ rfl
        rw [sumE_l, tI11]
        by_cases hk : x.src.kind = 0
        · rw [lt_f (by omega), br_f, if_pos hk]
          exact Ret.some rfl
        · rw [lt_t (by omega), br_t, if_neg hk]
          refine Ret.bnd (Q := fun y => y = Sum.inl ((U, (zS x n, ())), (tIns x (), ()))) ?_ ?_
          · show Ret (br (ltI 0 x.dst.kind) _ _) _
            by_cases hd : x.dst.kind = 0
            · rw [lt_f (by omega), br_f]
              exact Ret.some (by rw [hU, if_pos hd])
            · rw [lt_t (by omega), br_t]
              dsimp only
              rw [f3, br_t]
              exact Ret.some (by rw [hU, if_neg hd])
          · rintro _ rfl
            rw [sumE_l, cpS, (hS hk).2, bnd_s]
            dsimp only
            rw [f6, br_t, f7, br_t]
            exact Ret.some (by simp [appL])
/-- The law: InstrText returns what the reference's returns. -/
theorem pure_InstrText (y : VTL.Ty [.el .ins]) (h : VTL.wf [.el .ins] y) : S_laws_FnExactInstrText (y, ()) = some (true, ()) := by
  obtain ⟨x, _⟩ := y
  have hw : elWf .ins x := h.1
  obtain ⟨hdd, hdi, hsd, hsi⟩ : I64 x.dst.disp ∧ I64 x.dst.imm ∧ I64 x.src.disp ∧ I64 x.src.imm := by
    obtain ⟨_, _, _, _, _, _, _, _, _, ⟨n1, e1, w1⟩, ⟨n2, e2, w2⟩, _, _, _, _, _, ⟨n3, e3, w3⟩, ⟨n4, e4, w4⟩, _⟩ := hw
    have e1 : x.dst.disp = n1 := by injection e1
    have e2 : x.dst.imm = n2 := by injection e2
    have e3 : x.src.disp = n3 := by injection e3
    have e4 : x.src.imm = n4 := by injection e4
    rw [e1, e2, e3, e4]
    exact ⟨wf64 w1, wf64 w2, wf64 w3, wf64 w4⟩
  have hto : S_laws_toInstr ((x, ()), ()) = some (x, ()) := rfl
  unfold S_laws_FnExactInstrText
  rw [hto]
  simp only [bnd_s]
  unfold S_spec_InstrText S_impl_InstrText
  by_cases ho : 1 ≤ x.op ∧ x.op ≤ 44
  · obtain ⟨n, hn⟩ := Int.eq_ofNat_of_zero_le (show 0 ≤ x.op by omega)
    have h1 : 1 ≤ n := by omega
    have h2 : n < 45 := by omega
    rw [l05OK_eq x h1 h2 hn, InstrOK_eq x h1 h2 hn hdd hsd, bnd_s, bnd_s]
    dsimp only
    by_cases hP : insP x n
    · obtain ⟨t, e1, e2⟩ := text_ex h1 h2 hn hP hdi hsi
      rw [decide_eq_true hP, notB_t, br_f, br_f, e1, e2]
      simp only [bnd_s, eqS_iff.2 rfl, eq_t (rfl : (0 : Int) = 0), notB_t]
      rfl
    · rw [decide_eq_false hP, notB_f]
      rfl
  · obtain ⟨e1, e2⟩ := InstrOK_no x ho
    rw [e1, e2]
    rfl
end Go.Den.G
